import PyProof.Rows.All
import Wide.All
import OpenK.AllK
import Wide.FinOn
import HandS.ForMost
import HandS.ForExc
import HandS.Property
import HandS.Wide
import HandS.EndBits
import HandS.Style
import HandS.WordsList
import HandS.IsInst
import HandS.Codes
import HandS.SlotsOwn
import HandS.MakeKwOnly
import HandS.Conv
import HandS.NoneIn
import HandS.Exc
import HandS.ExcInit
import HandS.WordsExc
import KE.KExcIs
import HandS.ExcField
import HandS.ExcIs
import HandS.SortInts
import HandS.Deep
import PyProof.LongRange
import HandS.FStr
import HandS.Text
import HandS.Dict
import HandS.Iter
import HandS.SetKeys
import KE.KDictDisplayH
import PyProof.DictMoreH
import KE.KTupSum
import KE.SortData
import KE.DataCmp
import HandS.TupSets
import PyProof.Rows.SetFrom
import KE.DatumOrd
import HandS.SortKw
import HandS.SetFor
import HandS.More
import HandS.TupLen
import PySem.Challenge.RW_reststeps_k90_whole_all_that_comes_round
set_option Elab.async false
set_option linter.all false
set_option maxRecDepth 100000
set_option maxHeartbeats 2000000
/-! The tree layer: values as trees, defs as predicate transformers over environments of trees. -/
namespace TL
open PySem L2

/-- at a: an exception of the class at C, its dict at dx -/
def exC (a C dx : Addr) : HO := .ext fun h => ∃ (oe : Obj) (vs : Array Value), h.get? a = some oe ∧ oe.cls = .ref C ∧ oe.dict = some dx ∧ oe.data = .fields vs
/-- a value as a tree (dct: an exception, [its class] [its value]) -/
inductive D where
  | non | bl (b : Bool) | int (i : Int) | str (x : Str)
  | tup (xs : List D) | lst (xs : List D) | obj (c : Nat) (xs : List D) | dct (ks xs : List D) | dic (ks xs : List D) | ptr (a : Addr)

/-- the classes: where each stands, the names of its fields in order; what the top has written -/
structure CC where
  cl : Nat → Addr × List Str
  K : PySem.W.Frag
/-- a key of a dict as a tree -/
def keyD : Key → D
  | .inl i => .int i
  | .inr x => .str x
/-- a dict stands at a: the kind of its keys (tuples or not) and its keys, its values -/
def DctO (H : Hp) (a : Addr) (ks : List D) (vs : List V) : Prop :=
  (∃ kk : List Key, ks = .bl false :: kk.map keyD ∧ kk.length = vs.length ∧ kk.Nodup ∧ H a = some (.dK (kk.zip vs))) ∨
  (∃ kt : List (List Key), ks = .bl true :: kt.map (fun k => .tup (k.map keyD)) ∧ kt.length = vs.length ∧ kt.Nodup ∧ H a = some (.dT (kt.zip vs)))
/-- the same, or the dict is locked: read alone -/
def DctR (H : Hp) (a : Addr) (ks : List D) (vs : List V) : Prop :=
  (∃ kk : List Key, ks = .bl false :: kk.map keyD ∧ kk.length = vs.length ∧ kk.Nodup ∧ Rd H a (.dK (kk.zip vs))) ∨
  (∃ kt : List (List Key), ks = .bl true :: kt.map (fun k => .tup (k.map keyD)) ∧ kt.length = vs.length ∧ kt.Nodup ∧ Rd H a (.dT (kt.zip vs)))
theorem DctO.rd {H : Hp} {a : Addr} {ks : List D} {vs : List V} (r : DctO H a ks vs) : DctR H a ks vs := by
  rcases r with ⟨kk, h1, h2, h3, h4⟩ | ⟨kk, h1, h2, h3, h4⟩
  · exact .inl ⟨kk, h1, h2, h3, .inl h4⟩
  · exact .inr ⟨kk, h1, h2, h3, .inl h4⟩
theorem DctR.heap {H H' : Hp} {a : Addr} {ks : List D} {vs : List V} (r : DctR H a ks vs) (e : ∀ o, H a = some o → H' a = some o) : DctR H' a ks vs := by
  rcases r with ⟨kk, h1, h2, h3, h4⟩ | ⟨kk, h1, h2, h3, h4⟩
  · exact .inl ⟨kk, h1, h2, h3, h4.imp (e _) fun ⟨o, q⟩ => ⟨o, e _ q⟩⟩
  · exact .inr ⟨kk, h1, h2, h3, h4.imp (e _) fun ⟨o, q⟩ => ⟨o, e _ q⟩⟩
theorem DctO.heap {H H' : Hp} {a : Addr} {ks : List D} {vs : List V} (r : DctO H a ks vs) (e : ∀ o, H a = some o → H' a = some o) : DctO H' a ks vs := by
  rcases r with ⟨kk, h1, h2, h3, h4⟩ | ⟨kk, h1, h2, h3, h4⟩
  · exact .inl ⟨kk, h1, h2, h3, e _ h4⟩
  · exact .inr ⟨kk, h1, h2, h3, e _ h4⟩
theorem DctO.ob {H : Hp} {a : Addr} {ks : List D} {vs : List V} (r : DctO H a ks vs) : ∃ o, H a = some o ∧ Mut (some o) := by
  rcases r with ⟨kk, h1, h2, h3, h4⟩ | ⟨kk, h1, h2, h3, h4⟩
  · exact ⟨_, h4, trivial⟩
  · exact ⟨_, h4, trivial⟩
mutual
/-- the value v stands for the tree d, all its objects within G -/
def Rep (cc : CC) (G : Hp) : V → D → Prop
  | v, .non => v = .non
  | v, .bl b => v = .bl b
  | v, .int i => v = .int i
  | v, .str x => v = .str x
  | v, .ptr a => v = .ref a
  | v, .tup ds => ∃ a vs, v = .ref a ∧ G a = some (.tup vs) ∧ Reps cc G vs ds
  | v, .lst ds => ∃ a vs, v = .ref a ∧ SqL cc.K G a vs ∧ Reps cc G vs ds
  | v, .obj c ds => ∃ a dx vs, v = .ref a ∧ G a = some (.ins (cc.cl c).1 dx ((cc.cl c).2.zip vs)) ∧ vs.length ≤ (cc.cl c).2.length ∧ Reps cc G vs ds
  | v, .dct ks ds => ∃ (c : Nat) (a dx : Addr) (u : V), ks = [.int c] ∧ v = .ref a ∧ G a = some (exC a (cc.cl c).1 dx) ∧ G dx = some (.xd [("value", u)]) ∧ Reps cc G [u] ds
  | v, .dic ks ds => ∃ a vs, v = .ref a ∧ DctR G a ks vs ∧ Reps cc G vs ds
def Reps (cc : CC) (G : Hp) : List V → List D → Prop
  | vs, [] => vs = []
  | vs, d :: ds => ∃ v r, vs = v :: r ∧ Rep cc G v d ∧ Reps cc G r ds
end

def LE (G G' : Hp) : Prop := ∀ a o, G a = some o → G' a = some o
theorem LE.refl (G : Hp) : LE G G := fun _ _ h => h
theorem LE.trans {A B C : Hp} (h : LE A B) (k : LE B C) : LE A C := fun a o e => k a o (h a o e)
theorem LE.rd {G G' : Hp} (h : LE G G') {a : Addr} {o : HO} (r : Rd G a o) : Rd G' a o := by
  rcases r with r | ⟨u, r⟩
  · exact .inl (h _ _ r)
  · exact .inr ⟨u, h _ _ r⟩
theorem LE.sql {K : PySem.W.Frag} {G G' : Hp} (h : LE G G') {a : Addr} {xs : List V} (r : SqL K G a xs) : SqL K G' a xs := by
  rcases r with r | r
  · exact .inl (h.rd r)
  · exact .inr r
theorem LE.upd {G : Hp} {a : Addr} {o : HO} (h : G a = none) : LE G (upd G a o) := fun b u e => by
  rw [upd_ne (ne_of_none e h)]; exact e
mutual
theorem Rep.mono {cc : CC} {G G' : Hp} (h : LE G G') : ∀ {d : D} {v : V}, Rep cc G v d → Rep cc G' v d
  | .non, _, r => by unfold Rep at r ⊢; exact r
  | .bl _, _, r => by unfold Rep at r ⊢; exact r
  | .int _, _, r => by unfold Rep at r ⊢; exact r
  | .str _, _, r => by unfold Rep at r ⊢; exact r
  | .ptr _, _, r => by unfold Rep at r ⊢; exact r
  | .tup ds, _, r => by
    unfold Rep at r ⊢
    obtain ⟨a, vs, e, g, q⟩ := r
    exact ⟨a, vs, e, h _ _ g, Reps.mono h q⟩
  | .lst ds, _, r => by
    unfold Rep at r ⊢
    obtain ⟨a, vs, e, g, q⟩ := r
    exact ⟨a, vs, e, h.sql g, Reps.mono h q⟩
  | .obj c ds, _, r => by
    unfold Rep at r ⊢
    obtain ⟨a, dx, vs, e, g, l, q⟩ := r
    exact ⟨a, dx, vs, e, h _ _ g, l, Reps.mono h q⟩
  | .dct _ ds, _, r => by
    unfold Rep at r ⊢
    obtain ⟨c, a, dx, u, e1, e2, g1, g2, q⟩ := r
    exact ⟨c, a, dx, u, e1, e2, h _ _ g1, h _ _ g2, Reps.mono h q⟩
  | .dic _ ds, _, r => by
    unfold Rep at r ⊢
    obtain ⟨a, vs, e, g, q⟩ := r
    exact ⟨a, vs, e, g.heap fun o ho => h _ _ ho, Reps.mono h q⟩
theorem Reps.mono {cc : CC} {G G' : Hp} (h : LE G G') : ∀ {ds : List D} {vs : List V}, Reps cc G vs ds → Reps cc G' vs ds
  | [], _, r => by unfold Reps at r ⊢; exact r
  | d :: ds, _, r => by
    unfold Reps at r ⊢
    obtain ⟨v, q, e, a, b⟩ := r
    exact ⟨v, q, e, Rep.mono h a, Reps.mono h b⟩
end

section
variable {cc : CC} {G : Hp}
theorem Reps.nil : Reps cc G [] [] := by unfold Reps; rfl
theorem Reps.cons {v : V} {d : D} {vs : List V} {ds : List D} (a : Rep cc G v d) (b : Reps cc G vs ds) : Reps cc G (v :: vs) (d :: ds) := by
  unfold Reps; exact ⟨v, vs, rfl, a, b⟩
theorem Reps.inv_cons {vs : List V} {d : D} {ds : List D} (h : Reps cc G vs (d :: ds)) : ∃ v r, vs = v :: r ∧ Rep cc G v d ∧ Reps cc G r ds := by
  unfold Reps at h; exact h
theorem Reps.inv_nil {vs : List V} (h : Reps cc G vs []) : vs = [] := by unfold Reps at h; exact h
theorem Reps.length : ∀ {ds : List D} {vs : List V}, Reps cc G vs ds → vs.length = ds.length
  | [], _, h => by rw [h.inv_nil]; rfl
  | d :: ds, _, h => by obtain ⟨v, r, rfl, _, q⟩ := h.inv_cons; simp [Reps.length q]
theorem Reps.append : ∀ {ds es : List D} {vs us : List V}, Reps cc G vs ds → Reps cc G us es → Reps cc G (vs ++ us) (ds ++ es)
  | [], _, _, _, h, k => by rw [h.inv_nil]; exact k
  | d :: ds, _, _, _, h, k => by obtain ⟨v, r, rfl, a, q⟩ := h.inv_cons; exact Reps.cons a (Reps.append q k)
theorem Reps.get : ∀ {ds : List D} {vs : List V} {i : Nat} {d : D}, Reps cc G vs ds → ds[i]? = some d → ∃ v, vs[i]? = some v ∧ Rep cc G v d
  | [], _, _, _, _, e => by simp at e
  | _ :: _, _, 0, _, h, e => by
    obtain ⟨v, r, rfl, a, q⟩ := h.inv_cons
    simp at e; subst e
    exact ⟨v, rfl, a⟩
  | _ :: _, _, i + 1, _, h, e => by
    obtain ⟨v, r, rfl, a, q⟩ := h.inv_cons
    simp at e
    obtain ⟨u, e1, e2⟩ := Reps.get q e
    exact ⟨u, by simpa using e1, e2⟩
theorem Reps.get' : ∀ {ds : List D} {vs : List V} {i : Nat} {v : V}, Reps cc G vs ds → vs[i]? = some v → ∃ d, ds[i]? = some d ∧ Rep cc G v d
  | [], _, _, _, h, e => by rw [h.inv_nil] at e; simp at e
  | _ :: _, _, 0, _, h, e => by
    obtain ⟨v, r, rfl, a, q⟩ := h.inv_cons
    simp at e; subst e
    exact ⟨_, rfl, a⟩
  | _ :: _, _, i + 1, _, h, e => by
    obtain ⟨v, r, rfl, a, q⟩ := h.inv_cons
    simp at e
    obtain ⟨u, e1, e2⟩ := Reps.get' q e
    exact ⟨u, by simpa using e1, e2⟩
theorem Reps.set : ∀ {ds : List D} {vs : List V} (i : Nat) {v : V} {d : D}, Reps cc G vs ds → Rep cc G v d → Reps cc G (vs.set i v) (ds.set i d)
  | [], _, _, _, _, h, _ => by rw [h.inv_nil]; exact Reps.nil
  | _ :: _, _, 0, _, _, h, k => by
    obtain ⟨v, r, rfl, a, q⟩ := h.inv_cons
    exact Reps.cons k q
  | _ :: _, _, i + 1, _, _, h, k => by
    obtain ⟨v, r, rfl, a, q⟩ := h.inv_cons
    exact Reps.cons a (Reps.set i q k)
theorem Reps.take : ∀ {ds : List D} {vs : List V} (n : Nat), Reps cc G vs ds → Reps cc G (vs.take n) (ds.take n)
  | _, _, 0, _ => by simp; exact Reps.nil
  | [], _, _ + 1, h => by rw [h.inv_nil]; exact Reps.nil
  | _ :: _, _, n + 1, h => by
    obtain ⟨v, r, rfl, a, q⟩ := h.inv_cons
    exact Reps.cons a (Reps.take n q)
theorem Reps.drop : ∀ {ds : List D} {vs : List V} (n : Nat), Reps cc G vs ds → Reps cc G (vs.drop n) (ds.drop n)
  | _, _, 0, h => by simpa using h
  | [], _, _ + 1, h => by rw [h.inv_nil]; exact Reps.nil
  | _ :: _, _, n + 1, h => by
    obtain ⟨v, r, rfl, a, q⟩ := h.inv_cons
    exact Reps.drop n q
theorem Reps.reverse : ∀ {ds : List D} {vs : List V}, Reps cc G vs ds → Reps cc G vs.reverse ds.reverse
  | [], _, h => by rw [h.inv_nil]; exact Reps.nil
  | _ :: _, _, h => by
    obtain ⟨v, r, rfl, a, q⟩ := h.inv_cons
    rw [List.reverse_cons, List.reverse_cons]
    exact (Reps.reverse q).append (Reps.cons a Reps.nil)
end

/-- a slot of a def: nothing known; a value that may stand elsewhere too; a root that stands nowhere else (p: it is the caller's, handed in to be changed) -/
inductive Sl where
  | no | sh (d : D) | own (p : Bool) (a : Addr) (d : D)
abbrev REnv := List Sl
/-- what an expression gives: the value of a name; a value; a new root; a ghost (a root of no name, behind the frame); a value with new roots within -/
inductive Rv where
  | loc (i : Nat) | sh (d : D) | fr (a : Addr) (d : D) | gh (j : Nat) (a : Addr) | gx (as : List Addr) (cs : List D) (t : D)
def getL (ρ : REnv) (i : Nat) : D := match ρ[i]? with | some (.sh d) => d | some (.own _ _ d) => d | _ => .non
/-- the addresses of the roots that are known -/
def owns : REnv → List Addr
  | [] => []
  | .own _ a _ :: ρ => a :: owns ρ
  | _ :: ρ => owns ρ
def Rv.get (r : Rv) (ρ : REnv) : D := match r with | .loc i => getL ρ i | .sh d => d | .fr _ d => d | .gh j _ => getL ρ j | .gx _ _ t => t
def Rv.pend (r : Rv) : Rv := match r with | .fr _ d => .sh d | .gx _ _ t => .sh t | r => r
theorem Rv.get_pend (r : Rv) (ρ : REnv) : r.pend.get ρ = r.get ρ := by cases r <;> rfl
def bound (ρ : REnv) (i : Nat) : Prop := match ρ[i]? with | some (.sh _) => True | some (.own _ _ _) => True | _ => False

/-- what is wanted of an exception: its class, its value, the names -/
abbrev Xk := Nat → D → REnv → Prop
abbrev EW := Xk → REnv → (Rv → REnv → Prop) → Prop
abbrev TW := Xk → REnv → (Bool → REnv → Prop) → Prop
structure SK where
  nx : REnv → Prop
  rt : Rv → REnv → Prop
  bk : REnv → Prop := fun _ => False
  ct : REnv → Prop := fun _ => False
abbrev SW := Xk → REnv → SK → Prop
abbrev GW := D → REnv → (REnv → Prop) → Prop

/-- fixed through a def's run: where the classes stand, the heap and the known part of it at the entry, the arguments that may be changed -/
structure Zone where
  cc : CC
  H0 : Hp
  G0 : Hp
  mu : List Addr
  xk : Xk
  n : Nat

/-- the object at a is the root of d, its parts within G -/
def Root (cc : CC) (G H : Hp) (a : Addr) : D → Prop
  | .lst ds => ∃ vs, H a = some (.lst vs) ∧ Reps cc G vs ds
  | .obj c ds => ∃ dx vs, H a = some (.ins (cc.cl c).1 dx ((cc.cl c).2.zip vs)) ∧ vs.length ≤ (cc.cl c).2.length ∧ Reps cc G vs ds
  | .dic ks ds => ∃ vs, DctO H a ks vs ∧ Reps cc G vs ds
  | _ => False
def SlOk (cc : CC) (G H : Hp) (i : Nat) (σ : St) : Sl → Prop
  | .no => True
  | .sh d => ∃ v, σ[i]? = some (some v) ∧ Rep cc G v d
  | .own _ a d => (σ[i]? = some (some (.ref a)) ∨ σ.length ≤ i) ∧ Root cc G H a d
structure SR (Z : Zone) (ρ : REnv) (G : Hp) (σ : St) (H : Hp) : Prop where
  len : σ.length = Z.n ∧ Z.n ≤ ρ.length
  sub : LE G H
  slot : ∀ (i : Nat) (s : Sl), ρ[i]? = some s → SlOk Z.cc G H i σ s
  inj : ∀ (i j : Nat) (p q : Bool) (a : Addr) (d : D) (b : Addr) (e : D), ρ[i]? = some (.own p a d) → ρ[j]? = some (.own q b e) → i ≠ j → a ≠ b
  out : ∀ (i : Nat) (p : Bool) (a : Addr) (d : D), ρ[i]? = some (.own p a d) → G a = none
  ent : ∀ a o, Z.H0 a = some o → a ∉ Z.mu → H a = some o
  frs : ∀ (i : Nat) (p : Bool) (a : Addr) (d : D), ρ[i]? = some (.own p a d) → if p then a ∈ Z.mu else (Z.H0 a = none ∧ a ∉ Z.mu)
  gnew : ∀ a, G a ≠ none → Z.G0 a ≠ none ∨ Z.H0 a = none
  g0 : LE Z.G0 G
  mout : ∀ a ∈ Z.mu, G a = none
  mux : ∀ a ∈ Z.mu, H a ≠ none
/-- a new root at a -/
def FrOk (Z : Zone) (ρ : REnv) (G H : Hp) (a : Addr) (d : D) : Prop := Root Z.cc G H a d ∧ G a = none ∧ (∀ (i : Nat) (p : Bool) (b : Addr) (e : D), ρ[i]? = some (.own p b e) → b ≠ a) ∧ Z.H0 a = none ∧ a ∉ Z.mu
def RvOk (Z : Zone) (r : Rv) (ρ : REnv) (G : Hp) (σ : St) (H : Hp) (v : V) : Prop :=
  match r with
  | .loc i => σ[i]? = some (some v) ∧ bound ρ i
  | .sh d => Rep Z.cc G v d
  | .gh j a => v = .ref a ∧ ∃ p d, ρ[j]? = some (.own p a d)
  | .gx as cs t => as.Nodup ∧ as.length = cs.length ∧ Rep Z.cc G v t ∧ ∀ (i : Nat) (a : Addr) (d : D), as[i]? = some a → cs[i]? = some d → FrOk Z ρ G H a d
  | .fr a d => v = .ref a ∧ Root Z.cc G H a d ∧ G a = none ∧ (∀ (i : Nat) (p : Bool) (b : Addr) (e : D), ρ[i]? = some (.own p b e) → b ≠ a) ∧ Z.H0 a = none ∧ a ∉ Z.mu

theorem Root.mono {cc : CC} {G G' H : Hp} {a : Addr} {d : D} (h : LE G G') (r : Root cc G H a d) : Root cc G' H a d := by
  cases d <;> try exact r
  · obtain ⟨vs, e, q⟩ := r; exact ⟨vs, e, q.mono h⟩
  · obtain ⟨dx, vs, e, l, q⟩ := r; exact ⟨dx, vs, e, l, q.mono h⟩
  · obtain ⟨vs, e, q⟩ := r; exact ⟨vs, e, q.mono h⟩
/-- the root's object -/
theorem Root.ob {cc : CC} {G H : Hp} {a : Addr} {d : D} (r : Root cc G H a d) : ∃ o, H a = some o ∧ Mut (some o) := by
  cases d <;> try exact r.elim
  · obtain ⟨vs, e, q⟩ := r; exact ⟨_, e, trivial⟩
  · obtain ⟨dx, vs, e, l, q⟩ := r; exact ⟨_, e, trivial⟩
  · obtain ⟨vs, e, q⟩ := r; exact e.ob
theorem Root.heap {cc : CC} {G H H' : Hp} {a : Addr} {d : D} (r : Root cc G H a d) (e : ∀ o, H a = some o → H' a = some o) : Root cc G H' a d := by
  cases d <;> try exact r.elim
  · obtain ⟨vs, h, q⟩ := r; exact ⟨vs, e _ h, q⟩
  · obtain ⟨dx, vs, h, l, q⟩ := r; exact ⟨dx, vs, e _ h, l, q⟩
  · obtain ⟨vs, h, q⟩ := r; exact ⟨vs, h.heap e, q⟩
theorem Root.rep {cc : CC} {G H : Hp} {a : Addr} {d : D} (r : Root cc G H a d) (h : LE G H) : Rep cc H (.ref a) d := by
  cases d <;> try exact r.elim
  · obtain ⟨vs, e, q⟩ := r; unfold Rep; exact ⟨a, vs, rfl, SqL.of e, q.mono h⟩
  · obtain ⟨dx, vs, e, l, q⟩ := r; unfold Rep; exact ⟨a, dx, vs, rfl, e, l, q.mono h⟩
  · obtain ⟨vs, e, q⟩ := r; unfold Rep; exact ⟨a, vs, rfl, e.rd, q.mono h⟩
theorem Root.rep' {cc : CC} {G H : Hp} {a : Addr} {d : D} (r : Root cc G H a d) {o : HO} (ho : H a = some o) (n : G a = none) : Rep cc (upd G a o) (.ref a) d := by
  cases d <;> try exact r.elim
  · obtain ⟨vs, e, q⟩ := r; rw [ho] at e; cases e; unfold Rep; exact ⟨a, vs, rfl, SqL.of upd_same, q.mono (LE.upd n)⟩
  · obtain ⟨dx, vs, e, l, q⟩ := r; rw [ho] at e; cases e; unfold Rep; exact ⟨a, dx, vs, rfl, upd_same, l, q.mono (LE.upd n)⟩
  · obtain ⟨vs, e, q⟩ := r; unfold Rep; exact ⟨a, vs, rfl, e.rd.heap fun u hu => by rw [ho] at hu; cases hu; exact upd_same, q.mono (LE.upd n)⟩

theorem SlOk.mono {cc : CC} {G G' H : Hp} {i : Nat} {σ : St} {s : Sl} (h : LE G G') (r : SlOk cc G H i σ s) : SlOk cc G' H i σ s := by
  cases s with
  | no => trivial
  | sh d => obtain ⟨v, e, q⟩ := r; exact ⟨v, e, q.mono h⟩
  | own p a d => exact ⟨r.1, r.2.mono h⟩
end TL

namespace TL
open PySem L2

/-- v shows the tree d: its own object as it stands in H, its parts within G -/
def View (cc : CC) (G H : Hp) (v : V) : D → Prop
  | .non => v = .non
  | .bl b => v = .bl b
  | .int i => v = .int i
  | .str x => v = .str x
  | .ptr a => v = .ref a
  | .tup ds => ∃ a vs, v = .ref a ∧ H a = some (.tup vs) ∧ Reps cc G vs ds
  | .lst ds => ∃ a vs, v = .ref a ∧ SqL cc.K H a vs ∧ Reps cc G vs ds
  | .obj c ds => ∃ a dx vs, v = .ref a ∧ H a = some (.ins (cc.cl c).1 dx ((cc.cl c).2.zip vs)) ∧ vs.length ≤ (cc.cl c).2.length ∧ Reps cc G vs ds
  | .dct ks ds => ∃ (c : Nat) (a dx : Addr) (u : V), ks = [.int c] ∧ v = .ref a ∧ H a = some (exC a (cc.cl c).1 dx) ∧ H dx = some (.xd [("value", u)]) ∧ Reps cc G [u] ds
  | .dic ks ds => ∃ a vs, v = .ref a ∧ DctR H a ks vs ∧ Reps cc G vs ds
theorem View.of_rep {cc : CC} {G H : Hp} (h : LE G H) {v : V} {d : D} (r : Rep cc G v d) : View cc G H v d := by
  cases d <;> unfold Rep at r <;> try exact r
  · obtain ⟨a, vs, e, g, q⟩ := r; exact ⟨a, vs, e, h _ _ g, q⟩
  · obtain ⟨a, vs, e, g, q⟩ := r; exact ⟨a, vs, e, h.sql g, q⟩
  · obtain ⟨a, dx, vs, e, g, l, q⟩ := r; exact ⟨a, dx, vs, e, h _ _ g, l, q⟩
  · obtain ⟨c, a, dx, u, e1, e2, g1, g2, q⟩ := r; exact ⟨c, a, dx, u, e1, e2, h _ _ g1, h _ _ g2, q⟩
  · obtain ⟨a, vs, e, g, q⟩ := r; exact ⟨a, vs, e, g.heap fun o ho => h _ _ ho, q⟩
theorem View.of_root {cc : CC} {G H : Hp} {a : Addr} {d : D} (r : Root cc G H a d) : View cc G H (.ref a) d := by
  cases d <;> try exact r.elim
  · obtain ⟨vs, e, q⟩ := r; exact ⟨a, vs, rfl, SqL.of e, q⟩
  · obtain ⟨dx, vs, e, l, q⟩ := r; exact ⟨a, dx, vs, rfl, e, l, q⟩
  · obtain ⟨vs, e, q⟩ := r; exact ⟨a, vs, rfl, e.rd, q⟩

theorem own_in {σ : St} {i : Nat} {a : Addr} {v : V} (e : σ[i]? = some (some v)) (h : σ[i]? = some (some (.ref a)) ∨ σ.length ≤ i) : v = .ref a := by
  rcases h with h | h
  · rw [e] at h; cases h; rfl
  · rw [List.getElem?_eq_none h] at e; cases e
theorem own_at {σ : St} {i : Nat} {a : Addr} (hi : i < σ.length) (h : σ[i]? = some (some (.ref a)) ∨ σ.length ≤ i) : σ[i]? = some (some (.ref a)) := h.resolve_right (by omega)
theorem owns_set {σ : St} {i j : Nat} {x : Option V} {a : Addr} (hj : i ≠ j) (h : σ[i]? = some (some (.ref a)) ∨ σ.length ≤ i) : (σ.set j x)[i]? = some (some (.ref a)) ∨ (σ.set j x).length ≤ i := by
  rw [List.getElem?_set_ne (Ne.symm hj), List.length_set]; exact h
theorem owns_unset {σ : St} {i j : Nat} {x : Option V} {a : Addr} (hj : i ≠ j) (h : (σ.set j x)[i]? = some (some (.ref a)) ∨ (σ.set j x).length ≤ i) : σ[i]? = some (some (.ref a)) ∨ σ.length ≤ i := by
  rw [List.getElem?_set_ne (Ne.symm hj), List.length_set] at h; exact h
section
variable {Z : Zone} {ρ : REnv} {G H : Hp} {σ : St}
theorem FrOk.mono {ρ ρ' : REnv} {G G' H : Hp} {a : Addr} {d : D} (h : LE G G') (q : FrOk Z ρ G H a d) (ga : G' a = none) (hr : ∀ (i : Nat) (p : Bool) (b : Addr) (e : D), ρ'[i]? = some (.own p b e) → b ≠ a) : FrOk Z ρ' G' H a d :=
  ⟨q.1.mono h, ga, hr, q.2.2.2.1, q.2.2.2.2⟩
theorem SR.h0 (I : SR Z ρ G σ H) {p : Addr} (h : H p = none) : Z.H0 p = none ∧ p ∉ Z.mu := by
  have h2 : p ∉ Z.mu := fun m => I.mux p m h
  refine ⟨?_, h2⟩
  cases e : Z.H0 p with
  | none => rfl
  | some o => have := I.ent p o e h2; rw [h] at this; cases this
theorem SR.g (I : SR Z ρ G σ H) {p : Addr} (h : H p = none) : G p = none := by
  cases e : G p with
  | none => rfl
  | some o => have := I.sub p o e; rw [h] at this; cases this
theorem SR.own_ob (I : SR Z ρ G σ H) {i : Nat} {p : Bool} {a : Addr} {d : D} (h : ρ[i]? = some (.own p a d)) : Root Z.cc G H a d := (I.slot i _ h).2
theorem SR.own_ne (I : SR Z ρ G σ H) {i : Nat} {m : Bool} {a p : Addr} {d : D} (h : ρ[i]? = some (.own m a d)) (hp : H p = none) : a ≠ p := by
  obtain ⟨o, e, _⟩ := (I.own_ob h).ob
  exact ne_of_none e hp

/-- a new object, known -/
theorem SR.newG (I : SR Z ρ G σ H) {p : Addr} {o : HO} (hp : H p = none) : SR Z ρ (upd G p o) σ (upd H p o) := by
  have gp := I.g hp
  obtain ⟨z0, zm⟩ := I.h0 hp
  have hle : LE H (upd H p o) := LE.upd hp
  refine ⟨I.len, fun a u e => ?_, fun i s e => ?_, I.inj, fun i m a d e => ?_, fun a u e hm => hle _ _ (I.ent a u e hm), I.frs, fun a ha => ?_, fun a u e => ?_, fun a ha => ?_, fun a ha => ?_⟩
  · by_cases h : a = p
    · subst h; rw [upd_same] at e ⊢; exact e
    · rw [upd_ne h] at e ⊢; exact I.sub a u e
  · have q := I.slot i s e
    cases s with
    | no => trivial
    | sh d => obtain ⟨v, e1, r⟩ := q; exact ⟨v, e1, r.mono (LE.upd gp)⟩
    | own m a d => exact ⟨q.1, (q.2.mono (LE.upd gp)).heap fun u hu => hle _ _ hu⟩
  · rw [upd_ne (I.own_ne e hp)]; exact I.out i m a d e
  · by_cases h : a = p
    · subst h; exact .inr z0
    · rw [upd_ne h] at ha; exact I.gnew a ha
  · exact (LE.upd gp) _ _ (I.g0 a u e)
  · have : a ≠ p := fun h => zm (h ▸ ha)
    rw [upd_ne this]; exact I.mout a ha
  · have : a ≠ p := fun h => zm (h ▸ ha)
    rw [upd_ne this]; exact I.mux a ha
/-- a new object, not known -/
theorem SR.newH (I : SR Z ρ G σ H) {p : Addr} {o : HO} (hp : H p = none) : SR Z ρ G σ (upd H p o) := by
  have gp := I.g hp
  obtain ⟨z0, zm⟩ := I.h0 hp
  have hle : LE H (upd H p o) := LE.upd hp
  refine ⟨I.len, fun a u e => hle _ _ (I.sub a u e), fun i s e => ?_, I.inj, I.out, fun a u e hm => hle _ _ (I.ent a u e hm), I.frs, I.gnew, I.g0, I.mout, fun a ha => ?_⟩
  · have q := I.slot i s e
    cases s with
    | no => trivial
    | sh d => exact q
    | own m a d => exact ⟨q.1, q.2.heap fun u hu => hle _ _ hu⟩
  · have : a ≠ p := fun h => zm (h ▸ ha)
    rw [upd_ne this]; exact I.mux a ha
/-- an object that stands, not an own one: known from now on -/
theorem SR.know (I : SR Z ρ G σ H) {p : Addr} {o : HO} (hp : H p = some o) (hg : G p = none) (ho : ∀ (i : Nat) (m : Bool) (b : Addr) (e : D), ρ[i]? = some (.own m b e) → b ≠ p) (h0 : Z.H0 p = none) (hm : p ∉ Z.mu) : SR Z ρ (upd G p o) σ H := by
  refine ⟨I.len, fun a u e => ?_, fun i s e => (I.slot i s e).mono (LE.upd hg), I.inj, fun i m a d e => ?_, I.ent, I.frs, fun a ha => ?_, fun a u e => (LE.upd hg) _ _ (I.g0 a u e), fun a ha => ?_, I.mux⟩
  · by_cases h : a = p
    · subst h; rw [upd_same] at e; cases e; exact hp
    · rw [upd_ne h] at e; exact I.sub a u e
  · rw [upd_ne (ho i m a d e)]; exact I.out i m a d e
  · by_cases h : a = p
    · subst h; exact .inr h0
    · rw [upd_ne h] at ha; exact I.gnew a ha
  · have : a ≠ p := fun h => hm (h ▸ ha)
    rw [upd_ne this]; exact I.mout a ha
/-- a new root is given up to what is known -/
theorem SR.freeze (I : SR Z ρ G σ H) {r : Rv} {v : V} (q : RvOk Z r ρ G σ H v) : ∃ G', LE G G' ∧ SR Z ρ G' σ H ∧ RvOk Z r.pend ρ G' σ H v := by
  cases r with
  | loc i => exact ⟨G, LE.refl G, I, q⟩
  | sh d => exact ⟨G, LE.refl G, I, q⟩
  | gh j a => exact ⟨G, LE.refl G, I, q⟩
  | gx as cs t => exact ⟨G, LE.refl G, I, q.2.2.1⟩
  | fr a d =>
    obtain ⟨rfl, rt, ga, ho, z0, zm⟩ := q
    obtain ⟨o, e, _⟩ := rt.ob
    exact ⟨upd G a o, LE.upd ga, I.know e ga ho z0 zm, rt.rep' e ga⟩
theorem RvOk.view (I : SR Z ρ G σ H) {r : Rv} {v : V} (q : RvOk Z r ρ G σ H v) : View Z.cc G H v (r.get ρ) := by
  cases r with
  | loc i =>
    obtain ⟨e, hb⟩ := q
    unfold bound at hb
    show View _ _ _ _ (getL ρ i)
    unfold getL
    cases hs : ρ[i]? with
    | none => rw [hs] at hb; exact hb.elim
    | some s =>
      have so := I.slot i s hs
      cases s with
      | no => rw [hs] at hb; exact hb.elim
      | sh d =>
        obtain ⟨u, eu, r⟩ := so
        rw [e] at eu; cases eu
        exact View.of_rep I.sub r
      | own m a d =>
        obtain ⟨eu, r⟩ := so
        cases own_in e eu
        exact View.of_root r
  | sh d => exact View.of_rep (d := d) I.sub q
  | gh j a =>
    obtain ⟨rfl, p, d, hs⟩ := q
    show View _ _ _ _ (getL ρ j)
    unfold getL
    rw [hs]
    exact View.of_root (I.slot j _ hs).2
  | gx as cs t => exact View.of_rep (d := t) I.sub q.2.2.1
  | fr a d => obtain ⟨rfl, rt, _⟩ := q; exact View.of_root rt
theorem RvOk.repH (I : SR Z ρ G σ H) {r : Rv} {v : V} (q : RvOk Z r ρ G σ H v) : Rep Z.cc H v (r.get ρ) := by
  cases r with
  | loc i =>
    obtain ⟨e, hb⟩ := q
    unfold bound at hb
    show Rep _ _ _ (getL ρ i)
    unfold getL
    cases hs : ρ[i]? with
    | none => rw [hs] at hb; exact hb.elim
    | some s =>
      have so := I.slot i s hs
      cases s with
      | no => rw [hs] at hb; exact hb.elim
      | sh d =>
        obtain ⟨u, eu, r⟩ := so
        rw [e] at eu; cases eu
        exact r.mono I.sub
      | own m a d =>
        obtain ⟨eu, r⟩ := so
        cases own_in e eu
        exact r.rep I.sub
  | sh d => exact Rep.mono (d := d) I.sub q
  | gh j a =>
    obtain ⟨rfl, p, d, hs⟩ := q
    show Rep _ _ _ (getL ρ j)
    unfold getL
    rw [hs]
    exact (I.slot j _ hs).2.rep I.sub
  | gx as cs t => exact Rep.mono (d := t) I.sub q.2.2.1
  | fr a d => obtain ⟨rfl, rt, _⟩ := q; exact rt.rep I.sub

theorem get_set {ρ : REnv} {i j : Nat} {s t : Sl} (h : (ρ.set i s)[j]? = some t) : (j = i ∧ t = s) ∨ (j ≠ i ∧ ρ[j]? = some t) := by
  by_cases e : i = j
  · subst e
    rw [List.getElem?_set] at h
    simp only [if_true] at h
    split at h
    · exact .inl ⟨rfl, (Option.some.inj h).symm⟩
    · cases h
  · rw [List.getElem?_set_ne e] at h
    exact .inr ⟨fun z => e z.symm, h⟩
/-- an own root becomes a value that is known -/
theorem SR.leak (I : SR Z ρ G σ H) {i : Nat} {a : Addr} {d : D} (h : ρ[i]? = some (.own false a d)) (es : σ[i]? = some (some (.ref a))) : ∃ G', LE G G' ∧ SR Z (ρ.set i (.sh d)) G' σ H ∧ Rep Z.cc G' (.ref a) d := by
  obtain ⟨_, rt⟩ := I.slot i _ h
  obtain ⟨o, e, _⟩ := rt.ob
  have ga := I.out i false a d h
  obtain ⟨z0, hm⟩ : Z.H0 a = none ∧ a ∉ Z.mu := I.frs i false a d h
  have rp := rt.rep' e ga
  refine ⟨upd G a o, LE.upd ga, ⟨by simpa using I.len, fun b u q => ?_, fun j s q => ?_, fun j k m n b x c y q1 q2 hn => ?_, fun j m b x q => ?_, I.ent, fun j m b x q => ?_, fun b hb => ?_, fun b u q => (LE.upd ga) _ _ (I.g0 b u q), fun b hb => ?_, I.mux⟩, rp⟩
  · by_cases hh : b = a
    · subst hh; rw [upd_same] at q; cases q; exact e
    · rw [upd_ne hh] at q; exact I.sub b u q
  · rcases get_set q with ⟨rfl, rfl⟩ | ⟨hj, q⟩
    · exact ⟨_, es, rp⟩
    · exact (I.slot j s q).mono (LE.upd ga)
  · rcases get_set q1 with ⟨_, q1⟩ | ⟨_, q1⟩
    · cases q1
    · rcases get_set q2 with ⟨_, q2⟩ | ⟨_, q2⟩
      · cases q2
      · exact I.inj j k m n b x c y q1 q2 hn
  · rcases get_set q with ⟨_, q⟩ | ⟨hj, q⟩
    · cases q
    · rw [upd_ne (I.inj j i m false b x a d q h hj)]; exact I.out j m b x q
  · rcases get_set q with ⟨_, q⟩ | ⟨hj, q⟩
    · cases q
    · exact I.frs j m b x q
  · by_cases hh : b = a
    · subst hh; exact .inr z0
    · rw [upd_ne hh] at hb; exact I.gnew b hb
  · have : b ≠ a := fun h => hm (h ▸ hb)
    rw [upd_ne this]; exact I.mout b hb

/-- a value that is stored somewhere: a root of a name's own is given up -/
def stl (r : Rv) (ρ : REnv) (K : D → REnv → Prop) : Prop :=
  match r with
  | .loc i => match ρ[i]? with
    | some (.sh d) => K d ρ
    | some (.own false _ d) => K d (ρ.set i (.sh d))
    | _ => False
  | .sh d => K d ρ
  | .fr _ d => K d ρ
  | .gh _ a => K (.ptr a) ρ
  | .gx _ _ _ => False
theorem SR.settle (I : SR Z ρ G σ H) {r : Rv} {v : V} {K : D → REnv → Prop} (q : RvOk Z r ρ G σ H v) (h : stl r ρ K) : ∃ d ρ' G', LE G G' ∧ SR Z ρ' G' σ H ∧ Rep Z.cc G' v d ∧ K d ρ' ∧ ∀ i, bound ρ i → bound ρ' i := by
  cases r with
  | loc i =>
    obtain ⟨e, hb⟩ := q
    unfold stl at h
    cases hs : ρ[i]? with
    | none => simp only [hs] at h
    | some s =>
      simp only [hs] at h
      cases s with
      | no => exact h.elim
      | sh d =>
        obtain ⟨u, eu, r⟩ := I.slot i _ hs
        rw [e] at eu; cases eu
        exact ⟨d, ρ, G, LE.refl G, I, r, h, fun _ z => z⟩
      | own m a d =>
        cases m with
        | true => exact h.elim
        | false =>
          obtain ⟨eu, _⟩ := I.slot i _ hs
          cases own_in e eu
          obtain ⟨G', l, I', r⟩ := I.leak hs e
          refine ⟨d, _, G', l, I', r, h, fun j hj => ?_⟩
          unfold bound at hj ⊢
          by_cases hji : i = j
          · subst hji
            obtain ⟨hlt, _⟩ := List.getElem?_eq_some_iff.mp hs
            rw [List.getElem?_set_self hlt]
            trivial
          · rw [List.getElem?_set_ne hji]; exact hj
  | sh d => exact ⟨d, ρ, G, LE.refl G, I, q, h, fun _ z => z⟩
  | gh j a => exact ⟨.ptr a, ρ, G, LE.refl G, I, by unfold Rep; exact q.1, h, fun _ z => z⟩
  | gx as cs t => exact h.elim
  | fr a d =>
    obtain ⟨G', l, I', r⟩ := I.freeze q
    exact ⟨d, ρ, G', l, I', r, h, fun _ z => z⟩

/-- a slot is stored -/
theorem SR.put (I : SR Z ρ G σ H) {i : Nat} {v : V} {d : D} (hi : i < σ.length) (r : Rep Z.cc G v d) : SR Z (ρ.set i (.sh d)) G (σ.set i (some v)) H := by
  refine ⟨by simpa using I.len, I.sub, fun j s q => ?_, fun j k m n b x c y q1 q2 hn => ?_, fun j m b x q => ?_, I.ent, fun j m b x q => ?_, I.gnew, I.g0, I.mout, I.mux⟩
  · rcases get_set q with ⟨rfl, rfl⟩ | ⟨hj, q⟩
    · exact ⟨v, by rw [List.getElem?_set_self hi], r⟩
    · have so := I.slot j s q
      cases s with
      | no => trivial
      | sh d => obtain ⟨u, eu, ru⟩ := so; exact ⟨u, by rw [List.getElem?_set_ne (Ne.symm hj)]; exact eu, ru⟩
      | own m a d => exact ⟨owns_set hj so.1, so.2⟩
  · rcases get_set q1 with ⟨_, q1⟩ | ⟨_, q1⟩
    · cases q1
    · rcases get_set q2 with ⟨_, q2⟩ | ⟨_, q2⟩
      · cases q2
      · exact I.inj j k m n b x c y q1 q2 hn
  · rcases get_set q with ⟨_, q⟩ | ⟨hj, q⟩
    · cases q
    · exact I.out j m b x q
  · rcases get_set q with ⟨_, q⟩ | ⟨hj, q⟩
    · cases q
    · exact I.frs j m b x q
theorem SR.putNo (I : SR Z ρ G σ H) {i : Nat} {v : Option V} : SR Z (ρ.set i .no) G (σ.set i v) H := by
  refine ⟨by simpa using I.len, I.sub, fun j s q => ?_, fun j k m n b x c y q1 q2 hn => ?_, fun j m b x q => ?_, I.ent, fun j m b x q => ?_, I.gnew, I.g0, I.mout, I.mux⟩
  · rcases get_set q with ⟨rfl, rfl⟩ | ⟨hj, q⟩
    · trivial
    · have so := I.slot j s q
      cases s with
      | no => trivial
      | sh d => obtain ⟨u, eu, ru⟩ := so; exact ⟨u, by rw [List.getElem?_set_ne (Ne.symm hj)]; exact eu, ru⟩
      | own m a d => exact ⟨owns_set hj so.1, so.2⟩
  · rcases get_set q1 with ⟨_, q1⟩ | ⟨_, q1⟩
    · cases q1
    · rcases get_set q2 with ⟨_, q2⟩ | ⟨_, q2⟩
      · cases q2
      · exact I.inj j k m n b x c y q1 q2 hn
  · rcases get_set q with ⟨_, q⟩ | ⟨hj, q⟩
    · cases q
    · exact I.out j m b x q
  · rcases get_set q with ⟨_, q⟩ | ⟨hj, q⟩
    · cases q
    · exact I.frs j m b x q
/-- a slot gets a new root -/
theorem SR.putFr (I : SR Z ρ G σ H) {i : Nat} {a : Addr} {d : D} (hi : i < σ.length) (r : RvOk Z (.fr a d) ρ G σ H (.ref a)) : SR Z (ρ.set i (.own false a d)) G (σ.set i (some (.ref a))) H := by
  obtain ⟨_, rt, ga, ho, z0, zm⟩ := r
  refine ⟨by simpa using I.len, I.sub, fun j s q => ?_, fun j k m n b x c y q1 q2 hn => ?_, fun j m b x q => ?_, I.ent, fun j m b x q => ?_, I.gnew, I.g0, I.mout, I.mux⟩
  · rcases get_set q with ⟨rfl, rfl⟩ | ⟨hj, q⟩
    · exact ⟨Or.inl (by rw [List.getElem?_set_self hi]), rt⟩
    · have so := I.slot j s q
      cases s with
      | no => trivial
      | sh d => obtain ⟨u, eu, ru⟩ := so; exact ⟨u, by rw [List.getElem?_set_ne (Ne.symm hj)]; exact eu, ru⟩
      | own m a d => exact ⟨owns_set hj so.1, so.2⟩
  · rcases get_set q1 with ⟨e1, q1⟩ | ⟨_, q1⟩
    · cases q1
      rcases get_set q2 with ⟨e2, q2⟩ | ⟨_, q2⟩
      · exact absurd (e1.trans e2.symm) hn
      · exact (ho k n c y q2).symm
    · rcases get_set q2 with ⟨_, q2⟩ | ⟨_, q2⟩
      · cases q2; exact ho j m b x q1
      · exact I.inj j k m n b x c y q1 q2 hn
  · rcases get_set q with ⟨_, q⟩ | ⟨hj, q⟩
    · cases q; exact ga
    · exact I.out j m b x q
  · rcases get_set q with ⟨_, q⟩ | ⟨hj, q⟩
    · cases q; exact ⟨z0, zm⟩
    · exact I.frs j m b x q
/-- the object of a root of a name's own is changed -/
theorem SR.write (I : SR Z ρ G σ H) {i : Nat} {m : Bool} {a : Addr} {d d' : D} {o : HO} (h : ρ[i]? = some (.own m a d)) (rt : Root Z.cc G (upd H a o) a d') : SR Z (ρ.set i (.own m a d')) G σ (upd H a o) := by
  have ga := I.out i m a d h
  obtain ⟨es, r0⟩ := I.slot i _ h
  refine ⟨by simpa using I.len, fun b u q => ?_, fun j s q => ?_, fun j k m1 n b x c y q1 q2 hn => ?_, fun j m1 b x q => ?_, fun b u q hm => ?_, fun j m1 b x q => ?_, I.gnew, I.g0, I.mout, fun b hb => ?_⟩
  · rw [upd_ne (ne_of_none q ga)]; exact I.sub b u q
  · rcases get_set q with ⟨rfl, rfl⟩ | ⟨hj, q⟩
    · exact ⟨es, rt⟩
    · have so := I.slot j s q
      cases s with
      | no => trivial
      | sh d => exact so
      | own m1 b x => exact ⟨so.1, so.2.heap fun u hu => by rw [upd_ne (I.inj j i m1 m b x a d q h hj)]; exact hu⟩
  · rcases get_set q1 with ⟨e1, q1⟩ | ⟨h1, q1⟩
    · cases q1
      rcases get_set q2 with ⟨e2, q2⟩ | ⟨h2, q2⟩
      · exact absurd (e1.trans e2.symm) hn
      · exact I.inj i k _ n a d c y h q2 (Ne.symm h2)
    · rcases get_set q2 with ⟨_, q2⟩ | ⟨_, q2⟩
      · cases q2; exact I.inj j i m1 _ b x a d q1 h h1
      · exact I.inj j k m1 n b x c y q1 q2 hn
  · rcases get_set q with ⟨_, q⟩ | ⟨hj, q⟩
    · cases q; exact ga
    · exact I.out j m1 b x q
  · have := I.frs i m a d h
    have : b ≠ a := by
      rintro rfl
      cases m with
      | true => exact hm this
      | false => rw [this.1] at q; cases q
    rw [upd_ne this]; exact I.ent b u q hm
  · rcases get_set q with ⟨e1, q⟩ | ⟨hj, q⟩
    · cases q; exact I.frs i m a d h
    · exact I.frs j m1 b x q
  · by_cases hh : b = a
    · subst hh; rw [upd_same]; simp
    · rw [upd_ne hh]; exact I.mux b hb
/-- the roots that are known, with their trees -/
def gP : REnv → List (Addr × D)
  | [] => []
  | .own _ a d :: ρ => (a, d) :: gP ρ
  | _ :: ρ => gP ρ
mutual
/-- with the roots of L seen through, d reads e -/
inductive Vw (L : List (Addr × D)) : D → D → Prop
  | self (d : D) : Vw L d d
  | ptr {a : Addr} {d e : D} : (a, d) ∈ L → Vw L d e → Vw L (.ptr a) e
  | tup {ds es : List D} : Vws L ds es → Vw L (.tup ds) (.tup es)
  | lst {ds es : List D} : Vws L ds es → Vw L (.lst ds) (.lst es)
  | obj {c : Nat} {ds es : List D} : Vws L ds es → Vw L (.obj c ds) (.obj c es)
  | dic {ks ds es : List D} : Vws L ds es → Vw L (.dic ks ds) (.dic ks es)
inductive Vws (L : List (Addr × D)) : List D → List D → Prop
  | nil : Vws L [] []
  | cons {d e : D} {ds es : List D} : Vw L d e → Vws L ds es → Vws L (d :: ds) (e :: es)
end
mutual
theorem Vw.sound {cc : CC} {L : List (Addr × D)} {G H : Hp} (le : LE G H) (hL : ∀ a d, (a, d) ∈ L → Root cc G H a d) : ∀ {d e : D}, Vw L d e → ∀ v : V, Rep cc G v d → Rep cc H v e
  | _, _, .self d, v, r => r.mono le
  | _, _, .ptr (a := a) (d := d) (e := e) hm q, v, r => by
    unfold Rep at r
    subst r
    have rt := hL _ _ hm
    cases q with
    | self => exact rt.rep le
    | ptr h2 q2 => exact rt.elim
    | tup q2 => exact rt.elim
    | lst q2 =>
      obtain ⟨vs, e1, rs⟩ := rt
      unfold Rep
      exact ⟨a, vs, rfl, SqL.of e1, Vws.sound le hL q2 vs rs⟩
    | obj q2 =>
      obtain ⟨dx, vs, e1, l, rs⟩ := rt
      unfold Rep
      exact ⟨a, dx, vs, rfl, e1, l, Vws.sound le hL q2 vs rs⟩
    | dic q2 =>
      obtain ⟨vs, e1, rs⟩ := rt
      unfold Rep
      exact ⟨a, vs, rfl, e1.rd, Vws.sound le hL q2 vs rs⟩
  | _, _, .tup q, v, r => by
    unfold Rep at r ⊢
    obtain ⟨a, vs, e, g, rs⟩ := r
    exact ⟨a, vs, e, le _ _ g, Vws.sound le hL q vs rs⟩
  | _, _, .lst q, v, r => by
    unfold Rep at r ⊢
    obtain ⟨a, vs, e, g, rs⟩ := r
    exact ⟨a, vs, e, le.sql g, Vws.sound le hL q vs rs⟩
  | _, _, .obj q, v, r => by
    unfold Rep at r ⊢
    obtain ⟨a, dx, vs, e, g, l, rs⟩ := r
    exact ⟨a, dx, vs, e, le _ _ g, l, Vws.sound le hL q vs rs⟩
  | _, _, .dic q, v, r => by
    unfold Rep at r ⊢
    obtain ⟨a, vs, e, g, rs⟩ := r
    exact ⟨a, vs, e, g.heap fun o ho => le _ _ ho, Vws.sound le hL q vs rs⟩
theorem Vws.sound {cc : CC} {L : List (Addr × D)} {G H : Hp} (le : LE G H) (hL : ∀ a d, (a, d) ∈ L → Root cc G H a d) : ∀ {ds es : List D}, Vws L ds es → ∀ vs : List V, Reps cc G vs ds → Reps cc H vs es
  | _, _, .nil, vs, r => by rw [r.inv_nil]; exact Reps.nil
  | _, _, .cons h q, vs, r => by
    obtain ⟨v, us, rfl, rv, rr⟩ := r.inv_cons
    exact Reps.cons (Vw.sound le hL h v rv) (Vws.sound le hL q us rr)
end
/-- new roots behind the slots -/
def ghs (as : List Addr) (ds : List D) : REnv := List.zipWith (Sl.own false) as ds
theorem owns_mem {a : Addr} : ∀ {ρ : REnv}, a ∈ owns ρ ↔ ∃ (i : Nat) (p : Bool) (d : D), ρ[i]? = some (Sl.own p a d)
  | [] => by simp [owns]
  | s :: ρ => by
    have ih := owns_mem (a := a) (ρ := ρ)
    have tl : (∃ (i : Nat) (p : Bool) (d : D), ρ[i]? = some (Sl.own p a d)) → ∃ (i : Nat) (p : Bool) (d : D), (s :: ρ)[i]? = some (Sl.own p a d) := fun ⟨i, p, d, h⟩ => ⟨i + 1, p, d, by simpa using h⟩
    have un : ∀ {P : Prop}, (∀ (p : Bool) (d : D), s = Sl.own p a d → P) → ((∃ (i : Nat) (p : Bool) (d : D), ρ[i]? = some (Sl.own p a d)) → P) → (∃ (i : Nat) (p : Bool) (d : D), (s :: ρ)[i]? = some (Sl.own p a d)) → P := fun {P} h1 h2 ⟨i, p, d, h⟩ => by
      cases i with
      | zero => exact h1 p d (by simpa using h)
      | succ i => exact h2 ⟨i, p, d, by simpa using h⟩
    cases s with
    | no => exact ⟨fun h => tl (ih.mp h), un (fun _ _ h => by cases h) ih.mpr⟩
    | sh d => exact ⟨fun h => tl (ih.mp h), un (fun _ _ h => by cases h) ih.mpr⟩
    | own m b e =>
      constructor
      · intro h
        rcases List.mem_cons.mp h with rfl | h
        · exact ⟨0, m, e, rfl⟩
        · exact tl (ih.mp h)
      · exact un (fun _ _ h => by cases h; exact List.mem_cons_self) fun h => List.mem_cons_of_mem _ (ih.mpr h)
theorem ghs_get {as : List Addr} {ds : List D} {k : Nat} {s : Sl} (h : (ghs as ds)[k]? = some s) : ∃ a d, as[k]? = some a ∧ ds[k]? = some d ∧ s = .own false a d := by
  unfold ghs at h
  rw [List.getElem?_zipWith] at h
  cases ha : as[k]? with
  | none => simp [ha] at h
  | some a =>
    cases hd : ds[k]? with
    | none => simp [ha, hd] at h
    | some d => simp [ha, hd] at h; exact ⟨a, d, rfl, rfl, h.symm⟩
theorem app_get {ρ τ : REnv} {i : Nat} {s : Sl} (h : (ρ ++ τ)[i]? = some s) : (i < ρ.length ∧ ρ[i]? = some s) ∨ ∃ k, i = ρ.length + k ∧ τ[k]? = some s := by
  by_cases hi : i < ρ.length
  · rw [List.getElem?_append_left hi] at h; exact .inl ⟨hi, h⟩
  · rw [List.getElem?_append_right (by omega)] at h; exact .inr ⟨_, by omega, h⟩
theorem nodup_ne {as : List Addr} (h : as.Nodup) {i j : Nat} {a b : Addr} (hi : as[i]? = some a) (hj : as[j]? = some b) (hn : i ≠ j) : a ≠ b := by
  rintro rfl
  obtain ⟨hi1, hi2⟩ := List.getElem?_eq_some_iff.mp hi
  obtain ⟨hj1, hj2⟩ := List.getElem?_eq_some_iff.mp hj
  have p := List.pairwise_iff_getElem.mp h
  rcases Nat.lt_or_gt_of_ne hn with z | z
  · exact p i j hi1 hj1 z (hi2.trans hj2.symm)
  · exact p j i hj1 hi1 z (hj2.trans hi2.symm)
/-- new roots stand behind the slots from now on -/
theorem SR.addGs (I : SR Z ρ G σ H) {as : List Addr} {ds : List D} (nd : as.Nodup) (h : ∀ (i : Nat) (a : Addr) (d : D), as[i]? = some a → ds[i]? = some d → FrOk Z ρ G H a d) : SR Z (ρ ++ ghs as ds) G σ H := by
  have len := I.len
  refine ⟨⟨len.1, by rw [List.length_append]; omega⟩, I.sub, fun j s q => ?_, fun j k m n b x c y q1 q2 hn => ?_, fun j m b x q => ?_, I.ent, fun j m b x q => ?_, I.gnew, I.g0, I.mout, I.mux⟩
  · rcases app_get q with ⟨_, q⟩ | ⟨k, ek, q'⟩
    · exact I.slot j s q
    · obtain ⟨a, d, ha, hd, rfl⟩ := ghs_get q'
      exact ⟨.inr (by omega), (h k _ _ ha hd).1⟩
  · rcases app_get q1 with ⟨_, q1⟩ | ⟨k1, ek1, q1'⟩
    · rcases app_get q2 with ⟨_, q2⟩ | ⟨k2, ek2, q2'⟩
      · exact I.inj j k m n b x c y q1 q2 hn
      · obtain ⟨a, d, ha, hd, e⟩ := ghs_get q2'
        cases e
        exact (h k2 _ _ ha hd).2.2.1 j m b x q1
    · obtain ⟨a, d, ha, hd, e⟩ := ghs_get q1'
      cases e
      rcases app_get q2 with ⟨_, q2⟩ | ⟨k2, ek2, q2'⟩
      · exact ((h k1 _ _ ha hd).2.2.1 k n c y q2).symm
      · obtain ⟨a2, d2, ha2, hd2, e⟩ := ghs_get q2'
        cases e
        exact nodup_ne nd ha ha2 (by omega)
  · rcases app_get q with ⟨_, q⟩ | ⟨k, ek, q'⟩
    · exact I.out j m b x q
    · obtain ⟨a, d, ha, hd, e⟩ := ghs_get q'
      cases e
      exact (h k _ _ ha hd).2.1
  · rcases app_get q with ⟨_, q⟩ | ⟨k, ek, q'⟩
    · exact I.frs j m b x q
    · obtain ⟨a, d, ha, hd, e⟩ := ghs_get q'
      cases e
      exact (h k _ _ ha hd).2.2.2
end
end TL

namespace TL
open PySem L2

/-- an expression's reading over trees, as a reading of the layer below -/
def T (Z : Zone) (w : EW) : TE := fun σ H Q => ∃ ρ G K, SR Z ρ G σ H ∧ w Z.xk ρ K ∧
  ∀ r ρ' v H' G', LE G G' → SR Z ρ' G' σ H' → RvOk Z r ρ' G' σ H' v → K r ρ' → Q v H'
def Tt (Z : Zone) (w : TW) : TT := fun σ H Q => ∃ ρ G K, SR Z ρ G σ H ∧ w Z.xk ρ K ∧
  ∀ b ρ' H' G', LE G G' → SR Z ρ' G' σ H' → K b ρ' → Q b H'
abbrev DW := Xk → REnv → (List D → REnv → Prop) → Prop
def Ta (Z : Zone) (w : DW) : TA := fun σ H Q => ∃ ρ G K, SR Z ρ G σ H ∧ w Z.xk ρ K ∧
  ∀ ds ρ' vs H' G', LE G G' → SR Z ρ' G' σ H' → Reps Z.cc G' vs ds → K ds ρ' → Q vs H'

section
variable {X : Cx} {Z : Zone} {a b e : Expr} {wa wb : EW} {pos : Pos}

/-! ### names, constants -/
def eLoc (i : Nat) : EW := fun _ ρ K => bound ρ i ∧ K (.loc i) ρ
def eC (d : D) : EW := fun _ ρ K => K (.sh d) ρ
theorem bound_get {ρ : REnv} {G H : Hp} {σ : St} (I : SR Z ρ G σ H) {i : Nat} (hi : i < σ.length) (h : bound ρ i) : ∃ v, σ[i]? = some (some v) := by
  unfold bound at h
  cases hs : ρ[i]? with
  | none => rw [hs] at h; exact h.elim
  | some s =>
    have so := I.slot i s hs
    cases s with
    | no => rw [hs] at h; exact h.elim
    | sh d => exact ⟨_, so.choose_spec.1⟩
    | own m p d => exact ⟨_, own_at hi so.1⟩
theorem lt_len {X : Cx} {pins : List (Addr × Obj)} {σ : L2.St} {H : Hp} {s : Shared} {i : Nat} {x : Str} (I : L2.Inv X pins σ H s) (hi : X.N[i]? = some x) : i < σ.length := by
  rw [I.len]; exact (List.getElem?_eq_some_iff.mp hi).1
theorem de_loc (i : Nat) {x : Str} {pos : Pos} (hN : X.N[i]? = some x := by rfl) (hv : Vis X.env.scope x := by first | exact Or.inl rfl | exact Or.inr (Or.inl rfl) | exact Or.inr (Or.inr rfl)) (hd : (x == ("__debug__" : Str)) = false := by decide)
    (hcd : (x == ("__classdict__" : Str)) = false := by decide) : PE X (.Name x pos) (T Z (eLoc i)) :=
  ⟨fun pins s σ H Q I ⟨ρ, G, K, IR, ⟨hb, hk⟩, q⟩ => by
    obtain ⟨v, e⟩ := bound_get IR (lt_len I hN) hb
    exact (pv i hN hv hd hcd).run pins s σ H Q I ⟨v, e, q (.loc i) _ v H G (LE.refl G) IR ⟨e, hb⟩ hk⟩⟩
theorem T.const {v : V} {d : D} (hr : ∀ G, Rep Z.cc G v d) (h : PE X e (tC v)) : PE X e (T Z (eC d)) :=
  ⟨fun pins s σ H Q I ⟨ρ, G, K, IR, hk, q⟩ => h.run pins s σ H Q I (q (.sh d) _ v H G (LE.refl G) IR (hr G) hk)⟩
theorem de_int {i j pos} : PE X (.Constant (.int i) j pos) (T Z (eC (.int i))) := T.const (v := .int i) (fun _ => by unfold Rep; rfl) pe_int
theorem de_bl {b j pos} : PE X (.Constant (.bool b) j pos) (T Z (eC (.bl b))) := T.const (v := .bl b) (fun _ => by unfold Rep; rfl) pe_bl
theorem de_non {j pos} : PE X (.Constant .none j pos) (T Z (eC .non)) := T.const (v := .non) (fun _ => by unfold Rep; rfl) pe_non
/-! ### two operands -/
/-- a first operand that is a name is still known -/
def pok (r : Rv) (ρ : REnv) : Prop := match r with | .loc i => bound ρ i | .gh j a => ∃ p d, ρ[j]? = some (.own p a d) | _ => True
theorem T.two {ρ : REnv} {G H : Hp} {σ : L2.St} {R : Rv → Rv → REnv → Prop} (I : SR Z ρ G σ H) (hw : wa Z.xk ρ fun r1 ρ1 => wb Z.xk ρ1 fun r2 ρ2 => pok r1 ρ2 ∧ R r1 r2 ρ2) :
    T Z wa σ H fun x H1 => T Z wb σ H1 fun y H2 => ∃ r1 r2 ρ2 G2, LE G G2 ∧ SR Z ρ2 G2 σ H2 ∧ RvOk Z r1.pend ρ2 G2 σ H2 x ∧ RvOk Z r2 ρ2 G2 σ H2 y ∧ R r1 r2 ρ2 := by
  refine ⟨ρ, G, _, I, hw, fun r1 ρ1 x H1 G1 le1 I1 q1 k1 => ?_⟩
  obtain ⟨G1', le, I1', q1'⟩ := I1.freeze q1
  refine ⟨ρ1, G1', _, I1', k1, fun r2 ρ2 y H2 G2 le2 I2 q2 k2 => ⟨r1, r2, ρ2, G2, (le1.trans le).trans le2, I2, ?_, q2, k2.2⟩⟩
  have pk := k2.1
  cases r1 with
  | loc i => exact ⟨q1'.1, pk⟩
  | sh d => exact Rep.mono (d := d) le2 q1'
  | fr a d => exact Rep.mono (d := d) le2 q1'
  | gh j a => exact ⟨q1'.1, pk⟩
  | gx as cs t => exact Rep.mono (d := t) le2 q1'

/-- what an operation gives: a value, or a new root -/
inductive Ro where
  | sh (d : D) | fr (d : D) | gx (as : List Addr) (cs : List D) (t : D)
/-- how the result of an operation lies -/
def Fin (cc : CC) (G H : Hp) (Q : VK) : Ro → Prop
  | .sh d => (∀ v, Rep cc G v d → Q v H) ∧ ∀ p o, H p = none → Rep cc (upd G p o) (.ref p) d → Q (.ref p) (upd H p o)
  | .fr d => ∀ p o, H p = none → Root cc G (upd H p o) p d → Q (.ref p) (upd H p o)
  | .gx _ _ _ => True
/-- a result is handed on -/
def out (o : Ro) (ρ : REnv) (K : Rv → REnv → Prop) : Prop := match o with
  | .sh d => K (.sh d) ρ
  | .fr d => ∀ a, K (.fr a d) ρ
  | .gx as cs t => as.Nodup → (∀ a ∈ as, a ∉ owns ρ) → K (.sh t) (ρ ++ ghs as cs)
abbrev OW := (Ro → Prop) → Prop
theorem T.fin {ρ : REnv} {G G0 H : Hp} {σ : L2.St} {K : Rv → REnv → Prop} {Q : VK} {o : Ro} (I : SR Z ρ G σ H) (le : LE G0 G) (hk : out o ρ K)
    (q : ∀ r ρ' v H' G', LE G0 G' → SR Z ρ' G' σ H' → RvOk Z r ρ' G' σ H' v → K r ρ' → Q v H') : Fin Z.cc G H Q o := by
  cases o with
  | sh d => exact ⟨fun v r => q (.sh d) ρ v H G le I r hk, fun p o hp r => q (.sh d) ρ _ _ _ (le.trans (LE.upd (I.g hp))) (I.newG hp) r hk⟩
  | fr d =>
    refine fun p o hp r => q (.fr p d) ρ _ _ G le (I.newH hp) ⟨rfl, r, I.g hp, fun i m b e h => I.own_ne h hp, (I.h0 hp).1, (I.h0 hp).2⟩ (hk p)
  | gx n t cs => exact trivial

/-- a binary operation over trees, told by one over values -/
def OpS (cc : CC) (op : D → D → OW) (r : R2) : Prop := ∀ (G H : Hp) (x y : V) (d e : D) (k : Ro → Prop) (Q : VK), LE G H → View cc G H x d → View cc G H y e → Rep cc H x d → Rep cc H y e →
  op d e k → (∀ o, k o → Fin cc G H Q o) → r x y H Q
def eBin (op : D → D → OW) (wa wb : EW) : EW := fun xk ρ K => wa xk ρ fun r1 ρ1 => wb xk ρ1 fun r2 ρ2 => pok r1 ρ2 ∧ op (r1.get ρ2) (r2.get ρ2) fun o => out o ρ2 K
theorem T.bin {op : D → D → OW} {r : R2} (hs : OpS Z.cc op r) {σ : L2.St} {H : Hp} {Q : VK} (h : T Z (eBin op wa wb) σ H Q) : tOp r (T Z wa) (T Z wb) σ H Q := by
  obtain ⟨ρ, G, K, I, hw, q⟩ := h
  obtain ⟨ρ', G', K', I', hw', q'⟩ := T.two (R := fun r1 r2 ρ2 => op (r1.get ρ2) (r2.get ρ2) fun o => out o ρ2 K) I hw
  refine ⟨ρ', G', K', I', hw', fun r1 ρ1 x H1 G1 le1 I1 q1 k1 => ?_⟩
  obtain ⟨ρ1', G1', K1', I1', hw1', q1'⟩ := q' r1 ρ1 x H1 G1 le1 I1 q1 k1
  refine ⟨ρ1', G1', K1', I1', hw1', fun r2 ρ2 y H2 G2 le2 I2 q2 k2 => ?_⟩
  obtain ⟨s1, s2, ρ3, G3, le3, I3, v1, v2, ho⟩ := q1' r2 ρ2 y H2 G2 le2 I2 q2 k2
  have e1 := v1.view I3
  have e1' := v1.repH I3
  rw [Rv.get_pend] at e1 e1'
  exact hs G3 H2 x y _ _ _ Q I3.sub e1 (v2.view I3) e1' (v2.repH I3) ho fun o ho => T.fin I3 le3 ho q
end
end TL

namespace TL
open PySem L2

/-- t is a reading of what w says -/
def Via (Z : Zone) (t : TE) (w : EW) : Prop := ∀ σ H Q, T Z w σ H Q → t σ H Q
theorem pvia {X : Cx} {Z : Zone} {e : Expr} {t : TE} {w : EW} (h : PE X e t) (v : Via Z t w) : PE X e (T Z w) :=
  ⟨fun pins s σ H Q I q => h.run pins s σ H Q I (v σ H Q q)⟩

/-! ### operations by the trees' forms -/
def MulOk (i j : Int) : Prop := i.natAbs.log2 + j.natAbs.log2 < 100000000
theorem MulOk.ok {i j : Int} (h : MulOk i j) : IntMulOk i j := by
  have b : ∀ x : Int, Builtin.Int.intBits x ≤ x.natAbs.log2 + 1 := fun x => by
    unfold Builtin.Int.intBits
    split <;> omega
  have h1 := b i
  have h2 := b j
  have h3 : i.natAbs.log2 + j.natAbs.log2 < 100000000 := h
  have e : bitsLine = 134217728 := by decide
  unfold IntMulOk
  intro z
  rw [Bool.and_eq_true] at z
  have z2 := z.2
  unfold Builtin.Int.intTooBig at z2
  have z3 := of_decide_eq_true z2
  rw [e] at z3
  omega
def DivOk (j : Int) : Prop := 0 < j ∧ j.natAbs.log2 < 9000
def DivOkN (j : Int) : Prop := j ≠ 0 ∧ j.natAbs.log2 < 9000
section
variable {X : Cx}
theorem op_mulX : OpR X (binaryOp .Mult) (rI MulOk fun i j => .int (i * j)) := opI fun _ _ _ _ _ _ _ hc q => PyProof.Rows.mul_int q hc.ok
theorem op_fdvX : OpR X (binaryOp .FloorDiv) (rI (fun _ j => DivOk j) fun i j => .int (i / j)) := op_fdivW
def rCatR (K : PySem.W.Frag) : R2 := fun x y H Q => ∃ l b xs zs, x = .ref l ∧ y = .ref b ∧ SqL K H l xs ∧ SqL K H b zs ∧ xs.length + zs.length ≤ sizeLine ∧ ∀ p, H p = none → Q (.ref p) (upd H p (.lst (xs ++ zs)))
theorem op_catR : OpR X (binaryOp .Add) (rCatR X.K) := by
  intro pins s σ H x y v u Q I rx ry h
  obtain ⟨l, b, xs, zs, rfl, rfl, hH, hB, hz, q⟩ := h
  cases rx
  cases ry
  obtain ⟨its, r, ⟨⟨cls, dd, data, sl⟩, n, ho, hc, hd0, hd⟩, z⟩ := I.list hH
  obtain ⟨its2, r2, ⟨⟨cls2, dd2, data2, sl2⟩, n2, ho2, hc2, hd20, hd2⟩, z2⟩ := I.list hB
  simp only at hc hd hc2 hd2
  subst hc hd hc2 hd2
  have hl := r.length
  have hl2 := r2.length
  have ea : its.toArray ++ its2.toArray = (its ++ its2).toArray := by simp
  refine PySem.concat_meets ⟨_, ho, rfl⟩ ⟨_, ho2, rfl⟩ noFill_list_add seq_list_add PySem.F.slot_list_add PySem.F.entry_list_add (PySem.F.args_list_add_2 _ _) (PyProof.Rows.list_addW l b its.toArray its2.toArray n n2 dd dd2 sl sl2 (by rw [List.size_toArray, List.size_toArray]; omega)) ⟨ho, ho2, ?_⟩
  rw [ea]
  exact ⟨.ref _, _, I.lnew (t' := s.toks) (r.append r2) (by rw [List.length_append]; omega), rfl, q _ I.fresh⟩
end

def opAdd : D → D → OW
  | .int i, .int j => fun k => k (.sh (.int (i + j)))
  | .str i, .str j => fun k => i.length + j.length ≤ sizeLine ∧ k (.sh (.str (i ++ j)))
  | .lst i, .lst j => fun k => i.length + j.length ≤ sizeLine ∧ k (.fr (.lst (i ++ j)))
  | _, _ => fun _ => False
def opSub : D → D → OW
  | .int i, .int j => fun k => k (.sh (.int (i - j)))
  | _, _ => fun _ => False
def opMul : D → D → OW
  | .int i, .int j => fun k => MulOk i j ∧ k (.sh (.int (i * j)))
  | _, _ => fun _ => False
def opFdv : D → D → OW
  | .int i, .int j => fun k => DivOk j ∧ k (.sh (.int (i / j)))
  | _, _ => fun _ => False
def opFdvN : D → D → OW
  | .int i, .int j => fun k => DivOkN j ∧ k (.sh (.int (i.fdiv j)))
  | _, _ => fun _ => False
def opMod : D → D → OW
  | .int i, .int j => fun k => 0 < j ∧ k (.sh (.int (i % j)))
  | _, _ => fun _ => False
def opModN : D → D → OW
  | .int i, .int j => fun k => j ≠ 0 ∧ k (.sh (.int (i.fmod j)))
  | _, _ => fun _ => False
def opPow : D → D → OW
  | .int i, .int j => fun k => CPow i j ∧ k (.sh (.int (i ^ j.toNat)))
  | _, _ => fun _ => False
def opLt : D → D → OW
  | .int i, .int j => fun k => k (.sh (.bl (decide (i < j))))
  | _, _ => fun _ => False
def opLe : D → D → OW
  | .int i, .int j => fun k => k (.sh (.bl (decide (i ≤ j))))
  | _, _ => fun _ => False
def opGt : D → D → OW
  | .int i, .int j => fun k => k (.sh (.bl (decide (j < i))))
  | _, _ => fun _ => False
def opGe : D → D → OW
  | .int i, .int j => fun k => k (.sh (.bl (decide (j ≤ i))))
  | _, _ => fun _ => False

section
variable {cc : CC}
theorem rep_int {G : Hp} {i : Int} : Rep cc G (.int i) (.int i) := by unfold Rep; rfl
theorem rep_bl {G : Hp} {i : Bool} : Rep cc G (.bl i) (.bl i) := by unfold Rep; rfl
theorem rep_str {G : Hp} {i : Str} : Rep cc G (.str i) (.str i) := by unfold Rep; rfl
theorem rv_sh {Z : Zone} {ρ : REnv} {G H : Hp} {σ : L2.St} {v : V} {d : D} (h : Rep Z.cc G v d) : RvOk Z (.sh d) ρ G σ H v := h
theorem rep_non {G : Hp} : Rep cc G .non .non := by unfold Rep; rfl
theorem ops_int {op : D → D → OW} {C : Int → Int → Prop} {g : Int → Int → V} {f : Int → Int → D} (h : ∀ d e k, op d e k → ∃ i j, d = .int i ∧ e = .int j ∧ C i j ∧ k (.sh (f i j))) (hr : ∀ G i j, Rep cc G (g i j) (f i j)) : OpS cc op (rI C g) := by
  intro G H x y d e k Q le v1 v2 _ _ ho fin
  obtain ⟨i, j, rfl, rfl, c, hk⟩ := h d e k ho
  exact ⟨i, j, v1, v2, c, (fin _ hk).1 _ (hr G i j)⟩
theorem ops_int0 {op : D → D → OW} {g : Int → Int → V} {f : Int → Int → D} (h : ∀ d e k, op d e k → ∃ i j, d = .int i ∧ e = .int j ∧ k (.sh (f i j))) (hr : ∀ G i j, Rep cc G (g i j) (f i j)) : OpS cc op (rI0 g) := by
  intro G H x y d e k Q le v1 v2 _ _ ho fin
  obtain ⟨i, j, rfl, rfl, hk⟩ := h d e k ho
  exact ⟨i, j, v1, v2, (fin _ hk).1 _ (hr G i j)⟩
theorem ops_sub : OpS cc opSub (rI0 fun i j => .int (i - j)) := ops_int0 (f := fun i j => .int (i - j)) (fun d e k h => by unfold opSub at h; split at h <;> first | exact h.elim | exact ⟨_, _, rfl, rfl, h⟩) fun _ _ _ => rep_int
theorem ops_lt : OpS cc opLt (rI0 fun i j => .bl (decide (i < j))) := ops_int0 (f := fun i j => .bl (decide (i < j))) (fun d e k h => by unfold opLt at h; split at h <;> first | exact h.elim | exact ⟨_, _, rfl, rfl, h⟩) fun _ _ _ => rep_bl
theorem ops_le : OpS cc opLe (rI0 fun i j => .bl (decide (i ≤ j))) := ops_int0 (f := fun i j => .bl (decide (i ≤ j))) (fun d e k h => by unfold opLe at h; split at h <;> first | exact h.elim | exact ⟨_, _, rfl, rfl, h⟩) fun _ _ _ => rep_bl
theorem ops_gt : OpS cc opGt (rI0 fun i j => .bl (decide (j < i))) := ops_int0 (f := fun i j => .bl (decide (j < i))) (fun d e k h => by unfold opGt at h; split at h <;> first | exact h.elim | exact ⟨_, _, rfl, rfl, h⟩) fun _ _ _ => rep_bl
theorem ops_ge : OpS cc opGe (rI0 fun i j => .bl (decide (j ≤ i))) := ops_int0 (f := fun i j => .bl (decide (j ≤ i))) (fun d e k h => by unfold opGe at h; split at h <;> first | exact h.elim | exact ⟨_, _, rfl, rfl, h⟩) fun _ _ _ => rep_bl
theorem ops_mul : OpS cc opMul (rI MulOk fun i j => .int (i * j)) := ops_int (f := fun i j => .int (i * j)) (fun d e k h => by unfold opMul at h; split at h <;> first | exact h.elim | exact ⟨_, _, rfl, rfl, h⟩) fun _ _ _ => rep_int
theorem ops_fdv : OpS cc opFdv (rI (fun _ j => DivOk j) fun i j => .int (i / j)) := ops_int (f := fun i j => .int (i / j)) (fun d e k h => by unfold opFdv at h; split at h <;> first | exact h.elim | exact ⟨_, _, rfl, rfl, h⟩) fun _ _ _ => rep_int
theorem ops_mod : OpS cc opMod (rI (fun _ j => 0 < j) fun i j => .int (i % j)) := ops_int (f := fun i j => .int (i % j)) (fun d e k h => by unfold opMod at h; split at h <;> first | exact h.elim | exact ⟨_, _, rfl, rfl, h⟩) fun _ _ _ => rep_int
theorem ops_modN : OpS cc opModN (rI (fun _ j => j ≠ 0) fun i j => .int (i.fmod j)) := ops_int (f := fun i j => .int (i.fmod j)) (fun d e k h => by unfold opModN at h; split at h <;> first | exact h.elim | exact ⟨_, _, rfl, rfl, h⟩) fun _ _ _ => rep_int
theorem ops_pow : OpS cc opPow (rI CPow fun i j => .int (i ^ j.toNat)) := ops_int (f := fun i j => .int (i ^ j.toNat)) (fun d e k h => by unfold opPow at h; split at h <;> first | exact h.elim | exact ⟨_, _, rfl, rfl, h⟩) fun _ _ _ => rep_int
abbrev rAddS : R2 := fun x y H Q => ∃ i j, x = .str i ∧ y = .str j ∧ i.length + j.length ≤ sizeLine ∧ Q (.str (i ++ j)) H
def rAddA (K : PySem.W.Frag) : R2 := fun x y H Q => rI0 (fun i j => .int (i + j)) x y H Q ∨ rAddS x y H Q ∨ rCatR K x y H Q
theorem op_addA {X : Cx} : OpR X (binaryOp .Add) (rAddA X.K) := op_add.or (op_add_str.or op_catR)
theorem ops_add {K : PySem.W.Frag} (hK : cc.K = K) : OpS cc opAdd (rAddA K) := by
  subst hK
  intro G H x y d e k Q le v1 v2 _ _ ho fin
  unfold opAdd at ho
  split at ho
  · exact .inl ⟨_, _, v1, v2, (fin _ ho).1 _ rep_int⟩
  · exact .inr (.inl ⟨_, _, v1, v2, ho.1, (fin _ ho.2).1 _ rep_str⟩)
  · obtain ⟨a, vs, ea, ra, qa⟩ := v1
    obtain ⟨b, us, eb, rb, qb⟩ := v2
    refine .inr (.inr ⟨a, b, vs, us, ea, eb, ra, rb, ?_, fun p hp => ?_⟩)
    · rw [qa.length, qb.length]; exact ho.1
    · exact (fin _ ho.2) p _ hp ⟨_, upd_same, qa.append qb⟩
  · exact ho.elim
end

section
variable {X : Cx} {Z : Zone} {a b e : Expr} {wa wb w : EW} {pos : Pos}
theorem via_bin {op : D → D → OW} {r : R2} (hs : OpS Z.cc op r) : Via Z (tOp r (T Z wa) (T Z wb)) (eBin op wa wb) := fun σ H Q h => T.bin hs h
theorem de_bin {o : Operator} {op : D → D → OW} {r : R2} (hr : OpR X (binaryOp o) r) (hs : OpS Z.cc op r) (ha : PE X a (T Z wa)) (hb : PE X b (T Z wb)) : PE X (.BinOp a o b pos) (T Z (eBin op wa wb)) := pvia (pe_op hr ha hb) (via_bin hs)
theorem de_cmp {o : CmpOp} {op : D → D → OW} {r : R2} (hr : OpR X (compareOp o) r) (hs : OpS Z.cc op r) (ha : PE X a (T Z wa)) (hb : PE X b (T Z wb)) (hm : behindInMarks o b = false) : PE X (.Compare a [o] [b] pos) (T Z (eBin op wa wb)) := pvia (pe_cmpR hr ha hb hm) (via_bin hs)

/-! ### one operand -/
def OpS1 (cc : CC) (op : D → OW) (r : V → Hp → VK → Prop) : Prop := ∀ (G H : Hp) (x : V) (d : D) (k : Ro → Prop) (Q : VK), LE G H → View cc G H x d → Rep cc H x d → op d k → (∀ o, k o → Fin cc G H Q o) → r x H Q
def eUn (op : D → OW) (wa : EW) : EW := fun xk ρ K => wa xk ρ fun r ρ1 => op (r.get ρ1) fun o => out o ρ1 K
theorem via_un {op : D → OW} {r : V → Hp → VK → Prop} (hs : OpS1 Z.cc op r) : Via Z (fun σ H Q => T Z wa σ H fun x H1 => r x H1 Q) (eUn op wa) := fun σ H Q ⟨ρ, G, K, I, hw, q⟩ =>
  ⟨ρ, G, _, I, hw, fun r1 ρ1 x H1 G1 le1 I1 q1 k1 => hs G1 H1 x _ _ Q I1.sub (q1.view I1) (q1.repH I1) k1 fun o ho => T.fin I1 le1 ho q⟩
theorem de_un {o : UnaryOp} {op : D → OW} {r : V → Hp → VK → Prop} (hr : UnR X (unaryOp o) r) (hs : OpS1 Z.cc op r) (ha : PE X a (T Z wa)) : PE X (.UnaryOp o a pos) (T Z (eUn op wa)) := pvia (pe_un hr ha) (via_un hs)
def opNeg : D → OW
  | .int i => fun k => k (.sh (.int (-i)))
  | _ => fun _ => False
theorem ops_neg {cc : CC} : OpS1 cc opNeg (rU fun i => .int (-i)) := by
  intro G H x d k Q le v1 _ ho fin
  unfold opNeg at ho
  split at ho
  · exact ⟨_, v1, (fin _ ho).1 _ rep_int⟩
  · exact ho.elim
theorem de_neg (ha : PE X a (T Z wa)) : PE X (.UnaryOp .USub a pos) (T Z (eUn opNeg wa)) := de_un un_neg ops_neg ha

/-! ### tests -/
def tVal (w : EW) : TW := fun xk ρ K => w xk ρ fun r ρ' => match r.get ρ' with | .bl b => K b ρ' | _ => False
theorem Tt.val {t : TE} (v : Via Z t w) {σ : L2.St} {H : Hp} {Q : Bool → Hp → Prop} (h : Tt Z (tVal w) σ H Q) : t σ H fun x H' => ∃ k, x = .bl k ∧ Q k H' := by
  obtain ⟨ρ, G, K, I, hw, q⟩ := h
  refine v σ H _ ⟨ρ, G, _, I, hw, fun r ρ' x H' G' le I' q' k => ?_⟩
  have vw := q'.view I'
  cases hd : r.get ρ' <;> simp only [hd] at k
  all_goals try exact k.elim
  rename_i c
  rw [hd] at vw
  exact ⟨c, vw, q c ρ' H' G' le I' k⟩
theorem dt_val (h : PE X e (T Z w)) (he : ∀ whole, isTrue e X.env whole = (do let v ← whole; standAt e.pos; holding [v] (truthy v)) := by intro _; rfl) : PT X e (Tt Z (tVal w)) :=
  ⟨fun pins s σ H Q I q => (pt_val h he).run pins s σ H Q I (Tt.val (t := T Z w) (fun _ _ _ z => z) q)⟩
theorem dt_cmp {o : CmpOp} {op : D → D → OW} {r : R2} (hr : OpR X (compareOp o) r) (hs : OpS Z.cc op r) (ha : PE X a (T Z wa)) (hb : PE X b (T Z wb)) (hm : behindInMarks o b = false) : PT X (.Compare a [o] [b] pos) (Tt Z (tVal (eBin op wa wb))) :=
  ⟨fun pins s σ H Q I q => (pt_cmpR hr ha hb hm).run pins s σ H Q I (Tt.val (via_bin hs) q)⟩
def tAndW (ta tb : TW) : TW := fun xk ρ K => ta xk ρ fun c ρ1 => (c = true → tb xk ρ1 K) ∧ (c = false → K false ρ1)
def tOrW (ta tb : TW) : TW := fun xk ρ K => ta xk ρ fun c ρ1 => (c = true → K true ρ1) ∧ (c = false → tb xk ρ1 K)
def tNotW (ta : TW) : TW := fun xk ρ K => ta xk ρ fun c ρ1 => K (!c) ρ1
variable {ta tb : TW} {rest : List Expr}
theorem dw_or1 (ha : PT X a (Tt Z ta)) : PW X (.BoolOp .Or [a] pos) (Tt Z ta) := pw_or1 ha
theorem dw_or (ha : PT X a (Tt Z ta)) (hb : PW X (.BoolOp .Or (b :: rest) pos) (Tt Z tb)) : PW X (.BoolOp .Or (a :: b :: rest) pos) (Tt Z (tOrW ta tb)) :=
  ⟨fun wh pins s σ H Q I ⟨ρ, G, K, IR, hw, q⟩ => (pw_or ha hb).run wh pins s σ H Q I ⟨ρ, G, _, IR, hw, fun c ρ1 H1 G1 le1 I1 k1 => by
    cases c with
    | false => rw [if_neg Bool.false_ne_true]; exact ⟨ρ1, G1, _, I1, k1.2 rfl, fun c2 ρ2 H2 G2 le2 I2 k2 => q c2 ρ2 H2 G2 (le1.trans le2) I2 k2⟩
    | true => rw [if_pos rfl]; exact q true ρ1 H1 G1 le1 I1 (k1.1 rfl)⟩⟩
theorem dt_not (ha : PT X a (Tt Z ta)) : PT X (.UnaryOp .Not a pos) (Tt Z (tNotW ta)) :=
  ⟨fun pins s σ H Q I ⟨ρ, G, K, IR, hw, q⟩ => (pt_not ha).run pins s σ H Q I ⟨ρ, G, _, IR, hw, fun c ρ1 H1 G1 le1 I1 k1 => q (!c) ρ1 H1 G1 le1 I1 k1⟩⟩
/-! .. as values -/
def eAnd (wa wb : EW) : EW := fun xk ρ K => tVal wa xk ρ fun c ρ1 => (c = true → wb xk ρ1 K) ∧ (c = false → K (.sh (.bl false)) ρ1)
def eOr (wa wb : EW) : EW := fun xk ρ K => tVal wa xk ρ fun c ρ1 => (c = true → K (.sh (.bl true)) ρ1) ∧ (c = false → wb xk ρ1 K)
def eNot (wa : EW) : EW := fun xk ρ K => tVal wa xk ρ fun c ρ1 => K (.sh (.bl !c)) ρ1
theorem de_one {o} (h : PE X a (T Z wa)) : PE X (.BoolOp o [a] pos) (T Z wa) := pe_one h
theorem de_and (ha : PE X a (T Z wa)) (hb : PE X (.BoolOp .And (b :: rest) pos) (T Z wb)) : PE X (.BoolOp .And (a :: b :: rest) pos) (T Z (eAnd wa wb)) :=
  ⟨fun pins s σ H Q I ⟨ρ, G, K, IR, hw, q⟩ => (pe_and ha hb).run pins s σ H Q I (by
    have h : Tt Z (tVal wa) σ H fun c H1 => if c = true then T Z wb σ H1 Q else Q (.bl false) H1 := ⟨ρ, G, _, IR, hw, fun c ρ1 H1 G1 le1 I1 k1 => by
      cases c with
      | true => rw [if_pos rfl]; exact ⟨ρ1, G1, _, I1, k1.1 rfl, fun r2 ρ2 v H2 G2 le2 I2 q2 k2 => q r2 ρ2 v H2 G2 (le1.trans le2) I2 q2 k2⟩
      | false => rw [if_neg Bool.false_ne_true]; exact q (.sh (.bl false)) ρ1 _ H1 G1 le1 I1 (rv_sh rep_bl) (k1.2 rfl)⟩
    exact Tt.val (t := T Z wa) (fun _ _ _ z => z) h)⟩
def eIf (t : TW) (wa wb : EW) : EW := fun xk ρ K => t xk ρ fun c ρ1 => (c = true → wa xk ρ1 K) ∧ (c = false → wb xk ρ1 K)
/-! ### displays, argument lists -/
def dNil : DW := fun _ ρ K => K [] ρ
def dCons (wa : EW) (wr : DW) : DW := fun xk ρ K => wa xk ρ fun r ρ1 => stl r ρ1 fun d ρ2 => wr xk ρ2 fun ds ρ3 => K (d :: ds) ρ3
variable {es : List Expr} {wd : DW}
theorem da_nil : PA X [] (Ta Z dNil) := ⟨fun pos pins s σ H Q I ⟨ρ, G, K, IR, hw, q⟩ => pa_nil.run pos pins s σ H Q I (q [] ρ [] H G (LE.refl G) IR Reps.nil hw)⟩
theorem ta_cons {σ : L2.St} {H : Hp} {Q : List V → Hp → Prop} (h : Ta Z (dCons wa wd) σ H Q) : tCons (T Z wa) (Ta Z wd) σ H Q := by
  obtain ⟨ρ, G, K, IR, hw, q⟩ := h
  refine ⟨ρ, G, _, IR, hw, fun r ρ1 v H1 G1 le1 I1 q1 k1 => ?_⟩
  obtain ⟨d, ρ2, G2, le2, I2, rp, k2, _⟩ := I1.settle q1 k1
  exact ⟨ρ2, G2, _, I2, k2, fun ds ρ3 vs H3 G3 le3 I3 rs k3 => q (d :: ds) ρ3 (v :: vs) H3 G3 ((le1.trans le2).trans le3) I3 ((rp.mono le3) |> fun z => Reps.cons z rs) k3⟩
theorem da_cons (ha : PE X e (T Z wa)) (hr : PA X es (Ta Z wd)) (hs : starEach (e :: es) X.env = (false, eval e X.env) :: starEach es X.env := by rfl) : PA X (e :: es) (Ta Z (dCons wa wd)) :=
  ⟨fun pos pins s σ H Q I q => (pa_cons ha hr hs).run pos pins s σ H Q I (ta_cons q)⟩
def eTup (wd : DW) : EW := fun xk ρ K => wd xk ρ fun ds ρ1 => ds.length ≤ 1000 ∧ K (.sh (.tup ds)) ρ1
def eLst (wd : DW) : EW := fun xk ρ K => wd xk ρ fun ds ρ1 => ds.length ≤ 1000 ∧ ∀ a, K (.fr a (.lst ds)) ρ1
theorem le_line {n : Nat} (h : n ≤ 1000) : n ≤ sizeLine := Nat.le_of_lt (small1000 h)
theorem de_tup {x1} (h : PA X es (Ta Z wd)) : PE X (.Tuple es x1 pos) (T Z (eTup wd)) :=
  ⟨fun pins s σ H Q I ⟨ρ, G, K, IR, hw, q⟩ => (pe_tup h).run pins s σ H Q I ⟨ρ, G, _, IR, hw, fun ds ρ1 vs H1 G1 le1 I1 rs k1 => ⟨by rw [rs.length]; exact le_line k1.1, fun p hp =>
    q (.sh (.tup ds)) ρ1 _ _ _ (le1.trans (LE.upd (I1.g hp))) (I1.newG hp) (by show Rep _ _ _ _; unfold Rep; exact ⟨p, vs, rfl, upd_same, rs.mono (LE.upd (I1.g hp))⟩) k1.2⟩⟩⟩
theorem de_lst (h : PA X es (Ta Z wd)) : PE X (.List es pos) (T Z (eLst wd)) :=
  ⟨fun pins s σ H Q I ⟨ρ, G, K, IR, hw, q⟩ => (pe_lst h).run pins s σ H Q I ⟨ρ, G, _, IR, hw, fun ds ρ1 vs H1 G1 le1 I1 rs k1 => ⟨by rw [rs.length]; exact le_line k1.1, fun p hp =>
    q (.fr p (.lst ds)) ρ1 _ _ G1 le1 (I1.newH hp) ⟨rfl, ⟨vs, upd_same, rs⟩, I1.g hp, fun i m b e h => I1.own_ne h hp, (I1.h0 hp).1, (I1.h0 hp).2⟩ (k1.2 p)⟩⟩⟩
end
end TL

namespace TL
open PySem L2

/-- the ends of a statement: over trees, and below -/
structure Lk (Z : Zone) (G : Hp) (K : SK) (D : Ends) : Prop where
  nx : ∀ ρ' σ' H' G', LE G G' → SR Z ρ' G' σ' H' → K.nx ρ' → D.nx σ' H'
  rt : ∀ r ρ' v σ' H' G', LE G G' → SR Z ρ' G' σ' H' → RvOk Z r ρ' G' σ' H' v → K.rt r ρ' → D.rt v H'
  bk : ∀ ρ' σ' H' G', LE G G' → SR Z ρ' G' σ' H' → K.bk ρ' → D.bk σ' H'
  ct : ∀ ρ' σ' H' G', LE G G' → SR Z ρ' G' σ' H' → K.ct ρ' → D.ct σ' H'
theorem Lk.mono {Z : Zone} {G G1 : Hp} {K : SK} {D : Ends} (l : Lk Z G K D) (h : LE G G1) : Lk Z G1 K D :=
  ⟨fun a b c d e => l.nx a b c d (h.trans e), fun a b c d e f g => l.rt a b c d e f (h.trans g), fun a b c d e => l.bk a b c d (h.trans e), fun a b c d e => l.ct a b c d (h.trans e)⟩
def Ts (Z : Zone) (w : SW) : TS := fun D σ H => ∃ ρ G K, SR Z ρ G σ H ∧ w Z.xk ρ K ∧ Lk Z G K D

section
variable {X : Cx} {Z : Zone} {e : Expr} {w wa wb : EW} {pos : Pos} {st : Stmt} {rest : List Stmt} {sa sb : SW} {tw : TW}
def sNil : SW := fun _ ρ K => K.nx ρ
def sSeq (a b : SW) : SW := fun xk ρ K => a xk ρ { K with nx := fun ρ' => b xk ρ' K }
theorem ds_nil : PSs X [] (Ts Z sNil) := ⟨fun pins s σ H D I ⟨ρ, G, K, IR, hw, l⟩ => pss_nil.run pins s σ H D I (l.nx ρ σ H G (LE.refl G) IR hw)⟩
theorem ts_seq {D : Ends} {σ : L2.St} {H : Hp} (h : Ts Z (sSeq sa sb) D σ H) : tSeq (Ts Z sa) (Ts Z sb) D σ H := by
  obtain ⟨ρ, G, K, IR, hw, l⟩ := h
  exact ⟨ρ, G, _, IR, hw, ⟨fun ρ' σ' H' G' le I' k => ⟨ρ', G', K, I', k, l.mono le⟩, l.rt, l.bk, l.ct⟩⟩
theorem ds_cons (h1 : PS X st (Ts Z sa)) (h2 : PSs X rest (Ts Z sb)) : PSs X (st :: rest) (Ts Z (sSeq sa sb)) := ⟨fun pins s σ H D I h => (pss_cons h1 h2).run pins s σ H D I (ts_seq h)⟩
theorem ds_one (h1 : PS X st (Ts Z sa)) : PSs X [st] (Ts Z sa) := pss_one h1
def sPass : SW := fun _ ρ K => K.nx ρ
def sBrk : SW := fun _ ρ K => K.bk ρ
def sNever : SW := fun _ _ _ => False
theorem ds_never : PS X st (Ts Z sNever) := ⟨fun _ _ _ _ _ _ ⟨_, _, _, _, h, _⟩ => h.elim⟩
def sExpr (w : EW) : SW := fun xk ρ K => w xk ρ fun _ ρ1 => K.nx ρ1
theorem ds_expr (he : PE X e (T Z w)) (hs : swapsWith e none pos.line X.env = pure false := by rfl) : PS X (.Expr e pos) (Ts Z (sExpr w)) :=
  ⟨fun pins s σ H D I ⟨ρ, G, K, IR, hw, l⟩ => (ps_expr he hs).run pins s σ H D I ⟨ρ, G, _, IR, hw, fun r ρ' v H' G' le I' _ k => l.nx ρ' σ H' G' le I' k⟩⟩
def sRet (w : EW) : SW := fun xk ρ K => w xk ρ K.rt
theorem ds_ret (he : PE X e (T Z w)) : PS X (.Return (some e) pos) (Ts Z (sRet w)) :=
  ⟨fun pins s σ H D I ⟨ρ, G, K, IR, hw, l⟩ => (ps_ret he).run pins s σ H D I ⟨ρ, G, _, IR, hw, fun r ρ' v H' G' le I' q k => l.rt r ρ' v σ H' G' le I' q k⟩⟩
def sRetN : SW := fun _ ρ K => K.rt (.sh .non) ρ
def sIf (t : TW) (a b : SW) : SW := fun xk ρ K => t xk ρ fun c ρ1 => (c = true → a xk ρ1 K) ∧ (c = false → b xk ρ1 K)
theorem ds_if {c : Expr} {a b : List Stmt} (hc : PT X c (Tt Z tw)) (ha : PSs X a (Ts Z sa)) (hb : PSs X b (Ts Z sb)) : PS X (.If c a b pos) (Ts Z (sIf tw sa sb)) :=
  ⟨fun pins s σ H D I ⟨ρ, G, K, IR, hw, l⟩ => (ps_if hc ha hb).run pins s σ H D I ⟨ρ, G, _, IR, hw, fun c ρ' H' G' le I' k => by
    cases c with
    | true => rw [if_pos rfl]; exact ⟨ρ', G', K, I', k.1 rfl, l.mono le⟩
    | false => rw [if_neg Bool.false_ne_true]; exact ⟨ρ', G', K, I', k.2 rfl, l.mono le⟩⟩⟩

/-! ### stores -/
def lay (i : Nat) (r : Rv) (ρ : REnv) (K : REnv → Prop) : Prop := match r with
  | .fr a d => K (ρ.set i (.own false a d))
  | r => stl r ρ fun d ρ2 => K (ρ2.set i (.sh d))
theorem SR.place {ρ : REnv} {G H : Hp} {σ : L2.St} {i : Nat} {r : Rv} {v : V} {K : REnv → Prop} (I : SR Z ρ G σ H) (hi : i < σ.length) (q : RvOk Z r ρ G σ H v) (h : lay i r ρ K) : ∃ ρ' G', LE G G' ∧ SR Z ρ' G' (σ.set i (some v)) H ∧ K ρ' := by
  have other : ∀ {r : Rv}, RvOk Z r ρ G σ H v → (stl r ρ fun d ρ2 => K (ρ2.set i (.sh d))) → ∃ ρ' G', LE G G' ∧ SR Z ρ' G' (σ.set i (some v)) H ∧ K ρ' := fun {r} q h => by
    obtain ⟨d, ρ', G', le, I', rp, k, _⟩ := I.settle q h
    exact ⟨_, G', le, I'.put hi rp, k⟩
  cases r with
  | loc j => exact other q h
  | sh d => exact other q h
  | gh j a => exact other q h
  | gx as cs t => exact other q h
  | fr a d =>
    have e := q.1
    subst e
    exact ⟨_, G, LE.refl G, I.putFr hi q, h⟩
def sSet (i : Nat) (w : EW) : SW := fun xk ρ K => w xk ρ fun r ρ1 => lay i r ρ1 K.nx
theorem ds_set {i : Nat} {x : Str} {pos' : Pos} (hN : X.N.Nodup) (he : PE X e (T Z w)) (hi : X.N[i]? = some x := by rfl) (hx : Loc X.env.scope x := by first | exact Or.inl rfl | exact Or.inr rfl) (hs : swapsWith e (some (.Name x pos')) pos.line X.env = pure false := by rfl) (hf : X.fn x = true ∨ X.env.scope.names.lookup x = some .local := by first | exact .inl rfl | exact .inr rfl | assumption) :
    PS X (.Assign [.Name x pos'] e pos) (Ts Z (sSet i w)) :=
  ⟨fun pins s σ H D I ⟨ρ, G, K, IR, hw, l⟩ => (ps_set hN hi hx he hs hf).run pins s σ H D I ⟨ρ, G, _, IR, hw, fun r ρ' v H' G' le I' q k => by
    obtain ⟨ρ2, G2, le2, I2, k2⟩ := I'.place (lt_len I hi) q k
    exact l.nx ρ2 _ H' G2 (le.trans le2) I2 k2⟩⟩
/-- a, b = x, y -/
def sPar (i j : Nat) (wd : DW) : SW := fun xk ρ K => wd xk ρ fun ds ρ1 => match ds with | [d, e] => K.nx ((ρ1.set i (.sh d)).set j (.sh e)) | _ => False
theorem ds_par {i j : Nat} {x y : Str} {a b : Expr} {px py pt : Pos} {kt k2 pt2} {wd : DW} (hc : X.calm = true) (hN : X.N.Nodup) (ha : PA X [a, b] (Ta Z wd)) (hi : X.N[i]? = some x := by rfl) (hj : X.N[j]? = some y := by rfl) (hij : i ≠ j := by decide)
    (hx : X.env.scope.names.lookup x = some .local := by rfl) (hy : X.env.scope.names.lookup y = some .local := by rfl)
    (hw : swappedStores [.Tuple [.Name x px, .Name y py] kt pt] (.Tuple [a, b] k2 pt2) X.env = pure (some [x, y]) := by rfl)
    (hs : swapsWithSole [.Tuple [.Name x px, .Name y py] kt pt] (.Tuple [a, b] k2 pt2) pos.line X.env = pure false := by rfl) :
    PS X (.Assign [.Tuple [.Name x px, .Name y py] kt pt] (.Tuple [a, b] k2 pt2) pos) (Ts Z (sPar i j wd)) :=
  ⟨fun pins s σ H D I ⟨ρ, G, K, IR, h, l⟩ => (ps_par hc hN hi hj hij hx hy ha hw hs).run pins s σ H D I ⟨ρ, G, _, IR, h, fun ds ρ' vs H' G' le I' rs k => by
    match ds, k with
    | [d, e], k =>
      obtain ⟨v, r1, rfl, rv, rs⟩ := rs.inv_cons
      obtain ⟨u, r2, rfl, ru, rs⟩ := rs.inv_cons
      have := rs.inv_nil
      subst this
      refine ⟨v, u, rfl, l.nx _ _ H' G' le ((I'.put (lt_len I hi) rv).put ?_ ru) k⟩
      rw [List.length_set]; exact lt_len I hj⟩⟩

/-! ### targets -/
def Tg (Z : Zone) (g : GW) : TG := fun v σ H Q => ∃ ρ G d K, SR Z ρ G σ H ∧ Rep Z.cc G v d ∧ g d ρ K ∧ ∀ ρ' σ' G', LE G G' → SR Z ρ' G' σ' H → K ρ' → Q σ' H
abbrev GWs := List D → REnv → (REnv → Prop) → Prop
def Tgs (Z : Zone) (g : GWs) : TGs := fun vs σ H Q => ∃ ρ G ds K, SR Z ρ G σ H ∧ Reps Z.cc G vs ds ∧ g ds ρ K ∧ ∀ ρ' σ' G', LE G G' → SR Z ρ' G' σ' H → K ρ' → Q σ' H
def gN (i : Nat) : GW := fun d ρ K => K (ρ.set i (.sh d))
def gNl : GWs := fun ds ρ K => ds = [] ∧ K ρ
def gCn (g : GW) (gs : GWs) : GWs := fun ds ρ K => match ds with | d :: r => g d ρ fun ρ' => gs r ρ' K | [] => False
def gTp (n : Nat) (gs : GWs) : GW := fun d ρ K => match d with | .tup ds => ds.length = n ∧ gs ds ρ K | _ => False
theorem dg_name {i : Nat} {x : Str} (hN : X.N.Nodup) (hi : X.N[i]? = some x := by rfl) (hx : Loc X.env.scope x := by first | exact Or.inl rfl | exact Or.inr rfl) (hf : X.fn x = true ∨ X.env.scope.names.lookup x = some .local := by first | exact .inl rfl | exact .inr rfl | assumption) : PG X (.Name x pos) (Tg Z (gN i)) :=
  ⟨fun pins s σ H v u Q I r ⟨ρ, G, d, K, IR, rp, k, q⟩ => (pg_name hN hi hx hf).run pins s σ H v u Q I r (q _ _ G (LE.refl G) (IR.put (lt_len I hi) rp) k)⟩
theorem dgs_nil : PGs X [] (Tgs Z gNl) := ⟨fun pins s σ H vs us Q I r ⟨ρ, G, ds, K, IR, rp, k, q⟩ => pgs_nil.run pins s σ H vs us Q I r (by
  obtain ⟨e, k⟩ := k
  subst e
  exact ⟨rp.inv_nil, q ρ σ G (LE.refl G) IR k⟩)⟩
theorem dgs_cons {es : List Expr} {g : GW} {gs : GWs} (h1 : PG X e (Tg Z g)) (h2 : PGs X es (Tgs Z gs))
    (hs : (assignEach (e :: es) X.env).map (·.2) = assign e X.env :: (assignEach es X.env).map (·.2) := by rfl) : PGs X (e :: es) (Tgs Z (gCn g gs)) :=
  ⟨fun pins s σ H vs us Q I r ⟨ρ, G, ds, K, IR, rp, k, q⟩ => (pgs_cons h1 h2 hs).run pins s σ H vs us Q I r (by
    match ds, k with
    | d :: dr, k =>
      obtain ⟨v, vr, rfl, rv, rs⟩ := rp.inv_cons
      exact ⟨v, vr, rfl, ρ, G, d, _, IR, rv, k, fun ρ' σ' G' le I' k' => ⟨ρ', G', dr, K, I', rs.mono le, k', fun ρ2 σ2 G2 le2 I2 k2 => q ρ2 σ2 G2 (le.trans le2) I2 k2⟩⟩)⟩
theorem dg_tup {es : List Expr} {k : Nat} {gs : GWs} {n : Nat} (hc : X.calm = true) (h : PGs X es (Tgs Z gs))
    (hn : (assignEach es X.env).length = n := by rfl) (hst : (assignEach es X.env).findIdx? (·.1) = none := by rfl) : PG X (.Tuple es k pos) (Tg Z (gTp n gs)) :=
  ⟨fun pins s σ H v u Q I r ⟨ρ, G, d, K, IR, rp, k, q⟩ => (pg_tup (n := n) hc h hn hst).run pins s σ H v u Q I r (by
    cases d <;> try exact (k : False).elim
    rename_i ds
    unfold Rep at rp
    obtain ⟨a, vs, e, ga, rs⟩ := rp
    exact ⟨a, vs, e, SqT.of (IR.sub _ _ ga), by rw [rs.length]; exact k.1, ρ, G, ds, K, IR, rs, k.2, q⟩)⟩
/-- target = value -/
def sAsg (w : EW) (g : GW) : SW := fun xk ρ K => w xk ρ fun r ρ1 => stl r ρ1 fun d ρ2 => g d ρ2 K.nx
theorem ds_asg {tg : Expr} {g : GW} (he : PE X e (T Z w)) (hg : PG X tg (Tg Z g)) (hs : swapsWithSole [tg] e pos.line X.env = pure false := by rfl) (hw : swappedStores [tg] e X.env = pure none := by rfl)
    (h1 : (assignEach [tg] X.env).map (·.2) = [assign tg X.env] := by rfl) : PS X (.Assign [tg] e pos) (Ts Z (sAsg w g)) :=
  ⟨fun pins s σ H D I ⟨ρ, G, K, IR, hk, l⟩ => (ps_asg he hg hs hw h1).run pins s σ H D I ⟨ρ, G, _, IR, hk, fun r ρ' v H' G' le I' q k => by
    obtain ⟨d, ρ2, G2, le2, I2, rp, k2, _⟩ := I'.settle q k
    exact ⟨ρ2, G2, d, _, I2, rp, k2, fun ρ3 σ3 G3 le3 I3 k3 => l.nx ρ3 σ3 H' G3 ((le.trans le2).trans le3) I3 k3⟩⟩⟩

/-! ### a root of a name's own, changed -/
theorem Root.lst {cc : CC} {G H : Hp} {a : Addr} {vs : List V} {ds : List D} (h : H a = some (.lst vs)) (r : Reps cc G vs ds) : Root cc G H a (.lst ds) := ⟨vs, h, r⟩
theorem SR.ownL {ρ : REnv} {G H : Hp} {σ : L2.St} (I : SR Z ρ G σ H) {j : Nat} {m : Bool} {a : Addr} {ds : List D} (h : ρ[j]? = some (.own m a (.lst ds))) : (σ[j]? = some (some (.ref a)) ∨ σ.length ≤ j) ∧ ∃ vs, H a = some (.lst vs) ∧ Reps Z.cc G vs ds := I.slot j _ h
def sSub (j : Nat) (wi w : EW) : SW := fun xk ρ K => w xk ρ fun r ρ1 => stl r ρ1 fun d ρ2 => bound ρ2 j ∧ wi xk ρ2 fun ri ρ3 => match ρ3[j]?, ri.get ρ3 with
  | some (.own m a (.lst ds)), .int k => ∃ n, ixN ds.length k = some n ∧ K.nx (ρ3.set j (.own m a (.lst (ds.set n d))))
  | _, _ => False
theorem ds_sub {j : Nat} {x : Str} {i : Expr} {wi : EW} {px ps : Pos} (he : PE X e (T Z w)) (hi : PE X i (T Z wi)) (hN : X.N[j]? = some x := by rfl) (hv : Vis X.env.scope x := by first | exact Or.inl rfl | exact Or.inr (Or.inl rfl) | exact Or.inr (Or.inr rfl)) (hd : (x == ("__debug__" : Str)) = false := by decide)
    (hcd : (x == ("__classdict__" : Str)) = false := by decide)
    (ha : ∀ v, assign (.Subscript (.Name x px) i ps) X.env v = (do
      let ov ← holding [v] (eval (.Name x px) X.env)
      let iv ← holding [v, ov] (eval i X.env)
      standAt ps
      holding [v, ov, iv] (setItem ov iv v)
      release [v, ov, iv] []) := by intro _; rfl)
    (hs : swapsWithSole [.Subscript (.Name x px) i ps] e pos.line X.env = pure false := by rfl) (hw : swappedStores [.Subscript (.Name x px) i ps] e X.env = pure none := by rfl)
    (h1 : (assignEach [.Subscript (.Name x px) i ps] X.env).map (·.2) = [assign (.Subscript (.Name x px) i ps) X.env] := by rfl) : PS X (.Assign [.Subscript (.Name x px) i ps] e pos) (Ts Z (sSub j wi w)) :=
  ⟨fun pins s σ H D I ⟨ρ, G, K, IR, hk, l⟩ => (ps_asg he (pg_sub (pv j hN hv hd hcd) hi set_list ha) hs hw h1).run pins s σ H D I ⟨ρ, G, _, IR, hk, fun r ρ' v H' G' le I' q k => by
    obtain ⟨d, ρ2, G2, le2, I2, rp, ⟨hb, k2⟩, _⟩ := I'.settle q k
    obtain ⟨o, eo⟩ := bound_get I2 (lt_len I hN) hb
    refine ⟨o, eo, ρ2, G2, _, I2, k2, fun ri ρ3 iv H3 G3 le3 I3 qi k3 => ?_⟩
    have vi := qi.view I3
    split at k3
    · rename_i m a ds kk hs hg
      rw [hg] at vi
      obtain ⟨n, hn, k4⟩ := k3
      obtain ⟨es, vs, ha, rs⟩ := I3.ownL hs
      cases own_in eo es
      refine ⟨a, vs, kk, n, rfl, vi, ha, by rw [rs.length]; exact hn, ?_⟩
      exact l.nx _ _ _ G3 ((le.trans le2).trans le3) (I3.write hs (Root.lst upd_same (rs.set n (rp.mono le3)))) k4
    · exact k3.elim⟩⟩
def sApp (j : Nat) (w : EW) : SW := fun xk ρ K => (∃ m a ds, ρ[j]? = some (.own m a (.lst ds))) ∧ w xk ρ fun r ρ1 => stl r ρ1 fun d ρ2 => match ρ2[j]? with
  | some (.own m a (.lst ds)) => ds.length < sizeLine ∧ K.nx (ρ2.set j (.own m a (.lst (ds ++ [d]))))
  | _ => False
theorem ds_app {j : Nat} {x : Str} {px apos cpos : Pos} (he : PE X e (T Z w)) (hN : X.N[j]? = some x := by rfl) (hv : Vis X.env.scope x := by first | exact Or.inl rfl | exact Or.inr (Or.inl rfl) | exact Or.inr (Or.inr rfl)) (hd : (x == ("__debug__" : Str)) = false := by decide)
    (hcd : (x == ("__classdict__" : Str)) = false := by decide)
    (hbase : attributeBase (.Name x px) "append" X.env (eval (.Name x px) X.env) = eval (.Name x px) X.env := by rfl)
    (hfew : ((backTo cpos (starEach [e] X.env)).all (fun x => !x.1) && (backToKw cpos (keywordEach [] X.env)).all (fun x => x.1.isSome)
      && decide (([e] : List Expr).length + ([] : List Keyword).length + (if ([] : List Keyword).isEmpty then 0 else 1) < 30)) = true := by rfl)
    (hline : (apos.endLine == cpos.line) = true := by rfl) (hst : starEach [e] X.env = (false, eval e X.env) :: starEach [] X.env := by rfl) (hplain : (backTo cpos (starEach [] X.env)).any (·.1) = false := by rfl)
    (hs : swapsWith (.Call (.Attribute (.Name x px) "append" apos) [e] [] cpos) none pos.line X.env = pure false := by rfl) :
    PS X (.Expr (.Call (.Attribute (.Name x px) "append" apos) [e] [] cpos) pos) (Ts Z (sApp j w)) :=
  ⟨fun pins s σ H D I ⟨ρ, G, K, IR, ⟨⟨m, a, ds, hs0⟩, hk⟩, l⟩ => (ps_expr (pe_bm PySem.F.plainAttrs_list PySem.F.slot_list_append PySem.F.type_list_append mt_append (pv j hN hv hd hcd) (pa_cons he pa_nil hst) hbase hfew hline hst hplain) hs).run pins s σ H D I (by
    obtain ⟨es, vs, ha, rs⟩ := IR.ownL hs0
    have es := own_at (lt_len I hN) es
    refine ⟨.ref a, es, .inl ⟨rfl, vs, SqL.of ha⟩, ρ, G, _, IR, hk, fun r ρ' v H' G' le I' q k => ?_⟩
    obtain ⟨d, ρ2, G2, le2, I2, rp, k2, _⟩ := I'.settle q k
    split at k2
    · rename_i m2 a2 ds2 hs2
      obtain ⟨es2, vs2, ha2, rs2⟩ := I2.ownL hs2
      cases own_in es es2
      refine ⟨a, vs2, v, rfl, rfl, ha2, by rw [rs2.length]; exact k2.1, ?_⟩
      exact l.nx _ _ _ G2 (le.trans le2) (I2.write hs2 (Root.lst upd_same (rs2.append (Reps.cons rp Reps.nil)))) k2.2
    · exact k2.elim)⟩

/-! ### while -/
def sWhile (t : TW) (b : SW) : SW := fun xk ρ K => ∃ W : Nat → REnv → Prop, (∃ m, W m ρ) ∧ ∀ m ρ, W m ρ → t xk ρ fun c ρ1 =>
  (c = true → b xk ρ1 { K with nx := fun ρ2 => ∃ m', m' < m ∧ W m' ρ2, ct := fun ρ2 => ∃ m', m' < m ∧ W m' ρ2, bk := K.nx }) ∧ (c = false → K.nx ρ1)
theorem ds_while {c : Expr} {body : List Stmt} (hp : PassesOwn (model X.prog X.w) X.A X.env X.xe) (hc : PT X c (Tt Z tw)) (hb : PSs X body (Ts Z sb)) : PS X (.While c body [] pos) (Ts Z (sWhile tw sb)) :=
  ⟨fun pins s σ H D I ⟨ρ, G, K, IR, ⟨W, ⟨m0, w0⟩, turn⟩, l⟩ => (ps_while hp hc hb).run pins s σ H D I (by
    refine ⟨fun m σ' H' => ∃ ρ' G', LE G G' ∧ SR Z ρ' G' σ' H' ∧ W m ρ', ⟨m0, ρ, G, LE.refl G, IR, w0⟩, ?_⟩
    rintro m σ' H' ⟨ρ', G', le, I', w'⟩
    refine ⟨ρ', G', _, I', turn m ρ' w', fun c ρ1 H1 G1 le1 I1 k => ?_⟩
    cases c with
    | true =>
      rw [if_pos rfl]
      refine ⟨fun σ2 H2 => ∃ ρ2 G2 m', LE G G2 ∧ SR Z ρ2 G2 σ2 H2 ∧ m' < m ∧ W m' ρ2, fun σ2 H2 ⟨ρ2, G2, m', le2, I2, hm, w2⟩ => ⟨m', hm, ρ2, G2, le2, I2, w2⟩, ρ1, G1, _, I1, k.1 rfl, ?_⟩
      have lG := le.trans le1
      exact ⟨fun ρ2 σ2 H2 G2 le2 I2 ⟨m', hm, w2⟩ => ⟨ρ2, G2, m', lG.trans le2, I2, hm, w2⟩, fun r ρ2 v σ2 H2 G2 le2 I2 q k => l.rt r ρ2 v σ2 H2 G2 (lG.trans le2) I2 q k, fun ρ2 σ2 H2 G2 le2 I2 k => l.nx ρ2 σ2 H2 G2 (lG.trans le2) I2 k,
        fun ρ2 σ2 H2 G2 le2 I2 ⟨m', hm, w2⟩ => ⟨ρ2, G2, m', lG.trans le2, I2, hm, w2⟩⟩
    | false =>
      rw [if_neg Bool.false_ne_true]
      exact l.nx ρ1 σ' H1 G1 (le.trans le1) I1 (k.2 rfl))⟩

/-! ### for -/
/-- what a loop walks: how many turns, what comes at a turn, what must stand as it is meanwhile -/
abbrev IW := Xk → REnv → (Nat → (Nat → D → Prop) → (REnv → Prop) → REnv → Prop) → Prop
def ItOk (Z : Zone) (J : It) (n : Nat) (f : Nat → D → Prop) (st : REnv → Prop) (G : Hp) : Prop := ∀ (H0 : Hp) (xk : Xk) i ρ G1 σ H, LE G G1 → SR { Z with H0 := H0, xk := xk } ρ G1 σ H → st ρ →
  (n ≤ i → J.stop i H) ∧ (i < n → J.go i H ∧ ∀ x H', J.yld i H x H' → ∃ d G2, f i d ∧ LE G1 G2 ∧ SR { Z with H0 := H0, xk := xk } ρ G2 σ H' ∧ Rep Z.cc G2 x d)
def Ti (Z : Zone) (iw : IW) : TI := fun σ H R => ∃ ρ G K, SR Z ρ G σ H ∧ iw Z.xk ρ K ∧
  ∀ n f st ρ' H' G' J, LE G G' → SR Z ρ' G' σ H' → ItOk Z J n f st G' → K n f st ρ' → R J H'
def sFor (iw : IW) (g : GW) (b : SW) : SW := fun xk ρ K => iw xk ρ fun n f st ρ1 => ∃ W : Nat → REnv → Prop, W 0 ρ1 ∧ (∀ i ρ, i ≤ n → W i ρ → st ρ) ∧
  (∀ i d ρ, i < n → f i d → W i ρ → g d ρ fun ρ2 => b xk ρ2 { K with nx := W (i + 1), ct := W (i + 1), bk := K.nx }) ∧ ∀ ρ, W n ρ → K.nx ρ
theorem ds_for {tg iter : Expr} {body : List Stmt} {iw : IW} {g : GW} (hp : PassesOwn (model X.prog X.w) X.A X.env X.xe) (hc : X.calm = true) (hi : PI X tg iter (Ti Z iw)) (hg : PG X tg (Tg Z g)) (hb : PSs X body (Ts Z sb))
    (hs : ∀ x, foldedSetIterable iter X.env x = pure x := by intro _; rfl) : PS X (.For tg iter body [] pos) (Ts Z (sFor iw g sb)) :=
  ⟨fun pins s σ H D I ⟨ρ, G, K, IR, hw, l⟩ => (ps_for hp hc hi hg hb hs).run pins s σ H D I ⟨ρ, G, _, IR, hw, fun n f st ρ1 H1 G1 J le1 I1 io ⟨W, w0, stb, turn, fin⟩ => by
    refine ⟨fun i m σ' H' => m = n - i ∧ i ≤ n ∧ ∃ ρ' G', LE G1 G' ∧ SR Z ρ' G' σ' H' ∧ W i ρ', ⟨n, by simp, Nat.zero_le _, ρ1, G1, LE.refl G1, I1, w0⟩, ?_⟩
    rintro i m σ' H' ⟨rfl, hin, ρ', G', le', I', w'⟩
    obtain ⟨s1, s2⟩ := io Z.H0 Z.xk i ρ' G' σ' H' le' I' (stb i ρ' hin w')
    by_cases hlt : i < n
    · obtain ⟨go, yl⟩ := s2 hlt
      refine .inr ⟨go, fun σ2 H2 => ∃ ρ2 G2, LE G1 G2 ∧ SR Z ρ2 G2 σ2 H2 ∧ W (i + 1) ρ2, fun σ2 H2 h => ⟨n - (i + 1), by omega, rfl, hlt, h⟩, fun x H2 y => ?_⟩
      obtain ⟨d, G2, fd, le2, I2, rp⟩ := yl x H2 y
      refine ⟨ρ', G2, d, _, I2, rp, turn i d ρ' hlt fd w', fun ρ3 σ3 G3 le3 I3 k3 => ⟨ρ3, G3, _, I3, k3, ?_⟩⟩
      have l3 := (le'.trans le2).trans le3
      have lG := le1.trans l3
      exact ⟨fun ρ4 σ4 H4 G4 le4 I4 k => ⟨ρ4, G4, l3.trans le4, I4, k⟩, fun r ρ4 v σ4 H4 G4 le4 I4 q k => l.rt r ρ4 v σ4 H4 G4 (lG.trans le4) I4 q k, fun ρ4 σ4 H4 G4 le4 I4 k => l.nx ρ4 σ4 H4 G4 (lG.trans le4) I4 k,
        fun ρ4 σ4 H4 G4 le4 I4 k => ⟨ρ4, G4, l3.trans le4, I4, k⟩⟩
    · have e : i = n := by omega
      subst e
      exact .inl ⟨s1 (Nat.le_refl _), l.nx ρ' σ' H' G' (le1.trans le') I' (fin ρ' w')⟩⟩⟩

/-- the source of a loop stands still -/
def stab (r : Rv) (ρ1 : REnv) (ρ : REnv) : Prop := match r with
  | .loc i => match ρ1[i]? with
    | some (.own m a d) => ρ[i]? = some (.own m a d)
    | _ => True
  | .gh j _ => match ρ1[j]? with
    | some (.own m a d) => ρ[j]? = some (.own m a d)
    | _ => True
  | _ => True
def iLst (w : EW) : IW := fun xk ρ K => w xk ρ fun r ρ1 => match r.get ρ1 with | .lst ds => K ds.length (fun i d => ds[i]? = some d) (stab r ρ1) ρ1 | _ => False
def iTpl (w : EW) : IW := fun xk ρ K => w xk ρ fun r ρ1 => match r.get ρ1 with | .tup ds => K ds.length (fun i d => ds[i]? = some d) (fun _ => True) ρ1 | _ => False
theorem SqL.rd {K : PySem.W.Frag} {H : Hp} {a : Addr} {xs : List V} (h : Rd H a (.lst xs)) : SqL K H a xs := .inl h
theorem SqT.rd {K : PySem.W.Frag} {H : Hp} {a : Addr} {xs : List V} (h : Rd H a (.tup xs)) : SqT K H a xs := .inl h
/-- a source that stands in what is known -/
theorem itl_known {K : PySem.W.Frag} {a : Addr} {vs : List V} {ds : List D} {G : Hp} {st : REnv → Prop} (hK : Z.cc.K = K) (ra : SqL Z.cc.K G a vs) (rs : Reps Z.cc G vs ds) :
    ItOk Z (Itl K a) ds.length (fun i d => ds[i]? = some d) st G := by
  intro H0 xk i ρ G1 σ H le I _
  have rH : SqL K H a vs := by rw [← hK]; exact (le.trans I.sub).sql ra
  refine ⟨fun h => ⟨vs, rH, by rw [rs.length]; exact h⟩, fun h => ?_⟩
  obtain ⟨v, hv, _⟩ := rs.get (List.getElem?_eq_getElem h)
  refine ⟨⟨vs, v, rH, hv⟩, fun x H' y => ?_⟩
  obtain ⟨e, y⟩ := y
  subst e
  obtain ⟨d, hd, rp⟩ := rs.get' (y vs rH)
  exact ⟨d, G1, hd, LE.refl _, I, rp.mono le⟩
end
end TL

namespace TL
open PySem L2

section
variable {X : Cx} {Z : Zone} {e : Expr} {w wa wb : EW} {pos : Pos}

/-! ### what a loop walks -/
theorem it_list {K : PySem.W.Frag} (hK : Z.cc.K = K) {ρ : REnv} {G H : Hp} {σ : L2.St} {r : Rv} {x : V} {ds : List D} (I : SR Z ρ G σ H) (q : RvOk Z r ρ G σ H x) (hd : r.get ρ = .lst ds) :
    ∃ a G', x = .ref a ∧ LE G G' ∧ SR Z ρ G' σ H ∧ (∃ xs, SqL K H a xs) ∧ ItOk Z (Itl K a) ds.length (fun i d => ds[i]? = some d) (stab r ρ) G' := by
  have known : ∀ {G'}, LE G G' → SR Z ρ G' σ H → Rep Z.cc G' x (.lst ds) → ∃ a G', x = .ref a ∧ LE G G' ∧ SR Z ρ G' σ H ∧ (∃ xs, SqL K H a xs) ∧ ItOk Z (Itl K a) ds.length (fun i d => ds[i]? = some d) (stab r ρ) G' := fun {G'} le I' rp => by
    unfold Rep at rp
    obtain ⟨a, vs, ea, ra, rs⟩ := rp
    exact ⟨a, G', ea, le, I', ⟨vs, by rw [← hK]; exact I'.sub.sql ra⟩, itl_known hK ra rs⟩
  cases r with
  | sh d => exact known (LE.refl G) I (by have : d = .lst ds := hd; rw [← this]; exact q)
  | fr a d =>
    have : d = .lst ds := hd
    subst this
    obtain ⟨G', le, I', q'⟩ := I.freeze q
    exact known le I' q'
  | loc i =>
    obtain ⟨ex, hb⟩ := q
    have hd : getL ρ i = .lst ds := hd
    unfold getL at hd
    unfold bound at hb
    cases hs : ρ[i]? with
    | none => rw [hs] at hb; exact hb.elim
    | some s =>
      have so := I.slot i s hs
      simp only [hs] at hd
      cases s with
      | no => rw [hs] at hb; exact hb.elim
      | sh d =>
        obtain ⟨u, eu, ru⟩ := so
        rw [ex] at eu; cases eu
        subst hd
        exact known (LE.refl G) I ru
      | own m a d =>
        obtain ⟨eu, rt⟩ := so
        cases own_in ex eu
        have hd : d = .lst ds := hd
        subst hd
        obtain ⟨vs, ha, rs⟩ := rt
        refine ⟨a, G, rfl, LE.refl G, I, ⟨vs, SqL.of ha⟩, fun H0 xk j ρ' G1 σ' H' le I' hst => ?_⟩
        have hst : ρ'[i]? = some (.own m a (.lst ds)) := by
          unfold stab at hst
          simp only [hs] at hst
          exact hst
        obtain ⟨es, us, ha', rs'⟩ := I'.ownL hst
        refine ⟨fun h => ⟨us, SqL.of ha', by rw [rs'.length]; exact h⟩, fun h => ?_⟩
        obtain ⟨v, hv, _⟩ := rs'.get (List.getElem?_eq_getElem h)
        refine ⟨⟨us, v, SqL.of ha', hv⟩, fun x H2 y => ?_⟩
        obtain ⟨e, y⟩ := y
        subst e
        obtain ⟨d, hd, rp⟩ := rs'.get' (y us (SqL.of ha'))
        exact ⟨d, G1, hd, LE.refl _, I', rp⟩
  | gh j a =>
    obtain ⟨rfl, m, d, hs⟩ := q
    have hd : getL ρ j = .lst ds := hd
    unfold getL at hd
    rw [hs] at hd
    have hd : d = .lst ds := hd
    subst hd
    have rt := (I.slot j _ hs).2
    obtain ⟨vs, ha, rs⟩ := rt
    refine ⟨a, G, rfl, LE.refl G, I, ⟨vs, SqL.of ha⟩, fun H0 xk k ρ' G1 σ' H' le I' hst => ?_⟩
    have hst : ρ'[j]? = some (.own m a (.lst ds)) := by
      unfold stab at hst
      simp only [hs] at hst
      exact hst
    obtain ⟨es, us, ha', rs'⟩ := I'.ownL hst
    refine ⟨fun h => ⟨us, SqL.of ha', by rw [rs'.length]; exact h⟩, fun h => ?_⟩
    obtain ⟨v, hv, _⟩ := rs'.get (List.getElem?_eq_getElem h)
    refine ⟨⟨us, v, SqL.of ha', hv⟩, fun x H2 y => ?_⟩
    obtain ⟨e, y⟩ := y
    subst e
    obtain ⟨d, hd, rp⟩ := rs'.get' (y us (SqL.of ha'))
    exact ⟨d, G1, hd, LE.refl _, I', rp⟩
  | gx as cs t => exact known (LE.refl G) I (by have : t = .lst ds := hd; rw [← this]; exact q.2.2.1)
theorem di_lst {tg : Expr} (hK : Z.cc.K = X.K) (he : PE X e (T Z w)) : PI X tg e (Ti Z (iLst w)) :=
  ⟨fun pins s σ H R I ⟨ρ, G, K, IR, hw, q⟩ => (pi_list he).run pins s σ H R I ⟨ρ, G, _, IR, hw, fun r ρ' v H' G' le I' qr k => by
    split at k
    · rename_i ds hd
      obtain ⟨a, G2, ea, le2, I2, hx, io⟩ := it_list (K := X.K) hK I' qr hd
      exact ⟨a, ea, hx, q _ _ _ ρ' H' G2 _ (le.trans le2) I2 io k⟩
    · exact k.elim⟩⟩
def iR1 (wd : DW) : IW := fun xk ρ K => wd xk ρ fun ds ρ1 => match ds with
  | [.int j] => (-(2 ^ 62) ≤ j ∧ j < 2 ^ 62) ∧ K j.toNat (fun i d => d = .int i) (fun _ => True) ρ1
  | _ => False
def iR2 (wd : DW) : IW := fun xk ρ K => wd xk ρ fun ds ρ1 => match ds with
  | [.int i, .int j] => (-(2 ^ 62) ≤ i ∧ i < 2 ^ 62 ∧ -(2 ^ 62) ≤ j ∧ j < 2 ^ 62) ∧ K (j - i).toNat (fun k d => d = .int (i + k)) (fun _ => True) ρ1
  | _ => False
theorem itr_ok {lo : Int} {n : Nat} {G : Hp} : ItOk Z (Itr lo n) n (fun k d => d = .int (lo + k)) (fun _ => True) G := by
  intro H0 xk i ρ G1 σ' H le I _
  refine ⟨fun h => h, fun h => ⟨h, fun x H' y => ?_⟩⟩
  obtain ⟨rfl, rfl⟩ := y
  exact ⟨_, G1, rfl, LE.refl _, I, rep_int⟩
theorem itr_ok0 {n : Nat} {G : Hp} : ItOk Z (Itr 0 n) n (fun k d => d = .int k) (fun _ => True) G := by
  intro H0 xk i ρ G1 σ' H le I _
  refine ⟨fun h => h, fun h => ⟨h, fun x H' y => ?_⟩⟩
  obtain ⟨rfl, rfl⟩ := y
  exact ⟨.int i, G1, rfl, LE.refl _, I, by rw [Int.zero_add]; exact rep_int⟩
theorem di_r1 {tg a : Expr} {wd : DW} {p : Pos} (hg : Gl X "range") (hm : X.mg "range" = none) (ha : PA X [a] (Ta Z wd)) (hs : starEach [a] X.env = [(false, eval a X.env)] := by rfl) : PI X tg (.Call (.Name "range" p) [a] [] pos) (Ti Z (iR1 wd)) :=
  ⟨fun pins s σ H R I ⟨ρ, G, K, IR, hw, q⟩ => (pi_range1 hg hm ha hs).run pins s σ H R I ⟨ρ, G, _, IR, hw, fun ds ρ' vs H' G' le I' rs k => by
    split at k
    · rename_i j
      obtain ⟨v, r, rfl, rv, rr⟩ := rs.inv_cons
      have := rr.inv_nil
      subst this
      unfold Rep at rv
      subst rv
      exact ⟨j, rfl, k.1.1, k.1.2, q _ _ _ ρ' H' G' _ le I' itr_ok0 k.2⟩
    · exact k.elim⟩⟩
theorem di_r2 {tg a b : Expr} {wd : DW} {p : Pos} (hg : Gl X "range") (hm : X.mg "range" = none) (ha : PA X [a, b] (Ta Z wd)) (hs : starEach [a, b] X.env = [(false, eval a X.env), (false, eval b X.env)] := by rfl) (hs2 : starEach [b] X.env = [(false, eval b X.env)] := by rfl) : PI X tg (.Call (.Name "range" p) [a, b] [] pos) (Ti Z (iR2 wd)) :=
  ⟨fun pins s σ H R I ⟨ρ, G, K, IR, hw, q⟩ => (pi_range2 hg hm ha hs hs2).run pins s σ H R I ⟨ρ, G, _, IR, hw, fun ds ρ' vs H' G' le I' rs k => by
    split at k
    · rename_i i j
      obtain ⟨v, r, rfl, rv, rr⟩ := rs.inv_cons
      obtain ⟨u, r2, rfl, ru, rr⟩ := rr.inv_cons
      have := rr.inv_nil
      subst this
      unfold Rep at rv ru
      subst rv ru
      exact ⟨i, j, rfl, k.1, q _ _ _ ρ' H' G' _ le I' itr_ok k.2⟩
    · exact k.elim⟩⟩

/-! ### a comprehension -/
abbrev xk0 : Xk := fun _ _ _ => False
abbrev Zone.ext (Z : Zone) (D : Addr) (o : HO) : Zone := { Z with H0 := upd Z.H0 D o, xk := xk0 }
theorem SR.ext {ρ : REnv} {G H : Hp} {σ : L2.St} {D : Addr} {o : HO} (I : SR Z ρ G σ H) (hD : H D = some o) (gD : G D = none) (ho : ∀ (i : Nat) (m : Bool) (b : Addr) (e : TL.D), ρ[i]? = some (.own m b e) → b ≠ D) (hm : D ∉ Z.mu) : SR (Z.ext D o) ρ G σ H := by
  refine ⟨I.len, I.sub, I.slot, I.inj, I.out, fun a u e hn => ?_, fun i m a d e => ?_, fun a ha => ?_, I.g0, I.mout, I.mux⟩
  · by_cases h : a = D
    · subst h
      have e : upd Z.H0 a o a = some u := e
      rw [upd_same] at e; cases e; exact hD
    · have e : upd Z.H0 D o a = some u := e
      rw [upd_ne h] at e; exact I.ent a u e hn
  · have := I.frs i m a d e
    cases m with
    | true => exact this
    | false => exact ⟨by show upd Z.H0 D o a = none; rw [upd_ne (ho i _ a d e)]; exact this.1, this.2⟩
  · have : a ≠ D := fun h => ha (h ▸ gD)
    rcases I.gnew a ha with z | z
    · exact .inl z
    · exact .inr (by show upd Z.H0 D o a = none; rw [upd_ne this]; exact z)
theorem SR.unext {ρ : REnv} {G H : Hp} {σ : L2.St} {D : Addr} {o : HO} (I : SR (Z.ext D o) ρ G σ H) (h0 : Z.H0 D = none) (g0 : Z.G0 D = none) (hm : D ∉ Z.mu) : SR Z ρ G σ H ∧ H D = some o ∧ G D = none ∧ ∀ (i : Nat) (m : Bool) (b : Addr) (e : TL.D), ρ[i]? = some (.own m b e) → b ≠ D := by
  have hD : H D = some o := I.ent D o (by show upd Z.H0 D o D = some o; exact upd_same) hm
  have gD : G D = none := by
    cases e : G D with
    | none => rfl
    | some u =>
      rcases I.gnew D (by rw [e]; simp) with z | z
      · exact absurd g0 z
      · have z : upd Z.H0 D o D = none := z
        rw [upd_same] at z; cases z
  refine ⟨⟨I.len, I.sub, I.slot, I.inj, I.out, fun a u e hn => ?_, fun i m a d e => ?_, fun a ha => ?_, I.g0, I.mout, I.mux⟩, hD, gD, fun i m b e h => ?_⟩
  · refine I.ent a u ?_ hn
    show upd Z.H0 D o a = some u
    rw [upd_ne (ne_of_none e h0)]; exact e
  · have := I.frs i m a d e
    cases m with
    | true => exact this
    | false =>
      have h := this.1
      have h : upd Z.H0 D o a = none := h
      by_cases z : a = D
      · subst z; rw [upd_same] at h; cases h
      · rw [upd_ne z] at h; exact ⟨h, this.2⟩
  · rcases I.gnew a ha with z | z
    · exact .inl z
    · have z : upd Z.H0 D o a = none := z
      have : a ≠ D := fun h => by subst h; rw [upd_same] at z; cases z
      rw [upd_ne this] at z; exact .inr z
  · have := I.frs i m b e h
    cases m with
    | true => exact fun z => hm (z ▸ this)
    | false =>
      rintro rfl
      have h := this.1
      have h : upd Z.H0 b o b = none := h
      rw [upd_same] at h; cases h

def wipeE (ρ : REnv) : List Nat → REnv
  | [] => ρ
  | v :: vs => (wipeE ρ vs).set v .no
def keepS (ρ1 : REnv) (v : Nat) : Sl := match ρ1[v]? with | some (.sh d) => .sh d | _ => .no
def restE (ρ1 : REnv) : List Nat → REnv → REnv
  | [], ρ => ρ
  | v :: vs, ρ => restE ρ1 vs (ρ.set v (if v ∈ vs then .no else keepS ρ1 v))
theorem SR.wipe {ρ : REnv} {G H : Hp} {σ : L2.St} (I : SR Z ρ G σ H) : ∀ vs, SR Z (wipeE ρ vs) G (L2.wipe σ vs) H
  | [] => I
  | v :: vs => (SR.wipe I vs).putNo
theorem SR.back {ρ : REnv} {G H : Hp} {σ : L2.St} {v : Nat} {x : Option V} {s : Sl} (I : SR Z ρ G (σ.set v x) H) (so : SlOk Z.cc G H v σ s) (hn : ∀ m a d, s ≠ .own m a d) : SR Z (ρ.set v s) G σ H := by
  refine ⟨by simpa using I.len, I.sub, fun j t q => ?_, fun j k m n b y c z q1 q2 hj => ?_, fun j m b y q => ?_, I.ent, fun j m b y q => ?_, I.gnew, I.g0, I.mout, I.mux⟩
  · rcases get_set q with ⟨rfl, rfl⟩ | ⟨hj, q⟩
    · exact so
    · have := I.slot j t q
      cases t with
      | no => trivial
      | sh d => obtain ⟨u, eu, ru⟩ := this; rw [List.getElem?_set_ne (Ne.symm hj)] at eu; exact ⟨u, eu, ru⟩
      | own m a d => obtain ⟨eu, ru⟩ := this; exact ⟨owns_unset hj eu, ru⟩
  · rcases get_set q1 with ⟨_, q1⟩ | ⟨_, q1⟩
    · exact absurd q1.symm (hn _ _ _)
    · rcases get_set q2 with ⟨_, q2⟩ | ⟨_, q2⟩
      · exact absurd q2.symm (hn _ _ _)
      · exact I.inj j k m n b y c z q1 q2 hj
  · rcases get_set q with ⟨_, q⟩ | ⟨_, q⟩
    · exact absurd q.symm (hn _ _ _)
    · exact I.out j m b y q
  · rcases get_set q with ⟨_, q⟩ | ⟨_, q⟩
    · exact absurd q.symm (hn _ _ _)
    · exact I.frs j m b y q
theorem wipe_get {σ : L2.St} {v : Nat} : ∀ {vs : List Nat}, v ∉ vs → (L2.wipe σ vs)[v]? = σ[v]?
  | [], _ => rfl
  | u :: vs, h => by
    have h1 : u ≠ v := by rintro rfl; exact h List.mem_cons_self
    show ((L2.wipe σ vs).set u none)[v]? = σ[v]?
    rw [List.getElem?_set_ne h1]
    exact wipe_get fun z => h (List.mem_cons_of_mem _ z)
theorem SR.unwipe {ρ1 : REnv} {G1 H1 : Hp} {σ : L2.St} (I1 : SR Z ρ1 G1 σ H1) {G H : Hp} (le : LE G1 G) : ∀ (vs : List Nat) {ρ : REnv}, SR Z ρ G (L2.wipe σ vs) H → SR Z (restE ρ1 vs ρ) G σ H
  | [], _, I => I
  | v :: vs, ρ, I => by
    unfold restE
    by_cases hv : v ∈ vs
    · rw [if_pos hv]
      exact SR.unwipe I1 le vs (SR.back (x := none) (s := .no) I trivial fun _ _ _ => by simp)
    · rw [if_neg hv]
      refine SR.unwipe I1 le vs (SR.back (x := none) I ?_ ?_)
      · unfold keepS
        cases hs : ρ1[v]? with
        | none => exact trivial
        | some s =>
          cases s with
          | no => exact trivial
          | own m a d => exact trivial
          | sh d =>
            obtain ⟨u, eu, ru⟩ := I1.slot v _ hs
            exact ⟨u, by rw [wipe_get hv]; exact eu, ru.mono le⟩
      · intro m a d
        unfold keepS
        split <;> simp

def tYesW : TW := fun _ ρ K => K true ρ
theorem dts_nil {X : Cx} {Z : Zone} : PTs X [] (Tt Z tYesW) := ⟨fun pins s σ H Q I ⟨ρ, G, K, IR, hw, q⟩ => pts_nil.run pins s σ H Q I (q true ρ H G (LE.refl G) IR hw)⟩
theorem dts_one {X : Cx} {Z : Zone} {c : Expr} {t : TW} (h : PT X c (Tt Z t)) : PTs X [c] (Tt Z t) := pts_one h
/-- [elt for tg in iter if t] -/
def eComp (iw : IW) (g : GW) (t : TW) (we : EW) (vs : List Nat) : EW := fun xk ρ K => iw xk ρ fun n f st ρ1 => ∃ W : Nat → List D → REnv → Prop, W 0 [] (wipeE ρ1 vs) ∧ (∀ i acc ρ, i ≤ n → W i acc ρ → st ρ) ∧
  (∀ i d acc ρ, i < n → f i d → W i acc ρ → g d ρ fun ρ2 => t xk0 ρ2 fun c ρ3 => (c = true → we xk0 ρ3 fun r ρ4 => stl r ρ4 fun e ρ5 => acc.length < sizeLine ∧ W (i + 1) (acc ++ [e]) (wipeE ρ5 vs)) ∧ (c = false → W (i + 1) acc (wipeE ρ3 vs))) ∧
  ∀ acc ρ, W n acc ρ → ∀ a, K (.fr a (.lst acc)) (restE ρ1 vs ρ)

theorem wipe_set {σ : L2.St} {i : Nat} {x : Option V} : ∀ {vs : List Nat}, i ∈ vs → L2.wipe (σ.set i x) vs = L2.wipe σ vs
  | [], h => by simp at h
  | u :: vs, h => by
    show (L2.wipe (σ.set i x) vs).set u none = (L2.wipe σ vs).set u none
    by_cases hi : i ∈ vs
    · rw [wipe_set hi]
    · have : i = u := (List.mem_cons.mp h).resolve_right hi
      subst this
      have sw : ∀ {ws : List Nat}, i ∉ ws → L2.wipe (σ.set i x) ws = (L2.wipe σ ws).set i x := by
        intro ws
        induction ws with
        | nil => intro _; rfl
        | cons w ws ih =>
          intro hw
          show (L2.wipe (σ.set i x) ws).set w none = ((L2.wipe σ ws).set w none).set i x
          rw [ih fun z => hw (List.mem_cons_of_mem _ z)]
          exact List.set_comm _ _ (by rintro rfl; exact hw List.mem_cons_self)
      rw [sw hi, List.set_set]
theorem wipe_wipe {σ : L2.St} : ∀ {vs : List Nat}, L2.wipe (L2.wipe σ vs) vs = L2.wipe σ vs := by
  intro vs
  have : ∀ ws, (∀ i ∈ ws, i ∈ vs) → L2.wipe (L2.wipe σ ws) vs = L2.wipe σ vs := by
    intro ws
    induction ws with
    | nil => intro _; rfl
    | cons w ws ih =>
      intro h
      show L2.wipe ((L2.wipe σ ws).set w none) vs = _
      rw [wipe_set (h w List.mem_cons_self)]
      exact ih fun i hi => h i (List.mem_cons_of_mem _ hi)
  exact this vs fun _ h => h
/-- a target within a comprehension: only the comprehension's own slots vs are stored -/
def Tgc (Z : Zone) (vs : List Nat) (g : GW) : TG := fun v σ H Q => ∃ D o ρ G d K, SR (Z.ext D o) ρ G σ H ∧ Rep Z.cc G v d ∧ g d ρ K ∧ ∀ ρ' σ' G', LE G G' → SR (Z.ext D o) ρ' G' σ' H → L2.wipe σ' vs = L2.wipe σ vs → K ρ' → Q σ' H
def Tgcs (Z : Zone) (vs : List Nat) (g : GWs) : TGs := fun us σ H Q => ∃ D o ρ G ds K, SR (Z.ext D o) ρ G σ H ∧ Reps Z.cc G us ds ∧ g ds ρ K ∧ ∀ ρ' σ' G', LE G G' → SR (Z.ext D o) ρ' G' σ' H → L2.wipe σ' vs = L2.wipe σ vs → K ρ' → Q σ' H
theorem dgc_name {X : Cx} {Z : Zone} {pos : Pos} {i : Nat} {x : Str} {vs : List Nat} (hN : X.N.Nodup) (hm : i ∈ vs := by decide) (hi : X.N[i]? = some x := by rfl) (hx : Loc X.env.scope x := by first | exact Or.inl rfl | exact Or.inr rfl) (hf : X.fn x = true ∨ X.env.scope.names.lookup x = some .local := by first | exact .inl rfl | exact .inr rfl | assumption) : PG X (.Name x pos) (Tgc Z vs (gN i)) :=
  ⟨fun pins s σ H v u Q I r ⟨D, o, ρ, G, d, K, IR, rp, k, q⟩ => (pg_name hN hi hx hf).run pins s σ H v u Q I r (q _ _ G (LE.refl G) (IR.put (lt_len I hi) rp) (wipe_set hm) k)⟩
theorem dgcs_nil {X : Cx} {Z : Zone} {vs : List Nat} : PGs X [] (Tgcs Z vs gNl) := ⟨fun pins s σ H us vv Q I r ⟨D, o, ρ, G, ds, K, IR, rp, k, q⟩ => pgs_nil.run pins s σ H us vv Q I r (by
  obtain ⟨e, k⟩ := k
  subst e
  exact ⟨rp.inv_nil, q ρ σ G (LE.refl G) IR rfl k⟩)⟩
theorem dgcs_cons {X : Cx} {Z : Zone} {vs : List Nat} {e : Expr} {es : List Expr} {g : GW} {gs : GWs} (h1 : PG X e (Tgc Z vs g)) (h2 : PGs X es (Tgcs Z vs gs))
    (hs : (assignEach (e :: es) X.env).map (·.2) = assign e X.env :: (assignEach es X.env).map (·.2) := by rfl) : PGs X (e :: es) (Tgcs Z vs (gCn g gs)) :=
  ⟨fun pins s σ H us uu Q I r ⟨D, o, ρ, G, ds, K, IR, rp, k, q⟩ => (pgs_cons h1 h2 hs).run pins s σ H us uu Q I r (by
    match ds, k with
    | d :: dr, k =>
      obtain ⟨v, vr, rfl, rv, rs⟩ := rp.inv_cons
      exact ⟨v, vr, rfl, D, o, ρ, G, d, _, IR, rv, k, fun ρ' σ' G' le I' w1 k' => ⟨D, o, ρ', G', dr, K, I', rs.mono le, k', fun ρ2 σ2 G2 le2 I2 w2 k2 => q ρ2 σ2 G2 (le.trans le2) I2 (w2.trans w1) k2⟩⟩)⟩
theorem dgc_tup {X : Cx} {Z : Zone} {pos : Pos} {vs : List Nat} {es : List Expr} {k : Nat} {gs : GWs} {n : Nat} (hc : X.calm = true) (h : PGs X es (Tgcs Z vs gs))
    (hn : (assignEach es X.env).length = n := by rfl) (hst : (assignEach es X.env).findIdx? (·.1) = none := by rfl) : PG X (.Tuple es k pos) (Tgc Z vs (gTp n gs)) :=
  ⟨fun pins s σ H v u Q I r ⟨D, o, ρ, G, d, K, IR, rp, k, q⟩ => (pg_tup (n := n) hc h hn hst).run pins s σ H v u Q I r (by
    cases d <;> try exact (k : False).elim
    rename_i ds
    unfold Rep at rp
    obtain ⟨a, us, e, ga, rs⟩ := rp
    exact ⟨a, us, e, SqT.of (IR.sub _ _ ga), by rw [rs.length]; exact k.1, D, o, ρ, G, ds, K, IR, rs, k.2, q⟩)⟩
def TX (Z : Zone) (w : EW) : TE := fun σ H Q => ∃ D o, T (Z.ext D o) w σ H Q
def TtX (Z : Zone) (w : TW) : TT := fun σ H Q => ∃ D o, Tt (Z.ext D o) w σ H Q
/-- another object, that no slot and no known part speaks of, is changed -/
theorem SR.other {Z : Zone} {ρ : REnv} {G H : Hp} {σ : L2.St} {p : Addr} {o : HO} (I : SR Z ρ G σ H) (gp : G p = none) (ow : ∀ (i : Nat) (m : Bool) (b : Addr) (e : D), ρ[i]? = some (.own m b e) → b ≠ p) (h0 : Z.H0 p = none) (hm : p ∉ Z.mu) : SR Z ρ G σ (upd H p o) := by
  refine ⟨I.len, fun a u e => ?_, fun i s e => ?_, I.inj, I.out, fun a u e hn => ?_, I.frs, I.gnew, I.g0, I.mout, fun a ha => ?_⟩
  · rw [upd_ne (ne_of_none e gp)]; exact I.sub a u e
  · have q := I.slot i s e
    cases s with
    | no => trivial
    | sh d => exact q
    | own m a d => exact ⟨q.1, q.2.heap fun u hu => by rw [upd_ne (ow i m a d e)]; exact hu⟩
  · rw [upd_ne (ne_of_none e h0)]; exact I.ent a u e hn
  · have : a ≠ p := fun h => hm (h ▸ ha)
    rw [upd_ne this]; exact I.mux a ha
theorem restE_own {ρ1 : REnv} : ∀ {vs : List Nat} {ρ : REnv} {i : Nat} {m : Bool} {b : Addr} {e : D}, (restE ρ1 vs ρ)[i]? = some (.own m b e) → ρ[i]? = some (.own m b e)
  | [], _, _, _, _, _, h => h
  | v :: vs, ρ, i, m, b, e, h => by
    unfold restE at h
    have h := restE_own h
    rcases get_set h with ⟨_, h⟩ | ⟨_, h⟩
    · exfalso
      revert h
      split
      · intro h; cases h
      · unfold keepS
        split <;> (intro h; cases h)
    · exact h
theorem wipeE_own : ∀ {vs : List Nat} {ρ : REnv} {i : Nat} {m : Bool} {b : Addr} {e : D}, (wipeE ρ vs)[i]? = some (.own m b e) → ρ[i]? = some (.own m b e)
  | [], _, _, _, _, _, h => h
  | v :: vs, ρ, i, m, b, e, h => by
    unfold wipeE at h
    rcases get_set h with ⟨_, h⟩ | ⟨_, h⟩
    · cases h
    · exact wipeE_own h

theorem T.comp {Z : Zone} {iw : IW} {g : GW} {t : TW} {we : EW} {vs : List Nat} {σ : L2.St} {H : Hp} {Q : VK}
    (h : T Z (eComp iw g t we vs) σ H Q) : tLc (Ti Z iw) (Tgc Z vs g) (TtX Z t) (TX Z we) vs σ H Q := by
  obtain ⟨ρ, G, K, IR, hw, q⟩ := h
  refine ⟨ρ, G, _, IR, hw, fun n f st ρ1 H1 G1 J le1 I1 io ⟨W, w0, stb, turn, fin⟩ Dd hD => ?_⟩
  obtain ⟨h0, hm⟩ := I1.h0 hD
  have gD1 := I1.g hD
  have g0 : Z.G0 Dd = none := by
    cases e : Z.G0 Dd with
    | none => rfl
    | some u => have := I1.g0 _ _ e; rw [gD1] at this; cases this
  refine ⟨fun i m H' => m = n - i ∧ i ≤ n ∧ ∃ acc ρ' G' va, LE G1 G' ∧ SR Z ρ' G' (L2.wipe σ vs) H' ∧ H' Dd = some (.lst va) ∧ Reps Z.cc G' va acc ∧ G' Dd = none ∧ (∀ (i : Nat) (m : Bool) (b : Addr) (e : D), ρ'[i]? = some (.own m b e) → b ≠ Dd) ∧ W i acc ρ',
    ⟨n, by simp, Nat.zero_le _, [], wipeE ρ1 vs, G1, [], LE.refl G1, (I1.newH hD).wipe vs, upd_same, Reps.nil, gD1, fun i m b e h => I1.own_ne (wipeE_own h) hD, w0⟩, ?_⟩
  rintro i m H' ⟨rfl, hin, acc, ρ', G', va, le', I', hDl, rs, gD, ow, w'⟩
  have Ix := I'.ext hDl gD ow hm
  obtain ⟨s1, s2⟩ := io _ _ i ρ' G' (L2.wipe σ vs) H' le' Ix (stb i acc ρ' hin w')
  by_cases hlt : i < n
  · obtain ⟨go, yl⟩ := s2 hlt
    refine .inr ⟨go, fun H2 => ∃ acc ρ' G' va, LE G1 G' ∧ SR Z ρ' G' (L2.wipe σ vs) H2 ∧ H2 Dd = some (.lst va) ∧ Reps Z.cc G' va acc ∧ G' Dd = none ∧ (∀ (i : Nat) (m : Bool) (b : Addr) (e : D), ρ'[i]? = some (.own m b e) → b ≠ Dd) ∧ W (i + 1) acc ρ',
      fun H2 h => ⟨n - (i + 1), by omega, rfl, hlt, h⟩, fun x H2 y => ?_⟩
    obtain ⟨d, G2, fd, le2, I2, rp⟩ := yl x H2 y
    refine ⟨Dd, .lst va, ρ', G2, d, _, I2, rp, turn i d acc ρ' hlt fd w', fun ρ3 σ3 G3 le3 I3 hw3 k3 => ?_⟩
    rw [wipe_wipe] at hw3
    refine ⟨hw3, Dd, .lst va, ρ3, G3, _, I3, k3, fun c ρ4 H4 G4 le4 I4 k4 => ?_⟩
    have l4 := ((le'.trans le2).trans le3).trans le4
    cases c with
    | true =>
      refine iteT ?_
      refine ⟨Dd, .lst va, ρ4, G4, _, I4, k4.1 rfl, fun r ρ5 yv H5 G5 le5 I5 q5 k5 => ?_⟩
      obtain ⟨e, ρ6, G6, le6, I6, rpe, ⟨hl, k6⟩, _⟩ := I5.settle q5 k5
      obtain ⟨J6, hD6, gD6, ow6⟩ := I6.unext h0 g0 hm
      refine ⟨va, hD6, by rw [rs.length]; exact hl, acc ++ [e], wipeE ρ6 vs, G6, va ++ [yv], (l4.trans le5).trans le6, ?_, upd_same, ?_, gD6, fun i m b e h => ow6 i m b e (wipeE_own h), k6⟩
      · have := J6.wipe vs
        rw [hw3] at this
        exact this.other gD6 (fun i m b e h => ow6 i m b e (wipeE_own h)) h0 hm
      · exact (rs.mono ((((le2.trans le3).trans le4).trans le5).trans le6)).append (Reps.cons rpe Reps.nil)
    | false =>
      refine iteF ?_
      obtain ⟨J4, hD4, gD4, ow4⟩ := I4.unext h0 g0 hm
      refine ⟨acc, wipeE ρ4 vs, G4, va, l4, ?_, hD4, rs.mono ((le2.trans le3).trans le4), gD4, fun i m b e h => ow4 i m b e (wipeE_own h), k4.2 rfl⟩
      have := J4.wipe vs
      rw [hw3] at this
      exact this
  · have e : i = n := by omega
    subst e
    refine .inl ⟨s1 (Nat.le_refl _), q (.fr Dd (.lst acc)) (restE ρ1 vs ρ') _ H' G' (le1.trans le') (I1.unwipe le' vs I') ?_ (fin acc ρ' w' Dd)⟩
    exact ⟨rfl, ⟨va, hDl, rs⟩, gD, fun i m b e h => ow i m b e (restE_own h), h0, hm⟩
end
section
variable {X : Cx} {Z : Zone}
theorem de_comp {elt tg iter : Expr} {ifs : List Expr} {scope : Scope} {own : List (Str × Nat)} {pos : Pos} {iw : IW} {g : GW} {t : TW} {we : EW} (hc : X.calm = true) (hN : X.N.Nodup) (hi : PI X tg iter (Ti Z iw)) (ok : BlkOk X.N X.env.scope scope own)
    (hg : ∀ (s : Shared) (H : Hp) (C : Addr) (cl : List (Str × Addr)) (fp : List Addr), PG (X.blk s H scope (compEnvC scope cl C X.env) fp) tg (Tgc Z (own.map (·.2)) g))
    (ht : ∀ (D : Addr) (o : HO) (s : Shared) (H : Hp) (C : Addr) (cl : List (Str × Addr)) (fp : List Addr), PTs (X.blk s H scope (compEnvC scope cl C X.env) fp) ifs (Tt (Z.ext D o) t))
    (he : ∀ (D : Addr) (o : HO) (s : Shared) (H : Hp) (C : Addr) (cl : List (Str × Addr)) (fp : List Addr), PE (X.blk s H scope (compEnvC scope cl C X.env) fp) elt (T (Z.ext D o) we)) (hs : ∀ x, foldedSetIterable iter X.env x = pure x := by intro _; rfl) :
    PE X (.ListComp elt [⟨tg, iter, ifs, 0⟩] scope pos) (T Z (eComp iw g t we (own.map (·.2)))) :=
  ⟨fun pins s σ H Q I h => (pe_lc hc hN hi ok hg (tt := TtX Z t) (te := TX Z we)
    (fun s H C cl fp => ⟨fun pins s' σ H Q I ⟨D, o, h⟩ => (ht D o s _ C cl fp).run pins s' σ H Q I h⟩) (fun s H C cl fp => ⟨fun pins s' σ H Q I ⟨D, o, h⟩ => (he D o s _ C cl fp).run pins s' σ H Q I h⟩) hs).run pins s σ H Q I (T.comp h)⟩
/-- x = [..] on one line -/
theorem ds_setLc {i : Nat} {y : Str} {py : Pos} {elt tg iter : Expr} {ifs : List Expr} {scope : Scope} {own : List (Str × Nat)} {pos spos : Pos} {iw : IW} {g : GW} {t : TW} {we : EW} (hc : X.calm = true) (hN : X.N.Nodup) 
    (hi : PI X tg iter (Ti Z iw)) (ok : BlkOk X.N X.env.scope scope own)
    (hg : ∀ (s : Shared) (H : Hp) (C : Addr) (cl : List (Str × Addr)) (fp : List Addr), PG (X.blk s H scope (compEnvC scope cl C X.env) fp) tg (Tgc Z (own.map (·.2)) g))
    (ht : ∀ (D : Addr) (o : HO) (s : Shared) (H : Hp) (C : Addr) (cl : List (Str × Addr)) (fp : List Addr), PTs (X.blk s H scope (compEnvC scope cl C X.env) fp) ifs (Tt (Z.ext D o) t))
    (he : ∀ (D : Addr) (o : HO) (s : Shared) (H : Hp) (C : Addr) (cl : List (Str × Addr)) (fp : List Addr), PE (X.blk s H scope (compEnvC scope cl C X.env) fp) elt (T (Z.ext D o) we))
    (hsw : swapsWith (.ListComp elt [⟨tg, iter, ifs, 0⟩] scope pos) (some (.Name y py)) spos.line X.env = pure true)
    (hy : X.N[i]? = some y := by rfl) (hyl : X.env.scope.names.lookup y = some .local := by rfl) (hs : ∀ x, foldedSetIterable iter X.env x = pure x := by intro _; rfl) :
    PS X (.Assign [.Name y py] (.ListComp elt [⟨tg, iter, ifs, 0⟩] scope pos) spos) (Ts Z (sSet i (eComp iw g t we (own.map (·.2))))) :=
  ⟨fun pins s σ H D I ⟨ρ, G, K, IR, hw, l⟩ => (ps_setLc hc hN hy hyl hsw hi ok hg (tt := TtX Z t) (te := TX Z we)
    (fun s H C cl fp => ⟨fun pins s' σ H Q I ⟨D, o, h⟩ => (ht D o s _ C cl fp).run pins s' σ H Q I h⟩) (fun s H C cl fp => ⟨fun pins s' σ H Q I ⟨D, o, h⟩ => (he D o s _ C cl fp).run pins s' σ H Q I h⟩) hs).run pins s σ H D I
    (T.comp ⟨ρ, G, _, IR, hw, fun r ρ' v H' G' le I' q k => by
      obtain ⟨ρ2, G2, le2, I2, k2⟩ := I'.place (lt_len I hy) q k
      exact l.nx ρ2 _ H' G2 (le.trans le2) I2 k2⟩)⟩
end
end TL

namespace TL
open PySem PySem.Spec L2

/-! ### a def's promise over trees -/
inductive Arg where
  | ro (d : D) | mu (d : D) | gh (b : Addr) (d : D)
abbrev FSpec := List Arg → (Ro → List D → Prop) → (Nat → D → Prop) → Prop
def ArgsOk (cc : CC) (G0 H : Hp) : List V → List Arg → List Addr → Prop
  | [], [], [] => True
  | v :: vs, .ro d :: r, mus => Rep cc G0 v d ∧ ArgsOk cc G0 H vs r mus
  | v :: vs, .mu d :: r, a :: mus => v = .ref a ∧ G0 a = none ∧ Root cc G0 H a d ∧ a ∉ mus ∧ ArgsOk cc G0 H vs r mus
  | vs, .gh b d :: r, a :: mus => b = a ∧ G0 a = none ∧ Root cc G0 H a d ∧ a ∉ mus ∧ ArgsOk cc G0 H vs r mus
  | _, _, _ => False
def MusOk (cc : CC) (G H : Hp) : List Addr → List D → Prop
  | [], [] => True
  | a :: mus, d :: ds => Root cc G H a d ∧ G a = none ∧ MusOk cc G H mus ds
  | _, _ => False
def ResOk (cc : CC) (G H H' : Hp) (v : V) : Ro → Prop
  | .sh d => Rep cc G v d
  | .fr d => ∃ a, v = .ref a ∧ Root cc G H' a d ∧ G a = none ∧ H a = none
  | .gx as cs t => as.Nodup ∧ as.length = cs.length ∧ Rep cc G v t ∧ ∀ (i : Nat) (a : Addr) (d : D), as[i]? = some a → cs[i]? = some d → Root cc G H' a d ∧ G a = none ∧ H a = none
/-- the classes: of objects, of errors -/
structure Ccs where
  cc : CC
  xc : Nat → Addr
/-- .. of a def that raises nothing -/
def LSp0 (C : Ccs) (sp : FSpec) (np : Nat) : Sp := fun vs H Q _ => vs.length = np ∧ ∃ args G0 mus kr, LE G0 H ∧ ArgsOk C.cc G0 H vs args mus ∧ sp args kr (fun _ _ => False) ∧
  (∀ o ds v H' G', LE G0 G' → LE G' H' → (∀ a u, H a = some u → a ∉ mus → H' a = some u) → (∀ a, G' a ≠ none → G0 a ≠ none ∨ H a = none) → MusOk C.cc G' H' mus ds → ResOk C.cc G' H H' v o → kr o ds → Q v H')

def slotsOf : List Arg → List Addr → REnv
  | [], _ => []
  | .ro d :: r, mus => .sh d :: slotsOf r mus
  | .mu d :: r, a :: mus => .own true a d :: slotsOf r mus
  | .mu _ :: r, [] => .no :: slotsOf r []
  | .gh _ _ :: r, _ :: mus => slotsOf r mus
  | .gh _ _ :: r, [] => slotsOf r []
/-- the ghosts that are handed in to be changed -/
def ghOf : List Arg → List Addr → REnv
  | [], _ => []
  | .ro _ :: r, mus => ghOf r mus
  | .mu _ :: r, _ :: mus => ghOf r mus
  | .mu _ :: r, [] => ghOf r []
  | .gh _ d :: r, a :: mus => .own true a d :: ghOf r mus
  | .gh _ _ :: r, [] => ghOf r []
def valN : List Arg → Nat
  | [] => 0
  | .ro _ :: r => valN r + 1
  | .mu _ :: r => valN r + 1
  | .gh _ _ :: r => valN r
def envOf (args : List Arg) (mus : List Addr) (n : Nat) : REnv := slotsOf args mus ++ (List.replicate (n - valN args) .no ++ ghOf args mus)
/-- the arguments that may be changed, at the end -/
def exMu : List Arg → List Addr → REnv → (List D → Prop) → Prop
  | [], [], _, k => k []
  | .ro _ :: r, mus, _ :: ρ, k => exMu r mus ρ k
  | .mu _ :: r, a :: mus, s :: ρ, k => match s with
    | .own true b d => b = a ∧ exMu r mus ρ fun ds => k (d :: ds)
    | _ => False
  | .gh _ _ :: r, a :: mus, ρ, k => ∃ d, .own true a d ∈ ρ ∧ exMu r mus ρ fun ds => k (d :: ds)
  | _, _, _, _ => False
def resK (r : Rv) (ρ : REnv) (k : Ro → Prop) : Prop := match r with
  | .loc i => match ρ[i]? with
    | some (.sh d) => k (.sh d)
    | some (.own false _ d) => k (.fr d)
    | _ => False
  | .sh d => k (.sh d)
  | .fr _ d => k (.fr d)
  | .gh j _ => match ρ[j]? with
    | some (.own false _ d) => k (.fr d)
    | _ => False
  | .gx as cs t => k (.gx as cs t)
def endK (args : List Arg) (mus : List Addr) (kr : Ro → List D → Prop) (r : Rv) (ρ : REnv) : Prop := resK r ρ fun o => exMu args mus ρ fun ds => kr o ds
def muN : List Arg → Nat
  | [] => 0
  | .ro _ :: r => muN r
  | .mu _ :: r => muN r + 1
  | .gh _ _ :: r => muN r + 1
/-- the body b keeps the promise sp, with n names -/
def Sat (n : Nat) (sp : FSpec) (b : SW) : Prop := ∀ (args : List Arg) (mus : List Addr) (kr : Ro → List D → Prop) (kx : Nat → D → Prop), mus.length = muN args → sp args kr kx →
  b (fun c d _ => kx c d) (envOf args mus n) { nx := endK args mus kr (.sh .non), rt := endK args mus kr }

theorem ArgsOk.muN {cc : CC} {G0 H : Hp} : ∀ {vs : List V} {args : List Arg} {mus : List Addr}, ArgsOk cc G0 H vs args mus → mus.length = TL.muN args
  | [], [], [], _ => rfl
  | v :: vs, .ro d :: r, mus, h => ArgsOk.muN (args := r) h.2
  | v :: vs, .mu d :: r, a :: mus, h => by simp [TL.muN, ArgsOk.muN (args := r) h.2.2.2.2]
  | [], .gh b d :: r, a :: mus, h => by simp [TL.muN, ArgsOk.muN (args := r) h.2.2.2.2]
  | v :: vs, .gh b d :: r, a :: mus, h => by simp [TL.muN, ArgsOk.muN (args := r) h.2.2.2.2]
  | [], .gh _ _ :: _, [], h => by unfold ArgsOk at h; exact h.elim
  | _ :: _, .gh _ _ :: _, [], h => by unfold ArgsOk at h; exact h.elim
  | [], [], _ :: _, h => h.elim
  | [], .ro _ :: _, _, h => by unfold ArgsOk at h; exact h.elim
  | [], .mu _ :: _, _, h => by unfold ArgsOk at h; exact h.elim
  | _ :: _, [], _, h => by unfold ArgsOk at h; exact h.elim
  | _ :: _, .mu _ :: _, [], h => by unfold ArgsOk at h; exact h.elim
theorem slots_len : ∀ (args : List Arg) (mus : List Addr), (slotsOf args mus).length = valN args
  | [], _ => rfl
  | .ro d :: r, mus => by simp [slotsOf, valN, slots_len r mus]
  | .mu d :: r, a :: mus => by simp [slotsOf, valN, slots_len r mus]
  | .mu d :: r, [] => by simp [slotsOf, valN, slots_len r []]
  | .gh b d :: r, a :: mus => by simp [slotsOf, valN, slots_len r mus]
  | .gh b d :: r, [] => by simp [slotsOf, valN, slots_len r []]
theorem ArgsOk.len {cc : CC} {G0 H : Hp} : ∀ {vs : List V} {args : List Arg} {mus : List Addr}, ArgsOk cc G0 H vs args mus → vs.length = valN args
  | [], [], [], _ => rfl
  | v :: vs, .ro d :: r, mus, h => by simp [valN, ArgsOk.len (args := r) h.2]
  | v :: vs, .mu d :: r, a :: mus, h => by simp [valN, ArgsOk.len (args := r) h.2.2.2.2]
  | [], .gh b d :: r, a :: mus, h => by simp [valN, ← ArgsOk.len (args := r) h.2.2.2.2]
  | v :: vs, .gh b d :: r, a :: mus, h => by simp [valN, ← ArgsOk.len (args := r) h.2.2.2.2]
  | [], .gh _ _ :: _, [], h => by unfold ArgsOk at h; exact h.elim
  | _ :: _, .gh _ _ :: _, [], h => by unfold ArgsOk at h; exact h.elim
  | [], [], _ :: _, h => h.elim
  | [], .ro _ :: _, _, h => by unfold ArgsOk at h; exact h.elim
  | [], .mu _ :: _, _, h => by unfold ArgsOk at h; exact h.elim
  | _ :: _, [], _, h => by unfold ArgsOk at h; exact h.elim
  | _ :: _, .mu _ :: _, [], h => by unfold ArgsOk at h; exact h.elim
theorem ArgsOk.slot {cc : CC} {G0 H : Hp} : ∀ {vs : List V} {args : List Arg} {mus : List Addr}, ArgsOk cc G0 H vs args mus → ∀ (i : Nat) (s : Sl), (slotsOf args mus)[i]? = some s →
    ∃ v, vs[i]? = some v ∧ ((∃ d, s = .sh d ∧ Rep cc G0 v d) ∨ ∃ a d, s = .own true a d ∧ v = .ref a ∧ G0 a = none ∧ Root cc G0 H a d ∧ a ∈ mus)
  | [], [], [], _, i, s, e => by simp [slotsOf] at e
  | v :: vs, .ro d :: r, mus, h, 0, s, e => by
    simp [slotsOf] at e; subst e
    exact ⟨v, rfl, .inl ⟨d, rfl, h.1⟩⟩
  | v :: vs, .ro d :: r, mus, h, i + 1, s, e => by
    simp [slotsOf] at e
    obtain ⟨u, e1, e2⟩ := ArgsOk.slot h.2 i s e
    exact ⟨u, by simpa using e1, e2⟩
  | v :: vs, .mu d :: r, a :: mus, h, 0, s, e => by
    simp [slotsOf] at e; subst e
    exact ⟨v, rfl, .inr ⟨a, d, rfl, h.1, h.2.1, h.2.2.1, List.mem_cons_self⟩⟩
  | v :: vs, .mu d :: r, a :: mus, h, i + 1, s, e => by
    simp [slotsOf] at e
    obtain ⟨u, e1, e2⟩ := ArgsOk.slot h.2.2.2.2 i s e
    refine ⟨u, by simpa using e1, ?_⟩
    rcases e2 with q | ⟨b, x, q1, q2, q3, q4, q5⟩
    · exact .inl q
    · exact .inr ⟨b, x, q1, q2, q3, q4, List.mem_cons_of_mem _ q5⟩
  | [], .gh b d :: r, c :: mus, h, i, s, e => by
    obtain ⟨u, e1, e2⟩ := ArgsOk.slot (args := r) h.2.2.2.2 i s e
    simp at e1
  | v :: vs, .gh b d :: r, c :: mus, h, i, s, e => by
    obtain ⟨u, e1, e2⟩ := ArgsOk.slot (args := r) h.2.2.2.2 i s e
    refine ⟨u, e1, ?_⟩
    rcases e2 with q | ⟨b, x, q1, q2, q3, q4, q5⟩
    · exact .inl q
    · exact .inr ⟨b, x, q1, q2, q3, q4, List.mem_cons_of_mem _ q5⟩
  | [], .gh _ _ :: _, [], h, _, _, _ => by unfold ArgsOk at h; exact h.elim
  | _ :: _, .gh _ _ :: _, [], h, _, _, _ => by unfold ArgsOk at h; exact h.elim
  | [], [], _ :: _, h, _, _, _ => h.elim
  | [], .ro _ :: _, _, h, _, _, _ => by unfold ArgsOk at h; exact h.elim
  | [], .mu _ :: _, _, h, _, _, _ => by unfold ArgsOk at h; exact h.elim
  | _ :: _, [], _, h, _, _, _ => by unfold ArgsOk at h; exact h.elim
  | _ :: _, .mu _ :: _, [], h, _, _, _ => by unfold ArgsOk at h; exact h.elim
theorem ArgsOk.inj {cc : CC} {G0 H : Hp} : ∀ {vs : List V} {args : List Arg} {mus : List Addr}, ArgsOk cc G0 H vs args mus → ∀ (i j : Nat) (p q : Bool) (a : Addr) (d : D) (b : Addr) (e : D), (slotsOf args mus)[i]? = some (.own p a d) → (slotsOf args mus)[j]? = some (.own q b e) → i ≠ j → a ≠ b
  | [], [], [], _, i, j, _, _, _, _, _, _, e, _, _ => by simp [slotsOf] at e
  | v :: vs, .ro d :: r, mus, h, 0, _, _, _, _, _, _, _, e, _, _ => by simp [slotsOf] at e
  | v :: vs, .ro d :: r, mus, h, _ + 1, 0, _, _, _, _, _, _, _, e, _ => by simp [slotsOf] at e
  | v :: vs, .ro d :: r, mus, h, i + 1, j + 1, p, q, a, x, b, y, e1, e2, hn => by
    simp [slotsOf] at e1 e2
    exact ArgsOk.inj h.2 i j p q a x b y e1 e2 (by omega)
  | v :: vs, .mu d :: r, c :: mus, h, 0, 0, _, _, _, _, _, _, _, _, hn => absurd rfl hn
  | v :: vs, .mu d :: r, c :: mus, h, 0, j + 1, p, q, a, x, b, y, e1, e2, _ => by
    simp [slotsOf] at e1 e2
    obtain ⟨u, _, hq⟩ := ArgsOk.slot h.2.2.2.2 j _ e2
    rcases hq with ⟨_, hq, _⟩ | ⟨_, _, hq, _, _, _, hm⟩
    · cases hq
    · cases hq
      rintro rfl
      exact h.2.2.2.1 (e1.2.1 ▸ hm)
  | v :: vs, .mu d :: r, c :: mus, h, i + 1, 0, p, q, a, x, b, y, e1, e2, _ => by
    simp [slotsOf] at e1 e2
    obtain ⟨u, _, hq⟩ := ArgsOk.slot h.2.2.2.2 i _ e1
    rcases hq with ⟨_, hq, _⟩ | ⟨_, _, hq, _, _, _, hm⟩
    · cases hq
    · cases hq
      rintro rfl
      exact h.2.2.2.1 (e2.2.1 ▸ hm)
  | v :: vs, .mu d :: r, c :: mus, h, i + 1, j + 1, p, q, a, x, b, y, e1, e2, hn => by
    simp [slotsOf] at e1 e2
    exact ArgsOk.inj h.2.2.2.2 i j p q a x b y e1 e2 (by omega)
  | [], .gh _ _ :: r, c :: mus, h, i, j, p, q, a, x, b, y, e1, e2, hn => ArgsOk.inj (args := r) h.2.2.2.2 i j p q a x b y e1 e2 hn
  | v :: vs, .gh _ _ :: r, c :: mus, h, i, j, p, q, a, x, b, y, e1, e2, hn => ArgsOk.inj (args := r) h.2.2.2.2 i j p q a x b y e1 e2 hn
  | [], .gh _ _ :: _, [], h, _, _, _, _, _, _, _, _, _, _, _ => by unfold ArgsOk at h; exact h.elim
  | _ :: _, .gh _ _ :: _, [], h, _, _, _, _, _, _, _, _, _, _, _ => by unfold ArgsOk at h; exact h.elim
  | [], [], _ :: _, h, _, _, _, _, _, _, _, _, _, _, _ => h.elim
  | [], .ro _ :: _, _, h, _, _, _, _, _, _, _, _, _, _, _ => by unfold ArgsOk at h; exact h.elim
  | [], .mu _ :: _, _, h, _, _, _, _, _, _, _, _, _, _, _ => by unfold ArgsOk at h; exact h.elim
  | _ :: _, [], _, h, _, _, _, _, _, _, _, _, _, _, _ => by unfold ArgsOk at h; exact h.elim
  | _ :: _, .mu _ :: _, [], h, _, _, _, _, _, _, _, _, _, _, _ => by unfold ArgsOk at h; exact h.elim
theorem ArgsOk.mus {cc : CC} {G0 H : Hp} : ∀ {vs : List V} {args : List Arg} {mus : List Addr}, ArgsOk cc G0 H vs args mus → ∀ a ∈ mus, G0 a = none ∧ H a ≠ none
  | [], [], [], _, a, h => by simp at h
  | v :: vs, .ro d :: r, mus, h, a, hm => ArgsOk.mus h.2 a hm
  | v :: vs, .mu d :: r, c :: mus, h, a, hm => by
    rcases List.mem_cons.mp hm with rfl | hm
    · obtain ⟨o, e, _⟩ := h.2.2.1.ob
      exact ⟨h.2.1, by rw [e]; simp⟩
    · exact ArgsOk.mus h.2.2.2.2 a hm
  | [], .gh b d :: r, c :: mus, h, a, hm => by
    rcases List.mem_cons.mp hm with rfl | hm
    · obtain ⟨o, e, _⟩ := h.2.2.1.ob
      exact ⟨h.2.1, by rw [e]; simp⟩
    · exact ArgsOk.mus (args := r) h.2.2.2.2 a hm
  | v :: vs, .gh b d :: r, c :: mus, h, a, hm => by
    rcases List.mem_cons.mp hm with rfl | hm
    · obtain ⟨o, e, _⟩ := h.2.2.1.ob
      exact ⟨h.2.1, by rw [e]; simp⟩
    · exact ArgsOk.mus (args := r) h.2.2.2.2 a hm
  | [], .gh _ _ :: _, [], h, _, _ => by unfold ArgsOk at h; exact h.elim
  | _ :: _, .gh _ _ :: _, [], h, _, _ => by unfold ArgsOk at h; exact h.elim
  | [], [], _ :: _, h, _, _ => h.elim
  | [], .ro _ :: _, _, h, _, _ => by unfold ArgsOk at h; exact h.elim
  | [], .mu _ :: _, _, h, _, _ => by unfold ArgsOk at h; exact h.elim
  | _ :: _, [], _, h, _, _ => by unfold ArgsOk at h; exact h.elim
  | _ :: _, .mu _ :: _, [], h, _, _ => by unfold ArgsOk at h; exact h.elim
theorem ArgsOk.gho {cc : CC} {G0 H : Hp} : ∀ {vs : List V} {args : List Arg} {mus : List Addr}, ArgsOk cc G0 H vs args mus → ∀ (i : Nat) (s : Sl), (ghOf args mus)[i]? = some s →
    ∃ a d, s = .own true a d ∧ G0 a = none ∧ Root cc G0 H a d ∧ a ∈ mus
  | [], [], [], _, i, s, e => by simp [ghOf] at e
  | v :: vs, .ro d :: r, mus, h, i, s, e => ArgsOk.gho (args := r) h.2 i s e
  | v :: vs, .mu d :: r, a :: mus, h, i, s, e => by
    obtain ⟨b, x, q1, q2, q3, q4⟩ := ArgsOk.gho (args := r) h.2.2.2.2 i s e
    exact ⟨b, x, q1, q2, q3, List.mem_cons_of_mem _ q4⟩
  | [], .gh b d :: r, a :: mus, h, 0, s, e => by
    simp [ghOf] at e; subst e
    exact ⟨a, d, rfl, h.2.1, h.2.2.1, List.mem_cons_self⟩
  | v :: vs, .gh b d :: r, a :: mus, h, 0, s, e => by
    simp [ghOf] at e; subst e
    exact ⟨a, d, rfl, h.2.1, h.2.2.1, List.mem_cons_self⟩
  | [], .gh b d :: r, a :: mus, h, i + 1, s, e => by
    obtain ⟨b, x, q1, q2, q3, q4⟩ := ArgsOk.gho (args := r) h.2.2.2.2 i s (by simpa [ghOf] using e)
    exact ⟨b, x, q1, q2, q3, List.mem_cons_of_mem _ q4⟩
  | v :: vs, .gh b d :: r, a :: mus, h, i + 1, s, e => by
    obtain ⟨b, x, q1, q2, q3, q4⟩ := ArgsOk.gho (args := r) h.2.2.2.2 i s (by simpa [ghOf] using e)
    exact ⟨b, x, q1, q2, q3, List.mem_cons_of_mem _ q4⟩
  | [], .gh _ _ :: _, [], h, _, _, _ => by unfold ArgsOk at h; exact h.elim
  | _ :: _, .gh _ _ :: _, [], h, _, _, _ => by unfold ArgsOk at h; exact h.elim
  | [], [], _ :: _, h, _, _, _ => h.elim
  | [], .ro _ :: _, _, h, _, _, _ => by unfold ArgsOk at h; exact h.elim
  | [], .mu _ :: _, _, h, _, _, _ => by unfold ArgsOk at h; exact h.elim
  | _ :: _, [], _, h, _, _, _ => by unfold ArgsOk at h; exact h.elim
  | _ :: _, .mu _ :: _, [], h, _, _, _ => by unfold ArgsOk at h; exact h.elim
theorem ArgsOk.gh_inj {cc : CC} {G0 H : Hp} : ∀ {vs : List V} {args : List Arg} {mus : List Addr}, ArgsOk cc G0 H vs args mus → ∀ (i j : Nat) (p q : Bool) (a : Addr) (d : D) (b : Addr) (e : D), (ghOf args mus)[i]? = some (.own p a d) → (ghOf args mus)[j]? = some (.own q b e) → i ≠ j → a ≠ b
  | [], [], [], _, i, j, _, _, _, _, _, _, e, _, _ => by simp [ghOf] at e
  | v :: vs, .ro d :: r, mus, h, i, j, p, q, a, x, b, y, e1, e2, hn => ArgsOk.gh_inj (args := r) h.2 i j p q a x b y e1 e2 hn
  | v :: vs, .mu d :: r, c :: mus, h, i, j, p, q, a, x, b, y, e1, e2, hn => ArgsOk.gh_inj (args := r) h.2.2.2.2 i j p q a x b y e1 e2 hn
  | vs, .gh z d :: r, c :: mus, h, i, j, p, q, a, x, b, y, e1, e2, hn => by
    have h' : c ∉ mus ∧ ArgsOk cc G0 H vs r mus := by cases vs <;> exact h.2.2.2
    have tl : ∀ {k : Nat} {m : Bool} {t : Addr} {u : D}, (ghOf r mus)[k]? = some (.own m t u) → t ∈ mus := fun {k m t u} e => by
      obtain ⟨_, _, q1, _, _, q4⟩ := h'.2.gho k _ e
      cases q1; exact q4
    cases i with
    | zero =>
      cases j with
      | zero => exact absurd rfl hn
      | succ j =>
        simp [ghOf] at e1 e2
        rintro rfl
        exact h'.1 (e1.2.1 ▸ tl e2)
    | succ i =>
      cases j with
      | zero =>
        simp [ghOf] at e1 e2
        rintro rfl
        exact h'.1 (e2.2.1 ▸ tl e1)
      | succ j =>
        simp [ghOf] at e1 e2
        exact ArgsOk.gh_inj (args := r) h'.2 i j p q a x b y e1 e2 (by omega)
  | [], .gh _ _ :: _, [], h, _, _, _, _, _, _, _, _, _, _, _ => by unfold ArgsOk at h; exact h.elim
  | _ :: _, .gh _ _ :: _, [], h, _, _, _, _, _, _, _, _, _, _, _ => by unfold ArgsOk at h; exact h.elim
  | [], [], _ :: _, h, _, _, _, _, _, _, _, _, _, _, _ => h.elim
  | [], .ro _ :: _, _, h, _, _, _, _, _, _, _, _, _, _, _ => by unfold ArgsOk at h; exact h.elim
  | [], .mu _ :: _, _, h, _, _, _, _, _, _, _, _, _, _, _ => by unfold ArgsOk at h; exact h.elim
  | _ :: _, [], _, h, _, _, _, _, _, _, _, _, _, _, _ => by unfold ArgsOk at h; exact h.elim
  | _ :: _, .mu _ :: _, [], h, _, _, _, _, _, _, _, _, _, _, _ => by unfold ArgsOk at h; exact h.elim
theorem ArgsOk.cross {cc : CC} {G0 H : Hp} : ∀ {vs : List V} {args : List Arg} {mus : List Addr}, ArgsOk cc G0 H vs args mus → ∀ (i j : Nat) (p q : Bool) (a : Addr) (d : D) (b : Addr) (e : D), (slotsOf args mus)[i]? = some (.own p a d) → (ghOf args mus)[j]? = some (.own q b e) → a ≠ b
  | [], [], [], _, i, j, _, _, _, _, _, _, e, _ => by simp [slotsOf] at e
  | v :: vs, .ro d :: r, mus, h, 0, j, p, q, a, x, b, y, e1, e2 => by simp [slotsOf] at e1
  | v :: vs, .ro d :: r, mus, h, i + 1, j, p, q, a, x, b, y, e1, e2 => ArgsOk.cross (args := r) h.2 i j p q a x b y (by simpa [slotsOf] using e1) e2
  | v :: vs, .mu d :: r, c :: mus, h, 0, j, p, q, a, x, b, y, e1, e2 => by
    simp [slotsOf] at e1
    obtain ⟨_, _, q1, _, _, q4⟩ := h.2.2.2.2.gho (args := r) j _ e2
    cases q1
    rintro rfl
    exact h.2.2.2.1 (e1.2.1 ▸ q4)
  | v :: vs, .mu d :: r, c :: mus, h, i + 1, j, p, q, a, x, b, y, e1, e2 => ArgsOk.cross (args := r) h.2.2.2.2 i j p q a x b y (by simpa [slotsOf] using e1) e2
  | vs, .gh z d :: r, c :: mus, h, i, j, p, q, a, x, b, y, e1, e2 => by
    have h' : c ∉ mus ∧ ArgsOk cc G0 H vs r mus := by cases vs <;> exact h.2.2.2
    cases j with
    | zero =>
      simp [ghOf] at e2
      obtain ⟨_, _, hq⟩ := h'.2.slot i _ e1
      rcases hq with ⟨_, hq, _⟩ | ⟨_, _, hq, _, _, _, hm⟩
      · cases hq
      · cases hq
        rintro rfl
        exact h'.1 (e2.2.1 ▸ hm)
    | succ j => exact ArgsOk.cross (args := r) h'.2 i j p q a x b y e1 (by simpa [ghOf] using e2)
  | [], .gh _ _ :: _, [], h, _, _, _, _, _, _, _, _, _, _ => by unfold ArgsOk at h; exact h.elim
  | _ :: _, .gh _ _ :: _, [], h, _, _, _, _, _, _, _, _, _, _ => by unfold ArgsOk at h; exact h.elim
  | [], [], _ :: _, h, _, _, _, _, _, _, _, _, _, _ => h.elim
  | [], .ro _ :: _, _, h, _, _, _, _, _, _, _, _, _, _ => by unfold ArgsOk at h; exact h.elim
  | [], .mu _ :: _, _, h, _, _, _, _, _, _, _, _, _, _ => by unfold ArgsOk at h; exact h.elim
  | _ :: _, [], _, h, _, _, _, _, _, _, _, _, _, _ => by unfold ArgsOk at h; exact h.elim
  | _ :: _, .mu _ :: _, [], h, _, _, _, _, _, _, _, _, _, _ => by unfold ArgsOk at h; exact h.elim
theorem env_get {args : List Arg} {mus : List Addr} {n i : Nat} {s : Sl} (h : (envOf args mus n)[i]? = some s) : s = .no ∨ (slotsOf args mus)[i]? = some s ∨ ∃ k, i = valN args + (n - valN args) + k ∧ (ghOf args mus)[k]? = some s := by
  unfold envOf at h
  have sl := slots_len args mus
  by_cases hi : i < (slotsOf args mus).length
  · rw [List.getElem?_append_left hi] at h; exact .inr (.inl h)
  · rw [List.getElem?_append_right (by omega)] at h
    by_cases hj : i - (slotsOf args mus).length < (List.replicate (n - valN args) Sl.no).length
    · rw [List.getElem?_append_left hj, List.getElem?_replicate] at h
      split at h
      · cases h; exact .inl rfl
      · cases h
    · rw [List.getElem?_append_right (by omega)] at h
      simp only [List.length_replicate] at h hj
      exact .inr (.inr ⟨_, by omega, h⟩)
theorem exMu.done {cc : CC} {G H : Hp} {σ : L2.St} : ∀ {args : List Arg} {mus : List Addr} {ρ : REnv} {k : List D → Prop}, exMu args mus ρ k → (∀ (i : Nat) (m : Bool) (a : Addr) (d : D), ρ[i]? = some (.own m a d) → Root cc G H a d ∧ G a = none) →
    ∃ ds, MusOk cc G H mus ds ∧ k ds
  | [], [], _, k, h, _ => ⟨[], trivial, h⟩
  | .ro _ :: r, mus, _ :: ρ, k, h, q => exMu.done (σ := σ) (args := r) h fun i m a d e => q (i + 1) m a d (by simpa using e)
  | .mu _ :: r, a :: mus, s :: ρ, k, h, q => by
    unfold exMu at h
    split at h
    · rename_i b d
      obtain ⟨rfl, h⟩ := h
      obtain ⟨ds, h1, h2⟩ := exMu.done (σ := σ) (args := r) h fun i m a d e => q (i + 1) m a d (by simpa using e)
      obtain ⟨r1, r2⟩ := q 0 true b d rfl
      exact ⟨d :: ds, ⟨r1, r2, h1⟩, h2⟩
    · exact h.elim
  | .gh _ _ :: r, a :: mus, ρ, k, h, q => by
    unfold exMu at h
    obtain ⟨d, hm, h⟩ := h
    obtain ⟨ds, h1, h2⟩ := exMu.done (σ := σ) (args := r) h q
    obtain ⟨i, hi⟩ := List.getElem?_of_mem hm
    obtain ⟨r1, r2⟩ := q i true a d hi
    exact ⟨d :: ds, ⟨r1, r2, h1⟩, h2⟩
  | .gh _ _ :: _, [], _, _, h, _ => by unfold exMu at h; exact h.elim
  | [], _ :: _, _, _, h, _ => by unfold exMu at h; exact h.elim
  | .ro _ :: _, _, [], _, h, _ => by unfold exMu at h; exact h.elim
  | .mu _ :: _, [], _, _, h, _ => by unfold exMu at h; exact h.elim
  | .mu _ :: _, _ :: _, [], _, h, _ => by unfold exMu at h; exact h.elim

theorem sr_start {C : Ccs} {G0 H : Hp} {vs : List V} {args : List Arg} {mus : List Addr} {N : List Str} {xk : Xk} (h : ArgsOk C.cc G0 H vs args mus) (le : LE G0 H) (hl : vs.length ≤ N.length) :
    SR ⟨C.cc, H, G0, mus, xk, N.length⟩ (envOf args mus N.length) G0 (L2.start N vs) H := by
  have len := h.len
  refine ⟨?_, le, fun i s e => ?_, fun i j p q a d b e h1 h2 hn => ?_, fun i p a d e => ?_, fun _ _ e _ => e, fun i p a d e => ?_, fun _ h => .inl h, LE.refl _, fun a ha => (h.mus a ha).1, fun a ha => (h.mus a ha).2⟩
  · show (vs.map some ++ List.replicate (N.length - vs.length) none).length = N.length ∧ N.length ≤ (slotsOf args mus ++ (List.replicate (N.length - valN args) Sl.no ++ ghOf args mus)).length
    simp only [List.length_append, slots_len, List.length_replicate, List.length_map]
    omega
  · rcases env_get e with rfl | e | ⟨k, hk, e⟩
    · trivial
    · obtain ⟨v, hv, q⟩ := h.slot i s e
      have hst : (L2.start N vs)[i]? = some (some v) := by
        unfold L2.start
        have hi : i < vs.length := (List.getElem?_eq_some_iff.mp hv).1
        rw [List.getElem?_append_left (by simpa using hi), List.getElem?_map, hv]
        rfl
      rcases q with ⟨d, rfl, r⟩ | ⟨a, d, rfl, rfl, _, r, _⟩
      · exact ⟨v, hst, r⟩
      · exact ⟨.inl hst, r⟩
    · obtain ⟨a, d, rfl, _, r, _⟩ := h.gho k s e
      refine ⟨.inr ?_, r⟩
      show (vs.map some ++ List.replicate (N.length - vs.length) none).length ≤ i
      simp only [List.length_append, List.length_replicate, List.length_map]
      omega
  · rcases env_get h1 with h1 | h1 | ⟨k1, i1, h1⟩
    · cases h1
    · rcases env_get h2 with h2 | h2 | ⟨k2, i2, h2⟩
      · cases h2
      · exact h.inj i j p q a d b e h1 h2 hn
      · exact h.cross i k2 p q a d b e h1 h2
    · rcases env_get h2 with h2 | h2 | ⟨k2, i2, h2⟩
      · cases h2
      · exact (h.cross j k1 q p b e a d h2 h1).symm
      · exact h.gh_inj k1 k2 p q a d b e h1 h2 (by omega)
  · rcases env_get e with e | e | ⟨k, hk, e⟩
    · cases e
    · obtain ⟨v, hv, q⟩ := h.slot i _ e
      rcases q with ⟨_, q, _⟩ | ⟨_, _, q, _, g, _⟩
      · cases q
      · cases q; exact g
    · obtain ⟨_, _, q, g, _⟩ := h.gho k _ e
      cases q; exact g
  · rcases env_get e with e | e | ⟨k, hk, e⟩
    · cases e
    · obtain ⟨v, hv, q⟩ := h.slot i _ e
      rcases q with ⟨_, q, _⟩ | ⟨_, _, q, _, _, _, m⟩
      · cases q
      · cases q; exact m
    · obtain ⟨_, _, q, _, _, m⟩ := h.gho k _ e
      cases q; exact m

section
variable {P : Program} {w : World} {K : PySem.W.Frag} {mg : Str → Option Value} {base : Heap}
theorem resK.done {Z : Zone} {ρ : REnv} {G H : Hp} {σ : L2.St} {r : Rv} {v : V} {k : Ro → Prop} (I : SR Z ρ G σ H) (q : RvOk Z r ρ G σ H v) (h : resK r ρ k) : ∃ o, ResOk Z.cc G Z.H0 H v o ∧ k o := by
  cases r with
  | sh d => exact ⟨.sh d, q, h⟩
  | fr a d => exact ⟨.fr d, ⟨a, q.1, q.2.1, q.2.2.1, q.2.2.2.2.1⟩, h⟩
  | loc i =>
    obtain ⟨ev, hb⟩ := q
    unfold resK at h
    cases hs : ρ[i]? with
    | none => simp only [hs] at h
    | some s =>
      simp only [hs] at h
      have so := I.slot i s hs
      cases s with
      | no => exact h.elim
      | sh d =>
        obtain ⟨u, eu, r⟩ := so
        rw [ev] at eu; cases eu
        exact ⟨.sh d, r, h⟩
      | own m a d =>
        cases m with
        | true => exact h.elim
        | false =>
          obtain ⟨eu, r⟩ := so
          cases own_in ev eu
          exact ⟨.fr d, ⟨a, rfl, r, I.out i _ a d hs, (I.frs i false a d hs).1⟩, h⟩
  | gh j a =>
    obtain ⟨rfl, m, d, hs⟩ := q
    unfold resK at h
    simp only [hs] at h
    cases m with
    | true => exact h.elim
    | false => exact ⟨.fr d, ⟨a, rfl, (I.slot j _ hs).2, I.out j _ a d hs, (I.frs j false a d hs).1⟩, h⟩
  | gx as cs t =>
    obtain ⟨h1, h2, h4, h5⟩ := q
    exact ⟨.gx as cs t, ⟨h1, h2, h4, fun i a d e1 e2 => ⟨(h5 i a d e1 e2).1, (h5 i a d e1 e2).2.1, (h5 i a d e1 e2).2.2.2.1⟩⟩, h⟩
/-- THE RULE: a def that raises nothing, by its body over trees -/
theorem fn_ok {C : Ccs} {x qual : Str} {st : Stmt} {f : Addr} {fd : FuncData} {N ps : List Str} {k : Nat} {sp : FSpec} {b : SW} (F : Fun K x qual st f fd) (S : FnScope N ps (defScope st)) (hb : Sat N.length sp b) (hn : ps.length ≤ N.length)
    (hbody : ∀ (cdv : Value) (A : Around) (outer : List Env) (s : Shared) (H : Hp) (E : XK) (Z : Zone), Z.cc = C.cc → Z.xk = xk0 → Room k (A.deeper (PyProof.Rows.envOfC qual (defScope st) s.heap.objs.size f cdv)) →
      PSs (cxOf CX0 P w K mg base N qual (defScope st) f cdv A outer s H E).nox (defBody st) (Ts Z b)) : FnOk P w K mg base CX0 (k + 1) f fd ps (LSp0 C sp ps.length) := by
  refine F.ok S (fun vs H Q E h => h.1) fun cdv A outer s H vs Q E hr h => ?_
  obtain ⟨hl, args, G0, mus, kr, le, ao, hsp, ret⟩ := h
  refine ⟨_, hbody cdv A outer s H E ⟨C.cc, H, G0, mus, xk0, N.length⟩ rfl rfl hr, envOf args mus N.length, G0, _, sr_start ao le (by omega), hb args mus kr _ ao.muN hsp, ?_⟩
  have fin : ∀ {r : Rv} {ρ' : REnv} {v : V} {σ' : L2.St} {H' G' : Hp}, LE G0 G' → SR ⟨C.cc, H, G0, mus, xk0, N.length⟩ ρ' G' σ' H' → RvOk ⟨C.cc, H, G0, mus, xk0, N.length⟩ r ρ' G' σ' H' v → endK args mus kr r ρ' → Q v H' := fun {r ρ' v σ' H' G'} le' I q e => by
    obtain ⟨o, hro, e⟩ := resK.done I q e
    obtain ⟨ds, hm, e⟩ := exMu.done (σ := σ') e fun i m a d hs => ⟨(I.slot i _ hs).2, I.out i m a d hs⟩
    exact ret o ds v H' G' le' I.sub I.ent I.gnew hm hro e
  exact ⟨fun ρ' σ' H' G' le' I e => fin le' I (rv_sh rep_non) e, fun r ρ' v σ' H' G' le' I q e => fin le' I q e, fun _ _ _ _ _ _ h => h.elim, fun _ _ _ _ _ _ h => h.elim⟩
end
end TL

namespace TL
open PySem PySem.Spec L2

mutual
def noLst : D → Bool
  | .tup ds => noLsts ds
  | .lst _ => false
  | .obj _ _ => false
  | .dct _ _ => false
  | .dic _ _ => false
  | .ptr _ => false
  | _ => true
def noLsts : List D → Bool
  | [] => true
  | d :: ds => noLst d && noLsts ds
end
def chFlat : D → Bool
  | .lst ds => noLsts ds
  | .obj _ ds => noLsts ds
  | .dic _ ds => noLsts ds
  | _ => true
def flatRo : Ro → Bool
  | .sh d => noLst d
  | .fr d => chFlat d
  | .gx _ _ _ => false
mutual
theorem Rep.strip {cc : CC} {G G2 : Hp} (h : ∀ a vs, G a = some (.tup vs) → G2 a = some (.tup vs)) : ∀ {d : D} {v : V}, noLst d = true → Rep cc G v d → Rep cc G2 v d
  | .non, _, _, r => by unfold Rep at r ⊢; exact r
  | .bl _, _, _, r => by unfold Rep at r ⊢; exact r
  | .int _, _, _, r => by unfold Rep at r ⊢; exact r
  | .str _, _, _, r => by unfold Rep at r ⊢; exact r
  | .tup ds, _, n, r => by
    unfold Rep at r ⊢
    unfold noLst at n
    obtain ⟨a, vs, e, g, q⟩ := r
    exact ⟨a, vs, e, h _ _ g, Reps.strip h n q⟩
  | .lst ds, _, n, r => by simp [noLst] at n
  | .obj c ds, _, n, r => by simp [noLst] at n
  | .dct _ _, _, n, r => by simp [noLst] at n
  | .ptr _, _, n, r => by simp [noLst] at n
  | .dic _ _, _, n, r => by simp [noLst] at n
theorem Reps.strip {cc : CC} {G G2 : Hp} (h : ∀ a vs, G a = some (.tup vs) → G2 a = some (.tup vs)) : ∀ {ds : List D} {vs : List V}, noLsts ds = true → Reps cc G vs ds → Reps cc G2 vs ds
  | [], _, _, r => by unfold Reps at r ⊢; exact r
  | d :: ds, _, n, r => by
    unfold Reps at r ⊢
    unfold noLsts at n
    rw [Bool.and_eq_true] at n
    obtain ⟨v, q, e, a, b⟩ := r
    exact ⟨v, q, e, Rep.strip h n.1 a, Reps.strip h n.2 b⟩
end
theorem Root.strip {cc : CC} {G G2 H : Hp} {a : Addr} {d : D} (h : ∀ a vs, G a = some (.tup vs) → G2 a = some (.tup vs)) (n : chFlat d = true) (r : Root cc G H a d) : Root cc G2 H a d := by
  cases d <;> try exact r
  · obtain ⟨vs, e, q⟩ := r; exact ⟨vs, e, q.strip h n⟩
  · obtain ⟨dx, vs, e, l, q⟩ := r; exact ⟨dx, vs, e, l, q.strip h n⟩
  · obtain ⟨vs, e, q⟩ := r; exact ⟨vs, e, q.strip h n⟩

/-! ### the arguments of a call -/
inductive Ag where
  | ro (d : D) | bo (i : Nat) | mu (i : Nat) | tm (a : Addr) (d : D) | bg (j : Nat) (a : Addr) | mg (j : Nat) (a : Addr) | gg (j : Nat) | bd (js : List Nat) (d : D)
abbrev AgW := Xk → REnv → (List Ag → REnv → Prop) → Prop
def AgOk (Z : Zone) (ρ : REnv) (G : Hp) (σ : L2.St) (H : Hp) (v : V) : Ag → Prop
  | .ro d => Rep Z.cc G v d
  | .bo i => σ[i]? = some (some v)
  | .mu i => σ[i]? = some (some v)
  | .tm a d => RvOk Z (.fr a d) ρ G σ H v
  | .bg _ a => v = .ref a
  | .mg _ a => v = .ref a
  | .gg _ => False
  | .bd _ d => Rep Z.cc G v d
def AgsOk (Z : Zone) (ρ : REnv) (G : Hp) (σ : L2.St) (H : Hp) : List V → List Ag → Prop
  | [], [] => True
  | v :: vs, g :: gs => AgOk Z ρ G σ H v g ∧ AgsOk Z ρ G σ H vs gs
  | _, _ => False
/-- .. with ghosts behind them -/
def AgsX (Z : Zone) (ρ : REnv) (G : Hp) (σ : L2.St) (H : Hp) : List V → List Ag → Prop
  | [], [] => True
  | [], .gg _ :: gs => AgsX Z ρ G σ H [] gs
  | v :: vs, g :: gs => AgOk Z ρ G σ H v g ∧ AgsX Z ρ G σ H vs gs
  | _, _ => False
theorem AgsOk.x {Z : Zone} {ρ : REnv} {G : Hp} {σ : L2.St} {H : Hp} {js : List Nat} : ∀ {vs : List V} {gs : List Ag}, AgsOk Z ρ G σ H vs gs → AgsX Z ρ G σ H vs (gs ++ js.map .gg)
  | [], [], _ => by
    induction js with
    | nil => trivial
    | cons j js ih => exact ih
  | v :: vs, g :: gs, h => ⟨h.1, AgsOk.x (vs := vs) h.2⟩
  | [], _ :: _, h => h.elim
  | _ :: _, [], h => h.elim
theorem AgsOk.x0 {Z : Zone} {ρ : REnv} {G : Hp} {σ : L2.St} {H : Hp} {vs : List V} {gs : List Ag} (h : AgsOk Z ρ G σ H vs gs) : AgsX Z ρ G σ H vs gs := by
  have := h.x (js := [])
  simpa using this
def Tag (Z : Zone) (w : AgW) : TA := fun σ H Q => ∃ ρ G K, SR Z ρ G σ H ∧ w Z.xk ρ K ∧
  ∀ gs ρ' vs H' G', LE G G' → SR Z ρ' G' σ H' → AgsOk Z ρ' G' σ H' vs gs → K gs ρ' → Q vs H'
def isOwn (ρ : REnv) (i : Nat) : Prop := match ρ[i]? with | some (.own _ _ _) => True | _ => False
def noTm : List Ag → Bool
  | [] => true
  | .tm _ _ :: _ => false
  | _ :: r => noTm r
def agNil : AgW := fun _ ρ K => K [] ρ
def agRo (w : EW) (r : AgW) : AgW := fun xk ρ K => w xk ρ fun v ρ1 => stl v ρ1 fun d ρ2 => r xk ρ2 fun gs ρ3 => K (.ro d :: gs) ρ3
def agBo (i : Nat) (r : AgW) : AgW := fun xk ρ K => isOwn ρ i ∧ r xk ρ fun gs ρ3 => K (.bo i :: gs) ρ3
def agMu (i : Nat) (r : AgW) : AgW := fun xk ρ K => isOwn ρ i ∧ r xk ρ fun gs ρ3 => K (.mu i :: gs) ρ3
/-- a value as it may be stored -/
def pvw (v : Rv) (ρ : REnv) (K : D → Prop) : Prop := match v with
  | .sh d => K d
  | .gh _ a => K (.ptr a)
  | .loc i => match ρ[i]? with
    | some (.sh d) => K d
    | some (.own _ a _) => K (.ptr a)
    | _ => False
  | _ => False
/-- a value with all the roots at some places, lent -/
def agBd (w : EW) (r : AgW) : AgW := fun xk ρ K => w xk ρ fun v ρ1 => pvw v ρ1 fun d => r xk ρ1 fun gs ρ3 => ∃ js, K (.bd js d :: gs) ρ3
/-- a ghost, lent; handed in to be changed -/
def agBg (w : EW) (r : AgW) : AgW := fun xk ρ K => w xk ρ fun v ρ1 => match v with
  | .gh j a => r xk ρ1 fun gs ρ3 => K (.bg j a :: gs) ρ3
  | _ => False
def agMg (w : EW) (r : AgW) : AgW := fun xk ρ K => w xk ρ fun v ρ1 => match v with
  | .gh j a => r xk ρ1 fun gs ρ3 => K (.mg j a :: gs) ρ3
  | _ => False
def agTm (w : EW) (r : AgW) : AgW := fun xk ρ K => w xk ρ fun v ρ1 => match v with
  | .fr a d => r xk0 ρ1 fun gs ρ3 => noTm gs = true ∧ K (.tm a d :: gs) ρ3
  | _ => False
section
variable {X : Cx} {Z : Zone} {e : Expr} {es : List Expr} {w : EW} {r : AgW}
theorem dag_nil : PA X [] (Tag Z agNil) := ⟨fun pos pins s σ H Q I ⟨ρ, G, K, IR, hw, q⟩ => pa_nil.run pos pins s σ H Q I (q [] ρ [] H G (LE.refl G) IR trivial hw)⟩
theorem isOwn_get {ρ : REnv} {G H : Hp} {σ : L2.St} (I : SR Z ρ G σ H) {i : Nat} (hi : i < σ.length) (h : isOwn ρ i) : ∃ v, σ[i]? = some (some v) := by
  unfold isOwn at h
  cases hs : ρ[i]? with
  | none => rw [hs] at h; exact h.elim
  | some s =>
    cases s with
    | no => rw [hs] at h; exact h.elim
    | sh d => rw [hs] at h; exact h.elim
    | own m a d => exact ⟨_, own_at hi (I.slot i _ hs).1⟩
theorem dag_ro (ha : PE X e (T Z w)) (hr : PA X es (Tag Z r)) (hs : starEach (e :: es) X.env = (false, eval e X.env) :: starEach es X.env := by rfl) : PA X (e :: es) (Tag Z (agRo w r)) :=
  ⟨fun pos pins s σ H Q I ⟨ρ, G, K, IR, hw, q⟩ => (pa_cons ha hr hs).run pos pins s σ H Q I ⟨ρ, G, _, IR, hw, fun rv ρ1 v H1 G1 le1 I1 q1 k1 => by
    obtain ⟨d, ρ2, G2, le2, I2, rp, k2, _⟩ := I1.settle q1 k1
    exact ⟨ρ2, G2, _, I2, k2, fun gs ρ3 vs H3 G3 le3 I3 rs k3 => q (.ro d :: gs) ρ3 (v :: vs) H3 G3 ((le1.trans le2).trans le3) I3 ⟨(rp.mono le3 : Rep _ _ _ _), rs⟩ k3⟩⟩⟩
theorem dag_mu {i : Nat} {x : Str} {pos : Pos} (hr : PA X es (Tag Z r)) (hN : X.N[i]? = some x := by rfl) (hv : Vis X.env.scope x := by first | exact Or.inl rfl | exact Or.inr (Or.inl rfl) | exact Or.inr (Or.inr rfl)) (hd : (x == ("__debug__" : Str)) = false := by decide)
    (hcd : (x == ("__classdict__" : Str)) = false := by decide) (hs : starEach (.Name x pos :: es) X.env = (false, eval (.Name x pos) X.env) :: starEach es X.env := by rfl) : PA X (.Name x pos :: es) (Tag Z (agMu i r)) :=
  ⟨fun pos pins s σ H Q I ⟨ρ, G, K, IR, ⟨ho, hw⟩, q⟩ => (pa_cons (pv i hN hv hd hcd) hr hs).run pos pins s σ H Q I (by
    obtain ⟨v, ev⟩ := isOwn_get IR (lt_len I hN) ho
    exact ⟨v, ev, ρ, G, _, IR, hw, fun gs ρ3 vs H3 G3 le3 I3 rs k3 => q (.mu i :: gs) ρ3 (v :: vs) H3 G3 le3 I3 ⟨ev, rs⟩ k3⟩)⟩
theorem AgsOk.unext {D : Addr} {o : HO} {ρ : REnv} {G H : Hp} {σ : L2.St} : ∀ {vs : List V} {gs : List Ag}, noTm gs = true → AgsOk (Z.ext D o) ρ G σ H vs gs → AgsOk Z ρ G σ H vs gs
  | [], [], _, _ => trivial
  | v :: vs, .ro d :: gs, n, h => ⟨h.1, AgsOk.unext (gs := gs) (by simpa [noTm] using n) h.2⟩
  | v :: vs, .bo d :: gs, n, h => ⟨h.1, AgsOk.unext (gs := gs) (by simpa [noTm] using n) h.2⟩
  | v :: vs, .mu d :: gs, n, h => ⟨h.1, AgsOk.unext (gs := gs) (by simpa [noTm] using n) h.2⟩
  | v :: vs, .bg _ _ :: gs, n, h => ⟨h.1, AgsOk.unext (gs := gs) (by simpa [noTm] using n) h.2⟩
  | v :: vs, .mg _ _ :: gs, n, h => ⟨h.1, AgsOk.unext (gs := gs) (by simpa [noTm] using n) h.2⟩
  | v :: vs, .gg _ :: gs, n, h => h.1.elim
  | v :: vs, .bd _ _ :: gs, n, h => ⟨h.1, AgsOk.unext (gs := gs) (by simpa [noTm] using n) h.2⟩
  | v :: vs, .tm _ _ :: gs, n, h => by simp [noTm] at n
  | [], _ :: _, _, h => h.elim
  | _ :: _, [], _, h => h.elim
end

/-! ### a call -/
def pk (ρ : REnv) : List Nat → List (Addr × D)
  | [] => []
  | j :: js => match ρ[j]? with
    | some (.own _ a d) => (a, d) :: pk ρ js
    | _ => pk ρ js
theorem pk_mem {ρ : REnv} {a : Addr} {d : D} : ∀ {js : List Nat}, (a, d) ∈ pk ρ js → ∃ j m, j ∈ js ∧ ρ[j]? = some (.own m a d)
  | j :: js, h => by
    unfold pk at h
    split at h
    · rename_i m b e hs
      rcases List.mem_cons.mp h with h | h
      · cases h; exact ⟨j, m, List.mem_cons_self, hs⟩
      · obtain ⟨i, m, h1, h2⟩ := pk_mem h; exact ⟨i, m, List.mem_cons_of_mem _ h1, h2⟩
    · obtain ⟨i, m, h1, h2⟩ := pk_mem h; exact ⟨i, m, List.mem_cons_of_mem _ h1, h2⟩
def argsK : List Ag → REnv → (List Arg → Prop) → Prop
  | [], _, k => k []
  | .ro d :: r, ρ, k => argsK r ρ fun as => k (.ro d :: as)
  | .bo i :: r, ρ, k => match ρ[i]? with | some (.own _ _ d) => argsK r ρ fun as => k (.ro d :: as) | _ => False
  | .mu i :: r, ρ, k => match ρ[i]? with | some (.own _ _ d) => argsK r ρ fun as => k (.mu d :: as) | _ => False
  | .tm _ d :: r, ρ, k => argsK r ρ fun as => k (.mu d :: as)
  | .bg j a :: r, ρ, k => match ρ[j]? with | some (.own _ b d) => b = a ∧ argsK r ρ fun as => k (.ro d :: as) | _ => False
  | .mg j a :: r, ρ, k => match ρ[j]? with | some (.own _ b d) => b = a ∧ argsK r ρ fun as => k (.mu d :: as) | _ => False
  | .gg j :: r, ρ, k => match ρ[j]? with | some (.own _ b d) => argsK r ρ fun as => k (.gh b d :: as) | _ => False
  | .bd js d :: r, ρ, k => ∃ e, Vw (pk ρ js) d e ∧ argsK r ρ fun as => k (.ro e :: as)
def reown (ρ : REnv) (i : Nat) (d : D) : Sl := match ρ[i]? with | some (.own m a _) => .own m a d | _ => .no
def upE : List Ag → List D → REnv → REnv
  | [], _, ρ => ρ
  | .mu i :: r, d :: ds, ρ => (upE r ds ρ).set i (reown ρ i d)
  | .mu _ :: _, [], ρ => ρ
  | .tm _ _ :: r, _ :: ds, ρ => upE r ds ρ
  | .tm _ _ :: _, [], ρ => ρ
  | .ro _ :: r, ds, ρ => upE r ds ρ
  | .bo _ :: r, ds, ρ => upE r ds ρ
  | .bg _ _ :: r, ds, ρ => upE r ds ρ
  | .mg i _ :: r, d :: ds, ρ => (upE r ds ρ).set i (reown ρ i d)
  | .mg _ _ :: _, [], ρ => ρ
  | .gg i :: r, d :: ds, ρ => (upE r ds ρ).set i (reown ρ i d)
  | .gg _ :: _, [], ρ => ρ
  | .bd _ _ :: r, ds, ρ => upE r ds ρ
def boIx : List Ag → List Nat
  | [] => []
  | .bo i :: r => i :: boIx r
  | .ro _ :: r => boIx r
  | .mu _ :: r => boIx r
  | .tm _ _ :: r => boIx r
  | .bg i _ :: r => i :: boIx r
  | .mg _ _ :: r => boIx r
  | .gg _ :: r => boIx r
  | .bd js _ :: r => js ++ boIx r
def muIx : List Ag → List Nat
  | [] => []
  | .mu i :: r => i :: muIx r
  | .ro _ :: r => muIx r
  | .bo _ :: r => muIx r
  | .tm _ _ :: r => muIx r
  | .bg _ _ :: r => muIx r
  | .mg i _ :: r => i :: muIx r
  | .gg i :: r => i :: muIx r
  | .bd _ _ :: r => muIx r
def tms : List Ag → Nat
  | [] => 0
  | .tm _ _ :: r => tms r + 1
  | .ro _ :: r => tms r
  | .bo _ :: r => tms r
  | .mu _ :: r => tms r
  | .bg _ _ :: r => tms r
  | .mg _ _ :: r => tms r
  | .gg _ :: r => tms r
  | .bd _ _ :: r => tms r
def hasBo : List Ag → Bool
  | [] => false
  | .bo _ :: _ => true
  | .ro _ :: r => hasBo r
  | .mu _ :: r => hasBo r
  | .tm _ _ :: r => hasBo r
  | .bg _ _ :: _ => true
  | .mg _ _ :: r => hasBo r
  | .gg _ :: r => hasBo r
  | .bd _ _ :: _ => true
def noLstAll : List D → Bool
  | [] => true
  | d :: r => chFlat d && noLstAll r
def callK (sp : FSpec) (gs : List Ag) (ρ : REnv) (xk : Xk) (K : Rv → REnv → Prop) : Prop := (boIx gs ++ muIx gs).Nodup ∧ tms gs ≤ 1 ∧
  argsK gs ρ fun args => sp args (fun o ds => (hasBo gs = true → flatRo o = true ∧ noLstAll ds = true) ∧ out o (upE gs ds ρ) K) (fun c d => xk c d ρ)

def boA : List Ag → REnv → List Addr
  | [], _ => []
  | .bo i :: r, ρ => match ρ[i]? with | some (.own _ a _) => a :: boA r ρ | _ => boA r ρ
  | .ro _ :: r, ρ => boA r ρ
  | .mu _ :: r, ρ => boA r ρ
  | .tm _ _ :: r, ρ => boA r ρ
  | .bg i _ :: r, ρ => match ρ[i]? with | some (.own _ a _) => a :: boA r ρ | _ => boA r ρ
  | .mg _ _ :: r, ρ => boA r ρ
  | .gg _ :: r, ρ => boA r ρ
  | .bd js _ :: r, ρ => (pk ρ js).map (·.1) ++ boA r ρ
def muA : List Ag → REnv → List Addr
  | [], _ => []
  | .mu i :: r, ρ => match ρ[i]? with | some (.own _ a _) => a :: muA r ρ | _ => muA r ρ
  | .tm a _ :: r, ρ => a :: muA r ρ
  | .ro _ :: r, ρ => muA r ρ
  | .bo _ :: r, ρ => muA r ρ
  | .bg _ _ :: r, ρ => muA r ρ
  | .mg i _ :: r, ρ => match ρ[i]? with | some (.own _ a _) => a :: muA r ρ | _ => muA r ρ
  | .gg i :: r, ρ => match ρ[i]? with | some (.own _ a _) => a :: muA r ρ | _ => muA r ρ
  | .bd _ _ :: r, ρ => muA r ρ
section
variable {Z : Zone} {ρ : REnv} {G H : Hp} {σ : L2.St}
theorem boA_own : ∀ {gs : List Ag} {a : Addr}, a ∈ boA gs ρ → ∃ (i : Nat) (m : Bool) (d : D), i ∈ boIx gs ∧ ρ[i]? = some (.own m a d)
  | .bo i :: r, a, h => by
    unfold boA at h
    split at h
    · rename_i m b d hs
      rcases List.mem_cons.mp h with rfl | h
      · exact ⟨i, m, d, by simp [boIx], hs⟩
      · obtain ⟨j, m, d, h1, h2⟩ := boA_own h; exact ⟨j, m, d, by simp [boIx, h1], h2⟩
    · obtain ⟨j, m, d, h1, h2⟩ := boA_own h; exact ⟨j, m, d, by simp [boIx, h1], h2⟩
  | .bg i _ :: r, a, h => by
    unfold boA at h
    split at h
    · rename_i m b d hs
      rcases List.mem_cons.mp h with rfl | h
      · exact ⟨i, m, d, by simp [boIx], hs⟩
      · obtain ⟨j, m, d, h1, h2⟩ := boA_own h; exact ⟨j, m, d, by simp [boIx, h1], h2⟩
    · obtain ⟨j, m, d, h1, h2⟩ := boA_own h; exact ⟨j, m, d, by simp [boIx, h1], h2⟩
  | .mg _ _ :: r, a, h => boA_own (gs := r) h
  | .gg _ :: r, a, h => boA_own (gs := r) h
  | .bd js _ :: r, a, h => by
    rcases List.mem_append.mp h with h | h
    · obtain ⟨p, hp, rfl⟩ := List.mem_map.mp h
      obtain ⟨j, m, h1, h2⟩ := pk_mem (a := p.1) (d := p.2) hp
      exact ⟨j, m, p.2, by simp [boIx, h1], h2⟩
    · obtain ⟨j, m, d, h1, h2⟩ := boA_own (gs := r) h
      exact ⟨j, m, d, by simp [boIx, h1], h2⟩
  | .ro _ :: r, a, h => boA_own (gs := r) h
  | .mu _ :: r, a, h => boA_own (gs := r) h
  | .tm _ _ :: r, a, h => boA_own (gs := r) h
  | [], a, h => by simp [boA] at h
theorem hasBo_nil : ∀ {gs : List Ag}, hasBo gs = false → boA gs ρ = []
  | [], _ => rfl
  | .bo _ :: _, h => by simp [hasBo] at h
  | .ro _ :: r, h => hasBo_nil (gs := r) h
  | .mu _ :: r, h => hasBo_nil (gs := r) h
  | .tm _ _ :: r, h => hasBo_nil (gs := r) h
  | .bg _ _ :: _, h => by simp [hasBo] at h
  | .mg _ _ :: r, h => hasBo_nil (gs := r) h
  | .gg _ :: r, h => hasBo_nil (gs := r) h
  | .bd _ _ :: _, h => by simp [hasBo] at h
/-- the address of a root that is handed in to be changed -/
theorem muA_at : ∀ {gs : List Ag} {vs : List V} {a : Addr}, AgsX Z ρ G σ H vs gs → a ∈ muA gs ρ → (∃ (i : Nat) (m : Bool) (d : D), i ∈ muIx gs ∧ ρ[i]? = some (.own m a d)) ∨ (tms gs ≠ 0 ∧ ∃ v d, RvOk Z (.fr a d) ρ G σ H v)
  | [], _, a, _, h => by simp [muA] at h
  | .mu i :: r, v :: vs, a, q, h => by
    unfold muA at h
    split at h
    · rename_i m b d hs
      rcases List.mem_cons.mp h with rfl | h
      · exact .inl ⟨i, m, d, by simp [muIx], hs⟩
      · rcases muA_at q.2 h with ⟨j, m, d, h1, h2⟩ | z
        · exact .inl ⟨j, m, d, by simp [muIx, h1], h2⟩
        · exact .inr z
    · rcases muA_at q.2 h with ⟨j, m, d, h1, h2⟩ | z
      · exact .inl ⟨j, m, d, by simp [muIx, h1], h2⟩
      · exact .inr z
  | .mg i _ :: r, v :: vs, a, q, h => by
    unfold muA at h
    split at h
    · rename_i m b d hs
      rcases List.mem_cons.mp h with rfl | h
      · exact .inl ⟨i, m, d, by simp [muIx], hs⟩
      · rcases muA_at q.2 h with ⟨j, m, d, h1, h2⟩ | z
        · exact .inl ⟨j, m, d, by simp [muIx, h1], h2⟩
        · exact .inr z
    · rcases muA_at q.2 h with ⟨j, m, d, h1, h2⟩ | z
      · exact .inl ⟨j, m, d, by simp [muIx, h1], h2⟩
      · exact .inr z
  | .gg i :: r, [], a, q, h => by
    unfold muA at h
    split at h
    · rename_i m b d hs
      rcases List.mem_cons.mp h with rfl | h
      · exact .inl ⟨i, m, d, by simp [muIx], hs⟩
      · rcases muA_at (gs := r) (vs := []) q h with ⟨j, m, d, h1, h2⟩ | z
        · exact .inl ⟨j, m, d, by simp [muIx, h1], h2⟩
        · exact .inr z
    · rcases muA_at (gs := r) (vs := []) q h with ⟨j, m, d, h1, h2⟩ | z
      · exact .inl ⟨j, m, d, by simp [muIx, h1], h2⟩
      · exact .inr z
  | .gg i :: r, v :: vs, a, q, h => q.1.elim
  | .bg _ _ :: r, v :: vs, a, q, h => muA_at (gs := r) q.2 h
  | .bg _ _ :: r, [], a, h, _ => h.elim
  | .bd _ _ :: r, v :: vs, a, q, h => muA_at (gs := r) q.2 h
  | .bd _ _ :: r, [], a, h, _ => h.elim
  | .mg _ _ :: r, [], a, h, _ => h.elim
  | .ro _ :: r, v :: vs, a, q, h => muA_at (gs := r) q.2 h
  | .bo _ :: r, v :: vs, a, q, h => muA_at (gs := r) q.2 h
  | .tm b d :: r, v :: vs, a, q, h => by
    rcases List.mem_cons.mp h with rfl | h
    · exact .inr ⟨by simp [tms], v, d, q.1⟩
    · rcases muA_at (gs := r) q.2 h with z | ⟨z, w⟩
      · exact .inl z
      · exact .inr ⟨by simp [tms], w⟩
  | .mu i :: r, [], a, h, _ => h.elim
  | .ro i :: r, [], a, h, _ => h.elim
  | .bo i :: r, [], a, h, _ => h.elim
  | .tm i _ :: r, [], a, h, _ => h.elim
theorem muA_nd (I : SR Z ρ G σ H) : ∀ {gs : List Ag} {vs : List V}, AgsX Z ρ G σ H vs gs → (muIx gs).Nodup → tms gs ≤ 1 → (muA gs ρ).Nodup
  | [], _, _, _, _ => List.nodup_nil
  | .mu i :: r, v :: vs, q, n, t => by
    have n' := List.nodup_cons.mp n
    have ih := muA_nd I (gs := r) q.2 n'.2 t
    unfold muA
    split
    · rename_i m a d hs
      refine List.nodup_cons.mpr ⟨fun hm => ?_, ih⟩
      rcases muA_at q.2 hm with ⟨j, m', d', hj, hs'⟩ | ⟨_, v', d', f⟩
      · exact I.inj i j m m' a d a d' hs hs' (fun e => n'.1 (e ▸ hj)) rfl
      · exact f.2.2.2.1 i m a d hs rfl
    · exact ih
  | .mg i _ :: r, v :: vs, q, n, t => by
    have n' := List.nodup_cons.mp n
    have ih := muA_nd I (gs := r) q.2 n'.2 t
    unfold muA
    split
    · rename_i m a d hs
      refine List.nodup_cons.mpr ⟨fun hm => ?_, ih⟩
      rcases muA_at q.2 hm with ⟨j, m', d', hj, hs'⟩ | ⟨_, v', d', f⟩
      · exact I.inj i j m m' a d a d' hs hs' (fun e => n'.1 (e ▸ hj)) rfl
      · exact f.2.2.2.1 i m a d hs rfl
    · exact ih
  | .gg i :: r, [], q, n, t => by
    have n' := List.nodup_cons.mp n
    have ih := muA_nd I (gs := r) (vs := []) q n'.2 t
    unfold muA
    split
    · rename_i m a d hs
      refine List.nodup_cons.mpr ⟨fun hm => ?_, ih⟩
      rcases muA_at (gs := r) (vs := []) q hm with ⟨j, m', d', hj, hs'⟩ | ⟨_, v', d', f⟩
      · exact I.inj i j m m' a d a d' hs hs' (fun e => n'.1 (e ▸ hj)) rfl
      · exact f.2.2.2.1 i m a d hs rfl
    · exact ih
  | .gg i :: r, v :: vs, q, n, t => q.1.elim
  | .bg _ _ :: r, v :: vs, q, n, t => muA_nd I (gs := r) q.2 n t
  | .bg _ _ :: r, [], h, _, _ => h.elim
  | .bd _ _ :: r, v :: vs, q, n, t => muA_nd I (gs := r) q.2 n t
  | .bd _ _ :: r, [], h, _, _ => h.elim
  | .mg _ _ :: r, [], h, _, _ => h.elim
  | .ro _ :: r, v :: vs, q, n, t => muA_nd I (gs := r) q.2 n t
  | .bo _ :: r, v :: vs, q, n, t => muA_nd I (gs := r) q.2 n t
  | .tm a d :: r, v :: vs, q, n, t => by
    have t0 : tms r = 0 := by simp [tms] at t; omega
    have ih := muA_nd I (gs := r) q.2 n (by omega)
    refine List.nodup_cons.mpr ⟨fun hm => ?_, ih⟩
    rcases muA_at (gs := r) q.2 hm with ⟨j, m', d', hj, hs'⟩ | ⟨z, _⟩
    · exact q.1.2.2.2.1 j m' a d' hs' rfl
    · exact z t0
  | .mu i :: r, [], h, _, _ => h.elim
  | .ro i :: r, [], h, _, _ => h.elim
  | .bo i :: r, [], h, _, _ => h.elim
  | .tm i _ :: r, [], h, _, _ => h.elim
theorem boA_apart (I : SR Z ρ G σ H) {gs : List Ag} {vs : List V} (q : AgsX Z ρ G σ H vs gs) (n : (boIx gs ++ muIx gs).Nodup) {a : Addr} (h : a ∈ muA gs ρ) : a ∉ boA gs ρ := fun hb => by
  obtain ⟨i, m, d, hi, hs⟩ := boA_own hb
  rcases muA_at q h with ⟨j, m', d', hj, hs'⟩ | ⟨_, v, d', f⟩
  · exact I.inj i j m m' a d a d' hs hs' (fun e => (List.nodup_append.mp n).2.2 i hi j hj e) rfl
  · exact f.2.2.2.1 i m a d hs rfl
/-- the known part at a call -/
def cutG (B : List Addr) (G H : Hp) : Hp := fun a => if a ∈ B then H a else G a
theorem args_ok (I : SR Z ρ G σ H) {B : List Addr} (hB : ∀ a ∈ B, G a = none) : ∀ {gs : List Ag} {vs : List V} {k : List Arg → Prop}, AgsX Z ρ G σ H vs gs → (∀ a ∈ boA gs ρ, a ∈ B) → (∀ a ∈ muA gs ρ, a ∉ B) → (muA gs ρ).Nodup → argsK gs ρ k →
    ∃ args, ArgsOk Z.cc (cutG B G H) H vs args (muA gs ρ) ∧ k args := by
  have le : LE G (cutG B G H) := fun a o e => by
    unfold cutG
    rw [if_neg (fun h => by rw [hB a h] at e; cases e)]
    exact e
  intro gs
  induction gs with
  | nil => intro vs k q _ _ _ h; cases vs with
    | nil => exact ⟨[], trivial, h⟩
    | cons v vs => exact q.elim
  | cons g gs ih =>
    intro vs k q hb hm nd h
    cases vs with
    | nil =>
      cases g <;> try exact q.elim
      rename_i i
      unfold argsK at h
      cases hs : ρ[i]? with
      | none => simp only [hs] at h
      | some s =>
        simp only [hs] at h
        cases s with
        | no => exact h.elim
        | sh d => exact h.elim
        | own m a d =>
          obtain ⟨es, rt⟩ := I.slot i _ hs
          have em : muA (.gg i :: gs) ρ = a :: muA gs ρ := by simp only [muA, hs]
          rw [em] at hm nd ⊢
          obtain ⟨args, h1, h2⟩ := ih (vs := []) (k := fun as => k (.gh a d :: as)) q hb (fun b h => hm b (List.mem_cons_of_mem _ h)) (List.nodup_cons.mp nd).2 h
          refine ⟨.gh a d :: args, ⟨rfl, ?_, rt.mono le, (List.nodup_cons.mp nd).1, h1⟩, h2⟩
          unfold cutG
          rw [if_neg (hm a List.mem_cons_self)]
          exact I.out i m a d hs
    | cons v vs =>
      cases g with
      | ro d =>
        obtain ⟨args, h1, h2⟩ := ih (k := fun as => k (.ro d :: as)) q.2 hb hm nd h
        exact ⟨.ro d :: args, ⟨Rep.mono (d := d) le q.1, h1⟩, h2⟩
      | bo i =>
        unfold argsK at h
        cases hs : ρ[i]? with
        | none => simp only [hs] at h
        | some s =>
          simp only [hs] at h
          cases s with
          | no => exact h.elim
          | sh d => exact h.elim
          | own m a d =>
            obtain ⟨es, rt⟩ := I.slot i _ hs
            cases own_in (show σ[i]? = some (some v) from q.1) es
            have eb : boA (.bo i :: gs) ρ = a :: boA gs ρ := by simp only [boA, hs]
            have ha : a ∈ B := hb a (by rw [eb]; exact List.mem_cons_self)
            obtain ⟨args, h1, h2⟩ := ih (k := fun as => k (.ro d :: as)) q.2 (fun b h => hb b (by rw [eb]; exact List.mem_cons_of_mem _ h)) hm nd h
            refine ⟨.ro d :: args, ⟨?_, h1⟩, h2⟩
            have rt' := rt.mono le
            have e0 : cutG B G H a = H a := by unfold cutG; rw [if_pos ha]
            cases d <;> try exact rt'.elim
            · obtain ⟨vs, e, r⟩ := rt'; unfold Rep; exact ⟨a, vs, rfl, SqL.of (e0.trans e), r⟩
            · obtain ⟨dx, vs, e, l, r⟩ := rt'; unfold Rep; exact ⟨a, dx, vs, rfl, e0.trans e, l, r⟩
            · obtain ⟨vs, e, r⟩ := rt'; unfold Rep; exact ⟨a, vs, rfl, e.rd.heap fun o ho => e0.trans ho, r⟩
      | bg i b =>
        unfold argsK at h
        cases hs : ρ[i]? with
        | none => simp only [hs] at h
        | some s =>
          simp only [hs] at h
          cases s with
          | no => exact h.elim
          | sh d => exact h.elim
          | own m a d =>
            obtain ⟨es, rt⟩ := I.slot i _ hs
            obtain ⟨rfl, h⟩ := h
            have ev : v = .ref a := q.1
            subst ev
            have eb : boA (.bg i a :: gs) ρ = a :: boA gs ρ := by simp only [boA, hs]
            have ha : a ∈ B := hb a (by rw [eb]; exact List.mem_cons_self)
            obtain ⟨args, h1, h2⟩ := ih (k := fun as => k (.ro d :: as)) q.2 (fun b h => hb b (by rw [eb]; exact List.mem_cons_of_mem _ h)) hm nd h
            refine ⟨.ro d :: args, ⟨?_, h1⟩, h2⟩
            have rt' := rt.mono le
            have e0 : cutG B G H a = H a := by unfold cutG; rw [if_pos ha]
            cases d <;> try exact rt'.elim
            · obtain ⟨vs, e, r⟩ := rt'; unfold Rep; exact ⟨a, vs, rfl, SqL.of (e0.trans e), r⟩
            · obtain ⟨dx, vs, e, l, r⟩ := rt'; unfold Rep; exact ⟨a, dx, vs, rfl, e0.trans e, l, r⟩
            · obtain ⟨vs, e, r⟩ := rt'; unfold Rep; exact ⟨a, vs, rfl, e.rd.heap fun o ho => e0.trans ho, r⟩
      | mu i =>
        unfold argsK at h
        cases hs : ρ[i]? with
        | none => simp only [hs] at h
        | some s =>
          simp only [hs] at h
          cases s with
          | no => exact h.elim
          | sh d => exact h.elim
          | own m a d =>
            obtain ⟨es, rt⟩ := I.slot i _ hs
            cases own_in (show σ[i]? = some (some v) from q.1) es
            have em : muA (.mu i :: gs) ρ = a :: muA gs ρ := by simp only [muA, hs]
            rw [em] at hm nd ⊢
            obtain ⟨args, h1, h2⟩ := ih (k := fun as => k (.mu d :: as)) q.2 hb (fun b h => hm b (List.mem_cons_of_mem _ h)) (List.nodup_cons.mp nd).2 h
            refine ⟨.mu d :: args, ⟨rfl, ?_, rt.mono le, (List.nodup_cons.mp nd).1, h1⟩, h2⟩
            unfold cutG
            rw [if_neg (hm a List.mem_cons_self)]
            exact I.out i m a d hs
      | mg i b =>
        unfold argsK at h
        cases hs : ρ[i]? with
        | none => simp only [hs] at h
        | some s =>
          simp only [hs] at h
          cases s with
          | no => exact h.elim
          | sh d => exact h.elim
          | own m a d =>
            obtain ⟨es, rt⟩ := I.slot i _ hs
            obtain ⟨rfl, h⟩ := h
            have ev : v = .ref a := q.1
            subst ev
            have em : muA (.mg i a :: gs) ρ = a :: muA gs ρ := by simp only [muA, hs]
            rw [em] at hm nd ⊢
            obtain ⟨args, h1, h2⟩ := ih (k := fun as => k (.mu d :: as)) q.2 hb (fun b h => hm b (List.mem_cons_of_mem _ h)) (List.nodup_cons.mp nd).2 h
            refine ⟨.mu d :: args, ⟨rfl, ?_, rt.mono le, (List.nodup_cons.mp nd).1, h1⟩, h2⟩
            unfold cutG
            rw [if_neg (hm a List.mem_cons_self)]
            exact I.out i m a d hs
      | gg i => exact q.1.elim
      | bd js d =>
        obtain ⟨e, hr, h⟩ := h
        obtain ⟨args, h1, h2⟩ := ih (k := fun as => k (.ro e :: as)) q.2 (fun b h => hb b (List.mem_append_right _ h)) hm nd h
        have hL : ∀ a d, (a, d) ∈ pk ρ js → Root Z.cc G (cutG B G H) a d := fun a d hd => by
          obtain ⟨j, m, _, hs⟩ := pk_mem hd
          have ha : a ∈ B := hb a (List.mem_append_left _ (List.mem_map.mpr ⟨_, hd, rfl⟩))
          have e0 : cutG B G H a = H a := by unfold cutG; rw [if_pos ha]
          exact (I.slot j _ hs).2.heap fun o ho => e0.trans ho
        exact ⟨.ro e :: args, ⟨hr.sound le hL v q.1, h1⟩, h2⟩
      | tm a d =>
        obtain ⟨args, h1, h2⟩ := ih (k := fun as => k (.mu d :: as)) q.2 hb (fun b h => hm b (List.mem_cons_of_mem _ h)) (List.nodup_cons.mp nd).2 h
        refine ⟨.mu d :: args, ⟨q.1.1, ?_, q.1.2.1.mono le, (List.nodup_cons.mp nd).1, h1⟩, h2⟩
        unfold cutG
        rw [if_neg (hm a List.mem_cons_self)]
        exact q.1.2.2.1
theorem upE_len : ∀ {gs : List Ag} {ds : List D}, (upE gs ds ρ).length = ρ.length
  | [], _ => rfl
  | .mu _ :: r, d :: ds => by simp [upE, upE_len (gs := r)]
  | .mu _ :: _, [] => rfl
  | .tm _ _ :: r, _ :: ds => upE_len (gs := r)
  | .tm _ _ :: _, [] => rfl
  | .ro _ :: r, ds => upE_len (gs := r)
  | .bo _ :: r, ds => upE_len (gs := r)
  | .bg _ _ :: r, ds => upE_len (gs := r)
  | .bd _ _ :: r, ds => upE_len (gs := r)
  | .mg _ _ :: r, d :: ds => by simp [upE, upE_len (gs := r)]
  | .mg _ _ :: _, [] => rfl
  | .gg _ :: r, d :: ds => by simp [upE, upE_len (gs := r)]
  | .gg _ :: _, [] => rfl
theorem upE_get {G' H' : Hp} : ∀ {gs : List Ag} {vs : List V} {ds : List D} {j : Nat} {s : Sl}, AgsX Z ρ G σ H vs gs → (∀ i ∈ muIx gs, isOwn ρ i) → MusOk Z.cc G' H' (muA gs ρ) ds → (upE gs ds ρ)[j]? = some s →
    (ρ[j]? = some s ∧ j ∉ muIx gs) ∨ ∃ m a d d', ρ[j]? = some (.own m a d) ∧ s = .own m a d' ∧ a ∈ muA gs ρ ∧ Root Z.cc G' H' a d' ∧ G' a = none ∧ d' ∈ ds
  | [], _, _, j, s, _, _, _, h => .inl ⟨h, by simp [muIx]⟩
  | .ro _ :: r, v :: vs, ds, j, s, q, o, m, h => upE_get (gs := r) q.2 o m h
  | .bo _ :: r, v :: vs, ds, j, s, q, o, m, h => upE_get (gs := r) q.2 o m h
  | .tm a d :: r, v :: vs, e :: ds, j, s, q, o, m, h => by
    rcases upE_get (gs := r) q.2 o m.2.2 h with z | ⟨m1, a1, d1, d2, h1, h2, h3, h4, h5, h6⟩
    · exact .inl z
    · exact .inr ⟨m1, a1, d1, d2, h1, h2, List.mem_cons_of_mem _ h3, h4, h5, List.mem_cons_of_mem _ h6⟩
  | .tm a d :: r, v :: vs, [], j, s, q, o, m, h => m.elim
  | .mu i :: r, v :: vs, ds, j, s, q, o, m, h => by
    have oi := o i (by simp [muIx])
    unfold isOwn at oi
    cases hs : ρ[i]? with
    | none => simp only [hs] at oi
    | some t =>
      simp only [hs] at oi
      cases t with
      | no => exact oi.elim
      | sh d => exact oi.elim
      | own m1 a d =>
        have em : muA (.mu i :: r) ρ = a :: muA r ρ := by simp only [muA, hs]
        rw [em] at m ⊢
        cases ds with
        | nil => exact m.elim
        | cons e ds =>
          have h : ((upE r ds ρ).set i (reown ρ i e))[j]? = some s := h
          have er : reown ρ i e = .own m1 a e := by simp only [reown, hs]
          rw [er] at h
          rcases get_set h with ⟨rfl, rfl⟩ | ⟨hj, h⟩
          · exact .inr ⟨m1, a, d, e, hs, rfl, List.mem_cons_self, m.1, m.2.1, List.mem_cons_self⟩
          · rcases upE_get (gs := r) q.2 (fun k hk => o k (by simp [muIx, hk])) m.2.2 h with ⟨z1, z2⟩ | ⟨m1, a1, d1, d2, h1, h2, h3, h4, h5, h6⟩
            · exact .inl ⟨z1, by simp [muIx, hj, z2]⟩
            · exact .inr ⟨m1, a1, d1, d2, h1, h2, List.mem_cons_of_mem _ h3, h4, h5, List.mem_cons_of_mem _ h6⟩
  | .mg i b :: r, v :: vs, ds, j, s, q, o, m, h => by
    have oi := o i (by simp [muIx])
    unfold isOwn at oi
    cases hs : ρ[i]? with
    | none => simp only [hs] at oi
    | some t =>
      simp only [hs] at oi
      cases t with
      | no => exact oi.elim
      | sh d => exact oi.elim
      | own m1 a d =>
        have em : muA (.mg i b :: r) ρ = a :: muA r ρ := by simp only [muA, hs]
        rw [em] at m ⊢
        cases ds with
        | nil => exact m.elim
        | cons e ds =>
          have h : ((upE r ds ρ).set i (reown ρ i e))[j]? = some s := h
          have er : reown ρ i e = .own m1 a e := by simp only [reown, hs]
          rw [er] at h
          rcases get_set h with ⟨rfl, rfl⟩ | ⟨hj, h⟩
          · exact .inr ⟨m1, a, d, e, hs, rfl, List.mem_cons_self, m.1, m.2.1, List.mem_cons_self⟩
          · rcases upE_get (gs := r) q.2 (fun k hk => o k (by simp [muIx, hk])) m.2.2 h with ⟨z1, z2⟩ | ⟨m1, a1, d1, d2, h1, h2, h3, h4, h5, h6⟩
            · exact .inl ⟨z1, by simp [muIx, hj, z2]⟩
            · exact .inr ⟨m1, a1, d1, d2, h1, h2, List.mem_cons_of_mem _ h3, h4, h5, List.mem_cons_of_mem _ h6⟩
  | .gg i :: r, [], ds, j, s, q, o, m, h => by
    have oi := o i (by simp [muIx])
    unfold isOwn at oi
    cases hs : ρ[i]? with
    | none => simp only [hs] at oi
    | some t =>
      simp only [hs] at oi
      cases t with
      | no => exact oi.elim
      | sh d => exact oi.elim
      | own m1 a d =>
        have em : muA (.gg i :: r) ρ = a :: muA r ρ := by simp only [muA, hs]
        rw [em] at m ⊢
        cases ds with
        | nil => exact m.elim
        | cons e ds =>
          have h : ((upE r ds ρ).set i (reown ρ i e))[j]? = some s := h
          have er : reown ρ i e = .own m1 a e := by simp only [reown, hs]
          rw [er] at h
          rcases get_set h with ⟨rfl, rfl⟩ | ⟨hj, h⟩
          · exact .inr ⟨m1, a, d, e, hs, rfl, List.mem_cons_self, m.1, m.2.1, List.mem_cons_self⟩
          · rcases upE_get (gs := r) (vs := []) q (fun k hk => o k (by simp [muIx, hk])) m.2.2 h with ⟨z1, z2⟩ | ⟨m1, a1, d1, d2, h1, h2, h3, h4, h5, h6⟩
            · exact .inl ⟨z1, by simp [muIx, hj, z2]⟩
            · exact .inr ⟨m1, a1, d1, d2, h1, h2, List.mem_cons_of_mem _ h3, h4, h5, List.mem_cons_of_mem _ h6⟩
  | .gg i :: r, v :: vs, _, _, _, h, _, _, _ => h.1.elim
  | .bg _ _ :: r, v :: vs, ds, j, s, q, o, m, h => upE_get (gs := r) q.2 o m h
  | .bg _ _ :: r, [], _, _, _, h, _, _, _ => h.elim
  | .bd _ _ :: r, v :: vs, ds, j, s, q, o, m, h => upE_get (gs := r) q.2 o m h
  | .bd _ _ :: r, [], _, _, _, h, _, _, _ => h.elim
  | .mg _ _ :: r, [], _, _, _, h, _, _, _ => h.elim
  | .mu i :: r, [], _, _, _, h, _, _, _ => h.elim
  | .ro i :: r, [], _, _, _, h, _, _, _ => h.elim
  | .bo i :: r, [], _, _, _, h, _, _, _ => h.elim
  | .tm i _ :: r, [], _, _, _, h, _, _, _ => h.elim
theorem argsK_own : ∀ {gs : List Ag} {k : List Arg → Prop}, argsK gs ρ k → ∀ i ∈ muIx gs, isOwn ρ i
  | [], _, _, i, h => by simp [muIx] at h
  | .ro _ :: r, k, h, i, hi => argsK_own (gs := r) h i hi
  | .tm _ _ :: r, k, h, i, hi => argsK_own (gs := r) h i hi
  | .bo j :: r, k, h, i, hi => by
    unfold argsK at h
    split at h
    · exact argsK_own (gs := r) h i hi
    · exact h.elim
  | .mu j :: r, k, h, i, hi => by
    unfold argsK at h
    split at h
    · rename_i m a d hs
      rcases List.mem_cons.mp hi with rfl | hi
      · unfold isOwn; rw [hs]; trivial
      · exact argsK_own (gs := r) h i hi
    · exact h.elim
  | .bd js d :: r, k, h, i, hi => by
    obtain ⟨e, _, h⟩ := h
    exact argsK_own (gs := r) h i hi
  | .bg j b :: r, k, h, i, hi => by
    unfold argsK at h
    split at h
    · exact argsK_own (gs := r) h.2 i hi
    · exact h.elim
  | .mg j b :: r, k, h, i, hi => by
    unfold argsK at h
    split at h
    · rename_i m a d hs
      rcases List.mem_cons.mp hi with rfl | hi
      · unfold isOwn; rw [hs]; trivial
      · exact argsK_own (gs := r) h.2 i hi
    · exact h.elim
  | .gg j :: r, k, h, i, hi => by
    unfold argsK at h
    split at h
    · rename_i m a d hs
      rcases List.mem_cons.mp hi with rfl | hi
      · unfold isOwn; rw [hs]; trivial
      · exact argsK_own (gs := r) h i hi
    · exact h.elim
theorem noLstAll_mem : ∀ {ds : List D} {d : D}, noLstAll ds = true → d ∈ ds → chFlat d = true
  | e :: ds, d, h, hm => by
    unfold noLstAll at h
    rw [Bool.and_eq_true] at h
    rcases List.mem_cons.mp hm with rfl | hm
    · exact h.1
    · exact noLstAll_mem h.2 hm

/-- behind a call -/
theorem sr_after (I : SR Z ρ G σ H) {gs : List Ag} {vs : List V} {ds : List D} {o : Ro} {v : V} {G' H' : Hp} (q : AgsX Z ρ G σ H vs gs) (nd : (boIx gs ++ muIx gs).Nodup) (own : ∀ i ∈ muIx gs, isOwn ρ i)
    (le : LE (cutG (boA gs ρ) G H) G') (sub : LE G' H') (fr : ∀ a u, H a = some u → a ∉ muA gs ρ → H' a = some u) (gn : ∀ a, G' a ≠ none → cutG (boA gs ρ) G H a ≠ none ∨ H a = none) (mo : MusOk Z.cc G' H' (muA gs ρ) ds) (ro : ResOk Z.cc G' H H' v o)
    (bk : hasBo gs = true → flatRo o = true ∧ noLstAll ds = true) : ∃ G2, LE G G2 ∧ SR Z (upE gs ds ρ) G2 σ H' ∧ (match o with | .sh d => RvOk Z (.sh d) (upE gs ds ρ) G2 σ H' v | .fr d => ∃ a, RvOk Z (.fr a d) (upE gs ds ρ) G2 σ H' v | .gx as cs t => as.Nodup ∧ (∀ a ∈ as, a ∉ owns (upE gs ds ρ)) ∧ SR Z (upE gs ds ρ ++ ghs as cs) G2 σ H' ∧ RvOk Z (.sh t) (upE gs ds ρ ++ ghs as cs) G2 σ H' v) ∧
      (∀ a d, Root Z.cc G' H' a d → chFlat d = true ∨ hasBo gs = false → Root Z.cc G2 H' a d) ∧ (∀ a, G a = none → H a ≠ none → G2 a = none) := by
  have hB : ∀ a ∈ boA gs ρ, G a = none := fun a ha => by
    obtain ⟨i, m, d, _, hs⟩ := boA_own ha
    exact I.out i m a d hs
  have hBr : ∀ a ∈ boA gs ρ, ∃ u, H a = some u ∧ Mut (some u) ∧ a ∉ muA gs ρ := fun a ha => by
    obtain ⟨i, m, d, _, hs⟩ := boA_own ha
    obtain ⟨u, e, mt⟩ := (I.own_ob hs).ob
    exact ⟨u, e, mt, fun h => boA_apart I q nd h ha⟩
  -- the known part, without the roots that were lent
  obtain ⟨G2, hG2⟩ : ∃ G2 : Hp, G2 = fun a => if a ∈ boA gs ρ then none else G' a := ⟨_, rfl⟩
  have g2in : ∀ a ∈ boA gs ρ, G2 a = none := fun a ha => by rw [hG2]; show (if a ∈ boA gs ρ then none else G' a) = none; rw [if_pos ha]
  have g2out : ∀ a, a ∉ boA gs ρ → G2 a = G' a := fun a ha => by rw [hG2]; show (if a ∈ boA gs ρ then none else G' a) = _; rw [if_neg ha]
  have leG : LE G G' := fun a u e => le a u (by unfold cutG; rw [if_neg (fun h => by rw [hB a h] at e; cases e)]; exact e)
  have le2 : LE G G2 := fun a u e => by
    rw [g2out a (fun h => by rw [hB a h] at e; cases e)]
    exact leG a u e
  have tups : ∀ a us, G' a = some (.tup us) → G2 a = some (.tup us) := fun a us e => by
    rw [g2out a ?_]
    · exact e
    · intro h
      obtain ⟨u, eu, mt, nm⟩ := hBr a h
      have := fr a u eu nm
      rw [sub a _ e] at this
      cases this
      exact mt
  have strip : ∀ {a : Addr} {d : D}, (hasBo gs = true → chFlat d = true) → Root Z.cc G' H' a d → Root Z.cc G2 H' a d := fun {a d} hf r => by
    by_cases hb : hasBo gs = true
    · exact r.strip tups (hf hb)
    · have e : boA gs ρ = [] := hasBo_nil (by simpa using hb)
      have : G2 = G' := by funext a; exact g2out a (by rw [e]; simp)
      rw [this]; exact r
  have stripR : ∀ {v : V} {d : D}, (hasBo gs = true → noLst d = true) → Rep Z.cc G' v d → Rep Z.cc G2 v d := fun {v d} hf r => by
    by_cases hb : hasBo gs = true
    · exact r.strip tups (hf hb)
    · have e : boA gs ρ = [] := hasBo_nil (by simpa using hb)
      have : G2 = G' := by funext a; exact g2out a (by rw [e]; simp)
      rw [this]; exact r
  have muOwn : ∀ a ∈ muA gs ρ, (a ∈ Z.mu ∨ Z.H0 a = none) := fun a ha => by
    rcases muA_at q ha with ⟨i, m, d, _, hs⟩ | ⟨_, w, d, f⟩
    · have := I.frs i m a d hs
      cases m with
      | true => exact .inl this
      | false => exact .inr this.1
    · exact .inr f.2.2.2.2.1
  have g2n : ∀ a, G a = none → H a ≠ none → G2 a = none := fun a h1 h2 => by
    by_cases hb : a ∈ boA gs ρ
    · exact g2in a hb
    · rw [g2out a hb]
      cases e : G' a with
      | none => rfl
      | some u =>
        rcases gn a (by rw [e]; simp) with z | z
        · unfold cutG at z; rw [if_neg hb] at z; exact absurd h1 z
        · exact absurd z h2
  have J : SR Z (upE gs ds ρ) G2 σ H' := by
    refine ⟨by rw [upE_len]; exact I.len, fun a u e => ?_, fun j s e => ?_, fun i j p r a d b x e1 e2 hn => ?_, fun j m a d e => ?_, fun a u e hn => ?_, fun j m a d e => ?_, fun a ha => ?_, fun a u e => le2 _ _ (I.g0 a u e), fun a ha => ?_, fun a ha => ?_⟩
    · by_cases hb : a ∈ boA gs ρ
      · rw [g2in a hb] at e; cases e
      · rw [g2out a hb] at e; exact sub a u e
    · rcases upE_get q own mo e with ⟨e, hj⟩ | ⟨m, a, d, d', h1, rfl, h3, h4, h5, h6⟩
      · have so := I.slot j s e
        cases s with
        | no => trivial
        | sh d => obtain ⟨u, eu, r⟩ := so; exact ⟨u, eu, r.mono le2⟩
        | own m a d =>
          refine ⟨so.1, (so.2.mono le2).heap fun u hu => fr a u hu fun hm => ?_⟩
          rcases muA_at q hm with ⟨i, m', d', hi, hs⟩ | ⟨_, w, d', f⟩
          · exact I.inj j i m m' a d a d' e hs (fun z => hj (z ▸ hi)) rfl
          · exact f.2.2.2.1 j m a d e rfl
      · exact ⟨(I.slot j _ h1).1, strip (fun hb => noLstAll_mem (bk hb).2 h6) h4⟩
    · have f : ∀ {i : Nat} {p : Bool} {a : Addr} {d : D}, (upE gs ds ρ)[i]? = some (.own p a d) → ∃ d0, ρ[i]? = some (.own p a d0) := fun {i p a d} e => by
        rcases upE_get q own mo e with ⟨e, _⟩ | ⟨m, a, d0, d', h1, h2, _⟩
        · exact ⟨_, e⟩
        · cases h2; exact ⟨_, h1⟩
      obtain ⟨_, e1⟩ := f e1
      obtain ⟨_, e2⟩ := f e2
      exact I.inj i j p r a _ b _ e1 e2 hn
    · have : ∃ d0, ρ[j]? = some (.own m a d0) := by
        rcases upE_get q own mo e with ⟨e, _⟩ | ⟨m, a, d0, d', h1, h2, _⟩
        · exact ⟨_, e⟩
        · cases h2; exact ⟨_, h1⟩
      obtain ⟨_, e⟩ := this
      obtain ⟨u, eu, _⟩ := (I.own_ob e).ob
      exact g2n a (I.out j m a _ e) (by rw [eu]; simp)
    · have h1 := I.ent a u e hn
      refine fr a u h1 fun hm => ?_
      rcases muOwn a hm with z | z
      · exact hn z
      · rw [z] at e; cases e
    · have : ∃ d0, ρ[j]? = some (.own m a d0) := by
        rcases upE_get q own mo e with ⟨e, _⟩ | ⟨m, a, d0, d', h1, h2, _⟩
        · exact ⟨_, e⟩
        · cases h2; exact ⟨_, h1⟩
      obtain ⟨_, e⟩ := this
      exact I.frs j m a _ e
    · have hb : a ∉ boA gs ρ := fun h => ha (g2in a h)
      rw [g2out a hb] at ha
      rcases gn a ha with z | z
      · unfold cutG at z; rw [if_neg hb] at z; exact I.gnew a z
      · exact .inr (I.h0 z).1
    · exact g2n a (I.mout a ha) (I.mux a ha)
    · by_cases hm : a ∈ muA gs ρ
      · -- a root that was changed still stands
        have ex : ∀ {mus : List Addr} {ds : List D}, MusOk Z.cc G' H' mus ds → a ∈ mus → H' a ≠ none := by
          intro mus
          induction mus with
          | nil => intro _ _ h; simp at h
          | cons b mus ih =>
            intro ds h hm
            cases ds with
            | nil => exact h.elim
            | cons d ds =>
              rcases List.mem_cons.mp hm with rfl | hm
              · obtain ⟨u, eu, _⟩ := h.1.ob
                rw [eu]; simp
              · exact ih h.2.2 hm
        exact ex mo hm
      · cases e : H a with
        | none => exact absurd e (I.mux a ha)
        | some u => rw [fr a u e hm]; simp
  refine ⟨G2, le2, J, ?_, fun a d r hf => strip (fun hb => hf.resolve_right (by rw [hb]; simp)) r, g2n⟩
  cases o with
  | sh d => exact stripR (fun hb => (bk hb).1) ro
  | fr d =>
    obtain ⟨a, rfl, rt, ga, ha⟩ := ro
    have hz := I.h0 ha
    refine ⟨a, rfl, strip (fun hb => (bk hb).1) rt, ?_, fun i m b e h => ?_, hz.1, hz.2⟩
    · by_cases hb : a ∈ boA gs ρ
      · exact g2in a hb
      · rw [g2out a hb]; exact ga
    · rcases upE_get q own mo h with ⟨h, _⟩ | ⟨m, a', d0, d', h1, h2, _⟩
      · exact I.own_ne h ha
      · cases h2; exact I.own_ne h1 ha
  | gx as cs t =>
    obtain ⟨h2, h3, h4, h5⟩ := ro
    have nb : hasBo gs = false := by
      cases e : hasBo gs with
      | false => rfl
      | true => have := (bk e).1; cases this
    have e : boA gs ρ = [] := hasBo_nil nb
    have eG : G2 = G' := by funext a; exact g2out a (by rw [e]; simp)
    have ap : ∀ (i : Nat) (a : Addr) (d : D), as[i]? = some a → cs[i]? = some d → ∀ (j : Nat) (m : Bool) (b : Addr) (e : D), (upE gs ds ρ)[j]? = some (.own m b e) → b ≠ a := fun i a d e1 e2 j m b e h => by
      have r3 := (h5 i a d e1 e2).2.2
      rcases upE_get q own mo h with ⟨h, _⟩ | ⟨m, a', d0, d', h1, h2, _⟩
      · exact I.own_ne h r3
      · cases h2; exact I.own_ne h1 r3
    refine ⟨h2, fun a ha ho => ?_, J.addGs h2 fun i a d e1 e2 => ?_, by rw [eG]; exact h4⟩
    · obtain ⟨i, hi⟩ := List.getElem?_of_mem ha
      obtain ⟨j, m, d, hj⟩ := owns_mem.mp ho
      have hl : i < cs.length := by rw [← h3]; exact (List.getElem?_eq_some_iff.mp hi).1
      exact ap i a _ hi (List.getElem?_eq_getElem hl) j m a d hj rfl
    · obtain ⟨r1, r2, r3⟩ := h5 i a d e1 e2
      have hz := I.h0 r3
      exact ⟨by rw [eG]; exact r1, by rw [eG]; exact r2, ap i a d e1 e2, hz.1, hz.2⟩
end
section
variable {X : Cx} {Z : Zone} {C : Ccs} {k : Nat} {f : Addr} {fd : FuncData} {ps : List Str} {sp : FSpec} {aw : AgW} {x : Str} {p pos : Pos} {e : Expr} {es : List Expr}
/-- from a call's word to the promise below -/
theorem call_lsp {np : Nat} {σ : L2.St} {H : Hp} {Q : VK} {ρ : REnv} {G : Hp} {K : Rv → REnv → Prop} {gs : List Ag} {vs : List V} {E : XK} (hcc : Z.cc = C.cc) (hz : Z.xk = xk0) (hl : vs.length = np) (I : SR Z ρ G σ H) (q : AgsX Z ρ G σ H vs gs) (h : callK sp gs ρ Z.xk K)
    (fin : ∀ r ρ' v H' G', LE G G' → SR Z ρ' G' σ H' → RvOk Z r ρ' G' σ H' v → K r ρ' → Q v H') : LSp0 C sp np vs H Q E := by
  rw [hz] at h
  obtain ⟨nd, tm, h⟩ := h
  have own := argsK_own h
  have hB : ∀ a ∈ boA gs ρ, G a = none := fun a ha => by
    obtain ⟨i, m, d, _, hs⟩ := boA_own ha
    exact I.out i m a d hs
  obtain ⟨args, ao, hs⟩ := args_ok I hB q (fun _ h => h) (fun a h => boA_apart I q nd h) (muA_nd I q (List.nodup_append.mp nd).2.1 tm) h
  refine ⟨hl, args, cutG (boA gs ρ) G H, muA gs ρ, _, fun a u e => ?_, by rw [← hcc]; exact ao, hs, fun o ds v H' G' le sub fr gn mo ro hk => ?_⟩
  · unfold cutG at e
    split at e
    · exact e
    · exact I.sub a u e
  · rw [← hcc] at mo ro
    obtain ⟨G2, le2, J, hr, _, _⟩ := sr_after I q nd own le sub fr gn mo ro hk.1
    cases o with
    | sh d => exact fin (.sh d) _ v H' G2 le2 J hr hk.2
    | fr d => obtain ⟨a, hr⟩ := hr; exact fin (.fr a d) _ v H' G2 le2 J hr (hk.2 a)
    | gx as cs t => obtain ⟨h1, h2, h3, h4⟩ := hr; exact fin (.sh t) _ v H' G2 le2 h3 h4 (hk.2 h1 h2)
theorem AgsOk.len {ρ : REnv} {G H : Hp} {σ : L2.St} : ∀ {vs : List V} {gs : List Ag}, AgsOk Z ρ G σ H vs gs → vs.length = gs.length
  | [], [], _ => rfl
  | v :: vs, g :: gs, h => by simp [AgsOk.len h.2]
  | [], _ :: _, h => h.elim
  | _ :: _, [], h => h.elim
/-- f(e, ..) -/
def eCall (np : Nat) (sp : FSpec) (aw : AgW) : EW := fun xk ρ K => aw xk ρ fun gs ρ1 => gs.length = np ∧ callK sp gs ρ1 xk K
theorem via_call {E : XK} {np : Nat} (hcc : Z.cc = C.cc) (hz : Z.xk = xk0) : Via Z (tCall (LSp0 C sp np) [] E (Tag Z aw)) (eCall np sp aw) := fun σ H Q ⟨ρ, G, K, IR, hw, q⟩ =>
  ⟨ρ, G, _, IR, hw, fun gs ρ' vs H' G' le I' qs k => by
    show LSp0 C sp np (vs ++ []) H' Q E
    rw [List.append_nil]
    exact call_lsp hcc hz (by rw [qs.len]; exact k.1) I' qs.x0 k.2 fun r ρ2 v H2 G2 le2 I2 q2 k2 => q r ρ2 v H2 G2 (le.trans le2) I2 q2 k2⟩
theorem de_call (hcc : Z.cc = C.cc) (hz : Z.xk = xk0) (F : FnOk X.prog X.w X.K X.mg X.base CX0 k f fd ps (LSp0 C sp ps.length)) (hr : Room k X.A) (hm : X.mg x = some (.ref f)) (hk : PySem.W.keepIn X.K (.ref f) = true) (hb : Binds X.K fd ps [])
    (ha : PA X (e :: es) (Tag Z aw)) (hg : Gl X x := by rfl) (hdb : (x == ("__debug__" : Str)) = false := by decide) (he : starEach (e :: es) X.env = (false, eval e X.env) :: starEach es X.env := by rfl) (hpl : (backTo pos (starEach es X.env)).any (·.1) = false := by rfl) :
    PE X (.Call (.Name x p) (e :: es) [] pos) (T Z (eCall ps.length sp aw)) := pvia (pe_call F hr hg hm hk hb .nil pass0 ha hdb he hpl) (via_call hcc hz)
end
end TL

namespace TL
open PySem PySem.Spec L2

section
variable {cc : CC}
theorem Reps.atI {G : Hp} {vs : List V} {ds : List D} {i : Int} {d : D} (r : Reps cc G vs ds) (h : L2.atI ds i = some d) : ∃ v, L2.atI vs i = some v ∧ Rep cc G v d := by
  unfold L2.atI at h ⊢
  rw [r.length]
  cases e : ixN ds.length i with
  | none => rw [e] at h; cases h
  | some j =>
    rw [e] at h
    exact r.get h
def opIx : D → D → OW
  | .lst ds, .int i => fun k => ∃ d, L2.atI ds i = some d ∧ k (.sh d)
  | .tup ds, .int i => fun k => ∃ d, L2.atI ds i = some d ∧ k (.sh d)
  | .str z, .int i => fun k => z.length ≤ sizeLine ∧ ∃ c, L2.atI z.cps.toList i = some c ∧ k (.sh (.str ⟨#[c]⟩))
  | _, _ => fun _ => False
theorem ops_ix {K : PySem.W.Frag} (hK : cc.K = K) : OpS cc opIx (rIx K) := by
  subst hK
  intro G H x y d e k Q le v1 v2 _ _ ho fin
  unfold opIx at ho
  split at ho
  · obtain ⟨a, vs, ea, ra, qa⟩ := v1
    obtain ⟨d, hd, hk⟩ := ho
    obtain ⟨v, hv, rv⟩ := qa.atI hd
    exact .inl ⟨a, vs, _, v, ea, v2, ra, hv, (fin _ hk).1 _ rv⟩
  · obtain ⟨a, vs, ea, ra, qa⟩ := v1
    obtain ⟨d, hd, hk⟩ := ho
    obtain ⟨v, hv, rv⟩ := qa.atI hd
    exact .inr (.inl ⟨a, vs, _, v, ea, v2, SqT.of ra, hv, (fin _ hk).1 _ rv⟩)
  · obtain ⟨hl, c, hc, hk⟩ := ho
    exact .inr (.inr ⟨_, _, c, v1, v2, hl, hc, (fin _ hk).1 _ rep_str⟩)
  · exact ho.elim
end
section
variable {X : Cx} {Z : Zone} {a b e : Expr} {wa wb w : EW} {pos : Pos}
theorem de_ix (hK : Z.cc.K = X.K) (ha : PE X a (T Z wa)) (hb : PE X b (T Z wb)) (hs : PlainIx b := by intro _ _; rfl) : PE X (.Subscript a b pos) (T Z (eBin opIx wa wb)) := pvia (pe_ix ix_seq ha hb hs) (via_bin (ops_ix hK))

/-! ### slices -/
abbrev PWt := Xk → REnv → (Option Int → REnv → Prop) → Prop
def pNone : PWt := fun _ ρ K => K none ρ
def pSome (w : EW) : PWt := fun xk ρ K => w xk ρ fun r ρ1 => match r.get ρ1 with | .int i => K (some i) ρ1 | _ => False
def Tp (Z : Zone) (w : PWt) : TO := fun σ H Q => ∃ ρ G K, SR Z ρ G σ H ∧ w Z.xk ρ K ∧ ∀ o ρ' H' G', LE G G' → SR Z ρ' G' σ H' → K o ρ' → Q o H'
theorem dp_none : PO X none (Tp Z pNone) := ⟨fun pins s σ H Q I ⟨ρ, G, K, IR, hw, q⟩ => po_none.run pins s σ H Q I (q none ρ H G (LE.refl G) IR hw)⟩
theorem dp_some (h : PE X e (T Z w)) : PO X (some e) (Tp Z (pSome w)) := ⟨fun pins s σ H Q I ⟨ρ, G, K, IR, hw, q⟩ => (po_some h).run pins s σ H Q I ⟨ρ, G, _, IR, hw, fun r ρ' v H' G' le I' qr k => by
  have vw := qr.view I'
  split at k
  · rename_i i hd
    rw [hd] at vw
    exact ⟨i, vw, q (some i) ρ' H' G' le I' k⟩
  · exact k.elim⟩⟩
def cutL {α : Type} (xs : List α) (lo hi : Option Int) : List α := (xs.drop (HT.sIx xs.length 0 lo)).take (HT.sIx xs.length xs.length hi - HT.sIx xs.length 0 lo)
theorem Reps.cut {cc : CC} {G : Hp} {vs : List V} {ds : List D} (r : Reps cc G vs ds) (lo hi : Option Int) : Reps cc G (cutV vs lo hi) (cutL ds lo hi) := by
  unfold cutV cutL
  rw [r.length]
  exact (r.drop _).take _
def opSl (lo hi : Option Int) : D → OW
  | .lst ds => fun k => k (.fr (.lst (cutL ds lo hi)))
  | _ => fun _ => False
def eSl (wa : EW) (pl ph : PWt) : EW := fun xk ρ K => wa xk ρ fun r ρ1 => pl xk ρ1 fun l ρ2 => ph xk ρ2 fun h ρ3 => pok r ρ3 ∧ opSl l h (r.get ρ3) fun o => out o ρ3 K
theorem pend_mono {r : Rv} {ρ ρ' : REnv} {G G' H H' : Hp} {σ : L2.St} {v : V} (le : LE G G') (q : RvOk Z r.pend ρ G σ H v) (pk : pok r ρ') : RvOk Z r.pend ρ' G' σ H' v := by
  cases r with
  | loc i => exact ⟨q.1, pk⟩
  | sh d => exact Rep.mono (d := d) le q
  | fr a d => exact Rep.mono (d := d) le q
  | gh j a => exact ⟨q.1, pk⟩
  | gx as cs t => exact Rep.mono (d := t) le q
theorem de_slice {lo hi : Option Expr} {pl ph : PWt} {p2 : Pos} (hK : Z.cc.K = X.K) (he : PE X e (T Z wa)) (hl : PO X lo (Tp Z pl)) (hu : PO X hi (Tp Z ph)) : PE X (.Subscript e (.Slice lo hi none p2) pos) (T Z (eSl wa pl ph)) :=
  ⟨fun pins s σ H Q I ⟨ρ, G, K, IR, hw, q⟩ => (pe_slice sl_list he hl hu).run pins s σ H Q I ⟨ρ, G, _, IR, hw, fun r ρ1 x H1 G1 le1 I1 q1 k1 => by
    obtain ⟨G1', le, I1', q1'⟩ := I1.freeze q1
    refine ⟨ρ1, G1', _, I1', k1, fun l ρ2 H2 G2 le2 I2 k2 => ⟨ρ2, G2, _, I2, k2, fun h ρ3 H3 G3 le3 I3 k3 => ?_⟩⟩
    have qf := pend_mono (H' := H3) (le2.trans le3) q1' k3.1
    have vw := qf.view I3
    rw [Rv.get_pend] at vw
    have k4 := k3.2
    cases hd : r.get ρ3 <;> rw [hd] at k4 vw <;> try exact (k4 : False).elim
    rename_i ds
    obtain ⟨a, vs, ea, ra, rs⟩ := vw
    refine ⟨a, vs, ea, by rw [← hK]; exact ra, fun p hp => ?_⟩
    exact (T.fin (o := .fr (.lst (cutL ds l h))) I3 (((le1.trans le).trans le2).trans le3) k4 q) p _ hp ⟨_, upd_same, rs.cut l h⟩⟩⟩
def opRev : D → OW
  | .lst ds => fun k => k (.fr (.lst ds.reverse))
  | _ => fun _ => False
/-! ### built-in functions -/
variable {x : Str} {p : Pos} {id TT : String} {r : List V → Hp → VK → Prop}
theorem via_c1 {op : D → OW} (hs : OpS1 Z.cc op fun v H Q => r [v] H Q) : Via Z (tCB r (tCons (T Z w) tNil)) (eUn op w) := via_un hs
theorem via_c2 {op : D → D → OW} (hs : OpS Z.cc op fun v u H Q => r [v, u] H Q) : Via Z (tCB r (tCons (T Z wa) (tCons (T Z wb) tNil))) (eBin op wa wb) := via_bin hs
theorem de_b1 {op : D → OW} (hc : CallR X (.builtin id) r) (hs : OpS1 Z.cc op fun v H Q => r [v] H Q) (hm : X.mg x = none) (ha : PE X e (T Z w)) (hv : bootBuiltins x = some (.builtin id) := by decide +kernel) (hg : Gl X x := by rfl) (hn : x ≠ "__name__" := by decide) (hdb : (x == ("__debug__" : Str)) = false := by decide)
    (hst : starEach [e] X.env = (false, eval e X.env) :: starEach [] X.env := by rfl) (hpl : (backTo pos (starEach [] X.env)).any (·.1) = false := by rfl) : PE X (.Call (.Name x p) [e] [] pos) (T Z (eUn op w)) :=
  pvia (pe_callB hc hg hm hv (pa_cons ha pa_nil hst) hn hdb hst hpl) (via_c1 hs)
theorem de_t1 {op : D → OW} (hc : CallR X (.type TT) r) (hs : OpS1 Z.cc op fun v H Q => r [v] H Q) (hm : X.mg x = none) (ha : PE X e (T Z w)) (hv : bootBuiltins x = some (.type TT) := by decide +kernel) (hg : Gl X x := by rfl) (hn : x ≠ "__name__" := by decide) (hdb : (x == ("__debug__" : Str)) = false := by decide)
    (hst : starEach [e] X.env = (false, eval e X.env) :: starEach [] X.env := by rfl) (hpl : (backTo pos (starEach [] X.env)).any (·.1) = false := by rfl) : PE X (.Call (.Name x p) [e] [] pos) (T Z (eUn op w)) :=
  pvia (pe_callTy hc hg hm hv (pa_cons ha pa_nil hst) hn hdb hst hpl) (via_c1 hs)
theorem de_b2 {op : D → D → OW} (hc : CallR X (.builtin id) r) (hs : OpS Z.cc op fun v u H Q => r [v, u] H Q) (hm : X.mg x = none) (ha : PE X a (T Z wa)) (hb : PE X b (T Z wb)) (hv : bootBuiltins x = some (.builtin id) := by decide +kernel) (hg : Gl X x := by rfl) (hn : x ≠ "__name__" := by decide) (hdb : (x == ("__debug__" : Str)) = false := by decide)
    (hst : starEach [a, b] X.env = (false, eval a X.env) :: starEach [b] X.env := by rfl) (hst2 : starEach [b] X.env = (false, eval b X.env) :: starEach [] X.env := by rfl) (hpl : (backTo pos (starEach [b] X.env)).any (·.1) = false := by rfl) : PE X (.Call (.Name x p) [a, b] [] pos) (T Z (eBin op wa wb)) :=
  pvia (pe_callB hc hg hm hv (pa_cons ha (pa_cons hb pa_nil hst2) hst) hn hdb hst hpl) (via_c2 hs)
end
section
variable {cc : CC} {X : Cx}
def opAbs : D → OW
  | .int i => fun k => k (.sh (.int (if i < 0 then -i else i)))
  | _ => fun _ => False
theorem ops_abs : OpS1 cc opAbs fun v H Q => (fun xs H Q => ∃ i, xs = [V.int i] ∧ Q (.int (if i < 0 then -i else i)) H) [v] H Q := by
  intro G H x d k Q le v _ ho fin
  unfold opAbs at ho
  split at ho
  · exact ⟨_, by rw [show x = _ from v], (fin _ ho).1 _ rep_int⟩
  · exact ho.elim
def opInt : D → OW
  | .int i => fun k => k (.sh (.int i))
  | .bl b => fun k => k (.sh (.int (if b then 1 else 0)))
  | _ => fun _ => False
theorem ops_int1 : OpS1 cc opInt fun v H Q => (fun xs H Q => (∃ i, xs = [V.int i] ∧ Q (.int i) H) ∨ ∃ k, xs = [.bl k] ∧ Q (.int (if k then 1 else 0)) H) [v] H Q := by
  intro G H x d k Q le v _ ho fin
  unfold opInt at ho
  split at ho
  · exact .inl ⟨_, by rw [show x = _ from v], (fin _ ho).1 _ rep_int⟩
  · exact .inr ⟨_, by rw [show x = _ from v], (fin _ ho).1 _ rep_int⟩
  · exact ho.elim
def opMax2 : D → D → OW
  | .int i, .int j => fun k => k (.sh (.int (if j > i then j else i)))
  | _, _ => fun _ => False
def opMin2 : D → D → OW
  | .int i, .int j => fun k => k (.sh (.int (if j < i then j else i)))
  | _, _ => fun _ => False
theorem ops_max2 : OpS cc opMax2 fun v u H Q => (fun xs H Q => ∃ i j, xs = [V.int i, V.int j] ∧ Q (.int (if j > i then j else i)) H) [v, u] H Q := by
  intro G H x y d e k Q le v1 v2 _ _ ho fin
  unfold opMax2 at ho
  split at ho
  · exact ⟨_, _, by rw [show x = _ from v1, show y = _ from v2], (fin _ ho).1 _ rep_int⟩
  · exact ho.elim
theorem ops_min2 : OpS cc opMin2 fun v u H Q => (fun xs H Q => ∃ i j, xs = [V.int i, V.int j] ∧ Q (.int (if j < i then j else i)) H) [v, u] H Q := by
  intro G H x y d e k Q le v1 v2 _ _ ho fin
  unfold opMin2 at ho
  split at ho
  · exact ⟨_, _, by rw [show x = _ from v1, show y = _ from v2], (fin _ ho).1 _ rep_int⟩
  · exact ho.elim
def opLen : D → OW
  | .lst ds => fun k => k (.sh (.int ds.length))
  | .tup ds => fun k => k (.sh (.int ds.length))
  | .str z => fun k => z.length ≤ sizeLine ∧ k (.sh (.int z.length))
  | _ => fun _ => False
abbrev rLen (K : PySem.W.Frag) : List V → Hp → VK → Prop := fun xs H Q => (∃ p ys, xs = [.ref p] ∧ (SqL K H p ys ∨ SqT K H p ys) ∧ Q (.int ys.length) H) ∨ (∃ z, xs = [.str z] ∧ z.length ≤ sizeLine ∧ Q (.int z.length) H)
theorem call_lenA : CallR X (.builtin "len") (rLen X.K) := call_len_seq.or call_len_str
theorem ops_len {K : PySem.W.Frag} (hK : cc.K = K) : OpS1 cc opLen fun v H Q => rLen K [v] H Q := by
  subst hK
  intro G H x d k Q le v _ ho fin
  unfold opLen at ho
  split at ho
  · obtain ⟨a, vs, ea, ra, rs⟩ := v
    exact .inl ⟨a, vs, by rw [ea], .inl (ra), by rw [rs.length]; exact (fin _ ho).1 _ rep_int⟩
  · obtain ⟨a, vs, ea, ra, rs⟩ := v
    exact .inl ⟨a, vs, by rw [ea], .inr (SqT.of ra), by rw [rs.length]; exact (fin _ ho).1 _ rep_int⟩
  · exact .inr ⟨_, by rw [show x = _ from v], ho.1, (fin _ ho.2).1 _ rep_int⟩
  · exact ho.elim
def opList : D → OW
  | .lst ds => fun k => k (.fr (.lst ds))
  | .tup ds => fun k => k (.fr (.lst ds))
  | _ => fun _ => False
theorem ops_list {K : PySem.W.Frag} (hK : cc.K = K) : OpS1 cc opList fun v H Q => (fun xs H Q => ∃ p ys, xs = [V.ref p] ∧ (SqL K H p ys ∨ SqT K H p ys) ∧ ∀ l, H l = none → Q (.ref l) (upd H l (.lst ys))) [v] H Q := by
  subst hK
  intro G H x d k Q le v _ ho fin
  unfold opList at ho
  split at ho
  · obtain ⟨a, vs, ea, ra, rs⟩ := v
    exact ⟨a, vs, by rw [ea], .inl (ra), fun l hl => (fin _ ho) l _ hl ⟨_, upd_same, rs⟩⟩
  · obtain ⟨a, vs, ea, ra, rs⟩ := v
    exact ⟨a, vs, by rw [ea], .inr (SqT.of ra), fun l hl => (fin _ ho) l _ hl ⟨_, upd_same, rs⟩⟩
  · exact ho.elim
theorem Reps.ints {G : Hp} : ∀ {ns : List Int} {vs : List V}, Reps cc G vs (ns.map D.int) → vs = ns.map V.int
  | [], _, h => h.inv_nil
  | n :: ns, _, h => by
    obtain ⟨v, r, rfl, rv, rr⟩ := h.inv_cons
    unfold Rep at rv
    rw [rv, Reps.ints rr]
    rfl
theorem Reps.bls {G : Hp} : ∀ {ns : List Bool} {vs : List V}, Reps cc G vs (ns.map D.bl) → vs = ns.map V.bl
  | [], _, h => h.inv_nil
  | n :: ns, _, h => by
    obtain ⟨v, r, rfl, rv, rr⟩ := h.inv_cons
    unfold Rep at rv
    rw [rv, Reps.bls rr]
    rfl
def opAll : D → OW
  | .lst ds => fun k => ∃ bs : List Bool, ds = bs.map D.bl ∧ k (.sh (.bl (bs.all id)))
  | _ => fun _ => False
theorem ops_all {K : PySem.W.Frag} (hK : cc.K = K) : OpS1 cc opAll fun v H Q => rAll K [v] H Q := by
  subst hK
  intro G H x d k Q le v _ ho fin
  unfold opAll at ho
  split at ho
  · obtain ⟨a, vs, ea, ra, rs⟩ := v
    obtain ⟨ns, rfl, hk⟩ := ho
    have e := rs.bls
    subst e
    exact ⟨a, ns, by rw [ea], ra, (fin _ hk).1 _ rep_bl⟩
  · exact ho.elim
def opMin1 : D → OW
  | .lst ds => fun k => ∃ ns : List Int, ds = ns.map D.int ∧ 0 < ns.length ∧ ∀ m, m ∈ ns → (∀ y, y ∈ ns → m ≤ y) → k (.sh (.int m))
  | _ => fun _ => False
theorem ops_min1 {K : PySem.W.Frag} (hK : cc.K = K) : OpS1 cc opMin1 fun v H Q => rMin K [v] H Q := by
  subst hK
  intro G H x d k Q le v _ ho fin
  unfold opMin1 at ho
  split at ho
  · obtain ⟨a, vs, ea, ra, rs⟩ := v
    obtain ⟨ns, rfl, hl, hk⟩ := ho
    have e := rs.ints
    subst e
    exact ⟨a, ns, by rw [ea], ra, hl, fun m h1 h2 => (fin _ (hk m h1 h2)).1 _ rep_int⟩
  · exact ho.elim

/-! ### == and != -/
mutual
def pd : D → PyData
  | .non => .none
  | .bl b => .bool b
  | .int i => .int i
  | .str x => .str x
  | .tup ds => .tuple (pds ds)
  | .lst ds => .list (pds ds)
  | .obj _ _ => .none
  | .dct _ _ => .none
  | .dic _ _ => .none
  | .ptr _ => .none
def pds : List D → List PyData
  | [] => []
  | d :: ds => pd d :: pds ds
end
mutual
/-- plain data, at most n deep -/
def okD (n : Nat) : D → Bool
  | .non => true
  | .bl _ => true
  | .int _ => true
  | .str x => PyData.strOk x
  | .tup ds => match n with | 0 => false | m + 1 => okDs m ds
  | .lst ds => match n with | 0 => false | m + 1 => okDs m ds
  | .obj _ _ => false
  | .dct _ _ => false
  | .dic _ _ => false
  | .ptr _ => false
def okDs (n : Nat) : List D → Bool
  | [] => true
  | d :: ds => okD n d && okDs n ds
end
def eqD (d e : D) : Bool := PyData.eqv (pd d) (pd e)
def eqDs (d e : List D) : Bool := PyData.eqvAll (pds d) (pds e)
mutual
theorem okD_lay : ∀ {n : Nat} {d : D}, okD n d = true → PyData.canLay0 (pd d) = true ∧ PyData.depth (pd d) ≤ n
  | n, .non, _ => by simp [pd, PyData.canLay0, PyData.depth]
  | n, .bl _, _ => by simp [pd, PyData.canLay0, PyData.depth]
  | n, .int _, _ => by simp [pd, PyData.canLay0, PyData.depth]
  | n, .str x, h => by
    have : PyData.strOk x = true := by simpa [okD] using h
    simp [pd, PyData.canLay0, PyData.depth, this]
  | 0, .tup ds, h => by simp [okD] at h
  | n + 1, .tup ds, h => by
    have := okDs_lay (n := n) (ds := ds) (by simpa [okD] using h)
    simp only [pd, PyData.canLay0, PyData.depth]
    exact ⟨this.1, by omega⟩
  | 0, .lst ds, h => by simp [okD] at h
  | n + 1, .lst ds, h => by
    have := okDs_lay (n := n) (ds := ds) (by simpa [okD] using h)
    simp only [pd, PyData.canLay0, PyData.depth]
    exact ⟨this.1, by omega⟩
  | n, .obj _ _, h => by simp [okD] at h
  | n, .dct _ _, h => by simp [okD] at h
  | n, .dic _ _, h => by simp [okD] at h
  | n, .ptr _, h => by simp [okD] at h
theorem okDs_lay : ∀ {n : Nat} {ds : List D}, okDs n ds = true → PyData.canLayAll0 (pds ds) = true ∧ PyData.depthAll (pds ds) ≤ n
  | n, [], _ => by simp [pds, PyData.canLayAll0, PyData.depthAll]
  | n, d :: ds, h => by
    have h : okD n d = true ∧ okDs n ds = true := by simpa [okDs] using h
    have h1 := okD_lay h.1
    have h2 := okDs_lay h.2
    simp only [pds, PyData.canLayAll0, PyData.depthAll, Bool.and_eq_true]
    exact ⟨⟨h1.1, h2.1⟩, by omega⟩
end
theorem okD_shaped {d : D} (h : okD 64 d = true) : SeqAt.shaped (pd d) = true := by
  have := okD_lay h
  unfold SeqAt.shaped
  rw [this.1, Bool.true_and]
  exact decide_eq_true this.2
mutual
theorem okD_dp {H : Hp} : ∀ {n : Nat} {d : D} {v : V}, okD n d = true → Rep cc H v d → Dp cc.K H v (pd d)
  | n, .non, v, _, r => by unfold Rep at r; subst r; exact .non
  | n, .bl _, v, _, r => by unfold Rep at r; subst r; exact .bl _
  | n, .int _, v, _, r => by unfold Rep at r; subst r; exact .int _
  | n, .str x, v, _, r => by unfold Rep at r; subst r; exact .str _
  | 0, .tup ds, _, h, _ => by simp [okD] at h
  | n + 1, .tup ds, v, h, r => by
    unfold Rep at r
    obtain ⟨a, vs, rfl, ra, rs⟩ := r
    exact .tup (SqT.of ra) (okDs_dp (n := n) (by simpa [okD] using h) rs)
  | 0, .lst ds, _, h, _ => by simp [okD] at h
  | n + 1, .lst ds, v, h, r => by
    unfold Rep at r
    obtain ⟨a, vs, rfl, ra, rs⟩ := r
    exact .lst (ra) (okDs_dp (n := n) (by simpa [okD] using h) rs)
  | n, .obj _ _, _, h, _ => by simp [okD] at h
  | n, .dct _ _, _, h, _ => by simp [okD] at h
  | n, .dic _ _, _, h, _ => by simp [okD] at h
  | n, .ptr _, _, h, _ => by simp [okD] at h
theorem okDs_dp {H : Hp} : ∀ {n : Nat} {ds : List D} {vs : List V}, okDs n ds = true → Reps cc H vs ds → DpAll cc.K H vs (pds ds)
  | n, [], vs, _, r => by rw [r.inv_nil]; exact .nil
  | n, d :: ds, vs, h, r => by
    have h : okD n d = true ∧ okDs n ds = true := by simpa [okDs] using h
    obtain ⟨v, us, rfl, rv, rr⟩ := r.inv_cons
    exact .cons (okD_dp h.1 rv) (okDs_dp h.2 rr)
end
def opEq : D → D → OW := fun d e k => (okD 64 d = true ∧ okD 64 e = true) ∧ k (.sh (.bl (eqD d e)))
def opNe : D → D → OW := fun d e k => (okD 64 d = true ∧ okD 64 e = true) ∧ k (.sh (.bl (!eqD d e)))
theorem ops_eq {K : PySem.W.Frag} (hK : cc.K = K) : OpS cc opEq (rEqD K) := by
  subst hK
  intro G H x y d e k Q le _ _ r1 r2 ho fin
  exact ⟨pd d, pd e, okD_dp ho.1.1 r1, okD_dp ho.1.2 r2, okD_shaped ho.1.1, okD_shaped ho.1.2, (fin _ ho.2).1 _ rep_bl⟩
theorem ops_ne {K : PySem.W.Frag} (hK : cc.K = K) : OpS cc opNe (rNeD K) := by
  subst hK
  intro G H x y d e k Q le _ _ r1 r2 ho fin
  exact ⟨pd d, pd e, okD_dp ho.1.1 r1, okD_dp ho.1.2 r2, okD_shaped ho.1.1, okD_shaped ho.1.2, (fin _ ho.2).1 _ rep_bl⟩
/-! ### is None -/
def isNon : D → Bool
  | .non => true
  | _ => false
def opIsN : D → OW := fun d k => k (.sh (.bl (isNon d)))
def opNotN : D → OW := fun d k => k (.sh (.bl (!isNon d)))
end
section
variable {X : Cx} {Z : Zone} {e : Expr} {w : EW} {pos : Pos}
end
end TL

namespace TL
open PySem PySem.Spec L2

theorem zip_lookup {f : Str} {v : V} : ∀ {ks : List Str} {vs : List V} {j : Nat}, ks.Nodup → ks[j]? = some f → vs[j]? = some v → (ks.zip vs).lookup f = some v
  | [], _, _, _, h, _ => by simp at h
  | k :: ks, [], _, _, _, h => by simp at h
  | k :: ks, v' :: vs, 0, nd, h1, h2 => by
    simp at h1 h2; subst h1; subst h2
    simp [List.lookup_cons]
  | k :: ks, v' :: vs, j + 1, nd, h1, h2 => by
    simp at h1 h2
    have : (f == k) = false := by
      have := (List.nodup_cons.mp nd).1
      simp only [beq_eq_false_iff_ne, ne_eq]
      rintro rfl
      exact this (List.mem_of_getElem? h1)
    simp only [List.zip_cons_cons, List.lookup_cons, this]
    exact zip_lookup (List.nodup_cons.mp nd).2 h1 h2
def setAt {α : Type} (xs : List α) (j : Nat) (x : α) : List α := if j < xs.length then xs.set j x else xs ++ [x]
theorem putF_zip {f : Str} {v : V} : ∀ {ks : List Str} {vs : List V} {j : Nat}, ks.Nodup → ks[j]? = some f → j ≤ vs.length → putF f v (ks.zip vs) = ks.zip (setAt vs j v)
  | [], _, _, _, h, _ => by simp at h
  | k :: ks, [], j, nd, h1, h2 => by
    have : j = 0 := by simpa using h2
    subst this
    simp at h1; subst h1
    simp [putF, setAt]
  | k :: ks, u :: vs, 0, nd, h1, h2 => by
    simp at h1; subst h1
    show (if k = k then _ else _) = _
    rw [if_pos rfl]
    rfl
  | k :: ks, u :: vs, j + 1, nd, h1, h2 => by
    simp at h1 h2
    have hk : ¬ k = f := by
      rintro rfl
      exact (List.nodup_cons.mp nd).1 (List.mem_of_getElem? h1)
    have ih := putF_zip (v := v) (vs := vs) (List.nodup_cons.mp nd).2 h1 h2
    show (if k = f then (k, v) :: ks.zip vs else (k, u) :: putF f v (ks.zip vs)) = _
    rw [if_neg hk, ih]
    unfold setAt
    simp only [List.length_cons, Nat.succ_lt_succ_iff]
    split <;> simp
theorem Reps.setAt {cc : CC} {G : Hp} {vs : List V} {ds : List D} {j : Nat} {v : V} {d : D} (r : Reps cc G vs ds) (q : Rep cc G v d) : Reps cc G (TL.setAt vs j v) (TL.setAt ds j d) := by
  unfold TL.setAt
  rw [r.length]
  split
  · exact r.set j q
  · exact r.append (Reps.cons q Reps.nil)
theorem setAt_len {α : Type} {xs : List α} {j : Nat} {x : α} {n : Nat} (h : xs.length ≤ n) (hj : j ≤ xs.length) (hn : j < n) : (setAt xs j x).length ≤ n := by
  unfold setAt
  split
  · simpa using h
  · simp; omega

/-- what a class must have to be read and stored -/
structure ClsOk (K : PySem.W.Frag) (C : Addr × List Str) : Prop where
  cl : Cls K C.1
  na : ∀ f ∈ C.2, NoAttr K C.1 f
  nd : C.2.Nodup
  few : C.2.length ≤ 900
section
variable {X : Cx} {Z : Zone} {e : Expr} {w : EW} {pos : Pos} {c j i : Nat} {f : Str}
def eFld (c j : Nat) (w : EW) : EW := fun xk ρ K => w xk ρ fun r ρ1 => match r.get ρ1 with
  | .obj c' ds => c' = c ∧ match ds[j]? with | some d => K (.sh d) ρ1 | none => False
  | _ => False
theorem de_fld (ck : ClsOk X.K (Z.cc.cl c)) (hf : (Z.cc.cl c).2[j]? = some f) (he : PE X e (T Z w)) (hb : attributeBase e f X.env (eval e X.env) = eval e X.env := by rfl) : PE X (.Attribute e f pos) (T Z (eFld c j w)) :=
  ⟨fun pins s σ H Q I ⟨ρ, G, K, IR, hw, q⟩ => (pe_fld he hb).run pins s σ H Q I ⟨ρ, G, _, IR, hw, fun r ρ1 v H1 G1 le1 I1 q1 k1 => by
    have vw := q1.view I1
    cases hd : r.get ρ1 <;> simp only [hd] at k1
    all_goals try exact k1.elim
    rename_i c' ds
    obtain ⟨rfl, k1⟩ := k1
    rw [hd] at vw
    obtain ⟨a, dx, vs, ea, ha, hl, rs⟩ := vw
    cases he : ds[j]? with
    | none => simp only [he] at k1
    | some d =>
      simp only [he] at k1
      obtain ⟨u, hu, ru⟩ := rs.get he
      exact ⟨a, _, dx, _, u, ea, ha, ck.cl, ck.na f (List.mem_of_getElem? hf), zip_lookup ck.nd hf hu, q (.sh d) ρ1 u H1 G1 le1 I1 ru k1⟩⟩⟩
/-- self.f = e -/
def sFld (i c j : Nat) (w : EW) : SW := fun xk ρ K => w xk ρ fun r ρ1 => stl r ρ1 fun d ρ2 => match ρ2[i]? with
  | some (.own m a (.obj c' ds)) => c' = c ∧ j ≤ ds.length ∧ K.nx (ρ2.set i (.own m a (.obj c (setAt ds j d))))
  | _ => False
theorem Root.obj {cc : CC} {G H : Hp} {a dx : Addr} {c : Nat} {vs : List V} {ds : List D} (h : H a = some (.ins (cc.cl c).1 dx ((cc.cl c).2.zip vs))) (l : vs.length ≤ (cc.cl c).2.length) (r : Reps cc G vs ds) : Root cc G H a (.obj c ds) := ⟨dx, vs, h, l, r⟩
theorem ds_fld {x : Str} {px pos' : Pos} (ck : ClsOk X.K (Z.cc.cl c)) (hf : (Z.cc.cl c).2[j]? = some f) (he : PE X e (T Z w)) (hN : X.N[i]? = some x := by rfl) (hv : Vis X.env.scope x := by first | exact Or.inl rfl | exact Or.inr (Or.inl rfl) | exact Or.inr (Or.inr rfl)) (hd : (x == ("__debug__" : Str)) = false := by decide)
    (hcd : (x == ("__classdict__" : Str)) = false := by decide) (hs : swapsWith e (some (.Attribute (.Name x px) f pos')) pos.line X.env = pure false := by rfl) : PS X (.Assign [.Attribute (.Name x px) f pos'] e pos) (Ts Z (sFld i c j w)) :=
  ⟨fun pins s σ H D I ⟨ρ, G, K, IR, hw, l⟩ => (ps_fld (pv i hN hv hd hcd) he hs).run pins s σ H D I ⟨ρ, G, _, IR, hw, fun r ρ1 v H1 G1 le1 I1 q1 k1 => by
    obtain ⟨d, ρ2, G2, le2, I2, rp, k2, _⟩ := I1.settle q1 k1
    split at k2
    · rename_i m a c' ds hs
      obtain ⟨rfl, hj, k2⟩ := k2
      obtain ⟨es, dx, vs, ha, hl, rs⟩ := I2.slot i _ hs
      have hjv : j ≤ vs.length := by rw [rs.length]; exact hj
      refine ⟨.ref a, own_at (lt_len I hN) es, a, _, dx, _, rfl, ha, ck.cl, ck.na f (List.mem_of_getElem? hf), ?_, ?_⟩
      · have := ck.few
        rw [List.length_zip]; omega
      · rw [putF_zip ck.nd hf hjv]
        exact l.nx _ σ _ G2 (le1.trans le2) (I2.write hs (Root.obj upd_same (setAt_len hl hjv (List.getElem?_eq_some_iff.mp hf).1) (rs.setAt rp))) k2
    · exact k2.elim⟩⟩

def isObj (c : Nat) : D → Prop
  | .obj c' _ => c' = c
  | _ => False
variable {C : Ccs} {k : Nat} {fa p : Addr} {fd : FuncData} {ps : List Str} {sp : FSpec} {aw : AgW} {m : Str} {es : List Expr}
/-- e.f, a property -/
def eProp (c : Nat) (sp : FSpec) (w : EW) : EW := fun xk ρ K => w xk ρ fun r ρ1 => stl r ρ1 fun d ρ2 => isObj c d ∧ callK sp [.ro d] ρ2 xk K
theorem de_prop (hcc : Z.cc = C.cc) (hz : Z.xk = xk0) (ck : ClsOk X.K (Z.cc.cl c)) (hp : PropOf X.K (Z.cc.cl c).1 f p fa) (F : FnOk X.prog X.w X.K X.mg X.base CX0 k fa fd ["self"] (LSp0 C sp 1)) (hr : Room (k + 1) X.A) (hb : Binds X.K fd ["self"] [])
    (he : PE X e (T Z w)) (hab : attributeBase e f X.env (eval e X.env) = eval e X.env := by rfl) : PE X (.Attribute e f pos) (T Z (eProp c sp w)) :=
  ⟨fun pins s σ H Q I ⟨ρ, G, K, IR, hw, q⟩ => (pe_prop he ck.cl hp F hr hb .nil pass0 hab).run pins s σ H Q I ⟨ρ, G, _, IR, hw, fun r ρ1 v H1 G1 le1 I1 q1 k1 => by
    obtain ⟨d, ρ2, G2, le2, I2, rp, ⟨ho, k2⟩, _⟩ := I1.settle q1 k1
    cases d <;> try exact ho.elim
    rename_i c' ds
    cases (show c' = c from ho)
    have rp' := rp
    unfold Rep at rp
    obtain ⟨a, dx, vs, ea, ha, hl, rs⟩ := rp
    subst ea
    refine ⟨a, dx, _, rfl, I2.sub _ _ ha, ?_⟩
    exact call_lsp (gs := [.ro (.obj c ds)]) hcc hz rfl I2 ⟨rp', trivial⟩ k2 fun r ρ3 v H3 G3 le3 I3 q3 k3 => q r ρ3 v H3 G3 ((le1.trans le2).trans le3) I3 q3 k3⟩⟩
/-- e.m(..) -/
def eMeth (c np : Nat) (sp : FSpec) (w : EW) (aw : AgW) : EW := fun xk ρ K => w xk ρ fun r ρ1 => stl r ρ1 fun d ρ2 => isObj c d ∧ aw xk ρ2 fun gs ρ3 => gs.length + 1 = np ∧ callK sp (.ro d :: gs) ρ3 xk K
/-- e.m() -/
def eMeth0 (c : Nat) (sp : FSpec) (w : EW) : EW := eProp c sp w
/-- C(..): a new object, by __init__ -/
def eMake (c np : Nat) (sp : FSpec) (aw : AgW) : EW := fun xk ρ K => aw xk ρ fun gs ρ1 => gs.length + 1 = np ∧ (boIx gs ++ muIx gs).Nodup ∧ tms gs = 0 ∧
  argsK gs ρ1 fun args => sp (.mu (.obj c []) :: args) (fun o ds => match o, ds with
    | .sh .non, d0 :: rest => (hasBo gs = true → chFlat d0 = true ∧ noLstAll rest = true) ∧ ∀ a, K (.fr a d0) (upE gs rest ρ1)
    | _, _ => False) (fun c d => xk c d ρ1)
theorem de_make {a : Expr} {x : Str} {px : Pos} (hcc : Z.cc = C.cc) (hz : Z.xk = xk0) (M : Mk X.K (Z.cc.cl c).1 fa) (F : FnOk X.prog X.w X.K X.mg X.base CX0 k fa fd ps (LSp0 C sp ps.length)) (hr : Room (k + 1) X.A) (hm : X.mg x = some (.ref (Z.cc.cl c).1)) (hb : Binds X.K fd ps [])
    (ha : PA X (a :: es) (Tag Z aw)) (hg : Gl X x := by rfl) (hdb : (x == ("__debug__" : Str)) = false := by decide) (hst : starEach (a :: es) X.env = (false, eval a X.env) :: starEach es X.env := by rfl) (hpl : (backTo pos (starEach es X.env)).any (·.1) = false := by rfl) :
    PE X (.Call (.Name x px) (a :: es) [] pos) (T Z (eMake c ps.length sp aw)) :=
  ⟨fun pins s σ H Q I ⟨ρ, G, K, IR, hw, q⟩ => (pe_make M F hr hg hm hb .nil pass0 ha hdb hst hpl).run pins s σ H Q I ⟨ρ, G, _, IR, hw, fun gs ρ1 vs H1 G1 le1 I1 qs ⟨hl, nd, t0, k1⟩ => fun x0 dx hx hdx hne => by
    have nd' : (boIx (.tm x0 (.obj c []) :: gs) ++ muIx (.tm x0 (.obj c []) :: gs)).Nodup := nd
    have I2 : SR Z ρ1 G1 σ (upd (upd H1 dx (.own x0)) x0 (.ins (Z.cc.cl c).1 dx [])) := (I1.newH hdx).newH (by rw [upd_ne hne.symm]; exact hx)
    rw [hz] at k1
    have gx := I1.g hx
    obtain ⟨z0, zm⟩ := I1.h0 hx
    have own := argsK_own k1
    have qs2 : AgsOk Z ρ1 G1 σ (upd (upd H1 dx (.own x0)) x0 (.ins (Z.cc.cl c).1 dx [])) vs gs := by
      have : ∀ {vs : List V} {gs : List Ag}, tms gs = 0 → AgsOk Z ρ1 G1 σ H1 vs gs → AgsOk Z ρ1 G1 σ (upd (upd H1 dx (.own x0)) x0 (.ins (Z.cc.cl c).1 dx [])) vs gs := by
        intro vs gs
        induction gs generalizing vs with
        | nil => intro _ h; cases vs with
          | nil => trivial
          | cons _ _ => exact h.elim
        | cons g gs ih =>
          intro t h
          cases vs with
          | nil => exact h.elim
          | cons v vs =>
            cases g with
            | ro d => exact ⟨h.1, ih t h.2⟩
            | bo i => exact ⟨h.1, ih t h.2⟩
            | mu i => exact ⟨h.1, ih t h.2⟩
            | bg i a => exact ⟨h.1, ih t h.2⟩
            | mg i a => exact ⟨h.1, ih t h.2⟩
            | gg i => exact h.1.elim
            | bd js d => exact ⟨h.1, ih t h.2⟩
            | tm a d => simp [tms] at t
      exact this t0 qs
    have q0 : AgsOk Z ρ1 G1 σ (upd (upd H1 dx (.own x0)) x0 (.ins (Z.cc.cl c).1 dx [])) (.ref x0 :: vs) (.tm x0 (.obj c []) :: gs) :=
      ⟨⟨rfl, Root.obj (dx := dx) (vs := []) (by rw [upd_same, List.zip_nil_right]) (Nat.zero_le _) Reps.nil, gx, fun i m b e h => I1.own_ne h hx, z0, zm⟩, qs2⟩
    have hB : ∀ a ∈ boA (.tm x0 (.obj c []) :: gs) ρ1, G1 a = none := fun a ha => by
      obtain ⟨i, m, d, _, hs⟩ := boA_own (gs := .tm x0 (.obj c []) :: gs) ha
      exact I2.out i m a d hs
    have k2 : argsK (.tm x0 (.obj c []) :: gs) ρ1 (fun as => sp as _ _) := k1
    obtain ⟨args, ao, hs⟩ := args_ok (gs := .tm x0 (.obj c []) :: gs) I2 hB q0.x0 (fun _ h => h) (fun a h => boA_apart I2 q0.x0 nd' h) (muA_nd I2 q0.x0 (List.nodup_append.mp nd').2.1 (by simp [tms, t0])) k2
    show LSp0 C sp ps.length (.ref x0 :: (vs ++ [])) _ _ _
    rw [List.append_nil]
    refine ⟨by simp [qs.len, hl], _, cutG (boA (.tm x0 (.obj c []) :: gs) ρ1) G1 _, muA (.tm x0 (.obj c []) :: gs) ρ1, _, fun a u e => ?_, by rw [← hcc]; exact ao, hs, fun o ds v H' G' le sub fr gn mo ro hk => ?_⟩
    · unfold cutG at e
      split at e
      · exact e
      · exact I2.sub a u e
    · rw [← hcc] at mo ro
      split at hk
      · rename_i d0 rest
        have ev : v = .non := by have : Rep Z.cc G' v .non := ro; unfold Rep at this; exact this
        obtain ⟨bk, hk⟩ := hk
        obtain ⟨G2, le2, J, _, st, gn2⟩ := sr_after I2 q0.x0 nd' own le sub fr gn mo ro fun hb => ⟨rfl, by simp only [noLstAll, Bool.and_eq_true]; exact bk hb⟩
        have root := mo.1
        refine ⟨ev, q (.fr x0 d0) (upE gs rest ρ1) _ H' G2 (le1.trans le2) J ⟨rfl, st x0 d0 root ?_, gn2 x0 gx (by rw [upd_same]; simp), fun i m b e h => ?_, z0, zm⟩ (hk x0)⟩
        · cases hb : hasBo gs with
          | true => exact .inl (bk hb).1
          | false => exact .inr hb
        · rcases upE_get qs2.x0 own mo.2.2 h with ⟨h, _⟩ | ⟨m', a', d', d2, h1, h2, _⟩
          · exact I1.own_ne h hx
          · cases h2; exact I1.own_ne h1 hx
      · exact hk.elim⟩⟩
end

/-! ### the law -/
theorem reps_ints {cc : CC} {G : Hp} : ∀ ns : List Int, Reps cc G (ns.map V.int) (ns.map D.int)
  | [] => Reps.nil
  | n :: ns => Reps.cons rep_int (reps_ints ns)
end TL

namespace TL
open PySem PySem.Spec L2

/-! ### calls with keywords alone -/
section
variable {X : Cx} {Z : Zone} {e : Expr} {es : List Expr} {w : EW} {r : AgW} {kws : List Keyword} {nm : Option Str} {kpos : Pos}
theorem dkg_nil : PK X [] (Tag Z agNil) := ⟨fun pos pins s σ H Q I ⟨ρ, G, K, IR, hw, q⟩ => pk_nil.run pos pins s σ H Q I (q [] ρ [] H G (LE.refl G) IR trivial hw)⟩
theorem dkg_ro (ha : PE X e (T Z w)) (hr : PK X kws (Tag Z r)) : PK X (⟨nm, e, kpos⟩ :: kws) (Tag Z (agRo w r)) :=
  ⟨fun pos pins s σ H Q I ⟨ρ, G, K, IR, hw, q⟩ => (pk_cons ha hr).run pos pins s σ H Q I ⟨ρ, G, _, IR, hw, fun rv ρ1 v H1 G1 le1 I1 q1 k1 => by
    obtain ⟨d, ρ2, G2, le2, I2, rp, k2, _⟩ := I1.settle q1 k1
    exact ⟨ρ2, G2, _, I2, k2, fun gs ρ3 vs H3 G3 le3 I3 rs k3 => q (.ro d :: gs) ρ3 (v :: vs) H3 G3 ((le1.trans le2).trans le3) I3 ⟨(rp.mono le3 : Rep _ _ _ _), rs⟩ k3⟩⟩⟩
/-- the entries of xs in another order -/
def pm {α : Type} (p : List Nat) (xs : List α) : List α := p.filterMap fun i => xs[i]?
structure KBp (K : PySem.W.Frag) (fd : FuncData) (ps ks : List Str) (p : List Nat) : Prop where
  to : ∀ (s : Shared) (ws : List Value), ws.length = ks.length → BindsTo s fd ⟨[], ks.zip ws⟩ (ps.zip (pm p ws))
theorem pm_vals {p : List Nat} {vs : List V} {us : List Value} (r : Vals vs us) : Vals (pm p vs) (pm p us) := by
  induction p with
  | nil => exact .nil
  | cons i p ih =>
    unfold pm
    simp only [List.filterMap_cons]
    cases e : vs[i]? with
    | none => rw [r.none_of e]; exact ih
    | some v =>
      obtain ⟨u, h1, h2⟩ := r.get e
      rw [h1]
      exact .cons h2 ih
theorem AgsOk.get {ρ : REnv} {G H : Hp} {σ : L2.St} : ∀ {vs : List V} {gs : List Ag} {i : Nat}, AgsOk Z ρ G σ H vs gs → (vs[i]? = none ∧ gs[i]? = none) ∨ ∃ v g, vs[i]? = some v ∧ gs[i]? = some g ∧ AgOk Z ρ G σ H v g
  | [], [], _, _ => .inl ⟨by simp, by simp⟩
  | v :: vs, g :: gs, 0, h => .inr ⟨v, g, rfl, rfl, h.1⟩
  | v :: vs, g :: gs, i + 1, h => by simpa using AgsOk.get (i := i) h.2
  | [], _ :: _, _, h => h.elim
  | _ :: _, [], _, h => h.elim
theorem pm_ags {ρ : REnv} {G H : Hp} {σ : L2.St} {p : List Nat} {vs : List V} {gs : List Ag} (r : AgsOk Z ρ G σ H vs gs) : AgsOk Z ρ G σ H (pm p vs) (pm p gs) := by
  induction p with
  | nil => exact trivial
  | cons i p ih =>
    unfold pm
    simp only [List.filterMap_cons]
    rcases r.get (i := i) with ⟨h1, h2⟩ | ⟨v, g, h1, h2, h3⟩
    · rw [h1, h2]; exact ih
    · rw [h1, h2]; exact ⟨h3, ih⟩
def eCallP (np : Nat) (p : List Nat) (sp : FSpec) (aw : AgW) : EW := fun xk ρ K => aw xk ρ fun gs ρ1 => (gs.length = np ∧ (pm p gs).length = np) ∧ callK sp (pm p gs) ρ1 xk K
variable {C : Ccs} {k : Nat} {f : Addr} {fd : FuncData} {ps ks : List Str} {sp : FSpec} {aw : AgW} {x : Str} {p : Pos} {pos : Pos} {pr : List Nat}
theorem de_callP (hcc : Z.cc = C.cc) (hz : Z.xk = xk0) (F : FnOk X.prog X.w X.K X.mg X.base CX0 k f fd ps (LSp0 C sp ps.length)) (hr : Room k X.A) (hm : X.mg x = some (.ref f)) (hk : PySem.W.keepIn X.K (.ref f) = true) (hb : KBp X.K fd ps ks pr) (hl : ks.length = ps.length)
    (hkw : PK X kws (Tag Z aw)) (hg : Gl X x := by rfl) (hall : (backToKw pos (keywordEach kws X.env)).all (·.1.isSome) = true := by rfl) (hks : (backToKw pos (keywordEach kws X.env)).filterMap (·.1) = ks := by rfl) (hdb : (x == ("__debug__" : Str)) = false := by decide)
    (hpl : ((backTo pos (starEach [] X.env)).any (·.1) || (backToKw pos (keywordEach kws X.env)).any (·.1.isNone)) = false := by rfl) :
    PE X (.Call (.Name x p) [] kws pos) (T Z (eCallP ps.length pr sp aw)) := by
  refine ⟨fun pins s σ H Q I ⟨ρ, G, K, IR, hw, q⟩ => ?_⟩
  refine wpAny_Call_Name_kw (ld_glob I hg hm ?_ hdb)
  refine PySem.W.callWith_KW0 (h₀ := X.base) I.ok.mod.kin hk hall ?_ hpl
  refine thn (hkw.run pos pins s σ H (fun zs H2 => zs.length = ks.length ∧ (pm pr zs).length = ps.length ∧ LSp0 C sp ps.length (pm pr zs) H2 Q E0) I ⟨ρ, G, _, IR, hw, fun gs ρ1 vs H1 G1 le1 I1 qs ⟨⟨l1, l2⟩, k1⟩ => ?_⟩) fun ws s2 ⟨zs, H2, I2, rz, l1, l2, q2⟩ => ⟨I2.kIn, ?_⟩
  · have e1 := qs.len
    have e2 := (pm_ags (p := pr) qs).len
    refine ⟨by omega, by omega, ?_⟩
    exact call_lsp hcc hz (by omega) I1 (pm_ags qs).x0 k1 fun r ρ2 v H2 G2 le2 I2 q2 k2 => q r ρ2 v H2 G2 (le1.trans le2) I2 q2 k2
  · rw [hks]
    have rv := pm_vals (p := pr) rz
    refine wpAny_call (codeAny_mono (F.run X.A X.stack s2 H2 ⟨[], ks.zip ws⟩ (pm pr ws) (pm pr zs) Q E0 hr I2.env0 (hb.to s2 ws (by rw [← rz.length]; exact l1)) rv q2) fun r s' hq => ?_)
    cases r with
    | error e => exact hq.elim
    | ok fl =>
      cases fl with
      | ret u => exact I2.after hq
      | next => exact False.elim hq
      | brk => exact False.elim hq
      | cont => exact False.elim hq
end

/-! ### enumerate -/
section
variable {X : Cx} {Z : Zone} {e : Expr} {w : EW} {pos : Pos}
def iEnum (w : EW) : IW := fun xk ρ K => w xk ρ fun r ρ1 => match r.get ρ1 with | .lst ds => K ds.length (fun i d => ∃ d0, ds[i]? = some d0 ∧ d = .tup [.int i, d0]) (stab r ρ1) ρ1 | _ => False
theorem ite_of {K : PySem.W.Frag} {a : Addr} {ds : List D} {st : REnv → Prop} {G : Hp} (h : ItOk Z (Itl K a) ds.length (fun i d => ds[i]? = some d) st G) : ItOk Z (Ite K a) ds.length (fun i d => ∃ d0, ds[i]? = some d0 ∧ d = .tup [.int i, d0]) st G := by
  intro H0 xk i ρ G1 σ H le I hs
  obtain ⟨s1, s2⟩ := h H0 xk i ρ G1 σ H le I hs
  refine ⟨s1, fun hlt => ?_⟩
  obtain ⟨go, yl⟩ := s2 hlt
  refine ⟨go, fun v H' y => ?_⟩
  obtain ⟨t, x, rfl, ht, rfl, hx⟩ := y
  obtain ⟨d0, G2, hd, le2, I2, rp⟩ := yl x H ⟨rfl, hx⟩
  have gt := I2.g ht
  refine ⟨_, upd G2 t (.tup [.int (i : Nat), x]), ⟨d0, hd, rfl⟩, le2.trans (LE.upd gt), I2.newG ht, ?_⟩
  unfold Rep
  exact ⟨t, _, rfl, upd_same, Reps.cons rep_int (Reps.cons (rp.mono (LE.upd gt)) Reps.nil)⟩
theorem di_enum {p tpos : Pos} {elts : List Expr} {kk : Nat} (hK : Z.cc.K = X.K) (hm : X.mg "enumerate" = none) (he : PE X e (T Z w)) (hg : Gl X "enumerate" := by rfl) (hs : starEach [e] X.env = [(false, eval e X.env)] := by rfl) (hs2 : starEach [e] X.env = (false, eval e X.env) :: starEach [] X.env := by rfl) :
    PI X (.Tuple elts kk tpos) (.Call (.Name "enumerate" p) [e] [] pos) (Ti Z (iEnum w)) :=
  ⟨fun pins s σ H R I ⟨ρ, G, K, IR, hw, q⟩ => (pi_enum hg hm (pa_cons he pa_nil hs2) hs).run pins s σ H R I ⟨ρ, G, _, IR, hw, fun r ρ' v H' G' le I' qr k => by
    split at k
    · rename_i ds hd
      obtain ⟨a, G2, ea, le2, I2, ⟨xs, hx⟩, io⟩ := it_list (K := X.K) hK I' qr hd
      exact ⟨a, xs, by rw [ea], hx, q _ _ _ ρ' H' G2 _ (le.trans le2) I2 (ite_of io) k⟩
    · exact k.elim⟩⟩
/-! ### x += n; xs.extend, reverse, pop -/
def sAug (i : Nat) (w : EW) : SW := fun xk ρ K => bound ρ i ∧ w xk ρ fun r ρ1 => match getL ρ i, r.get ρ1 with
  | .int a, .int b => K.nx (ρ1.set i (.sh (.int (a + b))))
  | _, _ => False
def sRevI (j : Nat) : SW := fun _ ρ K => match ρ[j]? with
  | some (.own m a (.lst ds)) => K.nx (ρ.set j (.own m a (.lst ds.reverse)))
  | _ => False
def sPop (j : Nat) : SW := fun _ ρ K => match ρ[j]? with
  | some (.own m a (.lst ds)) => ds ≠ [] ∧ K.nx (ρ.set j (.own m a (.lst ds.dropLast)))
  | _ => False
theorem Reps.dropLast {cc : CC} {G : Hp} {vs : List V} {ds : List TL.D} (r : Reps cc G vs ds) : Reps cc G vs.dropLast ds.dropLast := by
  rw [List.dropLast_eq_take, List.dropLast_eq_take, r.length]
  exact r.take _
end
end TL

namespace TL
open PySem PySem.Spec L2

/-! ### isinstance of built-in types -/
inductive Ty where
  | int | bool | str | list | tuple | dict
def isTy : Ty → D → Bool
  | .int, .int _ => true
  | .int, .bl _ => true
  | .bool, .bl _ => true
  | .str, .str _ => true
  | .list, .lst _ => true
  | .tuple, .tup _ => true
  | _, _ => false
def noObj : D → Bool
  | .obj _ _ => false
  | .dct _ _ => false
  | .dic _ _ => false
  | .ptr _ => false
  | _ => true
def opIsI (t : Ty) : D → OW := fun d k => noObj d = true ∧ k (.sh (.bl (isTy t d)))
section
variable {cc : CC}
end
section
variable {X : Cx} {Z : Zone} {e : Expr} {w : EW} {pos p p2 : Pos}
end
end TL

namespace TL
open PySem PySem.Spec L2
/-! ### an own root given up -/
def frz : Nat → REnv → REnv
  | _, [] => []
  | 0, .own false _ d :: ρ => .sh d :: ρ
  | 0, s :: ρ => s :: ρ
  | i + 1, s :: ρ => s :: frz i ρ
theorem frz_o {a : Addr} {d : D} {ρ : REnv} : frz 0 (.own false a d :: ρ) = .sh d :: ρ := rfl
theorem frz_sh {d : D} {ρ : REnv} : frz 0 (.sh d :: ρ) = .sh d :: ρ := rfl
theorem frz_s {i : Nat} {s : Sl} {ρ : REnv} : frz (i + 1) (s :: ρ) = s :: frz i ρ := by simp only [frz]
theorem frz_eq : ∀ (i : Nat) (ρ : REnv), frz i ρ = ρ ∨ ∃ a d, ρ[i]? = some (.own false a d) ∧ frz i ρ = ρ.set i (.sh d)
  | i, [] => .inl (by cases i <;> rfl)
  | 0, s :: ρ => by
    cases s with
    | no => exact .inl rfl
    | sh d => exact .inl rfl
    | own p a d =>
      cases p with
      | true => exact .inl rfl
      | false => exact .inr ⟨a, d, rfl, rfl⟩
  | i + 1, s :: ρ => by
    rcases frz_eq i ρ with h | ⟨a, d, h1, h2⟩
    · exact .inl (by rw [frz_s, h])
    · exact .inr ⟨a, d, by rw [List.getElem?_cons_succ]; exact h1, by rw [frz_s, h2, List.set_cons_succ]⟩
def sFrz (i : Nat) (s : SW) : SW := fun xk ρ K => s xk ρ { K with nx := fun ρ' => K.nx (frz i ρ') }
section
variable {X : Cx} {Z : Zone} {st : Stmt} {sa : SW}
theorem ds_frz {i : Nat} (h : PS X st (Ts Z sa)) (hi : (X.N[i]?).isSome = true := by rfl) : PS X st (Ts Z (sFrz i sa)) :=
  ⟨fun pins s σ H D I ⟨ρ, G, K, IR, hw, l⟩ => h.run pins s σ H D I ⟨ρ, G, _, IR, hw, ⟨fun ρ' σ' H' G' le I' k => by
    have k : K.nx (frz i ρ') := k
    rcases frz_eq i ρ' with e | ⟨a, d, h1, h2⟩
    · rw [e] at k; exact l.nx ρ' σ' H' G' le I' k
    · rw [h2] at k
      have hlt : i < σ'.length := by
        have h1 := I.len
        have h2 := IR.len.1
        have h3 := I'.len.1
        cases e : X.N[i]? with
        | none => rw [e] at hi; cases hi
        | some x => have := (List.getElem?_eq_some_iff.mp e).1; omega
      obtain ⟨G2, l2, I2, _⟩ := I'.leak h1 (own_at hlt (I'.slot i _ h1).1)
      exact l.nx _ σ' H' G2 (le.trans l2) I2 k, l.rt, l.bk, l.ct⟩⟩⟩
end
end TL

namespace TL
open PySem PySem.Spec L2
section
variable {X : Cx} {Z : Zone} {C : Ccs} {k c np : Nat} {f fa : Addr} {fd : FuncData} {ps ks : List Str} {sp : FSpec} {aw : AgW} {x m : Str} {p pos apos px : Pos} {pr : List Nat} {e a : Expr} {es : List Expr} {w : EW} {kws : List PySem.Keyword}
theorem de_callN (hcc : Z.cc = C.cc) (hz : Z.xk = xk0) (F : FnOk X.prog X.w X.K X.mg X.base CX0 k f fd ps (LSp0 C sp np)) (hr : Room k X.A) (hm : X.mg x = some (.ref f)) (hk : PySem.W.keepIn X.K (.ref f) = true) (hb : Binds X.K fd ps [])
    (ha : PA X (e :: es) (Tag Z aw)) (hn : np = ps.length := by rfl) (hg : Gl X x := by rfl) (hdb : (x == ("__debug__" : Str)) = false := by decide) (he : starEach (e :: es) X.env = (false, eval e X.env) :: starEach es X.env := by rfl) (hpl : (backTo pos (starEach es X.env)).any (·.1) = false := by rfl) :
    PE X (.Call (.Name x p) (e :: es) [] pos) (T Z (eCall np sp aw)) := by subst hn; exact de_call hcc hz F hr hm hk hb ha hg hdb he hpl
theorem de_callPN (hcc : Z.cc = C.cc) (hz : Z.xk = xk0) (F : FnOk X.prog X.w X.K X.mg X.base CX0 k f fd ps (LSp0 C sp np)) (hr : Room k X.A) (hm : X.mg x = some (.ref f)) (hk : PySem.W.keepIn X.K (.ref f) = true) (hb : KBp X.K fd ps ks pr) (hl : ks.length = ps.length)
    (hkw : PK X kws (Tag Z aw)) (hn : np = ps.length := by rfl) (hg : Gl X x := by rfl) (hall : (backToKw pos (keywordEach kws X.env)).all (·.1.isSome) = true := by rfl) (hks : (backToKw pos (keywordEach kws X.env)).filterMap (·.1) = ks := by rfl) (hdb : (x == ("__debug__" : Str)) = false := by decide)
    (hpl : ((backTo pos (starEach [] X.env)).any (·.1) || (backToKw pos (keywordEach kws X.env)).any (·.1.isNone)) = false := by rfl) :
    PE X (.Call (.Name x p) [] kws pos) (T Z (eCallP np pr sp aw)) := by subst hn; exact de_callP hcc hz F hr hm hk hb hl hkw hg hall hks hdb hpl
theorem de_makeN (hcc : Z.cc = C.cc) (hz : Z.xk = xk0) (M : Mk X.K (Z.cc.cl c).1 fa) (F : FnOk X.prog X.w X.K X.mg X.base CX0 k fa fd ps (LSp0 C sp np)) (hr : Room (k + 1) X.A) (hm : X.mg x = some (.ref (Z.cc.cl c).1)) (hb : Binds X.K fd ps [])
    (ha : PA X (a :: es) (Tag Z aw)) (hn : np = ps.length := by rfl) (hg : Gl X x := by rfl) (hdb : (x == ("__debug__" : Str)) = false := by decide) (hst : starEach (a :: es) X.env = (false, eval a X.env) :: starEach es X.env := by rfl) (hpl : (backTo pos (starEach es X.env)).any (·.1) = false := by rfl) :
    PE X (.Call (.Name x px) (a :: es) [] pos) (T Z (eMake c np sp aw)) := by subst hn; exact de_make hcc hz M F hr hm hb ha hg hdb hst hpl
end
/-! ### the law's end -/
theorem law_spQ {C : Ccs} {sp : FSpec} {H : Hp} {a : Addr} {ns : List Int} {Q : VK} {E : XK} (hS : SqL C.cc.K H a (ns.map V.int)) (h : sp [.ro (.lst (ns.map D.int))] (fun o _ => o = .sh (.bl true)) (fun _ _ => False)) (k : ∀ H', Q (.bl true) H') :
    LSp0 C sp 1 [.ref a] H Q E := by
  have r : Rep C.cc H (.ref a) (.lst (ns.map D.int)) := by
    unfold Rep
    exact ⟨a, _, rfl, hS, reps_ints ns⟩
  refine ⟨rfl, [.ro (.lst (ns.map D.int))], H, [], _, LE.refl H, ⟨r, trivial⟩, h, fun o ds v H' G' _ _ _ _ _ ro e => ?_⟩
  have e : o = .sh (.bl true) := e
  subst e
  have ro : Rep C.cc G' v (.bl true) := ro
  unfold Rep at ro
  rw [ro]
  exact k H'
/-- the law's promise: at most 63 whole numbers come in, True goes out -/
def endSp (K : PySem.W.Frag) : Sp := fun vs H Q _ => ∃ (a : Addr) (ns : List Int), vs = [.ref a] ∧ SqL K H a (ns.map V.int) ∧ ns.length ≤ 63 ∧ (∀ z ∈ ns, Builtin.Int.intBits z ≤ 1048576) ∧ ∀ H', Q (.bl true) H'
theorem law_end {P : Program} {w : World} {K : PySem.W.Frag} {mg : Str → Option Value} {base : Heap} {C : Ccs} {k : Nat} {f : Addr} {fd : FuncData} {ps : List Str} {sp : FSpec} (F : FnOk P w K mg base CX0 k f fd ps (LSp0 C sp 1)) (hK : C.cc.K = K)
    (h : ∀ ns : List Int, ns.length ≤ 63 → (∀ z ∈ ns, z.natAbs.log2 < 2000000) → sp [.ro (.lst (ns.map D.int))] (fun o _ => o = .sh (.bl true)) (fun _ _ => False)) : FnOk P w K mg base CX0 k f fd ps (endSp K) :=
  F.imp fun vs H Q E ⟨a, ns, e, hS, hl, hb, k⟩ => by
    subst e
    refine law_spQ (by rw [hK]; exact hS) (h ns hl fun z hz => ?_) k
    have := hb z hz
    unfold Builtin.Int.intBits at this
    by_cases h0 : z = 0
    · subst h0; decide
    · rw [if_neg (by simpa using h0)] at this; omega
theorem walkT {l : PySem.W.OpenLaw} {q : Program} {loose : List Str} {XP : (Str → Option Value) → Heap → Prop} {YP : World → Heap → Prop} {d : DefRec} {K : Params → PySem.W.Frag} {k : Nat} (hn : l.most = some 63) (hdf : d.params.defaults = []) (hr : Room k callerA)
    (hY : ∀ (w : World) (h : Heap), YP w h → (K w.params).In h)
    (F : ∀ (w : World) (mg : Str → Option Value) (fa : Addr) (h : Heap), (K w.params).In h → h.Ns mainGlobals mg → mg d.name = some (.ref fa) →
      ∃ fd : FuncData, (∀ (s : Shared) (u : Value), BindsTo s fd ⟨[u], []⟩ [(("script" : Str), u)]) ∧ ∀ base : Heap, (K w.params).In base → base.Ns mainGlobals mg → FnOk l.prog w (K w.params) mg base CX0 k fa fd ["script"] (endSp (K w.params))) :
    PySem.W.WalkO q loose XP YP l.row.toRowW d [] (fun f vs => PySem.call f vs) :=
  L2.walk_ofB (n := 63) (k := k) (x := ("script" : Str)) (CX := fun _ => CX0) (sp := fun w => endSp (K w.params)) hn (by decide) hdf hr hY F (fun _ _ a ns hl hb _ hS => ⟨a, ns, rfl, hS, hl, hb, fun _ => rfl⟩) fun _ _ _ _ _ z => z
end TL

namespace TL
open PySem PySem.Spec L2
section
variable {X : Cx} {Z : Zone} {C : Ccs} {c k np : Nat} {fa : Addr} {fd : FuncData} {ps ks : List Str} {sp : FSpec} {aw : AgW} {m x : Str} {apos pos px : Pos} {pr : List Nat} {e a b : Expr} {w wa wb : EW} {kws : List PySem.Keyword}
/-- two values, both given up -/
def eTwo (wa wb : EW) (k : D → D → EW) : EW := fun xk ρ K => wa xk ρ fun r1 ρ1 => stl r1 ρ1 fun d1 ρ2 => wb xk ρ2 fun r2 ρ3 => stl r2 ρ3 fun d2 ρ4 => k d1 d2 xk ρ4 K
/-! ### len(o) -/
def okLen (K : Rv → REnv → Prop) : Rv → REnv → Prop := fun r ρ => (∃ n : Int, r = .sh (.int n) ∧ 0 ≤ n ∧ n < 2 ^ 63) ∧ K r ρ
def eLenO (c : Nat) (sp : FSpec) (w : EW) : EW := fun xk ρ K => w xk ρ fun r ρ1 => stl r ρ1 fun d ρ2 => isObj c d ∧ callK sp [.ro d] ρ2 xk (okLen K)
/-! ### a == b, a + b of own instances -/
def eOwn2 (c : Nat) (sp : FSpec) (wa wb : EW) : EW := eTwo wa wb fun d1 d2 xk ρ K => isObj c d1 ∧ isObj c d2 ∧ callK sp [.ro d1, .ro d2] ρ xk K
/-! ### isinstance(o, C) of an own instance -/
def opIsC (c : Nat) : D → OW := fun d k => isObj c d ∧ k (.sh (.bl true))
/-! ### o.m(k = v, ..), C(k = v, ..) -/
/-- how the keywords bind, behind one value -/
structure KBm (K : PySem.W.Frag) (fd : FuncData) (ps ks : List Str) (p : List Nat) : Prop where
  to : ∀ (s : Shared) (u : Value) (ws : List Value), ws.length = ks.length → BindsTo s fd ⟨[u], ks.zip ws⟩ (ps.zip (u :: pm p ws))
def eMethP (c np : Nat) (p : List Nat) (sp : FSpec) (w : EW) (aw : AgW) : EW := fun xk ρ K => w xk ρ fun r ρ1 => stl r ρ1 fun d ρ2 => isObj c d ∧ aw xk ρ2 fun gs ρ3 => (gs.length + 1 = np ∧ (pm p gs).length + 1 = np) ∧ callK sp (.ro d :: pm p gs) ρ3 xk K
end
section
variable {X : Cx} {Z : Zone} {C : Ccs} {c k np : Nat} {fa : Addr} {fd : FuncData} {ps ks : List Str} {sp : FSpec} {aw : AgW} {x : Str} {pos px : Pos} {pr : List Nat} {kws : List PySem.Keyword}
def eMakeP (c np : Nat) (p : List Nat) (sp : FSpec) (aw : AgW) : EW := fun xk ρ K => aw xk ρ fun gs ρ1 => (gs.length + 1 = np ∧ (pm p gs).length + 1 = np) ∧ (boIx (pm p gs) ++ muIx (pm p gs)).Nodup ∧ tms (pm p gs) = 0 ∧
  argsK (pm p gs) ρ1 fun args => sp (.mu (.obj c []) :: args) (fun o ds => match o, ds with
    | .sh .non, d0 :: rest => (hasBo (pm p gs) = true → chFlat d0 = true ∧ noLstAll rest = true) ∧ ∀ a, K (.fr a d0) (upE (pm p gs) rest ρ1)
    | _, _ => False) (fun c d => xk c d ρ1)
end
end TL

namespace TL
open PySem PySem.Spec L2
section
variable {X : Cx} {Z : Zone} {e a b : Expr} {w wa wb : EW} {pos : Pos} {i : Nat}
/-! ### [..] * n, n a name -/
def eRepL (i : Nat) (wa : EW) : EW := fun xk ρ K => wa xk ρ fun r ρ1 => bound ρ1 i ∧ match r, getL ρ1 i with
  | .fr _ (.lst ds), .int k => (-(2 ^ 63) ≤ k ∧ k < 2 ^ 63 ∧ ds.length * k.toNat ≤ sizeLine) ∧ ∀ p, K (.fr p (.lst (List.replicate k.toNat ds).flatten)) ρ1
  | _, _ => False
theorem Reps.rep {cc : CC} {G : Hp} {vs : List V} {ds : List D} (r : Reps cc G vs ds) : ∀ n : Nat, Reps cc G (List.replicate n vs).flatten (List.replicate n ds).flatten
  | 0 => Reps.nil
  | n + 1 => by
    rw [List.replicate_succ, List.replicate_succ, List.flatten_cons, List.flatten_cons]
    exact r.append (Reps.rep r n)
/-! ### list(range(..)) -/
def rgD (i j : Int) : List D := (List.range (j - i).toNat).map fun k => D.int (i + (k : Nat))
theorem reps_rg {cc : CC} {G : Hp} {i j : Int} : Reps cc G (L2.rgV i j) (rgD i j) := by
  unfold L2.rgV rgD
  have : ∀ l : List Nat, Reps cc G (l.map fun k => V.int (i + (k : Nat))) (l.map fun k => D.int (i + (k : Nat))) := by
    intro l
    induction l with
    | nil => exact Reps.nil
    | cons k l ih => exact Reps.cons rep_int ih
  exact this _
def opLR1 : D → OW
  | .int j => fun k => L2.RgOk 0 j ∧ k (.fr (.lst (rgD 0 j)))
  | _ => fun _ => False
def opLR2 : D → D → OW
  | .int i, .int j => fun k => L2.RgOk i j ∧ k (.fr (.lst (rgD i j)))
  | _, _ => fun _ => False
theorem de_lr1 {p p2 pos2 : Pos} (hc : X.calm = true) (hm : X.mg "list" = none) (hm2 : X.mg "range" = none) (ha : PE X a (T Z wa)) (hg : Gl X "list" := by rfl) (hg2 : Gl X "range" := by rfl)
    (na : starEach [.Call (.Name "range" p2) [a] [] pos2] X.env = (false, eval (.Call (.Name "range" p2) [a] [] pos2) X.env) :: starEach [] X.env := by rfl) (nb : starEach [a] X.env = (false, eval a X.env) :: starEach [] X.env := by rfl) :
    PE X (.Call (.Name "list" p) [.Call (.Name "range" p2) [a] [] pos2] [] pos) (T Z (eUn opLR1 wa)) :=
  pvia (L2.pe_listRg hc hg hm (L2.prg_1 hg2 hm2 ha nb) na) (via_un (r := fun x H Q => ∃ n, x = .int n ∧ L2.RgOk 0 n ∧ ∀ q, H q = none → Q (.ref q) (upd H q (.lst (L2.rgV 0 n)))) fun G H x d k Q le v _ ho fin => by
    cases d <;> try exact (ho : False).elim
    exact ⟨_, v, ho.1, fun q hq => (fin _ ho.2) q _ hq ⟨_, upd_same, reps_rg⟩⟩)
end
end TL

namespace TL
open PySem PySem.Spec L2
section
variable {X : Cx} {Z : Zone} {e : Expr} {es : List Expr} {pos : Pos} {wr : DW}
/-! ### constants in a row -/
def dLit (ds : List D) (wr : DW) : DW := fun xk ρ K => wr xk ρ fun es ρ' => K (ds ++ es) ρ'
theorem da_lit0 (hr : PA X es (Ta Z wr)) : PA X es (Ta Z (dLit [] wr)) := hr
theorem da_lit {d : D} {ds : List D} (ha : PE X e (T Z (eC d))) (hr : PA X es (Ta Z (dLit ds wr))) (hs : starEach (e :: es) X.env = (false, eval e X.env) :: starEach es X.env := by rfl) : PA X (e :: es) (Ta Z (dLit (d :: ds) wr)) := da_cons ha hr hs
end
end TL

namespace TL
open PySem PySem.Spec L2
section
variable {X : Cx} {Z : Zone} {pos : Pos}
/-- a list unpacked into names -/
def gLs (n : Nat) (gs : GWs) : GW := fun d ρ K => match d with | .lst ds => ds.length = n ∧ gs ds ρ K | _ => False
end
end TL

namespace TL
open PySem PySem.Spec L2
/-! ### what raises nothing, within what may raise -/
abbrev Zone.z0 (Z : Zone) : Zone := { Z with xk := xk0 }
theorem SR.z0 {Z : Zone} {ρ : REnv} {G : Hp} {σ : L2.St} {H : Hp} (I : SR Z ρ G σ H) : SR Z.z0 ρ G σ H := ⟨I.len, I.sub, I.slot, I.inj, I.out, I.ent, I.frs, I.gnew, I.g0, I.mout, I.mux⟩
def e0 (w : EW) : EW := fun _ ρ K => w xk0 ρ K
def t0 (w : TW) : TW := fun _ ρ K => w xk0 ρ K
def d0 (w : DW) : DW := fun _ ρ K => w xk0 ρ K
def s0 (w : SW) : SW := fun _ ρ K => w xk0 ρ K
def i0 (w : IW) : IW := fun _ ρ K => w xk0 ρ K
section
variable {X : Cx} {Z : Zone} {e tg : Expr} {es : List Expr} {st : Stmt} {w : EW} {tw : TW} {dw : DW} {sw : SW} {iw : IW}
end
end TL

namespace TL
open PySem PySem.Spec L2
/-! ### what leaves a zone -/
section
variable {P : Program} {w : World} {K : PySem.W.Frag} {mg : Str → Option Value} {base : Heap} {C : Ccs} {sp : FSpec} {np k : Nat} {f : Addr} {fd : FuncData} {ps : List Str}
end
/-! ### raise -/
section
variable {P : Program} {w : World} {K : PySem.W.Frag} {mg : Str → Option Value} {base : Heap} {C : Ccs}
def sRaise (c : Nat) (we : EW) : SW := fun xk ρ _ => we xk ρ fun r ρ1 => stl r ρ1 fun d _ => xk c d []
end
end TL

namespace TL
open PySem PySem.Spec L2
/-! ### calls that may raise -/
def roA (ds : List D) : List Arg := ds.map Arg.ro
section
variable {Z : Zone} {ρ : REnv} {G H : Hp} {σ : L2.St}
end
/-- f(e, ..) of known values -/
def callX (sp : FSpec) (ds : List D) (ρ : REnv) (xk : Xk) (K : Rv → REnv → Prop) : Prop := sp (roA ds) (fun o _ => out o ρ K) (fun c d => xk c d [])
section
variable {X : Cx} {Z : Zone} {C : Ccs} {k c np : Nat} {f fa : Addr} {fd : FuncData} {ps ks : List Str} {sp : FSpec} {dw : DW} {x m : Str} {p pos apos px : Pos} {pr : List Nat} {e a b : Expr} {es : List Expr} {w wa wb : EW} {kws : List PySem.Keyword}
def eCallX (np : Nat) (sp : FSpec) (dw : DW) : EW := fun xk ρ K => dw xk ρ fun ds ρ1 => ds.length = np ∧ callX sp ds ρ1 xk K
/-- e.m(..) -/
def eMethX (c np : Nat) (sp : FSpec) (w : EW) (dw : DW) : EW := fun xk ρ K => w xk ρ fun r ρ1 => stl r ρ1 fun d ρ2 => isObj c d ∧ dw xk ρ2 fun ds ρ3 => ds.length + 1 = np ∧ callX sp (d :: ds) ρ3 xk K
/-- e.f, a property, of what may have raised -/
def ePropX (c : Nat) (sp : FSpec) (w : EW) : EW := fun xk ρ K => w xk ρ fun r ρ1 => stl r ρ1 fun d ρ2 => isObj c d ∧ callK sp [.ro d] ρ2 xk0 K
/-- C(..), the __init__ of which may raise -/
def eMakeX (c np : Nat) (sp : FSpec) (dw : DW) : EW := fun xk ρ K => dw xk ρ fun ds ρ1 => ds.length + 1 = np ∧ sp (.mu (.obj c []) :: roA ds) (fun o es => match o, es with
    | .sh .non, [d0] => ∀ a, K (.fr a d0) ρ1
    | _, _ => False) (fun c d => xk c d [])
/-- one + other, of own instances -/
def eOwn2X (c : Nat) (sp : FSpec) (wa wb : EW) : EW := eTwo wa wb fun d1 d2 xk ρ K => isObj c d1 ∧ isObj c d2 ∧ callX sp [d1, d2] ρ xk K
/-- f(k = v, ..) -/
def eCallXP (np : Nat) (p : List Nat) (sp : FSpec) (dw : DW) : EW := fun xk ρ K => dw xk ρ fun ds ρ1 => (ds.length = np ∧ (pm p ds).length = np) ∧ callX sp (pm p ds) ρ1 xk K
theorem Reps.at_ {cc : CC} {G : Hp} : ∀ {ds : List D} {vs : List V} (i : Nat), Reps cc G vs ds → (vs[i]? = none ∧ ds[i]? = none) ∨ ∃ v d, vs[i]? = some v ∧ ds[i]? = some d ∧ Rep cc G v d
  | [], vs, i, h => by rw [h.inv_nil]; exact .inl ⟨rfl, rfl⟩
  | d :: ds, vs, 0, h => by obtain ⟨v, r, rfl, a, q⟩ := h.inv_cons; exact .inr ⟨v, d, rfl, rfl, a⟩
  | d :: ds, vs, i + 1, h => by obtain ⟨v, r, rfl, a, q⟩ := h.inv_cons; simpa using Reps.at_ i q
end
end TL

namespace TL
open PySem PySem.Spec L2 PyProof.Rows
/-! ### try -/
def exn (c : Nat) (d : D) : D := .dct [.int ((c + 50 : Nat) : Int)] [d]
section
variable {X : Cx} {pins : List (Addr × Obj)} {σ : L2.St} {H : Hp} {s : Shared}
end
def hXk (n : Nat) (K : SK) : List (List Bool × Option Nat × SW) → Nat → D → Prop
  | [], _, _ => False
  | (m, o, sw) :: r, c, d => match m[c]? with
    | none => False
    | some false => hXk n K r c d
    | some true => match o with
      | none => sw xk0 (List.replicate n .no) { nx := K.nx, rt := fun _ _ => False }
      | some i => i < n ∧ sw xk0 ((List.replicate n .no).set i (.sh (exn c d))) { nx := fun ρ => K.nx (ρ.set i .no), rt := fun _ _ => False }
def sTry (b : SW) (hs : List (List Bool × Option Nat × SW)) : SW := fun _ ρ K => b (fun c d _ => hXk ρ.length K hs c d) ρ K
inductive HdT (C : Ccs) (X : Cx) : List ExceptHandler → List (List Bool × Option Nat × SW) → Prop
  | nil : HdT C X [] []
  | plain {x : Str} {C1 : Addr} {m : List Bool} {sw : SW} {b1 : Stmt} {su : List Stmt} {np pos' : Pos} {hds : List ExceptHandler} {l : List (List Bool × Option Nat × SW)} (hc : Names X x (.ref C1)) (hm : ∀ c b, m[c]? = some b → PySem.W.exmOne X.K (.ref (C.xc c)) (.ref C1) = some b)
      (hsu : ∀ (a : Addr) (pn : List (Addr × Obj)) (Z : Zone), Z.cc = C.cc → Z.xk = xk0 → PSs (X.suite a pn) (b1 :: su) (Ts Z sw)) (r : HdT C X hds l) : HdT C X (.ExceptHandler (some (.Name x np)) none (b1 :: su) pos' :: hds) ((m, none, sw) :: l)
  | named {x y : Str} {i : Nat} {C1 : Addr} {m : List Bool} {sw : SW} {b1 : Stmt} {su : List Stmt} {np pos' : Pos} {hds : List ExceptHandler} {l : List (List Bool × Option Nat × SW)} (hi : X.N[i]? = some y) (hl : X.env.kindOf y = some .local) (hc : Names X x (.ref C1)) (hm : ∀ c b, m[c]? = some b → PySem.W.exmOne X.K (.ref (C.xc c)) (.ref C1) = some b)
      (hsu : ∀ (a : Addr) (pn : List (Addr × Obj)) (Z : Zone), Z.cc = C.cc → Z.xk = xk0 → PSs (X.suite a pn) (b1 :: su) (Ts Z sw)) (r : HdT C X hds l) : HdT C X (.ExceptHandler (some (.Name x np)) (some y) (b1 :: su) pos' :: hds) ((m, some i, sw) :: l)
end TL

namespace TL
open PySem PySem.Spec L2 PyProof.Rows
section
variable {X : Cx} {Z : Zone} {C : Ccs} {body : List Stmt} {hd0 : ExceptHandler} {hds : List ExceptHandler} {b : SW} {ls : List (List Bool × Option Nat × SW)} {pos : Pos}
end
end TL

namespace TL
open PySem PySem.Spec L2 PyProof.Rows
/-! ### what a caught error tells -/
structure XcF (K : PySem.W.Frag) (C1 : Addr) : Prop where
  ga : PySem.W.findIn K (.ref C1) "__getattribute__" = some (some (.builtin "BaseException.__getattribute__"))
  gg : PySem.W.findIn K (.ref C1) "__getattr__" = some none
  sb : PySem.W.subIn K (.ref C1) (.type "BaseException") = some true
  hd : PySem.W.hasDictIn K C1 = true
  nv : PySem.W.findIn K (.ref C1) "value" = some none
  cl : PySem.W.findIn K (.ref C1) "__class__" = some (some (.builtin "object.__class__"))
  gt : PySem.W.specialIn K (.builtin "object.__class__") "__get__" = some (some (.builtin "getset_descriptor.__get__"))
  tk : PySem.W.takesIn K (.builtin "object.__class__") = some true
  mo : PySem.W.mroIn K C1 (.type "object") = some true
def opXv (n : Nat) : D → OW
  | .dct [.int j] [d] => fun k => (50 ≤ j ∧ j.toNat - 50 < n) ∧ k (.sh d)
  | _ => fun _ => False
def opIsX (bs : List Bool) : D → OW
  | .dct [.int j] _ => fun k => 50 ≤ j ∧ match bs[j.toNat - 50]? with
    | some b => k (.sh (.bl b))
    | none => False
  | _ => fun _ => False
theorem opXv_exn {n c : Nat} {d : D} {k : Ro → Prop} : opXv n (exn c d) k = (c < n ∧ k (.sh d)) := by
  unfold opXv exn
  have e : (((c + 50 : Nat) : Int).toNat - 50) = c := by omega
  have h : (50 : Int) ≤ ((c + 50 : Nat) : Int) := by omega
  simp only [e, h, true_and]
theorem opIsX_exn {bs : List Bool} {c : Nat} {d : D} {k : Ro → Prop} : opIsX bs (exn c d) k = (match bs[c]? with
    | some b => k (.sh (.bl b))
    | none => False) := by
  unfold opIsX exn
  have e : (((c + 50 : Nat) : Int).toNat - 50) = c := by omega
  simp only [e]
  have h : (50 : Int) ≤ ((c + 50 : Nat) : Int) := by omega
  simp only [h, true_and]
section
variable {X : Cx} {pins : List (Addr × Obj)} {σ : L2.St} {H : Hp} {s : Shared}
end
section
variable {X : Cx} {Z : Zone} {e : Expr} {w : EW} {pos p p2 : Pos} {n : Nat} {bs : List Bool}
end
end TL

namespace TL
open PySem PySem.Spec L2
section
variable {X : Cx} {Z : Zone} {e : Expr} {w : EW} {wd : DW} {kws : List PySem.Keyword} {nm : Option Str} {kpos : Pos}
/-! ### the words, for simp -/
theorem e0_is {xk : Xk} {ρ : REnv} {K : Rv → REnv → Prop} : e0 w xk ρ K = w xk0 ρ K := rfl
theorem t0_is {tw : TW} {xk : Xk} {ρ : REnv} {K : Bool → REnv → Prop} : t0 tw xk ρ K = tw xk0 ρ K := rfl
theorem d0_is {xk : Xk} {ρ : REnv} {K : List D → REnv → Prop} : d0 wd xk ρ K = wd xk0 ρ K := rfl
theorem s0_is {sw : SW} {xk : Xk} {ρ : REnv} {K : SK} : s0 sw xk ρ K = sw xk0 ρ K := rfl
theorem i0_is {iw : IW} {xk : Xk} {ρ : REnv} {K : Nat → (Nat → D → Prop) → (REnv → Prop) → REnv → Prop} : i0 iw xk ρ K = iw xk0 ρ K := rfl
theorem hXk_n {n : Nat} {K : SK} {m : List Bool} {sw : SW} {r : List (List Bool × Option Nat × SW)} {c : Nat} {d : D} : hXk n K ((m, none, sw) :: r) c d = (match m[c]? with
    | none => False
    | some false => hXk n K r c d
    | some true => sw xk0 (List.replicate n .no) { nx := K.nx, rt := fun _ _ => False }) := rfl
theorem hXk_s {n i : Nat} {K : SK} {m : List Bool} {sw : SW} {r : List (List Bool × Option Nat × SW)} {c : Nat} {d : D} : hXk n K ((m, some i, sw) :: r) c d = (match m[c]? with
    | none => False
    | some false => hXk n K r c d
    | some true => i < n ∧ sw xk0 ((List.replicate n .no).set i (.sh (exn c d))) { nx := fun ρ => K.nx (ρ.set i .no), rt := fun _ _ => False }) := rfl
end
end TL

namespace TL
open PySem PySem.Spec L2
/-! ### sorted(xs), of ints -/
def opSort : D → OW
  | .lst ds => fun k => ∃ ns : List Int, ds = ns.map D.int ∧ ∀ ms : List Int, ms.Perm ns → ms.Pairwise (· ≤ ·) → k (.fr (.lst (ms.map D.int)))
  | _ => fun _ => False
theorem ops_sort {cc : CC} {K : PySem.W.Frag} (hK : cc.K = K) : OpS1 cc opSort fun v H Q => rSortedI K [v] H Q := by
  subst hK
  intro G H x d k Q le v _ ho fin
  unfold opSort at ho
  split at ho
  · obtain ⟨a, vs, ea, ra, rs⟩ := v
    obtain ⟨ns, rfl, hk⟩ := ho
    have e := rs.ints
    subst e
    exact ⟨a, ns, by rw [ea], ra, fun ms p h1 h2 hp => (fin _ (hk ms h1 h2)) p _ hp ⟨_, upd_same, reps_ints ms⟩⟩
  · exact ho.elim
theorem sort_l {ds : List D} {k : Ro → Prop} : opSort (.lst ds) k = ∃ ns : List Int, ds = ns.map D.int ∧ ∀ ms : List Int, ms.Perm ns → ms.Pairwise (· ≤ ·) → k (.fr (.lst (ms.map D.int))) := rfl
end TL

namespace TL
open PySem PySem.Spec L2
section
variable {X : Cx} {Z : Zone} {e : Expr} {w : EW} {pos : Pos}
/-! ### xs.extend(a new list) -/
def sExt (j : Nat) (w : EW) : SW := fun xk ρ K => (∃ m a ds, ρ[j]? = some (.own m a (.lst ds))) ∧ w xk ρ fun r ρ1 => match r, ρ1[j]? with
  | .fr _ (.lst es), some (.own m a (.lst ds)) => ds.length + es.length ≤ sizeLine ∧ K.nx (ρ1.set j (.own m a (.lst (ds ++ es))))
  | _, _ => False
theorem ds_ext {j : Nat} {x : Str} {px apos cpos : Pos} (he : PE X e (T Z w)) (hN : X.N[j]? = some x := by rfl) (hv : Vis X.env.scope x := by first | exact Or.inl rfl | exact Or.inr (Or.inl rfl) | exact Or.inr (Or.inr rfl)) (hd : (x == ("__debug__" : Str)) = false := by decide)
    (hcd : (x == ("__classdict__" : Str)) = false := by decide)
    (hbase : attributeBase (.Name x px) "extend" X.env (eval (.Name x px) X.env) = eval (.Name x px) X.env := by rfl)
    (hfew : ((backTo cpos (starEach [e] X.env)).all (fun x => !x.1) && (backToKw cpos (keywordEach [] X.env)).all (fun x => x.1.isSome)
      && decide (([e] : List Expr).length + ([] : List Keyword).length + (if ([] : List Keyword).isEmpty then 0 else 1) < 30)) = true := by rfl)
    (hline : (apos.endLine == cpos.line) = true := by rfl) (hst : starEach [e] X.env = (false, eval e X.env) :: starEach [] X.env := by rfl) (hplain : (backTo cpos (starEach [] X.env)).any (·.1) = false := by rfl)
    (hs : swapsWith (.Call (.Attribute (.Name x px) "extend" apos) [e] [] cpos) none pos.line X.env = pure false := by rfl) :
    PS X (.Expr (.Call (.Attribute (.Name x px) "extend" apos) [e] [] cpos) pos) (Ts Z (sExt j w)) :=
  ⟨fun pins s σ H D I ⟨ρ, G, K, IR, ⟨⟨m, a, ds, hs0⟩, hk⟩, l⟩ => (ps_expr (pe_bm PySem.F.plainAttrs_list PySem.F.slot_list_extend PySem.F.type_list_extend mt_extend (pv j hN hv hd hcd) (pa_cons he pa_nil hst) hbase hfew hline hst hplain) hs).run pins s σ H D I (by
    obtain ⟨es, vs, ha, rs⟩ := IR.ownL hs0
    have es := own_at (lt_len I hN) es
    refine ⟨.ref a, es, .inl ⟨rfl, vs, SqL.of ha⟩, ρ, G, _, IR, hk, fun r ρ' v H' G' le I' q k2 => ?_⟩
    split at k2
    · rename_i b es2 m2 a2 ds2 hs2
      obtain ⟨es3, vs2, ha2, rs2⟩ := I'.ownL hs2
      cases own_in es es3
      obtain ⟨ev, ⟨ws, hb, rw⟩, _⟩ := q
      refine ⟨a, b, vs2, ws, rfl, by rw [ev], ha2, hb, by rw [rs2.length, rw.length]; exact k2.1, ?_⟩
      exact l.nx _ _ _ G' le (I'.write hs2 (Root.lst upd_same (rs2.append rw))) k2.2
    · exact k2.elim)⟩
end
end TL

namespace TL
open PySem PySem.Spec L2
theorem room65 {k : Nat} {A : Around} (r : Room k A) : A.units + 65 < cLine := by have := r.un; omega
theorem pds_map : ∀ ds : List D, pds ds = ds.map pd
  | [] => by unfold pds; rfl
  | d :: ds => by unfold pds; rw [pds_map ds]; rfl
theorem pd_lst {ds : List D} : pd (.lst ds) = .list (pds ds) := by simp only [pd]
/-! ### x in xs, x not in xs -/
def opIn : D → D → OW
  | d, .lst ds => fun k => (okD 64 d = true ∧ okD 64 (.lst ds) = true) ∧ k (.sh (.bl (ds.any fun z => eqD z d)))
  | _, _ => fun _ => False
def opNotIn : D → D → OW
  | d, .lst ds => fun k => (okD 64 d = true ∧ okD 64 (.lst ds) = true) ∧ k (.sh (.bl (!ds.any fun z => eqD z d)))
  | _, _ => fun _ => False
theorem any_pds {ds : List D} {d : D} : ((pds ds).any fun z => PyData.eqv z (pd d)) = ds.any fun z => eqD z d := by
  rw [pds_map, List.any_map]
  rfl
section
variable {cc : CC}
theorem ops_in {K : PySem.W.Frag} (hK : cc.K = K) : OpS cc opIn (rInD K) := by
  subst hK
  intro G H x y d e k Q le v1 v2 r1 r2 ho fin
  cases e <;> try exact (ho : False).elim
  rename_i ds
  obtain ⟨⟨o1, o2⟩, hk⟩ : (okD 64 d = true ∧ okD 64 (.lst ds) = true) ∧ _ := ho
  have dl := okD_dp o2 r2
  have sl := okD_shaped o2
  rw [pd_lst] at dl sl
  refine ⟨pd d, pds ds, okD_dp o1 r1, dl, okD_shaped o1, sl, ?_⟩
  rw [any_pds]; exact (fin _ hk).1 _ rep_bl
theorem ops_notIn {K : PySem.W.Frag} (hK : cc.K = K) : OpS cc opNotIn (rNotInD K) := by
  subst hK
  intro G H x y d e k Q le v1 v2 r1 r2 ho fin
  cases e <;> try exact (ho : False).elim
  rename_i ds
  obtain ⟨⟨o1, o2⟩, hk⟩ : (okD 64 d = true ∧ okD 64 (.lst ds) = true) ∧ _ := ho
  have dl := okD_dp o2 r2
  have sl := okD_shaped o2
  rw [pd_lst] at dl sl
  refine ⟨pd d, pds ds, okD_dp o1 r1, dl, okD_shaped o1, sl, ?_⟩
  rw [any_pds]; exact (fin _ hk).1 _ rep_bl
/-! ### any(xs), tuple(xs) -/
def opAny : D → OW
  | .lst ds => fun k => ∃ bs : List Bool, ds = bs.map D.bl ∧ k (.sh (.bl (bs.any id)))
  | _ => fun _ => False
def opTup : D → OW
  | .lst ds => fun k => k (.sh (.tup ds))
  | _ => fun _ => False
end
section
variable {X : Cx} {Z : Zone} {a b e : Expr} {wa wb w : EW} {pos : Pos}
/-! ### xs.pop(i), as a value -/
def ePopAt (j : Nat) (w : EW) : EW := fun xk ρ K => (∃ m a ds, ρ[j]? = some (.own m a (.lst ds))) ∧ w xk ρ fun r ρ1 => match r.get ρ1, ρ1[j]? with
  | .int i, some (.own m a (.lst ds)) => ((-(2 ^ 63) ≤ i ∧ i < 2 ^ 63) ∧ ∃ k d, seqIndex? i ds.length = some k ∧ ds[k]? = some d ∧ K (.sh d) (ρ1.set j (.own m a (.lst (ds.eraseIdx k)))))
  | _, _ => False
theorem Reps.erase {cc : CC} {G : Hp} : ∀ {ds : List D} {vs : List V} (k : Nat), Reps cc G vs ds → Reps cc G (vs.eraseIdx k) (ds.eraseIdx k)
  | [], _, _, h => by rw [h.inv_nil]; exact Reps.nil
  | _ :: _, _, 0, h => by
    obtain ⟨v, r, rfl, a, q⟩ := h.inv_cons
    exact q
  | _ :: _, _, k + 1, h => by
    obtain ⟨v, r, rfl, a, q⟩ := h.inv_cons
    exact Reps.cons a (Reps.erase k q)
theorem de_popAt {j : Nat} {x : Str} {px apos cpos : Pos} (he : PE X e (T Z w)) (hN : X.N[j]? = some x := by rfl) (hv : Vis X.env.scope x := by first | exact Or.inl rfl | exact Or.inr (Or.inl rfl) | exact Or.inr (Or.inr rfl)) (hd : (x == ("__debug__" : Str)) = false := by decide)
    (hcd : (x == ("__classdict__" : Str)) = false := by decide)
    (hbase : attributeBase (.Name x px) "pop" X.env (eval (.Name x px) X.env) = eval (.Name x px) X.env := by rfl)
    (hfew : ((backTo cpos (starEach [e] X.env)).all (fun x => !x.1) && (backToKw cpos (keywordEach [] X.env)).all (fun x => x.1.isSome)
      && decide (([e] : List Expr).length + ([] : List Keyword).length + (if ([] : List Keyword).isEmpty then 0 else 1) < 30)) = true := by rfl)
    (hline : (apos.endLine == cpos.line) = true := by rfl) (hst : starEach [e] X.env = (false, eval e X.env) :: starEach [] X.env := by rfl) (hplain : (backTo cpos (starEach [] X.env)).any (·.1) = false := by rfl) :
    PE X (.Call (.Attribute (.Name x px) "pop" apos) [e] [] cpos) (T Z (ePopAt j w)) :=
  ⟨fun pins s σ H Q I ⟨ρ, G, K, IR, ⟨⟨m, a, ds, hs0⟩, hk⟩, q⟩ => (pe_bm PySem.F.plainAttrs_list PySem.F.slot_list_pop PySem.F.type_list_pop mt_popAt (pv j hN hv hd hcd) (pa_cons he pa_nil hst) hbase hfew hline hst hplain).run pins s σ H Q I (by
    obtain ⟨es, vs, ha, rs⟩ := IR.ownL hs0
    have es := own_at (lt_len I hN) es
    refine ⟨.ref a, es, .inl ⟨rfl, vs, SqL.of ha⟩, ρ, G, _, IR, hk, fun r ρ' v H' G' le I' qr k2 => ?_⟩
    have vi := qr.view I'
    split at k2
    · rename_i i m2 a2 ds2 hg hs2
      rw [hg] at vi
      obtain ⟨⟨i1, i2⟩, k, d, hk1, hk2, k3⟩ := k2
      obtain ⟨es2, vs2, ha2, rs2⟩ := I'.ownL hs2
      cases own_in es es2
      obtain ⟨y, hy, ry⟩ := rs2.get hk2
      have I2 := I'.write hs2 (o := .lst (vs2.eraseIdx k)) (Root.lst upd_same (rs2.erase k))
      exact ⟨a, vs2, i, k, y, rfl, by rw [show v = .int i from vi], ha2, i1, i2, by rw [rs2.length]; exact hk1, hy, q (.sh d) _ _ _ _ le I2 ry k3⟩
    · exact k2.elim)⟩
/-! ### xs.index(y) -/
def isL : D → Prop
  | .lst _ => True
  | _ => False
def eIdx (wa wb : EW) : EW := fun xk ρ K => wa xk ρ fun r1 ρ1 => isL (r1.get ρ1) ∧ wb xk ρ1 fun r2 ρ2 => pok r1 ρ2 ∧ match r1.get ρ2, r2.get ρ2 with
  | .lst ds, d => (okD 64 d = true ∧ okD 64 (.lst ds) = true) ∧ ∃ (j : Nat) (z : D), ds[j]? = some z ∧ eqD z d = true ∧ (∀ (m : Nat) (z' : D), m < j → ds[m]? = some z' → eqD z' d = false) ∧ K (.sh (.int j)) ρ2
  | _, _ => False
theorem de_idx {apos cpos : Pos} (hu : X.A.units + 65 < cLine) (hK : Z.cc.K = X.K) (ha : PE X a (T Z wa)) (hb : PE X b (T Z wb))
    (hbase : attributeBase a "index" X.env (eval a X.env) = eval a X.env := by rfl)
    (hfew : ((backTo cpos (starEach [b] X.env)).all (fun x => !x.1) && (backToKw cpos (keywordEach [] X.env)).all (fun x => x.1.isSome)
      && decide (([b] : List Expr).length + ([] : List Keyword).length + (if ([] : List Keyword).isEmpty then 0 else 1) < 30)) = true := by rfl)
    (hline : (apos.endLine == cpos.line) = true := by rfl) (hst : starEach [b] X.env = (false, eval b X.env) :: starEach [] X.env := by rfl) (hplain : (backTo cpos (starEach [] X.env)).any (·.1) = false := by rfl) :
    PE X (.Call (.Attribute a "index" apos) [b] [] cpos) (T Z (eIdx wa wb)) :=
  ⟨fun pins s σ H Q I ⟨ρ, G, K, IR, hw, q⟩ => (pe_bm PySem.F.plainAttrs_list PySem.F.slot_list_index PySem.F.type_list_index (mt_indexD hu) ha (pa_cons hb pa_nil hst) hbase hfew hline hst hplain).run pins s σ H Q I ⟨ρ, G, _, IR, hw, fun r1 ρ1 v H1 G1 le1 I1 q1 k1 => by
    obtain ⟨G1', le1', I1', q1'⟩ := I1.freeze q1
    have vl := q1.view I1
    refine ⟨?_, ρ1, G1', _, I1', k1.2, fun r2 ρ2 y H2 G2 le2 I2 q2 k2 => ?_⟩
    · have k11 := k1.1
      cases hd : r1.get ρ1 <;> rw [hd] at k11 vl <;> try exact (k11 : False).elim
      obtain ⟨p, vs, ea, ra, rs⟩ := vl
      subst ea
      exact .inl ⟨rfl, vs, by rw [← hK]; exact ra⟩
    · have qf := pend_mono (H' := H2) le2 q1' k2.1
      have rp := qf.repH I2
      rw [Rv.get_pend] at rp
      have rp2 := q2.repH I2
      have k3 := k2.2
      split at k3
      · rename_i ds hg
        rw [hg] at rp
        obtain ⟨⟨o1, o2⟩, j, z, h1, h2, h3, k4⟩ := k3
        have dl := okD_dp o2 rp
        have sl := okD_shaped o2
        unfold Rep at rp
        obtain ⟨p, vs, ea, ra, rs⟩ := rp
        subst ea
        rw [pd_lst] at dl sl
        rw [hK] at dl
        have dp2 := okD_dp o1 rp2
        rw [hK] at dp2
        refine ⟨p, y, pd (r2.get ρ2), pds ds, j, pd z, rfl, rfl, dl, dp2, sl, okD_shaped o1, ?_, h2, fun m z' hm hz' => ?_, q (.sh (.int j)) ρ2 _ H2 G2 ((le1.trans le1').trans le2) I2 (rv_sh rep_int) k4⟩
        · rw [pds_map, List.getElem?_map, h1]; rfl
        · rw [pds_map, List.getElem?_map] at hz'
          cases hm2 : ds[m]? with
          | none => rw [hm2] at hz'; cases hz'
          | some z2 =>
            rw [hm2] at hz'
            cases hz'
            exact h3 m z2 hm hm2
      · exact k3.elim⟩⟩
end
end TL

namespace TL
open PySem PySem.Spec L2
/-! ### [elt for tg in iter for tg1 in iter1] -/
def eComp2 (iw : IW) (g : GW) (iw1 : IW) (g1 : GW) (we : EW) (vs vs1 : List Nat) : EW := fun xk ρ K => iw xk ρ fun n f st ρ1 => ∃ W : Nat → List D → REnv → Prop, W 0 [] (wipeE ρ1 vs) ∧ (∀ i acc ρ, i ≤ n → W i acc ρ → st ρ) ∧
  (∀ i d acc ρ, i < n → f i d → W i acc ρ → g d ρ fun ρ2 => iw1 xk0 ρ2 fun n1 f1 st1 ρ3 => ∃ W1 : Nat → List D → REnv → Prop, W1 0 acc (wipeE ρ3 vs1) ∧ (∀ j acc ρ, j ≤ n1 → W1 j acc ρ → st1 ρ) ∧
    (∀ j e acc ρ, j < n1 → f1 j e → W1 j acc ρ → g1 e ρ fun ρ4 => we xk0 ρ4 fun r ρ5 => stl r ρ5 fun e ρ6 => acc.length < sizeLine ∧ W1 (j + 1) (acc ++ [e]) (wipeE ρ6 vs1)) ∧
    ∀ acc ρ, W1 n1 acc ρ → W (i + 1) acc (wipeE ρ vs)) ∧
  ∀ acc ρ, W n acc ρ → ∀ a, K (.fr a (.lst acc)) (restE ρ1 vs ρ)
def TiX (Z : Zone) (w : IW) : TI := fun σ H Q => ∃ D o, Ti (Z.ext D o) w σ H Q
theorem wipe_sub {σ : L2.St} {vs : List Nat} : ∀ ws, (∀ i ∈ ws, i ∈ vs) → L2.wipe (L2.wipe σ ws) vs = L2.wipe σ vs := by
  intro ws
  induction ws with
  | nil => intro _; rfl
  | cons w ws ih =>
    intro h
    show L2.wipe ((L2.wipe σ ws).set w none) vs = _
    rw [wipe_set (h w List.mem_cons_self)]
    exact ih fun i hi => h i (List.mem_cons_of_mem _ hi)
theorem T.comp2 {Z : Zone} {iw iw1 : IW} {g g1 : GW} {we : EW} {vs vs1 : List Nat} {σ : L2.St} {H : Hp} {Q : VK} (hv : ∀ i ∈ vs1, i ∈ vs)
    (h : T Z (eComp2 iw g iw1 g1 we vs vs1) σ H Q) : tLc2 (Ti Z iw) (Tgc Z vs g) tYes (TiX Z iw1) (Tgc Z vs1 g1) tYes (TX Z we) vs vs1 σ H Q := by
  obtain ⟨ρ, G, K, IR, hw, q⟩ := h
  refine ⟨ρ, G, _, IR, hw, fun n f st ρ1 H1 G1 J le1 I1 io ⟨W, w0, stb, turn, fin⟩ Dd hD => ?_⟩
  obtain ⟨h0, hm⟩ := I1.h0 hD
  have gD1 := I1.g hD
  have g0 : Z.G0 Dd = none := by
    cases e : Z.G0 Dd with
    | none => rfl
    | some u => have := I1.g0 _ _ e; rw [gD1] at this; cases this
  refine ⟨fun i m H' => m = n - i ∧ i ≤ n ∧ ∃ acc ρ' G' va, LE G1 G' ∧ SR Z ρ' G' (L2.wipe σ vs) H' ∧ H' Dd = some (.lst va) ∧ Reps Z.cc G' va acc ∧ G' Dd = none ∧ (∀ (i : Nat) (m : Bool) (b : Addr) (e : D), ρ'[i]? = some (.own m b e) → b ≠ Dd) ∧ W i acc ρ',
    ⟨n, by simp, Nat.zero_le _, [], wipeE ρ1 vs, G1, [], LE.refl G1, (I1.newH hD).wipe vs, upd_same, Reps.nil, gD1, fun i m b e h => I1.own_ne (wipeE_own h) hD, w0⟩, ?_⟩
  rintro i m H' ⟨rfl, hin, acc, ρ', G', va, le', I', hDl, rs, gD, ow, w'⟩
  have Ix := I'.ext hDl gD ow hm
  obtain ⟨s1, s2⟩ := io _ _ i ρ' G' (L2.wipe σ vs) H' le' Ix (stb i acc ρ' hin w')
  by_cases hlt : i < n
  · obtain ⟨go, yl⟩ := s2 hlt
    refine .inr ⟨go, fun H2 => ∃ acc ρ' G' va, LE G1 G' ∧ SR Z ρ' G' (L2.wipe σ vs) H2 ∧ H2 Dd = some (.lst va) ∧ Reps Z.cc G' va acc ∧ G' Dd = none ∧ (∀ (i : Nat) (m : Bool) (b : Addr) (e : D), ρ'[i]? = some (.own m b e) → b ≠ Dd) ∧ W (i + 1) acc ρ',
      fun H2 h => ⟨n - (i + 1), by omega, rfl, hlt, h⟩, fun x H2 y => ?_⟩
    obtain ⟨d, G2, fd, le2, I2, rp⟩ := yl x H2 y
    refine ⟨Dd, .lst va, ρ', G2, d, _, I2, rp, turn i d acc ρ' hlt fd w', fun ρ3 σ3 G3 le3 I3 hw3 k3 => ?_⟩
    rw [wipe_wipe] at hw3
    refine ⟨hw3, ?_⟩
    simp only [tYes, ↓reduceIte]
    refine ⟨Dd, .lst va, ρ3, G3, _, I3, k3, fun n1 f1 st1 ρ4 H4 G4 J1 le4 I4 io1 ⟨W1, w1, stb1, turn1, fin1⟩ => ?_⟩
    obtain ⟨J4, hD4, gD4, ow4⟩ := I4.unext h0 g0 hm
    have l4 := ((le'.trans le2).trans le3).trans le4
    refine ⟨fun j k H' => k = n1 - j ∧ j ≤ n1 ∧ ∃ acc ρ' G' va, LE G4 G' ∧ SR Z ρ' G' (L2.wipe σ3 vs1) H' ∧ H' Dd = some (.lst va) ∧ Reps Z.cc G' va acc ∧ G' Dd = none ∧ (∀ (i : Nat) (m : Bool) (b : Addr) (e : D), ρ'[i]? = some (.own m b e) → b ≠ Dd) ∧ W1 j acc ρ',
      ⟨n1, by simp, Nat.zero_le _, acc, wipeE ρ4 vs1, G4, va, LE.refl G4, J4.wipe vs1, hD4, rs.mono ((le2.trans le3).trans le4), gD4, fun i m b e h => ow4 i m b e (wipeE_own h), w1⟩, ?_⟩
    rintro j k H5 ⟨rfl, hjn, acc5, ρ5, G5, va5, le5, I5, hD5, rs5, gD5, ow5, w5⟩
    have Ix5 := I5.ext hD5 gD5 ow5 hm
    obtain ⟨s3, s4⟩ := io1 _ _ j ρ5 G5 (L2.wipe σ3 vs1) H5 le5 Ix5 (stb1 j acc5 ρ5 hjn w5)
    by_cases hlt1 : j < n1
    · obtain ⟨go1, yl1⟩ := s4 hlt1
      refine .inr ⟨go1, fun H2 => ∃ acc ρ' G' va, LE G4 G' ∧ SR Z ρ' G' (L2.wipe σ3 vs1) H2 ∧ H2 Dd = some (.lst va) ∧ Reps Z.cc G' va acc ∧ G' Dd = none ∧ (∀ (i : Nat) (m : Bool) (b : Addr) (e : D), ρ'[i]? = some (.own m b e) → b ≠ Dd) ∧ W1 (j + 1) acc ρ',
        fun H2 h => ⟨n1 - (j + 1), by omega, rfl, hlt1, h⟩, fun x1 H6 y1 => ?_⟩
      obtain ⟨d1, G6, fd1, le6, I6, rp1⟩ := yl1 x1 H6 y1
      refine ⟨Dd, .lst va5, ρ5, G6, d1, _, I6, rp1, turn1 j d1 acc5 ρ5 hlt1 fd1 w5, fun ρ7 σ7 G7 le7 I7 hw7 k7 => ?_⟩
      rw [wipe_wipe] at hw7
      refine ⟨hw7, ?_⟩
      simp only [tYes, ↓reduceIte]
      refine ⟨Dd, .lst va5, ρ7, G7, _, I7, k7, fun r ρ8 yv H8 G8 le8 I8 q8 k8 => ?_⟩
      obtain ⟨e, ρ9, G9, le9, I9, rpe, ⟨hl, k9⟩, _⟩ := I8.settle q8 k8
      obtain ⟨J9, hD9, gD9, ow9⟩ := I9.unext h0 g0 hm
      refine ⟨va5, hD9, by rw [rs5.length]; exact hl, acc5 ++ [e], wipeE ρ9 vs1, G9, va5 ++ [yv], (((le5.trans le6).trans le7).trans le8).trans le9, ?_, upd_same, ?_, gD9, fun i m b e h => ow9 i m b e (wipeE_own h), k9⟩
      · have := J9.wipe vs1
        rw [hw7] at this
        exact this.other gD9 (fun i m b e h => ow9 i m b e (wipeE_own h)) h0 hm
      · exact (rs5.mono (((le6.trans le7).trans le8).trans le9)).append (Reps.cons rpe Reps.nil)
    · have e : j = n1 := by omega
      subst e
      refine .inl ⟨s3 (Nat.le_refl _), acc5, wipeE ρ5 vs, G5, va5, l4.trans le5, ?_, hD5, rs5, gD5, fun i m b e h => ow5 i m b e (wipeE_own h), fin1 acc5 ρ5 w5⟩
      have := I5.wipe vs
      rw [wipe_sub vs1 hv, hw3] at this
      exact this
  · have e : i = n := by omega
    subst e
    refine .inl ⟨s1 (Nat.le_refl _), q (.fr Dd (.lst acc)) (restE ρ1 vs ρ') _ H' G' (le1.trans le') (I1.unwipe le' vs I') ?_ (fin acc ρ' w' Dd)⟩
    exact ⟨rfl, ⟨va, hDl, rs⟩, gD, fun i m b e h => ow i m b e (restE_own h), h0, hm⟩
section
variable {X : Cx} {Z : Zone}
theorem ds_setLc2 {i : Nat} {y : Str} {py : Pos} {elt tg iter tg1 iter1 : Expr} {scope : Scope} {own : List (Str × Nat)} {vs1 : List Nat} {pos spos : Pos} {iw iw1 : IW} {g g1 : GW} {we : EW} (hc : X.calm = true) (hN : X.N.Nodup) (hi : PI X tg iter (Ti Z iw)) (ok : BlkOk X.N X.env.scope scope own)
    (hg : ∀ (s : Shared) (H : Hp) (C : Addr) (cl : List (Str × Addr)) (fp : List Addr), PG (X.blk s H scope (compEnvC scope cl C X.env) fp) tg (Tgc Z (own.map (·.2)) g))
    (hi1 : ∀ (D : Addr) (o : HO) (s : Shared) (H : Hp) (C : Addr) (cl : List (Str × Addr)) (fp : List Addr), PI (X.blk s H scope (compEnvC scope cl C X.env) fp) tg1 iter1 (Ti (Z.ext D o) iw1))
    (hg1 : ∀ (s : Shared) (H : Hp) (C : Addr) (cl : List (Str × Addr)) (fp : List Addr), PG (X.blk s H scope (compEnvC scope cl C X.env) fp) tg1 (Tgc Z vs1 g1))
    (he : ∀ (D : Addr) (o : HO) (s : Shared) (H : Hp) (C : Addr) (cl : List (Str × Addr)) (fp : List Addr), PE (X.blk s H scope (compEnvC scope cl C X.env) fp) elt (T (Z.ext D o) we))
    (hsw : swapsWith (.ListComp elt [⟨tg, iter, [], 0⟩, ⟨tg1, iter1, [], 0⟩] scope pos) (some (.Name y py)) spos.line X.env = pure true)
    (hv : ∀ i ∈ vs1, i ∈ own.map (·.2) := by decide) (hy : X.N[i]? = some y := by rfl) (hyl : X.env.scope.names.lookup y = some .local := by rfl) (hs : ∀ x, foldedSetIterable iter X.env x = pure x := by intro _; rfl) (hs1 : ∀ env x, foldedSetIterable iter1 env x = pure x := by intro _ _; rfl) :
    PS X (.Assign [.Name y py] (.ListComp elt [⟨tg, iter, [], 0⟩, ⟨tg1, iter1, [], 0⟩] scope pos) spos) (Ts Z (sSet i (eComp2 iw g iw1 g1 we (own.map (·.2)) vs1))) :=
  ⟨fun pins s σ H D I ⟨ρ, G, K, IR, hw, l⟩ => (ps_setLc2 hc hN hy hyl hsw hi ok hv hg (tt := tYes) (te := TX Z we) (wi1 := TiX Z iw1) (tt1 := tYes) (fun _ _ _ _ _ => pts_nil)
    (fun s H C cl fp => ⟨fun pins s' σ H Q I ⟨D, o, h⟩ => (hi1 D o s _ C cl fp).run pins s' σ H Q I h⟩) hg1 (fun _ _ _ _ _ => pts_nil) (fun s H C cl fp => ⟨fun pins s' σ H Q I ⟨D, o, h⟩ => (he D o s _ C cl fp).run pins s' σ H Q I h⟩) hs hs1).run pins s σ H D I
    (T.comp2 hv ⟨ρ, G, _, IR, hw, fun r ρ' v H' G' le I' q k => by
      obtain ⟨ρ2, G2, le2, I2, k2⟩ := I'.place (lt_len I hy) q k
      exact l.nx ρ2 _ H' G2 (le.trans le2) I2 k2⟩)⟩
/-! ### is True, is not False -/
def opIsB (c : Bool) : D → OW
  | .bl b => fun k => k (.sh (.bl (decide (b = c))))
  | _ => fun _ => False
def opNotB (c : Bool) : D → OW
  | .bl b => fun k => k (.sh (.bl (!decide (b = c))))
  | _ => fun _ => False
theorem via_notB {w : EW} {c : Bool} : Via Z (tOp rNotB (T Z w) (tC (.bl c))) (eUn (opNotB c) w) := fun σ H Q ⟨ρ, G, K, I, hw, q⟩ => ⟨ρ, G, _, I, hw, fun r1 ρ1 x H1 G1 le1 I1 q1 k1 => by
    have v := q1.view I1
    cases hd : r1.get ρ1 <;> rw [hd] at k1 v <;> try exact (k1 : False).elim
    exact ⟨_, c, v, rfl, (T.fin (o := .sh _) I1 le1 k1 q).1 _ rep_bl⟩⟩
theorem dt_notB {e : Expr} {w : EW} {pos : Pos} {c : Bool} {j pos'} (he : PE X e (T Z w)) (hm : behindInMarks .IsNot (.Constant (.bool c) j pos') = false := by rfl) : PT X (.Compare e [.IsNot] [.Constant (.bool c) j pos'] pos) (Tt Z (tVal (eUn (opNotB c) w))) :=
  ⟨fun pins s σ H Q I q => (pt_cmpR op_notBl he pe_bl hm).run pins s σ H Q I (Tt.val via_notB q)⟩
theorem isB_b {c b : Bool} {k : Ro → Prop} : opIsB c (.bl b) k = k (.sh (.bl (decide (b = c)))) := rfl
theorem notB_b {c b : Bool} {k : Ro → Prop} : opNotB c (.bl b) k = k (.sh (.bl (!decide (b = c)))) := rfl
theorem in_l {d : D} {ds : List D} {k : Ro → Prop} : opIn d (.lst ds) k = ((okD 64 d = true ∧ okD 64 (.lst ds) = true) ∧ k (.sh (.bl (ds.any fun z => eqD z d)))) := rfl
theorem notIn_l {d : D} {ds : List D} {k : Ro → Prop} : opNotIn d (.lst ds) k = ((okD 64 d = true ∧ okD 64 (.lst ds) = true) ∧ k (.sh (.bl (!ds.any fun z => eqD z d)))) := rfl
theorem any_l {ds : List D} {k : Ro → Prop} : opAny (.lst ds) k = ∃ bs : List Bool, ds = bs.map D.bl ∧ k (.sh (.bl (bs.any id))) := rfl
theorem tup_l {ds : List D} {k : Ro → Prop} : opTup (.lst ds) k = k (.sh (.tup ds)) := rfl
end
end TL

namespace TL
open PySem PySem.Spec PyProof.Rows L2
/-! ### ranges whose ends have any size -/
section
variable {X : Cx} {Z : Zone} {tg : Expr}
def iRL (wd : DW) : IW := fun xk ρ K => wd xk ρ fun ds ρ1 => match ds with
  | [.int i, .int j] => K (j - i).toNat (fun k d => d = .int (i + k)) (fun _ => True) ρ1
  | _ => False
end
end TL

namespace TL
open PySem PySem.Spec L2
/-! ### texts -/
def strI (i : Int) : Str := toString i
/-! ### str(n), {x} -/
def opStr : D → OW
  | .int i => fun k => i.natAbs.log2 < 1920 ∧ k (.sh (.str (strI i)))
  | _ => fun _ => False
def opFmt : D → OW
  | .str y => fun k => y.length ≤ sizeLine ∧ k (.sh (.str y))
  | .int i => fun k => i.natAbs.log2 < 1920 ∧ k (.sh (.str (strI i)))
  | _ => fun _ => False
section
variable {X : Cx} {Z : Zone} {e a b : Expr} {w wa wb : EW} {pos : Pos}
/-! ### f-strings -/
inductive DJ (X : Cx) (Z : Zone) : List Expr → List EW → Prop where
  | nil : DJ X Z [] []
  | cons {e : Expr} {w : EW} {es : List Expr} {ws : List EW} (h : PE X e (T Z w)) (r : DJ X Z es ws) : DJ X Z (e :: es) (w :: ws)
/-! ### sep.join(xs) -/
end
theorem str_i {i : Int} {k : Ro → Prop} : opStr (.int i) k = (i.natAbs.log2 < 1920 ∧ k (.sh (.str (strI i)))) := rfl
theorem fmt_i {i : Int} {k : Ro → Prop} : opFmt (.int i) k = (i.natAbs.log2 < 1920 ∧ k (.sh (.str (strI i)))) := rfl
theorem fmt_s {i : Str} {k : Ro → Prop} : opFmt (.str i) k = (i.length ≤ sizeLine ∧ k (.sh (.str i))) := rfl
end TL

namespace TL
open PySem PySem.Spec L2
section
variable {X : Cx} {Z : Zone} {a b : Expr} {wa wb : EW} {pos : Pos}
/-! ### xs * n, xs new or a name's own -/
end
end TL

namespace TL
open PySem PySem.Spec L2
/-! ### dicts: keys and values as trees -/
theorem eqD_key : ∀ a b : Key, eqD (keyD a) (keyD b) = decide (a = b)
  | .inl a, .inl b => by
    show PyData.eqv (.int a) (.int b) = _
    simp only [PyData.eqv]
    rw [Bool.eq_iff_iff]
    simp
  | .inr a, .inr b => by
    show PyData.eqv (.str a) (.str b) = _
    simp only [PyData.eqv]
    rw [Bool.eq_iff_iff]
    simp
  | .inl a, .inr b => by
    rw [decide_eq_false (by intro h; cases h)]
    rfl
  | .inr a, .inl b => by
    rw [decide_eq_false (by intro h; cases h)]
    rfl
theorem eqDs_keys : ∀ a b : List Key, eqDs (a.map keyD) (b.map keyD) = decide (a = b)
  | [], [] => rfl
  | [], b :: bs => by rw [decide_eq_false (by simp)]; rfl
  | a :: as, [] => by rw [decide_eq_false (by simp)]; rfl
  | a :: as, b :: bs => by
    have e : eqDs ((a :: as).map keyD) ((b :: bs).map keyD) = (eqD (keyD a) (keyD b) && eqDs (as.map keyD) (bs.map keyD)) := rfl
    rw [e, eqD_key, eqDs_keys as bs, Bool.eq_iff_iff]
    simp
theorem eqD_tkey (a b : List Key) : eqD (.tup (a.map keyD)) (.tup (b.map keyD)) = decide (a = b) := by
  have e : eqD (.tup (a.map keyD)) (.tup (b.map keyD)) = eqDs (a.map keyD) (b.map keyD) := rfl
  rw [e, eqDs_keys]
/-- what a dict holds at a key -/
def valD : List D → List D → D → Option D
  | k :: ks, d :: ds, y => if eqD k y then some d else valD ks ds y
  | _, _, _ => none
/-- the keys, the values behind d[y] = v -/
def putKD : List D → D → List D
  | [], y => [y]
  | k :: ks, y => if eqD k y then k :: ks else k :: putKD ks y
def putVD : List D → List D → D → D → List D
  | k :: ks, d :: ds, y, v => if eqD k y then v :: ds else d :: putVD ks ds y v
  | _, _, _, v => [v]
section
variable {cc : CC} {G : Hp} {κ : Type} [DecidableEq κ] {f : κ → D}
theorem putK_neg {p : κ × V} {r : List (κ × V)} {y : κ} {v : V} (e : ¬ p.1 = y) : putK (p :: r) y v = p :: putK r y v := by
  unfold putK
  rw [List.any_cons, decide_eq_false e, Bool.false_or]
  split
  · rw [List.map_cons, if_neg e]
  · rfl
theorem putK_pos {k : κ} {u v : V} {r : List (κ × V)} (h : ∀ p ∈ r, ¬ p.1 = k) : putK ((k, u) :: r) k v = (k, v) :: r := by
  unfold putK
  rw [List.any_cons, decide_eq_true rfl, Bool.true_or, if_pos rfl, List.map_cons, if_pos rfl]
  congr 1
  have : r.map (fun kv => if kv.1 = k then (kv.1, v) else kv) = r.map id := List.map_congr_left fun p hp => by
    rw [if_neg (h p hp)]
    rfl
  rw [this, List.map_id]
theorem zip_key {kk : List κ} {vs : List V} {k : κ} (h : ¬ k ∈ kk) : ∀ p ∈ kk.zip vs, ¬ p.1 = k := fun p hp e => h (by
  rw [← e]
  exact (List.of_mem_zip hp).1)
/-- behind d[y] = v: its pairs -/
theorem put_rel (hf : ∀ a b, eqD (f a) (f b) = decide (a = b)) (y : κ) {v : V} {d : D} (rv : Rep cc G v d) : ∀ {kk : List κ} {vs : List V} {ds : List D}, kk.length = vs.length → kk.Nodup → Reps cc G vs ds →
    ∃ (kk' : List κ) (vs' : List V), putKD (kk.map f) (f y) = kk'.map f ∧ kk'.length = vs'.length ∧ kk'.Nodup ∧ (∀ x, x ∈ kk' → x ∈ kk ∨ x = y) ∧ putK (kk.zip vs) y v = kk'.zip vs' ∧ Reps cc G vs' (putVD (kk.map f) ds (f y) d)
  | [], [], ds, _, _, r => by
    have : ds = [] := by cases ds with | nil => rfl | cons d ds => exact absurd r.length (by simp)
    subst this
    exact ⟨[y], [v], rfl, rfl, by simp, fun x hx => .inr (List.mem_singleton.mp hx), rfl, Reps.cons rv Reps.nil⟩
  | [], _ :: _, _, h, _, _ => by simp at h
  | _ :: _, [], _, h, _, _ => by simp at h
  | k :: kk, u :: vs, ds, h, hn, r => by
    cases ds with
    | nil => exact absurd r.length (by simp)
    | cons e ds =>
      obtain ⟨v', r', e1, ra, rr⟩ := r.inv_cons
      cases e1
      obtain ⟨n1, n2⟩ := List.nodup_cons.mp hn
      have ek : putKD ((k :: kk).map f) (f y) = if decide (k = y) = true then f k :: kk.map f else f k :: putKD (kk.map f) (f y) := by
        show (if eqD (f k) (f y) = true then f k :: kk.map f else f k :: putKD (kk.map f) (f y)) = _
        rw [hf]
      have ev : putVD ((k :: kk).map f) (e :: ds) (f y) d = if decide (k = y) = true then d :: ds else e :: putVD (kk.map f) ds (f y) d := by
        show (if eqD (f k) (f y) = true then d :: ds else e :: putVD (kk.map f) ds (f y) d) = _
        rw [hf]
      rw [ek, ev]
      by_cases hk : k = y
      · subst hk
        rw [decide_eq_true rfl, if_pos rfl, if_pos rfl]
        refine ⟨k :: kk, v :: vs, rfl, by simpa using h, hn, fun x hx => .inl hx, ?_, Reps.cons rv rr⟩
        exact putK_pos (zip_key n1)
      · rw [decide_eq_false hk]
        obtain ⟨kk', vs', a1, a2, a3, a4, a5, a6⟩ := put_rel hf y rv (kk := kk) (vs := vs) (ds := ds) (by simpa using h) n2 rr
        refine ⟨k :: kk', u :: vs', by simp [a1], by simp [a2], List.nodup_cons.mpr ⟨fun hm => (a4 k hm).elim n1 hk, a3⟩, fun x hx => ?_, ?_, Reps.cons ra a6⟩
        · rcases List.mem_cons.mp hx with h | h
          · exact .inl (by rw [h]; exact List.mem_cons_self)
          · exact (a4 x h).imp (List.mem_cons_of_mem _) id
        · show putK ((k, u) :: kk.zip vs) y v = (k, u) :: kk'.zip vs'
          rw [putK_neg (p := (k, u)) hk, a5]
end
theorem rep_key {cc : CC} {H : Hp} {y : V} : ∀ {k : Key}, Rep cc H y (keyD k) → y = kV k
  | .inl i, r => by unfold keyD Rep at r; exact r
  | .inr x, r => by unfold keyD Rep at r; exact r
theorem reps_keys {cc : CC} {H : Hp} : ∀ {kt : List Key} {vs : List V}, Reps cc H vs (kt.map keyD) → vs = kt.map kV
  | [], vs, r => r.inv_nil
  | k :: kt, vs, r => by
    obtain ⟨v, r', rfl, ra, rr⟩ := r.inv_cons
    rw [rep_key ra, reps_keys rr]
    rfl
/-- a key of a dict of the kind m -/
def KeyD (m : Bool) (k : D) : Prop := if m = true then ∃ kt : List Key, k = .tup (kt.map keyD) else ∃ kk : Key, k = keyD kk
/-- behind d[y] = v -/
theorem DctO.put {cc : CC} {G H : Hp} {a : Addr} {m : Bool} {ks ds : List D} {vs : List V} {y v : V} {k d : D} (r : DctO H a (.bl m :: ks) vs) (rs : Reps cc G vs ds) (ry : Rep cc H y k) (hk : KeyD m k) (rv : Rep cc G v d) (hl : ds.length < sizeLine) :
    ∃ (o : HO) (vs' : List V), DPut H a y v (upd H a o) ∧ DctO (upd H a o) a (.bl m :: putKD ks k) vs' ∧ Reps cc G vs' (putVD ks ds k d) := by
  rw [← rs.length] at hl
  rcases r with ⟨kk, e, h2, h3, h4⟩ | ⟨kt, e, h2, h3, h4⟩
  · cases e
    obtain ⟨k0, rfl⟩ : ∃ kk : Key, k = keyD kk := hk
    obtain ⟨kk', vs', a1, a2, a3, a4, a5, a6⟩ := put_rel (cc := cc) (G := G) eqD_key k0 rv h2 h3 rs
    refine ⟨.dK (kk'.zip vs'), vs', .inl ⟨_, k0, h4, rep_key ry, by rw [List.length_zip]; omega, by rw [a5]⟩, .inl ⟨kk', by rw [a1], a2, a3, upd_same⟩, a6⟩
  · cases e
    obtain ⟨kt0, rfl⟩ : ∃ kt : List Key, k = .tup (kt.map keyD) := hk
    obtain ⟨kk', vs', a1, a2, a3, a4, a5, a6⟩ := put_rel (cc := cc) (G := G) (f := fun k : List Key => D.tup (k.map keyD)) eqD_tkey kt0 rv h2 h3 rs
    unfold Rep at ry
    obtain ⟨b, ws, rfl, hb, rw'⟩ := ry
    rw [reps_keys rw'] at hb
    refine ⟨.dT (kk'.zip vs'), vs', .inr ⟨_, kt0, b, h4, rfl, hb, by rw [List.length_zip]; omega, by rw [a5]⟩, .inr ⟨kk', by rw [a1], a2, a3, upd_same⟩, a6⟩
section
variable {X : Cx} {Z : Zone} {a b e : Expr} {wa wb w : EW} {pos : Pos}
/-! ### d[k] -/
def eDGet (wd wk : EW) : EW := fun xk ρ K => wd xk ρ fun r1 ρ1 => wk xk ρ1 fun r2 ρ2 => pok r1 ρ2 ∧ match r1.get ρ2 with
  | .dic (.bl m :: ks) ds => KeyD m (r2.get ρ2) ∧ ∃ d, valD ks ds (r2.get ρ2) = some d ∧ K (.sh d) ρ2
  | _ => False
/-! ### a new dict -/
def eDNew (m : Bool) : EW := fun _ ρ K => ∀ p, K (.fr p (.dic [.bl m] [])) ρ
theorem de_dnewT : PE X (.Dict [] [] pos) (T Z (eDNew true)) :=
  ⟨fun pins s σ H Q I ⟨ρ, G, K, IR, hw, q⟩ => pe_dnewT.run pins s σ H Q I fun p hp =>
    q (.fr p (.dic [.bl true] [])) ρ _ _ G (LE.refl G) (IR.newH hp) ⟨rfl, ⟨[], .inr ⟨[], rfl, rfl, by simp, upd_same⟩, Reps.nil⟩, IR.g hp, fun i m b e h => IR.own_ne h hp, (IR.h0 hp).1, (IR.h0 hp).2⟩ (hw p)⟩
/-! ### d[k] = v -/
def sDSet (j : Nat) (wi w : EW) : SW := fun xk ρ K => w xk ρ fun r ρ1 => stl r ρ1 fun d ρ2 => bound ρ2 j ∧ wi xk ρ2 fun ri ρ3 => match ρ3[j]? with
  | some (.own m a (.dic (.bl t :: ks) ds)) => KeyD t (ri.get ρ3) ∧ ds.length < sizeLine ∧ K.nx (ρ3.set j (.own m a (.dic (.bl t :: putKD ks (ri.get ρ3)) (putVD ks ds (ri.get ρ3) d))))
  | _ => False
theorem ds_dset {j : Nat} {x : Str} {i : Expr} {wi : EW} {px ps : Pos} (hu : X.A.units + 1 < cLine) (he : PE X e (T Z w)) (hi : PE X i (T Z wi)) (hN : X.N[j]? = some x := by rfl) (hv : Vis X.env.scope x := by first | exact Or.inl rfl | exact Or.inr (Or.inl rfl) | exact Or.inr (Or.inr rfl)) (hd : (x == ("__debug__" : Str)) = false := by decide)
    (hcd : (x == ("__classdict__" : Str)) = false := by decide)
    (hs : swapsWith e (some (.Subscript (.Name x px) i ps)) pos.line X.env = pure false := by rfl) : PS X (.Assign [.Subscript (.Name x px) i ps] e pos) (Ts Z (sDSet j wi w)) :=
  ⟨fun pins s σ H D I ⟨ρ, G, K, IR, hk, l⟩ => (ps_dput hu (pv j hN hv hd hcd) hi he hs).run pins s σ H D I ⟨ρ, G, _, IR, hk, fun r ρ' v H' G' le I' q k => by
    obtain ⟨d, ρ2, G2, le2, I2, rp, ⟨hb, k2⟩, _⟩ := I'.settle q k
    obtain ⟨o, eo⟩ := bound_get I2 (lt_len I hN) hb
    refine ⟨o, eo, ρ2, G2, _, I2, k2, fun ri ρ3 iv H3 G3 le3 I3 qi k3 => ?_⟩
    have ry := qi.repH I3
    split at k3
    · rename_i m a t ks ds hs
      obtain ⟨hk, hl, k4⟩ := k3
      obtain ⟨es, vs, ra, rs⟩ := I3.slot j _ hs
      cases own_in eo es
      obtain ⟨ob, vs', p1, p2, p3⟩ := ra.put rs ry hk (rp.mono le3) hl
      exact ⟨a, _, rfl, p1, l.nx _ _ _ G3 ((le.trans le2).trans le3) (I3.write hs (show Root Z.cc G3 (upd H3 a ob) a (.dic (.bl t :: putKD ks (ri.get ρ3)) (putVD ks ds (ri.get ρ3) d)) from ⟨vs', p2, p3⟩)) k4⟩
    · exact k3.elim⟩⟩
/-! ### d.get(k, e) -/
def isDc : D → Prop
  | .dic _ _ => True
  | _ => False
def eDGet2 (wd wk we : EW) : EW := fun xk ρ K => wd xk ρ fun r1 ρ1 => isDc (r1.get ρ1) ∧ wk xk ρ1 fun r2 ρ2 => we xk ρ2 fun r3 ρ3 => pok r1 ρ3 ∧ pok r2 ρ3 ∧ match r1.get ρ3 with
  | .dic (.bl m :: ks) ds => KeyD m (r2.get ρ3) ∧ (∀ d, valD ks ds (r2.get ρ3) = some d → K (.sh d) ρ3) ∧ (valD ks ds (r2.get ρ3) = none → K r3 ρ3)
  | _ => False
/-! ### a name gives its own object away -/
def eTake (j : Nat) : EW := fun _ ρ K => match ρ[j]? with
  | some (.own false a d) => K (.fr a d) (ρ.set j .no)
  | _ => False
end
end TL

namespace TL
open PySem PySem.Spec L2
/-! ### a locked dict is let go -/
section
variable {cc : CC} {G : Hp} {d : Addr} {od : Obj} {u : HO}
end
section
variable {Z : Zone} {ρ : REnv} {G H : Hp} {σ : L2.St} {d : Addr} {od : Obj} {u : HO}
end
end TL

namespace TL
open PySem PySem.Spec L2
/-! ### a loop over a dict -/
section
variable {X : Cx} {Z : Zone} {pos : Pos} {sb : SW}
end
end TL

namespace TL
open PySem PySem.Spec L2
theorem room1 {k : Nat} {A : Around} (r : Room k A) : A.units + 1 < cLine := by have := r.un; omega
/-! ### {k: v}, both constants -/
section
variable {X : Cx} {Z : Zone} {pos : Pos}
def eDisp1 (k : Key) (d : D) : EW := fun _ ρ K => ∀ p, K (.fr p (.dic [.bl false, keyD k] [d])) ρ
end
end TL

namespace TL
open PySem PySem.Spec L2
/-! ### [elt for tg in d if t], the dict a name's own -/
section
end
section
variable {X : Cx} {Z : Zone}
end
end TL

namespace TL
open PySem L2
/-! ### a table of counts: (key, count) -/
def wsum (φ : Int → Int) (m : List (Int × Int)) : Int := (m.map fun p => p.2 * φ p.1).sum
/-- the table of a list of products -/
def Tab (m : List (Int × Int)) (L : List Int) : Prop := (m.map Prod.fst).Nodup ∧ ∀ φ : Int → Int, wsum φ m = (L.map φ).sum
theorem Tab.sum {m : List (Int × Int)} {L : List Int} (h : Tab m L) : (m.map Prod.snd).sum = (L.length : Int) := by
  have h1 := h.2 (fun _ => 1)
  have e1 : wsum (fun _ => 1) m = (m.map Prod.snd).sum := by simp [wsum]
  have e2 : ∀ L : List Int, (L.map fun _ => (1 : Int)).sum = (L.length : Int) := by
    intro L
    induction L with
    | nil => rfl
    | cons a L ih => simp only [List.map_cons, List.sum_cons, ih, List.length_cons]; omega
  rw [← e1, h1, e2]
end TL

namespace TL
open PySem L2
/-! ### a table of counts as a dict -/
end TL

namespace TL
open PySem PySem.Spec L2
/-! ### {k: v}, the key a tuple of ints and texts -/
section
variable {prog : Program} {w : World} {κ : Type} [DecidableEq κ] {knd : HeapKind prog w κ} {A : Around} {E : Value → Shared → Prop} {s : Shared}
end
/-! ### d.setdefault(y, z), keys of any kind -/
section
variable {X : Cx} {pins : List (Addr × Obj)} {σ : L2.St} {H : Hp} {s : Shared} {a : Addr} {u r : Value} {y d : V} {A : Around} {E : Value → Shared → Prop}
end
/-! ### over trees -/
section
variable {X : Cx} {Z : Zone} {a b e : Expr} {wa wb w : EW} {pos : Pos}
/-- {x: c}, x a name of a tuple, c a constant -/
def eDispN (i : Nat) (d : D) : EW := fun _ ρ K => match ρ[i]? with
  | some (.sh (.tup ks)) => (∃ kt : List Key, ks = kt.map keyD) ∧ ∀ p, K (.fr p (.dic [.bl true, .tup ks] [d])) ρ
  | _ => False
/-! ### k in d -/
def eDIn (wk wd : EW) : EW := fun xk ρ K => wk xk ρ fun r1 ρ1 => wd xk ρ1 fun r2 ρ2 => pok r1 ρ2 ∧ match r2.get ρ2 with
  | .dic (.bl m :: ks) ds => KeyD m (r1.get ρ2) ∧ K (.sh (.bl (valD ks ds (r1.get ρ2)).isSome)) ρ2
  | _ => False
def eDNotIn (wk wd : EW) : EW := fun xk ρ K => wk xk ρ fun r1 ρ1 => wd xk ρ1 fun r2 ρ2 => pok r1 ρ2 ∧ match r2.get ρ2 with
  | .dic (.bl m :: ks) ds => KeyD m (r1.get ρ2) ∧ K (.sh (.bl (!(valD ks ds (r1.get ρ2)).isSome))) ρ2
  | _ => False
/-! ### d.setdefault(k, v), d a name's own -/
def eDSetd (j : Nat) (wk wv : EW) : EW := fun xk ρ K => isOwn ρ j ∧ isDc (getL ρ j) ∧ wk xk ρ fun r2 ρ2 => wv xk ρ2 fun r3 ρ3 => stl r3 ρ3 fun z ρ4 => pok r2 ρ4 ∧ match ρ4[j]? with
  | some (.own m a (.dic (.bl t :: ks) ds)) => KeyD t (r2.get ρ4) ∧ ds.length < sizeLine ∧ (∀ d, valD ks ds (r2.get ρ4) = some d → K (.sh d) ρ4) ∧
    (valD ks ds (r2.get ρ4) = none → K (.sh z) (ρ4.set j (.own m a (.dic (.bl t :: putKD ks (r2.get ρ4)) (putVD ks ds (r2.get ρ4) z)))))
  | _ => False
end
end TL

namespace TL
open PySem PySem.Spec L2
/-! ### tuples of ints: t < u, sum(t) -/
section
variable {cc : CC}
def opSumT : D → OW
  | .tup ds => fun k => ∃ ns : List Int, ds = ns.map D.int ∧ k (.sh (.int ns.sum))
  | _ => fun _ => False
def opLtT : D → D → OW
  | .tup ds, .tup es => fun k => ∃ ns ms : List Int, ds = ns.map D.int ∧ es = ms.map D.int ∧ k (.sh (.bl (HT.lexLt ns ms)))
  | _, _ => fun _ => False
end
theorem ltT_l {ds es : List D} {k : Ro → Prop} : opLtT (.tup ds) (.tup es) k = ∃ ns ms : List Int, ds = ns.map D.int ∧ es = ms.map D.int ∧ k (.sh (.bl (HT.lexLt ns ms))) := rfl
theorem sumT_l {ds : List D} {k : Ro → Prop} : opSumT (.tup ds) k = ∃ ns : List Int, ds = ns.map D.int ∧ k (.sh (.int ns.sum)) := rfl
end TL

namespace TL
open PySem PySem.Spec L2
/-! ### sorted(xs), of tuples or lists -/
theorem vals_of_each {β : Type} {val : β → V} {bs : List β} {P : β → Prop} : ∀ {out : List Value} {cs : List β}, PySem.W.EachIs (fun u b => RelV (val b) u ∧ P b) out cs → Vals (cs.map val) out
  | _, _, .nil => .nil
  | _, _, .cons h t => .cons h.1 (vals_of_each (bs := bs) t)
theorem each_of_vals {β : Type} {val : β → V} {P : β → Prop} : ∀ {bs : List β} {its : List Value}, (∀ b ∈ bs, P b) → Vals (bs.map val) its → PySem.W.EachIs (fun u b => RelV (val b) u ∧ P b) its bs
  | [], _, _, h => by cases h; exact .nil
  | b :: bs, _, hp, h => by
    cases h with
    | cons r t => exact .cons ⟨r, hp b List.mem_cons_self⟩ (each_of_vals (fun c hc => hp c (List.mem_cons_of_mem _ hc)) t)
def rSortedD (K : PySem.W.Frag) : List V → Hp → VK → Prop := fun vs H Q => ∃ (a : Addr) (β : Type) (val : β → V) (enc : β → PyData) (bs : List β), vs = [V.ref a] ∧ SqL K H a (bs.map val) ∧ (∀ b ∈ bs, Dp K H (val b) (enc b)) ∧
  PySem.W.AllAlike (bs.map enc) ∧ PySem.W.Sortable (bs.map enc) ∧ (∀ b ∈ bs, (enc b).depth ≤ 4) ∧ ∀ p : Addr, H p = none → Q (.ref p) (upd H p (.lst ((bs.mergeSort (PySem.W.dataLe false enc)).map val)))
theorem cr_sortedD {X : Cx} (hA : X.A.units + 6 < cLine) : CallR X (.builtin "sorted") (rSortedD X.K) := by
  intro pins s σ H vs us Q I r h
  obtain ⟨a, β, val, enc, bs, rfl, hs, hd, hal, hk, hu, q⟩ := h
  obtain ⟨its, rv, hl, hz⟩ := I.list hs
  rw [Vals.ref1 r]
  have e : PySem.W.EachIs (fun u b => RelV (val b) u ∧ Dp X.K H (val b) (enc b)) its bs := each_of_vals hd rv
  refine PySem.W.sorted_data hl.isList e (e.mono fun u b h => Dp.reads I (enc b) (val b) u h.2 h.1) hal hk (by rw [List.length_map] at hz; exact hz) (fun b hb => by have := hu b hb; omega) fun out hlen ho => ?_
  obtain ⟨ep, he'⟩ := PyProof.Rows.sortedAll_at s.heap its out.toArray
  have hv := vals_of_each (bs := bs) ho
  have hl2 : ((bs.mergeSort (PySem.W.dataLe false enc)).map val).length ≤ sizeLine := by
    rw [List.length_map, List.length_mergeSort]
    rw [List.length_map] at hz
    exact hz
  exact ⟨.ref _, upd H (s.heap.objs.size + 1) (.lst ((bs.mergeSort (PySem.W.dataLe false enc)).map val)), I.laid (t' := s.toks) (fun _ _ => PyProof.Rows.sortedAll_old) (Nat.le_succ _) ⟨hl2, out, ep, hv, he'⟩, rfl, q _ (I.hok.fresh (Nat.le_succ _))⟩
section
variable {cc : CC}
def opSortD : D → OW
  | .lst ds => fun k => (∀ d ∈ ds, okD 4 d = true) ∧ PySem.W.AllAlike (ds.map pd) ∧ PySem.W.Sortable (ds.map pd) ∧ k (.fr (.lst (ds.mergeSort (PySem.W.dataLe false pd))))
  | _ => fun _ => False
theorem reps_zip {G : Hp} : ∀ {ds : List D} {vs : List V}, Reps cc G vs ds → (vs.zip ds).map Prod.fst = vs ∧ (vs.zip ds).map Prod.snd = ds ∧ ∀ p ∈ vs.zip ds, Rep cc G p.1 p.2
  | [], vs, h => by
    have := h.inv_nil
    subst this
    exact ⟨rfl, rfl, by simp⟩
  | d :: ds, vs, h => by
    obtain ⟨v, r, rfl, rv, rr⟩ := h.inv_cons
    obtain ⟨h1, h2, h3⟩ := reps_zip rr
    refine ⟨by simp only [List.zip_cons_cons, List.map_cons, h1], by simp only [List.zip_cons_cons, List.map_cons, h2], fun p hp => ?_⟩
    rw [List.zip_cons_cons] at hp
    rcases List.mem_cons.mp hp with rfl | hp
    · exact rv
    · exact h3 p hp
theorem reps_pairs {G : Hp} : ∀ {ps : List (V × D)}, (∀ p ∈ ps, Rep cc G p.1 p.2) → Reps cc G (ps.map Prod.fst) (ps.map Prod.snd)
  | [], _ => Reps.nil
  | p :: ps, h => Reps.cons (h p List.mem_cons_self) (reps_pairs fun q hq => h q (List.mem_cons_of_mem _ hq))
theorem ops_sortD {K : PySem.W.Frag} (hK : cc.K = K) : OpS1 cc opSortD fun v H Q => rSortedD K [v] H Q := by
  subst hK
  intro G H x d k Q le v _ ho fin
  cases d with
  | lst ds =>
    unfold opSortD at ho
    obtain ⟨a, vs, ea, ra, rs⟩ := v
    obtain ⟨hok, hal, hk, hq⟩ := ho
    obtain ⟨z1, z2, z3⟩ := reps_zip rs
    have em : (vs.zip ds).map (fun p => pd p.2) = ds.map pd := by
      rw [show (fun p : V × D => pd p.2) = pd ∘ Prod.snd from rfl, ← List.map_map, z2]
    have hmem : ∀ p ∈ vs.zip ds, p.2 ∈ ds := fun p hp => (List.of_mem_zip hp).2
    refine ⟨a, V × D, Prod.fst, fun p => pd p.2, vs.zip ds, by rw [ea], by rw [z1]; exact ra, fun p hp => okD_dp (hok _ (hmem p hp)) (Rep.mono le (z3 p hp)), by rw [em]; exact hal, by rw [em]; exact hk, fun p hp => (okD_lay (hok _ (hmem p hp))).2, fun p hp => ?_⟩
    refine (fin _ hq) p _ hp ⟨_, upd_same, ?_⟩
    have e2 : ds.mergeSort (PySem.W.dataLe false pd) = ((vs.zip ds).mergeSort (PySem.W.dataLe false fun p => pd p.2)).map Prod.snd := by
      rw [List.map_mergeSort (s := PySem.W.dataLe false pd), z2]
      intro p _ q _
      rfl
    rw [e2]
    exact reps_pairs fun p hp => z3 p (List.mem_mergeSort.mp hp)
  | _ => exact (show False from ho).elim
end
theorem room6 {k : Nat} {A : Around} (r : Room k A) : A.units + 6 < cLine := by have := r.un; omega
theorem sortD_l {ds : List D} {k : Ro → Prop} : opSortD (.lst ds) k = ((∀ d ∈ ds, okD 4 d = true) ∧ PySem.W.AllAlike (ds.map pd) ∧ PySem.W.Sortable (ds.map pd) ∧ k (.fr (.lst (ds.mergeSort (PySem.W.dataLe false pd))))) := rfl
end TL

namespace TL
open PySem PySem.Spec L2
/-! ### xs <= ys, lists of ints -/
theorem dpAll_ints {K : PySem.W.Frag} {H : Hp} : ∀ ns : List Int, DpAll K H (ns.map V.int) (ns.map PyData.int)
  | [] => .nil
  | n :: ns => .cons (.int n) (dpAll_ints ns)
theorem depth_ints : ∀ ns : List Int, PyData.depthAll (ns.map PyData.int) = 0 := PySem.W.depth_ints
def rLeL (K : PySem.W.Frag) : R2 := fun x y H Q => ∃ (a b : Addr) (ns ms : List Int), x = .ref a ∧ y = .ref b ∧ SqL K H a (ns.map V.int) ∧ SqL K H b (ms.map V.int) ∧ Q (.bl (!decide (ms < ns))) H
theorem op_leL {X : Cx} (hA : X.A.units + 6 < cLine) : OpR X (compareOp .LtE) (rLeL X.K) := by
  intro pins s σ H x y v u Q I rx ry h
  obtain ⟨a, b, ns, ms, rfl, rfl, ha, hb, q⟩ := h
  obtain ⟨as, ra⟩ := Dp.reads I (.list (ns.map PyData.int)) (.ref a) v (.lst ha (dpAll_ints ns)) rx
  obtain ⟨bs, rb⟩ := Dp.reads I (.list (ms.map PyData.int)) (.ref b) u (.lst hb (dpAll_ints ms)) ry
  refine PySem.W.le_data ra rb (PySem.W.alike_ints ns ms) (by simp) ?_ ?_
  · have : (PyData.list (ns.map PyData.int)).depth ≤ 1 := by
      show PyData.depthAll (ns.map PyData.int) + 1 ≤ 1
      rw [depth_ints]; exact Nat.le_refl 1
    omega
  · have e : PySem.W.dataLt (.list (ms.map PyData.int)) (.list (ns.map PyData.int)) = decide (ms < ns) := by
      rw [PySem.W.dataLt_list]
      exact PySem.W.dataLt_ints ms ns
    rw [e]
    exact ⟨.bl _, H, I, rfl, q⟩
section
variable {cc : CC}
def opLeL : D → D → OW
  | .lst ds, .lst es => fun k => ∃ ns ms : List Int, ds = ns.map D.int ∧ es = ms.map D.int ∧ k (.sh (.bl (!decide (ms < ns))))
  | _, _ => fun _ => False
theorem ops_leL {K : PySem.W.Frag} (hK : cc.K = K) : OpS cc opLeL (rLeL K) := by
  subst hK
  intro G H x y d e k Q le v1 v2 _ _ ho fin
  unfold opLeL at ho
  split at ho
  · obtain ⟨a, vs, ea, ra, rs⟩ := v1
    obtain ⟨b, us, eb, rb, qs⟩ := v2
    obtain ⟨ns, ms, rfl, rfl, hk⟩ := ho
    have e1 := rs.ints
    have e2 := qs.ints
    subst e1 e2
    exact ⟨a, b, ns, ms, ea, eb, ra, rb, (fin _ hk).1 _ rep_bl⟩
  · exact ho.elim
end
end TL

namespace PySem
open Sem (wp)
section
variable {M : Model} {A : Around} {E : Value → Shared → Prop} {s : Shared}
theorem wpAny_inplaceOp_seqI {a b : Value} {T id : String} {Q : Value → Shared → Prop} (ha : s.TypeIs a T) (hb : s.TypeIs b T)
    (hi : typeLookup (.type T) (dunderI "add") = pure (some (.builtin id))) (hs : isSeqSlot (some (.builtin id)) = true) (hfill : fillsNumberSlot (.type T) "add" = pure false)
    (hc : wpAny M A (call (.builtin id) [a, b]) Q E s) : wpAny M A (inplaceOp .Add a b) Q E s := by
  unfold inplaceOp
  refine wpAny_holding ?_
  have hfi : fillsInplaceSlot (.type T) "add" (Operator.Add == .Add) = pure false := by
    unfold fillsInplaceSlot
    show (typeLookup (.type T) (dunderI "add") >>= fun fi => pure (fi.isSome && !isSeqSlot fi)) = pure false
    rw [hi]
    simp only [pure_bind, hs, Bool.not_true, Bool.and_false]
  have hsi : seqSlot? (.type T) (dunderI "add") = pure (some (.builtin id)) := seqSlot_of hi hs
  refine wpAny_bind (wpAny_typeOf ha (wpAny_bind (wpAny_of_eq hfi ?_)))
  show wpAny M A (if false = true then _ else _) Q E s
  rw [if_neg Bool.false_ne_true]
  refine wpAny_bind (wpAny_binaryOp1_none (nm := "add") ha hb hfill ?_)
  refine wpAny_bind (wpAny_of_eq hsi ?_)
  exact wpAny_bind (wpAny_rule hc)
end
end PySem
namespace TL
open PySem PySem.Spec L2
/-! ### xs += a new list -/
def ipL : TIp := fun x y H Q => ∃ l b xs zs, x = .ref l ∧ y = .ref b ∧ H l = some (.lst xs) ∧ H b = some (.lst zs) ∧ xs.length + zs.length ≤ sizeLine ∧ Q (.ref l) (upd H l (.lst (xs ++ zs)))
theorem ip_addL {X : Cx} : PIp X .Add ipL := by
  intro pins s σ H x y v u Q I r1 r2 h
  obtain ⟨l, b, xs, zs, rfl, rfl, hH, hB, hz, q⟩ := h
  cases r1
  cases r2
  obtain ⟨z, its, n, r, hl, e⟩ := I.lstM hH
  obtain ⟨z2, its2, n2, r2, hl2, e2⟩ := I.lstM hB
  have hsz : its.toArray.size + its2.toArray.size ≤ sizeLine := by rw [List.size_toArray, List.size_toArray]; omega
  have hlong : ¬ (!its.toArray.isEmpty && Builtin.List.listTooLong (its.toArray.size + its2.toArray.size)) = true := by
    rw [notLongL hsz, Bool.and_false]
    exact Bool.false_ne_true
  refine wpAny_inplaceOp_seqI (T := "list") ⟨_, e, rfl⟩ ⟨_, e2, rfl⟩ F.slot_list_iadd.lookup (by decide +kernel) noFill_list_add ?_
  refine call_meets F.slot_list_iadd ⟨_, e, rfl⟩ F.entry_list_iadd (F.args_list_iadd_2 _ _)
    (AutoSeq1.list___iadd___list_list_0 l its.toArray n b its2.toArray n2 hlong (by rw [List.size_toArray]; omega) (by omega)) ⟨e, e2, ?_⟩
  refine ⟨.ref l, _, I.lset (its' := its ++ its2) hH e (by simp) (r.append r2) ?_, rfl, q⟩
  rw [List.length_append]
  omega
section
variable {X : Cx} {Z : Zone} {e : Expr} {w : EW} {pos : Pos}
def sAugL (j : Nat) (w : EW) : SW := fun xk ρ K => (∃ m a ds, ρ[j]? = some (.own m a (.lst ds))) ∧ w xk ρ fun r ρ1 => match r, ρ1[j]? with
  | .fr _ (.lst es), some (.own m a (.lst ds)) => ds.length + es.length ≤ sizeLine ∧ K.nx (ρ1.set j (.own m a (.lst (ds ++ es))))
  | _, _ => False
theorem ds_augL {j : Nat} {x : Str} {pos' : Pos} (hN : X.N.Nodup) (he : PE X e (T Z w)) (hi : X.N[j]? = some x := by rfl) (hx : Loc X.env.scope x := by first | exact Or.inl rfl | exact Or.inr rfl) (hf : X.fn x = true ∨ X.env.scope.names.lookup x = some .local := by first | exact .inl rfl | exact .inr rfl | assumption) :
    PS X (.AugAssign (.Name x pos') .Add e pos) (Ts Z (sAugL j w)) :=
  ⟨fun pins s σ H D I ⟨ρ, G, K, IR, ⟨⟨m, a, ds, hs0⟩, hk⟩, l⟩ => (ps_aug hN hi hx he ip_addL hf).run pins s σ H D I (by
    obtain ⟨es, vs, ha, rs⟩ := IR.ownL hs0
    have es := own_at (lt_len I hi) es
    refine ⟨.ref a, es, ρ, G, _, IR, hk, fun r ρ' v H' G' le I' q k2 => ?_⟩
    split at k2
    · rename_i b es2 m2 a2 ds2 hs2
      obtain ⟨es3, vs2, ha2, rs2⟩ := I'.ownL hs2
      have ea := es
      cases own_in es es3
      obtain ⟨ev, ⟨ws, hb, rw⟩, _⟩ := q
      refine ⟨a, b, vs2, ws, rfl, by rw [ev], ha2, hb, by rw [rs2.length, rw.length]; exact k2.1, ?_⟩
      have := l.nx _ _ _ G' le (I'.write hs2 (Root.lst upd_same (rs2.append rw))) k2.2
      have es4 : σ.set j (some (V.ref a)) = σ := by
        apply List.ext_getElem?
        intro i
        rw [List.getElem?_set]
        split
        · rename_i hij
          subst hij
          rw [ea, if_pos (List.getElem?_eq_some_iff.mp ea).1]
        · rfl
      show D.nx (σ.set j (some (V.ref a))) _
      rw [es4]
      exact this
    · exact k2.elim)⟩
end
end TL

namespace TL
open PySem PySem.Spec L2
/-! ### len(set(xs)), xs tuples of ints -/
def rLenSetT (K : PySem.W.Frag) : V → Hp → VK → Prop := fun x H Q => ∃ (l : Addr) (ks : List (Addr × List Int)), x = V.ref l ∧ SqL K H l (ks.map fun p => V.ref p.1) ∧ (∀ p ∈ ks, SqT K H p.1 (p.2.map V.int)) ∧ ks.length < 64 ∧
  ∀ L : List (List Int), L.Nodup → (∀ t, t ∈ L ↔ t ∈ ks.map (·.2)) → Q (.int L.length) H
theorem pe_lenSetT {X : Cx} {a : Expr} {ta : TE} {p p2 q pos : Pos} (hc : X.calm = true) (hA : X.A.units + 6 < cLine) (hg : Gl X "len") (hm : X.mg "len" = none) (hg2 : Gl X "set") (hm2 : X.mg "set" = none) (ha : PE X a ta)
    (na : starEach [a] X.env = (false, eval a X.env) :: starEach [] X.env := by rfl) : PE X (.Call (.Name "len" p) [.Call (.Name "set" p2) [a] [] q] [] pos) (fun σ H Q => ta σ H fun x H1 => rLenSetT X.K x H1 Q) := by
  refine ⟨fun pins s σ H Q I h => ?_⟩
  refine PyProof.Rows.Call_ (ld_blt I hg hm PySem.boot_len ?_)
  refine PyProof.Rows.callWith_builtin1 (PyProof.Rows.args_cons ?_ rfl) rfl rfl
  refine PyProof.Rows.Call_ (ld_blt I hg2 hm2 PyProof.Rows.boot_set ?_)
  refine PyProof.Rows.callWith_type1 (PyProof.Rows.args_cons (thn (ha.run pins s σ H _ I h) fun v s1 ⟨x, H1, I1, r1, q1⟩ => PyProof.Rows.args_nil ?_) na) na rfl
  obtain ⟨l, ks, rfl, hq, hk, hf, q1⟩ := q1
  cases r1
  obtain ⟨its, r, pl, hz⟩ := I1.list hq
  refine call_set_tups (P := X.prog) (w := X.w) ks (I1.ok.hd hc) pl.isList (by simpa using refs_of_vals r) (fun p hp => I1.isT (hk p hp)) hf (by omega) fun h' tk L es ep t R g k => ?_
  refine PyProof.Rows.args_nil ?_
  obtain ⟨o, ho, hex, hd⟩ := R.ob
  have I2 : Inv X pins σ H1 { s1 with heap := h', toks := tk } := I1.kept fun b o e => k b o e
  have hsz : es.size = (L.map (·.2)).length := by
    have h := congrArg List.length R.rows
    unfold rowsOf at h
    rw [Array.length_toList, List.length_map] at h
    rw [h, List.length_map]
  refine call_len_set ho hex hd (SetTR.fits (s := { s1 with heap := h', toks := tk }) R) (by have := R.few; rw [hsz, List.length_map]; omega) ⟨.int (L.map (·.2)).length, H1, I2.tok _, ⟨_, by rw [hsz]⟩, q1 (L.map (·.2)) R.nd fun t => ⟨fun h => ?_, fun h => ?_⟩⟩
  · obtain ⟨p, hp, rfl⟩ := List.mem_map.mp h
    exact List.mem_map.mpr ⟨p, List.mem_of_mem_take (g.sub p hp), rfl⟩
  · obtain ⟨p, hp, rfl⟩ := List.mem_map.mp h
    exact g.all p (by rw [List.take_length]; exact hp)
section
variable {cc : CC}
def opLenSetT : D → OW
  | .lst ds => fun k => ∃ ns : List (List Int), ds = ns.map (fun t => D.tup (t.map D.int)) ∧ ns.length < 64 ∧ ∀ L : List (List Int), L.Nodup → (∀ t, t ∈ L ↔ t ∈ ns) → k (.sh (.int L.length))
  | _ => fun _ => False
theorem rep_tups {G H : Hp} (le : LE G H) : ∀ {ns : List (List Int)} {vs : List V}, Reps cc G vs (ns.map fun t => D.tup (t.map D.int)) → ∃ ks : List (Addr × List Int), vs = ks.map (fun p => V.ref p.1) ∧ ks.map (·.2) = ns ∧ ∀ p ∈ ks, SqT cc.K H p.1 (p.2.map V.int)
  | [], vs, h => ⟨[], h.inv_nil, rfl, by simp⟩
  | t :: ns, vs, h => by
    obtain ⟨v, r, rfl, rv, rr⟩ := h.inv_cons
    obtain ⟨ks, rfl, rfl, hk⟩ := rep_tups le rr
    have rv := Rep.mono le rv
    unfold Rep at rv
    obtain ⟨a, us, rfl, ha, ru⟩ := rv
    have e := ru.ints
    subst e
    refine ⟨(a, t) :: ks, rfl, rfl, fun p hp => ?_⟩
    rcases List.mem_cons.mp hp with rfl | hp
    · exact SqT.of ha
    · exact hk p hp
theorem ops_lenSetT {K : PySem.W.Frag} (hK : cc.K = K) : OpS1 cc opLenSetT (rLenSetT K) := by
  subst hK
  intro G H x d k Q le v _ ho fin
  cases d with
  | lst ds =>
    unfold opLenSetT at ho
    obtain ⟨a, vs, ea, ra, rs⟩ := v
    obtain ⟨ns, rfl, hl, hk⟩ := ho
    obtain ⟨ks, rfl, hks, hq⟩ := rep_tups le rs
    refine ⟨a, ks, by rw [ea], ra, hq, by rw [← hks, List.length_map] at hl; exact hl, fun L hL hm => (fin _ (hk L hL fun t => by rw [hm, hks])).1 _ rep_int⟩
  | _ => exact (show False from ho).elim
end
section
variable {X : Cx} {Z : Zone} {a : Expr} {w : EW} {p p2 q pos : Pos}
theorem de_lenSetT (hc : X.calm = true) (hA : X.A.units + 6 < cLine) (hK : Z.cc.K = X.K) (hm : X.mg "len" = none) (hm2 : X.mg "set" = none) (ha : PE X a (T Z w)) (hg : Gl X "len" := by rfl) (hg2 : Gl X "set" := by rfl)
    (na : starEach [a] X.env = (false, eval a X.env) :: starEach [] X.env := by rfl) : PE X (.Call (.Name "len" p) [.Call (.Name "set" p2) [a] [] q] [] pos) (T Z (eUn opLenSetT w)) :=
  pvia (pe_lenSetT hc hA hg hm hg2 hm2 ha na) (via_un (ops_lenSetT hK))
theorem lenSet_l {ds : List D} {k : Ro → Prop} : opLenSetT (.lst ds) k = ∃ ns : List (List Int), ds = ns.map (fun t => D.tup (t.map D.int)) ∧ ns.length < 64 ∧ ∀ L : List (List Int), L.Nodup → (∀ t, t ∈ L ↔ t ∈ ns) → k (.sh (.int L.length)) := rfl
end
end TL

/-! Ghosts: roots of no name, behind the frame. A list of lists that are changed holds `.ptr`s to them. -/
namespace TL
open PySem PySem.Spec L2

section
variable {Z : Zone} {ρ : REnv} {G H : Hp} {σ : L2.St}
theorem set_sameO {σ : L2.St} {j : Nat} {x : Option V} (h : σ[j]? = some x) : σ.set j x = σ := by
  obtain ⟨hj, e⟩ := List.getElem?_eq_some_iff.mp h
  rw [← e]
  exact List.set_getElem_self hj
theorem SR.drop (I : SR Z ρ G σ H) (j : Nat) : SR Z (ρ.set j .no) G σ H := by
  refine ⟨by simpa using I.len, I.sub, fun i s q => ?_, fun i k m n b x c y q1 q2 hn => ?_, fun i m b x q => ?_, I.ent, fun i m b x q => ?_, I.gnew, I.g0, I.mout, I.mux⟩
  · rcases get_set q with ⟨rfl, rfl⟩ | ⟨_, q⟩
    · trivial
    · exact I.slot i s q
  · rcases get_set q1 with ⟨_, q1⟩ | ⟨_, q1⟩
    · cases q1
    · rcases get_set q2 with ⟨_, q2⟩ | ⟨_, q2⟩
      · cases q2
      · exact I.inj i k m n b x c y q1 q2 hn
  · rcases get_set q with ⟨_, q⟩ | ⟨_, q⟩
    · cases q
    · exact I.out i m b x q
  · rcases get_set q with ⟨_, q⟩ | ⟨_, q⟩
    · cases q
    · exact I.frs i m b x q
/-- the roots behind are forgotten -/
theorem SR.cut (I : SR Z ρ G σ H) {n : Nat} (hn : Z.n ≤ n) : SR Z (ρ.take n) G σ H := by
  have tk : ∀ {i : Nat} {s : Sl}, (ρ.take n)[i]? = some s → ρ[i]? = some s := fun {i s} h => by
    rw [List.getElem?_take] at h
    split at h
    · exact h
    · cases h
  have len := I.len
  exact ⟨⟨len.1, by rw [List.length_take]; omega⟩, I.sub, fun i s q => I.slot i s (tk q), fun i k m n b x c y q1 q2 hn => I.inj i k m n b x c y (tk q1) (tk q2) hn, fun i m b x q => I.out i m b x (tk q), I.ent, fun i m b x q => I.frs i m b x (tk q), I.gnew, I.g0, I.mout, I.mux⟩
theorem own_fr (I : SR Z ρ G σ H) {j : Nat} {a : Addr} {d : D} (h : ρ[j]? = some (.own false a d)) : FrOk Z (ρ.set j .no) G H a d := by
  have fr := I.frs j _ a d h
  simp only [Bool.false_eq_true, if_false] at fr
  refine ⟨(I.slot j _ h).2, I.out j _ a d h, fun i m b e q => ?_, fr.1, fr.2⟩
  rcases get_set q with ⟨_, q⟩ | ⟨hi, q⟩
  · cases q
  · exact I.inj i j m false b e a d q h hi
theorem one_get {α : Type} {x y : α} {i : Nat} (h : [x][i]? = some y) : x = y ∧ i = 0 := by
  cases i with
  | zero => exact ⟨Option.some.inj h, rfl⟩
  | succ i => simp at h
theorem SR.push (I : SR Z ρ G σ H) {a : Addr} {d : D} (h : FrOk Z ρ G H a d) : SR Z (ρ ++ [.own false a d]) G σ H :=
  I.addGs (as := [a]) (ds := [d]) (by simp) fun i b e h1 h2 => by
    obtain ⟨rfl, _⟩ := one_get h1
    obtain ⟨rfl, _⟩ := one_get h2
    exact h
theorem fr_notin (h : FrOk Z ρ G H a d) : a ∉ owns ρ := fun hm => by
  obtain ⟨i, p, d, hs⟩ := owns_mem.mp hm
  exact h.2.2.1 i p a d hs rfl
end

section
variable {X : Cx} {Z : Zone} {e a b : Expr} {w wa wb wx : EW} {pos : Pos}
/-! ### a new root is kept as a ghost -/
def keepK (r : Rv) (ρ : REnv) (K : Rv → REnv → Prop) : Prop := match r with
  | .fr a d => a ∉ owns ρ → K (.sh (.ptr a)) (ρ ++ [.own false a d])
  | .loc i => match ρ[i]? with
    | some (.own false a d) => K (.sh (.ptr a)) (ρ.set i (.sh (.ptr a)) ++ [.own false a d])
    | some (.sh d) => K (.sh d) ρ
    | _ => False
  | .sh d => K (.sh d) ρ
  | .gh _ a => K (.sh (.ptr a)) ρ
  | .gx _ _ _ => False
def eKeep (w : EW) : EW := fun xk ρ K => w xk ρ fun r ρ1 => keepK r ρ1 K
theorem SR.kept {ρ : REnv} {G H : Hp} {σ : L2.St} {r : Rv} {v : V} {K : Rv → REnv → Prop} (I : SR Z ρ G σ H) (q : RvOk Z r ρ G σ H v) (h : keepK r ρ K) : ∃ d ρ', SR Z ρ' G σ H ∧ Rep Z.cc G v d ∧ K (.sh d) ρ' := by
  unfold keepK at h
  cases r with
  | sh d => exact ⟨d, ρ, I, q, h⟩
  | gh j a => exact ⟨.ptr a, ρ, I, by unfold Rep; exact q.1, h⟩
  | gx as cs t => exact h.elim
  | fr a d =>
    obtain ⟨rfl, q⟩ := q
    exact ⟨.ptr a, _, I.push q, by unfold Rep; rfl, h (fr_notin q)⟩
  | loc i =>
    obtain ⟨ev, _⟩ := q
    cases hs : ρ[i]? with
    | none => simp only [hs] at h
    | some s =>
      simp only [hs] at h
      have so := I.slot i s hs
      cases s with
      | no => exact h.elim
      | sh d =>
        obtain ⟨u, eu, r⟩ := so
        rw [ev] at eu; cases eu
        exact ⟨d, ρ, I, r, h⟩
      | own m a d =>
        cases m with
        | true => exact h.elim
        | false =>
          have e := own_in ev so.1
          subst e
          have rp : Rep Z.cc G (.ref a) (.ptr a) := by unfold Rep; rfl
          have I2 : SR Z (ρ.set i (.sh (.ptr a))) G σ H := by
            have := I.put (i := i) (v := .ref a) (List.getElem?_eq_some_iff.mp ev).1 rp
            rw [set_sameO ev] at this
            exact this
          have f := own_fr I hs
          refine ⟨.ptr a, _, I2.push ⟨f.1, f.2.1, fun j p b x q => ?_, f.2.2.2.1, f.2.2.2.2⟩, rp, h⟩
          rcases get_set q with ⟨_, q⟩ | ⟨hj, q⟩
          · cases q
          · exact I.inj j i p false b x a d q hs hj
/-! ### a ghost becomes a new root again -/
def eAd (w : EW) : EW := fun xk ρ K => w xk ρ fun r ρ1 => match r with
  | .fr a d => K (.fr a d) ρ1
  | r => match r.get ρ1 with
    | .ptr a => ∃ j d, ρ1[j]? = some (.own false a d) ∧ K (.fr a d) (ρ1.set j .no)
    | _ => False
/-! ### a pointer is followed -/
def eDr (w : EW) : EW := fun xk ρ K => w xk ρ fun r ρ1 => match r.get ρ1 with
  | .ptr a => ∃ j, (∃ p d, ρ1[j]? = some (.own p a d)) ∧ K (.gh j a) ρ1
  | _ => False
/-! ### all that is within is seen through, for a comparison -/
def eBinG (op : D → D → OW) (wa wb : EW) : EW := fun xk ρ K => wa xk ρ fun r1 ρ1 => wb xk ρ1 fun r2 ρ2 => pok r1 ρ2 ∧ ∃ d e, Vw (gP ρ2) (r1.get ρ2) d ∧ Vw (gP ρ2) (r2.get ρ2) e ∧
  op d e fun o => ∃ b, o = .sh (.bl b) ∧ K (.sh (.bl b)) ρ2
theorem Vw.repH {L : List (Addr × D)} {cc : CC} {G H : Hp} {d e : D} {v : V} (hL : ∀ a d, (a, d) ∈ L → Root cc G H a d) (le : LE G H) (h : Vw L d e) (r : Rep cc H v d) : Rep cc H v e :=
  h.sound (LE.refl H) (fun a d hm => (hL a d hm).mono le) v r
end
end TL

/-! Ghosts: changed in place, given up, handed back, handed in. -/
namespace TL
open PySem PySem.Spec L2

section
variable {X : Cx} {Z : Zone} {e a b : Expr} {w wa wb wx : EW} {pos : Pos}
/-! ### changed in place -/
def sAppE (wx w : EW) : SW := fun xk ρ K => wx xk ρ fun r ρ1 => match r with
  | .gh j a => (∃ m ds, ρ1[j]? = some (.own m a (.lst ds))) ∧ w xk ρ1 fun r2 ρ2 => stl r2 ρ2 fun d ρ3 => match ρ3[j]? with
    | some (.own m b (.lst ds)) => b = a ∧ ds.length < sizeLine ∧ K.nx (ρ3.set j (.own m b (.lst (ds ++ [d]))))
    | _ => False
  | _ => False
def sRevE (wx : EW) : SW := fun xk ρ K => wx xk ρ fun r ρ1 => match r with
  | .gh j a => match ρ1[j]? with
    | some (.own m b (.lst ds)) => b = a ∧ K.nx (ρ1.set j (.own m b (.lst ds.reverse)))
    | _ => False
  | _ => False
def sPopE (wx : EW) : SW := fun xk ρ K => wx xk ρ fun r ρ1 => match r with
  | .gh j a => match ρ1[j]? with
    | some (.own m b (.lst ds)) => b = a ∧ ds ≠ [] ∧ K.nx (ρ1.set j (.own m b (.lst ds.dropLast)))
    | _ => False
  | _ => False
end

/-! ### ghosts are given up to what is known -/
/-- the roots of one's own, with their trees -/
def gF : REnv → List (Addr × D)
  | [] => []
  | .own false a d :: ρ => (a, d) :: gF ρ
  | _ :: ρ => gF ρ
section
variable {Z : Zone} {ρ : REnv} {G H : Hp} {σ : L2.St}
end
def fzK (n : Nat) (r : Rv) (ρ : REnv) (K : Rv → REnv → Prop) : Prop := match r with
  | .sh d => ∃ e, Vw (gF (ρ.drop n)) d e ∧ K (.sh e) (ρ.take n)
  | .fr a d => ∃ e, Vw (gF (ρ.drop n)) d e ∧ K (.fr a e) (ρ.take n)
  | .gh _ a => ∃ e, Vw (gF (ρ.drop n)) (.ptr a) e ∧ K (.sh e) (ρ.take n)
  | .loc i => match ρ[i]? with
    | some (.sh d) => ∃ e, Vw (gF (ρ.drop n)) d e ∧ K (.sh e) (ρ.take n)
    | some (.own false a d) => ∃ e, Vw (gF ((ρ.set i .no).drop n)) d e ∧ K (.fr a e) ((ρ.set i .no).take n)
    | _ => False
  | .gx _ _ _ => False
def eFz (n : Nat) (w : EW) : EW := fun xk ρ K => w xk ρ fun r ρ1 => fzK n r ρ1 K
section
variable {X : Cx} {Z : Zone} {e a b : Expr} {w wa wb wx : EW} {pos : Pos}
/-! ### ghosts are handed back with a result -/
def ePk (n : Nat) (w : EW) : EW := fun xk ρ K => w xk ρ fun r ρ1 => match r with
  | .sh t => ∃ as cs, as.length = cs.length ∧ List.Sublist (as.zip cs) (gF (ρ1.drop n)) ∧ K (.gx as cs t) (ρ1.take n)
  | _ => False
end
/-! ### a call that is handed ghosts -/
section
variable {X : Cx} {Z : Zone} {C : Ccs} {k : Nat} {f : Addr} {fd : FuncData} {ps : List Str} {sp : FSpec} {aw : AgW} {x : Str} {p pos : Pos} {e : Expr} {es : List Expr}
def eCallG (np : Nat) (sp : FSpec) (aw : AgW) : EW := fun xk ρ K => aw xk ρ fun gs ρ1 => gs.length = np ∧ ∃ js : List Nat, callK sp (gs ++ js.map .gg) ρ1 xk K
end
end TL

namespace TL
open PySem PySem.Spec L2
/-! ### len(set(xs)), xs integers -/
section
variable {cc : CC}
end
section
variable {X : Cx} {Z : Zone} {a : Expr} {w : EW} {p p2 q pos : Pos}
end
end TL

/-! Ghosts: what the walks over trees rewrite with. -/
namespace TL
open PySem PySem.Spec L2
section
variable {ρ : REnv} {j i n : Nat} {a : Addr} {d : D} {K : Rv → REnv → Prop} {K1 : D → REnv → Prop} {as : List Addr} {cs : List D}
theorem get_gh : (Rv.gh j a).get ρ = getL ρ j := rfl
theorem stl_gh : stl (.gh j a) ρ K1 = K1 (.ptr a) ρ := rfl
theorem pok_gh : pok (.gh j a) ρ = ∃ p d, ρ[j]? = some (.own p a d) := rfl
theorem keep_fr : keepK (.fr a d) ρ K = (a ∉ owns ρ → K (.sh (.ptr a)) (ρ ++ [.own false a d])) := rfl
theorem keep_sh : keepK (.sh d) ρ K = K (.sh d) ρ := rfl
theorem keep_gh : keepK (.gh j a) ρ K = K (.sh (.ptr a)) ρ := rfl
theorem keep_loc : keepK (.loc i) ρ K = match ρ[i]? with
    | some (.own false a d) => K (.sh (.ptr a)) (ρ.set i (.sh (.ptr a)) ++ [.own false a d])
    | some (.sh d) => K (.sh d) ρ
    | _ => False := rfl
theorem fz_sh : fzK n (.sh d) ρ K = ∃ e, Vw (gF (ρ.drop n)) d e ∧ K (.sh e) (ρ.take n) := rfl
theorem fz_fr : fzK n (.fr a d) ρ K = ∃ e, Vw (gF (ρ.drop n)) d e ∧ K (.fr a e) (ρ.take n) := rfl
theorem fz_gh : fzK n (.gh j a) ρ K = ∃ e, Vw (gF (ρ.drop n)) (.ptr a) e ∧ K (.sh e) (ρ.take n) := rfl
theorem fz_loc : fzK n (.loc i) ρ K = match ρ[i]? with
    | some (.sh d) => ∃ e, Vw (gF (ρ.drop n)) d e ∧ K (.sh e) (ρ.take n)
    | some (.own false a d) => ∃ e, Vw (gF ((ρ.set i .no).drop n)) d e ∧ K (.fr a e) ((ρ.set i .no).take n)
    | _ => False := rfl
theorem ghs_nil : ghs [] cs = [] := by unfold ghs; rfl
theorem ghs_cons {c : D} : ghs (a :: as) (c :: cs) = .own false a c :: ghs as cs := by unfold ghs; rfl
end
end TL

namespace TL
open PySem PySem.Spec L2
/-- behind a statement the ghosts are forgotten -/
def sCut (n : Nat) (s : SW) : SW := fun xk ρ K => s xk ρ { K with nx := fun ρ' => K.nx (ρ'.take n) }
end TL

namespace TL
open PySem PySem.Spec PySem.Calls PyProof.Rows L2
/-! ### xs[l::k], l and k constants -/
end TL

namespace TL
open PySem PySem.Spec L2
/-! ### a call that is lent an own list and gives back other lists, of other lengths -/
section
variable {Z : Zone} {ρ : REnv} {G H : Hp} {σ : L2.St}
end
section
variable {X : Cx} {Z : Zone} {C : Ccs} {k : Nat} {f : Addr} {fd : FuncData} {ps : List Str} {sp : FSpec} {aw : AgW} {x : Str} {p pos : Pos} {e : Expr} {es : List Expr}
end
end TL

namespace TL
open PySem PySem.Spec L2
/-! ### range(i, j, c) -/
section
variable {X : Cx} {Z : Zone}
end
end TL

namespace TL
open PySem PySem.Spec L2
/-! ### max(xs, default=d), xs integers -/
end TL

namespace TL
open PySem PySem.Spec L2
/-! ### xs.count(k), xs integers -/
section
variable {X : Cx} {Z : Zone} {a b : Expr} {wa wb : EW}
end
end TL

/-! a != b, where a's class has an == of its own and no !=. -/
namespace TL
open PySem PySem.Spec L2
open PySem.W (findIn isFn mroIn notFirst InstAt)
section
variable {prog : Program} {w : World} {A : Around} {E : Value → Shared → Prop} {s : Shared} {K : PySem.W.Frag} {x C L f : Addr} {h₀ : Heap} {m : Str → Option Value} {ox : Obj} {od : Option Obj} {b tb : Value}
end
section
variable {X : Cx} {Z : Zone} {C : Ccs} {c k np : Nat} {fa : Addr} {fd : FuncData} {ps ks : List Str} {sp : FSpec} {e a b : Expr} {w wa wb : EW} {pos : Pos}
def neK (K : Rv → REnv → Prop) : Rv → REnv → Prop := fun r ρ => ∃ c, r = .sh (.bl c) ∧ K (.sh (.bl (!c))) ρ
def eNe2 (c : Nat) (sp : FSpec) (wa wb : EW) : EW := eTwo wa wb fun d1 d2 xk ρ K => isObj c d1 ∧ isObj c d2 ∧ callK sp [.ro d1, .ro d2] ρ xk (neK K)
end
end TL

/-! xs * n, xs any list. -/
namespace TL
open PySem PySem.Spec L2
open MeetsSeq MeetsSeq2 MeetsSeq3 in
theorem mul_list_sl (l : Addr) (items : Array Value) (n : Nat) (sl : Array (Option Value)) (x : Int) (u : Tok) (hc0 : ¬(!Builtin.List.listFitsIndex x) = true) (hc1 : ¬items.size * x.toNat > (2 ^ 63 - 1) / 8) (hc2 : ¬Builtin.List.listTooLong (items.size * x.toNat) = true) :
    Meets (Builtin.«list.__mul__» ⟨[.ref l, .int x u], []⟩) (fun _ R s => s.heap.get? l = some { cls := .type "list", dict := none, data := .seq items n, slots := sl } ∧ R (.ok (.ret (Value.ref s.heap.objs.size))) { s with heap := s.heap.push { cls := Value.type "list", data := Data.seq (List.foldl (fun x1 x2 => x1 ++ x2) #[] (List.replicate (if items.isEmpty = true then 0 else x.toNat) items)) }, toks := s.toks }) :=
  .of_wp fun prog w A R s h => by
    obtain ⟨hp, g, d, tk, os⟩ := s; obtain ⟨hl, h⟩ := h
    have hsz := AutoListH.joined_fits hc2
    wp_walk; refine wpAny_ite_false (decide_eq_false (Nat.not_lt.mpr hsz)) ?_; wp_walk; exact ⟨_, rfl, h⟩
theorem rmul_int_sl (a : Int) (t : Tok) (l : Addr) (items : Array Value) (n : Nat) (sl : Array (Option Value)) :
    Meets (Builtin.«int.__rmul__» ⟨[.int a t, .ref l], []⟩) (fun _ R s => s.heap.get? l = some { cls := .type "list", dict := none, data := .seq items n, slots := sl } ∧ R (.ok (.ret Value.notImplemented)) s) :=
  .of_wp fun prog w A R s h => by obtain ⟨hp, g, d, tk, os⟩ := s; obtain ⟨hl, h⟩ := h; wp_walk; exact ⟨_, rfl, h⟩
section
variable {X : Cx} {Z : Zone} {a b : Expr} {wa wb : EW} {pos : Pos}
def rRepS (K : PySem.W.Frag) : R2 := fun x y H Q => ∃ l k xs, x = .ref l ∧ y = .int k ∧ SqL K H l xs ∧ -(2 ^ 63) ≤ k ∧ k < 2 ^ 63 ∧ xs.length * k.toNat ≤ sizeLine ∧
  ∀ p, H p = none → Q (.ref p) (upd H p (.lst (List.replicate k.toNat xs).flatten))
theorem op_repS : OpR X (binaryOp .Mult) (rRepS X.K) := by
  intro pins s σ H x y v u Q I rx ry h
  obtain ⟨l, k, xs, rfl, rfl, hH, h1, h2, hz, q⟩ := h
  cases rx
  obtain ⟨t, rfl⟩ := ry
  obtain ⟨its, r, ⟨⟨ocls, odict, odata, oslots⟩, n, e, c1, c2, c3⟩, _⟩ := I.list hH
  simp only at c1 c2 c3
  subst c1 c2 c3
  have hl := r.length
  have hlen : its.toArray.size * k.toNat ≤ sizeLine := by rw [List.size_toArray, ← hl]; exact hz
  have hcap : ¬ its.toArray.size * k.toNat > (2 ^ 63 - 1) / 8 := by
    have : (sizeLine : Nat) ≤ (2 ^ 63 - 1) / 8 := by decide
    omega
  have hfit : ¬ (!Builtin.List.listFitsIndex k) = true := by
    rw [fitsIndex_both h1 h2]
    exact Bool.false_ne_true
  have hlong : ¬ Builtin.List.listTooLong (its.toArray.size * k.toNat) = true := by
    rw [notLongL hlen]
    exact Bool.false_ne_true
  have hnew : List.foldl (fun x1 x2 => x1 ++ x2) #[] (List.replicate (if its.toArray.isEmpty = true then 0 else k.toNat) its.toArray) = (List.replicate k.toNat its).flatten.toArray := by
    have f0 : ∀ m : Nat, List.foldl (fun x1 x2 => x1 ++ x2) #[] (List.replicate m its.toArray) = (List.replicate m its).flatten.toArray := fun m => by
      have := foldl_rep its m []
      rw [List.nil_append] at this
      exact this
    rw [f0]
    cases its with
    | nil => simp
    | cons a r' => rw [if_neg (by simp)]
  refine wpAny_binaryOp_repeat_ref (T := "list") (U := "int") (by decide) ⟨_, e, rfl⟩ (fun s' => typeIs_int s' k t) noFill_list_mul F.fills_int_mul F.slot_int_rmul repeat_list F.slot_int_index.lookup
    (call_meets F.slot_int_rmul (typeIs_int s k t) F.entry_int_rmul (F.args_int_rmul_2 _ _) (rmul_int_sl k t l its.toArray n oslots)
      ⟨e, rfl, ⟨_, e, rfl⟩, call_meets F.slot_list_mul ⟨_, e, rfl⟩ F.entry_list_mul (F.args_list_mul_2 _ _) (mul_list_sl l its.toArray n oslots k t hfit hcap hlong) ⟨e, ?_⟩⟩)
  rw [hnew]
  exact ⟨.ref _, _, I.lnew (t' := s.toks) (r.rep k.toNat) (by rw [PyProof.Rows.lm_len_rep_flat, Nat.mul_comm]; exact hz), rfl, q _ I.fresh⟩
/-- xs * n, a new list -/
def opRep : D → D → OW
  | .lst ds, .int k => fun K => (-(2 ^ 63) ≤ k ∧ k < 2 ^ 63 ∧ ds.length * k.toNat ≤ sizeLine) ∧ K (.fr (.lst (List.replicate k.toNat ds).flatten))
  | _, _ => fun _ => False
theorem rep_l {ds : List D} {k : Int} {K : Ro → Prop} : opRep (.lst ds) (.int k) K = ((-(2 ^ 63) ≤ k ∧ k < 2 ^ 63 ∧ ds.length * k.toNat ≤ sizeLine) ∧ K (.fr (.lst (List.replicate k.toNat ds).flatten))) := rfl
theorem ops_rep {cc : CC} {K : PySem.W.Frag} (hK : cc.K = K) : OpS cc opRep (rRepS K) := by
  subst hK
  intro G H x y d e k Q le v1 v2 _ _ ho fin
  unfold opRep at ho
  split at ho
  · obtain ⟨a, vs, ea, ra, rs⟩ := v1
    obtain ⟨⟨h1, h2, h3⟩, hk⟩ := ho
    have ey : y = _ := v2
    subst ey
    refine ⟨a, _, vs, by rw [ea], rfl, ra, h1, h2, by rw [rs.length]; exact h3, fun p hp => ?_⟩
    exact fin _ hk p _ hp ⟨_, upd_same, rs.rep _⟩
  · exact ho.elim
end
end TL

namespace TL
open PySem PySem.Spec L2
/-! ### min(t), t a tuple of integers -/
def opMinT : D → OW
  | .tup ds => fun k => ∃ ns : List Int, ds = ns.map D.int ∧ 0 < ns.length ∧ ∀ m, m ∈ ns → (∀ y, y ∈ ns → m ≤ y) → k (.sh (.int m))
  | _ => fun _ => False
theorem minT_t {ds : List D} {k : Ro → Prop} : opMinT (.tup ds) k = ∃ ns : List Int, ds = ns.map D.int ∧ 0 < ns.length ∧ ∀ m, m ∈ ns → (∀ y, y ∈ ns → m ≤ y) → k (.sh (.int m)) := rfl
end TL

namespace TL
open PySem PySem.Spec L2
/-! ### xs < ys, lists of ints -/
section
variable {cc : CC}
def opLtL : D → D → OW
  | .lst ds, .lst es => fun k => ∃ ns ms : List Int, ds = ns.map D.int ∧ es = ms.map D.int ∧ k (.sh (.bl (decide (ns < ms))))
  | _, _ => fun _ => False
end
theorem ltL_l {ds es : List D} {k : Ro → Prop} : opLtL (.lst ds) (.lst es) k = ∃ ns ms : List Int, ds = ns.map D.int ∧ es = ms.map D.int ∧ k (.sh (.bl (decide (ns < ms)))) := rfl
end TL

namespace TL
open PySem PySem.Spec L2
/-! ### len(d), d a dict whose keys are tuples -/
def rLenDT : List V → Hp → VK → Prop := fun xs H Q => ∃ (p : Addr) (kvs : List (List Key × V)), xs = [.ref p] ∧ Rd H p (.dT kvs) ∧ Q (.int ((kvs.length : Nat) : Int)) H
theorem call_lenDT {X : Cx} : CallR X (.builtin "len") rLenDT := by
  intro pins s σ H xs us Q I r h
  obtain ⟨p, kvs, rfl, hp, q⟩ := h
  obtain ⟨u, rfl, rx⟩ := vals1 r
  obtain rfl : u = .ref p := rx
  obtain ⟨z, hd, ys, rel, dd⟩ := dt_rd I.hok hp
  have hl : kvs.length = ys.length := Paired.length rel
  refine call_len_dictH hd dd (by rw [← hl]; rw [sizeLine_eq] at z; omega) ?_
  rw [← hl]
  exact ⟨.int ((kvs.length : Nat) : Int), H, I.tok _, ⟨_, rfl⟩, q⟩
def opLenDT : D → OW
  | .dic (.bl true :: ks) ds => fun k => k (.sh (.int ds.length))
  | _ => fun _ => False
theorem ops_lenDT {cc : CC} : OpS1 cc opLenDT fun v H Q => rLenDT [v] H Q := by
  intro G H x d k Q le v _ ho fin
  unfold opLenDT at ho
  split at ho
  · obtain ⟨a, vs, ea, ra, rs⟩ := v
    have hn := rs.length
    rcases ra with ⟨kk, e, _⟩ | ⟨kt, e, h2, h3, h4⟩
    · cases e
    · refine ⟨a, kt.zip vs, by rw [ea], h4, ?_⟩
      have hz : (kt.zip vs).length = vs.length := by rw [List.length_zip, h2, Nat.min_self]
      rw [hz, hn]
      exact (fin _ ho).1 _ rep_int
  · exact ho.elim
theorem lenDT_d {ks ds : List D} {k : Ro → Prop} : opLenDT (.dic (.bl true :: ks) ds) k = k (.sh (.int ds.length)) := rfl
end TL

namespace TL
open PySem L2
/-! ### words of defs: how they are read -/
theorem mus0 {mus : List Addr} (h : mus.length = 0) : mus = [] := List.length_eq_zero_iff.mp h
theorem mus1 {mus : List Addr} (h : mus.length = 1) : ∃ a, mus = [a] := List.length_eq_one_iff.mp h
theorem atI0 {α : Type} {x : α} {xs : List α} : L2.atI (x :: xs) 0 = some x := by
  show (ixN (xs.length + 1) 0).bind _ = _
  unfold ixN
  rw [if_pos (by omega), if_pos (by omega)]
  rfl
theorem atI1 {α : Type} {x y : α} {xs : List α} : L2.atI (x :: y :: xs) 1 = some y := by
  show (ixN (xs.length + 2) 1).bind _ = _
  unfold ixN
  rw [if_pos (by omega), if_pos (by omega)]
  rfl
theorem atI2 {α : Type} {x y z : α} {xs : List α} : L2.atI (x :: y :: z :: xs) 2 = some z := by
  show (ixN (xs.length + 3) 2).bind _ = _
  unfold ixN
  rw [if_pos (by omega), if_pos (by omega)]
  rfl
theorem atI_int {α : Type} {xs : List α} {i : Int} (h0 : 0 ≤ i) (h1 : i < xs.length) : L2.atI xs i = some (xs[i.toNat]'(by omega)) := by
  unfold L2.atI ixN
  rw [if_pos h0, if_pos h1]
  exact List.getElem?_eq_getElem (by omega)
theorem ixN0 {n : Nat} : ixN (n + 1) 0 = some 0 := by unfold ixN; rw [if_pos (by omega), if_pos (by omega)]; rfl
theorem ixN1 {n : Nat} : ixN (n + 2) 1 = some 1 := by unfold ixN; rw [if_pos (by omega), if_pos (by omega)]; rfl
theorem ixN2 {n : Nat} : ixN (n + 3) 2 = some 2 := by unfold ixN; rw [if_pos (by omega), if_pos (by omega)]; rfl
theorem some_inj_ex {α : Type} {a : α} {p : α → Prop} : (∃ d, some a = some d ∧ p d) ↔ p a := ⟨fun ⟨d, e, h⟩ => by cases e; exact h, fun h => ⟨a, rfl, h⟩⟩
theorem eqD_int {a b : Int} : eqD (.int a) (.int b) = decide (a = b) := by
  unfold eqD
  simp only [pd, PyData.eqv]
  rw [Bool.beq_eq_decide_eq]
theorem okD_int {n : Nat} {a : Int} : okD n (.int a) = true := by unfold okD; rfl
theorem setAt0 {α : Type} {x : α} : setAt [] 0 x = [x] := rfl
theorem setAt1 {α : Type} {a x : α} : setAt [a] 1 x = [a, x] := rfl
theorem setAt2 {α : Type} {a b x : α} : setAt [a, b] 2 x = [a, b, x] := rfl
theorem setAt3 {α : Type} {a b c x : α} : setAt [a, b, c] 3 x = [a, b, c, x] := rfl
/-- bits -/
def Bt (n : Nat) (x : Int) : Prop := x.natAbs.log2 < n
theorem log2_lt_of {x n : Nat} (h : x < 2 ^ n) (hn : 0 < n) : x.log2 < n := by
  by_cases h0 : x = 0
  · subst h0; simpa using hn
  · exact (Nat.log2_lt h0).mpr h
theorem Bt.of {n : Nat} {x : Int} (hn : 0 < n) (h1 : -(2 ^ n : Int) < x) (h2 : x < 2 ^ n) : Bt n x := by
  refine log2_lt_of ?_ hn
  have : ((2 ^ n : Nat) : Int) = 2 ^ n := by simp
  omega
theorem Bt.mono {n m : Nat} {x : Int} (h : Bt n x) (hm : n ≤ m) : Bt m x := Nat.lt_of_lt_of_le h hm
theorem Bt.lt {n : Nat} {x : Int} (h : Bt n x) : x.natAbs < 2 ^ n := by
  unfold Bt at h
  by_cases h0 : x.natAbs = 0
  · rw [h0]; exact Nat.two_pow_pos _
  · exact (Nat.log2_lt h0).mp h
theorem Bt.mul {n m : Nat} {x y : Int} (h : Bt n x) (k : Bt m y) : Bt (n + m) (x * y) := by
  have hn : 0 < n := Nat.zero_lt_of_lt h
  refine log2_lt_of ?_ (by omega)
  rw [Int.natAbs_mul, Nat.pow_add]
  exact Nat.mul_lt_mul'' h.lt k.lt
theorem Bt.add {n : Nat} {x y : Int} (h : Bt n x) (k : Bt n y) : Bt (n + 1) (x + y) := by
  refine log2_lt_of ?_ (by omega)
  have h1 := h.lt
  have h2 := k.lt
  rw [Nat.pow_succ]
  omega
theorem Bt.neg {n : Nat} {x : Int} (h : Bt n x) : Bt n (-x) := by unfold Bt; rw [Int.natAbs_neg]; exact h
theorem Bt.sub {n : Nat} {x y : Int} (h : Bt n x) (k : Bt n y) : Bt (n + 1) (x - y) := by rw [Int.sub_eq_add_neg]; exact h.add k.neg
theorem Bt.le {n : Nat} {x y : Int} (h : Bt n y) (k : x.natAbs ≤ y.natAbs) : Bt n x := by
  have hn : 0 < n := Nat.zero_lt_of_lt h
  exact log2_lt_of (Nat.lt_of_le_of_lt k h.lt) hn
theorem Bt.mulOk {n m : Nat} {x y : Int} (h : Bt n x) (k : Bt m y) (hm : n + m ≤ 100000000) : MulOk x y := by
  unfold MulOk
  unfold Bt at h k
  omega
theorem Bt.small {x : Int} (h1 : -(1000000000000 : Int) < x) (h2 : x < 1000000000000) : Bt 40 x := Bt.of (by omega) (by omega) (by omega)
theorem DivOk.of {n : Nat} {x : Int} (h0 : 0 < x) (h : Bt n x) (hn : n ≤ 9000) : DivOk x := ⟨h0, Nat.lt_of_lt_of_le h hn⟩

theorem out_sh {d : D} {ρ : REnv} {K : Rv → REnv → Prop} : out (.sh d) ρ K = K (.sh d) ρ := rfl
theorem out_fr {d : D} {ρ : REnv} {K : Rv → REnv → Prop} : out (.fr d) ρ K = ∀ a, K (.fr a d) ρ := rfl
theorem get_loc {i : Nat} {ρ : REnv} : Rv.get (.loc i) ρ = getL ρ i := rfl
theorem get_sh {d : D} {ρ : REnv} : Rv.get (.sh d) ρ = d := rfl
theorem get_fr {a : Addr} {d : D} {ρ : REnv} : Rv.get (.fr a d) ρ = d := rfl
theorem getL_z {d : D} {ρ : REnv} : getL (.sh d :: ρ) 0 = d := rfl
theorem getL_o {m : Bool} {a : Addr} {d : D} {ρ : REnv} : getL (.own m a d :: ρ) 0 = d := rfl
theorem getL_s {s : Sl} {i : Nat} {ρ : REnv} : getL (s :: ρ) (i + 1) = getL ρ i := by unfold getL; rw [List.getElem?_cons_succ]
theorem bound_z {d : D} {ρ : REnv} : bound (.sh d :: ρ) 0 = True := rfl
theorem bound_o {m : Bool} {a : Addr} {d : D} {ρ : REnv} : bound (.own m a d :: ρ) 0 = True := rfl
theorem bound_s {s : Sl} {i : Nat} {ρ : REnv} : bound (s :: ρ) (i + 1) = bound ρ i := by unfold bound; rw [List.getElem?_cons_succ]
theorem isOwn_o {m : Bool} {a : Addr} {d : D} {ρ : REnv} : isOwn (.own m a d :: ρ) 0 = True := rfl
theorem isOwn_s {s : Sl} {i : Nat} {ρ : REnv} : isOwn (s :: ρ) (i + 1) = isOwn ρ i := by unfold isOwn; rw [List.getElem?_cons_succ]
theorem pok_loc {i : Nat} {ρ : REnv} : pok (.loc i) ρ = bound ρ i := rfl
theorem pok_sh {d : D} {ρ : REnv} : pok (.sh d) ρ = True := rfl
theorem pok_fr {a : Addr} {d : D} {ρ : REnv} : pok (.fr a d) ρ = True := rfl
/-- what stands in a slot, for a store -/
def stlS (s : Option Sl) (i : Nat) (ρ : REnv) (K : D → REnv → Prop) : Prop := match s with
    | some (.sh d) => K d ρ
    | some (.own false _ d) => K d (ρ.set i (.sh d))
    | _ => False
theorem stl_loc {i : Nat} {ρ : REnv} {K : D → REnv → Prop} : stl (.loc i) ρ K = stlS ρ[i]? i ρ K := rfl
theorem stlS_sh {i : Nat} {d : D} {ρ : REnv} {K : D → REnv → Prop} : stlS (some (.sh d)) i ρ K = K d ρ := rfl
theorem stlS_own {i : Nat} {a : Addr} {d : D} {ρ : REnv} {K : D → REnv → Prop} : stlS (some (.own false a d)) i ρ K = K d (ρ.set i (.sh d)) := rfl
theorem stl_sh {d : D} {ρ : REnv} {K : D → REnv → Prop} : stl (.sh d) ρ K = K d ρ := rfl
theorem stl_fr {a : Addr} {d : D} {ρ : REnv} {K : D → REnv → Prop} : stl (.fr a d) ρ K = K d ρ := rfl
theorem lay_fr {i : Nat} {a : Addr} {d : D} {ρ : REnv} {K : REnv → Prop} : lay i (.fr a d) ρ K = K (ρ.set i (.own false a d)) := rfl
theorem lay_sh {i : Nat} {d : D} {ρ : REnv} {K : REnv → Prop} : lay i (.sh d) ρ K = K (ρ.set i (.sh d)) := rfl
theorem lay_loc {i j : Nat} {ρ : REnv} {K : REnv → Prop} : lay i (.loc j) ρ K = stlS ρ[j]? j ρ fun d ρ2 => K (ρ2.set i (.sh d)) := rfl
/-- a truth value -/
def tstD (d : D) (K : Bool → Prop) : Prop := match d with | .bl b => K b | _ => False
theorem tVal_eq {w : EW} : tVal w = fun xk ρ K => w xk ρ fun r ρ' => tstD (r.get ρ') fun b => K b ρ' := by
  funext xk ρ K
  unfold tVal tstD
  rfl
theorem tstD_bl {b : Bool} {K : Bool → Prop} : tstD (.bl b) K = K b := rfl
theorem add_ii {i j : Int} {k} : opAdd (.int i) (.int j) k = k (.sh (.int (i + j))) := rfl
theorem add_ss {i j : Str} {k} : opAdd (.str i) (.str j) k = (i.length + j.length ≤ sizeLine ∧ k (.sh (.str (i ++ j)))) := rfl
theorem add_ll {i j : List D} {k} : opAdd (.lst i) (.lst j) k = (i.length + j.length ≤ sizeLine ∧ k (.fr (.lst (i ++ j)))) := rfl
theorem sub_ii {i j : Int} {k} : opSub (.int i) (.int j) k = k (.sh (.int (i - j))) := rfl
theorem mul_ii {i j : Int} {k} : opMul (.int i) (.int j) k = (MulOk i j ∧ k (.sh (.int (i * j)))) := rfl
theorem fdv_ii {i j : Int} {k} : opFdv (.int i) (.int j) k = (DivOk j ∧ k (.sh (.int (i / j)))) := rfl
theorem fdvN_ii {i j : Int} {k} : opFdvN (.int i) (.int j) k = (DivOkN j ∧ k (.sh (.int (i.fdiv j)))) := rfl
theorem mod_ii {i j : Int} {k} : opMod (.int i) (.int j) k = (0 < j ∧ k (.sh (.int (i % j)))) := rfl
theorem modN_ii {i j : Int} {k} : opModN (.int i) (.int j) k = (j ≠ 0 ∧ k (.sh (.int (i.fmod j)))) := rfl
theorem pow_ii {i j : Int} {k} : opPow (.int i) (.int j) k = (CPow i j ∧ k (.sh (.int (i ^ j.toNat)))) := rfl
theorem lt_ii {i j : Int} {k} : opLt (.int i) (.int j) k = k (.sh (.bl (decide (i < j)))) := rfl
theorem le_ii {i j : Int} {k} : opLe (.int i) (.int j) k = k (.sh (.bl (decide (i ≤ j)))) := rfl
theorem gt_ii {i j : Int} {k} : opGt (.int i) (.int j) k = k (.sh (.bl (decide (j < i)))) := rfl
theorem ge_ii {i j : Int} {k} : opGe (.int i) (.int j) k = k (.sh (.bl (decide (j ≤ i)))) := rfl
theorem eq_ii {i j : Int} {k} : opEq (.int i) (.int j) k = k (.sh (.bl (decide (i = j)))) := by unfold opEq; rw [eqD_int, okD_int, okD_int]; exact propext ⟨fun h => h.2, fun h => ⟨⟨rfl, rfl⟩, h⟩⟩
theorem ne_ii {i j : Int} {k} : opNe (.int i) (.int j) k = k (.sh (.bl (!decide (i = j)))) := by unfold opNe; rw [eqD_int, okD_int, okD_int]; exact propext ⟨fun h => h.2, fun h => ⟨⟨rfl, rfl⟩, h⟩⟩
theorem ix_li {ds : List D} {i : Int} {k} : opIx (.lst ds) (.int i) k = ∃ d, L2.atI ds i = some d ∧ k (.sh d) := rfl
theorem ix_ti {ds : List D} {i : Int} {k} : opIx (.tup ds) (.int i) k = ∃ d, L2.atI ds i = some d ∧ k (.sh d) := rfl
theorem neg_i {i : Int} {k} : opNeg (.int i) k = k (.sh (.int (-i))) := rfl
theorem abs_i {i : Int} {k} : opAbs (.int i) k = k (.sh (.int (if i < 0 then -i else i))) := rfl
theorem int_i {i : Int} {k} : opInt (.int i) k = k (.sh (.int i)) := rfl
theorem int_b {i : Bool} {k} : opInt (.bl i) k = k (.sh (.int (if i then 1 else 0))) := rfl
theorem max_ii {i j : Int} {k} : opMax2 (.int i) (.int j) k = k (.sh (.int (if j > i then j else i))) := rfl
theorem min_ii {i j : Int} {k} : opMin2 (.int i) (.int j) k = k (.sh (.int (if j < i then j else i))) := rfl
theorem len_l {ds : List D} {k} : opLen (.lst ds) k = k (.sh (.int ds.length)) := rfl
theorem len_t {ds : List D} {k} : opLen (.tup ds) k = k (.sh (.int ds.length)) := rfl
theorem list_l {ds : List D} {k} : opList (.lst ds) k = k (.fr (.lst ds)) := rfl
theorem sl_l {lo hi : Option Int} {ds : List D} {k} : opSl lo hi (.lst ds) k = k (.fr (.lst (cutL ds lo hi))) := rfl
theorem list_t {ds : List D} {k} : opList (.tup ds) k = k (.fr (.lst ds)) := rfl
theorem rev_l {ds : List D} {k} : opRev (.lst ds) k = k (.fr (.lst ds.reverse)) := rfl
theorem isi_int {t : Ty} {i : Int} {k} : opIsI t (.int i) k = k (.sh (.bl (isTy t (.int i)))) := propext ⟨fun h => h.2, fun h => ⟨rfl, h⟩⟩
theorem isi_bl {t : Ty} {i : Bool} {k} : opIsI t (.bl i) k = k (.sh (.bl (isTy t (.bl i)))) := propext ⟨fun h => h.2, fun h => ⟨rfl, h⟩⟩
theorem isi_tup {t : Ty} {i : List D} {k} : opIsI t (.tup i) k = k (.sh (.bl (isTy t (.tup i)))) := propext ⟨fun h => h.2, fun h => ⟨rfl, h⟩⟩
theorem isi_lst {t : Ty} {i : List D} {k} : opIsI t (.lst i) k = k (.sh (.bl (isTy t (.lst i)))) := propext ⟨fun h => h.2, fun h => ⟨rfl, h⟩⟩
theorem isi_non {t : Ty} {k} : opIsI t .non k = k (.sh (.bl (isTy t .non))) := propext ⟨fun h => h.2, fun h => ⟨rfl, h⟩⟩
theorem isN_i {i : Int} {k} : opIsN (.int i) k = k (.sh (.bl false)) := rfl
theorem isN_n {k} : opIsN .non k = k (.sh (.bl true)) := rfl
theorem isN_t {i : List D} {k} : opIsN (.tup i) k = k (.sh (.bl false)) := rfl
theorem isN_l {i : List D} {k} : opIsN (.lst i) k = k (.sh (.bl false)) := rfl
theorem notN_i {i : Int} {k} : opNotN (.int i) k = k (.sh (.bl true)) := rfl
theorem notN_n {k} : opNotN .non k = k (.sh (.bl false)) := rfl
theorem notN_t {i : List D} {k} : opNotN (.tup i) k = k (.sh (.bl true)) := rfl
theorem notN_l {i : List D} {k} : opNotN (.lst i) k = k (.sh (.bl true)) := rfl
def eFldD (c j : Nat) (d : D) (K : D → Prop) : Prop := match d with
  | .obj c' ds => c' = c ∧ match ds[j]? with | some d => K d | none => False
  | _ => False
theorem eFld_eq {c j : Nat} {w : EW} : eFld c j w = fun xk ρ K => w xk ρ fun r ρ1 => eFldD c j (r.get ρ1) fun d => K (.sh d) ρ1 := rfl
theorem eFldD_o {c c' j : Nat} {ds : List D} {K : D → Prop} : eFldD c j (.obj c' ds) K = (c' = c ∧ match ds[j]? with | some d => K d | none => False) := rfl
local macro_rules | `(tactic| walk_at "sx") => `(tactic| simp only [sSeq, sNil, sSet, sFrz, frz_o, frz_sh, frz_s, sIf, sRet, sRetN, sPass, sBrk, sPar, sSub, sApp, sExpr, sAsg, sAug, sFld, sRevI, sPop, eLoc, eC, eUn, eBin, eAnd, eOr, eNot, eIf, eTup, eLst, dNil, dCons, tVal_eq, tstD_bl, tAndW, tOrW, tNotW, eFld_eq, eFldD_o, eProp, eMeth, eMeth0, eSl, pNone, pSome, sl_l,
  out_sh, out_fr, get_loc, get_sh, get_fr, getL_z, getL_o, getL_s, bound_z, bound_o, bound_s, isOwn_o, isOwn_s, pok_loc, pok_sh, pok_fr, stl_loc, stlS_sh, stlS_own, stl_sh, stl_fr, lay_fr, lay_sh, lay_loc, envOf, slotsOf, valN, ghOf, endK, resK, exMu, muN, List.cons_append, List.nil_append, List.append_nil, List.length_cons, List.length_nil, Nat.reduceAdd, Nat.reduceSub, List.replicate_succ, List.replicate_zero, List.replicate,
  List.getElem?_cons_zero, List.getElem?_cons_succ, List.getElem?_nil, List.set_cons_zero, List.set_cons_succ,
  add_ii, add_ss, add_ll, sub_ii, mul_ii, fdv_ii, fdvN_ii, mod_ii, modN_ii, pow_ii, lt_ii, le_ii, gt_ii, ge_ii, eq_ii, ne_ii, ix_li, ix_ti, neg_i, abs_i, int_i, int_b, max_ii, min_ii, len_l, len_t, list_l, list_t, rev_l, isi_int, isi_bl, isi_tup, isi_lst, isi_non, isN_i, isN_n, isN_t, isN_l, notN_i, notN_n, notN_t, notN_l, isTy,
  atI0, atI1, atI2, ixN0, ixN1, ixN2, some_inj_ex, isObj, setAt0, setAt1, setAt2, setAt3, restE, keepS, wipeE, ↓reduceIte, if_false, if_true,
  eCall, eCallP, eMake, pm, List.filterMap_cons, List.filterMap_nil, agNil, agRo, agBo, agMu, agTm, callK, boIx, muIx, tms, argsK, upE, reown, hasBo, noTm, List.nodup_nil, List.nodup_cons, List.not_mem_nil, not_false_eq_true, Nat.zero_le, Nat.le_refl, Nat.reduceLeDiff, List.mem_cons, or_false, reduceCtorEq,
  gN, gTp, gCn, gNl, iR1, iR2, iLst, iTpl, iEnum, stab,
  true_and, and_true, Bool.true_eq_false, Bool.false_eq_true, false_imp_iff, forall_const, true_imp_iff, and_self, decide_eq_true_eq, decide_eq_false_iff_not, Bool.not_eq_true', Bool.not_eq_false'])
theorem gcd_step {x y : Int} (hy : 0 < y) : Int.gcd y (x % y) = Int.gcd x y := by
  rw [Int.gcd_comm x y]
  have h : x % y = x + y * (-(x / y)) := by
    have := Int.emod_add_mul_ediv x y
    rw [Int.mul_neg]; omega
  rw [h]
  exact Int.gcd_add_mul_left_right y x (-(x / y))
theorem natAbs_if (z : Int) : (if z < 0 then -z else z) = (z.natAbs : Int) := by split <;> omega

def b_gcd : SW := (sSeq (sFrz 0 (sSet 0 (eUn opAbs (eLoc 0))))
  (sSeq (sFrz 1 (sSet 1 (eUn opAbs (eLoc 1))))
  (sSeq (sWhile (tVal (eBin opGt (eLoc 1) (eC (.int 0)))) (sPar 0 1 (dCons (eLoc 1) (dCons (eBin opMod (eLoc 0) (eLoc 1)) dNil))))
  (sRet (eLoc 0)))))
def sp_gcd : FSpec := fun args kr _ => ∃ a b : Int, args = [.ro (.int a), .ro (.int b)] ∧ kr (.sh (.int (Int.gcd a b))) []
theorem sat_gcd : Sat 2 sp_gcd b_gcd := by
  rintro args mus kr kx hm ⟨a, b, rfl, hk⟩
  obtain rfl := mus0 hm
  unfold b_gcd
  walk_at "sx"
  rw [natAbs_if, natAbs_if]
  refine ⟨fun m ρ => ∃ x y : Int, ρ = [.sh (.int x), .sh (.int y)] ∧ 0 ≤ x ∧ 0 ≤ y ∧ Int.gcd x y = Int.gcd a b ∧ m = y.toNat, ⟨_, _, _, rfl, by omega, by omega, by simp [Int.gcd], rfl⟩, ?_⟩
  rintro m ρ ⟨x, y, rfl, hx, hy, hg, rfl⟩
  walk_at "sx"
  refine ⟨fun h => ⟨by omega, _, ?_, _, _, rfl, hy, Int.emod_nonneg _ (by omega), ?_, rfl⟩, fun h => ?_⟩
  · have := Int.emod_lt_of_pos x h
    have := Int.emod_nonneg x (by omega : y ≠ 0)
    omega
  · rw [← hg, gcd_step h]
  · have : y = 0 := by omega
    subst this
    rw [← hg] at hk
    simp only [Int.gcd_zero_right] at hk
    rw [Int.natAbs_of_nonneg hx] at hk
    exact hk
/-- the same def with int() around the left one -/
def b_law_gcd : SW := (sSeq (sFrz 0 (sSet 0 (eUn opAbs (eLoc 0))))
  (sSeq (sFrz 1 (sSet 1 (eUn opAbs (eLoc 1))))
  (sSeq (sWhile (tVal (eBin opGt (eLoc 1) (eC (.int 0)))) (sPar 0 1 (dCons (eLoc 1) (dCons (eBin opMod (eUn opInt (eLoc 0)) (eLoc 1)) dNil))))
  (sRet (eLoc 0)))))
def sp_law_gcd : FSpec := sp_gcd
theorem sat_law_gcd : Sat 2 sp_law_gcd b_law_gcd := by
  rintro args mus kr kx hm ⟨a, b, rfl, hk⟩
  obtain rfl := mus0 hm
  unfold b_law_gcd
  walk_at "sx"
  rw [natAbs_if, natAbs_if]
  refine ⟨fun m ρ => ∃ x y : Int, ρ = [.sh (.int x), .sh (.int y)] ∧ 0 ≤ x ∧ 0 ≤ y ∧ Int.gcd x y = Int.gcd a b ∧ m = y.toNat, ⟨_, _, _, rfl, by omega, by omega, by simp [Int.gcd], rfl⟩, ?_⟩
  rintro m ρ ⟨x, y, rfl, hx, hy, hg, rfl⟩
  walk_at "sx"
  refine ⟨fun h => ⟨by omega, _, ?_, _, _, rfl, hy, Int.emod_nonneg _ (by omega), ?_, rfl⟩, fun h => ?_⟩
  · have := Int.emod_lt_of_pos x h
    have := Int.emod_nonneg x (by omega : y ≠ 0)
    omega
  · rw [← hg, gcd_step h]
  · have : y = 0 := by omega
    subst this
    rw [← hg] at hk
    simp only [Int.gcd_zero_right] at hk
    rw [Int.natAbs_of_nonneg hx] at hk
    exact hk

def b_is_fraction : SW := (sRet (eAnd (eBin opGe (eBin opIx (eLoc 0) (eC (.int 1))) (eC (.int 1))) (eBin opEq (eCall 2 sp_gcd (agRo (eBin opIx (eLoc 0) (eC (.int 0))) (agRo (eBin opIx (eLoc 0) (eC (.int 1))) agNil))) (eC (.int 1)))))
abbrev encR (p : Int × Int) : D := .tup [.int p.1, .int p.2]
def sp_is_fraction : FSpec := fun args kr _ => ∃ p : Int × Int, args = [.ro (encR p)] ∧ kr (.sh (.bl (decide (1 ≤ p.2 ∧ Int.gcd p.1 p.2 = 1)))) []
theorem cast1 {n : Nat} : ((n : Int) = 1) = (n = 1) := propext ⟨fun h => by omega, fun h => by omega⟩
theorem sat_is_fraction : Sat 1 sp_is_fraction b_is_fraction := by
  rintro args mus kr kx hm ⟨⟨t, b⟩, rfl, hk⟩
  obtain rfl := mus0 hm
  unfold b_is_fraction
  walk_at "sx"
  constructor
  · intro h
    refine ⟨t, b, rfl, ?_⟩
    walk_at "sx"
    simp only [cast1]
    simpa [h] using hk
  · intro h
    have : ¬ (1 ≤ b) := by omega
    simpa [this] using hk
end TL

namespace TL
open PySem L2
local macro_rules | `(tactic| walk_at "sx") => `(tactic| simp only [sSeq, sNil, sSet, sFrz, frz_o, frz_sh, frz_s, sIf, sRet, sRetN, sPass, sBrk, sPar, sSub, sApp, sExpr, sAsg, sAug, sFld, sRevI, sPop, eLoc, eC, eUn, eBin, eAnd, eOr, eNot, eIf, eTup, eLst, dNil, dCons, tVal_eq, tstD_bl, tAndW, tOrW, tNotW, eFld_eq, eFldD_o, eProp, eMeth, eMeth0, eSl, pNone, pSome, sl_l,
  out_sh, out_fr, get_loc, get_sh, get_fr, getL_z, getL_o, getL_s, bound_z, bound_o, bound_s, isOwn_o, isOwn_s, pok_loc, pok_sh, pok_fr, stl_loc, stlS_sh, stlS_own, stl_sh, stl_fr, lay_fr, lay_sh, lay_loc, envOf, slotsOf, valN, ghOf, endK, resK, exMu, muN, List.cons_append, List.nil_append, List.append_nil, List.length_cons, List.length_nil, Nat.reduceAdd, Nat.reduceSub, List.replicate_succ, List.replicate_zero, List.replicate,
  List.getElem?_cons_zero, List.getElem?_cons_succ, List.getElem?_nil, List.set_cons_zero, List.set_cons_succ,
  add_ii, add_ss, add_ll, sub_ii, mul_ii, fdv_ii, fdvN_ii, mod_ii, modN_ii, pow_ii, lt_ii, le_ii, gt_ii, ge_ii, eq_ii, ne_ii, ix_li, ix_ti, neg_i, abs_i, int_i, int_b, max_ii, min_ii, len_l, len_t, list_l, list_t, rev_l, isi_int, isi_bl, isi_tup, isi_lst, isi_non, isN_i, isN_n, isN_t, isN_l, notN_i, notN_n, notN_t, notN_l, isTy,
  atI0, atI1, atI2, ixN0, ixN1, ixN2, some_inj_ex, isObj, setAt0, setAt1, setAt2, setAt3, restE, keepS, wipeE, ↓reduceIte, if_false, if_true,
  eCall, eCallP, eMake, pm, List.filterMap_cons, List.filterMap_nil, agNil, agRo, agBo, agMu, agTm, callK, boIx, muIx, tms, argsK, upE, reown, hasBo, noTm, flatRo, noLstAll, noLst, noLsts, List.nodup_nil, List.nodup_cons, List.not_mem_nil, not_false_eq_true, Nat.zero_le, Nat.le_refl, Nat.reduceLeDiff, List.mem_cons, or_false, reduceCtorEq,
  gN, gTp, gCn, gNl, iR1, iR2, iLst, iTpl, iEnum, stab,
  true_and, and_true, Bool.true_eq_false, Bool.false_eq_true, false_imp_iff, forall_const, true_imp_iff, and_self, decide_eq_true_eq, decide_eq_false_iff_not, Bool.not_eq_true', Bool.not_eq_false'])
/-! ### numbers -/
theorem dvd_of_gcd {m b c : Int} (h : Int.gcd b m = 1) (d : m ∣ c * b) : m ∣ c := by
  have h1 : Nat.Coprime m.natAbs b.natAbs := by rw [Nat.coprime_comm]; exact h
  have h2 : m.natAbs ∣ c.natAbs * b.natAbs := by rw [← Int.natAbs_mul]; exact Int.natAbs_dvd_natAbs.mpr d
  exact Int.natAbs_dvd_natAbs.mp (h1.dvd_of_dvd_mul_right h2)
/-- the remainder of t / b by m: the first number r with r * b = t modulo m -/
def remF (m t b : Int) : Int := (((List.range m.toNat).find? fun (r : Nat) => decide (((r : Int) * b - t) % m = 0)).getD 0 : Nat)
theorem rem_uniq {m t b r s : Int} (hm : 0 < m) (hg : Int.gcd b m = 1) (r0 : 0 ≤ r) (r1 : r < m) (s0 : 0 ≤ s) (s1 : s < m) (hr : (r * b - t) % m = 0) (hs : (s * b - t) % m = 0) : r = s := by
  have h1 := Int.dvd_of_emod_eq_zero hr
  have h2 := Int.dvd_of_emod_eq_zero hs
  have h3 : m ∣ (r - s) * b := by
    have := Int.dvd_sub h1 h2
    have e : r * b - t - (s * b - t) = (r - s) * b := by rw [Int.sub_mul]; omega
    rw [e] at this; exact this
  obtain ⟨k, hk⟩ := dvd_of_gcd hg h3
  have : k = 0 := by
    rcases Int.lt_trichotomy k 0 with h | h | h
    · have : m * k ≤ m * (-1) := Int.mul_le_mul_of_nonneg_left (by omega) (by omega)
      omega
    · exact h
    · have : m * 1 ≤ m * k := Int.mul_le_mul_of_nonneg_left (by omega) (by omega)
      omega
  subst this
  omega
theorem remF_eq {m t b r : Int} (hm : 0 < m) (hg : Int.gcd b m = 1) (r0 : 0 ≤ r) (r1 : r < m) (hr : (r * b - t) % m = 0) : remF m t b = r := by
  unfold remF
  cases h : (List.range m.toNat).find? fun (r : Nat) => decide (((r : Int) * b - t) % m = 0) with
  | none =>
    have := List.find?_eq_none.mp h r.toNat (List.mem_range.mpr (by omega))
    rw [Int.toNat_of_nonneg r0] at this
    simp [hr] at this
  | some s =>
    have h1 := List.find?_some h
    have h2 := List.mem_range.mp (List.mem_of_find?_eq_some h)
    have h3 : ((s : Int) * b - t) % m = 0 := by simpa using h1
    exact rem_uniq hm hg (by omega) (by simp; omega) r0 r1 h3 hr

def b_is_good : SW := (sRet (eAnd (eCall 1 sp_is_fraction (agRo (eLoc 1) agNil)) (eBin opEq (eCall 2 sp_gcd (agRo (eBin opIx (eLoc 1) (eC (.int 1))) (agRo (eLoc 0) agNil))) (eC (.int 1)))))
/-- the tuple is a fraction that is good for m -/
def Good (m : Int) (p : Int × Int) : Prop := 1 ≤ p.2 ∧ Int.gcd p.1 p.2 = 1 ∧ Int.gcd p.2 m = 1
instance (m : Int) (p : Int × Int) : Decidable (Good m p) := by unfold Good; exact inferInstance
def sp_is_good : FSpec := fun args kr _ => ∃ (m : Int) (p : Int × Int), args = [.ro (.int m), .ro (encR p)] ∧ kr (.sh (.bl (decide (Good m p)))) []
theorem sat_is_good : Sat 2 sp_is_good b_is_good := by
  rintro args mus kr kx hm ⟨m, ⟨t, b⟩, rfl, hk⟩
  obtain rfl := mus0 hm
  unfold b_is_good
  walk_at "sx"
  refine ⟨(t, b), rfl, ?_⟩
  walk_at "sx"
  unfold Good at hk
  constructor
  · intro h
    refine ⟨b, m, rfl, ?_⟩
    walk_at "sx"
    simp only [cast1]
    have h1 : 1 ≤ b := h.1
    have h2 : Int.gcd t b = 1 := h.2
    simpa [h1, h2] using hk
  · intro h
    have h : ¬ (1 ≤ b ∧ Int.gcd t b = 1) := h
    have : ¬ (1 ≤ b ∧ Int.gcd t b = 1 ∧ Int.gcd b m = 1) := fun z => h ⟨z.1, z.2.1⟩
    simpa [this] using hk

def b_inverse : SW := (sSeq (sPar 2 3 (dCons (eBin opMod (eLoc 0) (eLoc 1)) (dCons (eLoc 1) dNil)))
  (sSeq (sAsg (eTup (dCons (eC (.int 1)) (dCons (eC (.int 0)) dNil))) (gTp 2 (gCn (gN 4) (gCn (gN 5) gNl))))
  (sSeq (sWhile (tVal (eBin opGt (eLoc 3) (eC (.int 0)))) (sSeq (sFrz 6 (sSet 6 (eBin opFdv (eLoc 2) (eLoc 3))))
  (sSeq (sPar 2 3 (dCons (eLoc 3) (dCons (eBin opSub (eLoc 2) (eBin opMul (eLoc 6) (eLoc 3))) dNil)))
  (sPar 4 5 (dCons (eLoc 5) (dCons (eBin opSub (eLoc 4) (eBin opMul (eLoc 6) (eLoc 5))) dNil))))))
  (sRet (eBin opMod (eLoc 4) (eLoc 1))))))
def sp_inverse : FSpec := fun args kr _ => ∃ n m : Int, args = [.ro (.int n), .ro (.int m)] ∧ 0 < m ∧ Int.gcd n m = 1 ∧ Bt 9000 m ∧ ∀ r, 0 ≤ r → r < m → (r * n - 1) % m = 0 → kr (.sh (.int r)) []
theorem inv_bd {u o h w m : Int} (e : u * o + h * w = m) (hu : 0 ≤ u) (ho : 0 ≤ o) (hh : 0 ≤ h) (hw : 0 < w) : h ≤ m := by
  have h1 : 0 ≤ u * o := Int.mul_nonneg hu ho
  have h2 : h * 1 ≤ h * w := Int.mul_le_mul_of_nonneg_left (by omega) hh
  omega
theorem sat_inverse : Sat 7 sp_inverse b_inverse := by
  rintro args mus kr kx hm ⟨n, m, rfl, hm0, hg, hb, hk⟩
  obtain rfl := mus0 hm
  unfold b_inverse
  walk_at "sx"
  refine ⟨hm0, fun k ρ => ∃ (x y h t s : Int) (e6 : Sl), ρ = [.sh (.int n), .sh (.int m), .sh (.int x), .sh (.int y), .sh (.int (s * h)), .sh (.int (-(s * t))), e6] ∧ 0 ≤ x ∧ 0 ≤ y ∧ x ≤ m ∧ y ≤ m ∧ 0 ≤ h ∧ 0 ≤ t ∧ t ≤ m ∧ (s = 1 ∨ s = -1) ∧
    t * x + h * y = m ∧ Int.gcd x y = 1 ∧ m ∣ s * h * n - x ∧ m ∣ -(s * t) * n - y ∧ k = y.toNat, ⟨_, n % m, m, 1, 0, 1, .no, rfl, Int.emod_nonneg _ (by omega), by omega, Int.le_of_lt (Int.emod_lt_of_pos _ hm0), Int.le_refl _, by omega, by omega, by omega, .inl rfl, by omega, ?_, ?_, ?_, rfl⟩, ?_⟩
  · rw [Int.gcd_comm, gcd_step hm0]; exact hg
  · have : (1 : Int) * 1 * n - n % m = m * (n / m) := by
      have := Int.emod_add_mul_ediv n m
      omega
    rw [this]; exact Int.dvd_mul_right _ _
  · exact ⟨-1, by omega⟩
  · rintro k ρ ⟨x, y, h, t, s, e6, rfl, hx, hy, hxm, hym, hh, ht, htm, hs, hsum, hgc, d1, d2, rfl⟩
    walk_at "sx"
    have xm := Int.emod_add_mul_ediv x y
    refine ⟨fun hy0 => ?_, fun hy0 => ?_⟩
    · have e1 : x - x / y * y = x % y := by rw [Int.mul_comm]; omega
      have q0 : 0 ≤ x / y := Int.ediv_nonneg hx hy
      have r0 : 0 ≤ x % y := Int.emod_nonneg _ (by omega)
      have r1 : x % y < y := Int.emod_lt_of_pos _ hy0
      have qx : x / y ≤ m := by
        have : x / y ≤ x := Int.ediv_le_self _ hx
        omega
      have bq : Bt 9000 (x / y) := hb.le (by omega)
      have by_ : Bt 9000 y := hb.le (by omega)
      refine ⟨⟨hy0, by_⟩, bq.mulOk by_ (by omega), ?_⟩
      have hst : s * h - x / y * -(s * t) = s * (h + x / y * t) := by grind
      have nst : -(s * t) = (-s) * t := by rw [Int.neg_mul]
      have bt : Bt 9000 (-(s * t)) := by
        refine (hb.le (x := t) (by omega)).le ?_ |> Bt.neg
        rcases hs with rfl | rfl <;> simp
      have key : (h + x / y * t) * y + t * (x % y) = m := by
        have : x % y = x - y * (x / y) := by omega
        rw [this]; grind
      have nn : 0 ≤ x / y * t := Int.mul_nonneg q0 ht
      refine ⟨bq.mulOk bt (by omega), (x % y).toNat, by omega, y, x % y, t, h + x / y * t, -s, .sh (.int (x / y)), ?_, hy, r0, hym, by omega, ht, by omega, ?_, by omega, key, ?_, ?_, ?_, rfl⟩
      · rw [e1, hst, nst]
        have : -(-s * (h + x / y * t)) = s * (h + x / y * t) := by grind
        rw [this]
      · have := inv_bd (u := t) (o := x % y) (h := h + x / y * t) (w := y) (m := m) (by omega) ht r0 (by omega) hy0
        exact this
      · rw [gcd_step hy0]; exact hgc
      · have : -s * t * n - y = -(s * t) * n - y := by grind
        rw [this]; exact d2
      · have : -(-s * (h + x / y * t)) * n - x % y = (s * h * n - x) - (x / y) * (-(s * t) * n - y) := by
          have e2 : x % y = x - y * (x / y) := by omega
          rw [e2]; grind
        rw [this]
        exact Int.dvd_sub d1 (Int.dvd_mul_of_dvd_right d2)
    · have y0 : y = 0 := by omega
      subst y0
      have x1 : x = 1 := by
        have : Int.gcd x 0 = x.natAbs := by simp
        omega
      subst x1
      refine ⟨hm0, hk _ (Int.emod_nonneg _ (by omega)) (Int.emod_lt_of_pos _ hm0) ?_⟩
      apply Int.emod_eq_zero_of_dvd
      have e := Int.emod_add_mul_ediv (s * h) m
      have : (s * h) % m * n - 1 = (s * h * n - 1) - m * (s * h / m * n) := by
        have e2 : (s * h) % m = s * h - m * (s * h / m) := by omega
        rw [e2]; grind
      rw [this]
      exact Int.dvd_sub d1 (Int.dvd_mul_right _ _)
end TL

namespace TL
open PySem L2
local macro_rules | `(tactic| walk_at "sx") => `(tactic| simp only [sSeq, sNil, sSet, sFrz, frz_o, frz_sh, frz_s, sIf, sRet, sRetN, sPass, sBrk, sPar, sSub, sApp, sExpr, sAsg, sAug, sFld, sRevI, sPop, eLoc, eC, eUn, eBin, eAnd, eOr, eNot, eIf, eTup, eLst, dNil, dCons, tVal_eq, tstD_bl, tAndW, tOrW, tNotW, eFld_eq, eFldD_o, eProp, eMeth, eMeth0, eSl, pNone, pSome, sl_l,
  out_sh, out_fr, get_loc, get_sh, get_fr, getL_z, getL_o, getL_s, bound_z, bound_o, bound_s, isOwn_o, isOwn_s, pok_loc, pok_sh, pok_fr, stl_loc, stlS_sh, stlS_own, stl_sh, stl_fr, lay_fr, lay_sh, lay_loc, envOf, slotsOf, valN, ghOf, endK, resK, exMu, muN, List.cons_append, List.nil_append, List.append_nil, List.length_cons, List.length_nil, Nat.reduceAdd, Nat.reduceSub, List.replicate_succ, List.replicate_zero, List.replicate,
  List.getElem?_cons_zero, List.getElem?_cons_succ, List.getElem?_nil, List.set_cons_zero, List.set_cons_succ,
  add_ii, add_ss, add_ll, sub_ii, mul_ii, fdv_ii, fdvN_ii, mod_ii, modN_ii, pow_ii, lt_ii, le_ii, gt_ii, ge_ii, eq_ii, ne_ii, ix_li, ix_ti, neg_i, abs_i, int_i, int_b, max_ii, min_ii, len_l, len_t, list_l, list_t, rev_l, isi_int, isi_bl, isi_tup, isi_lst, isi_non, isN_i, isN_n, isN_t, isN_l, notN_i, notN_n, notN_t, notN_l, isTy,
  atI0, atI1, atI2, ixN0, ixN1, ixN2, some_inj_ex, isObj, setAt0, setAt1, setAt2, setAt3, restE, keepS, wipeE, ↓reduceIte, if_false, if_true,
  eCall, eCallP, eMake, pm, List.filterMap_cons, List.filterMap_nil, agNil, agRo, agBo, agMu, agTm, callK, boIx, muIx, tms, argsK, upE, reown, hasBo, noTm, flatRo, noLstAll, noLst, noLsts, List.nodup_nil, List.nodup_cons, List.not_mem_nil, not_false_eq_true, Nat.zero_le, Nat.le_refl, Nat.reduceLeDiff, List.mem_cons, or_false, reduceCtorEq,
  gN, gTp, gCn, gNl, iR1, iR2, iLst, iTpl, iEnum, stab,
  true_and, and_true, Bool.true_eq_false, Bool.false_eq_true, false_imp_iff, forall_const, true_imp_iff, and_self, decide_eq_true_eq, decide_eq_false_iff_not, Bool.not_eq_true', Bool.not_eq_false'])
def b_remainder_by : SW := (sSeq (sIf (tVal (eBin opEq (eBin opIx (eLoc 1) (eC (.int 1))) (eC (.int 1)))) (sRet (eBin opMod (eBin opIx (eLoc 1) (eC (.int 0))) (eLoc 0))) sNil)
  (sRet (eBin opMod (eBin opMul (eBin opIx (eLoc 1) (eC (.int 0))) (eCall 2 sp_inverse (agRo (eBin opIx (eLoc 1) (eC (.int 1))) (agRo (eLoc 0) agNil)))) (eLoc 0))))
def sp_remainder_by : FSpec := fun args kr _ => ∃ (m : Int) (p : Int × Int), args = [.ro (.int m), .ro (encR p)] ∧ 0 < m ∧ Int.gcd p.2 m = 1 ∧ Bt 9000 m ∧ Bt 90000000 p.1 ∧ kr (.sh (.int (remF m p.1 p.2))) []
theorem sat_remainder_by : Sat 2 sp_remainder_by b_remainder_by := by
  rintro args mus kr kx hm ⟨m, ⟨t, b⟩, rfl, hm0, hg, hb, ht, hk⟩
  obtain rfl := mus0 hm
  have hg : Int.gcd b m = 1 := hg
  have ht : Bt 90000000 t := ht
  unfold b_remainder_by
  walk_at "sx"
  have key : ∀ r : Int, 0 ≤ r → r < m → (r * b - t) % m = 0 → remF m t b = r := fun r h1 h2 h3 => remF_eq hm0 hg h1 h2 h3
  refine ⟨fun hb1 => ?_, fun hb1 => ⟨b, m, rfl, hm0, hg, hb, fun r r0 r1 hr => ?_⟩⟩
  · subst hb1
    refine ⟨hm0, ?_⟩
    have e := Int.emod_add_mul_ediv t m
    have : remF m t 1 = t % m := key _ (Int.emod_nonneg _ (by omega)) (Int.emod_lt_of_pos _ hm0) (by
      apply Int.emod_eq_zero_of_dvd
      exact ⟨-(t / m), by rw [Int.mul_neg]; omega⟩)
    rw [← this]; exact hk
  · walk_at "sx"
    have br : Bt 9000 r := hb.le (by omega)
    refine ⟨ht.mulOk br (by omega), hm0, ?_⟩
    have e := Int.emod_add_mul_ediv (t * r) m
    have : remF m t b = t * r % m := key _ (Int.emod_nonneg _ (by omega)) (Int.emod_lt_of_pos _ hm0) (by
      apply Int.emod_eq_zero_of_dvd
      have e2 : t * r % m * b - t = t * (r * b - 1) - m * (t * r / m * b) := by
        have : t * r % m = t * r - m * (t * r / m) := by omega
        rw [this]; grind
      rw [e2]
      exact Int.dvd_sub (Int.dvd_mul_of_dvd_right (Int.dvd_of_emod_eq_zero hr)) (Int.dvd_mul_right _ _))
    rw [← this]; exact hk

/-! ### maps -/
abbrev encRs (rs : List (Int × Int)) : D := .lst (rs.map encR)
abbrev mapD (rs : List (Int × Int)) : D := .obj 0 [.int rs.length, encRs rs]
/-- the rule p is one for the remainder r -/
def RuleOk (m r : Int) (p : Int × Int) : Prop := 1 ≤ p.1 ∧ Int.gcd p.1 m = 1 ∧ (p.1 * r + p.2) % m = 0
instance (m r : Int) (p : Int × Int) : Decidable (RuleOk m r p) := by unfold RuleOk; exact inferInstance
structure MapOk (rs : List (Int × Int)) : Prop where
  two : 2 ≤ rs.length
  few : rs.length ≤ 100000
  ok : ∀ (i : Nat) (p : Int × Int), rs[i]? = some p → RuleOk rs.length i p
  sz : ∀ p ∈ rs, Bt 1000000 p.1 ∧ Bt 1000000 p.2
def b_Map_modulus : SW := (sRet (eFld 0 0 (eLoc 0)))
def sp_Map_modulus : FSpec := fun args kr _ => ∃ rs, args = [.ro (mapD rs)] ∧ kr (.sh (.int rs.length)) []
theorem sat_Map_modulus : Sat 1 sp_Map_modulus b_Map_modulus := by
  rintro args mus kr kx hm ⟨rs, rfl, hk⟩
  obtain rfl := mus0 hm
  unfold b_Map_modulus
  walk_at "sx"
  exact hk
def b_Map_rules : SW := (sRet (eUn opList (eFld 0 1 (eLoc 0))))
def sp_Map_rules : FSpec := fun args kr _ => ∃ rs, args = [.ro (mapD rs)] ∧ kr (.fr (encRs rs)) []
theorem sat_Map_rules : Sat 1 sp_Map_rules b_Map_rules := by
  rintro args mus kr kx hm ⟨rs, rfl, hk⟩
  obtain rfl := mus0 hm
  unfold b_Map_rules
  walk_at "sx"
  exact hk
def b_check_fraction : SW := (sIf (tNotW (tVal (eCall 2 sp_is_good (agRo (eProp 0 sp_Map_modulus (eLoc 0)) (agRo (eLoc 1) agNil))))) sNever sNil)
def sp_check_fraction : FSpec := fun args kr _ => ∃ rs p, args = [.ro (mapD rs), .ro (encR p)] ∧ Good rs.length p ∧ kr (.sh .non) []
theorem sat_check_fraction : Sat 2 sp_check_fraction b_check_fraction := by
  rintro args mus kr kx hm ⟨rs, p, rfl, hg, hk⟩
  obtain rfl := mus0 hm
  unfold b_check_fraction
  walk_at "sx"
  refine ⟨rs, rfl, ?_⟩
  walk_at "sx"
  refine ⟨rs.length, p, rfl, ?_⟩
  walk_at "sx"
  simp [hg, hk]
theorem MapOk.bt {rs : List (Int × Int)} (h : MapOk rs) : Bt 9000 (rs.length : Int) := (Bt.small (x := rs.length) (by omega) (by have := h.few; omega)).mono (by omega)
def sp_remainder_of : FSpec := fun args kr _ => ∃ rs p, args = [.ro (mapD rs), .ro (encR p)] ∧ MapOk rs ∧ Good rs.length p ∧ Bt 90000000 p.1 ∧ kr (.sh (.int (remF rs.length p.1 p.2))) []
def b_is_rule : SW := (sSeq (sIf (tOrW (tVal (eBin opLt (eBin opIx (eLoc 2) (eC (.int 0))) (eC (.int 1)))) (tVal (eBin opNe (eCall 2 sp_gcd (agRo (eBin opIx (eLoc 2) (eC (.int 0))) (agRo (eLoc 0) agNil))) (eC (.int 1))))) (sRet (eC (.bl false))) sNil)
  (sRet (eBin opEq (eBin opMod (eBin opAdd (eBin opMul (eBin opIx (eLoc 2) (eC (.int 0))) (eLoc 1)) (eBin opIx (eLoc 2) (eC (.int 1)))) (eLoc 0)) (eC (.int 0)))))
def sp_is_rule : FSpec := fun args kr _ => ∃ (m r : Int) (p : Int × Int), args = [.ro (.int m), .ro (.int r), .ro (encR p)] ∧ 0 < m ∧ MulOk p.1 r ∧ kr (.sh (.bl (decide (RuleOk m r p)))) []
theorem sat_is_rule : Sat 3 sp_is_rule b_is_rule := by
  rintro args mus kr kx hm ⟨m, r, ⟨a, b⟩, rfl, hm0, ho, hk⟩
  obtain rfl := mus0 hm
  have ho : MulOk a r := ho
  unfold b_is_rule
  walk_at "sx"
  unfold RuleOk at hk
  refine ⟨fun h => ?_, fun h => ⟨a, m, rfl, ?_⟩⟩
  · have : ¬ (1 ≤ a ∧ Int.gcd a m = 1 ∧ (a * r + b) % m = 0) := fun z => by omega
    simpa [this] using hk
  · have h1 : 1 ≤ a := by omega
    walk_at "sx"
    simp only [cast1]
    refine ⟨fun h => ?_, fun h => ⟨ho, hm0, ?_⟩⟩
    · have : ¬ (1 ≤ a ∧ Int.gcd a m = 1 ∧ (a * r + b) % m = 0) := fun z => by simp [z.2.1] at h
      simpa [this] using hk
    · have h2 : Int.gcd a m = 1 := by simpa using h
      simpa [h1, h2] using hk
def b_Map_init : SW := (sSeq (sIf (tVal (eBin opLt (eLoc 1) (eC (.int 2)))) sNever sNil)
  (sSeq (sIf (tVal (eBin opNe (eUn opLen (eLoc 2)) (eLoc 1))) sNever sNil)
  (sSeq (sFor (iEnum (eLoc 2)) (gTp 2 (gCn (gN 3) (gCn (gN 4) gNl))) (sIf (tNotW (tVal (eCall 3 sp_is_rule (agRo (eLoc 1) (agRo (eLoc 3) (agRo (eLoc 4) agNil)))))) sNever sNil))
  (sSeq (sFld 0 0 0 (eLoc 1))
  (sFld 0 0 1 (eComp (iLst (eLoc 2)) (gN 4) tYesW (eTup (dCons (eBin opIx (eLoc 4) (eC (.int 0))) (dCons (eBin opIx (eLoc 4) (eC (.int 1))) dNil))) [4]))))))
def sp_Map_init : FSpec := fun args kr _ => ∃ rs, args = [.mu (.obj 0 []), .ro (.int rs.length), .ro (encRs rs)] ∧ MapOk rs ∧ kr (.sh .non) [mapD rs]
theorem line_big {n : Nat} (h : n ≤ 10000000) : n < sizeLine := Nat.lt_of_le_of_lt h (by decide)
theorem sat_Map_init : Sat 5 sp_Map_init b_Map_init := by
  rintro args mus kr kx hm ⟨rs, rfl, ho, hk⟩
  obtain ⟨a, rfl⟩ := mus1 hm
  have h2 := ho.two
  unfold b_Map_init
  walk_at "sx"
  refine ⟨fun h => by omega, fun _ => ?_⟩
  simp only [List.length_map]
  refine ⟨fun h => by simp at h, fun _ => ?_⟩
  unfold sFor iEnum
  walk_at "sx"
  simp only [List.length_map]
  refine ⟨fun i ρ => ∃ e3 e4, ρ = [.own true a (.obj 0 []), .sh (.int rs.length), .sh (encRs rs), e3, e4], ⟨_, _, rfl⟩, fun _ _ _ _ => trivial, ?_, ?_⟩
  · rintro i d ρ hi ⟨d0, hd0, rfl⟩ ⟨e3, e4, rfl⟩
    rw [List.getElem?_map] at hd0
    cases hp : rs[i]? with
    | none => rw [hp] at hd0; cases hd0
    | some p =>
      rw [hp] at hd0
      cases hd0
      walk_at "sx"
      have hr := ho.ok i p hp
      have hsz := ho.sz p (List.mem_of_getElem? hp)
      refine ⟨rs.length, i, p, rfl, by omega, hsz.1.mulOk (Bt.small (x := i) (by omega) (by have := ho.few; omega)) (by omega), ?_⟩
      walk_at "sx"
      simp [hr]
  · rintro ρ ⟨e3, e4, rfl⟩
    walk_at "sx"
    simp only [eComp, iLst, tYesW]
    walk_at "sx"
    simp only [List.length_map]
    refine ⟨fun i acc ρ => acc = (rs.take i).map encR ∧ ρ = [.own true a (.obj 0 [.int rs.length]), .sh (.int rs.length), .sh (encRs rs), e3, .no], ⟨by simp, rfl⟩, fun _ _ _ _ _ => trivial, ?_, ?_⟩
    · rintro i d acc ρ hi hd ⟨rfl, rfl⟩
      rw [List.getElem?_map] at hd
      cases hp : rs[i]? with
      | none => rw [hp] at hd; cases hd
      | some p =>
        rw [hp] at hd
        cases hd
        walk_at "sx"
        refine ⟨line_big (by have := ho.few; simp; omega), ?_⟩
        rw [List.take_succ, hp]
        simp
    · rintro acc ρ ⟨rfl, rfl⟩
      rw [List.take_length]
      walk_at "sx"
      exact hk
end TL

namespace TL
open PySem L2
local macro_rules | `(tactic| walk_at "sx") => `(tactic| simp only [sSeq, sNil, sSet, sFrz, frz_o, frz_sh, frz_s, sIf, sRet, sRetN, sPass, sBrk, sPar, sSub, sApp, sExpr, sAsg, sAug, sFld, sRevI, sPop, eLoc, eC, eUn, eBin, eAnd, eOr, eNot, eIf, eTup, eLst, dNil, dCons, tVal_eq, tstD_bl, tAndW, tOrW, tNotW, eFld_eq, eFldD_o, eProp, eMeth, eMeth0, eSl, pNone, pSome, sl_l,
  out_sh, out_fr, get_loc, get_sh, get_fr, getL_z, getL_o, getL_s, bound_z, bound_o, bound_s, isOwn_o, isOwn_s, pok_loc, pok_sh, pok_fr, stl_loc, stlS_sh, stlS_own, stl_sh, stl_fr, lay_fr, lay_sh, lay_loc, envOf, slotsOf, valN, ghOf, endK, resK, exMu, muN, List.cons_append, List.nil_append, List.append_nil, List.length_cons, List.length_nil, Nat.reduceAdd, Nat.reduceSub, List.replicate_succ, List.replicate_zero, List.replicate,
  List.getElem?_cons_zero, List.getElem?_cons_succ, List.getElem?_nil, List.set_cons_zero, List.set_cons_succ,
  add_ii, add_ss, add_ll, sub_ii, mul_ii, fdv_ii, fdvN_ii, mod_ii, modN_ii, pow_ii, lt_ii, le_ii, gt_ii, ge_ii, eq_ii, ne_ii, ix_li, ix_ti, neg_i, abs_i, int_i, int_b, max_ii, min_ii, len_l, len_t, list_l, list_t, rev_l, isi_int, isi_bl, isi_tup, isi_lst, isi_non, isN_i, isN_n, isN_t, isN_l, notN_i, notN_n, notN_t, notN_l, isTy,
  atI0, atI1, atI2, ixN0, ixN1, ixN2, some_inj_ex, isObj, setAt0, setAt1, setAt2, setAt3, restE, keepS, wipeE, ↓reduceIte, if_false, if_true,
  eCall, eCallP, eMake, pm, List.filterMap_cons, List.filterMap_nil, agNil, agRo, agBo, agMu, agTm, callK, boIx, muIx, tms, argsK, upE, reown, hasBo, noTm, flatRo, noLstAll, noLst, noLsts, List.nodup_nil, List.nodup_cons, List.not_mem_nil, not_false_eq_true, Nat.zero_le, Nat.le_refl, Nat.reduceLeDiff, List.mem_cons, or_false, reduceCtorEq,
  gN, gTp, gCn, gNl, iR1, iR2, iLst, iTpl, iEnum, stab,
  true_and, and_true, Bool.true_eq_false, Bool.false_eq_true, false_imp_iff, forall_const, true_imp_iff, and_self, decide_eq_true_eq, decide_eq_false_iff_not, Bool.not_eq_true', Bool.not_eq_false'])

abbrev src (x y z : Int) : D := .lst [.int x, .int y, .int z]
abbrev encZs (ns : List Int) : D := .lst (ns.map D.int)
def b_law_source : SW := (sSeq (sFrz 2 (sSet 2 (eUn opLen (eLoc 0))))
  (sSeq (sIf (tVal (eBin opLt (eLoc 1) (eUn opLen (eLoc 0)))) (sFrz 2 (sSet 2 (eBin opIx (eLoc 0) (eLoc 1)))) sNil)
  (sRet (eLst (dCons (eBin opMax2 (eC (.int 0)) (eBin opSub (eLoc 2) (eBin opPow (eC (.int 10)) (eC (.int 18))))) (dCons (eBin opAdd (eBin opMod (eUn opInt (eBin opAdd (eBin opMul (eC (.int 2)) (eUn opAbs (eLoc 2))) (eUn opInt (eBin opLt (eLoc 2) (eC (.int 0)))))) (eC (.int 999999999999999989))) (eC (.int 1))) (dCons (eC (.int 0)) dNil)))))))

def sp_law_source : FSpec := fun args kr _ => ∃ (ns : List Int) (k : Int), args = [.ro (encZs ns), .ro (.int k)] ∧ 0 ≤ k ∧ (∀ n ∈ ns, Bt 2000000 n) ∧ ns.length ≤ 1000 ∧ ∀ x y, kr (.fr (src x y 0)) []
theorem mulOk_small {a b : Int} (h : a.natAbs < 2 ^ 64) (hb : Bt 90000000 b) : MulOk a b := (show Bt 64 a from log2_lt_of h (by omega)).mulOk hb (by omega)
theorem bt_abs {n : Nat} {x : Int} (h : Bt n x) : Bt n (if x < 0 then -x else x) := by split; exact h.neg; exact h
theorem sat_law_source : Sat 3 sp_law_source b_law_source := by
  rintro args mus kr kx hm ⟨ns, k, rfl, hk0, hns, hl, hk⟩
  obtain rfl := mus0 hm
  unfold b_law_source
  walk_at "sx"
  have cp : CPow 10 18 := by unfold CPow; decide
  simp only [List.length_map]
  refine ⟨fun h => ?_, fun h => ⟨cp, ?_, by omega, hk _ _⟩⟩
  · rw [atI_int hk0 (by simpa using h)]
    simp only [List.getElem_map]
    refine ⟨_, rfl, ?_⟩
    walk_at "sx"
    have hb := hns _ (List.getElem_mem (l := ns) (n := k.toNat) (by omega))
    exact ⟨cp, mulOk_small (by decide) ((bt_abs hb).mono (by omega)), by omega, hk _ _⟩
  · exact mulOk_small (by decide) ((bt_abs (Bt.small (by omega) (by omega))).mono (by omega))
def b_law_take : SW := (sSeq (sIf (tVal (eBin opGt (eBin opIx (eLoc 0) (eC (.int 0))) (eC (.int 1)))) (sSeq (sFrz 2 (sSet 2 (eBin opMod (eUn opInt (eBin opIx (eLoc 0) (eC (.int 0)))) (eLoc 1))))
  (sSeq (sSub 0 (eC (.int 0)) (eBin opFdv (eBin opIx (eLoc 0) (eC (.int 0))) (eLoc 1)))
  (sRet (eLoc 2)))) sNil)
  (sSeq (sSub 0 (eC (.int 2)) (eBin opAdd (eBin opIx (eLoc 0) (eC (.int 2))) (eC (.int 1))))
  (sSeq (sFrz 3 (sSet 3 (eBin opMod (eUn opInt (eBin opAdd (eBin opIx (eLoc 0) (eC (.int 1))) (eBin opMul (eC (.int 7046029254386353131)) (eBin opIx (eLoc 0) (eC (.int 2)))))) (eC (.int 2305843009213693951)))))
  (sSeq (sFrz 3 (sSet 3 (eBin opMod (eUn opInt (eBin opAdd (eBin opAdd (eBin opMul (eLoc 3) (eLoc 3)) (eBin opMul (eC (.int 40503)) (eBin opIx (eLoc 0) (eC (.int 2))))) (eC (.int 7)))) (eC (.int 2305843009213693921)))))
  (sSeq (sFrz 3 (sSet 3 (eBin opMod (eUn opInt (eBin opAdd (eBin opMul (eBin opMul (eLoc 3) (eLoc 3)) (eLoc 3)) (eBin opIx (eLoc 0) (eC (.int 1))))) (eC (.int 2305843009213693951)))))
  (sRet (eBin opMod (eUn opInt (eBin opFdv (eLoc 3) (eC (.int 4099)))) (eLoc 1))))))))

/-- many draws leave the source a source -/
def sp_law_take : FSpec := fun args kr _ => ∃ x y z many N : Int, args = [.mu (src x y z), .ro (.int many)] ∧ 0 < many ∧ Bt 9000 many ∧ 0 ≤ z ∧ z ≤ N ∧ N ≤ 1000000000 ∧ ∀ t x' z', 0 ≤ t → t < many → 0 ≤ z' → z' ≤ N + 1 → kr (.sh (.int t)) [src x' y z']
theorem mul61 {a b : Int} (ha : 0 ≤ a) (ha' : a < 2305843009213693952) (hb : 0 ≤ b) (hb' : b < 2305843009213693952) : MulOk a b := (Bt.of (n := 61) (by omega) (by omega) (by omega)).mulOk (Bt.of (n := 61) (x := b) (by omega) (by omega) (by omega)) (by omega)
theorem sat_law_take : Sat 4 sp_law_take b_law_take := by
  rintro args mus kr kx hm ⟨x, y, z, many, N, rfl, hm0, hmb, hz0, hzN, hN, hk⟩
  obtain ⟨a, rfl⟩ := mus1 hm
  unfold b_law_take
  walk_at "sx"
  refine ⟨fun h => ⟨hm0, ⟨hm0, hmb⟩, hk _ _ _ (Int.emod_nonneg _ (by omega)) (Int.emod_lt_of_pos _ hm0) hz0 (by omega)⟩, fun h => ?_⟩
  have m61 : ∀ v M : Int, 0 < M → M ≤ 2305843009213693951 → 0 ≤ v % M ∧ v % M < 2305843009213693952 := fun v M h1 h2 => ⟨Int.emod_nonneg _ (by omega), by have := Int.emod_lt_of_pos v h1; omega⟩
  have z1 : Bt 40 (z + 1) := Bt.small (by omega) (by omega)
  have big : ∀ {c : Int}, c.natAbs < 2 ^ 64 → MulOk c (z + 1) := fun h => mulOk_small h (z1.mono (by omega))
  refine ⟨big (by decide), by omega, ?_, big (by decide), by omega, ?_, ?_, by omega, ⟨by omega, Bt.of (by omega) (by omega) (by omega)⟩, hm0, hk _ _ _ (Int.emod_nonneg _ (by omega)) (Int.emod_lt_of_pos _ hm0) (by omega) (by omega)⟩
  · have h := m61 (y + 7046029254386353131 * (z + 1)) 2305843009213693951 (by omega) (by omega)
    exact mul61 h.1 h.2 h.1 h.2
  · have h := m61 ((y + 7046029254386353131 * (z + 1)) % 2305843009213693951 * ((y + 7046029254386353131 * (z + 1)) % 2305843009213693951) + 40503 * (z + 1) + 7) 2305843009213693921 (by omega) (by omega)
    exact mul61 h.1 h.2 h.1 h.2
  · have h := m61 ((y + 7046029254386353131 * (z + 1)) % 2305843009213693951 * ((y + 7046029254386353131 * (z + 1)) % 2305843009213693951) + 40503 * (z + 1) + 7) 2305843009213693921 (by omega) (by omega)
    have b := Bt.of (n := 61) (by omega) (by omega : -(2 ^ 61 : Int) < _) (by omega : _ < (2 ^ 61 : Int)) |> fun (z : Bt 61 (((y + 7046029254386353131 * (z + 1)) % 2305843009213693951 * ((y + 7046029254386353131 * (z + 1)) % 2305843009213693951) + 40503 * (z + 1) + 7) % 2305843009213693921)) => z
    exact (b.mul b).mulOk b (by omega)
end TL

namespace TL
open PySem L2
local macro_rules | `(tactic| walk_at "sx") => `(tactic| simp only [sSeq, sNil, sSet, sFrz, frz_o, frz_sh, frz_s, sIf, sRet, sRetN, sPass, sBrk, sPar, sSub, sApp, sExpr, sAsg, sAug, sFld, sRevI, sPop, eLoc, eC, eUn, eBin, eAnd, eOr, eNot, eIf, eTup, eLst, dNil, dCons, tVal_eq, tstD_bl, tAndW, tOrW, tNotW, eFld_eq, eFldD_o, eProp, eMeth, eMeth0, eSl, pNone, pSome, sl_l,
  out_sh, out_fr, get_loc, get_sh, get_fr, getL_z, getL_o, getL_s, bound_z, bound_o, bound_s, isOwn_o, isOwn_s, pok_loc, pok_sh, pok_fr, stl_loc, stlS_sh, stlS_own, stl_sh, stl_fr, lay_fr, lay_sh, lay_loc, envOf, slotsOf, valN, ghOf, endK, resK, exMu, muN, List.cons_append, List.nil_append, List.append_nil, List.length_cons, List.length_nil, Nat.reduceAdd, Nat.reduceSub, List.replicate_succ, List.replicate_zero, List.replicate,
  List.getElem?_cons_zero, List.getElem?_cons_succ, List.getElem?_nil, List.set_cons_zero, List.set_cons_succ,
  add_ii, add_ss, add_ll, sub_ii, mul_ii, fdv_ii, fdvN_ii, mod_ii, modN_ii, pow_ii, lt_ii, le_ii, gt_ii, ge_ii, eq_ii, ne_ii, ix_li, ix_ti, neg_i, abs_i, int_i, int_b, max_ii, min_ii, len_l, len_t, list_l, list_t, rev_l, isi_int, isi_bl, isi_tup, isi_lst, isi_non, isN_i, isN_n, isN_t, isN_l, notN_i, notN_n, notN_t, notN_l, isTy,
  atI0, atI1, atI2, ixN0, ixN1, ixN2, some_inj_ex, isObj, setAt0, setAt1, setAt2, setAt3, restE, keepS, wipeE, ↓reduceIte, if_false, if_true,
  eCall, eCallP, eMake, pm, List.filterMap_cons, List.filterMap_nil, agNil, agRo, agBo, agMu, agTm, callK, boIx, muIx, tms, argsK, upE, reown, hasBo, noTm, flatRo, noLstAll, noLst, noLsts, List.nodup_nil, List.nodup_cons, List.not_mem_nil, not_false_eq_true, Nat.zero_le, Nat.le_refl, Nat.reduceLeDiff, List.mem_cons, or_false, reduceCtorEq,
  gN, gTp, gCn, gNl, iR1, iR2, iLst, iTpl, iEnum, stab,
  true_and, and_true, Bool.true_eq_false, Bool.false_eq_true, false_imp_iff, forall_const, true_imp_iff, and_self, decide_eq_true_eq, decide_eq_false_iff_not, Bool.not_eq_true', Bool.not_eq_false'])

/-! ### numbers without a common divisor, a few steps down or up -/
theorem gcd_mod (a b : Int) : Int.gcd (a % b) b = Int.gcd a b := by
  have h : a % b = a + b * (-(a / b)) := by
    have := Int.emod_add_mul_ediv a b
    rw [Int.mul_neg]; omega
  rw [h, Int.gcd_comm, Int.gcd_comm a b]
  exact Int.gcd_add_mul_left_right b a (-(a / b))
/-- within k steps down there is one -/
def nearD (base r : Nat) : Nat → Bool
  | 0 => Nat.gcd r base == 1
  | k + 1 => Nat.gcd r base == 1 || nearD base ((r + base - 1) % base) k
theorem near_tab : ∀ base, base < 61 → 2 ≤ base → ∀ r, r < base → nearD base r 8 = true := by decide +kernel

/-- the rest of a by base -/
def rN (base a : Int) : Nat := (a % base).toNat
theorem rN_gcd {base a : Int} (hb : 2 ≤ base) : Nat.gcd (rN base a) base.toNat = Int.gcd a base := by
  have h : 0 ≤ a % base := Int.emod_nonneg _ (by omega)
  rw [← gcd_mod]
  unfold rN Int.gcd
  congr 1 <;> omega
theorem nearD_one {base r : Nat} (h : Nat.gcd r base = 1) : ∀ k, nearD base r k = true
  | 0 => by simp [nearD, h]
  | k + 1 => by simp [nearD, h]
theorem toNat_emod (n : Nat) {base : Int} (hb : 0 ≤ base) : ((n : Int) % base).toNat = n % base.toNat := by
  obtain ⟨m, rfl⟩ := Int.eq_ofNat_of_zero_le hb
  rw [← Int.natCast_emod]
  rfl
theorem rN_down {base a : Int} (hb : 2 ≤ base) : rN base (a - 1) = (rN base a + base.toNat - 1) % base.toNat := by
  have h1 : 0 ≤ a % base := Int.emod_nonneg _ (by omega)
  have h2 : 0 ≤ (a - 1) % base := Int.emod_nonneg _ (by omega)
  have e : (a - 1) % base = (a % base + base - 1) % base := by
    rw [Int.emod_eq_emod_iff_emod_sub_eq_zero]
    have := Int.emod_add_mul_ediv a base
    apply Int.emod_eq_zero_of_dvd
    exact ⟨a / base - 1, by rw [Int.mul_sub]; omega⟩
  unfold rN
  rw [e]
  have : a % base + base - 1 = (((a % base).toNat + base.toNat - 1 : Nat) : Int) := by omega
  rw [this, toNat_emod _ (by omega)]
theorem rN_lt {base a : Int} (hb : 2 ≤ base) : rN base a < base.toNat := by
  have h1 : 0 ≤ a % base := Int.emod_nonneg _ (by omega)
  have h2 := Int.emod_lt_of_pos a (show 0 < base by omega)
  unfold rN; omega
theorem near0 {base a : Int} (h1 : 2 ≤ base) (h2 : base ≤ 60) : nearD base.toNat (rN base a) 8 = true := near_tab _ (by omega) (by omega) _ (rN_lt h1)
/-- a turn of the loop that goes down -/
theorem near_turn {base a : Int} {k : Nat} (hb : 2 ≤ base) (h1 : 1 ≤ a) (hn : nearD base.toNat (rN base a) (k + 1) = true) (hg : 1 < (Int.gcd a base : Int)) : 1 ≤ a - 1 ∧ nearD base.toNat (rN base (a - 1)) k = true := by
  have g := rN_gcd (a := a) hb
  refine ⟨?_, ?_⟩
  · by_cases e : a = 1
    · subst e; simp at hg
    · omega
  · unfold nearD at hn
    rw [Bool.or_eq_true] at hn
    rcases hn with h | h
    · have h : Nat.gcd (rN base a) base.toNat = 1 := by simpa using h
      rw [g] at h; omega
    · rw [rN_down hb]; exact h
theorem near_stay {base a : Int} {k : Nat} (hb : 2 ≤ base) (hg : ¬ 1 < (Int.gcd a base : Int)) (ha : 1 ≤ a) : nearD base.toNat (rN base a) k = true := by
  refine nearD_one ?_ k
  rw [rN_gcd hb]
  have : 0 < Int.gcd a base := Int.gcd_pos_of_ne_zero_left _ (by omega)
  omega
theorem near_end {base a : Int} (hb : 2 ≤ base) (hn : nearD base.toNat (rN base a) 0 = true) : Int.gcd a base = 1 := by
  have h : Nat.gcd (rN base a) base.toNat = 1 := by simpa [nearD] using hn
  rw [rN_gcd hb] at h; exact h
end TL

namespace TL
open PySem L2
local macro_rules | `(tactic| walk_at "sx") => `(tactic| simp only [sSeq, sNil, sSet, sFrz, frz_o, frz_sh, frz_s, sIf, sRet, sRetN, sPass, sBrk, sPar, sSub, sApp, sExpr, sAsg, sAug, sFld, sRevI, sPop, eLoc, eC, eUn, eBin, eAnd, eOr, eNot, eIf, eTup, eLst, dNil, dCons, tVal_eq, tstD_bl, tAndW, tOrW, tNotW, eFld_eq, eFldD_o, eProp, eMeth, eMeth0, eSl, pNone, pSome, sl_l,
  out_sh, out_fr, get_loc, get_sh, get_fr, getL_z, getL_o, getL_s, bound_z, bound_o, bound_s, isOwn_o, isOwn_s, pok_loc, pok_sh, pok_fr, stl_loc, stlS_sh, stlS_own, stl_sh, stl_fr, lay_fr, lay_sh, lay_loc, envOf, slotsOf, valN, ghOf, endK, resK, exMu, muN, List.cons_append, List.nil_append, List.append_nil, List.length_cons, List.length_nil, Nat.reduceAdd, Nat.reduceSub, List.replicate_succ, List.replicate_zero, List.replicate,
  List.getElem?_cons_zero, List.getElem?_cons_succ, List.getElem?_nil, List.set_cons_zero, List.set_cons_succ,
  add_ii, add_ss, add_ll, sub_ii, mul_ii, fdv_ii, fdvN_ii, mod_ii, modN_ii, pow_ii, lt_ii, le_ii, gt_ii, ge_ii, eq_ii, ne_ii, ix_li, ix_ti, neg_i, abs_i, int_i, int_b, max_ii, min_ii, len_l, len_t, list_l, list_t, rev_l, isi_int, isi_bl, isi_tup, isi_lst, isi_non, isN_i, isN_n, isN_t, isN_l, notN_i, notN_n, notN_t, notN_l, isTy,
  atI0, atI1, atI2, ixN0, ixN1, ixN2, some_inj_ex, isObj, setAt0, setAt1, setAt2, setAt3, restE, keepS, wipeE, ↓reduceIte, if_false, if_true,
  eCall, eCallP, eMake, pm, List.filterMap_cons, List.filterMap_nil, agNil, agRo, agBo, agMu, agTm, callK, boIx, muIx, tms, argsK, upE, reown, hasBo, noTm, flatRo, noLstAll, noLst, noLsts, List.nodup_nil, List.nodup_cons, List.not_mem_nil, not_false_eq_true, Nat.zero_le, Nat.le_refl, Nat.reduceLeDiff, List.mem_cons, or_false, reduceCtorEq,
  gN, gTp, gCn, gNl, iR1, iR2, iLst, iTpl, iEnum, stab,
  true_and, and_true, Bool.true_eq_false, Bool.false_eq_true, false_imp_iff, forall_const, true_imp_iff, and_self, decide_eq_true_eq, decide_eq_false_iff_not, Bool.not_eq_true', Bool.not_eq_false'])

def b_law_rules : SW := (sSeq (sFrz 3 (sSet 3 (eBin opIx (eLst (dCons (eC (.int 1)) (dCons (eC (.int 4)) (dCons (eC (.int 9)) (dCons (eC (.int 1000)) dNil))))) (eCall 2 sp_law_take (agMu 0 (agRo (eC (.int 4)) agNil))))))
  (sSeq (sFrz 4 (sSet 4 (eBin opIx (eLst (dCons (eC (.int 1)) (dCons (eC (.int 4)) (dCons (eLoc 2) dNil)))) (eCall 2 sp_law_take (agMu 0 (agRo (eC (.int 3)) agNil))))))
  (sSeq (sSet 5 (eLst dNil))
  (sSeq (sFor (iR1 (dCons (eLoc 1) dNil)) (gN 6) (sSeq (sFrz 7 (sSet 7 (eBin opAdd (eC (.int 1)) (eCall 2 sp_law_take (agMu 0 (agRo (eLoc 3) agNil))))))
  (sSeq (sFor (iR1 (dCons (eC (.int 8)) dNil)) (gN 8) (sIf (tVal (eBin opGt (eCall 2 sp_law_gcd (agRo (eLoc 7) (agRo (eLoc 1) agNil))) (eC (.int 1)))) (sFrz 7 (sSet 7 (eBin opSub (eLoc 7) (eC (.int 1))))) sNil))
  (sApp 5 (eTup (dCons (eLoc 7) (dCons (eBin opSub (eBin opMul (eLoc 1) (eBin opAdd (eBin opSub (eCall 2 sp_law_take (agMu 0 (agRo (eBin opSub (eBin opMul (eC (.int 2)) (eLoc 4)) (eC (.int 1))) agNil))) (eLoc 4)) (eC (.int 1)))) (eBin opMul (eLoc 7) (eLoc 6))) dNil)))))))
  (sRet (eLoc 5))))))

/-- rules drawn for a modulus: each fits its remainder -/
structure RulesOk (base : Nat) (rs : List (Int × Int)) : Prop where
  len : rs.length = base
  ok : ∀ (i : Nat) (p : Int × Int), rs[i]? = some p → RuleOk base i p ∧ p.1 ≤ 1000 ∧ Bt 600 p.2
theorem RulesOk.map {base : Nat} {rs : List (Int × Int)} (h : RulesOk base rs) (h2 : 2 ≤ base) (h6 : base ≤ 100000) : MapOk rs := by
  have hl := h.len
  refine ⟨by omega, by omega, fun i p e => by rw [hl]; exact (h.ok i p e).1, fun p hp => ?_⟩
  obtain ⟨i, hi⟩ := List.getElem?_of_mem hp
  have q := h.ok i p hi
  exact ⟨(Bt.small (by have := q.1.1; omega) (by omega)).mono (by omega), q.2.2.mono (by omega)⟩
theorem rule_fit {base a t r : Int} : (a * r + (base * t - a * r)) % base = 0 := by
  have : a * r + (base * t - a * r) = base * t := by omega
  rw [this, Int.mul_emod_right]
def sp_law_rules : FSpec := fun args kr _ => ∃ (x y z far N : Int) (base : Nat), args = [.mu (src x y z), .ro (.int base), .ro (.int far)] ∧ 2 ≤ base ∧ base ≤ 60 ∧ 1 ≤ far ∧ Bt 500 far ∧ 0 ≤ z ∧ z ≤ N ∧ N ≤ 10000000 ∧
  ∀ rs x' z', RulesOk base rs → 0 ≤ z' → z' ≤ N + 200 → kr (.fr (encRs rs)) [src x' y z']
theorem list4 {t : Int} (h0 : 0 ≤ t) (h4 : t < 4) : ∃ l : Int, 1 ≤ l ∧ l ≤ 1000 ∧ L2.atI [D.int 1, D.int 4, D.int 9, D.int 1000] t = some (.int l) := by
  have : t = 0 ∨ t = 1 ∨ t = 2 ∨ t = 3 := by omega
  rcases this with rfl | rfl | rfl | rfl
  · exact ⟨1, by omega, by omega, rfl⟩
  · exact ⟨4, by omega, by omega, rfl⟩
  · exact ⟨9, by omega, by omega, rfl⟩
  · exact ⟨1000, by omega, by omega, rfl⟩
theorem list3 {t a b c : Int} (h0 : 0 ≤ t) (h3 : t < 3) : ∃ l : Int, (l = a ∨ l = b ∨ l = c) ∧ L2.atI [D.int a, D.int b, D.int c] t = some (.int l) := by
  have : t = 0 ∨ t = 1 ∨ t = 2 := by omega
  rcases this with rfl | rfl | rfl
  · exact ⟨a, .inl rfl, rfl⟩
  · exact ⟨b, .inr (.inl rfl), rfl⟩
  · exact ⟨c, .inr (.inr rfl), rfl⟩
theorem sat_law_rules : Sat 9 sp_law_rules b_law_rules := by
  rintro args mus kr kx hm ⟨x, y, z, far, N, base, rfl, hb2, hb6, hf1, hfb, hz0, hzN, hN, hk⟩
  obtain ⟨a, rfl⟩ := mus1 hm
  unfold b_law_rules
  walk_at "sx"
  refine ⟨x, y, z, 4, N, rfl, by omega, by unfold Bt; decide, hz0, hzN, by omega, fun t x z ht0 ht hz0 hzN => ?_⟩
  walk_at "sx"
  obtain ⟨lim, hl1, hl2, el⟩ := list4 ht0 ht
  rw [el]
  refine ⟨_, rfl, ?_⟩
  refine ⟨x, y, z, 3, N + 1, rfl, by omega, by unfold Bt; decide, hz0, hzN, by omega, fun t x z ht0 ht hz0 hzN => ?_⟩
  walk_at "sx"
  obtain ⟨near, hn, en⟩ := list3 (a := 1) (b := 4) (c := far) ht0 ht
  rw [en]
  refine ⟨_, rfl, ?_⟩
  have nb : 1 ≤ near ∧ Bt 500 near := by
    rcases hn with rfl | rfl | rfl
    · exact ⟨by omega, by unfold Bt; decide⟩
    · exact ⟨by omega, by unfold Bt; decide⟩
    · exact ⟨hf1, hfb⟩
  intro c
  unfold sFor
  walk_at "sx"
  refine ⟨by omega, fun i ρ => ∃ x z rs e6 e7 e8, ρ = [.own true a (src x y z), .sh (.int base), .sh (.int far), .sh (.int lim), .sh (.int near), .own false c (encRs rs), e6, e7, e8] ∧ 0 ≤ z ∧ z ≤ N + 2 + 2 * i ∧ rs.length = i ∧
    (∀ (j : Nat) (p : Int × Int), rs[j]? = some p → RuleOk base j p ∧ p.1 ≤ 1000 ∧ Bt 600 p.2), ⟨x, z, [], _, _, _, rfl, hz0, by omega, rfl, by simp⟩, fun _ _ _ _ => trivial, ?_, ?_⟩
  · rintro i d ρ hi rfl ⟨x, z, rs, e6, e7, e8, rfl, hz0, hzN, hrl, hrs⟩
    have hi : i < base := by simpa using hi
    walk_at "sx"
    refine ⟨x, y, z, lim, N + 2 + 2 * i, rfl, by omega, Bt.mono (n := 40) (Bt.small (by omega) (by omega)) (by omega), hz0, hzN, by omega, fun t x z ht0 ht hz0 hzN => ?_⟩
    walk_at "sx"
    refine ⟨by omega, fun k ρ => ∃ v e8, ρ = [.own true a (src x y z), .sh (.int base), .sh (.int far), .sh (.int lim), .sh (.int near), .own false c (encRs rs), .sh (.int i), .sh (.int v), e8] ∧ 1 ≤ v ∧ v ≤ 1000 ∧ nearD (base : Int).toNat (rN base v) (8 - k) = true,
      ⟨1 + t, _, rfl, by omega, by omega, near0 (by omega) (by omega)⟩, fun _ _ _ _ => trivial, ?_, ?_⟩
    · rintro k d ρ hk8 rfl ⟨v, e8, rfl, hv1, hv2, hv⟩
      have hk8 : k < 8 := by simpa using hk8
      have e8k : 8 - k = (8 - (k + 1)) + 1 := by omega
      walk_at "sx"
      refine ⟨v, base, rfl, ?_⟩
      walk_at "sx"
      rw [e8k] at hv
      refine ⟨fun h => ?_, fun h => ?_⟩
      · have q := near_turn (by omega) hv1 hv h
        exact ⟨v - 1, _, rfl, q.1, by omega, q.2⟩
      · exact ⟨v, _, rfl, hv1, hv2, near_stay (by omega) h hv1⟩
    · rintro ρ ⟨v, e8, rfl, hv1, hv2, hv⟩
      have hg := near_end (by omega) hv
      have nb2 : MulOk 2 near := mulOk_small (by decide) (nb.2.mono (by omega))
      have bn : Bt 501 (2 * near - 1) := nb.2.le (by omega) |> fun (_ : Bt 500 near) => by
        have h1 := nb.2.add nb.2
        exact h1.le (by omega)
      walk_at "sx"
      refine ⟨⟨_, _, _, rfl⟩, nb2, x, y, z, 2 * near - 1, N + 3 + 2 * i, rfl, by omega, bn.mono (by omega), hz0, by omega, by omega, fun t x z ht0 ht hz0 hzN => ?_⟩
      walk_at "sx"
      have b0 : Bt 40 (base : Int) := Bt.small (by omega) (by omega)
      have b1 : Bt 501 t := bn.le (by omega)
      have b2 : Bt 503 (t - near + 1) := (b1.sub (nb.2.mono (by omega))).add (Bt.mono (n := 40) (Bt.small (by omega) (by omega)) (by omega))
      have b3 : Bt 40 (i : Int) := Bt.small (by omega) (by omega)
      have b4 : Bt 40 v := Bt.small (by omega) (by omega)
      have b5 : Bt 544 ((base : Int) * (t - near + 1) - v * i) := ((b0.mul b2).mono (by omega)).sub ((b4.mul b3).mono (by omega))
      refine ⟨b0.mulOk b2 (by omega), b4.mulOk b3 (by omega), line_big (by simp; omega), x, z, rs ++ [(v, (base : Int) * (t - near + 1) - v * i)], .sh (.int i), .sh (.int v), e8, by simp only [encRs, List.map_append, List.map_cons, List.map_nil], hz0, by omega, by simp; omega, fun j p hp => ?_⟩
      rcases Nat.lt_or_ge j rs.length with h | h
      · rw [List.getElem?_append_left h] at hp
        exact hrs j p hp
      · rw [List.getElem?_append_right h] at hp
        have e : j - rs.length = 0 := by
          rcases Nat.eq_zero_or_pos (j - rs.length) with h | h
          · exact h
          · rw [List.getElem?_eq_none (by simp only [List.length_cons, List.length_nil]; omega)] at hp; cases hp
        rw [e] at hp
        cases hp
        have : j = i := by omega
        subst this
        exact ⟨⟨hv1, hg, rule_fit⟩, hv2, b5.mono (by omega)⟩
  · rintro ρ ⟨x, z, rs, e6, e7, e8, rfl, hz0, hzN, hrl, hrs⟩
    walk_at "sx"
    have hrl : rs.length = base := by simpa using hrl
    exact hk rs x z ⟨hrl, hrs⟩ hz0 (by have : z ≤ N + 2 + 2 * (base : Int) := by simpa using hzN
                                       omega)
end TL

namespace TL
open PySem L2
local macro_rules | `(tactic| walk_at "sx") => `(tactic| simp only [sSeq, sNil, sSet, sFrz, frz_o, frz_sh, frz_s, sIf, sRet, sRetN, sPass, sBrk, sPar, sSub, sApp, sExpr, sAsg, sAug, sFld, sRevI, sPop, eLoc, eC, eUn, eBin, eAnd, eOr, eNot, eIf, eTup, eLst, dNil, dCons, tVal_eq, tstD_bl, tAndW, tOrW, tNotW, eFld_eq, eFldD_o, eProp, eMeth, eMeth0, eSl, pNone, pSome, sl_l,
  out_sh, out_fr, get_loc, get_sh, get_fr, getL_z, getL_o, getL_s, bound_z, bound_o, bound_s, isOwn_o, isOwn_s, pok_loc, pok_sh, pok_fr, stl_loc, stlS_sh, stlS_own, stl_sh, stl_fr, lay_fr, lay_sh, lay_loc, envOf, slotsOf, valN, ghOf, endK, resK, exMu, muN, List.cons_append, List.nil_append, List.append_nil, List.length_cons, List.length_nil, Nat.reduceAdd, Nat.reduceSub, List.replicate_succ, List.replicate_zero, List.replicate,
  List.getElem?_cons_zero, List.getElem?_cons_succ, List.getElem?_nil, List.set_cons_zero, List.set_cons_succ,
  add_ii, add_ss, add_ll, sub_ii, mul_ii, fdv_ii, fdvN_ii, mod_ii, modN_ii, pow_ii, lt_ii, le_ii, gt_ii, ge_ii, eq_ii, ne_ii, ix_li, ix_ti, neg_i, abs_i, int_i, int_b, max_ii, min_ii, len_l, len_t, list_l, list_t, rev_l, isi_int, isi_bl, isi_tup, isi_lst, isi_non, isN_i, isN_n, isN_t, isN_l, notN_i, notN_n, notN_t, notN_l, isTy,
  atI0, atI1, atI2, ixN0, ixN1, ixN2, some_inj_ex, isObj, setAt0, setAt1, setAt2, setAt3, restE, keepS, wipeE, ↓reduceIte, if_false, if_true,
  eCall, eCallP, eMake, pm, List.filterMap_cons, List.filterMap_nil, agNil, agRo, agBo, agMu, agTm, callK, boIx, muIx, tms, argsK, upE, reown, hasBo, noTm, flatRo, noLstAll, noLst, noLsts, List.nodup_nil, List.nodup_cons, List.not_mem_nil, not_false_eq_true, Nat.zero_le, Nat.le_refl, Nat.reduceLeDiff, List.mem_cons, or_false, reduceCtorEq,
  gN, gTp, gCn, gNl, iR1, iR2, iLst, iTpl, iEnum, stab,
  true_and, and_true, Bool.true_eq_false, Bool.false_eq_true, false_imp_iff, forall_const, true_imp_iff, and_self, decide_eq_true_eq, decide_eq_false_iff_not, Bool.not_eq_true', Bool.not_eq_false'])
def sp_law_good : FSpec := fun args kr _ => ∃ (x y z N : Int) (base : Nat), args = [.mu (src x y z), .ro (.int base)] ∧ 2 ≤ base ∧ base ≤ 60 ∧ 0 ≤ z ∧ z ≤ N ∧ N ≤ 10000000 ∧
  ∀ p x' z', Good base p → Bt 300 p.1 → Bt 300 p.2 → 0 ≤ z' → z' ≤ N + 20 → kr (.sh (encR p)) [src x' y z']
theorem gcd_div {a b : Int} (hb : 1 ≤ b) : 1 ≤ b / (Int.gcd a b : Int) ∧ Int.gcd (a / (Int.gcd a b : Int)) (b / (Int.gcd a b : Int)) = 1 := by
  have hg : 0 < Int.gcd a b := Int.gcd_pos_of_ne_zero_right _ (by omega)
  obtain ⟨c, hc⟩ := Int.gcd_dvd_right a b
  refine ⟨?_, Int.gcd_ediv_gcd_ediv_gcd hg⟩
  have e : b / (Int.gcd a b : Int) = c := Int.ediv_eq_of_eq_mul_right (by omega) hc
  rw [e]
  rcases Int.lt_or_le c 1 with h | h
  · have : (Int.gcd a b : Int) * c ≤ (Int.gcd a b : Int) * 0 := Int.mul_le_mul_of_nonneg_left (by omega) (by omega)
    omega
  · exact h
theorem gcd_of_dvd {a b m : Int} (h : a ∣ b) (hg : Int.gcd b m = 1) : Int.gcd a m = 1 := by
  have : Int.gcd a m ∣ Int.gcd b m := Int.gcd_dvd_gcd_of_dvd_left _ h
  rw [hg] at this
  exact Nat.dvd_one.mp this
def sp_law_is_integer : FSpec := fun args kr _ => ∃ n : Int, args = [.ro (.int n)] ∧ kr (.sh (.bl true)) []
end TL

namespace TL
open PySem L2
local macro_rules | `(tactic| walk_at "sx") => `(tactic| simp only [sSeq, sNil, sSet, sFrz, frz_o, frz_sh, frz_s, sIf, sRet, sRetN, sPass, sBrk, sPar, sSub, sApp, sExpr, sAsg, sAug, sFld, sRevI, sPop, eLoc, eC, eUn, eBin, eAnd, eOr, eNot, eIf, eTup, eLst, dNil, dCons, tVal_eq, tstD_bl, tAndW, tOrW, tNotW, eFld_eq, eFldD_o, eProp, eMeth, eMeth0, eSl, pNone, pSome, sl_l,
  out_sh, out_fr, get_loc, get_sh, get_fr, getL_z, getL_o, getL_s, bound_z, bound_o, bound_s, isOwn_o, isOwn_s, pok_loc, pok_sh, pok_fr, stl_loc, stlS_sh, stlS_own, stl_sh, stl_fr, lay_fr, lay_sh, lay_loc, envOf, slotsOf, valN, ghOf, endK, resK, exMu, muN, List.cons_append, List.nil_append, List.append_nil, List.length_cons, List.length_nil, Nat.reduceAdd, Nat.reduceSub, List.replicate_succ, List.replicate_zero, List.replicate,
  List.getElem?_cons_zero, List.getElem?_cons_succ, List.getElem?_nil, List.set_cons_zero, List.set_cons_succ,
  add_ii, add_ss, add_ll, sub_ii, mul_ii, fdv_ii, fdvN_ii, mod_ii, modN_ii, pow_ii, lt_ii, le_ii, gt_ii, ge_ii, eq_ii, ne_ii, ix_li, ix_ti, neg_i, abs_i, int_i, int_b, max_ii, min_ii, len_l, len_t, list_l, list_t, rev_l, isi_int, isi_bl, isi_tup, isi_lst, isi_non, isN_i, isN_n, isN_t, isN_l, notN_i, notN_n, notN_t, notN_l, isTy,
  atI0, atI1, atI2, ixN0, ixN1, ixN2, some_inj_ex, isObj, setAt0, setAt1, setAt2, setAt3, restE, keepS, wipeE, ↓reduceIte, if_false, if_true,
  eCall, eCallP, eMake, pm, List.filterMap_cons, List.filterMap_nil, agNil, agRo, agBo, agMu, agTm, callK, boIx, muIx, tms, argsK, upE, reown, hasBo, noTm, flatRo, noLstAll, noLst, noLsts, List.nodup_nil, List.nodup_cons, List.not_mem_nil, not_false_eq_true, Nat.zero_le, Nat.le_refl, Nat.reduceLeDiff, List.mem_cons, or_false, reduceCtorEq,
  gN, gTp, gCn, gNl, iR1, iR2, iLst, iTpl, iEnum, stab,
  true_and, and_true, Bool.true_eq_false, Bool.false_eq_true, false_imp_iff, forall_const, true_imp_iff, and_self, decide_eq_true_eq, decide_eq_false_iff_not, Bool.not_eq_true', Bool.not_eq_false'])
def b_law : SW := (sSeq (sSet 1 (eCall 2 sp_law_source (agRo (eLoc 0) (agRo (eC (.int 0)) agNil))))
  (sSeq (sFrz 2 (sSet 2 (eBin opAdd (eC (.int 2)) (eCall 2 sp_law_take (agMu 1 (agRo (eBin opIx (eLst (dCons (eC (.int 3)) (dCons (eC (.int 11)) (dCons (eC (.int 59)) dNil)))) (eCall 2 sp_law_take (agMu 1 (agRo (eC (.int 3)) agNil)))) agNil))))))
  (sSeq (sFrz 3 (sSet 3 (eCall 3 sp_law_rules (agMu 1 (agRo (eLoc 2) (agRo (eBin opPow (eC (.int 10)) (eC (.int 27))) agNil))))))
  (sSeq (sFrz 4 (sSet 4 (eMake 0 3 sp_Map_init (agRo (eLoc 2) (agRo (eUn opList (eLoc 3)) agNil)))))
  (sSeq (sSet 5 (eLst dNil))
  (sSeq (sFor (iR2 (dCons (eC (.int 1)) (dCons (eBin opMax2 (eC (.int 2)) (eBin opMin2 (eC (.int 31)) (eUn opLen (eLoc 0)))) dNil))) (gN 6) (sSeq (sFrz 7 (sSet 7 (eCall 2 sp_law_good (agTm (eCall 2 sp_law_source (agRo (eLoc 0) (agRo (eLoc 6) agNil))) (agRo (eLoc 2) agNil)))))
  (sSeq (sFrz 8 (sSet 8 (eCall 2 sp_remainder_of (agRo (eLoc 4) (agRo (eLoc 7) agNil)))))
  (sSeq (sIf (tOrW (tNotW (tVal (eCall 1 sp_law_is_integer (agRo (eLoc 8) agNil)))) (tOrW (tVal (eBin opLt (eLoc 8) (eC (.int 0)))) (tVal (eBin opGe (eLoc 8) (eLoc 2))))) (sRet (eC (.bl false))) sNil)
  (sSeq (sIf (tVal (eBin opNe (eBin opMod (eUn opInt (eBin opSub (eBin opMul (eLoc 8) (eBin opIx (eLoc 7) (eC (.int 1)))) (eBin opIx (eLoc 7) (eC (.int 0))))) (eLoc 2)) (eC (.int 0)))) (sRet (eC (.bl false))) sNil)
  (sApp 5 (eTup (dCons (eLoc 7) (dCons (eLoc 8) dNil)))))))))
  (sSeq (sFor (iLst (eUn opRev (eLoc 5))) (gTp 2 (gCn (gN 7) (gCn (gN 8) gNl))) (sIf (tVal (eBin opNe (eCallP 2 [0, 1] sp_remainder_of (agRo (eLoc 4) (agRo (eLoc 7) agNil))) (eLoc 8))) (sRet (eC (.bl false))) sNil))
  (sRet (eAnd (eBin opEq (eProp 0 sp_Map_modulus (eLoc 4)) (eLoc 2)) (eBin opEq (eProp 0 sp_Map_rules (eLoc 4)) (eLoc 3)))))))))))

theorem bez (a b : Nat) : ∃ u v : Int, u * a + v * b = Nat.gcd a b := by
  induction a, b using Nat.gcd.induction with
  | H0 n => exact ⟨0, 1, by simp⟩
  | H1 m n h ih =>
    obtain ⟨u, v, e⟩ := ih
    refine ⟨v - u * (n / m : Nat), u, ?_⟩
    rw [Nat.gcd_rec m n, ← e]
    have : ((n % m : Nat) : Int) = n - m * (n / m : Nat) := by
      have := Nat.mod_add_div n m
      omega
    rw [this]
    grind
theorem inv_ex {n m : Int} (hm : 0 < m) (hg : Int.gcd n m = 1) : ∃ u, m ∣ u * n - 1 := by
  obtain ⟨u, v, e⟩ := bez n.natAbs m.natAbs
  have h : Nat.gcd n.natAbs m.natAbs = 1 := hg
  rw [h] at e
  have em : (m.natAbs : Int) = m := by omega
  rw [em] at e
  rcases Int.natAbs_eq n with hn | hn
  · exact ⟨u, -v, by rw [hn]; grind⟩
  · refine ⟨-u, -v, ?_⟩
    have : n = -(n.natAbs : Int) := hn
    rw [this]; grind
theorem remF_spec {m t b : Int} (hm : 0 < m) (hg : Int.gcd b m = 1) : 0 ≤ remF m t b ∧ remF m t b < m ∧ (remF m t b * b - t) % m = 0 := by
  obtain ⟨u, hu⟩ := inv_ex hm hg
  have key : remF m t b = (t * u) % m := by
    refine remF_eq hm hg (Int.emod_nonneg _ (by omega)) (Int.emod_lt_of_pos _ hm) ?_
    apply Int.emod_eq_zero_of_dvd
    have e := Int.emod_add_mul_ediv (t * u) m
    have : (t * u) % m * b - t = t * (u * b - 1) - m * (t * u / m * b) := by
      have : (t * u) % m = t * u - m * (t * u / m) := by omega
      rw [this]; grind
    rw [this]
    exact Int.dvd_sub (Int.dvd_mul_of_dvd_right hu) (Int.dvd_mul_right _ _)
  refine ⟨by rw [key]; exact Int.emod_nonneg _ (by omega), by rw [key]; exact Int.emod_lt_of_pos _ hm, ?_⟩
  rw [key]
  apply Int.emod_eq_zero_of_dvd
  have e := Int.emod_add_mul_ediv (t * u) m
  have : (t * u) % m * b - t = t * (u * b - 1) - m * (t * u / m * b) := by
    have : (t * u) % m = t * u - m * (t * u / m) := by omega
    rw [this]; grind
  rw [this]
  exact Int.dvd_sub (Int.dvd_mul_of_dvd_right hu) (Int.dvd_mul_right _ _)

theorem eqDs_map {α : Type} [DecidableEq α] {f : α → D} (hf : ∀ a b, eqD (f a) (f b) = decide (a = b)) : ∀ xs ys : List α, eqDs (xs.map f) (ys.map f) = decide (xs = ys)
  | [], [] => rfl
  | [], y :: ys => rfl
  | x :: xs, [] => rfl
  | x :: xs, y :: ys => by
    have h1 := hf x y
    have h2 := eqDs_map hf xs ys
    have : eqDs ((x :: xs).map f) ((y :: ys).map f) = (eqD (f x) (f y) && eqDs (xs.map f) (ys.map f)) := rfl
    rw [this, h1, h2]
    simp
theorem okDs_map {α : Type} {n : Nat} {f : α → D} (hf : ∀ a, okD n (f a) = true) : ∀ xs : List α, okDs n (xs.map f) = true
  | [] => rfl
  | x :: xs => by
    have h1 := hf x
    have h2 := okDs_map hf xs
    have : okDs n ((x :: xs).map f) = (okD n (f x) && okDs n (xs.map f)) := rfl
    rw [this, h1, h2]; rfl
theorem eqD_encR (p q : Int × Int) : eqD (encR p) (encR q) = decide (p = q) := by
  have : eqD (encR p) (encR q) = (eqD (.int p.1) (.int q.1) && (eqD (.int p.2) (.int q.2) && true)) := rfl
  rw [this, eqD_int, eqD_int]
  rcases p with ⟨a, b⟩; rcases q with ⟨c, d⟩
  simp
theorem eqD_encRs (p q : List (Int × Int)) : eqD (encRs p) (encRs q) = decide (p = q) := eqDs_map eqD_encR p q
theorem okD_encR {n : Nat} (p : Int × Int) : okD (n + 1) (encR p) = true := rfl
theorem okD_encRs {n : Nat} (p : List (Int × Int)) : okD (n + 2) (encRs p) = true := okDs_map okD_encR p
theorem eq_rr {p q : List (Int × Int)} {k} : opEq (encRs p) (encRs q) k = k (.sh (.bl (decide (p = q)))) := by unfold opEq; rw [eqD_encRs, okD_encRs, okD_encRs]; exact propext ⟨fun h => h.2, fun h => ⟨⟨rfl, rfl⟩, h⟩⟩
theorem eq_r {p q : Int × Int} {k} : opEq (encR p) (encR q) k = k (.sh (.bl (decide (p = q)))) := by unfold opEq; rw [eqD_encR, okD_encR, okD_encR]; exact propext ⟨fun h => h.2, fun h => ⟨⟨rfl, rfl⟩, h⟩⟩
theorem ne_rr {p q : List (Int × Int)} {k} : opNe (encRs p) (encRs q) k = k (.sh (.bl (!decide (p = q)))) := by unfold opNe; rw [eqD_encRs, okD_encRs, okD_encRs]; exact propext ⟨fun h => h.2, fun h => ⟨⟨rfl, rfl⟩, h⟩⟩
theorem ne_r {p q : Int × Int} {k} : opNe (encR p) (encR q) k = k (.sh (.bl (!decide (p = q)))) := by unfold opNe; rw [eqD_encR, okD_encR, okD_encR]; exact propext ⟨fun h => h.2, fun h => ⟨⟨rfl, rfl⟩, h⟩⟩

def sp_law : FSpec := fun args kr _ => ∃ ns : List Int, args = [.ro (encZs ns)] ∧ (∀ n ∈ ns, Bt 2000000 n) ∧ ns.length ≤ 1000 ∧ kr (.sh (.bl true)) []
theorem sat_law : Sat 9 sp_law b_law := by
  rintro args mus kr kx hm ⟨ns, rfl, hns, hln, hk⟩
  obtain rfl := mus0 hm
  have cp : CPow 10 27 := by unfold CPow; decide
  have e27 : (10 : Int) ^ (Int.toNat 27) = 1000000000000000000000000000 := by decide
  unfold b_law
  walk_at "sx"
  rw [e27]
  refine ⟨ns, 0, rfl, by omega, hns, hln, fun x y c => ?_⟩
  walk_at "sx"
  refine ⟨x, y, 0, 3, 0, rfl, by omega, by unfold Bt; decide, by omega, by omega, by omega, fun t x z ht0 ht hz0 hzN => ?_⟩
  walk_at "sx"
  obtain ⟨top, htop, en⟩ := list3 (a := 3) (b := 11) (c := 59) ht0 ht
  rw [en]
  refine ⟨_, rfl, ?_⟩
  have ht : 3 ≤ top ∧ top ≤ 59 := by omega
  refine ⟨x, y, z, top, 1, rfl, by omega, (Bt.small (by omega) (by omega)).mono (by omega), hz0, by omega, by omega, fun t x z ht0 ht hz0 hzN => ?_⟩
  walk_at "sx"
  obtain ⟨base, hbase⟩ := Int.eq_ofNat_of_zero_le (show 0 ≤ 2 + t by omega)
  rw [hbase]
  refine ⟨cp, x, y, z, 1000000000000000000000000000, 2, base, rfl, by omega, by omega, by omega, (Bt.of (n := 100) (by omega) (by omega) (by omega)).mono (by omega), hz0, by omega, by omega, fun rs x z hrs hz0 hzN c2 => ?_⟩
  walk_at "sx"
  have hmap := hrs.map (by omega) (by omega)
  have hlen := hrs.len
  refine ⟨rs, by rw [hlen], hmap, fun c5 => ?_⟩
  unfold sFor
  walk_at "sx"
  simp only [List.length_map]
  refine ⟨by split <;> split <;> omega, fun i ρ => ∃ (as : List (Int × Int)) (e6 e7 e8 : Sl), ρ = [.sh (encZs ns), .own false c (src x y z), .sh (.int base), .sh (encRs rs), .sh (mapD rs), .own false c5 (.lst (as.map fun p => .tup [encR p, .int (remF base p.1 p.2)])), e6, e7, e8] ∧
    as.length = i ∧ ∀ p ∈ as, Good base p ∧ Bt 300 p.1, ⟨[], _, _, _, rfl, rfl, by simp⟩, fun _ _ _ _ => trivial, ?_, ?_⟩
  · rintro i d ρ hi hd ⟨as, e6, e7, e8, rfl, hal, has⟩
    have hi : i < 31 := by revert hi; split <;> split <;> omega
    subst hd
    walk_at "sx"
    refine ⟨ns, 1 + i, rfl, by omega, hns, hln, fun x' y' c6 => ?_⟩
    walk_at "sx"
    refine ⟨x', y', 0, 0, base, rfl, by omega, by omega, by omega, by omega, by omega, fun p x2 z2 hg hbt hbt2 _ _ => ?_⟩
    walk_at "sx"
    refine ⟨rs, p, rfl, hmap, by rw [hlen]; exact hg, hbt.mono (by omega), ?_⟩
    rw [hlen]
    walk_at "sx"
    refine ⟨_, rfl, ?_⟩
    walk_at "sx"
    obtain ⟨r0, r1, r2⟩ := remF_spec (t := p.1) (by omega) hg.2.2
    refine ⟨fun h => by omega, fun h => ⟨fun h => by omega, fun h => ?_⟩⟩
    have br : Bt 100 (remF base p.1 p.2) := (Bt.small (by omega) (by omega)).mono (by omega)
    refine ⟨br.mulOk hbt2 (by omega), by omega, fun h => absurd r2 h, fun _ => ⟨⟨_, _, _, rfl⟩, line_big (by simp; omega), as ++ [p], .sh (.int (1 + i)), .sh (encR p), .sh (.int (remF base p.1 p.2)), by simp, by simp; omega, ?_⟩⟩
    intro q hq
    rcases List.mem_append.mp hq with h | h
    · exact has q h
    · rw [List.mem_singleton.mp h]; exact ⟨hg, hbt⟩
  · rintro ρ ⟨as, e6, e7, e8, rfl, hal, has⟩
    walk_at "sx"
    refine ⟨fun i ρ => ∃ (e6 e7 e8 : Sl), ρ = [.sh (encZs ns), .own false c (src x y z), .sh (.int base), .sh (encRs rs), .sh (mapD rs), .own false c5 (.lst (as.map fun p => .tup [encR p, .int (remF base p.1 p.2)])), e6, e7, e8], ⟨_, _, _, rfl⟩, fun _ _ _ _ => trivial, ?_, ?_⟩
    · rintro i d ρ hi hd ⟨e6, e7, e8, rfl⟩
      rw [← List.map_reverse, List.getElem?_map] at hd
      cases hp : as.reverse[i]? with
      | none => rw [hp] at hd; cases hd
      | some p =>
        rw [hp] at hd
        cases hd
        have hpp := has p (List.mem_reverse.mp (List.mem_of_getElem? hp))
        walk_at "sx"
        refine ⟨rs, p, rfl, hmap, by rw [hlen]; exact hpp.1, hpp.2.mono (by omega), ?_⟩
        rw [hlen]
        walk_at "sx"
        simp
    · rintro ρ ⟨e6, e7, e8, rfl⟩
      walk_at "sx"
      refine ⟨rs, rfl, ?_⟩
      walk_at "sx"
      rw [hlen]
      simp only [decide_true, Bool.true_eq_false, forall_const, false_imp_iff, and_true]
      refine ⟨⟨rs, rfl, ?_⟩, fun h => absurd trivial h⟩
      walk_at "sx"
      rw [eq_rr, decide_eq_true rfl]
      walk_at "sx"
      exact hk
end TL

namespace TL
open PySem L2
local macro_rules | `(tactic| walk_at "sx") => `(tactic| simp only [sSeq, sNil, sSet, sFrz, frz_o, frz_sh, frz_s, sIf, sRet, sRetN, sPass, sBrk, sPar, sSub, sApp, sExpr, sAsg, sAug, sFld, sRevI, sPop, eLoc, eC, eUn, eBin, eAnd, eOr, eNot, eIf, eTup, eLst, dNil, dCons, tVal_eq, tstD_bl, tAndW, tOrW, tNotW, eFld_eq, eFldD_o, eProp, eMeth, eMeth0, eSl, pNone, pSome, sl_l,
  out_sh, out_fr, get_loc, get_sh, get_fr, getL_z, getL_o, getL_s, bound_z, bound_o, bound_s, isOwn_o, isOwn_s, pok_loc, pok_sh, pok_fr, stl_loc, stlS_sh, stlS_own, stl_sh, stl_fr, lay_fr, lay_sh, lay_loc, envOf, slotsOf, valN, ghOf, endK, resK, exMu, muN, List.cons_append, List.nil_append, List.append_nil, List.length_cons, List.length_nil, Nat.reduceAdd, Nat.reduceSub, List.replicate_succ, List.replicate_zero, List.replicate,
  List.getElem?_cons_zero, List.getElem?_cons_succ, List.getElem?_nil, List.set_cons_zero, List.set_cons_succ,
  add_ii, add_ss, add_ll, sub_ii, mul_ii, fdv_ii, fdvN_ii, mod_ii, modN_ii, pow_ii, lt_ii, le_ii, gt_ii, ge_ii, eq_ii, ne_ii, ix_li, ix_ti, neg_i, abs_i, int_i, int_b, max_ii, min_ii, len_l, len_t, list_l, list_t, rev_l, isi_int, isi_bl, isi_tup, isi_lst, isi_non, isN_i, isN_n, isN_t, isN_l, notN_i, notN_n, notN_t, notN_l, isTy,
  atI0, atI1, atI2, ixN0, ixN1, ixN2, some_inj_ex, isObj, setAt0, setAt1, setAt2, setAt3, restE, keepS, wipeE, ↓reduceIte, if_false, if_true,
  eCall, eCallP, eMake, pm, List.filterMap_cons, List.filterMap_nil, agNil, agRo, agBo, agMu, agTm, callK, boIx, muIx, tms, argsK, upE, reown, hasBo, noTm, flatRo, noLstAll, noLst, noLsts, List.nodup_nil, List.nodup_cons, List.not_mem_nil, not_false_eq_true, Nat.zero_le, Nat.le_refl, Nat.reduceLeDiff, List.mem_cons, or_false, reduceCtorEq,
  gN, gTp, gCn, gNl, iR1, iR2, iLst, iTpl, iEnum, stab,
  true_and, and_true, Bool.true_eq_false, Bool.false_eq_true, false_imp_iff, forall_const, true_imp_iff, and_self, decide_eq_true_eq, decide_eq_false_iff_not, Bool.not_eq_true', Bool.not_eq_false'])
def stepF (rs : List (Int × Int)) (p : Int × Int) : Int × Int :=
  ((((rs.getD (remF rs.length p.1 p.2).toNat (1, 0)).1 * p.1 + (rs.getD (remF rs.length p.1 p.2).toNat (1, 0)).2 * p.2) / rs.length) / (Int.gcd (((rs.getD (remF rs.length p.1 p.2).toNat (1, 0)).1 * p.1 + (rs.getD (remF rs.length p.1 p.2).toNat (1, 0)).2 * p.2) / rs.length) p.2 : Int),
   p.2 / (Int.gcd (((rs.getD (remF rs.length p.1 p.2).toNat (1, 0)).1 * p.1 + (rs.getD (remF rs.length p.1 p.2).toNat (1, 0)).2 * p.2) / rs.length) p.2 : Int))
def walkF (rs : List (Int × Int)) : Nat → Int × Int → Int × Int
  | 0, p => p
  | n + 1, p => stepF rs (walkF rs n p)
theorem walkF_add (rs : List (Int × Int)) (m : Nat) (p : Int × Int) : ∀ n, walkF rs n (walkF rs m p) = walkF rs (m + n) p
  | 0 => rfl
  | n + 1 => by
    show stepF rs (walkF rs n (walkF rs m p)) = stepF rs (walkF rs (m + n) p)
    rw [walkF_add rs m p n]
theorem stepF_good {rs : List (Int × Int)} {p : Int × Int} {m : Int} (h : Good m p) : Good m (stepF rs p) := by
  obtain ⟨h1, h2, h3⟩ := h
  have g := gcd_div (a := ((rs.getD (remF rs.length p.1 p.2).toNat (1, 0)).1 * p.1 + (rs.getD (remF rs.length p.1 p.2).toNat (1, 0)).2 * p.2) / rs.length) h1
  exact ⟨g.1, g.2, gcd_of_dvd (Int.ediv_dvd_of_dvd (Int.gcd_dvd_right _ _)) h3⟩
theorem walkF_good {rs : List (Int × Int)} {p : Int × Int} {m : Int} (h : Good m p) : ∀ n, Good m (walkF rs n p)
  | 0 => h
  | n + 1 => stepF_good (walkF_good h n)
theorem stepF_bot {rs : List (Int × Int)} {p : Int × Int} {n : Nat} (h : Bt n p.2) : Bt n (stepF rs p).2 := h.le (Int.natAbs_ediv_le_natAbs _ _)
theorem walkF_bot {rs : List (Int × Int)} {p : Int × Int} {n : Nat} (h : Bt n p.2) : ∀ k, Bt n (walkF rs k p).2
  | 0 => h
  | k + 1 => stepF_bot (walkF_bot h k)
def sp_lowest : FSpec := fun args kr _ => ∃ t b : Int, args = [.ro (.int t), .ro (.int b)] ∧ ((1 ≤ b ∧ Bt 8000 b ∧ kr (.sh (encR (t / (Int.gcd t b : Int), b / (Int.gcd t b : Int)))) []) ∨ (b < 0 ∧ Bt 8000 b ∧ kr (.sh (encR (-t / (Int.gcd (-t) (-b) : Int), -b / (Int.gcd (-t) (-b) : Int)))) []))
theorem DivOk.gcd {t b : Int} (h1 : 1 ≤ b) (h : Bt 8000 b) : DivOk (Int.gcd t b : Int) := by
  have gp : 0 < Int.gcd t b := Int.gcd_pos_of_ne_zero_right _ (by omega)
  have gl : (Int.gcd t b : Int) ≤ b := Int.le_of_dvd (by omega) (Int.gcd_dvd_right _ _)
  exact DivOk.of (by omega) (h.le (by omega)) (by omega)
/- lowest: 0:top 1:bottom 2:common -/
def b_lowest : SW := (sSeq (sIf (tVal (eBin opLt (eLoc 1) (eC (.int 0)))) (sSeq (sSet 0 (eUn opNeg (eLoc 0)))
  (sSet 1 (eUn opNeg (eLoc 1)))) sNil)
  (sSeq (sFrz 2 (sSet 2 (eCall 2 sp_gcd (agRo (eLoc 0) (agRo (eLoc 1) agNil)))))
  (sRet (eTup (dCons (eBin opFdv (eLoc 0) (eLoc 2)) (dCons (eBin opFdv (eLoc 1) (eLoc 2)) dNil))))))
theorem sat_lowest : Sat 3 sp_lowest b_lowest := by
  rintro args mus kr kx hm ⟨t, b, rfl, ⟨h1, hb, hk⟩ | ⟨h1, hb, hk⟩⟩
  · obtain rfl := mus0 hm
    unfold b_lowest
    walk_at "sx"
    refine ⟨fun h => absurd h (by omega), fun _ => ⟨t, b, rfl, ?_⟩⟩
    walk_at "sx"
    exact ⟨DivOk.gcd h1 hb, DivOk.gcd h1 hb, hk⟩
  · obtain rfl := mus0 hm
    have h2 : 1 ≤ -b := by omega
    have hb2 : Bt 8000 (-b) := hb.le (by omega)
    unfold b_lowest
    walk_at "sx"
    refine ⟨fun _ => ⟨-t, -b, rfl, ?_⟩, fun h => absurd h1 h⟩
    walk_at "sx"
    exact ⟨DivOk.gcd h2 hb2, DivOk.gcd h2 hb2, hk⟩
def sp_stepped : FSpec := fun args kr _ => ∃ rs p, args = [.ro (.int (rs.length : Nat)), .ro (encRs rs), .ro (encR p)] ∧ MapOk rs ∧ Good rs.length p ∧ Bt 80000000 p.1 ∧ Bt 8000 p.2 ∧ kr (.sh (encR (stepF rs p))) []
theorem atI_map {α : Type} {f : α → D} {rs : List α} {i : Int} {x : α} (h0 : 0 ≤ i) (h1 : i < rs.length) : L2.atI (rs.map f) i = some (f (rs.getD i.toNat x)) := by
  rw [atI_int h0 (by simpa using h1)]
  simp only [List.getElem_map]
  rw [List.getD_eq_getElem?_getD, List.getElem?_eq_getElem (by omega)]
  rfl
theorem mem_getD {α : Type} {rs : List α} {i : Int} {x : α} (h0 : 0 ≤ i) (h1 : i < rs.length) : rs.getD i.toNat x ∈ rs := by
  rw [List.getD_eq_getElem?_getD, List.getElem?_eq_getElem (by omega)]
  exact List.getElem_mem _
theorem MapOk.pos {rs : List (Int × Int)} (h : MapOk rs) : 0 < (rs.length : Int) := by have := h.two; omega
theorem MapOk.div {rs : List (Int × Int)} (h : MapOk rs) : DivOk (rs.length : Int) := DivOk.of h.pos h.bt (by omega)
/- stepped: 0:modulus 1:rules 2:number 3:top 4:bottom 5:a 6:b -/
def b_stepped : SW := (sSeq (sAsg (eLoc 2) (gTp 2 (gCn (gN 3) (gCn (gN 4) gNl))))
  (sSeq (sAsg (eBin opIx (eLoc 1) (eCall 2 sp_remainder_by (agRo (eLoc 0) (agRo (eLoc 2) agNil)))) (gTp 2 (gCn (gN 5) (gCn (gN 6) gNl))))
  (sRet (eCall 2 sp_lowest (agRo (eBin opFdv (eBin opAdd (eBin opMul (eLoc 5) (eLoc 3)) (eBin opMul (eLoc 6) (eLoc 4))) (eLoc 0)) (agRo (eLoc 4) agNil))))))
theorem sat_stepped : Sat 7 sp_stepped b_stepped := by
  rintro args mus kr kx hm ⟨rs, p, rfl, ho, hg, ht, hb, hk⟩
  obtain rfl := mus0 hm
  unfold b_stepped
  walk_at "sx"
  refine ⟨rs.length, p, rfl, ho.pos, hg.2.2, ho.bt, ht.mono (by omega), ?_⟩
  walk_at "sx"
  obtain ⟨r0, r1, _⟩ := remF_spec (t := p.1) ho.pos hg.2.2
  rw [atI_map (x := (1, 0)) r0 r1]
  refine ⟨_, rfl, ?_⟩
  walk_at "sx"
  have hs := ho.sz _ (mem_getD (x := (1, 0)) r0 r1)
  exact ⟨hs.1.mulOk ht (by omega), hs.2.mulOk hb (by omega), ho.div, _, _, rfl, .inl ⟨hg.1, hb, hk⟩⟩
def sp_check_number : FSpec := fun args kr _ => ∃ a b : Int, args = [.ro (.int a), .ro (.int b)] ∧ b ≤ a ∧ kr (.sh .non) []
/- check_number: 0:number 1:least -/
def b_check_number : SW := (sIf (tVal (eBin opLt (eLoc 0) (eLoc 1))) sNever sNil)
theorem sat_check_number : Sat 2 sp_check_number b_check_number := by
  rintro args mus kr kx hm ⟨a, b, rfl, h, hk⟩
  obtain rfl := mus0 hm
  unfold b_check_number
  walk_at "sx"
  exact ⟨fun z => absurd z (by omega), fun _ => hk⟩
abbrev trk (rs : List (Int × Int)) (p : Int × Int) (n : Nat) : List (Int × Int) := (List.range n).map fun i => walkF rs i p
theorem trk_succ (rs : List (Int × Int)) (p : Int × Int) (n : Nat) : encRs (trk rs p (n + 1)) = .lst ((trk rs p n).map encR ++ [encR (walkF rs n p)]) := by
  unfold encRs trk
  rw [List.range_succ, List.map_append, List.map_append]
  rfl
theorem atI_last {α : Type} {xs : List α} {x : α} : L2.atI (xs ++ [x]) (-1) = some x := by
  unfold L2.atI ixN
  rw [if_neg (by omega), if_pos (by simp; omega)]
  show (xs ++ [x])[(-1 + ((xs ++ [x]).length : Int)).toNat]? = _
  have : (-1 + ((xs ++ [x]).length : Int)).toNat = xs.length := by simp; omega
  rw [this, List.getElem?_append_right (Nat.le_refl _)]
  simp
theorem trk_last (rs : List (Int × Int)) (p : Int × Int) (i : Nat) : L2.atI ((trk rs p (i + 1)).map encR) (-1) = some (encR (walkF rs i p)) := by
  have h := trk_succ rs p i
  injection h with h
  rw [h]
  exact atI_last
def sp_walk : FSpec := fun args kr _ => ∃ rs p, ∃ n : Nat, args = [.ro (mapD rs), .ro (encR p), .ro (.int n)] ∧ MapOk rs ∧ Good rs.length p ∧ (∀ i, i ≤ n → Bt 80000000 (walkF rs i p).1) ∧ Bt 8000 p.2 ∧ n ≤ 100000 ∧ kr (.fr (encRs (trk rs p (n + 1)))) []
/- walk: 0:rule_map 1:number 2:steps 3:modulus 4:rules 5:found 6:turn -/
def b_walk : SW := (sSeq (sExpr (eCall 2 sp_check_fraction (agRo (eLoc 0) (agRo (eLoc 1) agNil))))
  (sSeq (sExpr (eCall 2 sp_check_number (agRo (eLoc 2) (agRo (eC (.int 0)) agNil))))
  (sSeq (sFrz 3 (sSet 3 (eProp 0 sp_Map_modulus (eLoc 0))))
  (sSeq (sFrz 4 (sSet 4 (eProp 0 sp_Map_rules (eLoc 0))))
  (sSeq (sSet 5 (eLst (dCons (eLoc 1) dNil)))
  (sSeq (sFor (iR1 (dCons (eLoc 2) dNil)) (gN 6) (sApp 5 (eCall 3 sp_stepped (agRo (eLoc 3) (agRo (eLoc 4) (agRo (eBin opIx (eLoc 5) (eUn opNeg (eC (.int 1)))) agNil))))))
  (sRet (eLoc 5))))))))
theorem sat_walk : Sat 7 sp_walk b_walk := by
  rintro args mus kr kx hm ⟨rs, p, n, rfl, ho, hg, ht, hb, hn, hk⟩
  obtain rfl := mus0 hm
  unfold b_walk
  walk_at "sx"
  refine ⟨rs, p, rfl, hg, ?_⟩
  walk_at "sx"
  refine ⟨n, 0, rfl, by omega, ?_⟩
  walk_at "sx"
  refine ⟨rs, rfl, ?_⟩
  walk_at "sx"
  refine ⟨rs, rfl, ?_⟩
  walk_at "sx"
  intro c
  unfold sFor
  walk_at "sx"
  refine ⟨by omega, fun i ρ => ∃ e6, ρ = [.sh (mapD rs), .sh (encR p), .sh (.int n), .sh (.int rs.length), .sh (encRs rs), .own false c (encRs (trk rs p (i + 1))), e6], ⟨_, rfl⟩, fun _ _ _ _ => trivial, ?_, ?_⟩
  · rintro i d ρ hi rfl ⟨e6, rfl⟩
    have hi : i < n := by simpa using hi
    walk_at "sx"
    refine ⟨⟨_, _, _, rfl⟩, _, trk_last rs p i, rs, walkF rs i p, rfl, ho, walkF_good hg i, ht i (by omega), walkF_bot hb i, ?_⟩
    walk_at "sx"
    refine ⟨line_big (by simp; omega), .sh (.int i), ?_⟩
    rw [trk_succ rs p (i + 1)]
    rfl
  · rintro ρ ⟨e6, rfl⟩
    walk_at "sx"
    exact hk
def sp_after : FSpec := fun args kr _ => ∃ rs p, ∃ n : Nat, args = [.ro (mapD rs), .ro (encR p), .ro (.int n)] ∧ MapOk rs ∧ Good rs.length p ∧ (∀ i, i ≤ n → Bt 80000000 (walkF rs i p).1) ∧ Bt 8000 p.2 ∧ n ≤ 100000 ∧ kr (.sh (encR (walkF rs n p))) []
/- after: 0:rule_map 1:number 2:steps -/
def b_after : SW := (sRet (eBin opIx (eCall 3 sp_walk (agRo (eLoc 0) (agRo (eLoc 1) (agRo (eLoc 2) agNil)))) (eUn opNeg (eC (.int 1)))))
theorem sat_after : Sat 3 sp_after b_after := by
  rintro args mus kr kx hm ⟨rs, p, n, rfl, ho, hg, ht, hb, hn, hk⟩
  obtain rfl := mus0 hm
  unfold b_after
  walk_at "sx"
  refine ⟨rs, p, n, rfl, ho, hg, ht, hb, hn, fun c => ?_⟩
  walk_at "sx"
  exact ⟨_, trk_last rs p n, hk⟩

/-! ### the law's own steps -/
/- _law_step: 0:base 1:rules 2:value 3:top 4:bottom 5:spot 6:remainder 7:a 8:b 9:common -/
/- _law_walked: 0:base 1:rules 2:value 3:count 4:places 5:path 6:turn 7:spot -/
/- _law_is_pair: 0:value -/
theorem get_map {α β : Type} {f : α → β} {rs : List α} {i : Nat} {d : β} (h : (rs.map f)[i]? = some d) : ∃ p, rs[i]? = some p ∧ d = f p := by
  rw [List.getElem?_map] at h
  cases hp : rs[i]? with
  | none => rw [hp] at h; cases h
  | some p => rw [hp] at h; cases h; exact ⟨p, rfl, rfl⟩
theorem all_true {n : Nat} : (List.replicate n true).all id = true := by induction n <;> simp_all
/- _law_are_pairs: 0:value 1:many 2:entry -/
end TL

namespace TL
open PySem L2
local macro_rules | `(tactic| walk_at "sx") => `(tactic| simp only [sSeq, sNil, sSet, sFrz, frz_o, frz_sh, frz_s, sIf, sRet, sRetN, sPass, sBrk, sPar, sSub, sApp, sExpr, sAsg, sAug, sFld, sRevI, sPop, eLoc, eC, eUn, eBin, eAnd, eOr, eNot, eIf, eTup, eLst, dNil, dCons, tVal_eq, tstD_bl, tAndW, tOrW, tNotW, eFld_eq, eFldD_o, eProp, eMeth, eMeth0, eSl, pNone, pSome, sl_l,
  out_sh, out_fr, get_loc, get_sh, get_fr, getL_z, getL_o, getL_s, bound_z, bound_o, bound_s, isOwn_o, isOwn_s, pok_loc, pok_sh, pok_fr, stl_loc, stlS_sh, stlS_own, stl_sh, stl_fr, lay_fr, lay_sh, lay_loc, envOf, slotsOf, valN, ghOf, endK, resK, exMu, muN, List.cons_append, List.nil_append, List.append_nil, List.length_cons, List.length_nil, Nat.reduceAdd, Nat.reduceSub, List.replicate_succ, List.replicate_zero, List.replicate,
  List.getElem?_cons_zero, List.getElem?_cons_succ, List.getElem?_nil, List.set_cons_zero, List.set_cons_succ,
  add_ii, add_ss, add_ll, sub_ii, mul_ii, fdv_ii, fdvN_ii, mod_ii, modN_ii, pow_ii, lt_ii, le_ii, gt_ii, ge_ii, eq_ii, ne_ii, ix_li, ix_ti, neg_i, abs_i, int_i, int_b, max_ii, min_ii, len_l, len_t, list_l, list_t, rev_l, isi_int, isi_bl, isi_tup, isi_lst, isi_non, isN_i, isN_n, isN_t, isN_l, notN_i, notN_n, notN_t, notN_l, isTy,
  atI0, atI1, atI2, ixN0, ixN1, ixN2, some_inj_ex, isObj, setAt0, setAt1, setAt2, setAt3, restE, keepS, wipeE, ↓reduceIte, if_false, if_true,
  eCall, eCallP, eMake, pm, List.filterMap_cons, List.filterMap_nil, agNil, agRo, agBo, agMu, agTm, callK, boIx, muIx, tms, argsK, upE, reown, hasBo, noTm, flatRo, noLstAll, noLst, noLsts, List.nodup_nil, List.nodup_cons, List.not_mem_nil, not_false_eq_true, Nat.zero_le, Nat.le_refl, Nat.reduceLeDiff, List.mem_cons, or_false, reduceCtorEq,
  gN, gTp, gCn, gNl, iR1, iR2, iLst, iTpl, iEnum, stab,
  true_and, and_true, Bool.true_eq_false, Bool.false_eq_true, false_imp_iff, forall_const, true_imp_iff, and_self, decide_eq_true_eq, decide_eq_false_iff_not, Bool.not_eq_true', Bool.not_eq_false'])
/-! ### sizes along a walk -/
theorem step_size {base : Nat} {rs : List (Int × Int)} {p : Int × Int} {n : Nat} (hr : RulesOk base rs) (h2 : 2 ≤ base) (hg : Good rs.length p) (h1 : Bt n p.1) (hb : Bt 300 p.2) (hn : 1000 ≤ n) : Bt (n + 50) (stepF rs p).1 := by
  obtain ⟨r0, r1, _⟩ := remF_spec (t := p.1) (m := rs.length) (by rw [hr.len]; omega) hg.2.2
  have hm := List.getElem?_of_mem (mem_getD (x := ((1 : Int), (0 : Int))) r0 r1)
  obtain ⟨i, hi⟩ := hm
  have q := hr.ok i _ hi
  have ba : Bt 40 (rs.getD (remF rs.length p.1 p.2).toNat (1, 0)).1 := Bt.small (by have := q.1.1; omega) (by omega)
  have b1 := (ba.mul h1).mono (show 40 + n ≤ 40 + n from Nat.le_refl _)
  have b2 := (q.2.2.mul hb).mono (show 600 + 300 ≤ 40 + n by omega)
  have b3 := b1.add b2
  exact ((b3.le (Int.natAbs_ediv_le_natAbs _ _)).le (Int.natAbs_ediv_le_natAbs _ _)).mono (by omega)
namespace K14
/- _law_right: 0:chart 1:base 2:rules 3:value 4:count 5:found 6:last 7:kept 8:half -/
/- law: 0:script 1:source 2:base 3:rules 4:chart 5:k 6:value 7:count -/
end K14
end TL

namespace TL
open PySem L2
local macro_rules | `(tactic| walk_at "sx") => `(tactic| simp only [sSeq, sNil, sSet, sFrz, frz_o, frz_sh, frz_s, sIf, sRet, sRetN, sPass, sBrk, sPar, sSub, sApp, sExpr, sAsg, sAug, sFld, sRevI, sPop, eLoc, eC, eUn, eBin, eAnd, eOr, eNot, eIf, eTup, eLst, dNil, dCons, tVal_eq, tstD_bl, tAndW, tOrW, tNotW, eFld_eq, eFldD_o, eProp, eMeth, eMeth0, eSl, pNone, pSome, sl_l,
  out_sh, out_fr, get_loc, get_sh, get_fr, getL_z, getL_o, getL_s, bound_z, bound_o, bound_s, isOwn_o, isOwn_s, pok_loc, pok_sh, pok_fr, stl_loc, stlS_sh, stlS_own, stl_sh, stl_fr, lay_fr, lay_sh, lay_loc, envOf, slotsOf, valN, ghOf, endK, resK, exMu, muN, List.cons_append, List.nil_append, List.append_nil, List.length_cons, List.length_nil, Nat.reduceAdd, Nat.reduceSub, List.replicate_succ, List.replicate_zero, List.replicate,
  List.getElem?_cons_zero, List.getElem?_cons_succ, List.getElem?_nil, List.set_cons_zero, List.set_cons_succ,
  add_ii, add_ss, add_ll, sub_ii, mul_ii, fdv_ii, fdvN_ii, mod_ii, modN_ii, pow_ii, lt_ii, le_ii, gt_ii, ge_ii, eq_ii, ne_ii, ix_li, ix_ti, neg_i, abs_i, int_i, int_b, max_ii, min_ii, len_l, len_t, list_l, list_t, rev_l, isi_int, isi_bl, isi_tup, isi_lst, isi_non, isN_i, isN_n, isN_t, isN_l, notN_i, notN_n, notN_t, notN_l, isTy,
  atI0, atI1, atI2, ixN0, ixN1, ixN2, some_inj_ex, isObj, setAt0, setAt1, setAt2, setAt3, restE, keepS, wipeE, ↓reduceIte, if_false, if_true,
  eCall, eCallP, eMake, pm, List.filterMap_cons, List.filterMap_nil, agNil, agRo, agBo, agMu, agTm, callK, boIx, muIx, tms, argsK, upE, reown, hasBo, noTm, flatRo, noLstAll, noLst, noLsts, List.nodup_nil, List.nodup_cons, List.not_mem_nil, not_false_eq_true, Nat.zero_le, Nat.le_refl, Nat.reduceLeDiff, List.mem_cons, or_false, reduceCtorEq,
  gN, gTp, gCn, gNl, iR1, iR2, iLst, iTpl, iEnum, stab,
  true_and, and_true, Bool.true_eq_false, Bool.false_eq_true, false_imp_iff, forall_const, true_imp_iff, and_self, decide_eq_true_eq, decide_eq_false_iff_not, Bool.not_eq_true', Bool.not_eq_false'])
/-! ### lists of numbers, slices -/
theorem eqD_encZs (p q : List Int) : eqD (encZs p) (encZs q) = decide (p = q) := eqDs_map (fun _ _ => eqD_int) p q
theorem okD_encZs {n : Nat} (p : List Int) : okD (n + 1) (encZs p) = true := okDs_map (fun _ => okD_int) p
theorem ne_zz {p q : List Int} {k} : opNe (encZs p) (encZs q) k = k (.sh (.bl (!decide (p = q)))) := by unfold opNe; rw [eqD_encZs, okD_encZs, okD_encZs]; exact propext ⟨fun h => h.2, fun h => ⟨⟨rfl, rfl⟩, h⟩⟩
theorem cutL_take {α : Type} {xs : List α} {n : Nat} (h : n ≤ xs.length) : cutL xs none (some (n : Int)) = xs.take n := by
  unfold cutL
  rw [HT.sIx_none, HT.sIx_nat, Nat.min_eq_left h]
  rfl
theorem cutL_drop {α : Type} {xs : List α} {n : Nat} (h : n ≤ xs.length) : cutL xs (some (n : Int)) none = xs.drop n := by
  unfold cutL
  rw [HT.sIx_none, HT.sIx_nat, Nat.min_eq_left h]
  exact List.take_of_length_le (by simp)
theorem cutL_init {α : Type} {xs : List α} {x : α} : cutL (xs ++ [x]) none (some (-1)) = xs := by
  unfold cutL
  rw [HT.sIx_none]
  have : HT.sIx (xs ++ [x]).length (xs ++ [x]).length (some (-1)) = xs.length := by
    show (if (-1 : Int) < 0 then ((-1 : Int) + ((xs ++ [x]).length : Int)).toNat else min (-1 : Int).toNat (xs ++ [x]).length) = _
    rw [if_pos (by omega)]
    simp
    omega
  rw [this]
  exact List.take_left' rfl
def wordF (rs : List (Int × Int)) (p : Int × Int) (n : Nat) : List Int := (List.range n).map fun i => remF rs.length (walkF rs i p).1 (walkF rs i p).2
theorem wordF_succ (rs : List (Int × Int)) (p : Int × Int) (n : Nat) : wordF rs p (n + 1) = wordF rs p n ++ [remF rs.length (walkF rs n p).1 (walkF rs n p).2] := by
  unfold wordF
  rw [List.range_succ, List.map_append]
  rfl
theorem wordF_len (rs : List (Int × Int)) (p : Int × Int) (n : Nat) : (wordF rs p n).length = n := by unfold wordF; simp
theorem wordF_add (rs : List (Int × Int)) (p : Int × Int) (a : Nat) : ∀ b, wordF rs p (a + b) = wordF rs p a ++ wordF rs (walkF rs a p) b
  | 0 => by simp [wordF]
  | b + 1 => by
    rw [← Nat.add_assoc, wordF_succ, wordF_succ, wordF_add rs p a b, walkF_add, List.append_assoc]
def sp_word_of : FSpec := fun args kr _ => ∃ rs p, ∃ n : Nat, args = [.ro (mapD rs), .ro (encR p), .ro (.int n)] ∧ MapOk rs ∧ Good rs.length p ∧ (∀ i, i ≤ n → Bt 80000000 (walkF rs i p).1) ∧ Bt 8000 p.2 ∧ n ≤ 100000 ∧ kr (.fr (encZs (wordF rs p n))) []
/- word_of: 0:rule_map 1:number 2:steps 3:modulus 4:place -/
def b_word_of : SW := (sSeq (sFrz 3 (sSet 3 (eProp 0 sp_Map_modulus (eLoc 0))))
  (sRet (eComp (iLst (eSl (eCall 3 sp_walk (agRo (eLoc 0) (agRo (eLoc 1) (agRo (eLoc 2) agNil)))) pNone (pSome (eUn opNeg (eC (.int 1)))))) (gN 4) tYesW (eCall 2 sp_remainder_by (agRo (eLoc 3) (agRo (eLoc 4) agNil))) [4])))
theorem sat_word_of : Sat 5 sp_word_of b_word_of := by
  rintro args mus kr kx hm ⟨rs, p, n, rfl, ho, hg, ht, hb, hn, hk⟩
  obtain rfl := mus0 hm
  unfold b_word_of
  walk_at "sx"
  refine ⟨rs, rfl, ?_⟩
  walk_at "sx"
  simp only [eComp, iLst, tYesW]
  walk_at "sx"
  refine ⟨rs, p, n, rfl, ho, hg, ht, hb, hn, fun c => ?_⟩
  walk_at "sx"
  have e : cutL ((trk rs p (n + 1)).map encR) none (some (-1)) = (trk rs p n).map encR := by
    have h := trk_succ rs p n
    injection h with h
    rw [h]
    exact cutL_init
  rw [e]
  refine ⟨fun i acc ρ => acc = (wordF rs p i).map D.int ∧ ρ = [.sh (mapD rs), .sh (encR p), .sh (.int n), .sh (.int rs.length), .no], ⟨rfl, rfl⟩, fun _ _ _ _ _ => trivial, ?_, ?_⟩
  · rintro i d acc ρ hi hd ⟨rfl, rfl⟩
    obtain ⟨q, hq, rfl⟩ := get_map hd
    obtain ⟨i2, hi2, rfl⟩ := get_map hq
    have hi : i < n := by simpa using hi
    rw [List.getElem?_range hi] at hi2
    cases hi2
    walk_at "sx"
    refine ⟨rs.length, walkF rs i p, rfl, ho.pos, (walkF_good hg i).2.2, ho.bt, (ht i (by omega)).mono (by omega), ?_⟩
    walk_at "sx"
    refine ⟨line_big (by simp [wordF_len]; omega), ?_⟩
    rw [wordF_succ, List.map_append]
    rfl
  · rintro acc ρ ⟨rfl, rfl⟩
    walk_at "sx"
    have e2 : ((trk rs p n).map encR).length = n := by simp
    rw [e2]
    exact hk
/- _law_is_word: 0:value 1:many 2:entry -/
end TL

namespace TL
open PySem L2
local macro_rules | `(tactic| walk_at "sx") => `(tactic| simp only [sSeq, sNil, sSet, sFrz, frz_o, frz_sh, frz_s, sIf, sRet, sRetN, sPass, sBrk, sPar, sSub, sApp, sExpr, sAsg, sAug, sFld, sRevI, sPop, eLoc, eC, eUn, eBin, eAnd, eOr, eNot, eIf, eTup, eLst, dNil, dCons, tVal_eq, tstD_bl, tAndW, tOrW, tNotW, eFld_eq, eFldD_o, eProp, eMeth, eMeth0, eSl, pNone, pSome, sl_l,
  out_sh, out_fr, get_loc, get_sh, get_fr, getL_z, getL_o, getL_s, bound_z, bound_o, bound_s, isOwn_o, isOwn_s, pok_loc, pok_sh, pok_fr, stl_loc, stlS_sh, stlS_own, stl_sh, stl_fr, lay_fr, lay_sh, lay_loc, envOf, slotsOf, valN, ghOf, endK, resK, exMu, muN, List.cons_append, List.nil_append, List.append_nil, List.length_cons, List.length_nil, Nat.reduceAdd, Nat.reduceSub, List.replicate_succ, List.replicate_zero, List.replicate,
  List.getElem?_cons_zero, List.getElem?_cons_succ, List.getElem?_nil, List.set_cons_zero, List.set_cons_succ,
  add_ii, add_ss, add_ll, sub_ii, mul_ii, fdv_ii, fdvN_ii, mod_ii, modN_ii, pow_ii, lt_ii, le_ii, gt_ii, ge_ii, eq_ii, ne_ii, ix_li, ix_ti, neg_i, abs_i, int_i, int_b, max_ii, min_ii, len_l, len_t, list_l, list_t, rev_l, isi_int, isi_bl, isi_tup, isi_lst, isi_non, isN_i, isN_n, isN_t, isN_l, notN_i, notN_n, notN_t, notN_l, isTy,
  atI0, atI1, atI2, ixN0, ixN1, ixN2, some_inj_ex, isObj, setAt0, setAt1, setAt2, setAt3, restE, keepS, wipeE, ↓reduceIte, if_false, if_true,
  eCall, eCallP, eMake, pm, List.filterMap_cons, List.filterMap_nil, agNil, agRo, agBo, agMu, agTm, callK, boIx, muIx, tms, argsK, upE, reown, hasBo, noTm, flatRo, noLstAll, noLst, noLsts, List.nodup_nil, List.nodup_cons, List.not_mem_nil, not_false_eq_true, Nat.zero_le, Nat.le_refl, Nat.reduceLeDiff, List.mem_cons, or_false, reduceCtorEq,
  gN, gTp, gCn, gNl, iR1, iR2, iLst, iTpl, iEnum, stab,
  true_and, and_true, Bool.true_eq_false, Bool.false_eq_true, false_imp_iff, forall_const, true_imp_iff, and_self, decide_eq_true_eq, decide_eq_false_iff_not, Bool.not_eq_true', Bool.not_eq_false'])
theorem snocRec {α : Type} {motive : List α → Prop} (nil : motive []) (append_singleton : ∀ (ws : List α) (e : α), motive ws → motive (ws ++ [e])) (ws : List α) : motive ws := by
  have h : ∀ n (xs : List α), xs.length = n → motive xs := by
    intro n
    induction n with
    | zero => intro xs h; rw [List.length_eq_zero_iff.mp h]; exact nil
    | succ n ih =>
      intro xs h
      have hne : xs ≠ [] := by intro z; subst z; simp at h
      rw [← List.dropLast_concat_getLast hne]
      exact append_singleton _ _ (ih _ (by simp; omega))
  exact h _ ws rfl
/-! ### whole numbers walk -/
def ruleAt (rs : List (Int × Int)) (e : Int) : Int × Int := rs.getD e.toNat (1, 0)
def zStep (rs : List (Int × Int)) (x : Int) : Int := ((ruleAt rs (x % rs.length)).1 * x + (ruleAt rs (x % rs.length)).2) / rs.length
def zWalk (rs : List (Int × Int)) (x : Int) : Nat → Int
  | 0 => x
  | n + 1 => zStep rs (zWalk rs x n)
def zWord (rs : List (Int × Int)) (x : Int) (n : Nat) : List Int := (List.range n).map fun i => zWalk rs x i % rs.length
theorem zWord_succ (rs : List (Int × Int)) (x : Int) (n : Nat) : zWord rs x (n + 1) = zWord rs x n ++ [zWalk rs x n % rs.length] := by
  unfold zWord
  rw [List.range_succ, List.map_append]
  rfl
theorem remF_one {m y : Int} (hm : 0 < m) : remF m y 1 = y % m := by
  have e := Int.emod_add_mul_ediv y m
  refine remF_eq hm (by simp) (Int.emod_nonneg _ (by omega)) (Int.emod_lt_of_pos _ hm) ?_
  apply Int.emod_eq_zero_of_dvd
  exact ⟨-(y / m), by rw [Int.mul_neg]; omega⟩
theorem stepF_one {rs : List (Int × Int)} {x : Int} (h : 0 < (rs.length : Int)) : stepF rs (x, 1) = (zStep rs x, 1) := by
  unfold stepF zStep ruleAt
  show ((((rs.getD (remF rs.length x 1).toNat (1, 0)).1 * x + (rs.getD (remF rs.length x 1).toNat (1, 0)).2 * 1) / rs.length) / _, (1 : Int) / _) = _
  rw [remF_one h]
  simp
theorem walkF_one {rs : List (Int × Int)} {x : Int} (h : 0 < (rs.length : Int)) : ∀ n, walkF rs n (x, 1) = (zWalk rs x n, 1)
  | 0 => rfl
  | n + 1 => by
    show stepF rs (walkF rs n (x, 1)) = _
    rw [walkF_one h n, stepF_one h]
    rfl
/-! ### forms -/
abbrev Fm := Int × Int × Int
abbrev encF (f : Fm) : D := .tup [.int f.1, .int f.2.1, .int f.2.2]
def joinF (f : Fm) (r : Int × Int) (m : Int) : Fm := (r.1 * f.1, r.1 * f.2.1 + r.2 * f.2.2, m * f.2.2)
def formF (rs : List (Int × Int)) (ws : List Int) : Fm := ws.foldl (fun f e => joinF f (ruleAt rs e) rs.length) (1, 0, 1)
theorem formF_snoc (rs : List (Int × Int)) (ws : List Int) (e : Int) : formF rs (ws ++ [e]) = joinF (formF rs ws) (ruleAt rs e) rs.length := by
  unfold formF
  rw [List.foldl_append]
  rfl
theorem formF_scale (rs : List (Int × Int)) (ws : List Int) : (formF rs ws).2.2 = (rs.length : Int) ^ ws.length := by
  induction ws using snocRec with
  | nil => rfl
  | append_singleton ws e ih =>
    rw [formF_snoc, List.length_append, List.length_singleton, Int.pow_succ, ← ih]
    exact Int.mul_comm _ _
/-- all entries are remainders -/
def Wd (m : Int) (ws : List Int) : Prop := ∀ e ∈ ws, 0 ≤ e ∧ e < m
theorem ruleAt_ok {rs : List (Int × Int)} (h : MapOk rs) {e : Int} (h0 : 0 ≤ e) (h1 : e < rs.length) : RuleOk rs.length e (ruleAt rs e) := by
  unfold ruleAt
  rw [List.getD_eq_getElem?_getD]
  cases hh : rs[e.toNat]? with
  | none => rw [List.getElem?_eq_none_iff] at hh; omega
  | some p =>
    have := h.ok _ _ hh
    rw [Int.toNat_of_nonneg h0] at this
    exact this
theorem zStep_eq {rs : List (Int × Int)} (h : MapOk rs) (x : Int) : (rs.length : Int) * zStep rs x = (ruleAt rs (x % rs.length)).1 * x + (ruleAt rs (x % rs.length)).2 := by
  have hp := h.pos
  have q := ruleAt_ok h (Int.emod_nonneg x (by omega)) (Int.emod_lt_of_pos x hp)
  unfold zStep
  apply Int.mul_ediv_cancel'
  have e := Int.emod_add_mul_ediv x rs.length
  have d := Int.dvd_of_emod_eq_zero q.2.2
  have : (ruleAt rs (x % rs.length)).1 * x + (ruleAt rs (x % rs.length)).2 = ((ruleAt rs (x % rs.length)).1 * (x % rs.length) + (ruleAt rs (x % rs.length)).2) + rs.length * ((ruleAt rs (x % rs.length)).1 * (x / rs.length)) := by
    generalize (ruleAt rs (x % rs.length)) = r
    have : r.1 * x = r.1 * (x % rs.length + rs.length * (x / rs.length)) := by rw [e]
    rw [this]; grind
  rw [this]
  exact Int.dvd_add d (Int.dvd_mul_right _ _)
/-- a times the number plus b is the scale times the number behind the word -/
theorem form_walk {rs : List (Int × Int)} (h : MapOk rs) (x : Int) : ∀ n, (formF rs (zWord rs x n)).1 * x + (formF rs (zWord rs x n)).2.1 = (formF rs (zWord rs x n)).2.2 * zWalk rs x n
  | 0 => by simp [zWord, formF, zWalk]
  | n + 1 => by
    have ih := form_walk h x n
    have e := zStep_eq h (zWalk rs x n)
    rw [zWord_succ, formF_snoc]
    unfold joinF
    show _ * _ * x + (_ * _ + _ * _) = _ * _ * zStep rs (zWalk rs x n)
    generalize formF rs (zWord rs x n) = f at *
    generalize ruleAt rs (zWalk rs x n % rs.length) = r at *
    generalize zWalk rs x n = y at *
    have : (rs.length : Int) * f.2.2 * zStep rs y = f.2.2 * ((rs.length : Int) * zStep rs y) := by grind
    rw [this, e]
    have : f.2.1 = f.2.2 * y - f.1 * x := by omega
    rw [this]; grind
theorem gcd_mul {a b m : Int} (h1 : Int.gcd a m = 1) (h2 : Int.gcd b m = 1) : Int.gcd (a * b) m = 1 := by
  have : Nat.Coprime a.natAbs m.natAbs := h1
  have h2 : Nat.Coprime b.natAbs m.natAbs := h2
  have := Nat.Coprime.mul_left this h2
  unfold Int.gcd
  rw [Int.natAbs_mul]
  exact this
theorem gcd_pow {a m : Int} (h : Int.gcd a m = 1) : ∀ n : Nat, Int.gcd a (m ^ n) = 1
  | 0 => by simp
  | n + 1 => by
    rw [Int.pow_succ, Int.gcd_comm]
    exact gcd_mul (by rw [Int.gcd_comm]; exact gcd_pow h n) (by rw [Int.gcd_comm]; exact h)
theorem form_gcd {rs : List (Int × Int)} (h : MapOk rs) {ws : List Int} (hw : Wd rs.length ws) : Int.gcd (formF rs ws).1 rs.length = 1 := by
  induction ws using snocRec with
  | nil => simp [formF]
  | append_singleton ws e ih =>
    rw [formF_snoc]
    have := hw e (by simp)
    exact gcd_mul (ruleAt_ok h this.1 this.2).2.1 (ih fun x hx => hw x (by simp [hx]))
theorem form_gcd_scale {rs : List (Int × Int)} (h : MapOk rs) {ws : List Int} (hw : Wd rs.length ws) : Int.gcd (formF rs ws).1 (formF rs ws).2.2 = 1 := by
  rw [formF_scale]
  exact gcd_pow (form_gcd h hw) _
/-- the numbers whose word it is -/
theorem form_iff {rs : List (Int × Int)} (h : MapOk rs) (x : Int) {ws : List Int} (hw : Wd rs.length ws) : zWord rs x ws.length = ws ↔ (formF rs ws).2.2 ∣ (formF rs ws).1 * x + (formF rs ws).2.1 := by
  constructor
  · intro e
    have := form_walk h x ws.length
    rw [e] at this
    rw [this]
    exact Int.dvd_mul_right _ _
  · induction ws using snocRec with
    | nil => intro _; rfl
    | append_singleton ws e ih =>
      intro hd
      have hw0 : Wd rs.length ws := fun x hx => hw x (by simp [hx])
      have he := hw e (by simp)
      have q := ruleAt_ok h he.1 he.2
      have hg := form_gcd_scale h hw0
      have fw := form_walk h x ws.length
      rw [formF_snoc] at hd
      unfold joinF at hd
      have hsc := formF_scale rs ws
      have hp := h.pos
      have hs : 0 < (formF rs ws).2.2 := by rw [hsc]; exact Int.pow_pos hp
      have gr : Int.gcd (ruleAt rs e).1 (formF rs ws).2.2 = 1 := by rw [hsc]; exact gcd_pow q.2.1 _
      have hd : (rs.length : Int) * (formF rs ws).2.2 ∣ (ruleAt rs e).1 * (formF rs ws).1 * x + ((ruleAt rs e).1 * (formF rs ws).2.1 + (ruleAt rs e).2 * (formF rs ws).2.2) := hd
      have d1 : (formF rs ws).2.2 ∣ (formF rs ws).1 * x + (formF rs ws).2.1 := by
        have d2 : (formF rs ws).2.2 ∣ (ruleAt rs e).1 * (formF rs ws).1 * x + ((ruleAt rs e).1 * (formF rs ws).2.1 + (ruleAt rs e).2 * (formF rs ws).2.2) := Int.dvd_trans (Int.dvd_mul_left _ _) hd
        have d3 : (formF rs ws).2.2 ∣ ((formF rs ws).1 * x + (formF rs ws).2.1) * (ruleAt rs e).1 := by
          have := Int.dvd_sub d2 (Int.dvd_mul_left (ruleAt rs e).2 (formF rs ws).2.2)
          have e2 : (ruleAt rs e).1 * (formF rs ws).1 * x + ((ruleAt rs e).1 * (formF rs ws).2.1 + (ruleAt rs e).2 * (formF rs ws).2.2) - (ruleAt rs e).2 * (formF rs ws).2.2 = ((formF rs ws).1 * x + (formF rs ws).2.1) * (ruleAt rs e).1 := by grind
          rw [e2] at this; exact this
        exact dvd_of_gcd gr d3
      have ih := ih hw0 d1
      rw [ih] at fw
      have d4 : (rs.length : Int) ∣ (ruleAt rs e).1 * zWalk rs x ws.length + (ruleAt rs e).2 := by
        have e3 : (ruleAt rs e).1 * (formF rs ws).1 * x + ((ruleAt rs e).1 * (formF rs ws).2.1 + (ruleAt rs e).2 * (formF rs ws).2.2) = ((ruleAt rs e).1 * zWalk rs x ws.length + (ruleAt rs e).2) * (formF rs ws).2.2 := by
          have : (formF rs ws).2.1 = (formF rs ws).2.2 * zWalk rs x ws.length - (formF rs ws).1 * x := by omega
          rw [this]; grind
        rw [e3] at hd
        exact Int.dvd_of_mul_dvd_mul_right (by omega) hd
      have d5 : (rs.length : Int) ∣ (zWalk rs x ws.length - e) * (ruleAt rs e).1 := by
        have := Int.dvd_sub d4 (Int.dvd_of_emod_eq_zero q.2.2)
        have e2 : (ruleAt rs e).1 * zWalk rs x ws.length + (ruleAt rs e).2 - ((ruleAt rs e).1 * e + (ruleAt rs e).2) = (zWalk rs x ws.length - e) * (ruleAt rs e).1 := by grind
        rw [e2] at this; exact this
      have d6 := dvd_of_gcd q.2.1 d5
      have : zWalk rs x ws.length % rs.length = e := by
        have := Int.emod_emod_of_dvd (zWalk rs x ws.length) (Int.dvd_refl (rs.length : Int))
        have h7 : (zWalk rs x ws.length - e) % rs.length = 0 := Int.emod_eq_zero_of_dvd d6
        rw [← Int.emod_eq_emod_iff_emod_sub_eq_zero] at h7
        rw [h7]
        exact Int.emod_eq_of_lt he.1 he.2
      rw [List.length_append, List.length_singleton, zWord_succ, ih, this]
/-! ### defs -/
/-- sizes of a form, and of all on its way -/
def FmB (n : Nat) (f : Fm) : Prop := Bt n f.1 ∧ Bt n f.2.1 ∧ Bt n f.2.2
def sp_law_power : FSpec := fun args kr _ => ∃ b n : Nat, args = [.ro (.int b), .ro (.int n)] ∧ b ≤ 60 ∧ n ≤ 1000000 ∧ kr (.sh (.int ((b : Int) ^ n))) []
theorem pow_bt {b : Nat} (h : b ≤ 60) : ∀ n : Nat, Bt (1 + 6 * n) ((b : Int) ^ n)
  | 0 => by rw [Int.pow_zero]; unfold Bt; decide
  | n + 1 => by
    rw [Int.pow_succ]
    have := (pow_bt h n).mul (Bt.of (n := 6) (x := b) (by omega) (by omega) (by omega))
    exact this.mono (by omega)
/- _law_power: 0:base 1:count 2:scale 3:turn -/
def b_law_power : SW := (sSeq (sSet 2 (eC (.int 1)))
  (sSeq (sFor (iR1 (dCons (eLoc 1) dNil)) (gN 3) (sFrz 2 (sSet 2 (eBin opMul (eLoc 2) (eLoc 0)))))
  (sRet (eLoc 2))))
theorem sat_law_power : Sat 4 sp_law_power b_law_power := by
  rintro args mus kr kx hm ⟨b, n, rfl, hb, hn, hk⟩
  obtain rfl := mus0 hm
  unfold b_law_power
  unfold sFor
  walk_at "sx"
  refine ⟨by omega, fun i ρ => ∃ e3, ρ = [.sh (.int b), .sh (.int n), .sh (.int ((b : Int) ^ i)), e3], ⟨_, rfl⟩, fun _ _ _ _ => trivial, ?_, ?_⟩
  · rintro i d ρ hi rfl ⟨e3, rfl⟩
    have hi : i < n := by simpa using hi
    walk_at "sx"
    exact ⟨(pow_bt hb i).mulOk (Bt.of (n := 6) (x := b) (by omega) (by omega) (by omega)) (by omega), _, rfl⟩
  · rintro ρ ⟨e3, rfl⟩
    walk_at "sx"
    exact hk
def sp_check_word : FSpec := fun args kr _ => ∃ (m : Int) (ws : List Int), args = [.ro (.int m), .ro (encZs ws)] ∧ Wd m ws ∧ kr (.sh .non) []
/- check_word: 0:modulus 1:word 2:entry -/
def b_check_word : SW := (sFor (iLst (eLoc 1)) (gN 2) (sIf (tOrW (tVal (eBin opLt (eLoc 2) (eC (.int 0)))) (tVal (eBin opGe (eLoc 2) (eLoc 0)))) sNever sNil))
theorem sat_check_word : Sat 3 sp_check_word b_check_word := by
  rintro args mus kr kx hm ⟨m, ws, rfl, hw, hk⟩
  obtain rfl := mus0 hm
  unfold b_check_word
  unfold sFor
  walk_at "sx"
  refine ⟨fun i ρ => ∃ e3, ρ = [.sh (.int m), .sh (encZs ws), e3], ⟨_, rfl⟩, fun _ _ _ _ => trivial, ?_, ?_⟩
  · rintro i d ρ hi hd ⟨e3, rfl⟩
    obtain ⟨e, he, rfl⟩ := get_map hd
    have q := hw e (List.mem_of_getElem? he)
    walk_at "sx"
    exact ⟨fun h => absurd h (by omega), fun h => ⟨fun h => absurd h (by omega), fun _ => ⟨_, rfl⟩⟩⟩
  · rintro ρ ⟨e3, rfl⟩
    walk_at "sx"
    exact hk
def sp_joined_form : FSpec := fun args kr _ => ∃ (f : Fm) (r : Int × Int) (m : Int), args = [.ro (encF f), .ro (encR r), .ro (.int m)] ∧ FmB 40000000 f ∧ Bt 40000000 r.1 ∧ Bt 40000000 r.2 ∧ Bt 9000 m ∧ kr (.sh (encF (joinF f r m))) []
/- joined_form: 0:form 1:rule 2:modulus 3:a 4:b 5:scale -/
def b_joined_form : SW := (sSeq (sAsg (eLoc 0) (gTp 3 (gCn (gN 3) (gCn (gN 4) (gCn (gN 5) gNl)))))
  (sRet (eTup (dCons (eBin opMul (eBin opIx (eLoc 1) (eC (.int 0))) (eLoc 3)) (dCons (eBin opAdd (eBin opMul (eBin opIx (eLoc 1) (eC (.int 0))) (eLoc 4)) (eBin opMul (eBin opIx (eLoc 1) (eC (.int 1))) (eLoc 5))) (dCons (eBin opMul (eLoc 2) (eLoc 5)) dNil))))))
theorem sat_joined_form : Sat 6 sp_joined_form b_joined_form := by
  rintro args mus kr kx hm ⟨f, r, m, rfl, hf, h1, h2, h3, hk⟩
  obtain rfl := mus0 hm
  unfold b_joined_form
  walk_at "sx"
  exact ⟨h1.mulOk hf.1 (by omega), h1.mulOk hf.2.1 (by omega), h2.mulOk hf.2.2 (by omega), h3.mulOk hf.2.2 (by omega), hk⟩
def sp_form_of : FSpec := fun args kr _ => ∃ (rs : List (Int × Int)) (ws : List Int), args = [.ro (mapD rs), .ro (encZs ws)] ∧ MapOk rs ∧ Wd rs.length ws ∧ (∀ i, i ≤ ws.length → FmB 40000000 (formF rs (ws.take i))) ∧ kr (.sh (encF (formF rs ws))) []
/- form_of: 0:rule_map 1:word 2:modulus 3:rules 4:form 5:entry -/
def b_form_of : SW := (sSeq (sFrz 2 (sSet 2 (eProp 0 sp_Map_modulus (eLoc 0))))
  (sSeq (sExpr (eCall 2 sp_check_word (agRo (eLoc 2) (agRo (eLoc 1) agNil))))
  (sSeq (sFrz 3 (sSet 3 (eProp 0 sp_Map_rules (eLoc 0))))
  (sSeq (sSet 4 (eTup (dCons (eC (.int 1)) (dCons (eC (.int 0)) (dCons (eC (.int 1)) dNil)))))
  (sSeq (sFor (iLst (eLoc 1)) (gN 5) (sFrz 4 (sSet 4 (eCall 3 sp_joined_form (agRo (eLoc 4) (agRo (eBin opIx (eLoc 3) (eLoc 5)) (agRo (eLoc 2) agNil)))))))
  (sRet (eLoc 4)))))))
theorem sat_form_of : Sat 6 sp_form_of b_form_of := by
  rintro args mus kr kx hm ⟨rs, ws, rfl, ho, hw, hb, hk⟩
  obtain rfl := mus0 hm
  unfold b_form_of
  unfold sFor
  walk_at "sx"
  refine ⟨rs, rfl, ?_⟩
  walk_at "sx"
  refine ⟨rs.length, ws, rfl, hw, ?_⟩
  walk_at "sx"
  refine ⟨rs, rfl, ?_⟩
  walk_at "sx"
  refine ⟨fun i ρ => ∃ e5, ρ = [.sh (mapD rs), .sh (encZs ws), .sh (.int rs.length), .sh (encRs rs), .sh (encF (formF rs (ws.take i))), e5], ⟨_, rfl⟩, fun _ _ _ _ => trivial, ?_, ?_⟩
  · rintro i d ρ hi hd ⟨e3, rfl⟩
    obtain ⟨e, he, rfl⟩ := get_map hd
    have hi : i < ws.length := by simpa using hi
    have q := hw e (List.mem_of_getElem? he)
    walk_at "sx"
    rw [atI_map (x := (1, 0)) q.1 q.2]
    refine ⟨_, rfl, ?_⟩
    have hs := ho.sz _ (mem_getD (x := (1, 0)) q.1 q.2)
    refine ⟨_, _, _, rfl, hb i (by omega), hs.1.mono (by omega), hs.2.mono (by omega), ho.bt, ?_⟩
    walk_at "sx"
    refine ⟨.sh (.int e), ?_⟩
    rw [List.take_succ, he]
    show _ = [_, _, _, _, Sl.sh (encF (formF rs (ws.take i ++ [e]))), _]
    rw [formF_snoc]
    rfl
  · rintro ρ ⟨e3, rfl⟩
    walk_at "sx"
    rw [List.length_map, List.take_length]
    exact hk
/-- the least number of the class -/
def clsF (f : Fm) : Int := remF f.2.2 (-f.2.1) f.1
/- class_by: 0:form 1:a 2:b 3:scale -/
theorem clsF_spec {f : Fm} (h0 : 0 < f.2.2) (hg : Int.gcd f.1 f.2.2 = 1) : 0 ≤ clsF f ∧ clsF f < f.2.2 ∧ f.2.2 ∣ f.1 * clsF f + f.2.1 := by
  obtain ⟨a, b, c⟩ := remF_spec (t := -f.2.1) h0 hg
  refine ⟨a, b, ?_⟩
  have := Int.dvd_of_emod_eq_zero c
  have e : remF f.2.2 (-f.2.1) f.1 * f.1 - -f.2.1 = f.1 * clsF f + f.2.1 := by unfold clsF; grind
  rw [e] at this; exact this
/-- the class: numbers that leave the same remainder -/
theorem cls_iff {f : Fm} (h0 : 0 < f.2.2) (hg : Int.gcd f.1 f.2.2 = 1) (x : Int) : f.2.2 ∣ f.1 * x + f.2.1 ↔ x % f.2.2 = clsF f := by
  obtain ⟨a, b, c⟩ := clsF_spec h0 hg
  constructor
  · intro d
    have h1 := Int.dvd_sub d c
    have e : f.1 * x + f.2.1 - (f.1 * clsF f + f.2.1) = (x - clsF f) * f.1 := by grind
    rw [e] at h1
    have h2 := dvd_of_gcd hg h1
    have h3 : (x - clsF f) % f.2.2 = 0 := Int.emod_eq_zero_of_dvd h2
    rw [← Int.emod_eq_emod_iff_emod_sub_eq_zero] at h3
    rw [h3]
    exact Int.emod_eq_of_lt a b
  · intro e
    have h := Int.emod_add_mul_ediv x f.2.2
    have : f.1 * x + f.2.1 = (f.1 * clsF f + f.2.1) + f.2.2 * (f.1 * (x / f.2.2)) := by
      rw [← e]
      have : f.1 * x = f.1 * (x % f.2.2 + f.2.2 * (x / f.2.2)) := by rw [h]
      rw [this]; grind
    rw [this]
    exact Int.dvd_add c (Int.dvd_mul_right _ _)
/- class_of: 0:rule_map 1:word -/
theorem form_pos {rs : List (Int × Int)} (h : MapOk rs) (ws : List Int) : 0 < (formF rs ws).2.2 := by rw [formF_scale]; exact Int.pow_pos h.pos
/-- sizes of forms by drawn rules -/
theorem form_size {base : Nat} {rs : List (Int × Int)} (hr : RulesOk base rs) (h2 : 2 ≤ base) (h6 : base ≤ 60) {ws : List Int} (hw : Wd rs.length ws) : FmB (700 + 60 * ws.length) (formF rs ws) := by
  have ho := hr.map h2 (by omega)
  induction ws using snocRec with
  | nil => exact (⟨by unfold Bt; decide, by unfold Bt; decide, by unfold Bt; decide⟩ : FmB 700 ((1, 0, 1) : Fm))
  | append_singleton ws e ih =>
    have ih := ih fun x hx => hw x (by simp [hx])
    have he := hw e (by simp)
    rw [formF_snoc, List.length_append, List.length_singleton]
    obtain ⟨i, hi⟩ := List.getElem?_of_mem (mem_getD (x := ((1 : Int), (0 : Int))) he.1 he.2)
    have q := hr.ok i _ hi
    have q1 : Bt 12 (ruleAt rs e).1 := by
      have h1 := q.1.1
      have h2 := q.2.1
      unfold ruleAt
      exact Bt.of (by omega) (by omega) (by omega)
    have q2 : Bt 600 (ruleAt rs e).2 := q.2.2
    have s1 : Bt (1 + 6 * ws.length) (formF rs ws).2.2 := by rw [formF_scale, hr.len]; exact pow_bt h6 _
    have s2 : Bt 6 (rs.length : Int) := by rw [hr.len]; exact Bt.of (by omega) (by omega) (by omega)
    exact ⟨(q1.mul ih.1).mono (by omega), (((q1.mul ih.2.1).mono (show _ ≤ 12 + (700 + 60 * ws.length) by omega)).add ((q2.mul s1).mono (by omega))).mono (by omega), (s2.mul ih.2.2).mono (by omega)⟩
theorem form_sizes {base : Nat} {rs : List (Int × Int)} (hr : RulesOk base rs) (h2 : 2 ≤ base) (h6 : base ≤ 60) {ws : List Int} (hw : Wd rs.length ws) (hl : ws.length ≤ 600000) : ∀ i, i ≤ ws.length → FmB 40000000 (formF rs (ws.take i)) := fun i hi => by
  have h := form_size hr h2 h6 (ws := ws.take i) fun x hx => hw x (List.mem_of_mem_take hx)
  have : (ws.take i).length ≤ 600000 := by simp; omega
  exact ⟨h.1.mono (by omega), h.2.1.mono (by omega), h.2.2.mono (by omega)⟩
end TL

namespace TL
open PySem L2
local macro_rules | `(tactic| walk_at "sx") => `(tactic| simp only [sSeq, sNil, sSet, sFrz, frz_o, frz_sh, frz_s, sIf, sRet, sRetN, sPass, sBrk, sPar, sSub, sApp, sExpr, sAsg, sAug, sFld, sRevI, sPop, eLoc, eC, eUn, eBin, eAnd, eOr, eNot, eIf, eTup, eLst, dNil, dCons, tVal_eq, tstD_bl, tAndW, tOrW, tNotW, eFld_eq, eFldD_o, eProp, eMeth, eMeth0, eSl, pNone, pSome, sl_l,
  out_sh, out_fr, get_loc, get_sh, get_fr, getL_z, getL_o, getL_s, bound_z, bound_o, bound_s, isOwn_o, isOwn_s, pok_loc, pok_sh, pok_fr, stl_loc, stlS_sh, stlS_own, stl_sh, stl_fr, lay_fr, lay_sh, lay_loc, envOf, slotsOf, valN, ghOf, endK, resK, exMu, muN, List.cons_append, List.nil_append, List.append_nil, List.length_cons, List.length_nil, Nat.reduceAdd, Nat.reduceSub, List.replicate_succ, List.replicate_zero, List.replicate,
  List.getElem?_cons_zero, List.getElem?_cons_succ, List.getElem?_nil, List.set_cons_zero, List.set_cons_succ,
  add_ii, add_ss, add_ll, sub_ii, mul_ii, fdv_ii, fdvN_ii, mod_ii, modN_ii, pow_ii, lt_ii, le_ii, gt_ii, ge_ii, eq_ii, ne_ii, ix_li, ix_ti, neg_i, abs_i, int_i, int_b, max_ii, min_ii, len_l, len_t, list_l, list_t, rev_l, isi_int, isi_bl, isi_tup, isi_lst, isi_non, isN_i, isN_n, isN_t, isN_l, notN_i, notN_n, notN_t, notN_l, isTy,
  atI0, atI1, atI2, ixN0, ixN1, ixN2, some_inj_ex, isObj, setAt0, setAt1, setAt2, setAt3, restE, keepS, wipeE, ↓reduceIte, if_false, if_true,
  eCall, eCallP, eMake, pm, List.filterMap_cons, List.filterMap_nil, agNil, agRo, agBo, agMu, agTm, callK, boIx, muIx, tms, argsK, upE, reown, hasBo, noTm, flatRo, noLstAll, noLst, noLsts, List.nodup_nil, List.nodup_cons, List.not_mem_nil, not_false_eq_true, Nat.zero_le, Nat.le_refl, Nat.reduceLeDiff, List.mem_cons, or_false, reduceCtorEq,
  gN, gTp, gCn, gNl, iR1, iR2, iLst, iTpl, iEnum, stab,
  true_and, and_true, Bool.true_eq_false, Bool.false_eq_true, false_imp_iff, forall_const, true_imp_iff, and_self, decide_eq_true_eq, decide_eq_false_iff_not, Bool.not_eq_true', Bool.not_eq_false'])
theorem walk_sizeK {base K : Nat} {rs : List (Int × Int)} {p : Int × Int} (hr : RulesOk base rs) (h2 : 2 ≤ base) (hg : Good rs.length p) (h1 : Bt K p.1) (hK : 1000 ≤ K) (hb : Bt 300 p.2) : ∀ k, Bt (K + 50 * k) (walkF rs k p).1
  | 0 => h1
  | k + 1 => (step_size hr h2 (walkF_good hg k) (walk_sizeK hr h2 hg h1 hK hb k) (walkF_bot hb k) (by omega)).mono (by omega)
theorem good_one {m x : Int} : Good m (x, 1) := ⟨Int.le_refl _, by simp, by simp⟩
theorem one_bt {n : Nat} : Bt (n + 40) (1 : Int) := Bt.mono (n := 40) (Bt.small (by decide) (by decide)) (by omega)
namespace K19
/- _law_right: 0:chart 1:base 2:rules 3:start 4:count 5:times 6:places 7:path 8:scale 9:farther 10:same 11:passed 12:found 13:entry -/
/- law: 0:script 1:source 2:base 3:rules 4:chart 5:k 6:size 7:start 8:count -/
end K19
end TL

namespace TL
open PySem L2
local macro_rules | `(tactic| walk_at "sx") => `(tactic| simp only [sSeq, sNil, sSet, sFrz, frz_o, frz_sh, frz_s, sIf, sRet, sRetN, sPass, sBrk, sPar, sSub, sApp, sExpr, sAsg, sAug, sFld, sRevI, sPop, eLoc, eC, eUn, eBin, eAnd, eOr, eNot, eIf, eTup, eLst, dNil, dCons, tVal_eq, tstD_bl, tAndW, tOrW, tNotW, eFld_eq, eFldD_o, eProp, eMeth, eMeth0, eSl, pNone, pSome, sl_l,
  out_sh, out_fr, get_loc, get_sh, get_fr, getL_z, getL_o, getL_s, bound_z, bound_o, bound_s, isOwn_o, isOwn_s, pok_loc, pok_sh, pok_fr, stl_loc, stlS_sh, stlS_own, stl_sh, stl_fr, lay_fr, lay_sh, lay_loc, envOf, slotsOf, valN, ghOf, endK, resK, exMu, muN, List.cons_append, List.nil_append, List.append_nil, List.length_cons, List.length_nil, Nat.reduceAdd, Nat.reduceSub, List.replicate_succ, List.replicate_zero, List.replicate,
  List.getElem?_cons_zero, List.getElem?_cons_succ, List.getElem?_nil, List.set_cons_zero, List.set_cons_succ,
  add_ii, add_ss, add_ll, sub_ii, mul_ii, fdv_ii, fdvN_ii, mod_ii, modN_ii, pow_ii, lt_ii, le_ii, gt_ii, ge_ii, eq_ii, ne_ii, ix_li, ix_ti, neg_i, abs_i, int_i, int_b, max_ii, min_ii, len_l, len_t, list_l, list_t, rev_l, isi_int, isi_bl, isi_tup, isi_lst, isi_non, isN_i, isN_n, isN_t, isN_l, notN_i, notN_n, notN_t, notN_l, isTy,
  atI0, atI1, atI2, ixN0, ixN1, ixN2, some_inj_ex, isObj, setAt0, setAt1, setAt2, setAt3, restE, keepS, wipeE, ↓reduceIte, if_false, if_true,
  eCall, eCallP, eMake, pm, List.filterMap_cons, List.filterMap_nil, agNil, agRo, agBo, agMu, agTm, callK, boIx, muIx, tms, argsK, upE, reown, hasBo, noTm, flatRo, noLstAll, noLst, noLsts, List.nodup_nil, List.nodup_cons, List.not_mem_nil, not_false_eq_true, Nat.zero_le, Nat.le_refl, Nat.reduceLeDiff, List.mem_cons, or_false, reduceCtorEq,
  gN, gTp, gCn, gNl, iR1, iR2, iLst, iTpl, iEnum, stab,
  true_and, and_true, Bool.true_eq_false, Bool.false_eq_true, false_imp_iff, forall_const, true_imp_iff, and_self, decide_eq_true_eq, decide_eq_false_iff_not, Bool.not_eq_true', Bool.not_eq_false'])
/-! ### words drawn -/
/- _law_path: 0:source 1:base 2:count 3:turn -/
/-! ### fractions walk: over one bottom -/
def uStep (rs : List (Int × Int)) (q u : Int) : Int := ((ruleAt rs (remF rs.length u q)).1 * u + (ruleAt rs (remF rs.length u q)).2 * q) / rs.length
def uWalk (rs : List (Int × Int)) (q u : Int) : Nat → Int
  | 0 => u
  | n + 1 => uStep rs q (uWalk rs q u n)
def uWord (rs : List (Int × Int)) (q u : Int) (n : Nat) : List Int := (List.range n).map fun i => remF rs.length (uWalk rs q u i) q
theorem uWord_succ (rs : List (Int × Int)) (q u : Int) (n : Nat) : uWord rs q u (n + 1) = uWord rs q u n ++ [remF rs.length (uWalk rs q u n) q] := by
  unfold uWord
  rw [List.range_succ, List.map_append]
  rfl
/-- the fraction u / q in lowest terms -/
def low (u q : Int) : Int × Int := (u / (Int.gcd u q : Int), q / (Int.gcd u q : Int))
theorem low_self {p : Int × Int} (h : Int.gcd p.1 p.2 = 1) : low p.1 p.2 = p := by unfold low; rw [h]; simp
theorem remF_mul {m u q k : Int} (hm : 0 < m) (hg : Int.gcd (q * k) m = 1) : remF m (u * k) (q * k) = remF m u q := by
  have hq : Int.gcd q m = 1 := gcd_of_dvd (Int.dvd_mul_right _ _) hg
  obtain ⟨a, b, c⟩ := remF_spec (t := u) hm hq
  refine remF_eq hm hg a b ?_
  apply Int.emod_eq_zero_of_dvd
  have : remF m u q * (q * k) - u * k = (remF m u q * q - u) * k := by grind
  rw [this]
  exact Int.dvd_mul_of_dvd_left (Int.dvd_of_emod_eq_zero c)
theorem uStep_eq {rs : List (Int × Int)} (h : MapOk rs) {q : Int} (hq : Int.gcd q rs.length = 1) (u : Int) : (rs.length : Int) * uStep rs q u = (ruleAt rs (remF rs.length u q)).1 * u + (ruleAt rs (remF rs.length u q)).2 * q := by
  have hp := h.pos
  obtain ⟨r0, r1, r2⟩ := remF_spec (t := u) hp hq
  have k := ruleAt_ok h r0 r1
  unfold uStep
  apply Int.mul_ediv_cancel'
  have d := Int.dvd_of_emod_eq_zero k.2.2
  have d2 := Int.dvd_of_emod_eq_zero r2
  generalize remF rs.length u q = e at *
  have : (ruleAt rs e).1 * u + (ruleAt rs e).2 * q = ((ruleAt rs e).1 * e + (ruleAt rs e).2) * q - (e * q - u) * (ruleAt rs e).1 := by grind
  rw [this]
  exact Int.dvd_sub (Int.dvd_mul_of_dvd_left d) (Int.dvd_mul_of_dvd_left d2)
theorem low_mul {t b k : Int} (hk : 0 < k) (hb : 1 ≤ b) : low (t * k) (b * k) = low t b := by
  unfold low
  have e : (Int.gcd (t * k) (b * k) : Int) = (Int.gcd t b : Int) * k := by
    rw [Int.gcd_mul_right]
    have : (k.natAbs : Int) = k := by omega
    rw [Int.natCast_mul, this]
  rw [e]
  have g : 0 < Int.gcd t b := Int.gcd_pos_of_ne_zero_right _ (by omega)
  rw [Int.mul_ediv_mul_of_pos_left _ _ hk, Int.mul_ediv_mul_of_pos_left _ _ hk]
theorem low_gcd {u q : Int} (hq : 1 ≤ q) : ∃ k, 0 < k ∧ u = (low u q).1 * k ∧ q = (low u q).2 * k := by
  have g : 0 < Int.gcd u q := Int.gcd_pos_of_ne_zero_right _ (by omega)
  exact ⟨Int.gcd u q, by omega, (Int.ediv_mul_cancel (Int.gcd_dvd_left _ _)).symm, (Int.ediv_mul_cancel (Int.gcd_dvd_right _ _)).symm⟩
theorem stepF_low {rs : List (Int × Int)} (h : MapOk rs) {q u : Int} (h1 : 1 ≤ q) (hq : Int.gcd q rs.length = 1) : stepF rs (low u q) = low (uStep rs q u) q ∧ remF rs.length (low u q).1 (low u q).2 = remF rs.length u q := by
  obtain ⟨k, hk, eu, eq⟩ := low_gcd (u := u) h1
  have g := gcd_div (a := u) h1
  have hb : 1 ≤ (low u q).2 := g.1
  generalize low u q = p at *
  subst eu eq
  have hm := h.pos
  have e := remF_mul (u := p.1) hm hq
  refine ⟨?_, e.symm⟩
  have hq2 : Int.gcd p.2 rs.length = 1 := gcd_of_dvd (Int.dvd_mul_right _ _) hq
  have s1 := uStep_eq h hq (p.1 * k)
  have s2 := uStep_eq h hq2 p.1
  rw [e] at s1
  have : uStep rs (p.2 * k) (p.1 * k) = uStep rs p.2 p.1 * k := by
    have : (rs.length : Int) * uStep rs (p.2 * k) (p.1 * k) = (rs.length : Int) * (uStep rs p.2 p.1 * k) := by
      rw [s1, ← Int.mul_assoc (rs.length : Int) (uStep rs p.2 p.1) k, s2]; grind
    exact Int.eq_of_mul_eq_mul_left (by omega) this
  rw [this, low_mul hk hb]
  rfl
theorem walkF_low {rs : List (Int × Int)} (h : MapOk rs) {q u : Int} (h1 : 1 ≤ q) (hq : Int.gcd q rs.length = 1) : ∀ n, walkF rs n (low u q) = low (uWalk rs q u n) q
  | 0 => rfl
  | n + 1 => by
    show stepF rs (walkF rs n (low u q)) = _
    rw [walkF_low h h1 hq n, (stepF_low h h1 hq).1]
    rfl
theorem wordF_low {rs : List (Int × Int)} (h : MapOk rs) {q u : Int} (h1 : 1 ≤ q) (hq : Int.gcd q rs.length = 1) (n : Nat) : wordF rs (low u q) n = uWord rs q u n := by
  unfold wordF uWord
  apply List.map_congr_left
  intro i _
  rw [walkF_low h h1 hq, (stepF_low h h1 hq).2]
theorem form_walkU {rs : List (Int × Int)} (h : MapOk rs) {q : Int} (hq : Int.gcd q rs.length = 1) (u : Int) : ∀ n, (formF rs (uWord rs q u n)).1 * u + (formF rs (uWord rs q u n)).2.1 * q = (formF rs (uWord rs q u n)).2.2 * uWalk rs q u n
  | 0 => by simp [uWord, formF, uWalk]
  | n + 1 => by
    have ih := form_walkU h hq u n
    have e := uStep_eq h hq (uWalk rs q u n)
    rw [uWord_succ, formF_snoc]
    unfold joinF
    show _ * _ * u + (_ * _ + _ * _) * q = _ * _ * uStep rs q (uWalk rs q u n)
    generalize formF rs (uWord rs q u n) = f at *
    generalize ruleAt rs (remF rs.length (uWalk rs q u n) q) = r at *
    generalize uWalk rs q u n = y at *
    have : (rs.length : Int) * f.2.2 * uStep rs q y = f.2.2 * ((rs.length : Int) * uStep rs q y) := by grind
    rw [this, e]
    have : f.2.1 * q = f.2.2 * y - f.1 * u := by omega
    have e2 : (r.1 * f.2.1 + r.2 * f.2.2) * q = r.1 * (f.2.1 * q) + r.2 * f.2.2 * q := by grind
    rw [e2, this]; grind
theorem form_iffU {rs : List (Int × Int)} (h : MapOk rs) {q : Int} (hq : Int.gcd q rs.length = 1) (u : Int) {ws : List Int} (hw : Wd rs.length ws) : uWord rs q u ws.length = ws ↔ (formF rs ws).2.2 ∣ (formF rs ws).1 * u + (formF rs ws).2.1 * q := by
  constructor
  · intro e
    have := form_walkU h hq u ws.length
    rw [e] at this
    rw [this]
    exact Int.dvd_mul_right _ _
  · induction ws using snocRec with
    | nil => intro _; rfl
    | append_singleton ws e ih =>
      intro hd
      have hw0 : Wd rs.length ws := fun x hx => hw x (by simp [hx])
      have he := hw e (by simp)
      have k := ruleAt_ok h he.1 he.2
      have fw := form_walkU h hq u ws.length
      rw [formF_snoc] at hd
      unfold joinF at hd
      have hsc := formF_scale rs ws
      have hp := h.pos
      have hs : 0 < (formF rs ws).2.2 := by rw [hsc]; exact Int.pow_pos hp
      have gr : Int.gcd (ruleAt rs e).1 (formF rs ws).2.2 = 1 := by rw [hsc]; exact gcd_pow k.2.1 _
      have hd : (rs.length : Int) * (formF rs ws).2.2 ∣ (ruleAt rs e).1 * (formF rs ws).1 * u + ((ruleAt rs e).1 * (formF rs ws).2.1 + (ruleAt rs e).2 * (formF rs ws).2.2) * q := hd
      have d1 : (formF rs ws).2.2 ∣ (formF rs ws).1 * u + (formF rs ws).2.1 * q := by
        have d2 : (formF rs ws).2.2 ∣ (ruleAt rs e).1 * (formF rs ws).1 * u + ((ruleAt rs e).1 * (formF rs ws).2.1 + (ruleAt rs e).2 * (formF rs ws).2.2) * q := Int.dvd_trans (Int.dvd_mul_left _ _) hd
        have d3 : (formF rs ws).2.2 ∣ ((formF rs ws).1 * u + (formF rs ws).2.1 * q) * (ruleAt rs e).1 := by
          have := Int.dvd_sub d2 (Int.dvd_mul_left ((ruleAt rs e).2 * q) (formF rs ws).2.2)
          have e2 : (ruleAt rs e).1 * (formF rs ws).1 * u + ((ruleAt rs e).1 * (formF rs ws).2.1 + (ruleAt rs e).2 * (formF rs ws).2.2) * q - (ruleAt rs e).2 * q * (formF rs ws).2.2 = ((formF rs ws).1 * u + (formF rs ws).2.1 * q) * (ruleAt rs e).1 := by grind
          rw [e2] at this; exact this
        exact dvd_of_gcd gr d3
      have ih := ih hw0 d1
      rw [ih] at fw
      have d4 : (rs.length : Int) ∣ (ruleAt rs e).1 * uWalk rs q u ws.length + (ruleAt rs e).2 * q := by
        have e3 : (ruleAt rs e).1 * (formF rs ws).1 * u + ((ruleAt rs e).1 * (formF rs ws).2.1 + (ruleAt rs e).2 * (formF rs ws).2.2) * q = ((ruleAt rs e).1 * uWalk rs q u ws.length + (ruleAt rs e).2 * q) * (formF rs ws).2.2 := by
          have e4 : (formF rs ws).2.1 * q = (formF rs ws).2.2 * uWalk rs q u ws.length - (formF rs ws).1 * u := by omega
          have e5 : ((ruleAt rs e).1 * (formF rs ws).2.1 + (ruleAt rs e).2 * (formF rs ws).2.2) * q = (ruleAt rs e).1 * ((formF rs ws).2.1 * q) + (ruleAt rs e).2 * (formF rs ws).2.2 * q := by grind
          rw [e5, e4]; grind
        rw [e3] at hd
        exact Int.dvd_of_mul_dvd_mul_right (by omega) hd
      have d5 : (rs.length : Int) ∣ (e * q - uWalk rs q u ws.length) * (ruleAt rs e).1 := by
        have := Int.dvd_sub (Int.dvd_mul_of_dvd_left (c := q) (Int.dvd_of_emod_eq_zero k.2.2)) d4
        have e2 : ((ruleAt rs e).1 * e + (ruleAt rs e).2) * q - ((ruleAt rs e).1 * uWalk rs q u ws.length + (ruleAt rs e).2 * q) = (e * q - uWalk rs q u ws.length) * (ruleAt rs e).1 := by grind
        rw [e2] at this; exact this
      have d6 := dvd_of_gcd k.2.1 d5
      have : remF rs.length (uWalk rs q u ws.length) q = e := remF_eq hp hq he.1 he.2 (Int.emod_eq_zero_of_dvd d6)
      rw [List.length_append, List.length_singleton, uWord_succ, ih, this]
end TL

namespace TL
open PySem L2
local macro_rules | `(tactic| walk_at "sx") => `(tactic| simp only [sSeq, sNil, sSet, sFrz, frz_o, frz_sh, frz_s, sIf, sRet, sRetN, sPass, sBrk, sPar, sSub, sApp, sExpr, sAsg, sAug, sFld, sRevI, sPop, eLoc, eC, eUn, eBin, eAnd, eOr, eNot, eIf, eTup, eLst, dNil, dCons, tVal_eq, tstD_bl, tAndW, tOrW, tNotW, eFld_eq, eFldD_o, eProp, eMeth, eMeth0, eSl, pNone, pSome, sl_l,
  out_sh, out_fr, get_loc, get_sh, get_fr, getL_z, getL_o, getL_s, bound_z, bound_o, bound_s, isOwn_o, isOwn_s, pok_loc, pok_sh, pok_fr, stl_loc, stlS_sh, stlS_own, stl_sh, stl_fr, lay_fr, lay_sh, lay_loc, envOf, slotsOf, valN, ghOf, endK, resK, exMu, muN, List.cons_append, List.nil_append, List.append_nil, List.length_cons, List.length_nil, Nat.reduceAdd, Nat.reduceSub, List.replicate_succ, List.replicate_zero, List.replicate,
  List.getElem?_cons_zero, List.getElem?_cons_succ, List.getElem?_nil, List.set_cons_zero, List.set_cons_succ,
  add_ii, add_ss, add_ll, sub_ii, mul_ii, fdv_ii, fdvN_ii, mod_ii, modN_ii, pow_ii, lt_ii, le_ii, gt_ii, ge_ii, eq_ii, ne_ii, ix_li, ix_ti, neg_i, abs_i, int_i, int_b, max_ii, min_ii, len_l, len_t, list_l, list_t, rev_l, isi_int, isi_bl, isi_tup, isi_lst, isi_non, isN_i, isN_n, isN_t, isN_l, notN_i, notN_n, notN_t, notN_l, isTy,
  atI0, atI1, atI2, ixN0, ixN1, ixN2, some_inj_ex, isObj, setAt0, setAt1, setAt2, setAt3, restE, keepS, wipeE, ↓reduceIte, if_false, if_true,
  eCall, eCallP, eMake, pm, List.filterMap_cons, List.filterMap_nil, agNil, agRo, agBo, agMu, agTm, callK, boIx, muIx, tms, argsK, upE, reown, hasBo, noTm, flatRo, noLstAll, noLst, noLsts, List.nodup_nil, List.nodup_cons, List.not_mem_nil, not_false_eq_true, Nat.zero_le, Nat.le_refl, Nat.reduceLeDiff, List.mem_cons, or_false, reduceCtorEq,
  gN, gTp, gCn, gNl, iR1, iR2, iLst, iTpl, iEnum, stab,
  true_and, and_true, Bool.true_eq_false, Bool.false_eq_true, false_imp_iff, forall_const, true_imp_iff, and_self, decide_eq_true_eq, decide_eq_false_iff_not, Bool.not_eq_true', Bool.not_eq_false'])
/-! ### counts, least numbers -/
def FmOk (f : Fm) : Prop := 0 < f.2.2 ∧ Int.gcd f.1 f.2.2 = 1 ∧ Bt 9000 f.2.2 ∧ Bt 80000000 f.2.1
/- count_in: 0:form 1:low 2:high 3:start 4:scale -/
/-- a word whose form is told without trouble -/
structure WOk (rs : List (Int × Int)) (ws : List Int) : Prop where
  mp : MapOk rs
  wd : Wd rs.length ws
  sz : ∀ i, i ≤ ws.length → FmB 40000000 (formF rs (ws.take i))
  sc : Bt 9000 (formF rs ws).2.2
theorem WOk.ok {rs : List (Int × Int)} {ws : List Int} (h : WOk rs ws) : FmOk (formF rs ws) := by
  have := h.sz ws.length (Nat.le_refl _)
  rw [List.take_length] at this
  exact ⟨form_pos h.mp ws, form_gcd_scale h.mp h.wd, h.sc, this.2.1.mono (by omega)⟩
theorem RulesOk.wok {base : Nat} {rs : List (Int × Int)} (hr : RulesOk base rs) (h2 : 2 ≤ base) (h6 : base ≤ 60) {ws : List Int} (hw : Wd base ws) (hl : ws.length ≤ 1000) : WOk rs ws := by
  have hl2 := hr.len
  rw [← hl2] at hw
  refine ⟨hr.map h2 (by omega), hw, form_sizes hr h2 h6 hw (by omega), ?_⟩
  rw [formF_scale, hl2]
  exact (pow_bt h6 _).mono (by omega)
/- count_with: 0:rule_map 1:word 2:low 3:high -/
/- least_from: 0:start 1:scale 2:low -/
/- nth_with: 0:rule_map 1:word 2:low 3:index 4:form -/
theorem zWord_cls {rs : List (Int × Int)} {ws : List Int} (h : WOk rs ws) (x : Int) : zWord rs x ws.length = ws ↔ x % (formF rs ws).2.2 = clsF (formF rs ws) := by
  rw [form_iff h.mp x h.wd]
  exact cls_iff h.ok.1 h.ok.2.1 x
end TL

namespace TL
open PySem L2
local macro_rules | `(tactic| walk_at "sx") => `(tactic| simp only [sSeq, sNil, sSet, sFrz, frz_o, frz_sh, frz_s, sIf, sRet, sRetN, sPass, sBrk, sPar, sSub, sApp, sExpr, sAsg, sAug, sFld, sRevI, sPop, eLoc, eC, eUn, eBin, eAnd, eOr, eNot, eIf, eTup, eLst, dNil, dCons, tVal_eq, tstD_bl, tAndW, tOrW, tNotW, eFld_eq, eFldD_o, eProp, eMeth, eMeth0, eSl, pNone, pSome, sl_l,
  out_sh, out_fr, get_loc, get_sh, get_fr, getL_z, getL_o, getL_s, bound_z, bound_o, bound_s, isOwn_o, isOwn_s, pok_loc, pok_sh, pok_fr, stl_loc, stlS_sh, stlS_own, stl_sh, stl_fr, lay_fr, lay_sh, lay_loc, envOf, slotsOf, valN, ghOf, endK, resK, exMu, muN, List.cons_append, List.nil_append, List.append_nil, List.length_cons, List.length_nil, Nat.reduceAdd, Nat.reduceSub, List.replicate_succ, List.replicate_zero, List.replicate,
  List.getElem?_cons_zero, List.getElem?_cons_succ, List.getElem?_nil, List.set_cons_zero, List.set_cons_succ,
  add_ii, add_ss, add_ll, sub_ii, mul_ii, fdv_ii, fdvN_ii, mod_ii, modN_ii, pow_ii, lt_ii, le_ii, gt_ii, ge_ii, eq_ii, ne_ii, ix_li, ix_ti, neg_i, abs_i, int_i, int_b, max_ii, min_ii, len_l, len_t, list_l, list_t, rev_l, isi_int, isi_bl, isi_tup, isi_lst, isi_non, isN_i, isN_n, isN_t, isN_l, notN_i, notN_n, notN_t, notN_l, isTy,
  atI0, atI1, atI2, ixN0, ixN1, ixN2, some_inj_ex, isObj, setAt0, setAt1, setAt2, setAt3, restE, keepS, wipeE, ↓reduceIte, if_false, if_true,
  eCall, eCallP, eMake, pm, List.filterMap_cons, List.filterMap_nil, agNil, agRo, agBo, agMu, agTm, callK, boIx, muIx, tms, argsK, upE, reown, hasBo, noTm, flatRo, noLstAll, noLst, noLsts, List.nodup_nil, List.nodup_cons, List.not_mem_nil, not_false_eq_true, Nat.zero_le, Nat.le_refl, Nat.reduceLeDiff, List.mem_cons, or_false, reduceCtorEq,
  gN, gTp, gCn, gNl, iR1, iR2, iLst, iTpl, iEnum, stab,
  true_and, and_true, Bool.true_eq_false, Bool.false_eq_true, false_imp_iff, forall_const, true_imp_iff, and_self, decide_eq_true_eq, decide_eq_false_iff_not, Bool.not_eq_true', Bool.not_eq_false'])
namespace CD
/- _law_cards: 0:script 1:k 2:cell 3:digits -/
/- _law_card: 0:cards 1:top 2:found 3:mixed -/
/- _law_gcd: 0:first 1:second -/
/- _law_large: 0:cards 1:places 2:figures 3:k -/
/- _law_integer: 0:cards 1:kind -/
/- _law_modulus: 0:cards -/
end CD
end TL

namespace TL
open PySem L2
local macro_rules | `(tactic| walk_at "sx") => `(tactic| simp only [sSeq, sNil, sSet, sFrz, frz_o, frz_sh, frz_s, sIf, sRet, sRetN, sPass, sBrk, sPar, sSub, sApp, sExpr, sAsg, sAug, sFld, sRevI, sPop, eLoc, eC, eUn, eBin, eAnd, eOr, eNot, eIf, eTup, eLst, dNil, dCons, tVal_eq, tstD_bl, tAndW, tOrW, tNotW, eFld_eq, eFldD_o, eProp, eMeth, eMeth0, eSl, pNone, pSome, sl_l,
  out_sh, out_fr, get_loc, get_sh, get_fr, getL_z, getL_o, getL_s, bound_z, bound_o, bound_s, isOwn_o, isOwn_s, pok_loc, pok_sh, pok_fr, stl_loc, stlS_sh, stlS_own, stl_sh, stl_fr, lay_fr, lay_sh, lay_loc, envOf, slotsOf, valN, ghOf, endK, resK, exMu, muN, List.cons_append, List.nil_append, List.append_nil, List.length_cons, List.length_nil, Nat.reduceAdd, Nat.reduceSub, List.replicate_succ, List.replicate_zero, List.replicate,
  List.getElem?_cons_zero, List.getElem?_cons_succ, List.getElem?_nil, List.set_cons_zero, List.set_cons_succ,
  add_ii, add_ss, add_ll, sub_ii, mul_ii, fdv_ii, fdvN_ii, mod_ii, modN_ii, pow_ii, lt_ii, le_ii, gt_ii, ge_ii, eq_ii, ne_ii, ix_li, ix_ti, neg_i, abs_i, int_i, int_b, max_ii, min_ii, len_l, len_t, list_l, list_t, rev_l, isi_int, isi_bl, isi_tup, isi_lst, isi_non, isN_i, isN_n, isN_t, isN_l, notN_i, notN_n, notN_t, notN_l, isTy,
  atI0, atI1, atI2, ixN0, ixN1, ixN2, some_inj_ex, isObj, setAt0, setAt1, setAt2, setAt3, restE, keepS, wipeE, ↓reduceIte, if_false, if_true,
  eCall, eCallP, eMake, pm, List.filterMap_cons, List.filterMap_nil, agNil, agRo, agBo, agMu, agTm, callK, boIx, muIx, tms, argsK, upE, reown, hasBo, noTm, flatRo, noLstAll, noLst, noLsts, List.nodup_nil, List.nodup_cons, List.not_mem_nil, not_false_eq_true, Nat.zero_le, Nat.le_refl, Nat.reduceLeDiff, List.mem_cons, or_false, reduceCtorEq,
  gN, gTp, gCn, gNl, iR1, iR2, iLst, iTpl, iEnum, stab,
  true_and, and_true, Bool.true_eq_false, Bool.false_eq_true, false_imp_iff, forall_const, true_imp_iff, and_self, decide_eq_true_eq, decide_eq_false_iff_not, Bool.not_eq_true', Bool.not_eq_false'])
namespace CD
/- _law_rules: 0:cards 1:modulus 2:reach 3:far 4:rules 5:k 6:a 7:step 8:b -/
end CD
end TL

namespace TL
open PySem L2
local macro_rules | `(tactic| walk_at "sx") => `(tactic| simp only [sSeq, sNil, sSet, sFrz, frz_o, frz_sh, frz_s, sIf, sRet, sRetN, sPass, sBrk, sPar, sSub, sApp, sExpr, sAsg, sAug, sFld, sRevI, sPop, eLoc, eC, eUn, eBin, eAnd, eOr, eNot, eIf, eTup, eLst, dNil, dCons, tVal_eq, tstD_bl, tAndW, tOrW, tNotW, eFld_eq, eFldD_o, eProp, eMeth, eMeth0, eSl, pNone, pSome, sl_l,
  out_sh, out_fr, get_loc, get_sh, get_fr, getL_z, getL_o, getL_s, bound_z, bound_o, bound_s, isOwn_o, isOwn_s, pok_loc, pok_sh, pok_fr, stl_loc, stlS_sh, stlS_own, stl_sh, stl_fr, lay_fr, lay_sh, lay_loc, envOf, slotsOf, valN, ghOf, endK, resK, exMu, muN, List.cons_append, List.nil_append, List.append_nil, List.length_cons, List.length_nil, Nat.reduceAdd, Nat.reduceSub, List.replicate_succ, List.replicate_zero, List.replicate,
  List.getElem?_cons_zero, List.getElem?_cons_succ, List.getElem?_nil, List.set_cons_zero, List.set_cons_succ,
  add_ii, add_ss, add_ll, sub_ii, mul_ii, fdv_ii, fdvN_ii, mod_ii, modN_ii, pow_ii, lt_ii, le_ii, gt_ii, ge_ii, eq_ii, ne_ii, ix_li, ix_ti, neg_i, abs_i, int_i, int_b, max_ii, min_ii, len_l, len_t, list_l, list_t, rev_l, isi_int, isi_bl, isi_tup, isi_lst, isi_non, isN_i, isN_n, isN_t, isN_l, notN_i, notN_n, notN_t, notN_l, isTy,
  atI0, atI1, atI2, ixN0, ixN1, ixN2, some_inj_ex, isObj, setAt0, setAt1, setAt2, setAt3, restE, keepS, wipeE, ↓reduceIte, if_false, if_true,
  eCall, eCallP, eMake, pm, List.filterMap_cons, List.filterMap_nil, agNil, agRo, agBo, agMu, agTm, callK, boIx, muIx, tms, argsK, upE, reown, hasBo, noTm, flatRo, noLstAll, noLst, noLsts, List.nodup_nil, List.nodup_cons, List.not_mem_nil, not_false_eq_true, Nat.zero_le, Nat.le_refl, Nat.reduceLeDiff, List.mem_cons, or_false, reduceCtorEq,
  gN, gTp, gCn, gNl, iR1, iR2, iLst, iTpl, iEnum, stab,
  true_and, and_true, Bool.true_eq_false, Bool.false_eq_true, false_imp_iff, forall_const, true_imp_iff, and_self, decide_eq_true_eq, decide_eq_false_iff_not, Bool.not_eq_true', Bool.not_eq_false'])
namespace CD
/- _law_lowest: 0:top 1:bottom 2:common -/
theorem low_good {t b m : Int} (h1 : 1 ≤ b) (hg : Int.gcd b m = 1) : Good m (low t b) :=
  ⟨(gcd_div (a := t) h1).1, (gcd_div (a := t) h1).2, gcd_of_dvd (Int.ediv_dvd_of_dvd (Int.gcd_dvd_right _ _)) hg⟩
/- _law_good: 0:cards 1:modulus 2:top 3:bottom 4:k 5:common -/
end CD
end TL

namespace TL
open PySem L2
local macro_rules | `(tactic| walk_at "sx") => `(tactic| simp only [sSeq, sNil, sSet, sFrz, frz_o, frz_sh, frz_s, sIf, sRet, sRetN, sPass, sBrk, sPar, sSub, sApp, sExpr, sAsg, sAug, sFld, sRevI, sPop, eLoc, eC, eUn, eBin, eAnd, eOr, eNot, eIf, eTup, eLst, dNil, dCons, tVal_eq, tstD_bl, tAndW, tOrW, tNotW, eFld_eq, eFldD_o, eProp, eMeth, eMeth0, eSl, pNone, pSome, sl_l,
  out_sh, out_fr, get_loc, get_sh, get_fr, getL_z, getL_o, getL_s, bound_z, bound_o, bound_s, isOwn_o, isOwn_s, pok_loc, pok_sh, pok_fr, stl_loc, stlS_sh, stlS_own, stl_sh, stl_fr, lay_fr, lay_sh, lay_loc, envOf, slotsOf, valN, ghOf, endK, resK, exMu, muN, List.cons_append, List.nil_append, List.append_nil, List.length_cons, List.length_nil, Nat.reduceAdd, Nat.reduceSub, List.replicate_succ, List.replicate_zero, List.replicate,
  List.getElem?_cons_zero, List.getElem?_cons_succ, List.getElem?_nil, List.set_cons_zero, List.set_cons_succ,
  add_ii, add_ss, add_ll, sub_ii, mul_ii, fdv_ii, fdvN_ii, mod_ii, modN_ii, pow_ii, lt_ii, le_ii, gt_ii, ge_ii, eq_ii, ne_ii, ix_li, ix_ti, neg_i, abs_i, int_i, int_b, max_ii, min_ii, len_l, len_t, list_l, list_t, rev_l, isi_int, isi_bl, isi_tup, isi_lst, isi_non, isN_i, isN_n, isN_t, isN_l, notN_i, notN_n, notN_t, notN_l, isTy,
  atI0, atI1, atI2, ixN0, ixN1, ixN2, some_inj_ex, isObj, setAt0, setAt1, setAt2, setAt3, restE, keepS, wipeE, ↓reduceIte, if_false, if_true,
  eCall, eCallP, eMake, pm, List.filterMap_cons, List.filterMap_nil, agNil, agRo, agBo, agMu, agTm, callK, boIx, muIx, tms, argsK, upE, reown, hasBo, noTm, flatRo, noLstAll, noLst, noLsts, List.nodup_nil, List.nodup_cons, List.not_mem_nil, not_false_eq_true, Nat.zero_le, Nat.le_refl, Nat.reduceLeDiff, List.mem_cons, or_false, reduceCtorEq,
  gN, gTp, gCn, gNl, iR1, iR2, iLst, iTpl, iEnum, stab,
  true_and, and_true, Bool.true_eq_false, Bool.false_eq_true, false_imp_iff, forall_const, true_imp_iff, and_self, decide_eq_true_eq, decide_eq_false_iff_not, Bool.not_eq_true', Bool.not_eq_false'])
namespace CD
/- _law_whole: 0:value -/
/- _law_is_fraction: 0:value -/
/- _law_walked: 0:rules 1:top 2:bottom 3:many 4:modulus 5:unit 6:line 7:k 8:entry -/
/- before: 0:rule_map 1:number 2:top 3:bottom 4:modulus 5:a 6:b -/
theorem pos_mul {a b : Int} (h1 : 1 ≤ a) (h2 : 1 ≤ b) : 1 ≤ a * b := by
  have : 1 * 1 ≤ a * b := Int.mul_le_mul h1 h2 (by omega) (by omega)
  omega
/- _law_steps_to: 0:rules 1:found 2:entry 3:number 4:line 5:top -/
end CD
end TL

namespace TL
open PySem L2
local macro_rules | `(tactic| walk_at "sx") => `(tactic| simp only [sSeq, sNil, sSet, sFrz, frz_o, frz_sh, frz_s, sIf, sRet, sRetN, sPass, sBrk, sPar, sSub, sApp, sExpr, sAsg, sAug, sFld, sRevI, sPop, eLoc, eC, eUn, eBin, eAnd, eOr, eNot, eIf, eTup, eLst, dNil, dCons, tVal_eq, tstD_bl, tAndW, tOrW, tNotW, eFld_eq, eFldD_o, eProp, eMeth, eMeth0, eSl, pNone, pSome, sl_l,
  out_sh, out_fr, get_loc, get_sh, get_fr, getL_z, getL_o, getL_s, bound_z, bound_o, bound_s, isOwn_o, isOwn_s, pok_loc, pok_sh, pok_fr, stl_loc, stlS_sh, stlS_own, stl_sh, stl_fr, lay_fr, lay_sh, lay_loc, envOf, slotsOf, valN, ghOf, endK, resK, exMu, muN, List.cons_append, List.nil_append, List.append_nil, List.length_cons, List.length_nil, Nat.reduceAdd, Nat.reduceSub, List.replicate_succ, List.replicate_zero, List.replicate,
  List.getElem?_cons_zero, List.getElem?_cons_succ, List.getElem?_nil, List.set_cons_zero, List.set_cons_succ,
  add_ii, add_ss, add_ll, sub_ii, mul_ii, fdv_ii, fdvN_ii, mod_ii, modN_ii, pow_ii, lt_ii, le_ii, gt_ii, ge_ii, eq_ii, ne_ii, ix_li, ix_ti, neg_i, abs_i, int_i, int_b, max_ii, min_ii, len_l, len_t, list_l, list_t, rev_l, isi_int, isi_bl, isi_tup, isi_lst, isi_non, isN_i, isN_n, isN_t, isN_l, notN_i, notN_n, notN_t, notN_l, isTy,
  atI0, atI1, atI2, ixN0, ixN1, ixN2, some_inj_ex, isObj, setAt0, setAt1, setAt2, setAt3, restE, keepS, wipeE, ↓reduceIte, if_false, if_true,
  eCall, eCallP, eMake, pm, List.filterMap_cons, List.filterMap_nil, agNil, agRo, agBo, agMu, agTm, callK, boIx, muIx, tms, argsK, upE, reown, hasBo, noTm, flatRo, noLstAll, noLst, noLsts, List.nodup_nil, List.nodup_cons, List.not_mem_nil, not_false_eq_true, Nat.zero_le, Nat.le_refl, Nat.reduceLeDiff, List.mem_cons, or_false, reduceCtorEq,
  gN, gTp, gCn, gNl, iR1, iR2, iLst, iTpl, iEnum, stab,
  true_and, and_true, Bool.true_eq_false, Bool.false_eq_true, false_imp_iff, forall_const, true_imp_iff, and_self, decide_eq_true_eq, decide_eq_false_iff_not, Bool.not_eq_true', Bool.not_eq_false'])
namespace CD
namespace K42
/- _law_right: 0:cards 1:modulus 2:rules 3:number 4:built 5:found 6:kept 7:k -/
/- law: 0:script 1:k -/
end K42
end CD
end TL

namespace TL
open PySem L2
local macro_rules | `(tactic| walk_at "sx") => `(tactic| simp only [sSeq, sNil, sSet, sFrz, frz_o, frz_sh, frz_s, sIf, sRet, sRetN, sPass, sBrk, sPar, sSub, sApp, sExpr, sAsg, sAug, sFld, sRevI, sPop, eLoc, eC, eUn, eBin, eAnd, eOr, eNot, eIf, eTup, eLst, dNil, dCons, tVal_eq, tstD_bl, tAndW, tOrW, tNotW, eFld_eq, eFldD_o, eProp, eMeth, eMeth0, eSl, pNone, pSome, sl_l,
  out_sh, out_fr, get_loc, get_sh, get_fr, getL_z, getL_o, getL_s, bound_z, bound_o, bound_s, isOwn_o, isOwn_s, pok_loc, pok_sh, pok_fr, stl_loc, stlS_sh, stlS_own, stl_sh, stl_fr, lay_fr, lay_sh, lay_loc, envOf, slotsOf, valN, ghOf, endK, resK, exMu, muN, List.cons_append, List.nil_append, List.append_nil, List.length_cons, List.length_nil, Nat.reduceAdd, Nat.reduceSub, List.replicate_succ, List.replicate_zero, List.replicate,
  List.getElem?_cons_zero, List.getElem?_cons_succ, List.getElem?_nil, List.set_cons_zero, List.set_cons_succ,
  add_ii, add_ss, add_ll, sub_ii, mul_ii, fdv_ii, fdvN_ii, mod_ii, modN_ii, pow_ii, lt_ii, le_ii, gt_ii, ge_ii, eq_ii, ne_ii, ix_li, ix_ti, neg_i, abs_i, int_i, int_b, max_ii, min_ii, len_l, len_t, list_l, list_t, rev_l, isi_int, isi_bl, isi_tup, isi_lst, isi_non, isN_i, isN_n, isN_t, isN_l, notN_i, notN_n, notN_t, notN_l, isTy,
  atI0, atI1, atI2, ixN0, ixN1, ixN2, some_inj_ex, isObj, setAt0, setAt1, setAt2, setAt3, restE, keepS, wipeE, ↓reduceIte, if_false, if_true,
  eCall, eCallP, eMake, pm, List.filterMap_cons, List.filterMap_nil, agNil, agRo, agBo, agMu, agTm, callK, boIx, muIx, tms, argsK, upE, reown, hasBo, noTm, flatRo, noLstAll, noLst, noLsts, List.nodup_nil, List.nodup_cons, List.not_mem_nil, not_false_eq_true, Nat.zero_le, Nat.le_refl, Nat.reduceLeDiff, List.mem_cons, or_false, reduceCtorEq,
  gN, gTp, gCn, gNl, iR1, iR2, iLst, iTpl, iEnum, stab,
  true_and, and_true, Bool.true_eq_false, Bool.false_eq_true, false_imp_iff, forall_const, true_imp_iff, and_self, decide_eq_true_eq, decide_eq_false_iff_not, Bool.not_eq_true', Bool.not_eq_false'])
namespace CD
/-! ### ahead of a number by a word -/
theorem form_a_size {base : Nat} {rs : List (Int × Int)} (hr : RulesOk base rs) {ws : List Int} (hw : Wd rs.length ws) : Bt (1 + 12 * ws.length) (formF rs ws).1 ∧ 1 ≤ (formF rs ws).1 := by
  induction ws using snocRec with
  | nil => exact ⟨by show Bt 1 (1 : Int); unfold Bt; decide, by show (1 : Int) ≤ 1; decide⟩
  | append_singleton ws e ih =>
    have ih := ih fun x hx => hw x (by simp [hx])
    have he := hw e (by simp)
    rw [formF_snoc, List.length_append, List.length_singleton]
    obtain ⟨i, hi⟩ := List.getElem?_of_mem (mem_getD (x := ((1 : Int), (0 : Int))) he.1 he.2)
    have q := hr.ok i _ hi
    have g1 : 1 ≤ (ruleAt rs e).1 := q.1.1
    have g2 : (ruleAt rs e).1 ≤ 1000 := q.2.1
    have q1 : Bt 12 (ruleAt rs e).1 := Bt.of (by omega) (by omega) (by omega)
    exact ⟨(q1.mul ih.1).mono (by omega), pos_mul g1 ih.2⟩
def backW (rs : List (Int × Int)) (p : Int × Int) (ws : List Int) : Int × Int := low ((formF rs ws).2.2 * p.1 - (formF rs ws).2.1 * p.2) ((formF rs ws).1 * p.2)
theorem backW_spec {base : Nat} {rs : List (Int × Int)} (hr : RulesOk base rs) (h2 : 2 ≤ base) (h6 : base ≤ 60) {p : Int × Int} (hg : Good rs.length p) {ws : List Int} (hw : Wd rs.length ws) :
    Good rs.length (backW rs p ws) ∧ uWord rs (backW rs p ws).2 (backW rs p ws).1 ws.length = ws ∧ uWalk rs (backW rs p ws).2 (backW rs p ws).1 ws.length * p.2 = p.1 * (backW rs p ws).2 := by
  have h := hr.map h2 (by omega)
  have ha := (form_a_size hr hw).2
  have hb : 1 ≤ (formF rs ws).1 * p.2 := pos_mul ha hg.1
  have hbg : Int.gcd ((formF rs ws).1 * p.2) rs.length = 1 := gcd_mul (form_gcd h hw) hg.2.2
  have g : Good rs.length (backW rs p ws) := low_good (t := (formF rs ws).2.2 * p.1 - (formF rs ws).2.1 * p.2) hb hbg
  obtain ⟨c, hc, eu, eq⟩ := low_gcd (u := (formF rs ws).2.2 * p.1 - (formF rs ws).2.1 * p.2) hb
  have eu : (formF rs ws).2.2 * p.1 - (formF rs ws).2.1 * p.2 = (backW rs p ws).1 * c := eu
  have eq : (formF rs ws).1 * p.2 = (backW rs p ws).2 * c := eq
  have hcg : Int.gcd c rs.length = 1 := gcd_of_dvd ⟨(backW rs p ws).2, by rw [eq]; exact Int.mul_comm _ _⟩ hbg
  have hs0 : 0 < (formF rs ws).2.2 := by rw [formF_scale]; exact Int.pow_pos h.pos
  have hcs : Int.gcd c (formF rs ws).2.2 = 1 := by rw [formF_scale]; exact gcd_pow hcg _
  have fi := form_iffU h g.2.2 (backW rs p ws).1 hw
  have key : ((formF rs ws).1 * (backW rs p ws).1 + (formF rs ws).2.1 * (backW rs p ws).2) * c = (formF rs ws).2.2 * ((formF rs ws).1 * p.1) := by
    have a1 : ((formF rs ws).1 * (backW rs p ws).1 + (formF rs ws).2.1 * (backW rs p ws).2) * c = (formF rs ws).1 * ((backW rs p ws).1 * c) + (formF rs ws).2.1 * ((backW rs p ws).2 * c) := by grind
    rw [a1, ← eu, ← eq]; grind
  have d := dvd_of_gcd hcs (show (formF rs ws).2.2 ∣ ((formF rs ws).1 * (backW rs p ws).1 + (formF rs ws).2.1 * (backW rs p ws).2) * c by rw [key]; exact Int.dvd_mul_right _ _)
  have uw := fi.mpr d
  refine ⟨g, uw, ?_⟩
  have fw := form_walkU h g.2.2 (backW rs p ws).1 ws.length
  rw [uw] at fw
  rw [fw] at key
  have k1 : uWalk rs (backW rs p ws).2 (backW rs p ws).1 ws.length * c = (formF rs ws).1 * p.1 := by
    rw [Int.mul_assoc] at key
    exact Int.eq_of_mul_eq_mul_left (by omega) key
  have k2 : (uWalk rs (backW rs p ws).2 (backW rs p ws).1 ws.length * p.2) * c = (p.1 * (backW rs p ws).2) * c := by
    have a1 : (uWalk rs (backW rs p ws).2 (backW rs p ws).1 ws.length * p.2) * c = (uWalk rs (backW rs p ws).2 (backW rs p ws).1 ws.length * c) * p.2 := by grind
    have a2 : (p.1 * (backW rs p ws).2) * c = p.1 * ((backW rs p ws).2 * c) := by grind
    rw [a1, k1, a2, ← eq]; grind
  exact Int.eq_of_mul_eq_mul_right (by omega) k2
/- back_by: 0:rule_map 1:number 2:word 3:a 4:b 5:whole 6:top 7:bottom -/
/- _law_word: 0:cards 1:modulus 2:size 3:k -/
/- _law_leads: 0:rules 1:found 2:line 3:number 4:told 5:top -/
end CD
end TL

namespace TL
open PySem L2
local macro_rules | `(tactic| walk_at "sx") => `(tactic| simp only [sSeq, sNil, sSet, sFrz, frz_o, frz_sh, frz_s, sIf, sRet, sRetN, sPass, sBrk, sPar, sSub, sApp, sExpr, sAsg, sAug, sFld, sRevI, sPop, eLoc, eC, eUn, eBin, eAnd, eOr, eNot, eIf, eTup, eLst, dNil, dCons, tVal_eq, tstD_bl, tAndW, tOrW, tNotW, eFld_eq, eFldD_o, eProp, eMeth, eMeth0, eSl, pNone, pSome, sl_l,
  out_sh, out_fr, get_loc, get_sh, get_fr, getL_z, getL_o, getL_s, bound_z, bound_o, bound_s, isOwn_o, isOwn_s, pok_loc, pok_sh, pok_fr, stl_loc, stlS_sh, stlS_own, stl_sh, stl_fr, lay_fr, lay_sh, lay_loc, envOf, slotsOf, valN, ghOf, endK, resK, exMu, muN, List.cons_append, List.nil_append, List.append_nil, List.length_cons, List.length_nil, Nat.reduceAdd, Nat.reduceSub, List.replicate_succ, List.replicate_zero, List.replicate,
  List.getElem?_cons_zero, List.getElem?_cons_succ, List.getElem?_nil, List.set_cons_zero, List.set_cons_succ,
  add_ii, add_ss, add_ll, sub_ii, mul_ii, fdv_ii, fdvN_ii, mod_ii, modN_ii, pow_ii, lt_ii, le_ii, gt_ii, ge_ii, eq_ii, ne_ii, ix_li, ix_ti, neg_i, abs_i, int_i, int_b, max_ii, min_ii, len_l, len_t, list_l, list_t, rev_l, isi_int, isi_bl, isi_tup, isi_lst, isi_non, isN_i, isN_n, isN_t, isN_l, notN_i, notN_n, notN_t, notN_l, isTy,
  atI0, atI1, atI2, ixN0, ixN1, ixN2, some_inj_ex, isObj, setAt0, setAt1, setAt2, setAt3, restE, keepS, wipeE, ↓reduceIte, if_false, if_true,
  eCall, eCallP, eMake, pm, List.filterMap_cons, List.filterMap_nil, agNil, agRo, agBo, agMu, agTm, callK, boIx, muIx, tms, argsK, upE, reown, hasBo, noTm, flatRo, noLstAll, noLst, noLsts, List.nodup_nil, List.nodup_cons, List.not_mem_nil, not_false_eq_true, Nat.zero_le, Nat.le_refl, Nat.reduceLeDiff, List.mem_cons, or_false, reduceCtorEq,
  gN, gTp, gCn, gNl, iR1, iR2, iLst, iTpl, iEnum, stab,
  true_and, and_true, Bool.true_eq_false, Bool.false_eq_true, false_imp_iff, forall_const, true_imp_iff, and_self, decide_eq_true_eq, decide_eq_false_iff_not, Bool.not_eq_true', Bool.not_eq_false'])
namespace CD
namespace K45
/- _law_right: 0:cards 1:modulus 2:rules 3:number 4:built 5:size 6:line 7:passed -/
/- law: 0:script 1:k -/
end K45
end CD
end TL

namespace TL
open PySem L2
local macro_rules | `(tactic| walk_at "sx") => `(tactic| simp only [sSeq, sNil, sSet, sFrz, frz_o, frz_sh, frz_s, sIf, sRet, sRetN, sPass, sBrk, sPar, sSub, sApp, sExpr, sAsg, sAug, sFld, sRevI, sPop, eLoc, eC, eUn, eBin, eAnd, eOr, eNot, eIf, eTup, eLst, dNil, dCons, tVal_eq, tstD_bl, tAndW, tOrW, tNotW, eFld_eq, eFldD_o, eProp, eMeth, eMeth0, eSl, pNone, pSome, sl_l,
  out_sh, out_fr, get_loc, get_sh, get_fr, getL_z, getL_o, getL_s, bound_z, bound_o, bound_s, isOwn_o, isOwn_s, pok_loc, pok_sh, pok_fr, stl_loc, stlS_sh, stlS_own, stl_sh, stl_fr, lay_fr, lay_sh, lay_loc, envOf, slotsOf, valN, ghOf, endK, resK, exMu, muN, List.cons_append, List.nil_append, List.append_nil, List.length_cons, List.length_nil, Nat.reduceAdd, Nat.reduceSub, List.replicate_succ, List.replicate_zero, List.replicate,
  List.getElem?_cons_zero, List.getElem?_cons_succ, List.getElem?_nil, List.set_cons_zero, List.set_cons_succ,
  add_ii, add_ss, add_ll, sub_ii, mul_ii, fdv_ii, fdvN_ii, mod_ii, modN_ii, pow_ii, lt_ii, le_ii, gt_ii, ge_ii, eq_ii, ne_ii, ix_li, ix_ti, neg_i, abs_i, int_i, int_b, max_ii, min_ii, len_l, len_t, list_l, list_t, rev_l, isi_int, isi_bl, isi_tup, isi_lst, isi_non, isN_i, isN_n, isN_t, isN_l, notN_i, notN_n, notN_t, notN_l, isTy,
  atI0, atI1, atI2, ixN0, ixN1, ixN2, some_inj_ex, isObj, setAt0, setAt1, setAt2, setAt3, restE, keepS, wipeE, ↓reduceIte, if_false, if_true,
  eCall, eCallP, eMake, pm, List.filterMap_cons, List.filterMap_nil, agNil, agRo, agBo, agMu, agTm, callK, boIx, muIx, tms, argsK, upE, reown, hasBo, noTm, flatRo, noLstAll, noLst, noLsts, List.nodup_nil, List.nodup_cons, List.not_mem_nil, not_false_eq_true, Nat.zero_le, Nat.le_refl, Nat.reduceLeDiff, List.mem_cons, or_false, reduceCtorEq,
  gN, gTp, gCn, gNl, iR1, iR2, iLst, iTpl, iEnum, stab,
  true_and, and_true, Bool.true_eq_false, Bool.false_eq_true, false_imp_iff, forall_const, true_imp_iff, and_self, decide_eq_true_eq, decide_eq_false_iff_not, Bool.not_eq_true', Bool.not_eq_false'])
namespace CD
/-! ### falling words -/
/- is_falling: 0:rule_map 1:word 2:rules 3:product 4:whole 5:k -/
/- _law_falls: 0:rules 1:line 2:product 3:whole 4:k -/
/- _law_standing: 0:cards 1:rules 2:size 3:great 4:high 5:line 6:product 7:whole 8:k 9:drawn 10:rule -/
/- _law_fallen: 0:rules 1:line 2:limit 3:small 4:low 5:found 6:product 7:whole 8:k 9:entry 10:rule -/
end CD
end TL

namespace TL
open PySem L2
local macro_rules | `(tactic| walk_at "sx") => `(tactic| simp only [sSeq, sNil, sSet, sFrz, frz_o, frz_sh, frz_s, sIf, sRet, sRetN, sPass, sBrk, sPar, sSub, sApp, sExpr, sAsg, sAug, sFld, sRevI, sPop, eLoc, eC, eUn, eBin, eAnd, eOr, eNot, eIf, eTup, eLst, dNil, dCons, tVal_eq, tstD_bl, tAndW, tOrW, tNotW, eFld_eq, eFldD_o, eProp, eMeth, eMeth0, eSl, pNone, pSome, sl_l,
  out_sh, out_fr, get_loc, get_sh, get_fr, getL_z, getL_o, getL_s, bound_z, bound_o, bound_s, isOwn_o, isOwn_s, pok_loc, pok_sh, pok_fr, stl_loc, stlS_sh, stlS_own, stl_sh, stl_fr, lay_fr, lay_sh, lay_loc, envOf, slotsOf, valN, ghOf, endK, resK, exMu, muN, List.cons_append, List.nil_append, List.append_nil, List.length_cons, List.length_nil, Nat.reduceAdd, Nat.reduceSub, List.replicate_succ, List.replicate_zero, List.replicate,
  List.getElem?_cons_zero, List.getElem?_cons_succ, List.getElem?_nil, List.set_cons_zero, List.set_cons_succ,
  add_ii, add_ss, add_ll, sub_ii, mul_ii, fdv_ii, fdvN_ii, mod_ii, modN_ii, pow_ii, lt_ii, le_ii, gt_ii, ge_ii, eq_ii, ne_ii, ix_li, ix_ti, neg_i, abs_i, int_i, int_b, max_ii, min_ii, len_l, len_t, list_l, list_t, rev_l, isi_int, isi_bl, isi_tup, isi_lst, isi_non, isN_i, isN_n, isN_t, isN_l, notN_i, notN_n, notN_t, notN_l, isTy,
  atI0, atI1, atI2, ixN0, ixN1, ixN2, some_inj_ex, isObj, setAt0, setAt1, setAt2, setAt3, restE, keepS, wipeE, ↓reduceIte, if_false, if_true,
  eCall, eCallP, eMake, pm, List.filterMap_cons, List.filterMap_nil, agNil, agRo, agBo, agMu, agTm, callK, boIx, muIx, tms, argsK, upE, reown, hasBo, noTm, flatRo, noLstAll, noLst, noLsts, List.nodup_nil, List.nodup_cons, List.not_mem_nil, not_false_eq_true, Nat.zero_le, Nat.le_refl, Nat.reduceLeDiff, List.mem_cons, or_false, reduceCtorEq,
  gN, gTp, gCn, gNl, iR1, iR2, iLst, iTpl, iEnum, stab,
  true_and, and_true, Bool.true_eq_false, Bool.false_eq_true, false_imp_iff, forall_const, true_imp_iff, and_self, decide_eq_true_eq, decide_eq_false_iff_not, Bool.not_eq_true', Bool.not_eq_false'])
namespace CD
namespace K35
/- _law_right: 0:cards 1:modulus 2:rules 3:built 4:start 5:low 6:lines 7:line 8:passed 9:found -/
/- law: 0:script 1:k -/
end K35
end CD
end TL

namespace TL
open PySem L2
local macro_rules | `(tactic| walk_at "sx") => `(tactic| simp only [sSeq, sNil, sSet, sFrz, frz_o, frz_sh, frz_s, sIf, sRet, sRetN, sPass, sBrk, sPar, sSub, sApp, sExpr, sAsg, sAug, sFld, sRevI, sPop, eLoc, eC, eUn, eBin, eAnd, eOr, eNot, eIf, eTup, eLst, dNil, dCons, tVal_eq, tstD_bl, tAndW, tOrW, tNotW, eFld_eq, eFldD_o, eProp, eMeth, eMeth0, eSl, pNone, pSome, sl_l,
  out_sh, out_fr, get_loc, get_sh, get_fr, getL_z, getL_o, getL_s, bound_z, bound_o, bound_s, isOwn_o, isOwn_s, pok_loc, pok_sh, pok_fr, stl_loc, stlS_sh, stlS_own, stl_sh, stl_fr, lay_fr, lay_sh, lay_loc, envOf, slotsOf, valN, ghOf, endK, resK, exMu, muN, List.cons_append, List.nil_append, List.append_nil, List.length_cons, List.length_nil, Nat.reduceAdd, Nat.reduceSub, List.replicate_succ, List.replicate_zero, List.replicate,
  List.getElem?_cons_zero, List.getElem?_cons_succ, List.getElem?_nil, List.set_cons_zero, List.set_cons_succ,
  add_ii, add_ss, add_ll, sub_ii, mul_ii, fdv_ii, fdvN_ii, mod_ii, modN_ii, pow_ii, lt_ii, le_ii, gt_ii, ge_ii, eq_ii, ne_ii, ix_li, ix_ti, neg_i, abs_i, int_i, int_b, max_ii, min_ii, len_l, len_t, list_l, list_t, rev_l, isi_int, isi_bl, isi_tup, isi_lst, isi_non, isN_i, isN_n, isN_t, isN_l, notN_i, notN_n, notN_t, notN_l, isTy,
  atI0, atI1, atI2, ixN0, ixN1, ixN2, some_inj_ex, isObj, setAt0, setAt1, setAt2, setAt3, restE, keepS, wipeE, ↓reduceIte, if_false, if_true,
  eCall, eCallP, eMake, pm, List.filterMap_cons, List.filterMap_nil, agNil, agRo, agBo, agMu, agTm, callK, boIx, muIx, tms, argsK, upE, reown, hasBo, noTm, flatRo, noLstAll, noLst, noLsts, List.nodup_nil, List.nodup_cons, List.not_mem_nil, not_false_eq_true, Nat.zero_le, Nat.le_refl, Nat.reduceLeDiff, List.mem_cons, or_false, reduceCtorEq,
  gN, gTp, gCn, gNl, iR1, iR2, iLst, iTpl, iEnum, stab,
  true_and, and_true, Bool.true_eq_false, Bool.false_eq_true, false_imp_iff, forall_const, true_imp_iff, and_self, decide_eq_true_eq, decide_eq_false_iff_not, Bool.not_eq_true', Bool.not_eq_false'])
namespace CD
/-! ### where falling begins -/
/- falls_from: 0:rule_map 1:word 2:a 3:b 4:whole 5:border -/
/- _law_step: 0:rules 1:number 2:a 3:b -/
/- _law_taken: 0:rules 1:word 2:number 3:entry -/
/- _law_falls_at: 0:rules 1:word 2:number 3:taken -/
end CD
end TL

namespace TL
open PySem L2
local macro_rules | `(tactic| walk_at "sx") => `(tactic| simp only [sSeq, sNil, sSet, sFrz, frz_o, frz_sh, frz_s, sIf, sRet, sRetN, sPass, sBrk, sPar, sSub, sApp, sExpr, sAsg, sAug, sFld, sRevI, sPop, eLoc, eC, eUn, eBin, eAnd, eOr, eNot, eIf, eTup, eLst, dNil, dCons, tVal_eq, tstD_bl, tAndW, tOrW, tNotW, eFld_eq, eFldD_o, eProp, eMeth, eMeth0, eSl, pNone, pSome, sl_l,
  out_sh, out_fr, get_loc, get_sh, get_fr, getL_z, getL_o, getL_s, bound_z, bound_o, bound_s, isOwn_o, isOwn_s, pok_loc, pok_sh, pok_fr, stl_loc, stlS_sh, stlS_own, stl_sh, stl_fr, lay_fr, lay_sh, lay_loc, envOf, slotsOf, valN, ghOf, endK, resK, exMu, muN, List.cons_append, List.nil_append, List.append_nil, List.length_cons, List.length_nil, Nat.reduceAdd, Nat.reduceSub, List.replicate_succ, List.replicate_zero, List.replicate,
  List.getElem?_cons_zero, List.getElem?_cons_succ, List.getElem?_nil, List.set_cons_zero, List.set_cons_succ,
  add_ii, add_ss, add_ll, sub_ii, mul_ii, fdv_ii, fdvN_ii, mod_ii, modN_ii, pow_ii, lt_ii, le_ii, gt_ii, ge_ii, eq_ii, ne_ii, ix_li, ix_ti, neg_i, abs_i, int_i, int_b, max_ii, min_ii, len_l, len_t, list_l, list_t, rev_l, isi_int, isi_bl, isi_tup, isi_lst, isi_non, isN_i, isN_n, isN_t, isN_l, notN_i, notN_n, notN_t, notN_l, isTy,
  atI0, atI1, atI2, ixN0, ixN1, ixN2, some_inj_ex, isObj, setAt0, setAt1, setAt2, setAt3, restE, keepS, wipeE, ↓reduceIte, if_false, if_true,
  eCall, eCallP, eMake, pm, List.filterMap_cons, List.filterMap_nil, agNil, agRo, agBo, agMu, agTm, callK, boIx, muIx, tms, argsK, upE, reown, hasBo, noTm, flatRo, noLstAll, noLst, noLsts, List.nodup_nil, List.nodup_cons, List.not_mem_nil, not_false_eq_true, Nat.zero_le, Nat.le_refl, Nat.reduceLeDiff, List.mem_cons, or_false, reduceCtorEq,
  gN, gTp, gCn, gNl, iR1, iR2, iLst, iTpl, iEnum, stab,
  true_and, and_true, Bool.true_eq_false, Bool.false_eq_true, false_imp_iff, forall_const, true_imp_iff, and_self, decide_eq_true_eq, decide_eq_false_iff_not, Bool.not_eq_true', Bool.not_eq_false'])
namespace CD
namespace K37
/- _law_right: 0:cards 1:modulus 2:rules 3:low 4:size 5:start 6:line 7:built 8:passed 9:found 10:whole 11:taken 12:far -/
/- law: 0:script 1:k -/
end K37
end CD
end TL

namespace TL
open PySem L2
local macro_rules | `(tactic| walk_at "sx") => `(tactic| simp only [sSeq, sNil, sSet, sFrz, frz_o, frz_sh, frz_s, sIf, sRet, sRetN, sPass, sBrk, sPar, sSub, sApp, sExpr, sAsg, sAug, sFld, sRevI, sPop, eLoc, eC, eUn, eBin, eAnd, eOr, eNot, eIf, eTup, eLst, dNil, dCons, tVal_eq, tstD_bl, tAndW, tOrW, tNotW, eFld_eq, eFldD_o, eProp, eMeth, eMeth0, eSl, pNone, pSome, sl_l,
  out_sh, out_fr, get_loc, get_sh, get_fr, getL_z, getL_o, getL_s, bound_z, bound_o, bound_s, isOwn_o, isOwn_s, pok_loc, pok_sh, pok_fr, stl_loc, stlS_sh, stlS_own, stl_sh, stl_fr, lay_fr, lay_sh, lay_loc, envOf, slotsOf, valN, ghOf, endK, resK, exMu, muN, List.cons_append, List.nil_append, List.append_nil, List.length_cons, List.length_nil, Nat.reduceAdd, Nat.reduceSub, List.replicate_succ, List.replicate_zero, List.replicate,
  List.getElem?_cons_zero, List.getElem?_cons_succ, List.getElem?_nil, List.set_cons_zero, List.set_cons_succ,
  add_ii, add_ss, add_ll, sub_ii, mul_ii, fdv_ii, fdvN_ii, mod_ii, modN_ii, pow_ii, lt_ii, le_ii, gt_ii, ge_ii, eq_ii, ne_ii, ix_li, ix_ti, neg_i, abs_i, int_i, int_b, max_ii, min_ii, len_l, len_t, list_l, list_t, rev_l, isi_int, isi_bl, isi_tup, isi_lst, isi_non, isN_i, isN_n, isN_t, isN_l, notN_i, notN_n, notN_t, notN_l, isTy,
  atI0, atI1, atI2, ixN0, ixN1, ixN2, some_inj_ex, isObj, setAt0, setAt1, setAt2, setAt3, restE, keepS, wipeE, ↓reduceIte, if_false, if_true,
  eCall, eCallP, eMake, pm, List.filterMap_cons, List.filterMap_nil, agNil, agRo, agBo, agMu, agTm, callK, boIx, muIx, tms, argsK, upE, reown, hasBo, noTm, flatRo, noLstAll, noLst, noLsts, List.nodup_nil, List.nodup_cons, List.not_mem_nil, not_false_eq_true, Nat.zero_le, Nat.le_refl, Nat.reduceLeDiff, List.mem_cons, or_false, reduceCtorEq,
  gN, gTp, gCn, gNl, iR1, iR2, iLst, iTpl, iEnum, stab,
  true_and, and_true, Bool.true_eq_false, Bool.false_eq_true, false_imp_iff, forall_const, true_imp_iff, and_self, decide_eq_true_eq, decide_eq_false_iff_not, Bool.not_eq_true', Bool.not_eq_false'])
namespace CD
/- _law_form: 0:rules 1:line 2:a 3:b 4:whole 5:entry -/
def distF (f g : Fm) : D := if f.1 = g.1 then encR (low (f.2.1 - g.2.1) f.1) else .non
/- distance_of: 0:rule_map 1:one 2:other 3:a 4:b 5:whole 6:other_a 7:other_b -/
/- _law_meet: 0:rules 1:first 2:second 3:found 4:there 5:a 6:b 7:whole 8:top 9:bottom -/
end CD
end TL

namespace TL
open PySem L2
local macro_rules | `(tactic| walk_at "sx") => `(tactic| simp only [sSeq, sNil, sSet, sFrz, frz_o, frz_sh, frz_s, sIf, sRet, sRetN, sPass, sBrk, sPar, sSub, sApp, sExpr, sAsg, sAug, sFld, sRevI, sPop, eLoc, eC, eUn, eBin, eAnd, eOr, eNot, eIf, eTup, eLst, dNil, dCons, tVal_eq, tstD_bl, tAndW, tOrW, tNotW, eFld_eq, eFldD_o, eProp, eMeth, eMeth0, eSl, pNone, pSome, sl_l,
  out_sh, out_fr, get_loc, get_sh, get_fr, getL_z, getL_o, getL_s, bound_z, bound_o, bound_s, isOwn_o, isOwn_s, pok_loc, pok_sh, pok_fr, stl_loc, stlS_sh, stlS_own, stl_sh, stl_fr, lay_fr, lay_sh, lay_loc, envOf, slotsOf, valN, ghOf, endK, resK, exMu, muN, List.cons_append, List.nil_append, List.append_nil, List.length_cons, List.length_nil, Nat.reduceAdd, Nat.reduceSub, List.replicate_succ, List.replicate_zero, List.replicate,
  List.getElem?_cons_zero, List.getElem?_cons_succ, List.getElem?_nil, List.set_cons_zero, List.set_cons_succ,
  add_ii, add_ss, add_ll, sub_ii, mul_ii, fdv_ii, fdvN_ii, mod_ii, modN_ii, pow_ii, lt_ii, le_ii, gt_ii, ge_ii, eq_ii, ne_ii, ix_li, ix_ti, neg_i, abs_i, int_i, int_b, max_ii, min_ii, len_l, len_t, list_l, list_t, rev_l, isi_int, isi_bl, isi_tup, isi_lst, isi_non, isN_i, isN_n, isN_t, isN_l, notN_i, notN_n, notN_t, notN_l, isTy,
  atI0, atI1, atI2, ixN0, ixN1, ixN2, some_inj_ex, isObj, setAt0, setAt1, setAt2, setAt3, restE, keepS, wipeE, ↓reduceIte, if_false, if_true,
  eCall, eCallP, eMake, pm, List.filterMap_cons, List.filterMap_nil, agNil, agRo, agBo, agMu, agTm, callK, boIx, muIx, tms, argsK, upE, reown, hasBo, noTm, flatRo, noLstAll, noLst, noLsts, List.nodup_nil, List.nodup_cons, List.not_mem_nil, not_false_eq_true, Nat.zero_le, Nat.le_refl, Nat.reduceLeDiff, List.mem_cons, or_false, reduceCtorEq,
  gN, gTp, gCn, gNl, iR1, iR2, iLst, iTpl, iEnum, stab,
  true_and, and_true, Bool.true_eq_false, Bool.false_eq_true, false_imp_iff, forall_const, true_imp_iff, and_self, decide_eq_true_eq, decide_eq_false_iff_not, Bool.not_eq_true', Bool.not_eq_false'])
namespace CD
namespace K51
/- _law_other: 0:cards 1:modulus 2:line 3:kind 4:at -/
/- _law_right: 0:cards 1:modulus 2:rules 3:size 4:first 5:second 6:built 7:passed 8:found 9:back -/
/- law: 0:script 1:k -/
end K51
end CD
end TL

namespace TL
open PySem L2
local macro_rules | `(tactic| walk_at "sx") => `(tactic| simp only [sSeq, sNil, sSet, sFrz, frz_o, frz_sh, frz_s, sIf, sRet, sRetN, sPass, sBrk, sPar, sSub, sApp, sExpr, sAsg, sAug, sFld, sRevI, sPop, eLoc, eC, eUn, eBin, eAnd, eOr, eNot, eIf, eTup, eLst, dNil, dCons, tVal_eq, tstD_bl, tAndW, tOrW, tNotW, eFld_eq, eFldD_o, eProp, eMeth, eMeth0, eSl, pNone, pSome, sl_l,
  out_sh, out_fr, get_loc, get_sh, get_fr, getL_z, getL_o, getL_s, bound_z, bound_o, bound_s, isOwn_o, isOwn_s, pok_loc, pok_sh, pok_fr, stl_loc, stlS_sh, stlS_own, stl_sh, stl_fr, lay_fr, lay_sh, lay_loc, envOf, slotsOf, valN, ghOf, endK, resK, exMu, muN, List.cons_append, List.nil_append, List.append_nil, List.length_cons, List.length_nil, Nat.reduceAdd, Nat.reduceSub, List.replicate_succ, List.replicate_zero, List.replicate,
  List.getElem?_cons_zero, List.getElem?_cons_succ, List.getElem?_nil, List.set_cons_zero, List.set_cons_succ,
  add_ii, add_ss, add_ll, sub_ii, mul_ii, fdv_ii, fdvN_ii, mod_ii, modN_ii, pow_ii, lt_ii, le_ii, gt_ii, ge_ii, eq_ii, ne_ii, ix_li, ix_ti, neg_i, abs_i, int_i, int_b, max_ii, min_ii, len_l, len_t, list_l, list_t, rev_l, isi_int, isi_bl, isi_tup, isi_lst, isi_non, isN_i, isN_n, isN_t, isN_l, notN_i, notN_n, notN_t, notN_l, isTy,
  atI0, atI1, atI2, ixN0, ixN1, ixN2, some_inj_ex, isObj, setAt0, setAt1, setAt2, setAt3, restE, keepS, wipeE, ↓reduceIte, if_false, if_true,
  eCall, eCallP, eMake, pm, List.filterMap_cons, List.filterMap_nil, agNil, agRo, agBo, agMu, agTm, callK, boIx, muIx, tms, argsK, upE, reown, hasBo, noTm, flatRo, noLstAll, noLst, noLsts, List.nodup_nil, List.nodup_cons, List.not_mem_nil, not_false_eq_true, Nat.zero_le, Nat.le_refl, Nat.reduceLeDiff, List.mem_cons, or_false, reduceCtorEq,
  gN, gTp, gCn, gNl, iR1, iR2, iLst, iTpl, iEnum, stab,
  true_and, and_true, Bool.true_eq_false, Bool.false_eq_true, false_imp_iff, forall_const, true_imp_iff, and_self, decide_eq_true_eq, decide_eq_false_iff_not, Bool.not_eq_true', Bool.not_eq_false'])
namespace CD
/- _law_length: 0:cards 1:modulus 2:limit 3:greatest 4:whole 5:k -/
/- twin: 0:one 1:other 2:number 3:steps -/
namespace CH
/- _law_changed: 0:cards 1:rules 2:found 3:k 4:kind -/
end CH
end CD
end TL

namespace TL
open PySem L2
local macro_rules | `(tactic| walk_at "sx") => `(tactic| simp only [sSeq, sNil, sSet, sFrz, frz_o, frz_sh, frz_s, sIf, sRet, sRetN, sPass, sBrk, sPar, sSub, sApp, sExpr, sAsg, sAug, sFld, sRevI, sPop, eLoc, eC, eUn, eBin, eAnd, eOr, eNot, eIf, eTup, eLst, dNil, dCons, tVal_eq, tstD_bl, tAndW, tOrW, tNotW, eFld_eq, eFldD_o, eProp, eMeth, eMeth0, eSl, pNone, pSome, sl_l,
  out_sh, out_fr, get_loc, get_sh, get_fr, getL_z, getL_o, getL_s, bound_z, bound_o, bound_s, isOwn_o, isOwn_s, pok_loc, pok_sh, pok_fr, stl_loc, stlS_sh, stlS_own, stl_sh, stl_fr, lay_fr, lay_sh, lay_loc, envOf, slotsOf, valN, ghOf, endK, resK, exMu, muN, List.cons_append, List.nil_append, List.append_nil, List.length_cons, List.length_nil, Nat.reduceAdd, Nat.reduceSub, List.replicate_succ, List.replicate_zero, List.replicate,
  List.getElem?_cons_zero, List.getElem?_cons_succ, List.getElem?_nil, List.set_cons_zero, List.set_cons_succ,
  add_ii, add_ss, add_ll, sub_ii, mul_ii, fdv_ii, fdvN_ii, mod_ii, modN_ii, pow_ii, lt_ii, le_ii, gt_ii, ge_ii, eq_ii, ne_ii, ix_li, ix_ti, neg_i, abs_i, int_i, int_b, max_ii, min_ii, len_l, len_t, list_l, list_t, rev_l, isi_int, isi_bl, isi_tup, isi_lst, isi_non, isN_i, isN_n, isN_t, isN_l, notN_i, notN_n, notN_t, notN_l, isTy,
  atI0, atI1, atI2, ixN0, ixN1, ixN2, some_inj_ex, isObj, setAt0, setAt1, setAt2, setAt3, restE, keepS, wipeE, ↓reduceIte, if_false, if_true,
  eCall, eCallP, eMake, pm, List.filterMap_cons, List.filterMap_nil, agNil, agRo, agBo, agMu, agTm, callK, boIx, muIx, tms, argsK, upE, reown, hasBo, noTm, flatRo, noLstAll, noLst, noLsts, List.nodup_nil, List.nodup_cons, List.not_mem_nil, not_false_eq_true, Nat.zero_le, Nat.le_refl, Nat.reduceLeDiff, List.mem_cons, or_false, reduceCtorEq,
  gN, gTp, gCn, gNl, iR1, iR2, iLst, iTpl, iEnum, stab,
  true_and, and_true, Bool.true_eq_false, Bool.false_eq_true, false_imp_iff, forall_const, true_imp_iff, and_self, decide_eq_true_eq, decide_eq_false_iff_not, Bool.not_eq_true', Bool.not_eq_false'])
namespace CD
namespace CH
namespace K55
/- _law_right: 0:cards 1:modulus 2:rules 3:second 4:number 5:many 6:whole 7:built 8:line 9:turn 10:found 11:itself -/
/- law: 0:script 1:k -/
end K55
end CH
end CD
end TL

namespace TL
open PySem L2
local macro_rules | `(tactic| walk_at "sx") => `(tactic| simp only [sSeq, sNil, sSet, sFrz, frz_o, frz_sh, frz_s, sIf, sRet, sRetN, sPass, sBrk, sPar, sSub, sApp, sExpr, sAsg, sAug, sFld, sRevI, sPop, eLoc, eC, eUn, eBin, eAnd, eOr, eNot, eIf, eTup, eLst, dNil, dCons, tVal_eq, tstD_bl, tAndW, tOrW, tNotW, eFld_eq, eFldD_o, eProp, eMeth, eMeth0, eSl, pNone, pSome, sl_l,
  out_sh, out_fr, get_loc, get_sh, get_fr, getL_z, getL_o, getL_s, bound_z, bound_o, bound_s, isOwn_o, isOwn_s, pok_loc, pok_sh, pok_fr, stl_loc, stlS_sh, stlS_own, stl_sh, stl_fr, lay_fr, lay_sh, lay_loc, envOf, slotsOf, valN, ghOf, endK, resK, exMu, muN, List.cons_append, List.nil_append, List.append_nil, List.length_cons, List.length_nil, Nat.reduceAdd, Nat.reduceSub, List.replicate_succ, List.replicate_zero, List.replicate,
  List.getElem?_cons_zero, List.getElem?_cons_succ, List.getElem?_nil, List.set_cons_zero, List.set_cons_succ,
  add_ii, add_ss, add_ll, sub_ii, mul_ii, fdv_ii, fdvN_ii, mod_ii, modN_ii, pow_ii, lt_ii, le_ii, gt_ii, ge_ii, eq_ii, ne_ii, ix_li, ix_ti, neg_i, abs_i, int_i, int_b, max_ii, min_ii, len_l, len_t, list_l, list_t, rev_l, isi_int, isi_bl, isi_tup, isi_lst, isi_non, isN_i, isN_n, isN_t, isN_l, notN_i, notN_n, notN_t, notN_l, isTy,
  atI0, atI1, atI2, ixN0, ixN1, ixN2, some_inj_ex, isObj, setAt0, setAt1, setAt2, setAt3, restE, keepS, wipeE, ↓reduceIte, if_false, if_true,
  eCall, eCallP, eMake, pm, List.filterMap_cons, List.filterMap_nil, agNil, agRo, agBo, agMu, agTm, callK, boIx, muIx, tms, argsK, upE, reown, hasBo, noTm, flatRo, noLstAll, noLst, noLsts, List.nodup_nil, List.nodup_cons, List.not_mem_nil, not_false_eq_true, Nat.zero_le, Nat.le_refl, Nat.reduceLeDiff, List.mem_cons, or_false, reduceCtorEq,
  gN, gTp, gCn, gNl, iR1, iR2, iLst, iTpl, iEnum, stab,
  true_and, and_true, Bool.true_eq_false, Bool.false_eq_true, false_imp_iff, forall_const, true_imp_iff, and_self, decide_eq_true_eq, decide_eq_false_iff_not, Bool.not_eq_true', Bool.not_eq_false'])
namespace CD
/-! ### the forms of all classes -/
/-- a and b of the form of a number's first letters -/
def abF (rs : List (Int × Int)) (n : Nat) (x : Int) : Int × Int := ((formF rs (zWord rs x n)).1, (formF rs (zWord rs x n)).2.1)
/- forms_by_class: 0:rule_map 1:steps 2:rules 3:modulus 4:forms 5:whole 6:step 7:longer 8:number 9:a 10:b 11:rule_a 12:rule_b -/
/-- the class meets the one a gap farther -/
def meetB (rs : List (Int × Int)) (n : Nat) (gap : Int) (x : Nat) : Bool := decide ((abF rs n x).1 = (abF rs n (x + gap)).1 ∧ (abF rs n x).2 = (abF rs n x).1 * gap + (abF rs n (x + gap)).2)
/- meeting_classes: 0:rule_map 1:apart 2:steps 3:forms 4:whole 5:found 6:number 7:a 8:b 9:other_a 10:other_b -/
end CD
end TL

namespace TL
open PySem L2
local macro_rules | `(tactic| walk_at "sx") => `(tactic| simp only [sSeq, sNil, sSet, sFrz, frz_o, frz_sh, frz_s, sIf, sRet, sRetN, sPass, sBrk, sPar, sSub, sApp, sExpr, sAsg, sAug, sFld, sRevI, sPop, eLoc, eC, eUn, eBin, eAnd, eOr, eNot, eIf, eTup, eLst, dNil, dCons, tVal_eq, tstD_bl, tAndW, tOrW, tNotW, eFld_eq, eFldD_o, eProp, eMeth, eMeth0, eSl, pNone, pSome, sl_l,
  out_sh, out_fr, get_loc, get_sh, get_fr, getL_z, getL_o, getL_s, bound_z, bound_o, bound_s, isOwn_o, isOwn_s, pok_loc, pok_sh, pok_fr, stl_loc, stlS_sh, stlS_own, stl_sh, stl_fr, lay_fr, lay_sh, lay_loc, envOf, slotsOf, valN, ghOf, endK, resK, exMu, muN, List.cons_append, List.nil_append, List.append_nil, List.length_cons, List.length_nil, Nat.reduceAdd, Nat.reduceSub, List.replicate_succ, List.replicate_zero, List.replicate,
  List.getElem?_cons_zero, List.getElem?_cons_succ, List.getElem?_nil, List.set_cons_zero, List.set_cons_succ,
  add_ii, add_ss, add_ll, sub_ii, mul_ii, fdv_ii, fdvN_ii, mod_ii, modN_ii, pow_ii, lt_ii, le_ii, gt_ii, ge_ii, eq_ii, ne_ii, ix_li, ix_ti, neg_i, abs_i, int_i, int_b, max_ii, min_ii, len_l, len_t, list_l, list_t, rev_l, isi_int, isi_bl, isi_tup, isi_lst, isi_non, isN_i, isN_n, isN_t, isN_l, notN_i, notN_n, notN_t, notN_l, isTy,
  atI0, atI1, atI2, ixN0, ixN1, ixN2, some_inj_ex, isObj, setAt0, setAt1, setAt2, setAt3, restE, keepS, wipeE, ↓reduceIte, if_false, if_true,
  eCall, eCallP, eMake, pm, List.filterMap_cons, List.filterMap_nil, agNil, agRo, agBo, agMu, agTm, callK, boIx, muIx, tms, argsK, upE, reown, hasBo, noTm, flatRo, noLstAll, noLst, noLsts, List.nodup_nil, List.nodup_cons, List.not_mem_nil, not_false_eq_true, Nat.zero_le, Nat.le_refl, Nat.reduceLeDiff, List.mem_cons, or_false, reduceCtorEq,
  gN, gTp, gCn, gNl, iR1, iR2, iLst, iTpl, iEnum, stab,
  true_and, and_true, Bool.true_eq_false, Bool.false_eq_true, false_imp_iff, forall_const, true_imp_iff, and_self, decide_eq_true_eq, decide_eq_false_iff_not, Bool.not_eq_true', Bool.not_eq_false'])
namespace CD
/- _law_wholes: 0:value 1:entry -/
/- _law_after: 0:rules 1:number 2:many 3:k -/
end CD
end TL

namespace TL
open PySem L2
local macro_rules | `(tactic| walk_at "sx") => `(tactic| simp only [sSeq, sNil, sSet, sFrz, frz_o, frz_sh, frz_s, sIf, sRet, sRetN, sPass, sBrk, sPar, sSub, sApp, sExpr, sAsg, sAug, sFld, sRevI, sPop, eLoc, eC, eUn, eBin, eAnd, eOr, eNot, eIf, eTup, eLst, dNil, dCons, tVal_eq, tstD_bl, tAndW, tOrW, tNotW, eFld_eq, eFldD_o, eProp, eMeth, eMeth0, eSl, pNone, pSome, sl_l,
  out_sh, out_fr, get_loc, get_sh, get_fr, getL_z, getL_o, getL_s, bound_z, bound_o, bound_s, isOwn_o, isOwn_s, pok_loc, pok_sh, pok_fr, stl_loc, stlS_sh, stlS_own, stl_sh, stl_fr, lay_fr, lay_sh, lay_loc, envOf, slotsOf, valN, ghOf, endK, resK, exMu, muN, List.cons_append, List.nil_append, List.append_nil, List.length_cons, List.length_nil, Nat.reduceAdd, Nat.reduceSub, List.replicate_succ, List.replicate_zero, List.replicate,
  List.getElem?_cons_zero, List.getElem?_cons_succ, List.getElem?_nil, List.set_cons_zero, List.set_cons_succ,
  add_ii, add_ss, add_ll, sub_ii, mul_ii, fdv_ii, fdvN_ii, mod_ii, modN_ii, pow_ii, lt_ii, le_ii, gt_ii, ge_ii, eq_ii, ne_ii, ix_li, ix_ti, neg_i, abs_i, int_i, int_b, max_ii, min_ii, len_l, len_t, list_l, list_t, rev_l, isi_int, isi_bl, isi_tup, isi_lst, isi_non, isN_i, isN_n, isN_t, isN_l, notN_i, notN_n, notN_t, notN_l, isTy,
  atI0, atI1, atI2, ixN0, ixN1, ixN2, some_inj_ex, isObj, setAt0, setAt1, setAt2, setAt3, restE, keepS, wipeE, ↓reduceIte, if_false, if_true,
  eCall, eCallP, eMake, pm, List.filterMap_cons, List.filterMap_nil, agNil, agRo, agBo, agMu, agTm, callK, boIx, muIx, tms, argsK, upE, reown, hasBo, noTm, flatRo, noLstAll, noLst, noLsts, List.nodup_nil, List.nodup_cons, List.not_mem_nil, not_false_eq_true, Nat.zero_le, Nat.le_refl, Nat.reduceLeDiff, List.mem_cons, or_false, reduceCtorEq,
  gN, gTp, gCn, gNl, iR1, iR2, iLst, iTpl, iEnum, stab,
  true_and, and_true, Bool.true_eq_false, Bool.false_eq_true, false_imp_iff, forall_const, true_imp_iff, and_self, decide_eq_true_eq, decide_eq_false_iff_not, Bool.not_eq_true', Bool.not_eq_false'])
namespace CD
namespace K48
/- _law_apart: 0:cards 1:rules 2:many 3:kind 4:line 5:a 6:b 7:whole 8:turned -/
/- _law_right: 0:cards 1:modulus 2:rules 3:many 4:gap 5:whole 6:far 7:due 8:number 9:pairs 10:built 11:turn 12:found 13:at 14:pair -/
/- law: 0:script 1:k -/
end K48
end CD
end TL

namespace TL
open PySem L2
theorem isC_o {c c' : Nat} {ds : List D} {k} : opIsC c (.obj c' ds) k = (c' = c ∧ k (.sh (.bl true))) := rfl
theorem lr1_i {j : Int} {k} : opLR1 (.int j) k = (RgOk 0 j ∧ k (.fr (.lst (rgD 0 j)))) := rfl
theorem lr2_i {i j : Int} {k} : opLR2 (.int i) (.int j) k = (RgOk i j ∧ k (.fr (.lst (rgD i j)))) := rfl
end TL

namespace TL
open PySem L2
local macro_rules | `(tactic| walk_at "sx") => `(tactic| simp only [sSeq, sNil, sSet, sFrz, frz_o, frz_sh, frz_s, sIf, sRet, sRetN, sPass, sBrk, sPar, sSub, sApp, sExpr, sAsg, sAug, sFld, sRevI, sPop, eLoc, eC, eUn, eBin, eAnd, eOr, eNot, eIf, eTup, eLst, dNil, dCons, tVal_eq, tstD_bl, tAndW, tOrW, tNotW, eFld_eq, eFldD_o, eProp, eMeth, eMeth0, eSl, pNone, pSome, sl_l,
  out_sh, out_fr, get_loc, get_sh, get_fr, getL_z, getL_o, getL_s, bound_z, bound_o, bound_s, isOwn_o, isOwn_s, pok_loc, pok_sh, pok_fr, stl_loc, stlS_sh, stlS_own, stl_sh, stl_fr, lay_fr, lay_sh, lay_loc, envOf, slotsOf, valN, ghOf, endK, resK, exMu, muN, List.cons_append, List.nil_append, List.append_nil, List.length_cons, List.length_nil, Nat.reduceAdd, Nat.reduceSub, List.replicate_succ, List.replicate_zero, List.replicate,
  List.getElem?_cons_zero, List.getElem?_cons_succ, List.getElem?_nil, List.set_cons_zero, List.set_cons_succ,
  add_ii, add_ss, add_ll, sub_ii, mul_ii, fdv_ii, fdvN_ii, mod_ii, modN_ii, pow_ii, lt_ii, le_ii, gt_ii, ge_ii, eq_ii, ne_ii, ix_li, ix_ti, neg_i, abs_i, int_i, int_b, max_ii, min_ii, len_l, len_t, list_l, list_t, rev_l, isi_int, isi_bl, isi_tup, isi_lst, isi_non, isN_i, isN_n, isN_t, isN_l, notN_i, notN_n, notN_t, notN_l, isTy,
  atI0, atI1, atI2, ixN0, ixN1, ixN2, some_inj_ex, isObj, setAt0, setAt1, setAt2, setAt3, restE, keepS, wipeE, ↓reduceIte, if_false, if_true,
  eCall, eCallP, eMake, pm, eTwo, dLit, eOwn2, eLenO, okLen, eMethP, eMakeP, isC_o, eRepL, lr1_i, lr2_i, List.filterMap_cons, List.filterMap_nil, agNil, agRo, agBo, agMu, agTm, callK, boIx, muIx, tms, argsK, upE, reown, hasBo, noTm, flatRo, noLstAll, noLst, noLsts, List.nodup_nil, List.nodup_cons, List.not_mem_nil, not_false_eq_true, Nat.zero_le, Nat.le_refl, Nat.reduceLeDiff, List.mem_cons, or_false, reduceCtorEq,
  gN, gTp, gCn, gNl, iR1, iR2, iLst, iTpl, iEnum, stab,
  true_and, and_true, Bool.true_eq_false, Bool.false_eq_true, false_imp_iff, forall_const, true_imp_iff, and_self, decide_eq_true_eq, decide_eq_false_iff_not, Bool.not_eq_true', Bool.not_eq_false'])
namespace MP
/-! ### draws -/
/- _law_cell_at: 0:script 1:k -/
/- _law_picks: 0:cell 1:sizes 2:held 3:rest 4:picks 5:k 6:stir -/
end MP
end TL

namespace TL
open PySem L2
local macro_rules | `(tactic| walk_at "sx") => `(tactic| simp only [sSeq, sNil, sSet, sFrz, frz_o, frz_sh, frz_s, sIf, sRet, sRetN, sPass, sBrk, sPar, sSub, sApp, sExpr, sAsg, sAug, sFld, sRevI, sPop, eLoc, eC, eUn, eBin, eAnd, eOr, eNot, eIf, eTup, eLst, dNil, dCons, tVal_eq, tstD_bl, tAndW, tOrW, tNotW, eFld_eq, eFldD_o, eProp, eMeth, eMeth0, eSl, pNone, pSome, sl_l,
  out_sh, out_fr, get_loc, get_sh, get_fr, getL_z, getL_o, getL_s, bound_z, bound_o, bound_s, isOwn_o, isOwn_s, pok_loc, pok_sh, pok_fr, stl_loc, stlS_sh, stlS_own, stl_sh, stl_fr, lay_fr, lay_sh, lay_loc, envOf, slotsOf, valN, ghOf, endK, resK, exMu, muN, List.cons_append, List.nil_append, List.append_nil, List.length_cons, List.length_nil, Nat.reduceAdd, Nat.reduceSub, List.replicate_succ, List.replicate_zero, List.replicate,
  List.getElem?_cons_zero, List.getElem?_cons_succ, List.getElem?_nil, List.set_cons_zero, List.set_cons_succ,
  add_ii, add_ss, add_ll, sub_ii, mul_ii, fdv_ii, fdvN_ii, mod_ii, modN_ii, pow_ii, lt_ii, le_ii, gt_ii, ge_ii, eq_ii, ne_ii, ix_li, ix_ti, neg_i, abs_i, int_i, int_b, max_ii, min_ii, len_l, len_t, list_l, list_t, rev_l, isi_int, isi_bl, isi_tup, isi_lst, isi_non, isN_i, isN_n, isN_t, isN_l, notN_i, notN_n, notN_t, notN_l, isTy,
  atI0, atI1, atI2, ixN0, ixN1, ixN2, some_inj_ex, isObj, setAt0, setAt1, setAt2, setAt3, restE, keepS, wipeE, ↓reduceIte, if_false, if_true,
  eCall, eCallP, eMake, pm, eTwo, dLit, eOwn2, eLenO, okLen, eMethP, eMakeP, isC_o, eRepL, lr1_i, lr2_i, List.filterMap_cons, List.filterMap_nil, agNil, agRo, agBo, agMu, agTm, callK, boIx, muIx, tms, argsK, upE, reown, hasBo, noTm, flatRo, noLstAll, noLst, noLsts, List.nodup_nil, List.nodup_cons, List.not_mem_nil, not_false_eq_true, Nat.zero_le, Nat.le_refl, Nat.reduceLeDiff, List.mem_cons, or_false, reduceCtorEq,
  gN, gTp, gCn, gNl, iR1, iR2, iLst, iTpl, iEnum, stab,
  true_and, and_true, Bool.true_eq_false, Bool.false_eq_true, false_imp_iff, forall_const, true_imp_iff, and_self, decide_eq_true_eq, decide_eq_false_iff_not, Bool.not_eq_true', Bool.not_eq_false'])
namespace MP
/-! ### rules of a map -/
structure RowsOk (base : Nat) (beside : Int) (rs : List (Int × Int)) : Prop where
  len : rs.length = base
  ok : ∀ (i : Nat) (p : Int × Int), rs[i]? = some p → RuleOk base i p ∧ Int.gcd p.1 (base * beside) = 1 ∧ p.1 ≤ 1000 ∧ Bt 600 p.2
theorem RowsOk.rules {base : Nat} {beside : Int} {rs : List (Int × Int)} (h : RowsOk base beside rs) : RulesOk base rs := ⟨h.len, fun i p e => ⟨(h.ok i p e).1, (h.ok i p e).2.2⟩⟩
theorem RowsOk.map {base : Nat} {beside : Int} {rs : List (Int × Int)} (h : RowsOk base beside rs) (h2 : 2 ≤ base) (h6 : base ≤ 100000) : MapOk rs := h.rules.map h2 h6
/- _law_rows: 0:cell 1:most 2:beside 3:far 4:picks 5:base 6:reach 7:rows 8:k 9:a -/
/-! ### the map's methods -/
/- Map_len: 0:self -/
/- Map_eq: 0:self 1:other -/
/- Map_rule_of: 0:self 1:number -/
/-! ### small defs of the laws -/
/- _law_number: 0:cell 1:bound 2:size -/
/- _law_whole: 0:found -/
/- _law_pair: 0:found -/
/- _law_pairs: 0:found 1:one -/
end MP
end TL

namespace TL
open PySem L2
local macro_rules | `(tactic| walk_at "sx") => `(tactic| simp only [sSeq, sNil, sSet, sFrz, frz_o, frz_sh, frz_s, sIf, sRet, sRetN, sPass, sBrk, sPar, sSub, sApp, sExpr, sAsg, sAug, sFld, sRevI, sPop, eLoc, eC, eUn, eBin, eAnd, eOr, eNot, eIf, eTup, eLst, dNil, dCons, tVal_eq, tstD_bl, tAndW, tOrW, tNotW, eFld_eq, eFldD_o, eProp, eMeth, eMeth0, eSl, pNone, pSome, sl_l,
  out_sh, out_fr, get_loc, get_sh, get_fr, getL_z, getL_o, getL_s, bound_z, bound_o, bound_s, isOwn_o, isOwn_s, pok_loc, pok_sh, pok_fr, stl_loc, stlS_sh, stlS_own, stl_sh, stl_fr, lay_fr, lay_sh, lay_loc, envOf, slotsOf, valN, ghOf, endK, resK, exMu, muN, List.cons_append, List.nil_append, List.append_nil, List.length_cons, List.length_nil, Nat.reduceAdd, Nat.reduceSub, List.replicate_succ, List.replicate_zero, List.replicate,
  List.getElem?_cons_zero, List.getElem?_cons_succ, List.getElem?_nil, List.set_cons_zero, List.set_cons_succ,
  add_ii, add_ss, add_ll, sub_ii, mul_ii, fdv_ii, fdvN_ii, mod_ii, modN_ii, pow_ii, lt_ii, le_ii, gt_ii, ge_ii, eq_ii, ne_ii, ix_li, ix_ti, neg_i, abs_i, int_i, int_b, max_ii, min_ii, len_l, len_t, list_l, list_t, rev_l, isi_int, isi_bl, isi_tup, isi_lst, isi_non, isN_i, isN_n, isN_t, isN_l, notN_i, notN_n, notN_t, notN_l, isTy,
  atI0, atI1, atI2, ixN0, ixN1, ixN2, some_inj_ex, isObj, setAt0, setAt1, setAt2, setAt3, restE, keepS, wipeE, ↓reduceIte, if_false, if_true,
  eCall, eCallP, eMake, pm, eTwo, dLit, eOwn2, eLenO, okLen, eMethP, eMakeP, isC_o, eRepL, lr1_i, lr2_i, List.filterMap_cons, List.filterMap_nil, agNil, agRo, agBo, agMu, agTm, callK, boIx, muIx, tms, argsK, upE, reown, hasBo, noTm, flatRo, noLstAll, noLst, noLsts, List.nodup_nil, List.nodup_cons, List.not_mem_nil, not_false_eq_true, Nat.zero_le, Nat.le_refl, Nat.reduceLeDiff, List.mem_cons, or_false, reduceCtorEq,
  gN, gTp, gCn, gNl, iR1, iR2, iLst, iTpl, iEnum, stab,
  true_and, and_true, Bool.true_eq_false, Bool.false_eq_true, false_imp_iff, forall_const, true_imp_iff, and_self, decide_eq_true_eq, decide_eq_false_iff_not, Bool.not_eq_true', Bool.not_eq_false'])
namespace MP
structure Gd (rs : List (Int × Int)) : Prop where
  ok : RulesOk rs.length rs
  two : 2 ≤ rs.length
  few : rs.length ≤ 60
theorem Gd.of {base : Nat} {beside : Int} {rs : List (Int × Int)} (h : RowsOk base beside rs) (h2 : 2 ≤ base) (h6 : base ≤ 60) : Gd rs := by
  have hl := h.len
  exact ⟨by rw [hl]; exact h.rules, by omega, by omega⟩
theorem Gd.map {rs : List (Int × Int)} (h : Gd rs) : MapOk rs := h.ok.map h.two (by have := h.few; omega)
namespace K02
/- law: 0:script 1:lists 2:made 3:cell 4:x 5:far 6:k 7:found 8:rows -/
end K02
end MP
end TL

namespace TL
open PySem L2
set_option maxHeartbeats 2000000
local macro_rules | `(tactic| walk_at "sx") => `(tactic| simp only [sSeq, sNil, sSet, sFrz, frz_o, frz_sh, frz_s, sIf, sRet, sRetN, sPass, sBrk, sPar, sSub, sApp, sExpr, sAsg, sAug, sFld, sRevI, sPop, eLoc, eC, eUn, eBin, eAnd, eOr, eNot, eIf, eTup, eLst, dNil, dCons, tVal_eq, tstD_bl, tAndW, tOrW, tNotW, eFld_eq, eFldD_o, eProp, eMeth, eMeth0, eSl, pNone, pSome, sl_l,
  out_sh, out_fr, get_loc, get_sh, get_fr, getL_z, getL_o, getL_s, bound_z, bound_o, bound_s, isOwn_o, isOwn_s, pok_loc, pok_sh, pok_fr, stl_loc, stlS_sh, stlS_own, stl_sh, stl_fr, lay_fr, lay_sh, lay_loc, envOf, slotsOf, valN, ghOf, endK, resK, exMu, muN, List.cons_append, List.nil_append, List.append_nil, List.length_cons, List.length_nil, Nat.reduceAdd, Nat.reduceSub, List.replicate_succ, List.replicate_zero, List.replicate,
  List.getElem?_cons_zero, List.getElem?_cons_succ, List.getElem?_nil, List.set_cons_zero, List.set_cons_succ,
  add_ii, add_ss, add_ll, sub_ii, mul_ii, fdv_ii, fdvN_ii, mod_ii, modN_ii, pow_ii, lt_ii, le_ii, gt_ii, ge_ii, eq_ii, ne_ii, ix_li, ix_ti, neg_i, abs_i, int_i, int_b, max_ii, min_ii, len_l, len_t, list_l, list_t, rev_l, isi_int, isi_bl, isi_tup, isi_lst, isi_non, isN_i, isN_n, isN_t, isN_l, notN_i, notN_n, notN_t, notN_l, isTy,
  atI0, atI1, atI2, ixN0, ixN1, ixN2, some_inj_ex, isObj, setAt0, setAt1, setAt2, setAt3, restE, keepS, wipeE, ↓reduceIte, if_false, if_true,
  eCall, eCallP, eMake, pm, eTwo, dLit, eOwn2, eLenO, okLen, eMethP, eMakeP, isC_o, eRepL, lr1_i, lr2_i, List.filterMap_cons, List.filterMap_nil, agNil, agRo, agBo, agMu, agTm, callK, boIx, muIx, tms, argsK, upE, reown, hasBo, noTm, flatRo, noLstAll, noLst, noLsts, List.nodup_nil, List.nodup_cons, List.not_mem_nil, not_false_eq_true, Nat.zero_le, Nat.le_refl, Nat.reduceLeDiff, List.mem_cons, or_false, reduceCtorEq,
  gN, gTp, gLs, gCn, gNl, iR1, iR2, iLst, iTpl, iEnum, stab,
  true_and, and_true, eq_self, List.length_map, decide_true, decide_false, Bool.not_true, Bool.not_false, not_true_eq_false, Bool.true_eq_false, Bool.false_eq_true, false_imp_iff, forall_const, true_imp_iff, and_self, decide_eq_true_eq, decide_eq_false_iff_not, Bool.not_eq_true', Bool.not_eq_false'])
namespace MP
/-! ### sums of products -/
/-! ### moved maps -/
structure Mv (rs : List (Int × Int)) (u c : Int) (ts : List (Int × Int)) : Prop where
  len : ts.length = rs.length
  at_ : ∀ (r : Nat) (p : Int × Int), rs[r]? = some p → ts[((u * r + c) % rs.length).toNat]? = some (p.1, u * p.2 - p.1 * c + rs.length * c)
theorem mod_surj {m u c j : Int} (hm : 0 < m) (hg : Int.gcd u m = 1) (j0 : 0 ≤ j) (j1 : j < m) : ∃ r : Nat, (r : Int) < m ∧ (u * r + c) % m = j := by
  obtain ⟨v, hv⟩ := inv_ex hm hg
  have r0 := Int.emod_nonneg ((j - c) * v) (show m ≠ 0 by omega)
  have r1 := Int.emod_lt_of_pos ((j - c) * v) hm
  refine ⟨((j - c) * v % m).toNat, by omega, ?_⟩
  rw [Int.toNat_of_nonneg r0]
  have e := Int.emod_add_mul_ediv ((j - c) * v) m
  obtain ⟨k, hk⟩ := hv
  have : u * ((j - c) * v % m) + c = j + m * ((j - c) * k - u * ((j - c) * v / m)) := by
    have e2 : (j - c) * v % m = (j - c) * v - m * ((j - c) * v / m) := by omega
    rw [e2]
    grind
  rw [this, Int.add_mul_emod_self_left]
  exact Int.emod_eq_of_lt j0 j1
theorem Mv.inv {rs : List (Int × Int)} {u c : Int} {ts : List (Int × Int)} (h : Mv rs u c ts) (hg : Int.gcd u rs.length = 1) {j : Nat} {q : Int × Int} (hq : ts[j]? = some q) : ∃ (r : Nat) (p : Int × Int), rs[r]? = some p ∧ (u * r + c) % rs.length = j ∧ q = (p.1, u * p.2 - p.1 * c + rs.length * c) := by
  have hj : j < ts.length := (List.getElem?_eq_some_iff.mp hq).1
  rw [h.len] at hj
  obtain ⟨r, r1, e⟩ := mod_surj (c := c) (j := j) (by omega) hg (by omega) (by omega)
  have hr : r < rs.length := by omega
  refine ⟨r, rs[r], List.getElem?_eq_getElem hr, e, ?_⟩
  have := h.at_ r _ (List.getElem?_eq_getElem hr)
  rw [e, Int.toNat_natCast, hq] at this
  exact Option.some.inj this
theorem Mv.uniq {rs : List (Int × Int)} {u c : Int} {ts us : List (Int × Int)} (h : Mv rs u c ts) (k : Mv rs u c us) (hg : Int.gcd u rs.length = 1) : ts = us := by
  apply List.ext_getElem?
  intro j
  by_cases hj : j < ts.length
  · have e := List.getElem?_eq_getElem hj
    obtain ⟨r, p, h1, h2, h3⟩ := h.inv hg e
    have := k.at_ r p h1
    rw [h2, Int.toNat_natCast] at this
    rw [e, this, h3]
  · rw [List.getElem?_eq_none (by omega), List.getElem?_eq_none (by rw [k.len, ← h.len]; omega)]
/-- bits of all rules -/
def Sz (n : Nat) (rs : List (Int × Int)) : Prop := ∀ p ∈ rs, Bt n p.1 ∧ Bt n p.2
theorem Sz.mono {n m : Nat} {rs : List (Int × Int)} (h : Sz n rs) (k : n ≤ m) : Sz m rs := fun p hp => ⟨(h p hp).1.mono k, (h p hp).2.mono k⟩
theorem mv_bt {n : Nat} {a b u c m : Int} (hu : Bt n u) (hc : Bt n c) (ha : Bt n a) (hb : Bt n b) (hm : Bt 40 m) : Bt (2 * n + 100) (u * b - a * c + m * c) := by
  have h1 : Bt (2 * n) (u * b) := (hu.mul hb).mono (by omega)
  have h2 : Bt (2 * n) (a * c) := (ha.mul hc).mono (by omega)
  have h3 : Bt (2 * n + 50) (m * c) := (hm.mul hc).mono (by omega)
  exact (((h1.sub h2).mono (by omega)).add h3).mono (by omega)
theorem Mv.map {rs : List (Int × Int)} {u c : Int} {ts : List (Int × Int)} {n : Nat} (h : Mv rs u c ts) (ho : MapOk rs) (hg : Int.gcd u rs.length = 1) (hu : Bt n u) (hc : Bt n c) (hs : Sz n rs) (hn : n ≤ 400000) : MapOk ts ∧ Sz (2 * n + 100) ts := by
  have h2 := ho.two
  have h6 := ho.few
  have szs : Sz (2 * n + 100) ts := fun q hq => by
    obtain ⟨j, hj⟩ := List.getElem?_of_mem hq
    obtain ⟨r, p, h1, h2, h3⟩ := h.inv hg hj
    have := hs p (List.mem_of_getElem? h1)
    rw [h3]
    exact ⟨this.1.mono (by omega), mv_bt hu hc this.1 this.2 (Bt.small (by omega) (by omega))⟩
  refine ⟨⟨by rw [h.len]; omega, by rw [h.len]; omega, fun j q hq => ?_, fun q hq => ⟨(szs q hq).1.mono (by omega), (szs q hq).2.mono (by omega)⟩⟩, szs⟩
  obtain ⟨r, p, h1, h2, h3⟩ := h.inv hg hq
  have hp := ho.ok r p h1
  rw [h.len, h3]
  refine ⟨hp.1, hp.2.1, ?_⟩
  apply Int.emod_eq_zero_of_dvd
  have e := Int.emod_add_mul_ediv (u * r + c) rs.length
  have d := Int.dvd_of_emod_eq_zero hp.2.2
  have : p.1 * (j : Int) + (u * p.2 - p.1 * c + rs.length * c) = u * (p.1 * r + p.2) + rs.length * (c - p.1 * ((u * r + c) / rs.length)) := by
    have e2 : (j : Int) = u * r + c - rs.length * ((u * r + c) / rs.length) := by omega
    rw [e2]; grind
  show (rs.length : Int) ∣ p.1 * (j : Int) + (u * p.2 - p.1 * c + rs.length * c)
  rw [this]
  exact Int.dvd_add (Int.dvd_mul_of_dvd_right d) (Int.dvd_mul_right _ _)
/- Map_moved: 0:self 1:u 2:c 3:rows 4:remainder 5:a 6:b -/
end MP
end TL

namespace TL
open PySem L2
set_option maxHeartbeats 2000000
local macro_rules | `(tactic| walk_at "sx") => `(tactic| simp only [sSeq, sNil, sSet, sFrz, frz_o, frz_sh, frz_s, sIf, sRet, sRetN, sPass, sBrk, sPar, sSub, sApp, sExpr, sAsg, sAug, sFld, sRevI, sPop, eLoc, eC, eUn, eBin, eAnd, eOr, eNot, eIf, eTup, eLst, dNil, dCons, tVal_eq, tstD_bl, tAndW, tOrW, tNotW, eFld_eq, eFldD_o, eProp, eMeth, eMeth0, eSl, pNone, pSome, sl_l,
  out_sh, out_fr, get_loc, get_sh, get_fr, getL_z, getL_o, getL_s, bound_z, bound_o, bound_s, isOwn_o, isOwn_s, pok_loc, pok_sh, pok_fr, stl_loc, stlS_sh, stlS_own, stl_sh, stl_fr, lay_fr, lay_sh, lay_loc, envOf, slotsOf, valN, ghOf, endK, resK, exMu, muN, List.cons_append, List.nil_append, List.append_nil, List.length_cons, List.length_nil, Nat.reduceAdd, Nat.reduceSub, List.replicate_succ, List.replicate_zero, List.replicate,
  List.getElem?_cons_zero, List.getElem?_cons_succ, List.getElem?_nil, List.set_cons_zero, List.set_cons_succ,
  add_ii, add_ss, add_ll, sub_ii, mul_ii, fdv_ii, fdvN_ii, mod_ii, modN_ii, pow_ii, lt_ii, le_ii, gt_ii, ge_ii, eq_ii, ne_ii, ix_li, ix_ti, neg_i, abs_i, int_i, int_b, max_ii, min_ii, len_l, len_t, list_l, list_t, rev_l, isi_int, isi_bl, isi_tup, isi_lst, isi_non, isN_i, isN_n, isN_t, isN_l, notN_i, notN_n, notN_t, notN_l, isTy,
  atI0, atI1, atI2, ixN0, ixN1, ixN2, some_inj_ex, isObj, setAt0, setAt1, setAt2, setAt3, restE, keepS, wipeE, ↓reduceIte, if_false, if_true,
  eCall, eCallP, eMake, pm, eTwo, dLit, eOwn2, eLenO, okLen, eMethP, eMakeP, isC_o, eRepL, lr1_i, lr2_i, List.filterMap_cons, List.filterMap_nil, agNil, agRo, agBo, agMu, agTm, callK, boIx, muIx, tms, argsK, upE, reown, hasBo, noTm, flatRo, noLstAll, noLst, noLsts, List.nodup_nil, List.nodup_cons, List.not_mem_nil, not_false_eq_true, Nat.zero_le, Nat.le_refl, Nat.reduceLeDiff, List.mem_cons, or_false, reduceCtorEq,
  gN, gTp, gLs, gCn, gNl, iR1, iR2, iLst, iTpl, iEnum, stab,
  true_and, and_true, eq_self, List.length_map, decide_true, decide_false, Bool.not_true, Bool.not_false, not_true_eq_false, Bool.true_eq_false, Bool.false_eq_true, false_imp_iff, forall_const, true_imp_iff, and_self, decide_eq_true_eq, decide_eq_false_iff_not, Bool.not_eq_true', Bool.not_eq_false'])
namespace MP
/- _law_step: 0:rows 1:number 2:a 3:b -/
namespace K05
/- _law_multiplier: 0:cell 1:base 2:picks 3:shift -/
/- _law_rules: 0:rows 1:base 2:k 3:a 4:b -/
end K05
end MP
end TL

namespace TL
open PySem L2
set_option maxHeartbeats 2000000
local macro_rules | `(tactic| walk_at "sx") => `(tactic| simp only [sSeq, sNil, sSet, sFrz, frz_o, frz_sh, frz_s, sIf, sRet, sRetN, sPass, sBrk, sPar, sSub, sApp, sExpr, sAsg, sAug, sFld, sRevI, sPop, eLoc, eC, eUn, eBin, eAnd, eOr, eNot, eIf, eTup, eLst, dNil, dCons, tVal_eq, tstD_bl, tAndW, tOrW, tNotW, eFld_eq, eFldD_o, eProp, eMeth, eMeth0, eSl, pNone, pSome, sl_l,
  out_sh, out_fr, get_loc, get_sh, get_fr, getL_z, getL_o, getL_s, bound_z, bound_o, bound_s, isOwn_o, isOwn_s, pok_loc, pok_sh, pok_fr, stl_loc, stlS_sh, stlS_own, stl_sh, stl_fr, lay_fr, lay_sh, lay_loc, envOf, slotsOf, valN, ghOf, endK, resK, exMu, muN, List.cons_append, List.nil_append, List.append_nil, List.length_cons, List.length_nil, Nat.reduceAdd, Nat.reduceSub, List.replicate_succ, List.replicate_zero, List.replicate,
  List.getElem?_cons_zero, List.getElem?_cons_succ, List.getElem?_nil, List.set_cons_zero, List.set_cons_succ,
  add_ii, add_ss, add_ll, sub_ii, mul_ii, fdv_ii, fdvN_ii, mod_ii, modN_ii, pow_ii, lt_ii, le_ii, gt_ii, ge_ii, eq_ii, ne_ii, ix_li, ix_ti, neg_i, abs_i, int_i, int_b, max_ii, min_ii, len_l, len_t, list_l, list_t, rev_l, isi_int, isi_bl, isi_tup, isi_lst, isi_non, isN_i, isN_n, isN_t, isN_l, notN_i, notN_n, notN_t, notN_l, isTy,
  atI0, atI1, atI2, ixN0, ixN1, ixN2, some_inj_ex, isObj, setAt0, setAt1, setAt2, setAt3, restE, keepS, wipeE, ↓reduceIte, if_false, if_true,
  eCall, eCallP, eMake, pm, eTwo, dLit, eOwn2, eLenO, okLen, eMethP, eMakeP, isC_o, eRepL, lr1_i, lr2_i, List.filterMap_cons, List.filterMap_nil, agNil, agRo, agBo, agMu, agTm, callK, boIx, muIx, tms, argsK, upE, reown, hasBo, noTm, flatRo, noLstAll, noLst, noLsts, List.nodup_nil, List.nodup_cons, List.not_mem_nil, not_false_eq_true, Nat.zero_le, Nat.le_refl, Nat.reduceLeDiff, List.mem_cons, or_false, reduceCtorEq,
  gN, gTp, gLs, gCn, gNl, iR1, iR2, iLst, iTpl, iEnum, stab,
  true_and, and_true, eq_self, List.length_map, decide_true, decide_false, Bool.not_true, Bool.not_false, not_true_eq_false, Bool.true_eq_false, Bool.false_eq_true, false_imp_iff, forall_const, true_imp_iff, and_self, decide_eq_true_eq, decide_eq_false_iff_not, Bool.not_eq_true', Bool.not_eq_false'])
namespace MP
namespace K05
/- law: 0:script 1:rows 2:base 3:shift 4:more 5:one 6:found 7:told 8:kept 9:numbers 10:x 11:k 12:cell -/
end K05
end MP
end TL

namespace TL
open PySem L2
set_option maxHeartbeats 2000000
local macro_rules | `(tactic| walk_at "sx") => `(tactic| simp only [sSeq, sNil, sSet, sFrz, frz_o, frz_sh, frz_s, sIf, sRet, sRetN, sPass, sBrk, sPar, sSub, sApp, sExpr, sAsg, sAug, sFld, sRevI, sPop, eLoc, eC, eUn, eBin, eAnd, eOr, eNot, eIf, eTup, eLst, dNil, dCons, tVal_eq, tstD_bl, tAndW, tOrW, tNotW, eFld_eq, eFldD_o, eProp, eMeth, eMeth0, eSl, pNone, pSome, sl_l,
  out_sh, out_fr, get_loc, get_sh, get_fr, getL_z, getL_o, getL_s, bound_z, bound_o, bound_s, isOwn_o, isOwn_s, pok_loc, pok_sh, pok_fr, stl_loc, stlS_sh, stlS_own, stl_sh, stl_fr, lay_fr, lay_sh, lay_loc, envOf, slotsOf, valN, ghOf, endK, resK, exMu, muN, List.cons_append, List.nil_append, List.append_nil, List.length_cons, List.length_nil, Nat.reduceAdd, Nat.reduceSub, List.replicate_succ, List.replicate_zero, List.replicate,
  List.getElem?_cons_zero, List.getElem?_cons_succ, List.getElem?_nil, List.set_cons_zero, List.set_cons_succ,
  add_ii, add_ss, add_ll, sub_ii, mul_ii, fdv_ii, fdvN_ii, mod_ii, modN_ii, pow_ii, lt_ii, le_ii, gt_ii, ge_ii, eq_ii, ne_ii, ix_li, ix_ti, neg_i, abs_i, int_i, int_b, max_ii, min_ii, len_l, len_t, list_l, list_t, rev_l, isi_int, isi_bl, isi_tup, isi_lst, isi_non, isN_i, isN_n, isN_t, isN_l, notN_i, notN_n, notN_t, notN_l, isTy,
  atI0, atI1, atI2, ixN0, ixN1, ixN2, some_inj_ex, isObj, setAt0, setAt1, setAt2, setAt3, restE, keepS, wipeE, ↓reduceIte, if_false, if_true,
  eCall, eCallP, eMake, pm, eTwo, dLit, eOwn2, eLenO, okLen, eMethP, eMakeP, isC_o, eRepL, lr1_i, lr2_i, List.filterMap_cons, List.filterMap_nil, agNil, agRo, agBo, agMu, agTm, callK, boIx, muIx, tms, argsK, upE, reown, hasBo, noTm, flatRo, noLstAll, noLst, noLsts, List.nodup_nil, List.nodup_cons, List.not_mem_nil, not_false_eq_true, Nat.zero_le, Nat.le_refl, Nat.reduceLeDiff, List.mem_cons, or_false, reduceCtorEq,
  gN, gTp, gLs, gCn, gNl, iR1, iR2, iLst, iTpl, iEnum, stab,
  true_and, and_true, eq_self, List.length_map, decide_true, decide_false, Bool.not_true, Bool.not_false, not_true_eq_false, Bool.true_eq_false, Bool.false_eq_true, false_imp_iff, forall_const, true_imp_iff, and_self, decide_eq_true_eq, decide_eq_false_iff_not, Bool.not_eq_true', Bool.not_eq_false'])
namespace MP
theorem Mv.comp {rs ts us : List (Int × Int)} {u c v d : Int} (h : Mv rs u c ts) (k : Mv ts v d us) (hm : 0 < rs.length) : Mv rs (u * v) (v * c + d) us := by
  refine ⟨by rw [k.len, h.len], fun r p hp => ?_⟩
  have a := h.at_ r p hp
  have b := k.at_ _ _ a
  have r0 := Int.emod_nonneg (u * r + c) (show (rs.length : Int) ≠ 0 by omega)
  rw [h.len, Int.toNat_of_nonneg r0] at b
  have ei : (v * ((u * r + c) % rs.length) + d) % rs.length = (u * v * r + (v * c + d)) % rs.length := by
    have e := Int.emod_add_mul_ediv (u * r + c) rs.length
    have : u * v * r + (v * c + d) = v * ((u * r + c) % rs.length) + d + rs.length * (v * ((u * r + c) / rs.length)) := by
      have e2 : (u * r + c) % rs.length = u * r + c - rs.length * ((u * r + c) / rs.length) := by omega
      rw [e2]; grind
    rw [this, Int.add_mul_emod_self_left]
  rw [ei] at b
  rw [b]
  congr 1
  have : v * (u * p.2 - p.1 * c + rs.length * c) - p.1 * d + rs.length * d = u * v * p.2 - p.1 * (v * c + d) + rs.length * (v * c + d) := by grind
  show (p.1, _) = (p.1, _)
  rw [← this]
namespace K10
/- _law_multiplier: 0:pick 1:sign 2:base 3:shift -/
/- law: 0:script 1:rows 2:base 3:one 4:cell 5:picks 6:u 7:v 8:c 9:d 10:once 11:kept 12:twice 13:along 14:sign -/
end K10
end MP
end TL

namespace TL
open PySem L2
set_option maxHeartbeats 2000000
local macro_rules | `(tactic| walk_at "sx") => `(tactic| simp only [sSeq, sNil, sSet, sFrz, frz_o, frz_sh, frz_s, sIf, sRet, sRetN, sPass, sBrk, sPar, sSub, sApp, sExpr, sAsg, sAug, sFld, sRevI, sPop, eLoc, eC, eUn, eBin, eAnd, eOr, eNot, eIf, eTup, eLst, dNil, dCons, tVal_eq, tstD_bl, tAndW, tOrW, tNotW, eFld_eq, eFldD_o, eProp, eMeth, eMeth0, eSl, pNone, pSome, sl_l,
  out_sh, out_fr, get_loc, get_sh, get_fr, getL_z, getL_o, getL_s, bound_z, bound_o, bound_s, isOwn_o, isOwn_s, pok_loc, pok_sh, pok_fr, stl_loc, stlS_sh, stlS_own, stl_sh, stl_fr, lay_fr, lay_sh, lay_loc, envOf, slotsOf, valN, ghOf, endK, resK, exMu, muN, List.cons_append, List.nil_append, List.append_nil, List.length_cons, List.length_nil, Nat.reduceAdd, Nat.reduceSub, List.replicate_succ, List.replicate_zero, List.replicate,
  List.getElem?_cons_zero, List.getElem?_cons_succ, List.getElem?_nil, List.set_cons_zero, List.set_cons_succ,
  add_ii, add_ss, add_ll, sub_ii, mul_ii, fdv_ii, fdvN_ii, mod_ii, modN_ii, pow_ii, lt_ii, le_ii, gt_ii, ge_ii, eq_ii, ne_ii, ix_li, ix_ti, neg_i, abs_i, int_i, int_b, max_ii, min_ii, len_l, len_t, list_l, list_t, rev_l, isi_int, isi_bl, isi_tup, isi_lst, isi_non, isN_i, isN_n, isN_t, isN_l, notN_i, notN_n, notN_t, notN_l, isTy,
  atI0, atI1, atI2, ixN0, ixN1, ixN2, some_inj_ex, isObj, setAt0, setAt1, setAt2, setAt3, restE, keepS, wipeE, ↓reduceIte, if_false, if_true,
  eCall, eCallP, eMake, pm, eTwo, dLit, eOwn2, eLenO, okLen, eMethP, eMakeP, isC_o, eRepL, lr1_i, lr2_i, List.filterMap_cons, List.filterMap_nil, agNil, agRo, agBo, agMu, agTm, callK, boIx, muIx, tms, argsK, upE, reown, hasBo, noTm, flatRo, noLstAll, noLst, noLsts, List.nodup_nil, List.nodup_cons, List.not_mem_nil, not_false_eq_true, Nat.zero_le, Nat.le_refl, Nat.reduceLeDiff, List.mem_cons, or_false, reduceCtorEq,
  gN, gTp, gLs, gCn, gNl, iR1, iR2, iLst, iTpl, iEnum, stab,
  true_and, and_true, eq_self, List.length_map, decide_true, decide_false, Bool.not_true, Bool.not_false, not_true_eq_false, Bool.true_eq_false, Bool.false_eq_true, false_imp_iff, forall_const, true_imp_iff, and_self, decide_eq_true_eq, decide_eq_false_iff_not, Bool.not_eq_true', Bool.not_eq_false'])
namespace MP
/-! ### joined maps -/
/- Map_then: 0:self 1:other 2:rule 3:rows 4:remainder 5:a 6:b 7:again 8:more -/
/- Map_add: 0:self 1:other -/
/- _law_base: 0:cell 1:most -/
end MP
end TL

namespace TL
open PySem L2
set_option maxHeartbeats 2000000
local macro_rules | `(tactic| walk_at "sx") => `(tactic| simp only [sSeq, sNil, sSet, sFrz, frz_o, frz_sh, frz_s, sIf, sRet, sRetN, sPass, sBrk, sPar, sSub, sApp, sExpr, sAsg, sAug, sFld, sRevI, sPop, eLoc, eC, eUn, eBin, eAnd, eOr, eNot, eIf, eTup, eLst, dNil, dCons, tVal_eq, tstD_bl, tAndW, tOrW, tNotW, eFld_eq, eFldD_o, eProp, eMeth, eMeth0, eSl, pNone, pSome, sl_l,
  out_sh, out_fr, get_loc, get_sh, get_fr, getL_z, getL_o, getL_s, bound_z, bound_o, bound_s, isOwn_o, isOwn_s, pok_loc, pok_sh, pok_fr, stl_loc, stlS_sh, stlS_own, stl_sh, stl_fr, lay_fr, lay_sh, lay_loc, envOf, slotsOf, valN, ghOf, endK, resK, exMu, muN, List.cons_append, List.nil_append, List.append_nil, List.length_cons, List.length_nil, Nat.reduceAdd, Nat.reduceSub, List.replicate_succ, List.replicate_zero, List.replicate,
  List.getElem?_cons_zero, List.getElem?_cons_succ, List.getElem?_nil, List.set_cons_zero, List.set_cons_succ,
  add_ii, add_ss, add_ll, sub_ii, mul_ii, fdv_ii, fdvN_ii, mod_ii, modN_ii, pow_ii, lt_ii, le_ii, gt_ii, ge_ii, eq_ii, ne_ii, ix_li, ix_ti, neg_i, abs_i, int_i, int_b, max_ii, min_ii, len_l, len_t, list_l, list_t, rev_l, isi_int, isi_bl, isi_tup, isi_lst, isi_non, isN_i, isN_n, isN_t, isN_l, notN_i, notN_n, notN_t, notN_l, isTy,
  atI0, atI1, atI2, ixN0, ixN1, ixN2, some_inj_ex, isObj, setAt0, setAt1, setAt2, setAt3, restE, keepS, wipeE, ↓reduceIte, if_false, if_true,
  eCall, eCallP, eMake, pm, eTwo, dLit, eOwn2, eLenO, okLen, eMethP, eMakeP, isC_o, eRepL, lr1_i, lr2_i, List.filterMap_cons, List.filterMap_nil, agNil, agRo, agBo, agMu, agTm, callK, boIx, muIx, tms, argsK, upE, reown, hasBo, noTm, flatRo, noLstAll, noLst, noLsts, List.nodup_nil, List.nodup_cons, List.not_mem_nil, not_false_eq_true, Nat.zero_le, Nat.le_refl, Nat.reduceLeDiff, List.mem_cons, or_false, reduceCtorEq,
  gN, gTp, gLs, gCn, gNl, iR1, iR2, iLst, iTpl, iEnum, stab,
  e0_is, t0_is, d0_is, s0_is, i0_is, sTry, hXk_n, hXk_s, sRaise, eCallX, eCallXP, eMethX, eMakeX, ePropX, eOwn2X, callX, roA, opXv_exn, opIsX_exn, List.map_cons, List.map_nil, Nat.lt_irrefl, Nat.zero_lt_one, Nat.reduceLT, Nat.zero_lt_succ, some_inj_ex,
  true_and, and_true, eq_self, List.length_map, decide_true, decide_false, Bool.not_true, Bool.not_false, not_true_eq_false, Bool.true_eq_false, Bool.false_eq_true, false_imp_iff, forall_const, true_imp_iff, and_self, decide_eq_true_eq, decide_eq_false_iff_not, Bool.not_eq_true', Bool.not_eq_false'])
namespace CD
/-! ### integers one step before -/
def hits (m n : Int) (p : Int × Int) : Prop := (m * n - p.2) % p.1 = 0
instance (m n : Int) (p : Int × Int) : Decidable (hits m n p) := by unfold hits; exact inferInstance
def preF (m : Int) (rs : List (Int × Int)) (n : Int) : List Int := rs.filterMap fun p => if hits m n p then some ((m * n - p.2) / p.1) else none
theorem pre_step {rs : List (Int × Int)} (ho : MapOk rs) {n : Int} {r : Nat} {p : Int × Int} (hp : rs[r]? = some p) (h : hits rs.length n p) :
    ((rs.length * n - p.2) / p.1) % rs.length = r ∧ zStep rs ((rs.length * n - p.2) / p.1) = n := by
  have h2 := ho.two
  have hr : r < rs.length := (List.getElem?_eq_some_iff.mp hp).1
  obtain ⟨a1, a2, a3⟩ := ho.ok r p hp
  have e : p.1 * ((rs.length * n - p.2) / p.1) = rs.length * n - p.2 := Int.mul_ediv_cancel' (Int.dvd_of_emod_eq_zero h)
  generalize (rs.length * n - p.2) / p.1 = y at *
  have d : (rs.length : Int) ∣ (y - r) * p.1 := by
    have h1 := Int.dvd_of_emod_eq_zero a3
    have : (y - r) * p.1 = rs.length * n - (p.1 * r + p.2) := by rw [Int.sub_mul, Int.mul_comm y, e, Int.mul_comm (r : Int)]; omega
    rw [this]
    exact Int.dvd_sub (Int.dvd_mul_right _ _) h1
  obtain ⟨k, hk⟩ := dvd_of_gcd a2 d
  have ey : y % rs.length = r := by
    have : y = r + rs.length * k := by omega
    rw [this, Int.add_mul_emod_self_left]
    exact Int.emod_eq_of_lt (by omega) (by omega)
  refine ⟨ey, ?_⟩
  have er : ruleAt rs (y % rs.length) = p := by
    rw [ey]
    unfold ruleAt
    simp [List.getD_eq_getElem?_getD, hp]
  unfold zStep
  rw [er, e]
  have : (rs.length : Int) * n - p.2 + p.2 = rs.length * n := by omega
  rw [this]
  exact Int.mul_ediv_cancel_left _ (by omega)
def sp_whole_before : FSpec := fun args kr _ => ∃ (rs : List (Int × Int)) (n : Int), args = [.ro (mapD rs), .ro (.int n)] ∧ MapOk rs ∧ (∀ p ∈ rs, p.1 ≤ 1000) ∧ Bt 1000000 n ∧ ∀ ms, ms.Perm (preF rs.length rs n) → ms.Pairwise (· ≤ ·) → kr (.fr (encZs ms)) []
/- whole_before: 0:rule_map 1:number 2:modulus 3:found 4:a 5:b -/
def b_whole_before : SW := (sSeq (sFrz 2 (sSet 2 (eProp 0 sp_Map_modulus (eLoc 0))))
  (sSeq (sSet 3 (eLst dNil))
  (sSeq (sFor (iLst (eProp 0 sp_Map_rules (eLoc 0))) (gTp 2 (gCn (gN 4) (gCn (gN 5) gNl))) (sIf (tVal (eBin opEq (eBin opMod (eBin opSub (eBin opMul (eLoc 2) (eLoc 1)) (eLoc 5)) (eLoc 4)) (eC (.int 0)))) (sApp 3 (eBin opFdv (eBin opSub (eBin opMul (eLoc 2) (eLoc 1)) (eLoc 5)) (eLoc 4))) sNil))
  (sRet (eUn opSort (eLoc 3))))))
/- classes_before: 0:rule_map 1:rules 2:found 3:k 4:a 5:b -/
def b_classes_before : SW := (sSeq (sFrz 1 (sSet 1 (eProp 0 sp_Map_rules (eLoc 0))))
  (sSeq (sSet 2 (eLst dNil))
  (sSeq (sFor (iR1 (dCons (eUn opLen (eLoc 1)) dNil)) (gN 3) (sSeq (sAsg (eBin opIx (eLoc 1) (eLoc 3)) (gTp 2 (gCn (gN 4) (gCn (gN 5) gNl))))
  (sApp 2 (eTup (dCons (eLoc 4) (dCons (eBin opMod (eBin opFdv (eBin opAdd (eBin opMul (eLoc 4) (eLoc 3)) (eLoc 5)) (eUn opLen (eLoc 1))) (eLoc 4)) dNil))))))
  (sRet (eLoc 2)))))
theorem sat_whole_before : Sat 6 sp_whole_before b_whole_before := by
  rintro args mus kr kx hm ⟨rs, n, rfl, ho, h1k, bn, hk⟩
  obtain rfl := mus0 hm
  have h2 := ho.two
  have h6 := ho.few
  have bm : Bt 40 (rs.length : Int) := Bt.small (by omega) (by omega)
  unfold b_whole_before
  walk_at "sx"
  refine ⟨rs, rfl, ?_⟩
  walk_at "sx"
  intro a3
  unfold sFor
  walk_at "sx"
  refine ⟨rs, rfl, ?_⟩
  walk_at "sx"
  refine ⟨fun i ρ => ∃ e4 e5 : Sl, ρ = [.sh (mapD rs), .sh (.int n), .sh (.int rs.length), .own false a3 (encZs (preF rs.length (rs.take i) n)), e4, e5], ⟨_, _, rfl⟩, fun _ _ _ _ => trivial, ?_, ?_⟩
  · rintro i d ρ hi hd ⟨e4, e5, rfl⟩
    obtain ⟨p, hp, rfl⟩ := get_map hd
    have sz := ho.sz p (List.mem_of_getElem? hp)
    have a1 := (ho.ok i p hp).1
    have a9 := h1k p (List.mem_of_getElem? hp)
    have ba : Bt 40 p.1 := Bt.small (by omega) (by omega)
    walk_at "sx"
    have bp : Bt 1000050 ((rs.length : Int) * n) := (bm.mul bn).mono (by omega)
    have tk : preF rs.length (rs.take (i + 1)) n = preF rs.length (rs.take i) n ++ (if hits rs.length n p then [(rs.length * n - p.2) / p.1] else []) := by
      unfold preF
      rw [List.take_succ, hp, List.filterMap_append]
      congr 1
      by_cases h : hits rs.length n p
      · simp [h]
      · simp [h]
    have ll : (preF rs.length (rs.take i) n).length ≤ rs.length := by
      unfold preF
      exact Nat.le_trans (List.length_filterMap_le _ _) (List.length_take_le' i rs)
    refine ⟨bm.mulOk bn (by omega), by omega, fun h => ⟨⟨_, _, _, rfl⟩, bm.mulOk bn (by omega), ⟨by omega, ba.mono (by omega)⟩, line_big (by omega), ?_⟩, fun h => ?_⟩
    · rw [tk, if_pos (show hits rs.length n p from h)]
      exact ⟨_, _, by simp only [encZs, List.map_append, List.map_cons, List.map_nil]; rfl⟩
    · rw [tk, if_neg (show ¬ hits rs.length n p from h), List.append_nil]
      exact ⟨_, _, rfl⟩
  rintro ρ ⟨e4, e5, rfl⟩
  walk_at "sx"
  rw [sort_l]
  refine ⟨preF rs.length rs n, by rw [List.take_length], fun ms h1 h2 => ?_⟩
  walk_at "sx"
  exact hk ms h1 h2
theorem take_next {α : Type} {xs : List α} {i : Nat} {x : α} (h : xs[i]? = some x) : xs.take (i + 1) = xs.take i ++ [x] := by rw [List.take_succ, h]; rfl
def clsR (rs : List (Int × Int)) (k : Nat) : Int × Int := ((rs.getD k (1, 0)).1, (((rs.getD k (1, 0)).1 * k + (rs.getD k (1, 0)).2) / rs.length) % (rs.getD k (1, 0)).1)
def clsL (rs : List (Int × Int)) : List (Int × Int) := (List.range rs.length).map (clsR rs)
def sp_classes_before : FSpec := fun args kr _ => ∃ rs : List (Int × Int), args = [.ro (mapD rs)] ∧ MapOk rs ∧ (∀ p ∈ rs, p.1 ≤ 1000) ∧ kr (.fr (encRs (clsL rs))) []
theorem clsL_len (rs : List (Int × Int)) : (clsL rs).length = rs.length := by unfold clsL; simp
theorem clsL_at {rs : List (Int × Int)} {k : Nat} (h : k < rs.length) : (clsL rs)[k]? = some (clsR rs k) := by
  unfold clsL
  rw [List.getElem?_map, List.getElem?_range h]
  rfl
theorem sat_classes_before : Sat 6 sp_classes_before b_classes_before := by
  rintro args mus kr kx hm ⟨rs, rfl, ho, h1k, hk⟩
  obtain rfl := mus0 hm
  have h2 := ho.two
  have h6 := ho.few
  have bm : Bt 40 (rs.length : Int) := Bt.small (by omega) (by omega)
  unfold b_classes_before
  walk_at "sx"
  refine ⟨rs, rfl, ?_⟩
  walk_at "sx"
  intro a2
  unfold sFor
  walk_at "sx"
  refine ⟨by omega, fun i ρ => ∃ e3 e4 e5 : Sl, ρ = [.sh (mapD rs), .sh (encRs rs), .own false a2 (encRs ((clsL rs).take i)), e3, e4, e5], ⟨_, _, _, rfl⟩, fun _ _ _ _ => trivial, ?_, ?_⟩
  · rintro i d ρ hi rfl ⟨e3, e4, e5, rfl⟩
    have hi : i < rs.length := by simpa using hi
    have hp : rs[i]? = some (rs.getD i (1, 0)) := by rw [List.getD_eq_getElem?_getD, List.getElem?_eq_getElem hi]; rfl
    obtain ⟨p, hpe⟩ : ∃ p, p = rs.getD i (1, 0) := ⟨_, rfl⟩
    have ec : clsR rs i = (p.1, ((p.1 * i + p.2) / rs.length) % p.1) := by rw [hpe]; rfl
    rw [← hpe] at hp
    have sz := ho.sz p (List.mem_of_getElem? hp)
    have a1 := (ho.ok i p hp).1
    have a9 := h1k p (List.mem_of_getElem? hp)
    have ba : Bt 40 p.1 := Bt.small (by omega) (by omega)
    have hx : L2.atI (rs.map encR) (i : Int) = some (encR p) := by
      have := List.getElem?_eq_some_iff.mp hp
      rw [atI_int (by omega) (by simpa using hi), List.getElem_map]
      obtain ⟨q, e⟩ := this
      simp only [Int.toNat_natCast, e]
    have bi : Bt 40 (i : Int) := Bt.small (by omega) (by omega)
    walk_at "sx"
    refine ⟨_, hx, ?_⟩
    walk_at "sx"
    refine ⟨⟨_, _, _, rfl⟩, ba.mulOk bi (by omega), ⟨by omega, bm.mono (by omega)⟩, by omega, line_big (by rw [List.length_take, clsL_len]; omega), ?_⟩
    rw [take_next (clsL_at hi), ec]
    exact ⟨_, _, _, by simp only [encRs, List.map_append, List.map_cons, List.map_nil]; rfl⟩
  rintro ρ ⟨e3, e4, e5, rfl⟩
  walk_at "sx"
  rw [List.take_of_length_le (by rw [clsL_len]; simp)]
  exact hk
end CD
end TL

namespace TL
open PySem L2
set_option maxHeartbeats 2000000
local macro_rules | `(tactic| walk_at "sx") => `(tactic| simp only [sSeq, sNil, sSet, sFrz, frz_o, frz_sh, frz_s, sIf, sRet, sRetN, sPass, sBrk, sPar, sSub, sApp, sExpr, sAsg, sAug, sFld, sRevI, sPop, eLoc, eC, eUn, eBin, eAnd, eOr, eNot, eIf, eTup, eLst, dNil, dCons, tVal_eq, tstD_bl, tAndW, tOrW, tNotW, eFld_eq, eFldD_o, eProp, eMeth, eMeth0, eSl, pNone, pSome, sl_l,
  out_sh, out_fr, get_loc, get_sh, get_fr, getL_z, getL_o, getL_s, bound_z, bound_o, bound_s, isOwn_o, isOwn_s, pok_loc, pok_sh, pok_fr, stl_loc, stlS_sh, stlS_own, stl_sh, stl_fr, lay_fr, lay_sh, lay_loc, envOf, slotsOf, valN, ghOf, endK, resK, exMu, muN, List.cons_append, List.nil_append, List.append_nil, List.length_cons, List.length_nil, Nat.reduceAdd, Nat.reduceSub, List.replicate_succ, List.replicate_zero, List.replicate,
  List.getElem?_cons_zero, List.getElem?_cons_succ, List.getElem?_nil, List.set_cons_zero, List.set_cons_succ,
  add_ii, add_ss, add_ll, sub_ii, mul_ii, fdv_ii, fdvN_ii, mod_ii, modN_ii, pow_ii, lt_ii, le_ii, gt_ii, ge_ii, eq_ii, ne_ii, ix_li, ix_ti, neg_i, abs_i, int_i, int_b, max_ii, min_ii, len_l, len_t, list_l, list_t, rev_l, isi_int, isi_bl, isi_tup, isi_lst, isi_non, isN_i, isN_n, isN_t, isN_l, notN_i, notN_n, notN_t, notN_l, isTy,
  atI0, atI1, atI2, ixN0, ixN1, ixN2, some_inj_ex, isObj, setAt0, setAt1, setAt2, setAt3, restE, keepS, wipeE, ↓reduceIte, if_false, if_true,
  eCall, eCallP, eMake, pm, eTwo, dLit, eOwn2, eLenO, okLen, eMethP, eMakeP, isC_o, eRepL, lr1_i, lr2_i, List.filterMap_cons, List.filterMap_nil, agNil, agRo, agBo, agMu, agTm, callK, boIx, muIx, tms, argsK, upE, reown, hasBo, noTm, flatRo, noLstAll, noLst, noLsts, List.nodup_nil, List.nodup_cons, List.not_mem_nil, not_false_eq_true, Nat.zero_le, Nat.le_refl, Nat.reduceLeDiff, List.mem_cons, or_false, reduceCtorEq,
  gN, gTp, gLs, gCn, gNl, iR1, iR2, iLst, iTpl, iEnum, stab,
  e0_is, t0_is, d0_is, s0_is, i0_is, sTry, hXk_n, hXk_s, sRaise, eCallX, eCallXP, eMethX, eMakeX, ePropX, eOwn2X, callX, roA, opXv_exn, opIsX_exn, List.map_cons, List.map_nil, Nat.lt_irrefl, Nat.zero_lt_one, Nat.reduceLT, Nat.zero_lt_succ, some_inj_ex,
  true_and, and_true, eq_self, List.length_map, decide_true, decide_false, Bool.not_true, Bool.not_false, not_true_eq_false, Bool.true_eq_false, Bool.false_eq_true, false_imp_iff, forall_const, true_imp_iff, and_self, decide_eq_true_eq, decide_eq_false_iff_not, Bool.not_eq_true', Bool.not_eq_false'])
namespace CD
theorem pre_mem {rs : List (Int × Int)} (ho : MapOk rs) {n y : Int} (h : y ∈ preF rs.length rs n) : zStep rs y = n ∧ ∃ p ∈ rs, y = (rs.length * n - p.2) / p.1 := by
  unfold preF at h
  obtain ⟨p, hp, e⟩ := List.mem_filterMap.mp h
  split at e
  · rename_i hh
    cases e
    obtain ⟨r, hr⟩ := List.getElem?_of_mem hp
    exact ⟨(pre_step ho hr hh).2, p, hp, rfl⟩
  · cases e
theorem pre_len (m : Int) (rs : List (Int × Int)) (n : Int) : (preF m rs n).length ≤ rs.length := List.length_filterMap_le _ _
/- _law_classes: 0:value 1:rules 2:k 3:pair -/
/- _law_fits: 0:rules 1:classes 2:number 3:found 4:one 5:due 6:k -/
end CD
end TL

namespace TL
open PySem L2
set_option maxHeartbeats 2000000
local macro_rules | `(tactic| walk_at "sx") => `(tactic| simp only [sSeq, sNil, sSet, sFrz, frz_o, frz_sh, frz_s, sIf, sRet, sRetN, sPass, sBrk, sPar, sSub, sApp, sExpr, sAsg, sAug, sFld, sRevI, sPop, eLoc, eC, eUn, eBin, eAnd, eOr, eNot, eIf, eTup, eLst, dNil, dCons, tVal_eq, tstD_bl, tAndW, tOrW, tNotW, eFld_eq, eFldD_o, eProp, eMeth, eMeth0, eSl, pNone, pSome, sl_l,
  out_sh, out_fr, get_loc, get_sh, get_fr, getL_z, getL_o, getL_s, bound_z, bound_o, bound_s, isOwn_o, isOwn_s, pok_loc, pok_sh, pok_fr, stl_loc, stlS_sh, stlS_own, stl_sh, stl_fr, lay_fr, lay_sh, lay_loc, envOf, slotsOf, valN, ghOf, endK, resK, exMu, muN, List.cons_append, List.nil_append, List.append_nil, List.length_cons, List.length_nil, Nat.reduceAdd, Nat.reduceSub, List.replicate_succ, List.replicate_zero, List.replicate,
  List.getElem?_cons_zero, List.getElem?_cons_succ, List.getElem?_nil, List.set_cons_zero, List.set_cons_succ,
  add_ii, add_ss, add_ll, sub_ii, mul_ii, fdv_ii, fdvN_ii, mod_ii, modN_ii, pow_ii, lt_ii, le_ii, gt_ii, ge_ii, eq_ii, ne_ii, ix_li, ix_ti, neg_i, abs_i, int_i, int_b, max_ii, min_ii, len_l, len_t, list_l, list_t, rev_l, isi_int, isi_bl, isi_tup, isi_lst, isi_non, isN_i, isN_n, isN_t, isN_l, notN_i, notN_n, notN_t, notN_l, isTy,
  atI0, atI1, atI2, ixN0, ixN1, ixN2, some_inj_ex, isObj, setAt0, setAt1, setAt2, setAt3, restE, keepS, wipeE, ↓reduceIte, if_false, if_true,
  eCall, eCallP, eMake, pm, eTwo, dLit, eOwn2, eLenO, okLen, eMethP, eMakeP, isC_o, eRepL, lr1_i, lr2_i, List.filterMap_cons, List.filterMap_nil, agNil, agRo, agBo, agMu, agTm, callK, boIx, muIx, tms, argsK, upE, reown, hasBo, noTm, flatRo, noLstAll, noLst, noLsts, List.nodup_nil, List.nodup_cons, List.not_mem_nil, not_false_eq_true, Nat.zero_le, Nat.le_refl, Nat.reduceLeDiff, List.mem_cons, or_false, reduceCtorEq,
  gN, gTp, gLs, gCn, gNl, iR1, iR2, iLst, iTpl, iEnum, stab,
  e0_is, t0_is, d0_is, s0_is, i0_is, sTry, hXk_n, hXk_s, sRaise, eCallX, eCallXP, eMethX, eMakeX, ePropX, eOwn2X, callX, roA, opXv_exn, opIsX_exn, List.map_cons, List.map_nil, Nat.lt_irrefl, Nat.zero_lt_one, Nat.reduceLT, Nat.zero_lt_succ, some_inj_ex,
  true_and, and_true, eq_self, List.length_map, decide_true, decide_false, Bool.not_true, Bool.not_false, not_true_eq_false, Bool.true_eq_false, Bool.false_eq_true, false_imp_iff, forall_const, true_imp_iff, and_self, decide_eq_true_eq, decide_eq_false_iff_not, Bool.not_eq_true', Bool.not_eq_false'])
namespace CD
namespace K43
/- _law_right: 0:cards 1:modulus 2:rules 3:built 4:classes 5:kept 6:k 7:number 8:first 9:second 10:found 11:again -/
theorem step_cls {rs : List (Int × Int)} (ho : MapOk rs) {k : Nat} (hk : k < rs.length) (t : Int) : zStep rs (k + rs.length * t) % (clsR rs k).1 = (clsR rs k).2 := by
  have h2 := ho.two
  have hp : rs[k]? = some (rs.getD k (1, 0)) := by rw [List.getD_eq_getElem?_getD, List.getElem?_eq_getElem hk]; rfl
  obtain ⟨p, hpe⟩ : ∃ p, p = rs.getD k (1, 0) := ⟨_, rfl⟩
  have ec : clsR rs k = (p.1, ((p.1 * k + p.2) / rs.length) % p.1) := by rw [hpe]; rfl
  rw [← hpe] at hp
  obtain ⟨a1, a2, a3⟩ := ho.ok k p hp
  have em : ((k : Int) + rs.length * t) % rs.length = k := by
    rw [Int.add_mul_emod_self_left]
    exact Int.emod_eq_of_lt (by omega) (by omega)
  have er : ruleAt rs (((k : Int) + rs.length * t) % rs.length) = p := by
    rw [em]
    unfold ruleAt
    simp [List.getD_eq_getElem?_getD, hp]
  rw [ec]
  unfold zStep
  rw [er]
  have : p.1 * ((k : Int) + rs.length * t) + p.2 = (p.1 * k + p.2) + rs.length * (p.1 * t) := by grind
  rw [this, Int.add_mul_ediv_left _ _ (by omega : (rs.length : Int) ≠ 0), Int.add_mul_emod_self_left]
/- law: 0:script 1:k -/
end K43
end CD
end TL

namespace TL
open PySem L2
set_option maxHeartbeats 2000000
local macro_rules | `(tactic| walk_at "sx") => `(tactic| simp only [sSeq, sNil, sSet, sFrz, frz_o, frz_sh, frz_s, sIf, sRet, sRetN, sPass, sBrk, sPar, sSub, sApp, sExpr, sAsg, sAug, sFld, sRevI, sPop, eLoc, eC, eUn, eBin, eAnd, eOr, eNot, eIf, eTup, eLst, dNil, dCons, tVal_eq, tstD_bl, tAndW, tOrW, tNotW, eFld_eq, eFldD_o, eProp, eMeth, eMeth0, eSl, pNone, pSome, sl_l,
  out_sh, out_fr, get_loc, get_sh, get_fr, getL_z, getL_o, getL_s, bound_z, bound_o, bound_s, isOwn_o, isOwn_s, pok_loc, pok_sh, pok_fr, stl_loc, stlS_sh, stlS_own, stl_sh, stl_fr, lay_fr, lay_sh, lay_loc, envOf, slotsOf, valN, ghOf, endK, resK, exMu, muN, List.cons_append, List.nil_append, List.append_nil, List.length_cons, List.length_nil, Nat.reduceAdd, Nat.reduceSub, List.replicate_succ, List.replicate_zero, List.replicate,
  List.getElem?_cons_zero, List.getElem?_cons_succ, List.getElem?_nil, List.set_cons_zero, List.set_cons_succ,
  add_ii, add_ss, add_ll, sub_ii, mul_ii, fdv_ii, fdvN_ii, mod_ii, modN_ii, pow_ii, lt_ii, le_ii, gt_ii, ge_ii, eq_ii, ne_ii, ix_li, ix_ti, neg_i, abs_i, int_i, int_b, max_ii, min_ii, len_l, len_t, list_l, list_t, rev_l, isi_int, isi_bl, isi_tup, isi_lst, isi_non, isN_i, isN_n, isN_t, isN_l, notN_i, notN_n, notN_t, notN_l, isTy,
  atI0, atI1, atI2, ixN0, ixN1, ixN2, some_inj_ex, isObj, setAt0, setAt1, setAt2, setAt3, restE, keepS, wipeE, ↓reduceIte, if_false, if_true,
  eCall, eCallP, eMake, pm, eTwo, dLit, eOwn2, eLenO, okLen, eMethP, eMakeP, isC_o, eRepL, lr1_i, lr2_i, List.filterMap_cons, List.filterMap_nil, agNil, agRo, agBo, agMu, agTm, callK, boIx, muIx, tms, argsK, upE, reown, hasBo, noTm, flatRo, noLstAll, noLst, noLsts, List.nodup_nil, List.nodup_cons, List.not_mem_nil, not_false_eq_true, Nat.zero_le, Nat.le_refl, Nat.reduceLeDiff, List.mem_cons, or_false, reduceCtorEq,
  gN, gTp, gLs, gCn, gNl, iR1, iR2, iLst, iTpl, iEnum, stab,
  sExt, e0_is, t0_is, d0_is, s0_is, i0_is, sTry, hXk_n, hXk_s, sRaise, eCallX, eCallXP, eMethX, eMakeX, ePropX, eOwn2X, callX, roA, opXv_exn, opIsX_exn, List.map_cons, List.map_nil, Nat.lt_irrefl, Nat.zero_lt_one, Nat.reduceLT, Nat.zero_lt_succ, some_inj_ex,
  true_and, and_true, eq_self, List.length_map, decide_true, decide_false, Bool.not_true, Bool.not_false, not_true_eq_false, Bool.true_eq_false, Bool.false_eq_true, false_imp_iff, forall_const, true_imp_iff, and_self, decide_eq_true_eq, decide_eq_false_iff_not, Bool.not_eq_true', Bool.not_eq_false'])
namespace CD
namespace K47
/- check_word: 0:modulus 1:word 2:entry -/
/- form_of: 0:rule_map 1:word 2:modulus 3:rules 4:form 5:entry -/
/- before: 0:rule_map 1:number 2:top 3:bottom 4:modulus 5:a 6:b -/
/- back_by: 0:rule_map 1:number 2:word 3:a 4:b 5:whole 6:top 7:bottom -/
/- numbers_before: 0:rule_map 1:number 2:steps 3:found 4:step 5:earlier 6:one -/
end K47
end CD
end TL

namespace TL
open PySem L2
set_option maxHeartbeats 2000000
local macro_rules | `(tactic| walk_at "sx") => `(tactic| simp only [sSeq, sNil, sSet, sFrz, frz_o, frz_sh, frz_s, sIf, sRet, sRetN, sPass, sBrk, sPar, sSub, sApp, sExpr, sAsg, sAug, sFld, sRevI, sPop, eLoc, eC, eUn, eBin, eAnd, eOr, eNot, eIf, eTup, eLst, dNil, dCons, tVal_eq, tstD_bl, tAndW, tOrW, tNotW, eFld_eq, eFldD_o, eProp, eMeth, eMeth0, eSl, pNone, pSome, sl_l,
  out_sh, out_fr, get_loc, get_sh, get_fr, getL_z, getL_o, getL_s, bound_z, bound_o, bound_s, isOwn_o, isOwn_s, pok_loc, pok_sh, pok_fr, stl_loc, stlS_sh, stlS_own, stl_sh, stl_fr, lay_fr, lay_sh, lay_loc, envOf, slotsOf, valN, ghOf, endK, resK, exMu, muN, List.cons_append, List.nil_append, List.append_nil, List.length_cons, List.length_nil, Nat.reduceAdd, Nat.reduceSub, List.replicate_succ, List.replicate_zero, List.replicate,
  List.getElem?_cons_zero, List.getElem?_cons_succ, List.getElem?_nil, List.set_cons_zero, List.set_cons_succ,
  add_ii, add_ss, add_ll, sub_ii, mul_ii, fdv_ii, fdvN_ii, mod_ii, modN_ii, pow_ii, lt_ii, le_ii, gt_ii, ge_ii, eq_ii, ne_ii, ix_li, ix_ti, neg_i, abs_i, int_i, int_b, max_ii, min_ii, len_l, len_t, list_l, list_t, rev_l, isi_int, isi_bl, isi_tup, isi_lst, isi_non, isN_i, isN_n, isN_t, isN_l, notN_i, notN_n, notN_t, notN_l, isTy,
  atI0, atI1, atI2, ixN0, ixN1, ixN2, some_inj_ex, isObj, setAt0, setAt1, setAt2, setAt3, restE, keepS, wipeE, ↓reduceIte, if_false, if_true,
  eCall, eCallP, eMake, pm, eTwo, dLit, eOwn2, eLenO, okLen, eMethP, eMakeP, isC_o, eRepL, lr1_i, lr2_i, List.filterMap_cons, List.filterMap_nil, agNil, agRo, agBo, agMu, agTm, callK, boIx, muIx, tms, argsK, upE, reown, hasBo, noTm, flatRo, noLstAll, noLst, noLsts, List.nodup_nil, List.nodup_cons, List.not_mem_nil, not_false_eq_true, Nat.zero_le, Nat.le_refl, Nat.reduceLeDiff, List.mem_cons, or_false, reduceCtorEq,
  gN, gTp, gLs, gCn, gNl, iR1, iR2, iLst, iTpl, iEnum, stab,
  sExt, e0_is, t0_is, d0_is, s0_is, i0_is, sTry, hXk_n, hXk_s, sRaise, eCallX, eCallXP, eMethX, eMakeX, ePropX, eOwn2X, callX, roA, opXv_exn, opIsX_exn, List.map_cons, List.map_nil, Nat.lt_irrefl, Nat.zero_lt_one, Nat.reduceLT, Nat.zero_lt_succ, some_inj_ex,
  true_and, and_true, eq_self, List.length_map, decide_true, decide_false, Bool.not_true, Bool.not_false, not_true_eq_false, Bool.true_eq_false, Bool.false_eq_true, false_imp_iff, forall_const, true_imp_iff, and_self, decide_eq_true_eq, decide_eq_false_iff_not, Bool.not_eq_true', Bool.not_eq_false'])
namespace CD
namespace K47
/-- what must hold so that nothing grows too large -/
structure AskOk (rs : List (Int × Int)) : Prop where
  mp : MapOk rs
  few : rs.length ≤ 12
  a1k : ∀ p ∈ rs, p.1 ≤ 1000
  b6 : ∀ p ∈ rs, Bt 600 p.2
  fm : ∀ ws : List Int, Wd rs.length ws → ws.length ≤ 12 → (∀ i, i ≤ ws.length → FmB 40000000 (formF rs (ws.take i))) ∧ 1 ≤ (formF rs ws).1 ∧ Bt 7000 (formF rs ws).1
/- _law_asked: 0:door 1:built 2:pair 3:line -/
/- _law_told: 0:door 1:built 2:pair 3:line 4:caught 5:e 6:others 7:kinds -/
end K47
end CD
end TL

namespace TL
open PySem L2
set_option maxHeartbeats 2000000
local macro_rules | `(tactic| walk_at "sx") => `(tactic| simp only [sSeq, sNil, sSet, sFrz, frz_o, frz_sh, frz_s, sIf, sRet, sRetN, sPass, sBrk, sPar, sSub, sApp, sExpr, sAsg, sAug, sFld, sRevI, sPop, eLoc, eC, eUn, eBin, eAnd, eOr, eNot, eIf, eTup, eLst, dNil, dCons, tVal_eq, tstD_bl, tAndW, tOrW, tNotW, eFld_eq, eFldD_o, eProp, eMeth, eMeth0, eSl, pNone, pSome, sl_l,
  out_sh, out_fr, get_loc, get_sh, get_fr, getL_z, getL_o, getL_s, bound_z, bound_o, bound_s, isOwn_o, isOwn_s, pok_loc, pok_sh, pok_fr, stl_loc, stlS_sh, stlS_own, stl_sh, stl_fr, lay_fr, lay_sh, lay_loc, envOf, slotsOf, valN, ghOf, endK, resK, exMu, muN, List.cons_append, List.nil_append, List.append_nil, List.length_cons, List.length_nil, Nat.reduceAdd, Nat.reduceSub, List.replicate_succ, List.replicate_zero, List.replicate,
  List.getElem?_cons_zero, List.getElem?_cons_succ, List.getElem?_nil, List.set_cons_zero, List.set_cons_succ,
  add_ii, add_ss, add_ll, sub_ii, mul_ii, fdv_ii, fdvN_ii, mod_ii, modN_ii, pow_ii, lt_ii, le_ii, gt_ii, ge_ii, eq_ii, ne_ii, ix_li, ix_ti, neg_i, abs_i, int_i, int_b, max_ii, min_ii, len_l, len_t, list_l, list_t, rev_l, isi_int, isi_bl, isi_tup, isi_lst, isi_non, isN_i, isN_n, isN_t, isN_l, notN_i, notN_n, notN_t, notN_l, isTy,
  atI0, atI1, atI2, ixN0, ixN1, ixN2, some_inj_ex, isObj, setAt0, setAt1, setAt2, setAt3, restE, keepS, wipeE, ↓reduceIte, if_false, if_true,
  eCall, eCallP, eMake, pm, eTwo, dLit, eOwn2, eLenO, okLen, eMethP, eMakeP, isC_o, eRepL, lr1_i, lr2_i, List.filterMap_cons, List.filterMap_nil, agNil, agRo, agBo, agMu, agTm, callK, boIx, muIx, tms, argsK, upE, reown, hasBo, noTm, flatRo, noLstAll, noLst, noLsts, List.nodup_nil, List.nodup_cons, List.not_mem_nil, not_false_eq_true, Nat.zero_le, Nat.le_refl, Nat.reduceLeDiff, List.mem_cons, or_false, reduceCtorEq,
  gN, gTp, gLs, gCn, gNl, iR1, iR2, iLst, iTpl, iEnum, stab,
  sExt, e0_is, t0_is, d0_is, s0_is, i0_is, sTry, hXk_n, hXk_s, sRaise, eCallX, eCallXP, eMethX, eMakeX, ePropX, eOwn2X, callX, roA, opXv_exn, opIsX_exn, List.map_cons, List.map_nil, Nat.lt_irrefl, Nat.zero_lt_one, Nat.reduceLT, Nat.zero_lt_succ, some_inj_ex,
  true_and, and_true, eq_self, List.length_map, decide_true, decide_false, Bool.not_true, Bool.not_false, not_true_eq_false, Bool.true_eq_false, Bool.false_eq_true, false_imp_iff, forall_const, true_imp_iff, and_self, decide_eq_true_eq, decide_eq_false_iff_not, Bool.not_eq_true', Bool.not_eq_false'])
namespace CD
namespace CH
namespace K54
/- agreements_after: 0:one 1:other 2:steps 3:forms 4:whole 5:other_forms 6:number -/
/- _law_right: 0:cards 1:modulus 2:rules 3:second 4:many 5:whole 6:far 7:due 8:number 9:built 10:turn 11:found 12:at -/
/- law: 0:script 1:k -/
end K54
end CH
end CD
end TL

namespace TL
open PySem L2
set_option maxHeartbeats 2000000
local macro_rules | `(tactic| walk_at "sx") => `(tactic| simp only [sSeq, sNil, sSet, sFrz, frz_o, frz_sh, frz_s, sIf, sRet, sRetN, sPass, sBrk, sPar, sSub, sApp, sExpr, sAsg, sAug, sFld, sRevI, sPop, eLoc, eC, eUn, eBin, eAnd, eOr, eNot, eIf, eTup, eLst, dNil, dCons, tVal_eq, tstD_bl, tAndW, tOrW, tNotW, eFld_eq, eFldD_o, eProp, eMeth, eMeth0, eSl, pNone, pSome, sl_l,
  out_sh, out_fr, get_loc, get_sh, get_fr, getL_z, getL_o, getL_s, bound_z, bound_o, bound_s, isOwn_o, isOwn_s, pok_loc, pok_sh, pok_fr, stl_loc, stlS_sh, stlS_own, stl_sh, stl_fr, lay_fr, lay_sh, lay_loc, envOf, slotsOf, valN, ghOf, endK, resK, exMu, muN, List.cons_append, List.nil_append, List.append_nil, List.length_cons, List.length_nil, Nat.reduceAdd, Nat.reduceSub, List.replicate_succ, List.replicate_zero, List.replicate,
  List.getElem?_cons_zero, List.getElem?_cons_succ, List.getElem?_nil, List.set_cons_zero, List.set_cons_succ,
  add_ii, add_ss, add_ll, sub_ii, mul_ii, fdv_ii, fdvN_ii, mod_ii, modN_ii, pow_ii, lt_ii, le_ii, gt_ii, ge_ii, eq_ii, ne_ii, ix_li, ix_ti, neg_i, abs_i, int_i, int_b, max_ii, min_ii, len_l, len_t, list_l, list_t, rev_l, isi_int, isi_bl, isi_tup, isi_lst, isi_non, isN_i, isN_n, isN_t, isN_l, notN_i, notN_n, notN_t, notN_l, isTy,
  atI0, atI1, atI2, ixN0, ixN1, ixN2, some_inj_ex, isObj, setAt0, setAt1, setAt2, setAt3, restE, keepS, wipeE, ↓reduceIte, if_false, if_true,
  eCall, eCallP, eMake, pm, eTwo, dLit, eOwn2, eLenO, okLen, eMethP, eMakeP, isC_o, eRepL, lr1_i, lr2_i, List.filterMap_cons, List.filterMap_nil, agNil, agRo, agBo, agMu, agTm, callK, boIx, muIx, tms, argsK, upE, reown, hasBo, noTm, flatRo, noLstAll, noLst, noLsts, List.nodup_nil, List.nodup_cons, List.not_mem_nil, not_false_eq_true, Nat.zero_le, Nat.le_refl, Nat.reduceLeDiff, List.mem_cons, or_false, reduceCtorEq,
  gN, gTp, gLs, gCn, gNl, iR1, iR2, iLst, iTpl, iEnum, stab,
  sExt, e0_is, t0_is, d0_is, s0_is, i0_is, sTry, hXk_n, hXk_s, sRaise, eCallX, eCallXP, eMethX, eMakeX, ePropX, eOwn2X, callX, roA, opXv_exn, opIsX_exn, List.map_cons, List.map_nil, Nat.lt_irrefl, Nat.zero_lt_one, Nat.reduceLT, Nat.zero_lt_succ, some_inj_ex,
  true_and, and_true, eq_self, List.length_map, decide_true, decide_false, Bool.not_true, Bool.not_false, not_true_eq_false, Bool.true_eq_false, Bool.false_eq_true, false_imp_iff, forall_const, true_imp_iff, and_self, decide_eq_true_eq, decide_eq_false_iff_not, Bool.not_eq_true', Bool.not_eq_false'])
namespace CD
namespace K47
/- _law_bad: 0:cards 1:modulus 2:kind 3:top 4:bottom 5:times 6:parts 7:part 8:k -/
/- _law_spoilt: 0:cards 1:modulus 2:line 3:k 4:far 5:entry -/
end K47
end CD
end TL

namespace TL
open PySem L2
set_option maxHeartbeats 2000000
local macro_rules | `(tactic| walk_at "sx") => `(tactic| simp only [sSeq, sNil, sSet, sFrz, frz_o, frz_sh, frz_s, sIf, sRet, sRetN, sPass, sBrk, sPar, sSub, sApp, sExpr, sAsg, sAug, sFld, sRevI, sPop, eLoc, eC, eUn, eBin, eAnd, eOr, eNot, eIf, eTup, eLst, dNil, dCons, tVal_eq, tstD_bl, tAndW, tOrW, tNotW, eFld_eq, eFldD_o, eProp, eMeth, eMeth0, eSl, pNone, pSome, sl_l,
  out_sh, out_fr, get_loc, get_sh, get_fr, getL_z, getL_o, getL_s, bound_z, bound_o, bound_s, isOwn_o, isOwn_s, pok_loc, pok_sh, pok_fr, stl_loc, stlS_sh, stlS_own, stl_sh, stl_fr, lay_fr, lay_sh, lay_loc, envOf, slotsOf, valN, ghOf, endK, resK, exMu, muN, List.cons_append, List.nil_append, List.append_nil, List.length_cons, List.length_nil, Nat.reduceAdd, Nat.reduceSub, List.replicate_succ, List.replicate_zero, List.replicate,
  List.getElem?_cons_zero, List.getElem?_cons_succ, List.getElem?_nil, List.set_cons_zero, List.set_cons_succ,
  add_ii, add_ss, add_ll, sub_ii, mul_ii, fdv_ii, fdvN_ii, mod_ii, modN_ii, pow_ii, lt_ii, le_ii, gt_ii, ge_ii, eq_ii, ne_ii, ix_li, ix_ti, neg_i, abs_i, int_i, int_b, max_ii, min_ii, len_l, len_t, list_l, list_t, rev_l, isi_int, isi_bl, isi_tup, isi_lst, isi_non, isN_i, isN_n, isN_t, isN_l, notN_i, notN_n, notN_t, notN_l, isTy,
  atI0, atI1, atI2, ixN0, ixN1, ixN2, some_inj_ex, isObj, setAt0, setAt1, setAt2, setAt3, restE, keepS, wipeE, ↓reduceIte, if_false, if_true,
  eCall, eCallP, eMake, pm, eTwo, dLit, eOwn2, eLenO, okLen, eMethP, eMakeP, isC_o, eRepL, lr1_i, lr2_i, List.filterMap_cons, List.filterMap_nil, agNil, agRo, agBo, agMu, agTm, callK, boIx, muIx, tms, argsK, upE, reown, hasBo, noTm, flatRo, noLstAll, noLst, noLsts, List.nodup_nil, List.nodup_cons, List.not_mem_nil, not_false_eq_true, Nat.zero_le, Nat.le_refl, Nat.reduceLeDiff, List.mem_cons, or_false, reduceCtorEq,
  gN, gTp, gLs, gCn, gNl, iR1, iR2, iRL, iLst, iTpl, iEnum, stab,
  ite_self, isB_b, notB_b, any_l, tup_l, sExt, e0_is, t0_is, d0_is, s0_is, i0_is, sTry, hXk_n, hXk_s, sRaise, eCallX, eCallXP, eMethX, eMakeX, ePropX, eOwn2X, callX, roA, opXv_exn, opIsX_exn, List.map_cons, List.map_nil, Nat.lt_irrefl, Nat.zero_lt_one, Nat.reduceLT, Nat.zero_lt_succ, some_inj_ex,
  true_and, and_true, eq_self, List.length_map, decide_true, decide_false, Bool.not_true, Bool.not_false, not_true_eq_false, Bool.true_eq_false, Bool.false_eq_true, false_imp_iff, forall_const, true_imp_iff, and_self, decide_eq_true_eq, decide_eq_false_iff_not, Bool.not_eq_true', Bool.not_eq_false'])
/-! ### the beginning of the laws over one map: source, base, rules, chart -/
/-! ### counts -/
namespace K21
/- _law_is_count: 0:found 1:due -/
/- _law_short: 0:source 1:chart 2:base 3:rules 4:floor 5:width 6:count 7:path 8:due 9:at 10:passed -/
/- _law_long: 0:source 1:chart 2:base 3:floor 4:path 5:times 6:whole 7:part 8:first -/
/- _law_alone: 0:source 1:chart 2:base 3:rules 4:floor 5:path 6:limit 7:left 8:right -/
/- law: 0:script 1:source 2:base 3:rules 4:chart 5:k 6:size 7:floor -/
end K21
end TL

namespace TL
open PySem L2
set_option maxHeartbeats 2000000
local macro_rules | `(tactic| walk_at "sx") => `(tactic| simp only [sSeq, sNil, sSet, sFrz, frz_o, frz_sh, frz_s, sIf, sRet, sRetN, sPass, sBrk, sPar, sSub, sApp, sExpr, sAsg, sAug, sFld, sRevI, sPop, eLoc, eC, eUn, eBin, eAnd, eOr, eNot, eIf, eTup, eLst, dNil, dCons, tVal_eq, tstD_bl, tAndW, tOrW, tNotW, eFld_eq, eFldD_o, eProp, eMeth, eMeth0, eSl, pNone, pSome, sl_l,
  out_sh, out_fr, get_loc, get_sh, get_fr, getL_z, getL_o, getL_s, bound_z, bound_o, bound_s, isOwn_o, isOwn_s, pok_loc, pok_sh, pok_fr, stl_loc, stlS_sh, stlS_own, stl_sh, stl_fr, lay_fr, lay_sh, lay_loc, envOf, slotsOf, valN, ghOf, endK, resK, exMu, muN, List.cons_append, List.nil_append, List.append_nil, List.length_cons, List.length_nil, Nat.reduceAdd, Nat.reduceSub, List.replicate_succ, List.replicate_zero, List.replicate,
  List.getElem?_cons_zero, List.getElem?_cons_succ, List.getElem?_nil, List.set_cons_zero, List.set_cons_succ,
  add_ii, add_ss, add_ll, sub_ii, mul_ii, fdv_ii, fdvN_ii, mod_ii, modN_ii, pow_ii, lt_ii, le_ii, gt_ii, ge_ii, eq_ii, ne_ii, ix_li, ix_ti, neg_i, abs_i, int_i, int_b, max_ii, min_ii, len_l, len_t, list_l, list_t, rev_l, isi_int, isi_bl, isi_tup, isi_lst, isi_non, isN_i, isN_n, isN_t, isN_l, notN_i, notN_n, notN_t, notN_l, isTy,
  atI0, atI1, atI2, ixN0, ixN1, ixN2, some_inj_ex, isObj, setAt0, setAt1, setAt2, setAt3, restE, keepS, wipeE, ↓reduceIte, if_false, if_true,
  eCall, eCallP, eMake, pm, eTwo, dLit, eOwn2, eLenO, okLen, eMethP, eMakeP, isC_o, eRepL, lr1_i, lr2_i, List.filterMap_cons, List.filterMap_nil, agNil, agRo, agBo, agMu, agTm, callK, boIx, muIx, tms, argsK, upE, reown, hasBo, noTm, flatRo, noLstAll, noLst, noLsts, List.nodup_nil, List.nodup_cons, List.not_mem_nil, not_false_eq_true, Nat.zero_le, Nat.le_refl, Nat.reduceLeDiff, List.mem_cons, or_false, reduceCtorEq,
  gN, gTp, gLs, gCn, gNl, iR1, iR2, iRL, iLst, iTpl, iEnum, stab,
  ite_self, isB_b, notB_b, any_l, tup_l, sExt, e0_is, t0_is, d0_is, s0_is, i0_is, sTry, hXk_n, hXk_s, sRaise, eCallX, eCallXP, eMethX, eMakeX, ePropX, eOwn2X, callX, roA, opXv_exn, opIsX_exn, List.map_cons, List.map_nil, Nat.lt_irrefl, Nat.zero_lt_one, Nat.reduceLT, Nat.zero_lt_succ, some_inj_ex,
  true_and, and_true, eq_self, List.length_map, decide_true, decide_false, Bool.not_true, Bool.not_false, not_true_eq_false, Bool.true_eq_false, Bool.false_eq_true, false_imp_iff, forall_const, true_imp_iff, and_self, decide_eq_true_eq, decide_eq_false_iff_not, Bool.not_eq_true', Bool.not_eq_false'])
/-! ### all words of a length -/
def allW (m : Nat) : Nat → List (List Int)
  | 0 => [[]]
  | n + 1 => (allW m n).flatMap fun p => (List.range m).map fun s : Nat => p ++ [(s : Int)]
theorem allW_mem {m : Nat} : ∀ {n : Nat} {p : List Int}, p ∈ allW m n ↔ p.length = n ∧ Wd m p
  | 0, p => by
    show p ∈ [[]] ↔ _
    rw [List.mem_singleton]
    constructor
    · rintro rfl; exact ⟨rfl, fun e he => by simp at he⟩
    · rintro ⟨h, _⟩; exact List.length_eq_zero_iff.mp h
  | n + 1, p => by
    show p ∈ (allW m n).flatMap _ ↔ _
    rw [List.mem_flatMap]
    constructor
    · rintro ⟨q, hq, hp⟩
      obtain ⟨s, hs, rfl⟩ := List.mem_map.mp hp
      obtain ⟨h1, h2⟩ := allW_mem.mp hq
      have hs := List.mem_range.mp hs
      refine ⟨by simp [h1], fun e he => ?_⟩
      rcases List.mem_append.mp he with h | h
      · exact h2 e h
      · rw [List.mem_singleton.mp h]; omega
    · rintro ⟨h1, h2⟩
      have hne : p ≠ [] := by rintro rfl; simp at h1
      have e := List.dropLast_concat_getLast hne
      have hl := h2 _ (List.getLast_mem hne)
      refine ⟨p.dropLast, allW_mem.mpr ⟨by rw [List.length_dropLast]; omega, fun e he => h2 e (List.dropLast_subset p he)⟩, List.mem_map.mpr ⟨(p.getLast hne).toNat, List.mem_range.mpr (by omega), ?_⟩⟩
      rw [Int.toNat_of_nonneg hl.1]
      exact e
theorem allW_len (m : Nat) : ∀ n, (allW m n).length = m ^ n
  | 0 => rfl
  | n + 1 => by
    show ((allW m n).flatMap _).length = _
    rw [List.length_flatMap]
    simp only [List.length_map, List.length_range]
    rw [List.map_const', List.sum_replicate_nat, allW_len m n, Nat.pow_succ]
theorem allW_nodup (m : Nat) : ∀ n, (allW m n).Nodup
  | 0 => by show ([[]] : List (List Int)).Nodup; simp
  | n + 1 => by
    show ((allW m n).flatMap _).Nodup
    refine List.pairwise_flatMap.mpr ⟨fun p _ => ?_, ?_⟩
    · rw [List.pairwise_map]
      refine List.Pairwise.imp ?_ (List.nodup_range (n := m))
      intro a b hab h
      have := (List.append_inj' h rfl).2
      simp at this
      exact hab (by omega)
    · refine List.Pairwise.imp ?_ (allW_nodup m n)
      intro p q hpq x hx y hy h
      obtain ⟨s, _, rfl⟩ := List.mem_map.mp hx
      obtain ⟨t, _, rfl⟩ := List.mem_map.mp hy
      exact hpq (List.append_inj' h rfl).1
/-! ### sums of counts -/
abbrev encWs (ps : List (List Int)) : D := .lst (ps.map encZs)
namespace K86
def sp_law_steps : FSpec := fun args kr _ => ∃ (x y z N : Int) (base : Nat), args = [.mu (src x y z), .ro (.int base)] ∧ 2 ≤ base ∧ base ≤ 60 ∧ 0 ≤ z ∧ z ≤ N ∧ N ≤ 1000000 ∧ ∀ (n : Nat) x' z', n ≤ 9 → (base : Int) ^ n ≤ 512 → 0 ≤ z' → z' ≤ N + 2 → kr (.sh (.int n)) [src x' y z']
/- _law_steps: 0:source 1:base 2:limit 3:most 4:scale 5:turn -/
def b_law_steps : SW := (sSeq (sFrz 2 (sSet 2 (eBin opIx (eLst (dLit [(.int 64), (.int 512)] dNil)) (eUn opInt (eBin opEq (eCall 2 sp_law_take (agMu 0 (agRo (eC (.int 8)) agNil))) (eC (.int 7)))))))
  (sSeq (sSet 3 (eC (.int 0)))
  (sSeq (sSet 4 (eLoc 1))
  (sSeq (sFor (iR1 (dCons (eC (.int 9)) dNil)) (gN 5) (sIf (tVal (eBin opLe (eLoc 4) (eLoc 2))) (sSeq (sFrz 3 (sSet 3 (eBin opAdd (eLoc 3) (eC (.int 1)))))
  (sFrz 4 (sSet 4 (eBin opMul (eLoc 4) (eLoc 1))))) sNil))
  (sRet (eCall 2 sp_law_take (agMu 0 (agRo (eBin opAdd (eLoc 3) (eC (.int 1))) agNil))))))))
/- _law_all: 0:base 1:count 2:paths 3:turn 4:longer 5:path 6:spot -/
/- _law_right: 0:source 1:chart 2:base 3:paths 4:count 5:size 6:floor 7:roof 8:start 9:path 10:found -/
theorem powM {m : Int} (hm : 1 ≤ m) {a b : Nat} (h : a ≤ b) : m ^ a ≤ m ^ b := by
  obtain ⟨c, rfl⟩ := Nat.exists_eq_add_of_le h
  rw [Int.pow_add]
  have : m ^ a * 1 ≤ m ^ a * m ^ c := Int.mul_le_mul_of_nonneg_left (Int.pow_pos (by omega)) (Int.le_of_lt (Int.pow_pos (by omega)))
  omega
theorem two2 {t a b : Int} (h : t = 0 ∨ t = 1) : ∃ l : Int, (l = a ∨ l = b) ∧ L2.atI [D.int a, D.int b] t = some (.int l) := by
  rcases h with rfl | rfl
  · exact ⟨a, .inl rfl, rfl⟩
  · exact ⟨b, .inr rfl, rfl⟩
theorem sat_law_steps : Sat 6 sp_law_steps b_law_steps := by
  rintro args mus kr kx hm ⟨x, y, z, N, m, rfl, hm2, hm6, hz0, hzN, hN, hk⟩
  obtain ⟨a, rfl⟩ := mus1 hm
  unfold b_law_steps
  unfold sFor
  walk_at "sx"
  refine ⟨x, y, z, 8, N, rfl, by omega, by unfold Bt; decide, hz0, hzN, by omega, fun t x z ht0 ht1 hz0 hzN => ?_⟩
  walk_at "sx"
  obtain ⟨lim, hlim, es⟩ := two2 (a := 64) (b := 512) (t := if t = 7 then 1 else 0) (by split <;> omega)
  refine ⟨_, es, ?_⟩
  refine ⟨by omega, fun i ρ => ∃ (g : Nat) (e5 : Sl), ρ = [.own true a (src x y z), .sh (.int m), .sh (.int lim), .sh (.int g), .sh (.int ((m : Int) ^ (g + 1))), e5] ∧ g ≤ i ∧ (m : Int) ^ g ≤ lim, ⟨0, .no, by rw [Int.pow_succ, Int.pow_zero, Int.one_mul]; rfl, by omega, by simp; omega⟩, fun _ _ _ _ => trivial, ?_, ?_⟩
  · rintro i d ρ hi rfl ⟨g, e5, rfl, hg, hp⟩
    have hi : i < 9 := by simpa using hi
    walk_at "sx"
    refine ⟨fun h => ?_, fun h => ⟨g, _, rfl, by omega, hp⟩⟩
    refine ⟨((pow_bt (b := m) (by omega) (g + 1)).mono (show _ ≤ 1000 by omega)).mulOk (Bt.small (x := (m : Int)) (by omega) (by omega)) (by omega), g + 1, .sh (.int i), ?_, by omega, h⟩
    rw [Int.pow_succ (m : Int) (g + 1)]
    rfl
  · rintro ρ ⟨g, e5, rfl, hg, hp⟩
    have hg : g ≤ 9 := by simpa using hg
    walk_at "sx"
    refine ⟨x, y, z, _, N + 1, rfl, by omega, (Bt.small (by omega) (by omega)).mono (by omega), hz0, hzN, by omega, fun t x z ht0 ht hz0 hzN => ?_⟩
    walk_at "sx"
    obtain ⟨n, rfl⟩ := Int.eq_ofNat_of_zero_le ht0
    exact hk n x z (by omega) (Int.le_trans (Int.le_trans (powM (by omega) (by omega)) hp) (by omega)) hz0 (by omega)
/- law: 0:script 1:source 2:base 3:rules 4:chart 5:short 6:paths 7:k 8:count 9:path -/
end K86
end TL

namespace TL
open PySem L2
set_option maxHeartbeats 2000000
local macro_rules | `(tactic| walk_at "sx") => `(tactic| try simp only [sSeq, sNil, sSet, sFrz, frz_o, frz_sh, frz_s, sIf, sRet, sRetN, sPass, sBrk, sPar, sSub, sApp, sExpr, sAsg, sAug, sFld, sRevI, sPop, eLoc, eC, eUn, eBin, eAnd, eOr, eNot, eIf, eTup, eLst, dNil, dCons, tVal_eq, tstD_bl, tAndW, tOrW, tNotW, eFld_eq, eFldD_o, eProp, eMeth, eMeth0, eSl, pNone, pSome, sl_l,
  out_sh, out_fr, get_loc, get_sh, get_fr, getL_z, getL_o, getL_s, bound_z, bound_o, bound_s, isOwn_o, isOwn_s, pok_loc, pok_sh, pok_fr, stl_loc, stlS_sh, stlS_own, stl_sh, stl_fr, lay_fr, lay_sh, lay_loc, envOf, slotsOf, valN, ghOf, endK, resK, exMu, muN, List.cons_append, List.nil_append, List.append_nil, List.length_cons, List.length_nil, Nat.reduceAdd, Nat.reduceSub, List.replicate_succ, List.replicate_zero, List.replicate,
  List.getElem?_cons_zero, List.getElem?_cons_succ, List.getElem?_nil, List.set_cons_zero, List.set_cons_succ,
  add_ii, add_ss, add_ll, sub_ii, mul_ii, fdv_ii, fdvN_ii, mod_ii, modN_ii, pow_ii, lt_ii, le_ii, gt_ii, ge_ii, eq_ii, ne_ii, ix_li, ix_ti, neg_i, abs_i, int_i, int_b, max_ii, min_ii, len_l, len_t, list_l, list_t, rev_l, isi_int, isi_bl, isi_tup, isi_lst, isi_non, isN_i, isN_n, isN_t, isN_l, notN_i, notN_n, notN_t, notN_l, isTy,
  atI0, atI1, atI2, ixN0, ixN1, ixN2, some_inj_ex, isObj, setAt0, setAt1, setAt2, setAt3, restE, keepS, wipeE, ↓reduceIte, if_false, if_true,
  eCall, eCallP, eMake, pm, eTwo, dLit, eOwn2, eLenO, okLen, eMethP, eMakeP, isC_o, eRepL, lr1_i, lr2_i, List.filterMap_cons, List.filterMap_nil, agNil, agRo, agBo, agMu, agTm, callK, boIx, muIx, tms, argsK, upE, reown, hasBo, noTm, flatRo, noLstAll, noLst, noLsts, List.nodup_nil, List.nodup_cons, List.not_mem_nil, not_false_eq_true, Nat.zero_le, Nat.le_refl, Nat.reduceLeDiff, List.mem_cons, or_false, reduceCtorEq,
  gN, gTp, gLs, gCn, gNl, iR1, iR2, iRL, iLst, iTpl, iEnum, stab,
  ite_self, str_i, fmt_i, fmt_s, isB_b, notB_b, any_l, tup_l, sExt, e0_is, t0_is, d0_is, s0_is, i0_is, sTry, hXk_n, hXk_s, sRaise, eCallX, eCallXP, eMethX, eMakeX, ePropX, eOwn2X, callX, roA, opXv_exn, opIsX_exn, List.map_cons, List.map_nil, Nat.lt_irrefl, Nat.zero_lt_one, Nat.reduceLT, Nat.zero_lt_succ, some_inj_ex,
  true_and, and_true, eq_self, List.length_map, decide_true, decide_false, Bool.not_true, Bool.not_false, not_true_eq_false, Bool.true_eq_false, Bool.false_eq_true, false_imp_iff, forall_const, true_imp_iff, and_self, decide_eq_true_eq, decide_eq_false_iff_not, Bool.not_eq_true', Bool.not_eq_false'])
namespace K17
/- first_integer: 0:rule_map 1:number 2:steps 3:modulus 4:rules 5:at -/
/- _law_is_integer: 0:value -/
/- _law_behind: 0:base 1:rules 2:value 3:spot 4:a 5:b 6:top 7:bottom 8:common -/
/- _law_start: 0:source 1:base 2:rules 3:value 4:turn 5:farther -/
/- _law_right: 0:chart 1:value 2:bottoms 3:most 4:due 5:limit 6:found -/
/- law: 0:script 1:source 2:base 3:rules 4:chart 5:k 6:value 7:places 8:place -/
end K17
end TL

namespace TL
open PySem L2
set_option maxHeartbeats 2000000
local macro_rules | `(tactic| walk_at "sx") => `(tactic| try simp only [sSeq, sNil, sSet, sFrz, frz_o, frz_sh, frz_s, sIf, sRet, sRetN, sPass, sBrk, sPar, sSub, sApp, sExpr, sAsg, sAug, sFld, sRevI, sPop, eLoc, eC, eUn, eBin, eAnd, eOr, eNot, eIf, eTup, eLst, dNil, dCons, tVal_eq, tstD_bl, tAndW, tOrW, tNotW, eFld_eq, eFldD_o, eProp, eMeth, eMeth0, eSl, pNone, pSome, sl_l,
  out_sh, out_fr, get_loc, get_sh, get_fr, getL_z, getL_o, getL_s, bound_z, bound_o, bound_s, isOwn_o, isOwn_s, pok_loc, pok_sh, pok_fr, stl_loc, stlS_sh, stlS_own, stl_sh, stl_fr, lay_fr, lay_sh, lay_loc, envOf, slotsOf, valN, ghOf, endK, resK, exMu, muN, List.cons_append, List.nil_append, List.append_nil, List.length_cons, List.length_nil, Nat.reduceAdd, Nat.reduceSub, List.replicate_succ, List.replicate_zero, List.replicate,
  List.getElem?_cons_zero, List.getElem?_cons_succ, List.getElem?_nil, List.set_cons_zero, List.set_cons_succ,
  add_ii, add_ss, add_ll, sub_ii, mul_ii, fdv_ii, fdvN_ii, mod_ii, modN_ii, pow_ii, lt_ii, le_ii, gt_ii, ge_ii, eq_ii, ne_ii, ix_li, ix_ti, neg_i, abs_i, int_i, int_b, max_ii, min_ii, len_l, len_t, list_l, list_t, rev_l, isi_int, isi_bl, isi_tup, isi_lst, isi_non, isN_i, isN_n, isN_t, isN_l, notN_i, notN_n, notN_t, notN_l, isTy,
  atI0, atI1, atI2, ixN0, ixN1, ixN2, some_inj_ex, isObj, setAt0, setAt1, setAt2, setAt3, restE, keepS, wipeE, ↓reduceIte, if_false, if_true,
  eCall, eCallP, eMake, pm, eTwo, dLit, eOwn2, eLenO, okLen, eMethP, eMakeP, isC_o, eRepL, lr1_i, lr2_i, List.filterMap_cons, List.filterMap_nil, agNil, agRo, agBo, agMu, agTm, callK, boIx, muIx, tms, argsK, upE, reown, hasBo, noTm, flatRo, noLstAll, noLst, noLsts, List.nodup_nil, List.nodup_cons, List.not_mem_nil, not_false_eq_true, Nat.zero_le, Nat.le_refl, Nat.reduceLeDiff, List.mem_cons, or_false, reduceCtorEq,
  gN, gTp, gLs, gCn, gNl, iR1, iR2, iRL, iLst, iTpl, iEnum, stab,
  ite_self, str_i, fmt_i, fmt_s, isB_b, notB_b, any_l, tup_l, sExt, e0_is, t0_is, d0_is, s0_is, i0_is, sTry, hXk_n, hXk_s, sRaise, eCallX, eCallXP, eMethX, eMakeX, ePropX, eOwn2X, callX, roA, opXv_exn, opIsX_exn, List.map_cons, List.map_nil, Nat.lt_irrefl, Nat.zero_lt_one, Nat.reduceLT, Nat.zero_lt_succ, some_inj_ex,
  true_and, and_true, eq_self, List.length_map, decide_true, decide_false, Bool.not_true, Bool.not_false, not_true_eq_false, Bool.true_eq_false, Bool.false_eq_true, false_imp_iff, forall_const, true_imp_iff, and_self, decide_eq_true_eq, decide_eq_false_iff_not, Bool.not_eq_true', Bool.not_eq_false'])
namespace CD
namespace K46
theorem low_uniq {p : Int × Int} (h1 : 1 ≤ p.2) (hg : Int.gcd p.1 p.2 = 1) {t b : Int} (hb : 1 ≤ b) (h : p.1 * b = t * p.2) : low t b = p := by
  have d : p.2 ∣ b := dvd_of_gcd hg ⟨t, by rw [Int.mul_comm b, h, Int.mul_comm]⟩
  obtain ⟨k, hk⟩ := d
  have hk0 : 0 < k := by
    rcases Int.lt_or_le 0 k with h | h
    · exact h
    · have : p.2 * k ≤ p.2 * 0 := Int.mul_le_mul_of_nonneg_left h (by omega)
      omega
  have ht : t = p.1 * k := by
    have : t * p.2 = (p.1 * k) * p.2 := by rw [← h, hk]; grind
    exact Int.eq_of_mul_eq_mul_right (by omega) this
  rw [ht, hk, low_mul hk0 h1, low_self hg]
variable {base : Nat} {rs : List (Int × Int)} {p : Int × Int}
theorem walkF_u (h : MapOk rs) (hg : Good rs.length p) (n : Nat) : walkF rs n p = low (uWalk rs p.2 p.1 n) p.2 := by
  have := walkF_low h (u := p.1) hg.1 hg.2.2 n
  rwa [low_self hg.2.1] at this
theorem wordF_u (h : MapOk rs) (hg : Good rs.length p) (n : Nat) : wordF rs p n = uWord rs p.2 p.1 n := by
  have := wordF_low h (u := p.1) hg.1 hg.2.2 n
  rwa [low_self hg.2.1] at this
theorem wd_word {rs : List (Int × Int)} (h : MapOk rs) {p : Int × Int} (hg : Good rs.length p) (n : Nat) : Wd rs.length (wordF rs p n) := by
  intro e he
  unfold wordF at he
  obtain ⟨i, _, rfl⟩ := List.mem_map.mp he
  obtain ⟨a, b, _⟩ := remF_spec (t := (walkF rs i p).1) h.pos (walkF_good hg i).2.2
  exact ⟨a, b⟩
/-- from what back leads to, the word leads to where it began -/
theorem walk_back (hr : RulesOk base rs) (h2 : 2 ≤ base) (h6 : base ≤ 60) (hg : Good rs.length p) {ws : List Int} (hw : Wd rs.length ws) : walkF rs ws.length (backW rs p ws) = p ∧ wordF rs (backW rs p ws) ws.length = ws := by
  have h := hr.map h2 (by omega)
  obtain ⟨g, uw, us⟩ := backW_spec hr h2 h6 hg hw
  rw [wordF_u h g, walkF_u h g]
  refine ⟨low_uniq hg.1 hg.2.1 g.1 us.symm, uw⟩
/-- the integers n steps before -/
def preN (rs : List (Int × Int)) (n : Int) : Nat → List Int
  | 0 => [n]
  | k + 1 => (preN rs n k).flatMap (preF rs.length rs)
theorem mem_pre (h : MapOk rs) (x : Int) : x ∈ preF rs.length rs (zStep rs x) := by
  have hp := h.pos
  have r0 := Int.emod_nonneg x (show (rs.length : Int) ≠ 0 by omega)
  have r1 := Int.emod_lt_of_pos x hp
  unfold preF
  refine List.mem_filterMap.mpr ⟨ruleAt rs (x % rs.length), mem_getD r0 r1, ?_⟩
  have q := ruleAt_ok h r0 r1
  have e : (rs.length : Int) * zStep rs x = (ruleAt rs (x % rs.length)).1 * x + (ruleAt rs (x % rs.length)).2 := by
    unfold zStep
    refine Int.mul_ediv_cancel' ?_
    have d := Int.dvd_of_emod_eq_zero q.2.2
    have e2 := Int.emod_add_mul_ediv x rs.length
    generalize ruleAt rs (x % rs.length) = r at *
    have : r.1 * x + r.2 = (r.1 * (x % rs.length) + r.2) + rs.length * (r.1 * (x / rs.length)) := by
      have : r.1 * x = r.1 * (x % rs.length + rs.length * (x / rs.length)) := by rw [e2]
      rw [this]; grind
    rw [this]
    exact Int.dvd_add d (Int.dvd_mul_right _ _)
  generalize ruleAt rs (x % rs.length) = r at *
  have h0 : hits rs.length (zStep rs x) r := by
    unfold hits
    rw [e, Int.add_sub_cancel]
    exact Int.mul_emod_right _ _
  rw [if_pos h0, e, Int.add_sub_cancel, Int.mul_ediv_cancel_left _ (by have := q.1; omega)]
/-! ### the functions -/
/- back_by: 0:rule_map 1:number 2:word 3:a 4:b 5:whole 6:top 7:bottom -/
/- numbers_before: 0:rule_map 1:number 2:steps 3:found 4:step 5:earlier 6:one -/
def b_numbers_before : SW := (sSeq (sIf (tVal (eBin opLt (eLoc 2) (eC (.int 0)))) sNever sNil)
  (sSeq (sFrz 3 (sSet 3 (eLst (dCons (eLoc 1) dNil))))
  (sSeq (sFor (iR1 (dCons (eLoc 2) dNil)) (gN 4) (sSeq (sSet 5 (eLst dNil))
  (sSeq (sFor (iLst (eLoc 3)) (gN 6) (sExt 5 (eCall 2 sp_whole_before (agRo (eLoc 0) (agRo (eLoc 6) agNil)))))
  (sSet 3 (eLoc 5)))))
  (sRet (eUn opSort (eLoc 3))))))
theorem pre_bt {rs : List (Int × Int)} (ho : MapOk rs) (hl : rs.length ≤ 12) (hb : ∀ p ∈ rs, Bt 600 p.2) {n y : Int} {q : Nat} (bn : Bt q n) (hq : 600 ≤ q) (h : y ∈ preF rs.length rs n) : Bt (q + 100) y := by
  have bm : Bt 40 (rs.length : Int) := Bt.small (by omega) (by omega)
  obtain ⟨_, p, hp, ey⟩ := pre_mem ho h
  have b1 : Bt (q + 100) ((rs.length : Int) * n - p.2) := (((bm.mul bn).mono (by omega : _ ≤ q + 50)).sub ((hb p hp).mono (by omega))).mono (by omega)
  rw [ey]
  exact b1.le (Int.natAbs_ediv_le_natAbs _ _)
theorem perm_flat {f : Int → List Int} {xs ys : List Int} (h : xs.Perm ys) : (xs.flatMap f).Perm (ys.flatMap f) := h.flatMap_right f
/- _law_integers: 0:built 1:number 2:firsts 3:seconds 4:one 5:pair -/
/- _law_right: 0:cards 1:modulus 2:built 3:number 4:count 5:one 6:two 7:found 8:start 9:there -/
/- law: 0:script 1:k -/
end K46
end CD
end TL

namespace TL
open PySem L2
set_option maxHeartbeats 2000000
local macro_rules | `(tactic| walk_at "sx") => `(tactic| try simp only [sSeq, sNil, sSet, sFrz, frz_o, frz_sh, frz_s, sIf, sRet, sRetN, sPass, sBrk, sPar, sSub, sApp, sExpr, sAsg, sAug, sFld, sRevI, sPop, eLoc, eC, eUn, eBin, eAnd, eOr, eNot, eIf, eTup, eLst, dNil, dCons, tVal_eq, tstD_bl, tAndW, tOrW, tNotW, eFld_eq, eFldD_o, eProp, eMeth, eMeth0, eSl, pNone, pSome, sl_l,
  out_sh, out_fr, get_loc, get_sh, get_fr, getL_z, getL_o, getL_s, bound_z, bound_o, bound_s, isOwn_o, isOwn_s, pok_loc, pok_sh, pok_fr, stl_loc, stlS_sh, stlS_own, stl_sh, stl_fr, lay_fr, lay_sh, lay_loc, envOf, slotsOf, valN, ghOf, endK, resK, exMu, muN, List.cons_append, List.nil_append, List.append_nil, List.length_cons, List.length_nil, Nat.reduceAdd, Nat.reduceSub, List.replicate_succ, List.replicate_zero, List.replicate,
  List.getElem?_cons_zero, List.getElem?_cons_succ, List.getElem?_nil, List.set_cons_zero, List.set_cons_succ,
  add_ii, add_ss, add_ll, sub_ii, mul_ii, fdv_ii, fdvN_ii, mod_ii, modN_ii, pow_ii, lt_ii, le_ii, gt_ii, ge_ii, eq_ii, ne_ii, ix_li, ix_ti, neg_i, abs_i, int_i, int_b, max_ii, min_ii, len_l, len_t, list_l, list_t, rev_l, isi_int, isi_bl, isi_tup, isi_lst, isi_non, isN_i, isN_n, isN_t, isN_l, notN_i, notN_n, notN_t, notN_l, isTy,
  atI0, atI1, atI2, ixN0, ixN1, ixN2, some_inj_ex, isObj, setAt0, setAt1, setAt2, setAt3, restE, keepS, wipeE, ↓reduceIte, if_false, if_true,
  eCall, eCallP, eMake, pm, eTwo, dLit, eOwn2, eLenO, okLen, eMethP, eMakeP, isC_o, eRepL, lr1_i, lr2_i, List.filterMap_cons, List.filterMap_nil, agNil, agRo, agBo, agMu, agTm, callK, boIx, muIx, tms, argsK, upE, reown, hasBo, noTm, flatRo, noLstAll, noLst, noLsts, List.nodup_nil, List.nodup_cons, List.not_mem_nil, not_false_eq_true, Nat.zero_le, Nat.le_refl, Nat.reduceLeDiff, List.mem_cons, or_false, reduceCtorEq,
  gN, gTp, gLs, gCn, gNl, iR1, iR2, iRL, iLst, iTpl, iEnum, stab,
  ite_self, str_i, fmt_i, fmt_s, isB_b, notB_b, any_l, tup_l, sExt, e0_is, t0_is, d0_is, s0_is, i0_is, sTry, hXk_n, hXk_s, sRaise, eCallX, eCallXP, eMethX, eMakeX, ePropX, eOwn2X, callX, roA, opXv_exn, opIsX_exn, List.map_cons, List.map_nil, Nat.lt_irrefl, Nat.zero_lt_one, Nat.reduceLT, Nat.zero_lt_succ, some_inj_ex,
  true_and, and_true, eq_self, List.length_map, decide_true, decide_false, Bool.not_true, Bool.not_false, not_true_eq_false, Bool.true_eq_false, Bool.false_eq_true, false_imp_iff, forall_const, true_imp_iff, and_self, decide_eq_true_eq, decide_eq_false_iff_not, Bool.not_eq_true', Bool.not_eq_false'])
/-! ### the fraction that comes round by a word -/
def lowS (t b : Int) : Int × Int := if b < 0 then low (-t) (-b) else low t b
def ringP (rs : List (Int × Int)) (ws : List Int) : Int × Int := lowS (formF rs ws).2.1 ((formF rs ws).2.2 - (formF rs ws).1)
/-- the list of its places -/
def ringL (rs : List (Int × Int)) (ws : List Int) : List (Int × Int) := (List.range ws.length).map fun i => (uWalk rs (ringP rs ws).2 (ringP rs ws).1 i, (ringP rs ws).2)
theorem low_cross {t b : Int} (h : 1 ≤ b) : (low t b).1 * b = t * (low t b).2 := by
  obtain ⟨k, hk, e1, e2⟩ := low_gcd (u := t) h
  have a1 : (low t b).1 * b = (low t b).1 * ((low t b).2 * k) := by rw [← e2]
  have a2 : t * (low t b).2 = ((low t b).1 * k) * (low t b).2 := by rw [← e1]
  rw [a1, a2]; grind
theorem low_cop {t b m : Int} (h1 : 1 ≤ b) (hg : Int.gcd b m = 1) : Good m (low t b) :=
  ⟨(gcd_div (a := t) h1).1, (gcd_div (a := t) h1).2, gcd_of_dvd (Int.ediv_dvd_of_dvd (Int.gcd_dvd_right _ _)) hg⟩
theorem lowS_spec {t b m : Int} (h0 : b ≠ 0) (hg : Int.gcd b m = 1) : Good m (lowS t b) ∧ (lowS t b).1 * b = t * (lowS t b).2 := by
  unfold lowS
  split
  · have hg2 : Int.gcd (-b) m = 1 := by rw [Int.gcd_comm, Int.gcd_neg, Int.gcd_comm]; exact hg
    have h := low_cross (t := -t) (b := -b) (by omega)
    refine ⟨low_cop (by omega) hg2, ?_⟩
    rw [Int.mul_neg, Int.neg_mul] at h
    omega
  · exact ⟨low_cop (by omega) hg, low_cross (by omega)⟩
theorem gcd_sub_scale {rs : List (Int × Int)} (h : MapOk rs) {ws : List Int} (hw : Wd rs.length ws) (h1 : 1 ≤ ws.length) : Int.gcd ((formF rs ws).2.2 - (formF rs ws).1) rs.length = 1 := by
  have g := form_gcd h hw
  have e : ((rs.length : Nat) : Int) ∣ (formF rs ws).2.2 := by
    rw [formF_scale]
    obtain ⟨k, hk⟩ : ∃ k, ws.length = k + 1 := ⟨ws.length - 1, by omega⟩
    rw [hk, Int.pow_succ]
    exact Int.dvd_mul_left _ _
  obtain ⟨c, hc⟩ := e
  rw [hc, show (rs.length : Int) * c - (formF rs ws).1 = -(formF rs ws).1 + rs.length * c by omega]
  first | rw [Int.gcd_add_mul_left_left] | rw [Int.gcd_add_mul_self_left] | rw [Int.gcd_add_left_mul_self] | rw [Int.gcd_add_mul_left_right]
  rw [Int.gcd_comm, Int.gcd_neg, Int.gcd_comm]
  exact g
theorem ne_scale {rs : List (Int × Int)} (h : MapOk rs) {ws : List Int} (hw : Wd rs.length ws) (h1 : 1 ≤ ws.length) : (formF rs ws).2.2 - (formF rs ws).1 ≠ 0 := by
  intro z
  have g := gcd_sub_scale h hw h1
  rw [z] at g
  have := h.two
  simp at g
  omega
theorem ringP_spec {rs : List (Int × Int)} (h : MapOk rs) {ws : List Int} (hw : Wd rs.length ws) (h1 : 1 ≤ ws.length) :
    Good rs.length (ringP rs ws) ∧ (formF rs ws).1 * (ringP rs ws).1 + (formF rs ws).2.1 * (ringP rs ws).2 = (formF rs ws).2.2 * (ringP rs ws).1 ∧ uWord rs (ringP rs ws).2 (ringP rs ws).1 ws.length = ws ∧ uWalk rs (ringP rs ws).2 (ringP rs ws).1 ws.length = (ringP rs ws).1 := by
  obtain ⟨g, c⟩ := lowS_spec (t := (formF rs ws).2.1) (ne_scale h hw h1) (gcd_sub_scale h hw h1)
  have g : Good rs.length (ringP rs ws) := g
  have c : (ringP rs ws).1 * ((formF rs ws).2.2 - (formF rs ws).1) = (formF rs ws).2.1 * (ringP rs ws).2 := c
  have e : (formF rs ws).1 * (ringP rs ws).1 + (formF rs ws).2.1 * (ringP rs ws).2 = (formF rs ws).2.2 * (ringP rs ws).1 := by rw [← c]; grind
  have uw := (form_iffU h g.2.2 (ringP rs ws).1 hw).mpr (by rw [e]; exact Int.dvd_mul_right _ _)
  refine ⟨g, e, uw, ?_⟩
  have fw := form_walkU h g.2.2 (ringP rs ws).1 ws.length
  rw [uw, e] at fw
  have hs : 0 < (formF rs ws).2.2 := by rw [formF_scale]; exact Int.pow_pos h.pos
  exact (Int.eq_of_mul_eq_mul_left (by omega) fw).symm
def sp_check_again : FSpec := fun args kr _ => ∃ (m : Int) (ws : List Int), args = [.ro (.int m), .ro (encZs ws)] ∧ Wd m ws ∧ 1 ≤ ws.length ∧ kr (.sh .non) []
def sp_ring_of : FSpec := fun args kr _ => ∃ (rs : List (Int × Int)) (ws : List Int), args = [.ro (mapD rs), .ro (encZs ws)] ∧ MapOk rs ∧ Wd rs.length ws ∧ 1 ≤ ws.length ∧ ws.length ≤ 1000 ∧ (∀ i, i ≤ ws.length → FmB 40000000 (formF rs (ws.take i))) ∧ Bt 8000 ((formF rs ws).2.2 - (formF rs ws).1) ∧ (∀ i, i ≤ ws.length → Bt 80000000 (uWalk rs (ringP rs ws).2 (ringP rs ws).1 i)) ∧ kr (.fr (encRs (ringL rs ws))) []
/- check_again: 0:modulus 1:word -/
def b_check_again : SW := (sSeq (sExpr (eCall 2 sp_check_word (agRo (eLoc 0) (agRo (eLoc 1) agNil))))
  (sIf (tVal (eBin opEq (eUn opLen (eLoc 1)) (eC (.int 0)))) sNever sNil))
/- ring_of: 0:rule_map 1:word 2:modulus 3:rules 4:a 5:b 6:scale 7:top 8:bottom 9:ring 10:entry -/
def b_ring_of : SW := (sSeq (sFrz 2 (sSet 2 (eProp 0 sp_Map_modulus (eLoc 0))))
  (sSeq (sExpr (eCall 2 sp_check_again (agRo (eLoc 2) (agRo (eLoc 1) agNil))))
  (sSeq (sFrz 3 (sSet 3 (eProp 0 sp_Map_rules (eLoc 0))))
  (sSeq (sAsg (eCall 2 sp_form_of (agRo (eLoc 0) (agRo (eLoc 1) agNil))) (gTp 3 (gCn (gN 4) (gCn (gN 5) (gCn (gN 6) gNl)))))
  (sSeq (sAsg (eCall 2 sp_lowest (agRo (eLoc 5) (agRo (eBin opSub (eLoc 6) (eLoc 4)) agNil))) (gTp 2 (gCn (gN 7) (gCn (gN 8) gNl))))
  (sSeq (sSet 9 (eLst dNil))
  (sSeq (sFor (iLst (eLoc 1)) (gN 10) (sSeq (sApp 9 (eTup (dCons (eLoc 7) (dCons (eLoc 8) dNil))))
  (sFrz 7 (sSet 7 (eBin opFdv (eBin opAdd (eBin opMul (eBin opIx (eBin opIx (eLoc 3) (eLoc 10)) (eC (.int 0))) (eLoc 7)) (eBin opMul (eBin opIx (eBin opIx (eLoc 3) (eLoc 10)) (eC (.int 1))) (eLoc 8))) (eLoc 2))))))
  (sRet (eLoc 9)))))))))
theorem sat_check_again : Sat 2 sp_check_again b_check_again := by
  rintro args mus kr kx hm ⟨m, ws, rfl, hw, h1, hk⟩
  obtain rfl := mus0 hm
  unfold b_check_again
  walk_at "sx"
  refine ⟨m, ws, rfl, hw, ?_⟩
  walk_at "sx"
  exact ⟨fun h => absurd h (by omega), fun _ => hk⟩
theorem ringP_bot {rs : List (Int × Int)} {ws : List Int} {n : Nat} (h : Bt n ((formF rs ws).2.2 - (formF rs ws).1)) : Bt n (ringP rs ws).2 := by
  unfold ringP lowS
  split
  · exact (h.le (x := -((formF rs ws).2.2 - (formF rs ws).1)) (by omega)).le (Int.natAbs_ediv_le_natAbs _ _)
  · exact h.le (Int.natAbs_ediv_le_natAbs _ _)
theorem sp_lowest_S {t b : Int} {K : Ro → List D → Prop} {kx : Nat → D → Prop} (h0 : b ≠ 0) (hb : Bt 8000 b) (hk : K (.sh (encR (lowS t b))) []) : sp_lowest [.ro (.int t), .ro (.int b)] K kx := by
  unfold lowS at hk
  split at hk
  · exact ⟨t, b, rfl, .inr ⟨by omega, hb, hk⟩⟩
  · exact ⟨t, b, rfl, .inl ⟨by omega, hb, hk⟩⟩
theorem sat_ring_of : Sat 11 sp_ring_of b_ring_of := by
  rintro args mus kr kx hm ⟨rs, ws, rfl, ho, hw, hl1, hl2, hf, hb, hu, hk⟩
  obtain rfl := mus0 hm
  unfold b_ring_of
  unfold sFor
  walk_at "sx"
  refine ⟨rs, rfl, ?_⟩
  walk_at "sx"
  refine ⟨rs.length, ws, rfl, hw, hl1, ?_⟩
  walk_at "sx"
  refine ⟨rs, rfl, ?_⟩
  walk_at "sx"
  refine ⟨rs, ws, rfl, ho, hw, hf, ?_⟩
  walk_at "sx"
  obtain ⟨g, _, uw, _⟩ := ringP_spec ho hw hl1
  refine sp_lowest_S (ne_scale ho hw hl1) hb ?_
  rw [show lowS (formF rs ws).2.1 ((formF rs ws).2.2 - (formF rs ws).1) = ringP rs ws from rfl]
  have hq := ringP_bot hb
  have hkr : kr (.fr (encRs ((List.range ws.length).map fun i => (uWalk rs (ringP rs ws).2 (ringP rs ws).1 i, (ringP rs ws).2)))) [] := hk
  generalize ringP rs ws = p at *
  walk_at "sx"
  intro a9
  refine ⟨fun i ρ => ∃ e10 : Sl, ρ = [.sh (mapD rs), .sh (encZs ws), .sh (.int rs.length), .sh (encRs rs), .sh (.int (formF rs ws).1), .sh (.int (formF rs ws).2.1), .sh (.int (formF rs ws).2.2), .sh (.int (uWalk rs p.2 p.1 i)), .sh (.int p.2), .own false a9 (encRs ((List.range i).map fun i => (uWalk rs p.2 p.1 i, p.2))), e10], ⟨_, rfl⟩, fun _ _ _ _ => trivial, ?_, ?_⟩
  · rintro i d ρ hi hd ⟨e10, rfl⟩
    obtain ⟨e, he, rfl⟩ := get_map hd
    have hi : i < ws.length := by simpa using hi
    have ee : e = remF rs.length (uWalk rs p.2 p.1 i) p.2 := by
      have := congrArg (fun l => l[i]?) uw
      simp only [uWord, List.getElem?_map, List.getElem?_range hi, Option.map_some] at this
      rw [he] at this
      exact (Option.some.inj this).symm
    have w := hw e (List.mem_of_getElem? he)
    have hs := ho.sz _ (mem_getD (x := (1, 0)) w.1 w.2)
    have at1 : L2.atI (rs.map encR) e = some (encR (ruleAt rs e)) := atI_map w.1 w.2
    have st : uWalk rs p.2 p.1 (i + 1) = ((ruleAt rs e).1 * uWalk rs p.2 p.1 i + (ruleAt rs e).2 * p.2) / rs.length := by
      show uStep rs p.2 (uWalk rs p.2 p.1 i) = _
      unfold uStep
      rw [← ee]
    walk_at "sx"
    refine ⟨⟨_, _, _, rfl⟩, line_big (by first | omega | (simp; omega)), _, at1, ?_⟩
    walk_at "sx"
    refine ⟨hs.1.mulOk (hu i (by omega)) (by omega), _, at1, ?_⟩
    walk_at "sx"
    refine ⟨hs.2.mulOk hq (by omega), ho.div, .sh (.int e), ?_⟩
    rw [st, List.range_succ, List.map_append]
    simp only [encRs, List.map_append, List.map_cons, List.map_nil]
  · rintro ρ ⟨e10, rfl⟩
    walk_at "sx"
    exact hkr
end TL

namespace TL
open PySem L2
set_option maxHeartbeats 2000000
local macro_rules | `(tactic| walk_at "sx") => `(tactic| try simp only [sSeq, sNil, sSet, sFrz, frz_o, frz_sh, frz_s, sIf, sRet, sRetN, sPass, sBrk, sPar, sSub, sApp, sExpr, sAsg, sAug, sFld, sRevI, sPop, eLoc, eC, eUn, eBin, eAnd, eOr, eNot, eIf, eTup, eLst, dNil, dCons, tVal_eq, tstD_bl, tAndW, tOrW, tNotW, eFld_eq, eFldD_o, eProp, eMeth, eMeth0, eSl, pNone, pSome, sl_l,
  out_sh, out_fr, get_loc, get_sh, get_fr, getL_z, getL_o, getL_s, bound_z, bound_o, bound_s, isOwn_o, isOwn_s, pok_loc, pok_sh, pok_fr, stl_loc, stlS_sh, stlS_own, stl_sh, stl_fr, lay_fr, lay_sh, lay_loc, envOf, slotsOf, valN, ghOf, endK, resK, exMu, muN, List.cons_append, List.nil_append, List.append_nil, List.length_cons, List.length_nil, Nat.reduceAdd, Nat.reduceSub, List.replicate_succ, List.replicate_zero, List.replicate,
  List.getElem?_cons_zero, List.getElem?_cons_succ, List.getElem?_nil, List.set_cons_zero, List.set_cons_succ,
  add_ii, add_ss, add_ll, sub_ii, mul_ii, fdv_ii, fdvN_ii, mod_ii, modN_ii, pow_ii, lt_ii, le_ii, gt_ii, ge_ii, eq_ii, ne_ii, ix_li, ix_ti, neg_i, abs_i, int_i, int_b, max_ii, min_ii, len_l, len_t, list_l, list_t, rev_l, isi_int, isi_bl, isi_tup, isi_lst, isi_non, isN_i, isN_n, isN_t, isN_l, notN_i, notN_n, notN_t, notN_l, isTy,
  atI0, atI1, atI2, ixN0, ixN1, ixN2, some_inj_ex, isObj, setAt0, setAt1, setAt2, setAt3, restE, keepS, wipeE, ↓reduceIte, if_false, if_true,
  eCall, eCallP, eMake, pm, eTwo, dLit, eOwn2, eLenO, okLen, eMethP, eMakeP, isC_o, eRepL, lr1_i, lr2_i, List.filterMap_cons, List.filterMap_nil, agNil, agRo, agBo, agMu, agTm, callK, boIx, muIx, tms, argsK, upE, reown, hasBo, noTm, flatRo, noLstAll, noLst, noLsts, List.nodup_nil, List.nodup_cons, List.not_mem_nil, not_false_eq_true, Nat.zero_le, Nat.le_refl, Nat.reduceLeDiff, List.mem_cons, or_false, reduceCtorEq,
  gN, gTp, gLs, gCn, gNl, iR1, iR2, iRL, iLst, iTpl, iEnum, stab,
  ite_self, str_i, fmt_i, fmt_s, isB_b, notB_b, any_l, tup_l, sExt, e0_is, t0_is, d0_is, s0_is, i0_is, sTry, hXk_n, hXk_s, sRaise, eCallX, eCallXP, eMethX, eMakeX, ePropX, eOwn2X, callX, roA, opXv_exn, opIsX_exn, List.map_cons, List.map_nil, Nat.lt_irrefl, Nat.zero_lt_one, Nat.reduceLT, Nat.zero_lt_succ, some_inj_ex,
  true_and, and_true, eq_self, List.length_map, decide_true, decide_false, Bool.not_true, Bool.not_false, not_true_eq_false, Bool.true_eq_false, Bool.false_eq_true, false_imp_iff, forall_const, true_imp_iff, and_self, decide_eq_true_eq, decide_eq_false_iff_not, Bool.not_eq_true', Bool.not_eq_false'])
theorem rule_setR {m : Nat} {rs : List (Int × Int)} (hr : RulesOk m rs) {k : Nat} {q : Int × Int} (hk : k < m) (hq : RuleOk m k q) (h1 : q.1 ≤ 1000) (h2 : Bt 600 q.2) : RulesOk m (rs.set k q) := by
  refine ⟨by rw [List.length_set]; exact hr.len, fun i p hp => ?_⟩
  by_cases h : k = i
  · subst h
    rw [List.getElem?_set_self (by rw [hr.len]; exact hk)] at hp
    cases hp
    exact ⟨hq, h1, h2⟩
  · rw [List.getElem?_set_ne h] at hp
    exact hr.ok i p hp
/-! ### the places of a ring are in lowest terms -/
theorem walkF_dvd (rs : List (Int × Int)) (p : Int × Int) (m : Nat) : ∀ n, (walkF rs (m + n) p).2 ∣ (walkF rs m p).2
  | 0 => Int.dvd_refl _
  | n + 1 => by
    refine Int.dvd_trans ?_ (walkF_dvd rs p m n)
    show (stepF rs (walkF rs (m + n) p)).2 ∣ _
    exact Int.ediv_dvd_of_dvd (Int.gcd_dvd_right _ _)
theorem ring_place {rs : List (Int × Int)} (h : MapOk rs) {ws : List Int} (hw : Wd rs.length ws) (h1 : 1 ≤ ws.length) {i : Nat} (hi : i ≤ ws.length) : walkF rs i (ringP rs ws) = (uWalk rs (ringP rs ws).2 (ringP rs ws).1 i, (ringP rs ws).2) := by
  obtain ⟨g, _, _, ur⟩ := ringP_spec h hw h1
  have wl : ∀ n, walkF rs n (ringP rs ws) = low (uWalk rs (ringP rs ws).2 (ringP rs ws).1 n) (ringP rs ws).2 := fun n => by
    have := walkF_low h (u := (ringP rs ws).1) g.1 g.2.2 n
    rwa [low_self g.2.1] at this
  have wn : walkF rs ws.length (ringP rs ws) = ringP rs ws := by rw [wl, ur, low_self g.2.1]
  have d1 : (walkF rs i (ringP rs ws)).2 ∣ (ringP rs ws).2 := by
    have := walkF_dvd rs (ringP rs ws) 0 i
    rw [Nat.zero_add] at this
    exact this
  have d2 : (ringP rs ws).2 ∣ (walkF rs i (ringP rs ws)).2 := by
    have := walkF_dvd rs (ringP rs ws) i (ws.length - i)
    rw [show i + (ws.length - i) = ws.length by omega, wn] at this
    exact this
  have e2 : (walkF rs i (ringP rs ws)).2 = (ringP rs ws).2 := by
    have a : 1 ≤ (walkF rs i (ringP rs ws)).2 := (walkF_good g i).1
    exact Int.dvd_antisymm (by omega) (by have := g.1; omega) d1 d2
  have gp := g.1
  have key := wl i
  generalize ringP rs ws = p at *
  obtain ⟨k, hk, e3, e4⟩ := low_gcd (u := uWalk rs p.2 p.1 i) gp
  rw [← key, e2] at e4
  have k1 : k = 1 := by
    have : p.2 * k = p.2 * 1 := by rw [← e4, Int.mul_one]
    exact Int.eq_of_mul_eq_mul_left (by omega) this
  rw [k1, Int.mul_one, ← key] at e3
  rw [e3]
  exact Prod.ext rfl e2
theorem ringL_walk {rs : List (Int × Int)} (h : MapOk rs) {ws : List Int} (hw : Wd rs.length ws) (h1 : 1 ≤ ws.length) : ringL rs ws = (List.range ws.length).map fun i => walkF rs i (ringP rs ws) := by
  unfold ringL
  refine List.map_congr_left fun i hi => ?_
  rw [ring_place h hw h1 (Nat.le_of_lt (List.mem_range.mp hi))]
theorem ring_round {rs : List (Int × Int)} (h : MapOk rs) {ws : List Int} (hw : Wd rs.length ws) (h1 : 1 ≤ ws.length) : walkF rs ws.length (ringP rs ws) = ringP rs ws := by
  rw [ring_place h hw h1 (Nat.le_refl _), (ringP_spec h hw h1).2.2.2]
theorem whole_ring {rs : List (Int × Int)} (h : MapOk rs) {ws : List Int} (hw : Wd rs.length ws) (h1 : 1 ≤ ws.length) : (formF rs ws).2.1.fmod ((formF rs ws).2.2 - (formF rs ws).1) = 0 ↔ (ringP rs ws).2 = 1 := by
  obtain ⟨g, c⟩ := lowS_spec (t := (formF rs ws).2.1) (ne_scale h hw h1) (gcd_sub_scale h hw h1)
  have g : Good rs.length (ringP rs ws) := g
  have c : (ringP rs ws).1 * ((formF rs ws).2.2 - (formF rs ws).1) = (formF rs ws).2.1 * (ringP rs ws).2 := c
  have n0 := ne_scale h hw h1
  generalize (formF rs ws).2.2 - (formF rs ws).1 = d at *
  generalize (formF rs ws).2.1 = b at *
  generalize ringP rs ws = p at *
  constructor
  · intro z
    obtain ⟨k, hk⟩ := Int.dvd_of_fmod_eq_zero z
    have e : p.1 = k * p.2 := by
      have : d * p.1 = d * (k * p.2) := by rw [Int.mul_comm d p.1, c, hk]; grind
      exact Int.eq_of_mul_eq_mul_left n0 this
    have g1 := g.2.1
    have d2 : p.2 ∣ (1 : Int) := by
      have : p.2 ∣ (Int.gcd p.1 p.2 : Int) := Int.dvd_coe_gcd ⟨k, by rw [e, Int.mul_comm]⟩ (Int.dvd_refl _)
      rw [g1] at this
      exact this
    have g2 := g.1
    have := Int.le_of_dvd (by omega) d2
    omega
  · intro z
    rw [z, Int.mul_one] at c
    rw [← c]
    exact Int.mul_fmod_left _ _
/-- sizes on a ring of drawn rules -/
theorem ring_szR {base : Nat} {rs : List (Int × Int)} (hr : RulesOk base rs) (h2 : 2 ≤ base) (h6 : base ≤ 60) {ws : List Int} (hw : Wd rs.length ws) (hl : ws.length ≤ 70) : Bt 6000 ((formF rs ws).2.2 - (formF rs ws).1) ∧ Bt 6000 (ringP rs ws).1 ∧ Bt 6000 (ringP rs ws).2 := by
  have fz := form_size hr h2 h6 hw
  have b1 : Bt 6000 ((formF rs ws).2.2 - (formF rs ws).1) := ((fz.2.2.mono (show _ ≤ 5900 by omega)).sub (fz.1.mono (by omega))).mono (by omega)
  refine ⟨b1, ?_, ringP_bot b1⟩
  unfold ringP lowS
  split
  · exact ((fz.2.1.le (x := -(formF rs ws).2.1) (by omega)).le (Int.natAbs_ediv_le_natAbs _ _)).mono (by omega)
  · exact (fz.2.1.le (Int.natAbs_ediv_le_natAbs _ _)).mono (by omega)
theorem step_szR {base n : Nat} {rs : List (Int × Int)} {p : Int × Int} (hr : RulesOk base rs) (h2 : 2 ≤ base) (hg : Good rs.length p) (h1 : Bt n p.1) (hb : Bt 6000 p.2) (hn : 7000 ≤ n) : Bt (n + 50) (stepF rs p).1 := by
  obtain ⟨r0, r1, _⟩ := remF_spec (t := p.1) (m := rs.length) (by rw [hr.len]; omega) hg.2.2
  have hm := List.getElem?_of_mem (mem_getD (x := ((1 : Int), (0 : Int))) r0 r1)
  obtain ⟨i, hi⟩ := hm
  have q := hr.ok i _ hi
  have ba : Bt 40 (rs.getD (remF rs.length p.1 p.2).toNat (1, 0)).1 := Bt.small (by have := q.1.1; omega) (by omega)
  have b1 := (ba.mul h1).mono (show 40 + n ≤ 40 + n from Nat.le_refl _)
  have b2 := (q.2.2.mul hb).mono (show 600 + 6000 ≤ 40 + n by omega)
  have b3 := b1.add b2
  exact ((b3.le (Int.natAbs_ediv_le_natAbs _ _)).le (Int.natAbs_ediv_le_natAbs _ _)).mono (by omega)
theorem walk_szR {base : Nat} {rs : List (Int × Int)} {p : Int × Int} (hr : RulesOk base rs) (h2 : 2 ≤ base) (hg : Good rs.length p) (h1 : Bt 7000 p.1) (hb : Bt 6000 p.2) : ∀ k, Bt (7000 + 50 * k) (walkF rs k p).1
  | 0 => h1
  | k + 1 => (step_szR hr h2 (walkF_good hg k) (walk_szR hr h2 hg h1 hb k) (walkF_bot hb k) (by omega)).mono (by omega)
theorem sp_ringR {base : Nat} {rs : List (Int × Int)} (hr : RulesOk base rs) (h2 : 2 ≤ base) (h6 : base ≤ 60) {ws : List Int} (hw : Wd rs.length ws) (h1 : 1 ≤ ws.length) (hl : ws.length ≤ 70) {K : Ro → List D → Prop} {kx : Nat → D → Prop} (hk : K (.fr (encRs (ringL rs ws))) []) : sp_ring_of [.ro (mapD rs), .ro (encZs ws)] K kx := by
  have ho := hr.map h2 (by omega)
  obtain ⟨b1, b3, b2⟩ := ring_szR hr h2 h6 hw hl
  obtain ⟨g, _⟩ := ringP_spec ho hw h1
  refine ⟨rs, ws, rfl, ho, hw, h1, by omega, form_sizes hr h2 h6 hw (by omega), b1.mono (by omega), fun i hi => ?_, hk⟩
  have := walk_szR hr h2 g (b3.mono (by omega)) b2 i
  rw [ring_place ho hw h1 hi] at this
  exact Bt.mono (n := 7000 + 50 * i) this (by omega)
def sp_is_whole_ring : FSpec := fun args kr _ => ∃ (rs : List (Int × Int)) (ws : List Int), args = [.ro (mapD rs), .ro (encZs ws)] ∧ MapOk rs ∧ Wd rs.length ws ∧ 1 ≤ ws.length ∧ (∀ i, i ≤ ws.length → FmB 40000000 (formF rs (ws.take i))) ∧ kr (.sh (.bl (decide ((ringP rs ws).2 = 1)))) []
/- is_whole_ring: 0:rule_map 1:word 2:a 3:b 4:scale -/
def b_is_whole_ring : SW := (sSeq (sExpr (eCall 2 sp_check_again (agRo (eProp 0 sp_Map_modulus (eLoc 0)) (agRo (eLoc 1) agNil))))
  (sSeq (sAsg (eCall 2 sp_form_of (agRo (eLoc 0) (agRo (eLoc 1) agNil))) (gTp 3 (gCn (gN 2) (gCn (gN 3) (gCn (gN 4) gNl)))))
  (sRet (eBin opEq (eBin opModN (eLoc 3) (eBin opSub (eLoc 4) (eLoc 2))) (eC (.int 0))))))
theorem sat_is_whole_ring : Sat 5 sp_is_whole_ring b_is_whole_ring := by
  rintro args mus kr kx hm ⟨rs, ws, rfl, ho, hw, hl1, hf, hk⟩
  obtain rfl := mus0 hm
  unfold b_is_whole_ring
  walk_at "sx"
  refine ⟨rs, rfl, ?_⟩
  walk_at "sx"
  refine ⟨rs.length, ws, rfl, hw, hl1, ?_⟩
  walk_at "sx"
  refine ⟨rs, ws, rfl, ho, hw, hf, ?_⟩
  walk_at "sx"
  refine ⟨ne_scale ho hw hl1, ?_⟩
  have := whole_ring ho hw hl1
  simp only [this]
  exact hk
namespace K28
/- _law_closing: 0:source 1:base 2:rules 3:left 4:some 5:turn 6:spot 7:closed 8:k -/
def b_law_closing : SW := (sSeq (sSet 3 (eUn opLR1 (eLoc 1)))
  (sSeq (sSet 4 (eLst dNil))
  (sSeq (sFor (iR1 (dCons (eBin opAdd (eC (.int 1)) (eCall 2 sp_law_take (agMu 0 (agRo (eBin opMin2 (eC (.int 4)) (eLoc 1)) agNil)))) dNil)) (gN 5) (sSeq (sFrz 6 (sSet 6 (ePopAt 3 (eCall 2 sp_law_take (agMu 0 (agRo (eUn opLen (eLoc 3)) agNil))))))
  (sApp 4 (eBin opAdd (eLoc 6) (eBin opMul (eLoc 1) (eBin opSub (eCall 2 sp_law_take (agMu 0 (agRo (eC (.int 19)) agNil))) (eC (.int 9))))))))
  (sSeq (sSet 7 (eUn opList (eLoc 2)))
  (sSeq (sFor (iR1 (dCons (eUn opLen (eLoc 4)) dNil)) (gN 8) (sSeq (sFrz 6 (sSet 6 (eBin opMod (eUn opInt (eBin opIx (eLoc 4) (eBin opSub (eLoc 8) (eC (.int 1))))) (eLoc 1))))
  (sSub 7 (eLoc 6) (eTup (dCons (eBin opIx (eBin opIx (eLoc 2) (eLoc 6)) (eC (.int 0))) (dCons (eBin opSub (eBin opMul (eLoc 1) (eBin opIx (eLoc 4) (eLoc 8))) (eBin opMul (eBin opIx (eBin opIx (eLoc 2) (eLoc 6)) (eC (.int 0))) (eBin opIx (eLoc 4) (eBin opSub (eLoc 8) (eC (.int 1)))))) dNil))))))
  (sRet (eTup (dCons (eLoc 7) (dCons (eLoc 4) dNil)))))))))
/- _law_right: 0:chart 1:base 2:rules 3:path 4:passed 5:found 6:k 7:top 8:bottom 9:whole 10:kept 11:place -/
def sp_law_closing : FSpec := fun args kr _ => ∃ (x y z N : Int) (base : Nat) (rs : List (Int × Int)), args = [.mu (src x y z), .ro (.int base), .ro (encRs rs)] ∧ RulesOk base rs ∧ 2 ≤ base ∧ base ≤ 60 ∧ 0 ≤ z ∧ z ≤ N ∧ N ≤ 100000 ∧
  ∀ qs ss x' z', RulesOk base qs → ss.length ≤ 4 → 0 ≤ z' → z' ≤ N + 20 → kr (.sh (.tup [encRs qs, encZs ss])) [src x' y z']
theorem atI_wrap {ss : List Int} {k : Nat} (h : k < ss.length) : ∃ e ∈ ss, L2.atI (ss.map D.int) ((k : Int) - 1) = some (.int e) := by
  unfold L2.atI ixN
  by_cases h0 : k = 0
  · subst h0
    rw [if_neg (by omega), if_pos (by simp; omega)]
    refine ⟨ss[ss.length - 1], List.getElem_mem _, ?_⟩
    show (ss.map D.int)[_]? = _
    rw [show ((((0 : Nat) : Int) - 1 + ((ss.map D.int).length : Int)).toNat) = ss.length - 1 by simp; omega, List.getElem?_map, List.getElem?_eq_getElem (by omega)]
    rfl
  · rw [if_pos (by omega), if_pos (by simp; omega)]
    refine ⟨ss[k - 1], List.getElem_mem _, ?_⟩
    show (ss.map D.int)[_]? = _
    rw [show ((k : Int) - 1).toNat = k - 1 by omega, List.getElem?_map, List.getElem?_eq_getElem (by omega)]
    rfl
theorem atI_z {ss : List Int} {k : Nat} {e : Int} (h : ss[k]? = some e) : L2.atI (ss.map D.int) (k : Int) = some (.int e) := by
  have hk := (List.getElem?_eq_some_iff.mp h).1
  unfold L2.atI ixN
  rw [if_pos (by omega), if_pos (by simp; omega)]
  show (ss.map D.int)[_]? = _
  rw [show (k : Int).toNat = k by omega, List.getElem?_map, h]
  rfl
theorem erase_map {α β : Type} {f : α → β} : ∀ (xs : List α) (k : Nat), (xs.map f).eraseIdx k = (xs.eraseIdx k).map f
  | [], _ => rfl
  | _ :: _, 0 => rfl
  | x :: xs, k + 1 => by simp [erase_map xs k]
theorem sat_law_closing : Sat 9 sp_law_closing b_law_closing := by
  rintro args mus kr kx hm ⟨x, y, z, N, base, rs, rfl, hr, h2, h6, hz0, hzN, hN, hk⟩
  obtain ⟨a, rfl⟩ := mus1 hm
  have hl := hr.len
  unfold b_law_closing
  unfold sFor
  walk_at "sx"
  refine ⟨⟨by omega, by omega, by omega, by omega, by omega⟩, ?_⟩
  walk_at "sx"
  intro a3 a4
  obtain ⟨most, hmost, hm4⟩ : ∃ q : Int, (if (base : Int) < 4 then (base : Int) else 4) = q ∧ 2 ≤ q ∧ q ≤ 4 ∧ q ≤ base := by
    refine ⟨_, rfl, ?_⟩
    split <;> omega
  rw [hmost]
  refine ⟨x, y, z, most, N, rfl, by omega, (Bt.small (by omega) (by omega)).mono (by omega), hz0, hzN, by omega, fun c x z hc0 hc1 hz0 hzN => ?_⟩
  walk_at "sx"
  refine ⟨by omega, fun i ρ => ∃ (ls ss : List Int) (x z : Int) (e5 e6 : Sl), ρ = [.own true a (src x y z), .sh (.int base), .sh (encRs rs), .own false a3 (encZs ls), .own false a4 (encZs ss), e5, e6, .no, .no] ∧ ls.length + i = base ∧ ss.length = i ∧ (∀ e ∈ ls, 0 ≤ e ∧ e < base) ∧ (∀ e ∈ ss, -1000 ≤ e ∧ e ≤ 1000) ∧ 0 ≤ z ∧ z ≤ N + 1 + 2 * i, ⟨(List.range base).map fun k : Nat => (k : Int), [], x, z, .no, .no, ?_, by simp, rfl, ?_, by simp, hz0, by omega⟩, fun _ _ _ _ => trivial, ?_, ?_⟩
  · have : D.lst (rgD 0 (base : Int)) = encZs ((List.range base).map fun k : Nat => (k : Int)) := by
      unfold rgD
      rw [show ((base : Int) - 0).toNat = base by omega]
      show _ = D.lst (((List.range base).map fun k : Nat => (k : Int)).map D.int)
      rw [List.map_map]
      congr 1
      refine List.map_congr_left fun k _ => ?_
      show D.int (0 + (k : Int)) = D.int k
      rw [Int.zero_add]
    rw [this]
    rfl
  · intro e he
    obtain ⟨k, hk, rfl⟩ := List.mem_map.mp he
    have := List.mem_range.mp hk
    omega
  · rintro i d ρ hi rfl ⟨ls, ss, x, z, e5, e6, rfl, hls, hss, hle, hse, hz0, hzN⟩
    have hi4 : i < 4 := by omega
    unfold ePopAt
    walk_at "sx"
    refine ⟨⟨_, _, _, rfl⟩, x, y, z, ls.length, N + 1 + 2 * i, rfl, by omega, (Bt.small (by omega) (by omega)).mono (by omega), hz0, by omega, by omega, fun t x z ht0 ht1 hz0 hzN => ?_⟩
    walk_at "sx"
    obtain ⟨k, rfl⟩ := Int.eq_ofNat_of_zero_le ht0
    have hk : k < ls.length := by omega
    have hmem : ls[k] ∈ ls := List.getElem_mem hk
    have hr0 := hle _ hmem
    have esq : PySem.seqIndex? (k : Int) ls.length = some k := by
      unfold PySem.seqIndex?
      simp only [show ¬ ((k : Int) < 0) by omega, if_false]
      rw [if_pos (by simp; omega)]
      simp
    refine ⟨by omega, k, .int ls[k], esq, by rw [List.getElem?_map, List.getElem?_eq_getElem hk]; rfl, ⟨_, _, _, rfl⟩, ?_⟩
    generalize ls[k] = v at *
    refine ⟨x, y, z, 19, N + 1 + 2 * i + 1, rfl, by omega, by unfold Bt; decide, hz0, by omega, by omega, fun u x z hu0 hu1 hz0 hzN => ?_⟩
    walk_at "sx"
    have bb : Bt 40 (base : Int) := Bt.small (by omega) (by omega)
    have bu : Bt 40 (u - 9) := Bt.small (by omega) (by omega)
    have pr : -540 ≤ (base : Int) * (u - 9) ∧ (base : Int) * (u - 9) ≤ 540 := by
      have h1 : (base : Int) * (-9) ≤ base * (u - 9) := Int.mul_le_mul_of_nonneg_left (by omega) (by omega)
      have h2 : (base : Int) * (u - 9) ≤ base * 9 := Int.mul_le_mul_of_nonneg_left (by omega) (by omega)
      omega
    refine ⟨bb.mulOk bu (by omega), line_big (by first | omega | (simp; omega)), ls.eraseIdx k, ss ++ [v + base * (u - 9)], x, z, .sh (.int i), .sh (.int v), ?_, ?_, by rw [List.length_append]; simp; omega, fun e he => hle e (List.mem_of_mem_eraseIdx he), fun e he => ?_, hz0, by omega⟩
    · simp only [encZs, List.map_append, List.map_cons, List.map_nil, erase_map]
    · rw [List.length_eraseIdx_of_lt hk]; omega
    · rcases List.mem_append.mp he with h | h
      · exact hse e h
      · rw [List.mem_singleton.mp h]; omega
  rintro ρ ⟨ls, ss, x, z, e5, e6, rfl, hls, hss, hle, hse, hz0, hzN⟩
  walk_at "sx"
  intro a7
  refine ⟨by omega, fun i ρ => ∃ (qs : List (Int × Int)) (e6 e8 : Sl), ρ = [.own true a (src x y z), .sh (.int base), .sh (encRs rs), .own false a3 (encZs ls), .own false a4 (encZs ss), e5, e6, .own false a7 (encRs qs), e8] ∧ RulesOk base qs, ⟨rs, e6, .no, rfl, hr⟩, fun _ _ _ _ => trivial, ?_, ?_⟩
  · rintro i d ρ hi rfl ⟨qs, e6, e8, rfl, hq⟩
    have hi : i < ss.length := by omega
    obtain ⟨e, he, at1⟩ := atI_wrap hi
    obtain ⟨f, hf⟩ : ∃ f, ss[i]? = some f := ⟨_, List.getElem?_eq_getElem hi⟩
    have at2 := atI_z hf
    have be := hse e he
    have bf := hse f (List.mem_of_getElem? hf)
    have r0 := Int.emod_nonneg e (show (base : Int) ≠ 0 by omega)
    have r1 := Int.emod_lt_of_pos e (show (0 : Int) < base by omega)
    obtain ⟨q, hq0⟩ := Int.eq_ofNat_of_zero_le r0
    have hqb : q < base := by omega
    obtain ⟨p, hp⟩ : ∃ p, rs[q]? = some p := ⟨_, List.getElem?_eq_getElem (by omega)⟩
    have at3 : L2.atI (rs.map encR) (q : Int) = some (encR p) := by
      rw [atI_int (by omega) (by simp; omega), List.getElem_map]
      have := (List.getElem?_eq_some_iff.mp hp).2
      simp only [Int.toNat_natCast, this]
    have ok := hr.ok q p hp
    have ba : Bt 40 p.1 := Bt.small (by have := ok.1.1; omega) (by omega)
    have bb : Bt 40 (base : Int) := Bt.small (by omega) (by omega)
    have b1 : Bt 40 e := Bt.small (by omega) (by omega)
    have b2 : Bt 40 f := Bt.small (by omega) (by omega)
    walk_at "sx"
    refine ⟨_, at1, ?_⟩
    walk_at "sx"
    refine ⟨by omega, ?_⟩
    rw [hq0]
    refine ⟨_, at3, ?_⟩
    walk_at "sx"
    refine ⟨_, at2, ?_⟩
    walk_at "sx"
    refine ⟨bb.mulOk b2 (by omega), _, at3, ?_⟩
    walk_at "sx"
    refine ⟨_, at1, ?_⟩
    walk_at "sx"
    have hql := hq.len
    refine ⟨ba.mulOk b1 (by omega), q, ?_, qs.set q (p.1, base * f - p.1 * e), .sh (.int q), .sh (.int i), ?_, ?_⟩
    · unfold ixN
      rw [if_pos (by omega), if_pos (by simp; omega)]
      rfl
    · simp only [encRs, List.map_set]
    · refine rule_setR hq hqb ⟨ok.1.1, ok.1.2.1, ?_⟩ ok.2.1 ?_
      · have em := Int.emod_add_mul_ediv e base
        rw [hq0] at em
        apply Int.emod_eq_zero_of_dvd
        refine ⟨f - p.1 * (e / base), ?_⟩
        show p.1 * (q : Int) + (base * f - p.1 * e) = _
        have : p.1 * e = p.1 * (q + base * (e / base)) := by rw [em]
        rw [this]; grind
      · exact (((bb.mul b2).mono (show _ ≤ 90 by omega)).sub ((ba.mul b1).mono (by omega))).mono (by omega)
  · rintro ρ ⟨qs, e6, e8, rfl, hq⟩
    walk_at "sx"
    exact hk qs ss x z hq (by omega) hz0 (by omega)
/- law: 0:script 1:source 2:base 3:rules 4:some 5:chart 6:k 7:path 8:entry -/
section
variable {kx : Nat → D → Prop} {K : SK} {ns ss ws : List Int} {c : Addr} {x y z k : Int} {base : Nat} {rs : List (Int × Int)}
end
end K28
end TL

namespace TL
open PySem L2
set_option maxHeartbeats 2000000
local macro_rules | `(tactic| walk_at "sx") => `(tactic| try simp only [sSeq, sNil, sSet, sFrz, frz_o, frz_sh, frz_s, sIf, sRet, sRetN, sPass, sBrk, sPar, sSub, sApp, sExpr, sAsg, sAug, sFld, sRevI, sPop, eLoc, eC, eUn, eBin, eAnd, eOr, eNot, eIf, eTup, eLst, dNil, dCons, tVal_eq, tstD_bl, tAndW, tOrW, tNotW, eFld_eq, eFldD_o, eProp, eMeth, eMeth0, eSl, pNone, pSome, sl_l,
  out_sh, out_fr, get_loc, get_sh, get_fr, getL_z, getL_o, getL_s, bound_z, bound_o, bound_s, isOwn_o, isOwn_s, pok_loc, pok_sh, pok_fr, stl_loc, stlS_sh, stlS_own, stl_sh, stl_fr, lay_fr, lay_sh, lay_loc, envOf, slotsOf, valN, ghOf, endK, resK, exMu, muN, List.cons_append, List.nil_append, List.append_nil, List.length_cons, List.length_nil, Nat.reduceAdd, Nat.reduceSub, List.replicate_succ, List.replicate_zero, List.replicate,
  List.getElem?_cons_zero, List.getElem?_cons_succ, List.getElem?_nil, List.set_cons_zero, List.set_cons_succ,
  add_ii, add_ss, add_ll, sub_ii, mul_ii, fdv_ii, fdvN_ii, mod_ii, modN_ii, pow_ii, lt_ii, le_ii, gt_ii, ge_ii, eq_ii, ne_ii, ix_li, ix_ti, neg_i, abs_i, int_i, int_b, max_ii, min_ii, len_l, len_t, list_l, list_t, rev_l, isi_int, isi_bl, isi_tup, isi_lst, isi_non, isN_i, isN_n, isN_t, isN_l, notN_i, notN_n, notN_t, notN_l, isTy,
  atI0, atI1, atI2, ixN0, ixN1, ixN2, some_inj_ex, isObj, setAt0, setAt1, setAt2, setAt3, restE, keepS, wipeE, ↓reduceIte, if_false, if_true,
  eCall, eCallP, eMake, pm, eTwo, dLit, eOwn2, eLenO, okLen, eMethP, eMakeP, isC_o, eRepL, lr1_i, lr2_i, List.filterMap_cons, List.filterMap_nil, agNil, agRo, agBo, agMu, agTm, callK, boIx, muIx, tms, argsK, upE, reown, hasBo, noTm, flatRo, noLstAll, noLst, noLsts, List.nodup_nil, List.nodup_cons, List.not_mem_nil, not_false_eq_true, Nat.zero_le, Nat.le_refl, Nat.reduceLeDiff, List.mem_cons, or_false, reduceCtorEq,
  gN, gTp, gLs, gCn, gNl, iR1, iR2, iRL, iLst, iTpl, iEnum, stab,
  ite_self, str_i, fmt_i, fmt_s, isB_b, notB_b, any_l, tup_l, sExt, e0_is, t0_is, d0_is, s0_is, i0_is, sTry, hXk_n, hXk_s, sRaise, eCallX, eCallXP, eMethX, eMakeX, ePropX, eOwn2X, callX, roA, opXv_exn, opIsX_exn, List.map_cons, List.map_nil, Nat.lt_irrefl, Nat.zero_lt_one, Nat.reduceLT, Nat.zero_lt_succ, some_inj_ex,
  true_and, and_true, eq_self, List.length_map, decide_true, decide_false, Bool.not_true, Bool.not_false, not_true_eq_false, Bool.true_eq_false, Bool.false_eq_true, false_imp_iff, forall_const, true_imp_iff, and_self, decide_eq_true_eq, decide_eq_false_iff_not, Bool.not_eq_true', Bool.not_eq_false'])
namespace CD
/-! ### falling and standing words -/
/- grown_words: 0:rule_map 1:length 2:rules 3:falling 4:standing 5:whole 6:step 7:longer 8:word 9:product 10:k 11:grown -/
/- falling_words: 0:rule_map 1:most -/
/- _law_fall: 0:rules 1:number 2:most 3:product 4:whole 5:k -/
/- surely_falls: 0:rule_map 1:most 2:falling 3:word -/
end CD
end TL

namespace TL
open PySem L2
set_option maxHeartbeats 2000000
local macro_rules | `(tactic| walk_at "sx") => `(tactic| try simp only [sSeq, sNil, sSet, sFrz, frz_o, frz_sh, frz_s, sIf, sRet, sRetN, sPass, sBrk, sPar, sSub, sApp, sExpr, sAsg, sAug, sFld, sRevI, sPop, eLoc, eC, eUn, eBin, eAnd, eOr, eNot, eIf, eTup, eLst, dNil, dCons, tVal_eq, tstD_bl, tAndW, tOrW, tNotW, eFld_eq, eFldD_o, eProp, eMeth, eMeth0, eSl, pNone, pSome, sl_l,
  out_sh, out_fr, get_loc, get_sh, get_fr, getL_z, getL_o, getL_s, bound_z, bound_o, bound_s, isOwn_o, isOwn_s, pok_loc, pok_sh, pok_fr, stl_loc, stlS_sh, stlS_own, stl_sh, stl_fr, lay_fr, lay_sh, lay_loc, envOf, slotsOf, valN, ghOf, endK, resK, exMu, muN, List.cons_append, List.nil_append, List.append_nil, List.length_cons, List.length_nil, Nat.reduceAdd, Nat.reduceSub, List.replicate_succ, List.replicate_zero, List.replicate,
  List.getElem?_cons_zero, List.getElem?_cons_succ, List.getElem?_nil, List.set_cons_zero, List.set_cons_succ,
  add_ii, add_ss, add_ll, sub_ii, mul_ii, fdv_ii, fdvN_ii, mod_ii, modN_ii, pow_ii, lt_ii, le_ii, gt_ii, ge_ii, eq_ii, ne_ii, ix_li, ix_ti, neg_i, abs_i, int_i, int_b, max_ii, min_ii, len_l, len_t, list_l, list_t, rev_l, isi_int, isi_bl, isi_tup, isi_lst, isi_non, isN_i, isN_n, isN_t, isN_l, notN_i, notN_n, notN_t, notN_l, isTy,
  atI0, atI1, atI2, ixN0, ixN1, ixN2, some_inj_ex, isObj, setAt0, setAt1, setAt2, setAt3, restE, keepS, wipeE, ↓reduceIte, if_false, if_true,
  eCall, eCallP, eMake, pm, eTwo, dLit, eOwn2, eLenO, okLen, eMethP, eMakeP, isC_o, eRepL, lr1_i, lr2_i, List.filterMap_cons, List.filterMap_nil, agNil, agRo, agBo, agMu, agTm, callK, boIx, muIx, tms, argsK, upE, reown, hasBo, noTm, flatRo, noLstAll, noLst, noLsts, List.nodup_nil, List.nodup_cons, List.not_mem_nil, not_false_eq_true, Nat.zero_le, Nat.le_refl, Nat.reduceLeDiff, List.mem_cons, or_false, reduceCtorEq,
  gN, gTp, gLs, gCn, gNl, iR1, iR2, iRL, iLst, iTpl, iEnum, stab,
  ite_self, str_i, fmt_i, fmt_s, isB_b, notB_b, any_l, tup_l, sExt, e0_is, t0_is, d0_is, s0_is, i0_is, sTry, hXk_n, hXk_s, sRaise, eCallX, eCallXP, eMethX, eMakeX, ePropX, eOwn2X, callX, roA, opXv_exn, opIsX_exn, List.map_cons, List.map_nil, Nat.lt_irrefl, Nat.zero_lt_one, Nat.reduceLT, Nat.zero_lt_succ, some_inj_ex,
  true_and, and_true, eq_self, List.length_map, decide_true, decide_false, Bool.not_true, Bool.not_false, not_true_eq_false, Bool.true_eq_false, Bool.false_eq_true, false_imp_iff, forall_const, true_imp_iff, and_self, decide_eq_true_eq, decide_eq_false_iff_not, Bool.not_eq_true', Bool.not_eq_false'])
/- forms_of_length: 0:rule_map 1:length 2:modulus 3:rules 4:forms 5:turn 6:form 7:rule -/
/-! ### the greatest number after n steps -/
/-- x is the first of the best among those with P -/
def Opt (val : Int → Int) (P : Int → Prop) : Option Int → Prop
  | none => ∀ x, ¬ P x
  | some x => P x ∧ ∀ y, P y → val y < val x ∨ (val y = val x ∧ x ≤ y)
theorem Opt.uniq {val : Int → Int} {P Q : Int → Prop} (hPQ : ∀ x, P x ↔ Q x) : ∀ {a b : Option Int}, Opt val P a → Opt val Q b → a = b
  | none, none, _, _ => rfl
  | none, some y, h1, h2 => absurd ((hPQ y).mpr h2.1) (h1 y)
  | some x, none, h1, h2 => absurd ((hPQ x).mp h1.1) (h2 x)
  | some x, some y, h1, h2 => by
    have a := h1.2 y ((hPQ y).mpr h2.1)
    have b := h2.2 x ((hPQ x).mp h1.1)
    congr 1
    omega
namespace K25
/- _law_steps: 0:source 1:base 2:limit 3:most 4:scale 5:turn -/
/- _law_ahead: 0:base 1:rules 2:start 3:count 4:found 5:turn 6:a 7:b -/
/- _law_due: 0:base 1:rules 2:count 3:floor 4:roof 5:best 6:start 7:reached -/
/- greatest_after: 0:rule_map 1:steps 2:low 3:high 4:best 5:form 6:a 7:b 8:scale 9:x 10:number -/
theorem _root_.TL.Opt.add {val : Int → Int} {P : Int → Prop} {x : Int} {b : Option Int} (h : Opt val P b) : Opt val (fun y => P y ∨ y = x) (match b with | none => some x | some y => if val y < val x ∨ (val x = val y ∧ x < y) then some x else some y) := by
  cases b with
  | none =>
    refine ⟨.inr rfl, fun y hy => ?_⟩
    rcases hy with hy | rfl
    · exact absurd hy (h y)
    · exact .inr ⟨rfl, Int.le_refl _⟩
  | some z =>
    obtain ⟨h1, h2⟩ := h
    show Opt val _ (if val z < val x ∨ (val x = val z ∧ x < z) then some x else some z)
    split
    · rename_i hlt
      refine ⟨.inr rfl, fun y hy => ?_⟩
      rcases hy with hy | rfl
      · have := h2 y hy
        omega
      · exact .inr ⟨rfl, Int.le_refl _⟩
    · rename_i hlt
      refine ⟨.inl h1, fun y hy => ?_⟩
      rcases hy with hy | rfl
      · exact h2 y hy
      · omega
end K25
end TL

namespace TL
open PySem L2
set_option maxHeartbeats 2000000
local macro_rules | `(tactic| walk_at "sx") => `(tactic| try simp only [sSeq, sNil, sSet, sFrz, frz_o, frz_sh, frz_s, sIf, sRet, sRetN, sPass, sBrk, sPar, sSub, sApp, sExpr, sAsg, sAug, sFld, sRevI, sPop, eLoc, eC, eUn, eBin, eAnd, eOr, eNot, eIf, eTup, eLst, dNil, dCons, tVal_eq, tstD_bl, tAndW, tOrW, tNotW, eFld_eq, eFldD_o, eProp, eMeth, eMeth0, eSl, pNone, pSome, sl_l,
  out_sh, out_fr, get_loc, get_sh, get_fr, getL_z, getL_o, getL_s, bound_z, bound_o, bound_s, isOwn_o, isOwn_s, pok_loc, pok_sh, pok_fr, stl_loc, stlS_sh, stlS_own, stl_sh, stl_fr, lay_fr, lay_sh, lay_loc, envOf, slotsOf, valN, ghOf, endK, resK, exMu, muN, List.cons_append, List.nil_append, List.append_nil, List.length_cons, List.length_nil, Nat.reduceAdd, Nat.reduceSub, List.replicate_succ, List.replicate_zero, List.replicate,
  List.getElem?_cons_zero, List.getElem?_cons_succ, List.getElem?_nil, List.set_cons_zero, List.set_cons_succ,
  add_ii, add_ss, add_ll, sub_ii, mul_ii, fdv_ii, fdvN_ii, mod_ii, modN_ii, pow_ii, lt_ii, le_ii, gt_ii, ge_ii, eq_ii, ne_ii, ix_li, ix_ti, neg_i, abs_i, int_i, int_b, max_ii, min_ii, len_l, len_t, list_l, list_t, rev_l, isi_int, isi_bl, isi_tup, isi_lst, isi_non, isN_i, isN_n, isN_t, isN_l, notN_i, notN_n, notN_t, notN_l, isTy,
  atI0, atI1, atI2, ixN0, ixN1, ixN2, some_inj_ex, isObj, setAt0, setAt1, setAt2, setAt3, restE, keepS, wipeE, ↓reduceIte, if_false, if_true,
  eCall, eCallP, eMake, pm, eTwo, dLit, eOwn2, eLenO, okLen, eMethP, eMakeP, isC_o, eRepL, lr1_i, lr2_i, List.filterMap_cons, List.filterMap_nil, agNil, agRo, agBo, agMu, agTm, callK, boIx, muIx, tms, argsK, upE, reown, hasBo, noTm, flatRo, noLstAll, noLst, noLsts, List.nodup_nil, List.nodup_cons, List.not_mem_nil, not_false_eq_true, Nat.zero_le, Nat.le_refl, Nat.reduceLeDiff, List.mem_cons, or_false, reduceCtorEq,
  gN, gTp, gLs, gCn, gNl, iR1, iR2, iRL, iLst, iTpl, iEnum, stab,
  ite_self, str_i, fmt_i, fmt_s, isB_b, notB_b, any_l, tup_l, sExt, e0_is, t0_is, d0_is, s0_is, i0_is, sTry, hXk_n, hXk_s, sRaise, eCallX, eCallXP, eMethX, eMakeX, ePropX, eOwn2X, callX, roA, opXv_exn, opIsX_exn, List.map_cons, List.map_nil, Nat.lt_irrefl, Nat.zero_lt_one, Nat.reduceLT, Nat.zero_lt_succ, some_inj_ex,
  true_and, and_true, eq_self, List.length_map, decide_true, decide_false, Bool.not_true, Bool.not_false, not_true_eq_false, Bool.true_eq_false, Bool.false_eq_true, false_imp_iff, forall_const, true_imp_iff, and_self, decide_eq_true_eq, decide_eq_false_iff_not, Bool.not_eq_true', Bool.not_eq_false'])
namespace K25
/- _law_right: 0:source 1:chart 2:base 3:rules 4:count 5:size 6:floor 7:roof 8:due 9:found -/
/- law: 0:script 1:source 2:base 3:rules 4:chart 5:k -/
end K25
end TL

namespace TL
open PySem L2
set_option maxHeartbeats 2000000
local macro_rules | `(tactic| walk_at "sx") => `(tactic| try simp only [sSeq, sNil, sSet, sFrz, frz_o, frz_sh, frz_s, sIf, sRet, sRetN, sPass, sBrk, sPar, sSub, sApp, sExpr, sAsg, sAug, sFld, sRevI, sPop, eLoc, eC, eUn, eBin, eAnd, eOr, eNot, eIf, eTup, eLst, dNil, dCons, tVal_eq, tstD_bl, tAndW, tOrW, tNotW, eFld_eq, eFldD_o, eProp, eMeth, eMeth0, eSl, pNone, pSome, sl_l,
  out_sh, out_fr, get_loc, get_sh, get_fr, getL_z, getL_o, getL_s, bound_z, bound_o, bound_s, isOwn_o, isOwn_s, pok_loc, pok_sh, pok_fr, stl_loc, stlS_sh, stlS_own, stl_sh, stl_fr, lay_fr, lay_sh, lay_loc, envOf, slotsOf, valN, ghOf, endK, resK, exMu, muN, List.cons_append, List.nil_append, List.append_nil, List.length_cons, List.length_nil, Nat.reduceAdd, Nat.reduceSub, List.replicate_succ, List.replicate_zero, List.replicate,
  List.getElem?_cons_zero, List.getElem?_cons_succ, List.getElem?_nil, List.set_cons_zero, List.set_cons_succ,
  add_ii, add_ss, add_ll, sub_ii, mul_ii, fdv_ii, fdvN_ii, mod_ii, modN_ii, pow_ii, lt_ii, le_ii, gt_ii, ge_ii, eq_ii, ne_ii, ix_li, ix_ti, neg_i, abs_i, int_i, int_b, max_ii, min_ii, len_l, len_t, list_l, list_t, rev_l, isi_int, isi_bl, isi_tup, isi_lst, isi_non, isN_i, isN_n, isN_t, isN_l, notN_i, notN_n, notN_t, notN_l, isTy,
  atI0, atI1, atI2, ixN0, ixN1, ixN2, some_inj_ex, isObj, setAt0, setAt1, setAt2, setAt3, restE, keepS, wipeE, ↓reduceIte, if_false, if_true,
  eCall, eCallP, eMake, pm, eTwo, dLit, eOwn2, eLenO, okLen, eMethP, eMakeP, isC_o, eRepL, lr1_i, lr2_i, List.filterMap_cons, List.filterMap_nil, agNil, agRo, agBo, agMu, agTm, callK, boIx, muIx, tms, argsK, upE, reown, hasBo, noTm, flatRo, noLstAll, noLst, noLsts, List.nodup_nil, List.nodup_cons, List.not_mem_nil, not_false_eq_true, Nat.zero_le, Nat.le_refl, Nat.reduceLeDiff, List.mem_cons, or_false, reduceCtorEq,
  gN, gTp, gLs, gCn, gNl, iR1, iR2, iRL, iLst, iTpl, iEnum, stab,
  ite_self, str_i, fmt_i, fmt_s, isB_b, notB_b, any_l, tup_l, sExt, e0_is, t0_is, d0_is, s0_is, i0_is, sTry, hXk_n, hXk_s, sRaise, eCallX, eCallXP, eMethX, eMakeX, ePropX, eOwn2X, callX, roA, opXv_exn, opIsX_exn, List.map_cons, List.map_nil, Nat.lt_irrefl, Nat.zero_lt_one, Nat.reduceLT, Nat.zero_lt_succ, some_inj_ex,
  true_and, and_true, eq_self, List.length_map, decide_true, decide_false, Bool.not_true, Bool.not_false, not_true_eq_false, Bool.true_eq_false, Bool.false_eq_true, false_imp_iff, forall_const, true_imp_iff, and_self, decide_eq_true_eq, decide_eq_false_iff_not, Bool.not_eq_true', Bool.not_eq_false'])
/-! ### fallen parts of classes -/
section
variable {base : Nat} {rs : List (Int × Int)}
end
namespace K24
/- _law_steps: 0:source 1:base 2:limit 3:most 4:scale 5:turn -/
/- _law_ahead: 0:base 1:rules 2:start 3:count 4:found 5:turn 6:a 7:b -/
/- fallen_part: 0:form 1:low 2:high 3:a 4:b 5:scale -/
/- count_fallen: 0:rule_map 1:steps 2:low 3:high 4:total 5:form 6:first 7:last -/
/- _law_due: 0:base 1:rules 2:count 3:floor 4:width 5:due 6:start -/
/- _law_is_count: 0:found 1:due -/
end K24
end TL

namespace TL
open PySem L2
set_option maxHeartbeats 2000000
local macro_rules | `(tactic| walk_at "sx") => `(tactic| try simp only [sSeq, sNil, sSet, sFrz, frz_o, frz_sh, frz_s, sIf, sRet, sRetN, sPass, sBrk, sPar, sSub, sApp, sExpr, sAsg, sAug, sFld, sRevI, sPop, eLoc, eC, eUn, eBin, eAnd, eOr, eNot, eIf, eTup, eLst, dNil, dCons, tVal_eq, tstD_bl, tAndW, tOrW, tNotW, eFld_eq, eFldD_o, eProp, eMeth, eMeth0, eSl, pNone, pSome, sl_l,
  out_sh, out_fr, get_loc, get_sh, get_fr, getL_z, getL_o, getL_s, bound_z, bound_o, bound_s, isOwn_o, isOwn_s, pok_loc, pok_sh, pok_fr, stl_loc, stlS_sh, stlS_own, stl_sh, stl_fr, lay_fr, lay_sh, lay_loc, envOf, slotsOf, valN, ghOf, endK, resK, exMu, muN, List.cons_append, List.nil_append, List.append_nil, List.length_cons, List.length_nil, Nat.reduceAdd, Nat.reduceSub, List.replicate_succ, List.replicate_zero, List.replicate,
  List.getElem?_cons_zero, List.getElem?_cons_succ, List.getElem?_nil, List.set_cons_zero, List.set_cons_succ,
  add_ii, add_ss, add_ll, sub_ii, mul_ii, fdv_ii, fdvN_ii, mod_ii, modN_ii, pow_ii, lt_ii, le_ii, gt_ii, ge_ii, eq_ii, ne_ii, ix_li, ix_ti, neg_i, abs_i, int_i, int_b, max_ii, min_ii, len_l, len_t, list_l, list_t, rev_l, isi_int, isi_bl, isi_tup, isi_lst, isi_non, isN_i, isN_n, isN_t, isN_l, notN_i, notN_n, notN_t, notN_l, isTy,
  atI0, atI1, atI2, ixN0, ixN1, ixN2, some_inj_ex, isObj, setAt0, setAt1, setAt2, setAt3, restE, keepS, wipeE, ↓reduceIte, if_false, if_true,
  eCall, eCallP, eMake, pm, eTwo, dLit, eOwn2, eLenO, okLen, eMethP, eMakeP, isC_o, eRepL, lr1_i, lr2_i, List.filterMap_cons, List.filterMap_nil, agNil, agRo, agBo, agMu, agTm, callK, boIx, muIx, tms, argsK, upE, reown, hasBo, noTm, flatRo, noLstAll, noLst, noLsts, List.nodup_nil, List.nodup_cons, List.not_mem_nil, not_false_eq_true, Nat.zero_le, Nat.le_refl, Nat.reduceLeDiff, List.mem_cons, or_false, reduceCtorEq,
  gN, gTp, gLs, gCn, gNl, iR1, iR2, iRL, iLst, iTpl, iEnum, stab,
  ite_self, str_i, fmt_i, fmt_s, isB_b, notB_b, any_l, tup_l, sExt, e0_is, t0_is, d0_is, s0_is, i0_is, sTry, hXk_n, hXk_s, sRaise, eCallX, eCallXP, eMethX, eMakeX, ePropX, eOwn2X, callX, roA, opXv_exn, opIsX_exn, List.map_cons, List.map_nil, Nat.lt_irrefl, Nat.zero_lt_one, Nat.reduceLT, Nat.zero_lt_succ, some_inj_ex,
  true_and, and_true, eq_self, List.length_map, decide_true, decide_false, Bool.not_true, Bool.not_false, not_true_eq_false, Bool.true_eq_false, Bool.false_eq_true, false_imp_iff, forall_const, true_imp_iff, and_self, decide_eq_true_eq, decide_eq_false_iff_not, Bool.not_eq_true', Bool.not_eq_false'])
namespace K24
def sp_law_rules : FSpec := fun args kr _ => ∃ (x y z far N : Int) (base : Nat), args = [.mu (src x y z), .ro (.int base), .ro (.int far)] ∧ 2 ≤ base ∧ base ≤ 60 ∧ 1 ≤ far ∧ far ≤ 10000000000 ∧ 0 ≤ z ∧ z ≤ N ∧ N ≤ 10000000 ∧
  ∀ rs x' z', RulesOk base rs → (∀ p ∈ rs, Bt 42 p.2) → 0 ≤ z' → z' ≤ N + 200 → kr (.fr (encRs rs)) [src x' y z']
/- _law_rules: 0:source 1:base 2:far 3:limit 4:near 5:rules 6:remainder 7:a 8:more -/
def b_law_rules : SW := (sSeq (sFrz 3 (sSet 3 (eBin opIx (eLst (dLit [(.int 1), (.int 4), (.int 9), (.int 1000)] dNil)) (eCall 2 sp_law_take (agMu 0 (agRo (eC (.int 4)) agNil))))))
  (sSeq (sFrz 4 (sSet 4 (eBin opIx (eLst (dLit [(.int 1), (.int 4)] (dCons (eLoc 2) dNil))) (eCall 2 sp_law_take (agMu 0 (agRo (eC (.int 3)) agNil))))))
  (sSeq (sSet 5 (eLst dNil))
  (sSeq (sFor (iR1 (dCons (eLoc 1) dNil)) (gN 6) (sSeq (sFrz 7 (sSet 7 (eBin opAdd (eC (.int 1)) (eCall 2 sp_law_take (agMu 0 (agRo (eLoc 3) agNil))))))
  (sSeq (sFor (iR1 (dCons (eC (.int 8)) dNil)) (gN 8) (sIf (tVal (eBin opGt (eCall 2 sp_law_gcd (agRo (eLoc 7) (agRo (eLoc 1) agNil))) (eC (.int 1)))) (sFrz 7 (sSet 7 (eBin opSub (eLoc 7) (eC (.int 1))))) sNil))
  (sApp 5 (eTup (dCons (eLoc 7) (dCons (eBin opSub (eBin opMul (eLoc 1) (eBin opAdd (eBin opSub (eCall 2 sp_law_take (agMu 0 (agRo (eBin opSub (eBin opMul (eC (.int 2)) (eLoc 4)) (eC (.int 1))) agNil))) (eLoc 4)) (eC (.int 1)))) (eBin opMul (eLoc 7) (eLoc 6))) dNil)))))))
  (sRet (eLoc 5))))))
theorem sat_law_rules : Sat 9 sp_law_rules b_law_rules := by
  rintro args mus kr kx hm ⟨x, y, z, far, N, base, rfl, hb2, hb6, hf1, hfb, hz0, hzN, hN, hk⟩
  obtain ⟨a, rfl⟩ := mus1 hm
  unfold b_law_rules
  walk_at "sx"
  refine ⟨x, y, z, 4, N, rfl, by omega, by unfold Bt; decide, hz0, hzN, by omega, fun t x z ht0 ht hz0 hzN => ?_⟩
  walk_at "sx"
  obtain ⟨lim, hl1, hl2, el⟩ := list4 ht0 ht
  rw [el]
  refine ⟨_, rfl, ?_⟩
  refine ⟨x, y, z, 3, N + 1, rfl, by omega, by unfold Bt; decide, hz0, hzN, by omega, fun t x z ht0 ht hz0 hzN => ?_⟩
  walk_at "sx"
  obtain ⟨near, hn, en⟩ := list3 (a := 1) (b := 4) (c := far) ht0 ht
  rw [en]
  refine ⟨_, rfl, ?_⟩
  have nb1 : 1 ≤ near ∧ near ≤ 10000000000 := by omega
  have nb : 1 ≤ near ∧ Bt 500 near := by
    rcases hn with rfl | rfl | rfl
    · exact ⟨by omega, by unfold Bt; decide⟩
    · exact ⟨by omega, by unfold Bt; decide⟩
    · exact ⟨hf1, (Bt.small (by omega) (by omega)).mono (by omega)⟩
  intro c
  unfold sFor
  walk_at "sx"
  refine ⟨by omega, fun i ρ => ∃ x z rs e6 e7 e8, ρ = [.own true a (src x y z), .sh (.int base), .sh (.int far), .sh (.int lim), .sh (.int near), .own false c (encRs rs), e6, e7, e8] ∧ 0 ≤ z ∧ z ≤ N + 2 + 2 * i ∧ rs.length = i ∧
    (∀ (j : Nat) (p : Int × Int), rs[j]? = some p → (RuleOk base j p ∧ p.1 ≤ 1000 ∧ Bt 600 p.2) ∧ Bt 42 p.2), ⟨x, z, [], _, _, _, rfl, hz0, by omega, rfl, by simp⟩, fun _ _ _ _ => trivial, ?_, ?_⟩
  · rintro i d ρ hi rfl ⟨x, z, rs, e6, e7, e8, rfl, hz0, hzN, hrl, hrs⟩
    have hi : i < base := by simpa using hi
    walk_at "sx"
    refine ⟨x, y, z, lim, N + 2 + 2 * i, rfl, by omega, Bt.mono (n := 40) (Bt.small (by omega) (by omega)) (by omega), hz0, hzN, by omega, fun t x z ht0 ht hz0 hzN => ?_⟩
    walk_at "sx"
    refine ⟨by omega, fun k ρ => ∃ v e8, ρ = [.own true a (src x y z), .sh (.int base), .sh (.int far), .sh (.int lim), .sh (.int near), .own false c (encRs rs), .sh (.int i), .sh (.int v), e8] ∧ 1 ≤ v ∧ v ≤ 1000 ∧ nearD (base : Int).toNat (rN base v) (8 - k) = true,
      ⟨1 + t, _, rfl, by omega, by omega, near0 (by omega) (by omega)⟩, fun _ _ _ _ => trivial, ?_, ?_⟩
    · rintro k d ρ hk8 rfl ⟨v, e8, rfl, hv1, hv2, hv⟩
      have hk8 : k < 8 := by simpa using hk8
      have e8k : 8 - k = (8 - (k + 1)) + 1 := by omega
      walk_at "sx"
      refine ⟨v, base, rfl, ?_⟩
      walk_at "sx"
      rw [e8k] at hv
      refine ⟨fun h => ?_, fun h => ?_⟩
      · have q := near_turn (by omega) hv1 hv h
        exact ⟨v - 1, _, rfl, q.1, by omega, q.2⟩
      · exact ⟨v, _, rfl, hv1, hv2, near_stay (by omega) h hv1⟩
    · rintro ρ ⟨v, e8, rfl, hv1, hv2, hv⟩
      have hg := near_end (by omega) hv
      have nb2 : MulOk 2 near := mulOk_small (by decide) (nb.2.mono (by omega))
      have bn : Bt 501 (2 * near - 1) := nb.2.le (by omega) |> fun (_ : Bt 500 near) => by
        have h1 := nb.2.add nb.2
        exact h1.le (by omega)
      walk_at "sx"
      refine ⟨⟨_, _, _, rfl⟩, nb2, x, y, z, 2 * near - 1, N + 3 + 2 * i, rfl, by omega, bn.mono (by omega), hz0, by omega, by omega, fun t x z ht0 ht hz0 hzN => ?_⟩
      walk_at "sx"
      have b0 : Bt 40 (base : Int) := Bt.small (by omega) (by omega)
      have b1 : Bt 501 t := bn.le (by omega)
      have b2 : Bt 503 (t - near + 1) := (b1.sub (nb.2.mono (by omega))).add (Bt.mono (n := 40) (Bt.small (by omega) (by omega)) (by omega))
      have b3 : Bt 40 (i : Int) := Bt.small (by omega) (by omega)
      have b4 : Bt 40 v := Bt.small (by omega) (by omega)
      have b5 : Bt 544 ((base : Int) * (t - near + 1) - v * i) := ((b0.mul b2).mono (by omega)).sub ((b4.mul b3).mono (by omega))
      refine ⟨b0.mulOk b2 (by omega), b4.mulOk b3 (by omega), line_big (by first | omega | (simp; omega)), x, z, rs ++ [(v, (base : Int) * (t - near + 1) - v * i)], .sh (.int i), .sh (.int v), e8, by simp only [encRs, List.map_append, List.map_cons, List.map_nil], hz0, by omega, by simp; omega, fun j p hp => ?_⟩
      rcases Nat.lt_or_ge j rs.length with h | h
      · rw [List.getElem?_append_left h] at hp
        exact hrs j p hp
      · rw [List.getElem?_append_right h] at hp
        have e : j - rs.length = 0 := by
          rcases Nat.eq_zero_or_pos (j - rs.length) with h | h
          · exact h
          · rw [List.getElem?_eq_none (by simp only [List.length_cons, List.length_nil]; omega)] at hp; cases hp
        rw [e] at hp
        cases hp
        have : j = i := by omega
        subst this
        have c1 : Bt 35 (t - near + 1) := Bt.of (by omega) (by omega) (by omega)
        have c0 : Bt 6 (base : Int) := Bt.of (by omega) (by omega) (by omega)
        have c3 : Bt 6 (j : Int) := Bt.of (by omega) (by omega) (by omega)
        have c4 : Bt 10 v := Bt.of (by omega) (by omega) (by omega)
        exact ⟨⟨⟨hv1, hg, rule_fit⟩, hv2, b5.mono (by omega)⟩, (((c0.mul c1).mono (show _ ≤ 41 by omega)).sub ((c4.mul c3).mono (by omega))).mono (by omega)⟩
  · rintro ρ ⟨x, z, rs, e6, e7, e8, rfl, hz0, hzN, hrl, hrs⟩
    walk_at "sx"
    have hrl : rs.length = base := by simpa using hrl
    have hz9 : z ≤ N + 2 + 2 * (base : Int) := by simpa using hzN
    exact hk rs x z ⟨hrl, fun i p h => (hrs i p h).1⟩ (fun p hp => by
      obtain ⟨j, hj⟩ := List.getElem?_of_mem hp
      exact (hrs j p hj).2) hz0 (by omega)
/- _law_right: 0:source 1:chart 2:base 3:rules 4:count 5:size 6:floor 7:width 8:due 9:scale 10:times 11:far -/
theorem e6 : (10 : Int) ^ (Int.toNat 6) = 1000000 := by decide
/- law: 0:script 1:source 2:base 3:rules 4:chart 5:k -/
def sp_law : FSpec := fun args kr _ => ∃ ns : List Int, args = [.ro (encZs ns)] ∧ (∀ n ∈ ns, Bt 2000000 n) ∧ ns.length ≤ 1000 ∧ kr (.sh (.bl true)) []
end K24
end TL

namespace TL
open PySem L2
set_option maxHeartbeats 2000000
local macro_rules | `(tactic| walk_at "sx") => `(tactic| try simp only [sSeq, sNil, sSet, sFrz, frz_o, frz_sh, frz_s, sIf, sRet, sRetN, sPass, sBrk, sPar, sSub, sApp, sExpr, sAsg, sAug, sFld, sRevI, sPop, eLoc, eC, eUn, eBin, eAnd, eOr, eNot, eIf, eTup, eLst, dNil, dCons, tVal_eq, tstD_bl, tAndW, tOrW, tNotW, eFld_eq, eFldD_o, eProp, eMeth, eMeth0, eSl, pNone, pSome, sl_l,
  out_sh, out_fr, get_loc, get_sh, get_fr, getL_z, getL_o, getL_s, bound_z, bound_o, bound_s, isOwn_o, isOwn_s, pok_loc, pok_sh, pok_fr, stl_loc, stlS_sh, stlS_own, stl_sh, stl_fr, lay_fr, lay_sh, lay_loc, envOf, slotsOf, valN, ghOf, endK, resK, exMu, muN, List.cons_append, List.nil_append, List.append_nil, List.length_cons, List.length_nil, Nat.reduceAdd, Nat.reduceSub, List.replicate_succ, List.replicate_zero, List.replicate,
  List.getElem?_cons_zero, List.getElem?_cons_succ, List.getElem?_nil, List.set_cons_zero, List.set_cons_succ,
  add_ii, add_ss, add_ll, sub_ii, mul_ii, fdv_ii, fdvN_ii, mod_ii, modN_ii, pow_ii, lt_ii, le_ii, gt_ii, ge_ii, eq_ii, ne_ii, ix_li, ix_ti, neg_i, abs_i, int_i, int_b, max_ii, min_ii, len_l, len_t, list_l, list_t, rev_l, isi_int, isi_bl, isi_tup, isi_lst, isi_non, isN_i, isN_n, isN_t, isN_l, notN_i, notN_n, notN_t, notN_l, isTy,
  atI0, atI1, atI2, ixN0, ixN1, ixN2, some_inj_ex, isObj, setAt0, setAt1, setAt2, setAt3, restE, keepS, wipeE, ↓reduceIte, if_false, if_true,
  eCall, eCallP, eMake, pm, eTwo, dLit, eOwn2, eLenO, okLen, eMethP, eMakeP, isC_o, eRepL, lr1_i, lr2_i, List.filterMap_cons, List.filterMap_nil, agNil, agRo, agBo, agMu, agTm, callK, boIx, muIx, tms, argsK, upE, reown, hasBo, noTm, flatRo, noLstAll, noLst, noLsts, List.nodup_nil, List.nodup_cons, List.not_mem_nil, not_false_eq_true, Nat.zero_le, Nat.le_refl, Nat.reduceLeDiff, List.mem_cons, or_false, reduceCtorEq,
  gN, gTp, gLs, gCn, gNl, iR1, iR2, iRL, iLst, iTpl, iEnum, stab,
  ite_self, str_i, fmt_i, fmt_s, isB_b, notB_b, any_l, tup_l, sExt, e0_is, t0_is, d0_is, s0_is, i0_is, sTry, hXk_n, hXk_s, sRaise, eCallX, eCallXP, eMethX, eMakeX, ePropX, eOwn2X, callX, roA, opXv_exn, opIsX_exn, List.map_cons, List.map_nil, Nat.lt_irrefl, Nat.zero_lt_one, Nat.reduceLT, Nat.zero_lt_succ, some_inj_ex,
  true_and, and_true, eq_self, List.length_map, decide_true, decide_false, Bool.not_true, Bool.not_false, not_true_eq_false, Bool.true_eq_false, Bool.false_eq_true, false_imp_iff, forall_const, true_imp_iff, and_self, decide_eq_true_eq, decide_eq_false_iff_not, Bool.not_eq_true', Bool.not_eq_false'])
/-! ### first falls -/
/-- x falls for the first time at the step t + 1 -/
def FirstAt (rs : List (Int × Int)) (t : Nat) (x : Int) : Prop := zWalk rs x (t + 1) < x ∧ ∀ j, j < t → ¬ zWalk rs x (j + 1) < x
instance (rs : List (Int × Int)) (t : Nat) (x : Int) : Decidable (FirstAt rs t x) := by unfold FirstAt; exact inferInstance
def Inv (rs : List (Int × Int)) (lo hi : Int) (t : Nat) (q : List Int × (Int × Int)) : Prop := lo ≤ q.2.1 ∧ q.2.2 ≤ hi ∧ ∀ x, zWord rs x q.1.length = q.1 → ((q.2.1 ≤ x ∧ x ≤ q.2.2) ↔ (lo ≤ x ∧ x ≤ hi ∧ ∀ j, j < t → ¬ zWalk rs x (j + 1) < x))
section
variable {base : Nat} {rs : List (Int × Int)}
end
end TL

namespace TL
open PySem L2
set_option maxHeartbeats 2000000
local macro_rules | `(tactic| walk_at "sx") => `(tactic| try simp only [sSeq, sNil, sSet, sFrz, frz_o, frz_sh, frz_s, sIf, sRet, sRetN, sPass, sBrk, sPar, sSub, sApp, sExpr, sAsg, sAug, sFld, sRevI, sPop, eLoc, eC, eUn, eBin, eAnd, eOr, eNot, eIf, eTup, eLst, dNil, dCons, tVal_eq, tstD_bl, tAndW, tOrW, tNotW, eFld_eq, eFldD_o, eProp, eMeth, eMeth0, eSl, pNone, pSome, sl_l,
  out_sh, out_fr, get_loc, get_sh, get_fr, getL_z, getL_o, getL_s, bound_z, bound_o, bound_s, isOwn_o, isOwn_s, pok_loc, pok_sh, pok_fr, stl_loc, stlS_sh, stlS_own, stl_sh, stl_fr, lay_fr, lay_sh, lay_loc, envOf, slotsOf, valN, ghOf, endK, resK, exMu, muN, List.cons_append, List.nil_append, List.append_nil, List.length_cons, List.length_nil, Nat.reduceAdd, Nat.reduceSub, List.replicate_succ, List.replicate_zero, List.replicate,
  List.getElem?_cons_zero, List.getElem?_cons_succ, List.getElem?_nil, List.set_cons_zero, List.set_cons_succ,
  add_ii, add_ss, add_ll, sub_ii, mul_ii, fdv_ii, fdvN_ii, mod_ii, modN_ii, pow_ii, lt_ii, le_ii, gt_ii, ge_ii, eq_ii, ne_ii, ix_li, ix_ti, neg_i, abs_i, int_i, int_b, max_ii, min_ii, len_l, len_t, list_l, list_t, rev_l, isi_int, isi_bl, isi_tup, isi_lst, isi_non, isN_i, isN_n, isN_t, isN_l, notN_i, notN_n, notN_t, notN_l, isTy,
  atI0, atI1, atI2, ixN0, ixN1, ixN2, some_inj_ex, isObj, setAt0, setAt1, setAt2, setAt3, restE, keepS, wipeE, ↓reduceIte, if_false, if_true,
  eCall, eCallP, eMake, pm, eTwo, dLit, eOwn2, eLenO, okLen, eMethP, eMakeP, isC_o, eRepL, lr1_i, lr2_i, List.filterMap_cons, List.filterMap_nil, agNil, agRo, agBo, agMu, agTm, callK, boIx, muIx, tms, argsK, upE, reown, hasBo, noTm, flatRo, noLstAll, noLst, noLsts, List.nodup_nil, List.nodup_cons, List.not_mem_nil, not_false_eq_true, Nat.zero_le, Nat.le_refl, Nat.reduceLeDiff, List.mem_cons, or_false, reduceCtorEq,
  gN, gTp, gLs, gCn, gNl, iR1, iR2, iRL, iLst, iTpl, iEnum, stab,
  ite_self, str_i, fmt_i, fmt_s, isB_b, notB_b, any_l, tup_l, sExt, e0_is, t0_is, d0_is, s0_is, i0_is, sTry, hXk_n, hXk_s, sRaise, eCallX, eCallXP, eMethX, eMakeX, ePropX, eOwn2X, callX, roA, opXv_exn, opIsX_exn, List.map_cons, List.map_nil, Nat.lt_irrefl, Nat.zero_lt_one, Nat.reduceLT, Nat.zero_lt_succ, some_inj_ex,
  true_and, and_true, eq_self, List.length_map, decide_true, decide_false, Bool.not_true, Bool.not_false, not_true_eq_false, Bool.true_eq_false, Bool.false_eq_true, false_imp_iff, forall_const, true_imp_iff, and_self, decide_eq_true_eq, decide_eq_false_iff_not, Bool.not_eq_true', Bool.not_eq_false'])
namespace K26
/- _law_steps: 0:source 1:base 2:limit 3:most 4:scale 5:turn -/
/- _law_ahead: 0:base 1:rules 2:start 3:count 4:found 5:turn 6:a 7:b -/
/- fallen_part: 0:form 1:low 2:high 3:a 4:b 5:scale -/
/- _law_rules: 0:source 1:base 2:far 3:limit 4:near 5:rules 6:remainder 7:a 8:more -/
/- first_falls: 0:rule_map 1:most 2:low 3:high 4:modulus 5:rules 6:counts 7:stretches 8:turn 9:total 10:later 11:form 12:first 13:last 14:rule 15:longer 16:left 17:right -/
/- _law_is_word: 0:value 1:many 2:entry -/
/- _law_is_told: 0:found 1:due -/
/- _law_due: 0:base 1:rules 2:count 3:floor 4:width 5:due 6:start 7:places 8:lesser 9:k -/
end K26
end TL

namespace TL
open PySem L2
set_option maxHeartbeats 2000000
local macro_rules | `(tactic| walk_at "sx") => `(tactic| try simp only [sSeq, sNil, sSet, sFrz, frz_o, frz_sh, frz_s, sIf, sRet, sRetN, sPass, sBrk, sPar, sSub, sApp, sExpr, sAsg, sAug, sFld, sRevI, sPop, eLoc, eC, eUn, eBin, eAnd, eOr, eNot, eIf, eTup, eLst, dNil, dCons, tVal_eq, tstD_bl, tAndW, tOrW, tNotW, eFld_eq, eFldD_o, eProp, eMeth, eMeth0, eSl, pNone, pSome, sl_l,
  out_sh, out_fr, get_loc, get_sh, get_fr, getL_z, getL_o, getL_s, bound_z, bound_o, bound_s, isOwn_o, isOwn_s, pok_loc, pok_sh, pok_fr, stl_loc, stlS_sh, stlS_own, stl_sh, stl_fr, lay_fr, lay_sh, lay_loc, envOf, slotsOf, valN, ghOf, endK, resK, exMu, muN, List.cons_append, List.nil_append, List.append_nil, List.length_cons, List.length_nil, Nat.reduceAdd, Nat.reduceSub, List.replicate_succ, List.replicate_zero, List.replicate,
  List.getElem?_cons_zero, List.getElem?_cons_succ, List.getElem?_nil, List.set_cons_zero, List.set_cons_succ,
  add_ii, add_ss, add_ll, sub_ii, mul_ii, fdv_ii, fdvN_ii, mod_ii, modN_ii, pow_ii, lt_ii, le_ii, gt_ii, ge_ii, eq_ii, ne_ii, ix_li, ix_ti, neg_i, abs_i, int_i, int_b, max_ii, min_ii, len_l, len_t, list_l, list_t, rev_l, isi_int, isi_bl, isi_tup, isi_lst, isi_non, isN_i, isN_n, isN_t, isN_l, notN_i, notN_n, notN_t, notN_l, isTy,
  atI0, atI1, atI2, ixN0, ixN1, ixN2, some_inj_ex, isObj, setAt0, setAt1, setAt2, setAt3, restE, keepS, wipeE, ↓reduceIte, if_false, if_true,
  eCall, eCallP, eMake, pm, eTwo, dLit, eOwn2, eLenO, okLen, eMethP, eMakeP, isC_o, eRepL, lr1_i, lr2_i, List.filterMap_cons, List.filterMap_nil, agNil, agRo, agBo, agMu, agTm, callK, boIx, muIx, tms, argsK, upE, reown, hasBo, noTm, flatRo, noLstAll, noLst, noLsts, List.nodup_nil, List.nodup_cons, List.not_mem_nil, not_false_eq_true, Nat.zero_le, Nat.le_refl, Nat.reduceLeDiff, List.mem_cons, or_false, reduceCtorEq,
  gN, gTp, gLs, gCn, gNl, iR1, iR2, iRL, iLst, iTpl, iEnum, stab,
  ite_self, str_i, fmt_i, fmt_s, isB_b, notB_b, any_l, tup_l, sExt, e0_is, t0_is, d0_is, s0_is, i0_is, sTry, hXk_n, hXk_s, sRaise, eCallX, eCallXP, eMethX, eMakeX, ePropX, eOwn2X, callX, roA, opXv_exn, opIsX_exn, List.map_cons, List.map_nil, Nat.lt_irrefl, Nat.zero_lt_one, Nat.reduceLT, Nat.zero_lt_succ, some_inj_ex,
  true_and, and_true, eq_self, List.length_map, decide_true, decide_false, Bool.not_true, Bool.not_false, not_true_eq_false, Bool.true_eq_false, Bool.false_eq_true, false_imp_iff, forall_const, true_imp_iff, and_self, decide_eq_true_eq, decide_eq_false_iff_not, Bool.not_eq_true', Bool.not_eq_false'])
namespace CD
end CD
end TL

namespace TL
open PySem L2
set_option maxHeartbeats 2000000
local macro_rules | `(tactic| walk_at "sx") => `(tactic| try simp only [sSeq, sNil, eDisp1, eDNew, eDGet, eDGet2, sDSet, eTake, isDc, sSet, sFrz, frz_o, frz_sh, frz_s, sIf, sRet, sRetN, sPass, sBrk, sPar, sSub, sApp, sExpr, sAsg, sAug, sFld, sRevI, sPop, eLoc, eC, eUn, eBin, eAnd, eOr, eNot, eIf, eTup, eLst, dNil, dCons, tVal_eq, tstD_bl, tAndW, tOrW, tNotW, eFld_eq, eFldD_o, eProp, eMeth, eMeth0, eSl, pNone, pSome, sl_l,
  out_sh, out_fr, get_loc, get_sh, get_fr, getL_z, getL_o, getL_s, bound_z, bound_o, bound_s, isOwn_o, isOwn_s, pok_loc, pok_sh, pok_fr, stl_loc, stlS_sh, stlS_own, stl_sh, stl_fr, lay_fr, lay_sh, lay_loc, envOf, slotsOf, valN, ghOf, endK, resK, exMu, muN, List.cons_append, List.nil_append, List.append_nil, List.length_cons, List.length_nil, Nat.reduceAdd, Nat.reduceSub, List.replicate_succ, List.replicate_zero, List.replicate,
  List.getElem?_cons_zero, List.getElem?_cons_succ, List.getElem?_nil, List.set_cons_zero, List.set_cons_succ,
  add_ii, add_ss, add_ll, sub_ii, mul_ii, fdv_ii, fdvN_ii, mod_ii, modN_ii, pow_ii, lt_ii, le_ii, gt_ii, ge_ii, eq_ii, ne_ii, ix_li, ix_ti, neg_i, abs_i, int_i, int_b, max_ii, min_ii, len_l, len_t, list_l, list_t, rev_l, isi_int, isi_bl, isi_tup, isi_lst, isi_non, isN_i, isN_n, isN_t, isN_l, notN_i, notN_n, notN_t, notN_l, isTy,
  atI0, atI1, atI2, ixN0, ixN1, ixN2, some_inj_ex, isObj, setAt0, setAt1, setAt2, setAt3, restE, keepS, wipeE, ↓reduceIte, if_false, if_true,
  eCall, eCallP, eMake, pm, eTwo, dLit, eOwn2, eLenO, okLen, eMethP, eMakeP, isC_o, eRepL, lr1_i, lr2_i, List.filterMap_cons, List.filterMap_nil, agNil, agRo, agBo, agMu, agTm, callK, boIx, muIx, tms, argsK, upE, reown, hasBo, noTm, flatRo, noLstAll, noLst, noLsts, List.nodup_nil, List.nodup_cons, List.not_mem_nil, not_false_eq_true, Nat.zero_le, Nat.le_refl, Nat.reduceLeDiff, List.mem_cons, or_false, reduceCtorEq,
  gN, gTp, gLs, gCn, gNl, iR1, iR2, iRL, iLst, iTpl, iEnum, stab,
  ite_self, str_i, fmt_i, fmt_s, isB_b, notB_b, any_l, tup_l, sExt, e0_is, t0_is, d0_is, s0_is, i0_is, sTry, hXk_n, hXk_s, sRaise, eCallX, eCallXP, eMethX, eMakeX, ePropX, eOwn2X, callX, roA, opXv_exn, opIsX_exn, List.map_cons, List.map_nil, Nat.lt_irrefl, Nat.zero_lt_one, Nat.reduceLT, Nat.zero_lt_succ, some_inj_ex,
  true_and, and_true, eq_self, List.length_map, decide_true, decide_false, Bool.not_true, Bool.not_false, not_true_eq_false, Bool.true_eq_false, Bool.false_eq_true, false_imp_iff, forall_const, true_imp_iff, and_self, decide_eq_true_eq, decide_eq_false_iff_not, Bool.not_eq_true', Bool.not_eq_false'])
namespace CD
end CD
end TL

namespace TL
open PySem L2
set_option maxHeartbeats 2000000
local macro_rules | `(tactic| walk_at "sx") => `(tactic| try simp only [sSeq, sNil, eDisp1, eDNew, eDGet, eDGet2, sDSet, eTake, isDc, sSet, sFrz, frz_o, frz_sh, frz_s, sIf, sRet, sRetN, sPass, sBrk, sPar, sSub, sApp, sExpr, sAsg, sAug, sFld, sRevI, sPop, eLoc, eC, eUn, eBin, eAnd, eOr, eNot, eIf, eTup, eLst, dNil, dCons, tVal_eq, tstD_bl, tAndW, tOrW, tNotW, eFld_eq, eFldD_o, eProp, eMeth, eMeth0, eSl, pNone, pSome, sl_l,
  out_sh, out_fr, get_loc, get_sh, get_fr, getL_z, getL_o, getL_s, bound_z, bound_o, bound_s, isOwn_o, isOwn_s, pok_loc, pok_sh, pok_fr, stl_loc, stlS_sh, stlS_own, stl_sh, stl_fr, lay_fr, lay_sh, lay_loc, envOf, slotsOf, valN, ghOf, endK, resK, exMu, muN, List.cons_append, List.nil_append, List.append_nil, List.length_cons, List.length_nil, Nat.reduceAdd, Nat.reduceSub, List.replicate_succ, List.replicate_zero, List.replicate,
  List.getElem?_cons_zero, List.getElem?_cons_succ, List.getElem?_nil, List.set_cons_zero, List.set_cons_succ,
  add_ii, add_ss, add_ll, sub_ii, mul_ii, fdv_ii, fdvN_ii, mod_ii, modN_ii, pow_ii, lt_ii, le_ii, gt_ii, ge_ii, eq_ii, ne_ii, ix_li, ix_ti, neg_i, abs_i, int_i, int_b, max_ii, min_ii, len_l, len_t, list_l, list_t, rev_l, isi_int, isi_bl, isi_tup, isi_lst, isi_non, isN_i, isN_n, isN_t, isN_l, notN_i, notN_n, notN_t, notN_l, isTy,
  atI0, atI1, atI2, ixN0, ixN1, ixN2, some_inj_ex, isObj, setAt0, setAt1, setAt2, setAt3, restE, keepS, wipeE, ↓reduceIte, if_false, if_true,
  eCall, eCallP, eMake, pm, eTwo, dLit, eOwn2, eLenO, okLen, eMethP, eMakeP, isC_o, eRepL, lr1_i, lr2_i, List.filterMap_cons, List.filterMap_nil, agNil, agRo, agBo, agMu, agTm, callK, boIx, muIx, tms, argsK, upE, reown, hasBo, noTm, flatRo, noLstAll, noLst, noLsts, List.nodup_nil, List.nodup_cons, List.not_mem_nil, not_false_eq_true, Nat.zero_le, Nat.le_refl, Nat.reduceLeDiff, List.mem_cons, or_false, reduceCtorEq,
  gN, gTp, gLs, gCn, gNl, iR1, iR2, iRL, iLst, iTpl, iEnum, stab,
  ite_self, str_i, fmt_i, fmt_s, isB_b, notB_b, any_l, tup_l, sExt, e0_is, t0_is, d0_is, s0_is, i0_is, sTry, hXk_n, hXk_s, sRaise, eCallX, eCallXP, eMethX, eMakeX, ePropX, eOwn2X, callX, roA, opXv_exn, opIsX_exn, List.map_cons, List.map_nil, Nat.lt_irrefl, Nat.zero_lt_one, Nat.reduceLT, Nat.zero_lt_succ, some_inj_ex,
  true_and, and_true, eq_self, List.length_map, decide_true, decide_false, Bool.not_true, Bool.not_false, not_true_eq_false, Bool.true_eq_false, Bool.false_eq_true, false_imp_iff, forall_const, true_imp_iff, and_self, decide_eq_true_eq, decide_eq_false_iff_not, Bool.not_eq_true', Bool.not_eq_false'])
namespace CD
end CD
namespace CD
namespace K39
section
variable {base : Nat} {rs : List (Int × Int)}
/- standing_classes: 0:rule_map 1:length 2:word -/
/- _law_comes_lower: 0:rules 1:number 2:length 3:at 4:k -/
/- _law_right: 0:cards 1:modulus 2:rules 3:length 4:whole 5:far 6:due 7:built 8:turn 9:found 10:number -/
/- law: 0:script 1:k -/
end
end K39
end CD
end TL

namespace TL
open PySem L2
set_option maxHeartbeats 2000000
local macro_rules | `(tactic| walk_at "sx") => `(tactic| try simp only [sSeq, sNil, eDisp1, eDispN, eDIn, eDNotIn, eDSetd, eDNew, eDGet, eDGet2, sDSet, eTake, isDc, sSet, sFrz, frz_o, frz_sh, frz_s, sIf, sRet, sRetN, sPass, sBrk, sPar, sSub, sApp, sExpr, sAsg, sAug, sFld, sRevI, sPop, eLoc, eC, eUn, eBin, eAnd, eOr, eNot, eIf, eTup, eLst, dNil, dCons, tVal_eq, tstD_bl, tAndW, tOrW, tNotW, eFld_eq, eFldD_o, eProp, eMeth, eMeth0, eSl, pNone, pSome, sl_l,
  out_sh, out_fr, get_loc, get_sh, get_fr, getL_z, getL_o, getL_s, bound_z, bound_o, bound_s, isOwn_o, isOwn_s, pok_loc, pok_sh, pok_fr, stl_loc, stlS_sh, stlS_own, stl_sh, stl_fr, lay_fr, lay_sh, lay_loc, envOf, slotsOf, valN, ghOf, endK, resK, exMu, muN, List.cons_append, List.nil_append, List.append_nil, List.length_cons, List.length_nil, Nat.reduceAdd, Nat.reduceSub, List.replicate_succ, List.replicate_zero, List.replicate,
  List.getElem?_cons_zero, List.getElem?_cons_succ, List.getElem?_nil, List.set_cons_zero, List.set_cons_succ,
  add_ii, add_ss, add_ll, sub_ii, mul_ii, fdv_ii, fdvN_ii, mod_ii, modN_ii, pow_ii, lt_ii, le_ii, gt_ii, ge_ii, eq_ii, ne_ii, ix_li, ix_ti, neg_i, abs_i, int_i, int_b, max_ii, min_ii, len_l, len_t, list_l, list_t, rev_l, isi_int, isi_bl, isi_tup, isi_lst, isi_non, isN_i, isN_n, isN_t, isN_l, notN_i, notN_n, notN_t, notN_l, isTy,
  atI0, atI1, atI2, ixN0, ixN1, ixN2, some_inj_ex, isObj, setAt0, setAt1, setAt2, setAt3, restE, keepS, wipeE, ↓reduceIte, if_false, if_true,
  eCall, eCallP, eMake, pm, eTwo, dLit, eOwn2, eLenO, okLen, eMethP, eMakeP, isC_o, eRepL, lr1_i, lr2_i, List.filterMap_cons, List.filterMap_nil, agNil, agRo, agBo, agMu, agTm, callK, boIx, muIx, tms, argsK, upE, reown, hasBo, noTm, flatRo, noLstAll, noLst, noLsts, List.nodup_nil, List.nodup_cons, List.not_mem_nil, not_false_eq_true, Nat.zero_le, Nat.le_refl, Nat.reduceLeDiff, List.mem_cons, or_false, reduceCtorEq,
  gN, gTp, gLs, gCn, gNl, iR1, iR2, iRL, iLst, iTpl, iEnum, stab,
  ite_self, str_i, fmt_i, fmt_s, isB_b, notB_b, any_l, tup_l, sExt, e0_is, t0_is, d0_is, s0_is, i0_is, sTry, hXk_n, hXk_s, sRaise, eCallX, eCallXP, eMethX, eMakeX, ePropX, eOwn2X, callX, roA, opXv_exn, opIsX_exn, List.map_cons, List.map_nil, Nat.lt_irrefl, Nat.zero_lt_one, Nat.reduceLT, Nat.zero_lt_succ, some_inj_ex,
  Option.isSome_some, Option.isSome_none, true_and, and_true, eq_self, List.length_map, decide_true, decide_false, Bool.not_true, Bool.not_false, not_true_eq_false, Bool.true_eq_false, Bool.false_eq_true, false_imp_iff, forall_const, true_imp_iff, and_self, decide_eq_true_eq, decide_eq_false_iff_not, Bool.not_eq_true', Bool.not_eq_false'])
/-! ### places as keys of a dict -/
def idxQ (q : Int × Int) : List (Int × Int) → Nat → Option Nat
  | [], _ => none
  | p :: r, o => if p = q then some o else idxQ q r (o + 1)
theorem idxQ_some {q : Int × Int} : ∀ {L : List (Int × Int)} {o j : Nat}, idxQ q L o = some j → o ≤ j ∧ L[j - o]? = some q
  | [], _, _, h => by simp [idxQ] at h
  | p :: r, o, j, h => by
    unfold idxQ at h
    split at h
    · rename_i e
      cases h
      exact ⟨Nat.le_refl _, by rw [Nat.sub_self]; simp [e]⟩
    · obtain ⟨h1, h2⟩ := idxQ_some h
      refine ⟨by omega, ?_⟩
      rw [show j - o = (j - (o + 1)) + 1 by omega]
      simpa using h2
theorem idxQ_none {q : Int × Int} : ∀ {L : List (Int × Int)} {o : Nat}, idxQ q L o = none → q ∉ L
  | [], _, _ => by simp
  | p :: r, o, h => by
    unfold idxQ at h
    split at h
    · cases h
    · rename_i e
      have := idxQ_none h
      rw [List.mem_cons]
      rintro (z | z)
      · exact e z.symm
      · exact this z
theorem putKD_new {q : Int × Int} : ∀ {L : List (Int × Int)}, q ∉ L → putKD (L.map encR) (encR q) = (L ++ [q]).map encR
  | [], _ => rfl
  | p :: r, h => by
    rw [List.mem_cons] at h
    show (if eqD (encR p) (encR q) = true then _ else encR p :: putKD (r.map encR) (encR q)) = _
    rw [eqD_encR, if_neg (by simp; exact fun z => h (.inl z.symm)), putKD_new fun z => h (.inr z)]
    rfl
theorem putVD_new {q : Int × Int} {v : D} : ∀ {L : List (Int × Int)} {ds : List D}, q ∉ L → ds.length = L.length → putVD (L.map encR) ds (encR q) v = ds ++ [v]
  | [], [], _, _ => rfl
  | p :: r, d :: ds, h, e => by
    rw [List.mem_cons] at h
    show (if eqD (encR p) (encR q) = true then _ else d :: putVD (r.map encR) ds (encR q) v) = _
    rw [eqD_encR, if_neg (by simp; exact fun z => h (.inl z.symm)), putVD_new (fun z => h (.inr z)) (by simpa using e)]
    rfl
  | [], _ :: _, _, e => by simp at e
  | _ :: _, [], _, e => by simp at e
theorem key_encR (q : Int × Int) : KeyD true (encR q) := ⟨[.inl q.1, .inl q.2], rfl⟩
/-! ### the first place that comes again -/
def comesF (rs : List (Int × Int)) (p : Int × Int) : Nat → Option (Nat × Nat)
  | 0 => none
  | n + 1 => match comesF rs p n with
    | some r => some r
    | none => (idxQ (walkF rs (n + 1) p) (trk rs p (n + 1)) 0).map fun j => (j, n + 1 - j)
theorem comesF_stay {rs : List (Int × Int)} {p : Int × Int} {n : Nat} {r : Nat × Nat} (h : comesF rs p n = some r) : ∀ m, n ≤ m → comesF rs p m = some r
  | 0, hm => by obtain rfl : n = 0 := by omega
                exact h
  | m + 1, hm => by
    rcases Nat.lt_or_eq_of_le hm with h1 | h1
    · have := comesF_stay h m (by omega)
      show (match comesF rs p m with | some r => some r | none => _) = _
      rw [this]
    · subst h1; exact h
theorem comesF_none {rs : List (Int × Int)} {p : Int × Int} {n : Nat} (h : comesF rs p n = none) (m : Nat) (hm : m ≤ n) : comesF rs p m = none := by
  cases e : comesF rs p m with
  | none => rfl
  | some r => rw [comesF_stay e n hm] at h; cases h
theorem comesF_at {rs : List (Int × Int)} {p : Int × Int} : ∀ {n : Nat} {r : Nat × Nat}, comesF rs p n = some r → 1 ≤ r.2 ∧ r.1 + r.2 ≤ n ∧ comesF rs p (r.1 + r.2) = some r ∧ comesF rs p (r.1 + r.2 - 1) = none ∧ walkF rs r.1 p = walkF rs (r.1 + r.2) p
  | 0, r, h => by cases h
  | n + 1, r, h => by
    have h0 := h
    unfold comesF at h
    split at h
    · rename_i r' e
      cases h
      obtain ⟨a, b, c, d, f⟩ := comesF_at e
      exact ⟨a, by omega, c, d, f⟩
    · rename_i e
      cases hi : idxQ (walkF rs (n + 1) p) (trk rs p (n + 1)) 0 with
      | none => rw [hi] at h; cases h
      | some j =>
        rw [hi] at h
        cases h
        obtain ⟨_, h2⟩ := idxQ_some hi
        rw [Nat.sub_zero] at h2
        have hj : j < n + 1 := by
          have := (List.getElem?_eq_some_iff.mp h2).1
          simpa [trk] using this
        unfold trk at h2
        rw [List.getElem?_map, List.getElem?_range hj] at h2
        have e2 : j + (n + 1 - j) = n + 1 := by omega
        refine ⟨by show 1 ≤ n + 1 - j; omega, by show j + (n + 1 - j) ≤ n + 1; omega, ?_, ?_, ?_⟩
        · show comesF rs p (j + (n + 1 - j)) = _
          rw [e2]; exact h0
        · show comesF rs p (j + (n + 1 - j) - 1) = _
          rw [e2]; exact e
        · show walkF rs j p = walkF rs (j + (n + 1 - j)) p
          rw [e2]
          exact Option.some.inj h2
/- comes_round: 0:rule_map 1:number 2:most 3:modulus 4:rules 5:visits 6:at -/
end TL

namespace TL
open PySem L2
set_option maxHeartbeats 2000000
local macro_rules | `(tactic| walk_at "sx") => `(tactic| try simp only [sSeq, sNil, eDisp1, eDispN, eDIn, eDNotIn, eDSetd, eDNew, eDGet, eDGet2, sDSet, eTake, isDc, sSet, sFrz, frz_o, frz_sh, frz_s, sIf, sRet, sRetN, sPass, sBrk, sPar, sSub, sApp, sExpr, sAsg, sAug, sFld, sRevI, sPop, eLoc, eC, eUn, eBin, eAnd, eOr, eNot, eIf, eTup, eLst, dNil, dCons, tVal_eq, tstD_bl, tAndW, tOrW, tNotW, eFld_eq, eFldD_o, eProp, eMeth, eMeth0, eSl, pNone, pSome, sl_l,
  out_sh, out_fr, get_loc, get_sh, get_fr, getL_z, getL_o, getL_s, bound_z, bound_o, bound_s, isOwn_o, isOwn_s, pok_loc, pok_sh, pok_fr, stl_loc, stlS_sh, stlS_own, stl_sh, stl_fr, lay_fr, lay_sh, lay_loc, envOf, slotsOf, valN, ghOf, endK, resK, exMu, muN, List.cons_append, List.nil_append, List.append_nil, List.length_cons, List.length_nil, Nat.reduceAdd, Nat.reduceSub, List.replicate_succ, List.replicate_zero, List.replicate,
  List.getElem?_cons_zero, List.getElem?_cons_succ, List.getElem?_nil, List.set_cons_zero, List.set_cons_succ,
  add_ii, add_ss, add_ll, sub_ii, mul_ii, fdv_ii, fdvN_ii, mod_ii, modN_ii, pow_ii, lt_ii, le_ii, gt_ii, ge_ii, eq_ii, ne_ii, ix_li, ix_ti, neg_i, abs_i, int_i, int_b, max_ii, min_ii, len_l, len_t, list_l, list_t, rev_l, isi_int, isi_bl, isi_tup, isi_lst, isi_non, isN_i, isN_n, isN_t, isN_l, notN_i, notN_n, notN_t, notN_l, isTy,
  atI0, atI1, atI2, ixN0, ixN1, ixN2, some_inj_ex, isObj, setAt0, setAt1, setAt2, setAt3, restE, keepS, wipeE, ↓reduceIte, if_false, if_true,
  eCall, eCallP, eMake, pm, eTwo, dLit, eOwn2, eLenO, okLen, eMethP, eMakeP, isC_o, eRepL, lr1_i, lr2_i, List.filterMap_cons, List.filterMap_nil, agNil, agRo, agBo, agMu, agTm, callK, boIx, muIx, tms, argsK, upE, reown, hasBo, noTm, flatRo, noLstAll, noLst, noLsts, List.nodup_nil, List.nodup_cons, List.not_mem_nil, not_false_eq_true, Nat.zero_le, Nat.le_refl, Nat.reduceLeDiff, List.mem_cons, or_false, reduceCtorEq,
  gN, gTp, gLs, gCn, gNl, iR1, iR2, iRL, iLst, iTpl, iEnum, stab,
  ite_self, str_i, fmt_i, fmt_s, isB_b, notB_b, any_l, tup_l, sExt, e0_is, t0_is, d0_is, s0_is, i0_is, sTry, hXk_n, hXk_s, sRaise, eCallX, eCallXP, eMethX, eMakeX, ePropX, eOwn2X, callX, roA, opXv_exn, opIsX_exn, List.map_cons, List.map_nil, Nat.lt_irrefl, Nat.zero_lt_one, Nat.reduceLT, Nat.zero_lt_succ, some_inj_ex,
  Option.isSome_some, Option.isSome_none, true_and, and_true, eq_self, List.length_map, decide_true, decide_false, Bool.not_true, Bool.not_false, not_true_eq_false, Bool.true_eq_false, Bool.false_eq_true, false_imp_iff, forall_const, true_imp_iff, and_self, decide_eq_true_eq, decide_eq_false_iff_not, Bool.not_eq_true', Bool.not_eq_false'])
namespace K16
/- _law_form: 0:base 1:rules 2:path 3:a 4:b 5:scale 6:spot -/
/- _law_around: 0:base 1:rules 2:path 3:a 4:b 5:scale 6:top 7:bottom 8:common -/
theorem ring_sizes {base : Nat} {rs : List (Int × Int)} (hr : RulesOk base rs) (h2 : 2 ≤ base) (h6 : base ≤ 60) {ws : List Int} (hw : Wd rs.length ws) (h1 : 1 ≤ ws.length) : Good rs.length (ringP rs ws) ∧ Bt (701 + 60 * ws.length) (ringP rs ws).1 ∧ Bt (701 + 60 * ws.length) (ringP rs ws).2 := by
  have ho := hr.map h2 (by omega)
  have fz := form_size hr h2 h6 hw
  have hd : Bt (701 + 60 * ws.length) ((formF rs ws).2.2 - (formF rs ws).1) := (fz.2.2.sub fz.1).mono (by omega)
  refine ⟨(ringP_spec ho hw h1).1, ?_, ?_⟩
  · unfold ringP lowS
    split
    · exact (fz.2.1.neg.le (Int.natAbs_ediv_le_natAbs _ _)).mono (by omega)
    · exact (fz.2.1.le (Int.natAbs_ediv_le_natAbs _ _)).mono (by omega)
  · unfold ringP lowS
    split
    · exact hd.neg.le (Int.natAbs_ediv_le_natAbs _ _)
    · exact hd.le (Int.natAbs_ediv_le_natAbs _ _)
/- _law_start: 0:source 1:base 2:rules 3:value 4:path 5:turn 6:farther -/
/- _law_due: 0:base 1:rules 2:value 3:places 4:visits 5:at -/
/- _law_right: 0:chart 1:value 2:due 3:limit 4:whole 5:found -/
/- law: 0:script 1:source 2:base 3:rules 4:chart 5:asked 6:k 7:value 8:due -/
end K16
end TL

namespace TL
open PySem L2
set_option maxHeartbeats 2000000
local macro_rules | `(tactic| walk_at "sx") => `(tactic| try simp only [sSeq, sNil, eDisp1, eDispN, ltT_l, sumT_l, eDIn, eDNotIn, eDSetd, eDNew, eDGet, eDGet2, sDSet, eTake, isDc, sSet, sFrz, frz_o, frz_sh, frz_s, sIf, sRet, sRetN, sPass, sBrk, sPar, sSub, sApp, sExpr, sAsg, sAug, sFld, sRevI, sPop, eLoc, eC, eUn, eBin, eAnd, eOr, eNot, eIf, eTup, eLst, dNil, dCons, tVal_eq, tstD_bl, tAndW, tOrW, tNotW, eFld_eq, eFldD_o, eProp, eMeth, eMeth0, eSl, pNone, pSome, sl_l,
  out_sh, out_fr, get_loc, get_sh, get_fr, getL_z, getL_o, getL_s, bound_z, bound_o, bound_s, isOwn_o, isOwn_s, pok_loc, pok_sh, pok_fr, stl_loc, stlS_sh, stlS_own, stl_sh, stl_fr, lay_fr, lay_sh, lay_loc, envOf, slotsOf, valN, ghOf, endK, resK, exMu, muN, List.cons_append, List.nil_append, List.append_nil, List.length_cons, List.length_nil, Nat.reduceAdd, Nat.reduceSub, List.replicate_succ, List.replicate_zero, List.replicate,
  List.getElem?_cons_zero, List.getElem?_cons_succ, List.getElem?_nil, List.set_cons_zero, List.set_cons_succ,
  add_ii, add_ss, add_ll, sub_ii, mul_ii, fdv_ii, fdvN_ii, mod_ii, modN_ii, pow_ii, lt_ii, le_ii, gt_ii, ge_ii, eq_ii, ne_ii, ix_li, ix_ti, neg_i, abs_i, int_i, int_b, max_ii, min_ii, len_l, len_t, list_l, list_t, rev_l, isi_int, isi_bl, isi_tup, isi_lst, isi_non, isN_i, isN_n, isN_t, isN_l, notN_i, notN_n, notN_t, notN_l, isTy,
  atI0, atI1, atI2, ixN0, ixN1, ixN2, some_inj_ex, isObj, setAt0, setAt1, setAt2, setAt3, restE, keepS, wipeE, ↓reduceIte, if_false, if_true,
  eCall, eCallP, eMake, pm, eTwo, dLit, eOwn2, eLenO, okLen, eMethP, eMakeP, isC_o, eRepL, lr1_i, lr2_i, List.filterMap_cons, List.filterMap_nil, agNil, agRo, agBo, agMu, agTm, callK, boIx, muIx, tms, argsK, upE, reown, hasBo, noTm, flatRo, noLstAll, noLst, noLsts, List.nodup_nil, List.nodup_cons, List.not_mem_nil, not_false_eq_true, Nat.zero_le, Nat.le_refl, Nat.reduceLeDiff, List.mem_cons, or_false, reduceCtorEq,
  gN, gTp, gLs, gCn, gNl, iR1, iR2, iRL, iLst, iTpl, iEnum, stab,
  ite_self, str_i, fmt_i, fmt_s, isB_b, notB_b, any_l, tup_l, sExt, e0_is, t0_is, d0_is, s0_is, i0_is, sTry, hXk_n, hXk_s, sRaise, eCallX, eCallXP, eMethX, eMakeX, ePropX, eOwn2X, callX, roA, opXv_exn, opIsX_exn, List.map_cons, List.map_nil, Nat.lt_irrefl, Nat.zero_lt_one, Nat.reduceLT, Nat.zero_lt_succ, some_inj_ex,
  Option.isSome_some, Option.isSome_none, true_and, and_true, eq_self, List.length_map, decide_true, decide_false, Bool.not_true, Bool.not_false, not_true_eq_false, Bool.true_eq_false, Bool.false_eq_true, false_imp_iff, forall_const, true_imp_iff, and_self, decide_eq_true_eq, decide_eq_false_iff_not, Bool.not_eq_true', Bool.not_eq_false'])
/-! ### a dict that keeps the first place of each key -/
section
variable {α : Type} [DecidableEq α]
def idxG (q : α) : List α → Nat → Option Nat
  | [], _ => none
  | p :: r, o => if p = q then some o else idxG q r (o + 1)
def lookA (q : α) : List (α × Nat) → Option Nat
  | [] => none
  | p :: r => if p.1 = q then some p.2 else lookA q r
variable {enc : α → D} (he : ∀ a b, eqD (enc a) (enc b) = decide (a = b))
include he
end
/-- the table of the first places of L -/
def FirstT {α : Type} [DecidableEq α] (m : List (α × Nat)) (L : List α) : Prop := (∀ q, lookA q m = idxG q L 0) ∧ m.length ≤ L.length
theorem FirstT.nil {α : Type} [DecidableEq α] : FirstT ([] : List (α × Nat)) [] := ⟨fun _ => rfl, Nat.le_refl _⟩
/-! ### the least sum -/
/- first_meeting: 0:rule_map 1:one 2:other 3:most 4:number 5:places 6:row 7:j 8:best 9:i -/
end TL

namespace TL
open PySem L2
set_option maxHeartbeats 2000000
local macro_rules | `(tactic| walk_at "sx") => `(tactic| try simp only [sSeq, sNil, eDisp1, eDispN, ltT_l, sumT_l, eDIn, eDNotIn, eDSetd, eDNew, eDGet, eDGet2, sDSet, eTake, isDc, sSet, sFrz, frz_o, frz_sh, frz_s, sIf, sRet, sRetN, sPass, sBrk, sPar, sSub, sApp, sExpr, sAsg, sAug, sFld, sRevI, sPop, eLoc, eC, eUn, eBin, eAnd, eOr, eNot, eIf, eTup, eLst, dNil, dCons, tVal_eq, tstD_bl, tAndW, tOrW, tNotW, eFld_eq, eFldD_o, eProp, eMeth, eMeth0, eSl, pNone, pSome, sl_l,
  out_sh, out_fr, get_loc, get_sh, get_fr, getL_z, getL_o, getL_s, bound_z, bound_o, bound_s, isOwn_o, isOwn_s, pok_loc, pok_sh, pok_fr, stl_loc, stlS_sh, stlS_own, stl_sh, stl_fr, lay_fr, lay_sh, lay_loc, envOf, slotsOf, valN, ghOf, endK, resK, exMu, muN, List.cons_append, List.nil_append, List.append_nil, List.length_cons, List.length_nil, Nat.reduceAdd, Nat.reduceSub, List.replicate_succ, List.replicate_zero, List.replicate,
  List.getElem?_cons_zero, List.getElem?_cons_succ, List.getElem?_nil, List.set_cons_zero, List.set_cons_succ,
  add_ii, add_ss, add_ll, sub_ii, mul_ii, fdv_ii, fdvN_ii, mod_ii, modN_ii, pow_ii, lt_ii, le_ii, gt_ii, ge_ii, eq_ii, ne_ii, ix_li, ix_ti, neg_i, abs_i, int_i, int_b, max_ii, min_ii, len_l, len_t, list_l, list_t, rev_l, isi_int, isi_bl, isi_tup, isi_lst, isi_non, isN_i, isN_n, isN_t, isN_l, notN_i, notN_n, notN_t, notN_l, isTy,
  atI0, atI1, atI2, ixN0, ixN1, ixN2, some_inj_ex, isObj, setAt0, setAt1, setAt2, setAt3, restE, keepS, wipeE, ↓reduceIte, if_false, if_true,
  eCall, eCallP, eMake, pm, eTwo, dLit, eOwn2, eLenO, okLen, eMethP, eMakeP, isC_o, eRepL, lr1_i, lr2_i, List.filterMap_cons, List.filterMap_nil, agNil, agRo, agBo, agMu, agTm, callK, boIx, muIx, tms, argsK, upE, reown, hasBo, noTm, flatRo, noLstAll, noLst, noLsts, List.nodup_nil, List.nodup_cons, List.not_mem_nil, not_false_eq_true, Nat.zero_le, Nat.le_refl, Nat.reduceLeDiff, List.mem_cons, or_false, reduceCtorEq,
  gN, gTp, gLs, gCn, gNl, iR1, iR2, iRL, iLst, iTpl, iEnum, stab,
  ite_self, str_i, fmt_i, fmt_s, isB_b, notB_b, any_l, tup_l, sExt, e0_is, t0_is, d0_is, s0_is, i0_is, sTry, hXk_n, hXk_s, sRaise, eCallX, eCallXP, eMethX, eMakeX, ePropX, eOwn2X, callX, roA, opXv_exn, opIsX_exn, List.map_cons, List.map_nil, Nat.lt_irrefl, Nat.zero_lt_one, Nat.reduceLT, Nat.zero_lt_succ, some_inj_ex,
  Option.isSome_some, Option.isSome_none, true_and, and_true, eq_self, List.length_map, decide_true, decide_false, Bool.not_true, Bool.not_false, not_true_eq_false, Bool.true_eq_false, Bool.false_eq_true, false_imp_iff, forall_const, true_imp_iff, and_self, decide_eq_true_eq, decide_eq_false_iff_not, Bool.not_eq_true', Bool.not_eq_false'])
namespace CD
namespace K49

/- _law_tops: 0:rules 1:pair 2:many 3:found 4:k -/
/- _law_second: 0:cards 1:rules 2:pair 3:kind 4:found 5:top 6:a 7:b -/
/- _law_due: 0:rules 1:first 2:second 3:many 4:found 5:tops 6:others 7:places 8:j 9:i 10:top -/
/- _law_right: 0:cards 1:modulus 2:rules 3:first 4:second 5:many 6:built 7:found 8:due 9:turned 10:third -/
/- law: 0:script 1:k -/
end K49
end CD
end TL

namespace TL
open PySem L2
set_option maxHeartbeats 2000000
local macro_rules | `(tactic| walk_at "sx") => `(tactic| try simp only [sSeq, sNil, eDisp1, eDispN, ltT_l, sumT_l, eDIn, eDNotIn, eDSetd, eDNew, eDGet, eDGet2, sDSet, eTake, isDc, sSet, sFrz, frz_o, frz_sh, frz_s, sIf, sRet, sRetN, sPass, sBrk, sPar, sSub, sApp, sExpr, sAsg, sAug, sFld, sRevI, sPop, eLoc, eC, eUn, eBin, eAnd, eOr, eNot, eIf, eTup, eLst, dNil, dCons, tVal_eq, tstD_bl, tAndW, tOrW, tNotW, eFld_eq, eFldD_o, eProp, eMeth, eMeth0, eSl, pNone, pSome, sl_l,
  out_sh, out_fr, get_loc, get_sh, get_fr, getL_z, getL_o, getL_s, bound_z, bound_o, bound_s, isOwn_o, isOwn_s, pok_loc, pok_sh, pok_fr, stl_loc, stlS_sh, stlS_own, stl_sh, stl_fr, lay_fr, lay_sh, lay_loc, envOf, slotsOf, valN, ghOf, endK, resK, exMu, muN, List.cons_append, List.nil_append, List.append_nil, List.length_cons, List.length_nil, Nat.reduceAdd, Nat.reduceSub, List.replicate_succ, List.replicate_zero, List.replicate,
  List.getElem?_cons_zero, List.getElem?_cons_succ, List.getElem?_nil, List.set_cons_zero, List.set_cons_succ,
  add_ii, add_ss, add_ll, sub_ii, mul_ii, fdv_ii, fdvN_ii, mod_ii, modN_ii, pow_ii, lt_ii, le_ii, gt_ii, ge_ii, eq_ii, ne_ii, ix_li, ix_ti, neg_i, abs_i, int_i, int_b, max_ii, min_ii, len_l, len_t, list_l, list_t, rev_l, isi_int, isi_bl, isi_tup, isi_lst, isi_non, isN_i, isN_n, isN_t, isN_l, notN_i, notN_n, notN_t, notN_l, isTy,
  atI0, atI1, atI2, ixN0, ixN1, ixN2, some_inj_ex, isObj, setAt0, setAt1, setAt2, setAt3, restE, keepS, wipeE, ↓reduceIte, if_false, if_true,
  eCall, eCallP, eMake, pm, eTwo, dLit, eOwn2, eLenO, okLen, eMethP, eMakeP, isC_o, eRepL, lr1_i, lr2_i, List.filterMap_cons, List.filterMap_nil, agNil, agRo, agBo, agMu, agTm, callK, boIx, muIx, tms, argsK, upE, reown, hasBo, noTm, flatRo, noLstAll, noLst, noLsts, List.nodup_nil, List.nodup_cons, List.not_mem_nil, not_false_eq_true, Nat.zero_le, Nat.le_refl, Nat.reduceLeDiff, List.mem_cons, or_false, reduceCtorEq,
  gN, gTp, gLs, gCn, gNl, iR1, iR2, iRL, iLst, iTpl, iEnum, stab,
  ite_self, str_i, fmt_i, fmt_s, isB_b, notB_b, any_l, tup_l, sExt, e0_is, t0_is, d0_is, s0_is, i0_is, sTry, hXk_n, hXk_s, sRaise, eCallX, eCallXP, eMethX, eMakeX, ePropX, eOwn2X, callX, roA, opXv_exn, opIsX_exn, List.map_cons, List.map_nil, Nat.lt_irrefl, Nat.zero_lt_one, Nat.reduceLT, Nat.zero_lt_succ, some_inj_ex,
  Option.isSome_some, Option.isSome_none, true_and, and_true, eq_self, List.length_map, decide_true, decide_false, Bool.not_true, Bool.not_false, not_true_eq_false, Bool.true_eq_false, Bool.false_eq_true, false_imp_iff, forall_const, true_imp_iff, and_self, decide_eq_true_eq, decide_eq_false_iff_not, Bool.not_eq_true', Bool.not_eq_false'])
namespace CD
namespace K52
/- check_fraction: 0:rule_map 1:number -/
/- check_number: 0:number 1:least -/
/- walk: 0:rule_map 1:number 2:steps 3:modulus 4:rules 5:found 6:turn -/
/- distance_of: 0:rule_map 1:one 2:other 3:a 4:b 5:whole 6:other_a 7:other_b -/
/- meeting_classes: 0:rule_map 1:apart 2:steps 3:forms 4:whole 5:found 6:number 7:a 8:b 9:other_a 10:other_b -/
/- words_with_forms: 0:rule_map 1:length 2:rules 3:rows 4:whole 5:step 6:longer 7:word 8:a 9:b 10:k 11:rule_a 12:rule_b -/
/- meeting_words: 0:rule_map 1:steps 2:rows 3:found 4:k 5:one 6:a 7:b 8:other 9:other_a 10:other_b -/
/- first_meeting: 0:rule_map 1:one 2:other 3:most 4:number 5:places 6:row 7:j 8:best 9:i -/
/-- a question of the law -/
inductive Qu where
  | meet (p q : Int × Int) | dist (v w : List Int) | cls (g : Int) | wds (g : Int)
def Qu.fst : Qu → D
  | .meet p _ => encR p | .dist v _ => encZs v | .cls g => .int g | .wds g => .int g
def Qu.snd : Qu → D
  | .meet _ q => encR q | .dist _ w => encZs w | .cls _ => .int 0 | .wds _ => .int 0
/- _law_asked: 0:door 1:built 2:first 3:second 4:count -/
/- _law_told: 0:door 1:built 2:first 3:second 4:count 5:caught 6:e 7:others 8:kinds -/
/- _law_below: 0:cards -/
/- _law_meeting: 0:cards 1:built 2:modulus 3:count 4:good 5:bad 6:also 7:rows 8:first 9:second 10:many 11:due -/
/- _law_distance: 0:cards 1:built 2:modulus 3:line 4:wrong 5:other_line 6:other_wrong 7:good 8:longer 9:kept 10:rows 11:first 12:second 13:due 14:k -/
/- _law_right: 0:cards 1:modulus 2:built 3:count 4:door -/
/- law: 0:script 1:k -/
end K52
end CD
end TL

namespace TL
open PySem L2
set_option maxHeartbeats 2000000
local macro_rules | `(tactic| walk_at "sx") => `(tactic| try simp only [sSeq, sNil, eDisp1, eDispN, ltT_l, sumT_l, eDIn, eDNotIn, eDSetd, eDNew, eDGet, eDGet2, sDSet, eTake, sAugL, isDc, sSet, sFrz, frz_o, frz_sh, frz_s, sIf, sRet, sRetN, sPass, sBrk, sPar, sSub, sApp, sExpr, sAsg, sAug, sFld, sRevI, sPop, eLoc, eC, eUn, eBin, eAnd, eOr, eNot, eIf, eTup, eLst, dNil, dCons, tVal_eq, tstD_bl, tAndW, tOrW, tNotW, eFld_eq, eFldD_o, eProp, eMeth, eMeth0, eSl, pNone, pSome, sl_l,
  out_sh, out_fr, get_loc, get_sh, get_fr, getL_z, getL_o, getL_s, bound_z, bound_o, bound_s, isOwn_o, isOwn_s, pok_loc, pok_sh, pok_fr, stl_loc, stlS_sh, stlS_own, stl_sh, stl_fr, lay_fr, lay_sh, lay_loc, envOf, slotsOf, valN, ghOf, endK, resK, exMu, muN, List.cons_append, List.nil_append, List.append_nil, List.length_cons, List.length_nil, Nat.reduceAdd, Nat.reduceSub, List.replicate_succ, List.replicate_zero, List.replicate,
  List.getElem?_cons_zero, List.getElem?_cons_succ, List.getElem?_nil, List.set_cons_zero, List.set_cons_succ,
  add_ii, add_ss, add_ll, sub_ii, mul_ii, fdv_ii, fdvN_ii, mod_ii, modN_ii, pow_ii, lt_ii, le_ii, gt_ii, ge_ii, eq_ii, ne_ii, ix_li, ix_ti, neg_i, abs_i, int_i, int_b, max_ii, min_ii, len_l, len_t, list_l, list_t, rev_l, isi_int, isi_bl, isi_tup, isi_lst, isi_non, isN_i, isN_n, isN_t, isN_l, notN_i, notN_n, notN_t, notN_l, isTy,
  atI0, atI1, atI2, ixN0, ixN1, ixN2, some_inj_ex, isObj, setAt0, setAt1, setAt2, setAt3, restE, keepS, wipeE, ↓reduceIte, if_false, if_true,
  eCall, eCallP, eMake, pm, eTwo, dLit, eOwn2, eLenO, okLen, eMethP, eMakeP, isC_o, eRepL, lr1_i, lr2_i, List.filterMap_cons, List.filterMap_nil, agNil, agRo, agBo, agMu, agTm, callK, boIx, muIx, tms, argsK, upE, reown, hasBo, noTm, flatRo, noLstAll, noLst, noLsts, List.nodup_nil, List.nodup_cons, List.not_mem_nil, not_false_eq_true, Nat.zero_le, Nat.le_refl, Nat.reduceLeDiff, List.mem_cons, or_false, reduceCtorEq,
  gN, gTp, gLs, gCn, gNl, iR1, iR2, iRL, iLst, iTpl, iEnum, stab,
  ite_self, str_i, fmt_i, fmt_s, isB_b, notB_b, any_l, tup_l, sExt, e0_is, t0_is, d0_is, s0_is, i0_is, sTry, hXk_n, hXk_s, sRaise, eCallX, eCallXP, eMethX, eMakeX, ePropX, eOwn2X, callX, roA, opXv_exn, opIsX_exn, List.map_cons, List.map_nil, Nat.lt_irrefl, Nat.zero_lt_one, Nat.reduceLT, Nat.zero_lt_succ, some_inj_ex,
  Option.isSome_some, Option.isSome_none, true_and, and_true, eq_self, List.length_map, decide_true, decide_false, Bool.not_true, Bool.not_false, not_true_eq_false, Bool.true_eq_false, Bool.false_eq_true, false_imp_iff, forall_const, true_imp_iff, and_self, decide_eq_true_eq, decide_eq_false_iff_not, Bool.not_eq_true', Bool.not_eq_false'])
/-! ### rings judged -/
namespace K31
/-- the place before the k-th, around -/
def befF (qs : List (Int × Int)) (k : Nat) : Int × Int := qs.getD (if k = 0 then qs.length - 1 else k - 1) (0, 1)
/-- a plain ring of fractions -/
def judgeP (rs qs : List (Int × Int)) : Prop := qs ≠ [] ∧ (∀ q ∈ qs, Good rs.length q) ∧ qs.Nodup ∧ ∀ k, k < qs.length → stepF rs (befF qs k) = qs.getD k (0, 1)
instance (rs qs : List (Int × Int)) : Decidable (judgeP rs qs) := by unfold judgeP; infer_instance
def sp_judge_ring : FSpec := fun args kr _ => ∃ (rs qs : List (Int × Int)), args = [.ro (mapD rs), .ro (encRs qs)] ∧ MapOk rs ∧ qs.length < 64 ∧ (∀ q ∈ qs, Bt 80000000 q.1 ∧ Bt 8000 q.2) ∧ kr (.sh (.bl (decide (judgeP rs qs)))) []
theorem nodup_of_len : ∀ {M L : List (List Int)}, L.Nodup → (∀ t, t ∈ L → t ∈ M) → M.length ≤ L.length → M.Nodup
  | [], _, _, _, _ => List.Pairwise.nil
  | m :: ms, L, hn, hs, hl => by
    have e1 : (L.erase m).Nodup := hn.sublist List.erase_sublist
    have e2 : ∀ t, t ∈ L.erase m → t ∈ ms := fun t ht => by
      have h := hn.mem_erase_iff.mp ht
      exact (List.mem_cons.mp (hs t h.2)).resolve_left h.1
    have e3 : L.length - 1 ≤ (L.erase m).length := by rw [List.length_erase]; split <;> omega
    have nd := nodup_of_len e1 e2 (by simp at hl; omega)
    refine List.nodup_cons.mpr ⟨fun hm => ?_, nd⟩
    have : L.length ≤ ms.length := hn.length_le_of_subset fun t ht => by
      rcases List.mem_cons.mp (hs t ht) with rfl | h
      · exact hm
      · exact h
    simp at hl
    omega
theorem set_len {qs : List (Int × Int)} {L : List (List Int)} (hn : L.Nodup) (hm : ∀ t, t ∈ L ↔ t ∈ qs.map fun q => [q.1, q.2]) : L.length ≤ qs.length ∧ (L.length < qs.length ↔ ¬ qs.Nodup) := by
  have inj : ∀ p q : Int × Int, [p.1, p.2] = [q.1, q.2] → p = q := fun p q h => by
    have h1 : p.1 = q.1 := (List.cons.inj h).1
    have h2 : p.2 = q.2 := (List.cons.inj (List.cons.inj h).2).1
    exact Prod.ext h1 h2
  have sub : L.length ≤ (qs.map fun q => [q.1, q.2]).length := hn.length_le_of_subset fun t ht => (hm t).mp ht
  rw [List.length_map] at sub
  refine ⟨sub, fun h hq => ?_, fun h => ?_⟩
  · have nd : (qs.map fun q => [q.1, q.2]).Nodup := List.pairwise_map.mpr (hq.imp fun {a b} h z => h (inj a b z))
    have := nd.length_le_of_subset fun t ht => (hm t).mpr ht
    rw [List.length_map] at this
    omega
  · rcases Nat.lt_or_ge L.length qs.length with h2 | h2
    · exact h2
    · have nd := nodup_of_len (M := qs.map fun q => [q.1, q.2]) hn (fun t ht => (hm t).mp ht) (by rw [List.length_map]; exact h2)
      exact absurd ((List.pairwise_map.mp nd).imp fun {a b} h z => h (by rw [z])) h
theorem set_any {qs : List (Int × Int)} {k : Ro → Prop} (hl : qs.length < 64) (h : ∀ n : Int, (n < qs.length ↔ ¬ qs.Nodup) → k (.sh (.int n))) : opLenSetT (encRs qs) k := by
  rw [show encRs qs = .lst (qs.map encR) from rfl, lenSet_l]
  refine ⟨qs.map fun q => [q.1, q.2], by rw [List.map_map]; rfl, by rw [List.length_map]; exact hl, fun L hn hm => h _ ?_⟩
  have h2 := (set_len hn hm).2
  constructor
  · intro h3
    exact h2.mp (by omega)
  · intro h3
    have := h2.mpr h3
    omega
theorem atI_bef {qs : List (Int × Int)} {k : Nat} (h : k < qs.length) : L2.atI (qs.map encR) ((k : Int) - 1) = some (encR (befF qs k)) := by
  unfold L2.atI ixN befF
  by_cases h0 : k = 0
  · subst h0
    rw [if_neg (by omega), if_pos (by simp; omega), if_pos rfl]
    show (qs.map encR)[_]? = _
    rw [show ((((0 : Nat) : Int) - 1 + ((qs.map encR).length : Int)).toNat) = qs.length - 1 by simp; omega, List.getElem?_map, List.getElem?_eq_getElem (by omega), List.getD_eq_getElem?_getD, List.getElem?_eq_getElem (by omega)]
    rfl
  · rw [if_pos (by omega), if_pos (by simp; omega), if_neg h0]
    show (qs.map encR)[_]? = _
    rw [show ((k : Int) - 1).toNat = k - 1 by omega, List.getElem?_map, List.getElem?_eq_getElem (by omega), List.getD_eq_getElem?_getD, List.getElem?_eq_getElem (by omega)]
    rfl
/- judge_ring: 0:rule_map 1:told 2:modulus 3:rules 4:k 5:entry -/
def b_judge_ring : SW := (sSeq (sFrz 2 (sSet 2 (eProp 0 sp_Map_modulus (eLoc 0))))
  (sSeq (sIf (tOrW (tVal (eBin opEq (eUn opLen (eLoc 1)) (eC (.int 0)))) (tNotW (tVal (eUn opAll (eComp (iLst (eLoc 1)) (gN 5) tYesW (eCall 2 sp_is_good (agRo (eLoc 2) (agRo (eLoc 5) agNil))) [5]))))) (sRet (eC (.bl false))) sNil)
  (sSeq (sIf (tVal (eBin opLt (eUn opLenSetT (eLoc 1)) (eUn opLen (eLoc 1)))) (sRet (eC (.bl false))) sNil)
  (sSeq (sFrz 3 (sSet 3 (eProp 0 sp_Map_rules (eLoc 0))))
  (sSeq (sFor (iR1 (dCons (eUn opLen (eLoc 1)) dNil)) (gN 4) (sIf (tVal (eBin opNe (eCall 3 sp_stepped (agRo (eLoc 2) (agRo (eLoc 3) (agRo (eBin opIx (eLoc 1) (eBin opSub (eLoc 4) (eC (.int 1)))) agNil)))) (eBin opIx (eLoc 1) (eLoc 4)))) (sRet (eC (.bl false))) sNil))
  (sRet (eC (.bl true))))))))
theorem sat_judge_ring : Sat 6 sp_judge_ring b_judge_ring := by
  rintro args mus kr kx hm ⟨rs, qs, rfl, ho, hl, hs, hk⟩
  obtain rfl := mus0 hm
  unfold b_judge_ring
  unfold sFor
  walk_at "sx"
  simp only [eComp, iLst, tYesW]
  walk_at "sx"
  refine ⟨rs, rfl, ?_⟩
  walk_at "sx"
  refine ⟨fun h => ?_, fun h => ?_⟩
  · rw [decide_eq_false (fun z : judgeP rs qs => z.1 (List.length_eq_zero_iff.mp (by omega)))] at hk
    exact hk
  have hne : qs ≠ [] := fun z => h (by rw [z]; rfl)
  refine ⟨fun i acc ρ => acc = ((qs.take i).map fun q => decide (Good rs.length q)).map D.bl ∧ ρ = [.sh (mapD rs), .sh (encRs qs), .sh (.int rs.length), .no, .no, .no], ⟨rfl, rfl⟩, fun _ _ _ _ _ => trivial, ?_, ?_⟩
  · rintro i d acc ρ hi hd ⟨rfl, rfl⟩
    obtain ⟨q, hq, rfl⟩ := get_map hd
    walk_at "sx"
    refine ⟨rs.length, q, rfl, ?_⟩
    walk_at "sx"
    refine ⟨line_big (by simp; omega), ?_⟩
    rw [List.take_succ, hq]
    simp
  · rintro acc ρ ⟨rfl, rfl⟩
    rw [List.take_length]
    refine ⟨qs.map fun q => decide (Good rs.length q), rfl, ?_⟩
    walk_at "sx"
    refine ⟨fun hb => ?_, fun hb => ?_⟩
    · rw [decide_eq_false (fun z : judgeP rs qs => by
        rw [List.all_eq_false] at hb
        obtain ⟨b, h1, h2⟩ := hb
        obtain ⟨q, h3, rfl⟩ := List.mem_map.mp h1
        exact h2 (by simpa using z.2.1 q h3))] at hk
      exact hk
    have hg : ∀ q ∈ qs, Good rs.length q := fun q hq => by
      have := List.all_eq_true.mp hb _ (List.mem_map.mpr ⟨q, hq, rfl⟩)
      simpa using this
    refine set_any hl fun n hn => ?_
    walk_at "sx"
    refine ⟨fun hlt => ?_, fun hlt => ?_⟩
    · rw [decide_eq_false (fun z : judgeP rs qs => hn.mp hlt z.2.2.1)] at hk
      exact hk
    have hnd : qs.Nodup := Classical.byContradiction fun z => hlt (hn.mpr z)
    refine ⟨rs, rfl, ?_⟩
    walk_at "sx"
    refine ⟨by omega, fun i ρ => ∃ e4 : Sl, ρ = [.sh (mapD rs), .sh (encRs qs), .sh (.int rs.length), .sh (encRs rs), e4, .no] ∧ ∀ j, j < i → stepF rs (befF qs j) = qs.getD j (0, 1), ⟨_, rfl, by intro j h; omega⟩, fun _ _ _ _ => trivial, ?_, ?_⟩
    · rintro i d ρ hi rfl ⟨e4, rfl, hw⟩
      have hi : i < qs.length := by omega
      have hbm : befF qs i ∈ qs := by
        unfold befF
        rw [List.getD_eq_getElem?_getD, List.getElem?_eq_getElem (by split <;> omega)]
        exact List.getElem_mem _
      walk_at "sx"
      rw [atI_bef hi]
      refine ⟨_, rfl, ?_⟩
      walk_at "sx"
      refine ⟨rs, befF qs i, rfl, ho, hg _ hbm, (hs _ hbm).1, (hs _ hbm).2, ?_⟩
      walk_at "sx"
      rw [show L2.atI (qs.map encR) (i : Int) = some (encR (qs.getD i (0, 1))) by
        unfold L2.atI ixN
        rw [if_pos (by omega), if_pos (by rw [List.length_map]; omega)]
        rw [Option.bind_some, Int.toNat_natCast, List.getElem?_map, List.getElem?_eq_getElem hi, List.getD_eq_getElem?_getD, List.getElem?_eq_getElem hi]
        rfl]
      refine ⟨_, rfl, ?_⟩
      rw [ne_r]
      walk_at "sx"
      refine ⟨fun hne2 => ?_, fun he => ⟨_, rfl, fun j hj => ?_⟩⟩
      · rw [decide_eq_false (fun z : judgeP rs qs => hne2 (z.2.2.2 i hi))] at hk
        exact hk
      · rcases Nat.lt_or_ge j i with h | h
        · exact hw j h
        · have : j = i := by omega
          subst this
          exact he
    · rintro ρ ⟨e4, rfl, hw⟩
      walk_at "sx"
      rw [Int.toNat_natCast] at hw
      rw [decide_eq_true (show judgeP rs qs from ⟨hne, hg, hnd, hw⟩)] at hk
      exact hk
/- _law_is_ring: 0:base 1:rules 2:places 3:top 4:bottom 5:k -/
end K31
end TL

namespace TL
open PySem L2
set_option maxHeartbeats 2000000
local macro_rules | `(tactic| walk_at "sx") => `(tactic| try simp only [sSeq, sNil, eDisp1, eDispN, ltT_l, sumT_l, eDIn, eDNotIn, eDSetd, eDNew, eDGet, eDGet2, sDSet, eTake, sAugL, isDc, sCut, ghs_cons, ghs_nil, eKeep, keep_fr, keep_sh, keep_gh, keep_loc, eAd, eDr, eBinG, sAppE, sRevE, sPopE, eFz, fz_sh, fz_fr, fz_gh, fz_loc, ePk, gF, gP, agBg, agMg, agBd, pvw, eCallG, get_gh, stl_gh, pok_gh, owns, List.drop_succ_cons, List.drop_zero, List.take_succ_cons, List.take_zero, List.mem_cons, List.not_mem_nil, or_false, sSet, sFrz, frz_o, frz_sh, frz_s, sIf, sRet, sRetN, sPass, sBrk, sPar, sSub, sApp, sExpr, sAsg, sAug, sFld, sRevI, sPop, eLoc, eC, eUn, eBin, eAnd, eOr, eNot, eIf, eTup, eLst, dNil, dCons, tVal_eq, tstD_bl, tAndW, tOrW, tNotW, eFld_eq, eFldD_o, eProp, eMeth, eMeth0, eSl, pNone, pSome, sl_l,
  out_sh, out_fr, get_loc, get_sh, get_fr, getL_z, getL_o, getL_s, bound_z, bound_o, bound_s, isOwn_o, isOwn_s, pok_loc, pok_sh, pok_fr, stl_loc, stlS_sh, stlS_own, stl_sh, stl_fr, lay_fr, lay_sh, lay_loc, envOf, slotsOf, valN, ghOf, endK, resK, exMu, muN, List.cons_append, List.nil_append, List.append_nil, List.length_cons, List.length_nil, Nat.reduceAdd, Nat.reduceSub, List.replicate_succ, List.replicate_zero, List.replicate,
  List.getElem?_cons_zero, List.getElem?_cons_succ, List.getElem?_nil, List.set_cons_zero, List.set_cons_succ,
  add_ii, add_ss, add_ll, sub_ii, mul_ii, fdv_ii, fdvN_ii, mod_ii, modN_ii, pow_ii, lt_ii, le_ii, gt_ii, ge_ii, eq_ii, ne_ii, ix_li, ix_ti, neg_i, abs_i, int_i, int_b, max_ii, min_ii, len_l, len_t, list_l, list_t, rev_l, isi_int, isi_bl, isi_tup, isi_lst, isi_non, isN_i, isN_n, isN_t, isN_l, notN_i, notN_n, notN_t, notN_l, isTy,
  atI0, atI1, atI2, ixN0, ixN1, ixN2, some_inj_ex, isObj, setAt0, setAt1, setAt2, setAt3, restE, keepS, wipeE, ↓reduceIte, if_false, if_true,
  eCall, eCallP, eMake, pm, eTwo, dLit, eOwn2, eLenO, okLen, eMethP, eMakeP, isC_o, eRepL, lr1_i, lr2_i, List.filterMap_cons, List.filterMap_nil, agNil, agRo, agBo, agMu, agTm, callK, boIx, muIx, tms, argsK, upE, reown, hasBo, noTm, flatRo, noLstAll, noLst, noLsts, List.nodup_nil, List.nodup_cons, List.not_mem_nil, not_false_eq_true, Nat.zero_le, Nat.le_refl, Nat.reduceLeDiff, List.mem_cons, or_false, reduceCtorEq,
  gN, gTp, gLs, gCn, gNl, iR1, iR2, iRL, iLst, iTpl, iEnum, stab,
  ite_self, str_i, fmt_i, fmt_s, isB_b, notB_b, any_l, tup_l, sExt, e0_is, t0_is, d0_is, s0_is, i0_is, sTry, hXk_n, hXk_s, sRaise, eCallX, eCallXP, eMethX, eMakeX, ePropX, eOwn2X, callX, roA, opXv_exn, opIsX_exn, List.map_cons, List.map_nil, Nat.lt_irrefl, Nat.zero_lt_one, Nat.reduceLT, Nat.zero_lt_succ, some_inj_ex,
  Option.isSome_some, Option.isSome_none, true_and, and_true, eq_self, List.length_map, decide_true, decide_false, Bool.not_true, Bool.not_false, not_true_eq_false, Bool.true_eq_false, Bool.false_eq_true, false_imp_iff, forall_const, true_imp_iff, and_self, decide_eq_true_eq, decide_eq_false_iff_not, Bool.not_eq_true', Bool.not_eq_false'])
/-! ### words that go round -/
namespace K32
def sp_word_round : FSpec := fun args kr _ => ∃ rs p, ∃ n : Nat, args = [.ro (mapD rs), .ro (encR p), .ro (.int n)] ∧ MapOk rs ∧ Good rs.length p ∧ (∀ i, i ≤ n → Bt 80000000 (walkF rs i p).1) ∧ Bt 8000 p.2 ∧ 1 ≤ n ∧ n ≤ 100000 ∧
  (walkF rs n p ≠ p → kr (.sh .non) []) ∧ (walkF rs n p = p → kr (.fr (encZs (wordF rs p n))) [])
/- word_round: 0:rule_map 1:fraction 2:length -/
def b_word_round : SW := (sSeq (sExpr (eCall 2 sp_check_fraction (agRo (eLoc 0) (agRo (eLoc 1) agNil))))
  (sSeq (sExpr (eCall 2 sp_check_number (agRo (eLoc 2) (agRo (eC (.int 1)) agNil))))
  (sSeq (sIf (tVal (eBin opNe (eBin opIx (eCall 3 sp_walk (agRo (eLoc 0) (agRo (eLoc 1) (agRo (eLoc 2) agNil)))) (eUn opNeg (eC (.int 1)))) (eLoc 1))) (sRet (eC .non)) sNil)
  (sRet (eCall 3 sp_word_of (agRo (eLoc 0) (agRo (eLoc 1) (agRo (eLoc 2) agNil))))))))
/- endless_word: 0:rule_map 1:fraction 2:most 3:found 4:first 5:every 6:word -/
/- _law_due: 0:places 1:visits 2:at -/
/- _law_is_round: 0:chart 1:value 2:places 3:path 4:count 5:found -/
/- _law_is_endless: 0:chart 1:value 2:path 3:due 4:first 5:every 6:ends 7:limit 8:found 9:front 10:again -/
theorem sat_word_round : Sat 3 sp_word_round b_word_round := by
  rintro args mus kr kx hm ⟨rs, p, n, rfl, ho, hg, hs, hb, h1, hn, hk1, hk2⟩
  obtain rfl := mus0 hm
  unfold b_word_round
  walk_at "sx"
  refine ⟨rs, p, rfl, hg, ?_⟩
  walk_at "sx"
  refine ⟨n, 1, rfl, by omega, ?_⟩
  walk_at "sx"
  refine ⟨rs, p, n, rfl, ho, hg, hs, hb, hn, fun c => ?_⟩
  walk_at "sx"
  refine ⟨_, trk_last rs p n, ?_⟩
  rw [ne_r]
  walk_at "sx"
  refine ⟨hk1, fun h => ⟨rs, p, n, rfl, ho, hg, hs, hb, hn, ?_⟩⟩
  walk_at "sx"
  exact hk2 h
/- law: 0:script 1:source 2:base 3:rules 4:chart 5:k 6:value 7:places 8:path 9:due 10:counts 11:count -/
section
variable {kx : Nat → D → Prop} {K : SK} {ns cs : List Int} {c : Addr} {x y z k : Int} {base : Nat} {rs : List (Int × Int)} {v : Int × Int} {e11 : Sl}
end
end K32
end TL

namespace TL
open PySem L2
set_option maxHeartbeats 2000000
local macro_rules | `(tactic| walk_at "sx") => `(tactic| try simp only [sSeq, sNil, eDisp1, eDispN, ltT_l, sumT_l, eDIn, eDNotIn, eDSetd, eDNew, eDGet, eDGet2, sDSet, eTake, sAugL, isDc, sCut, ghs_cons, ghs_nil, eKeep, keep_fr, keep_sh, keep_gh, keep_loc, eAd, eDr, eBinG, sAppE, sRevE, sPopE, eFz, fz_sh, fz_fr, fz_gh, fz_loc, ePk, gF, gP, agBg, agMg, agBd, pvw, eCallG, get_gh, stl_gh, pok_gh, owns, List.drop_succ_cons, List.drop_zero, List.take_succ_cons, List.take_zero, List.mem_cons, List.not_mem_nil, or_false, sSet, sFrz, frz_o, frz_sh, frz_s, sIf, sRet, sRetN, sPass, sBrk, sPar, sSub, sApp, sExpr, sAsg, sAug, sFld, sRevI, sPop, eLoc, eC, eUn, eBin, eAnd, eOr, eNot, eIf, eTup, eLst, dNil, dCons, tVal_eq, tstD_bl, tAndW, tOrW, tNotW, eFld_eq, eFldD_o, eProp, eMeth, eMeth0, eSl, pNone, pSome, sl_l,
  out_sh, out_fr, get_loc, get_sh, get_fr, getL_z, getL_o, getL_s, bound_z, bound_o, bound_s, isOwn_o, isOwn_s, pok_loc, pok_sh, pok_fr, stl_loc, stlS_sh, stlS_own, stl_sh, stl_fr, lay_fr, lay_sh, lay_loc, envOf, slotsOf, valN, ghOf, endK, resK, exMu, muN, List.cons_append, List.nil_append, List.append_nil, List.length_cons, List.length_nil, Nat.reduceAdd, Nat.reduceSub, List.replicate_succ, List.replicate_zero, List.replicate,
  List.getElem?_cons_zero, List.getElem?_cons_succ, List.getElem?_nil, List.set_cons_zero, List.set_cons_succ,
  add_ii, add_ss, add_ll, sub_ii, mul_ii, fdv_ii, fdvN_ii, mod_ii, modN_ii, pow_ii, lt_ii, le_ii, gt_ii, ge_ii, eq_ii, ne_ii, ix_li, ix_ti, neg_i, abs_i, int_i, int_b, max_ii, min_ii, len_l, len_t, list_l, list_t, rev_l, isi_int, isi_bl, isi_tup, isi_lst, isi_non, isN_i, isN_n, isN_t, isN_l, notN_i, notN_n, notN_t, notN_l, isTy,
  atI0, atI1, atI2, ixN0, ixN1, ixN2, some_inj_ex, isObj, setAt0, setAt1, setAt2, setAt3, restE, keepS, wipeE, ↓reduceIte, if_false, if_true,
  eCall, eCallP, eMake, pm, eTwo, dLit, eOwn2, eLenO, okLen, eMethP, eMakeP, isC_o, eRepL, lr1_i, lr2_i, List.filterMap_cons, List.filterMap_nil, agNil, agRo, agBo, agMu, agTm, callK, boIx, muIx, tms, argsK, upE, reown, hasBo, noTm, flatRo, noLstAll, noLst, noLsts, List.nodup_nil, List.nodup_cons, List.not_mem_nil, not_false_eq_true, Nat.zero_le, Nat.le_refl, Nat.reduceLeDiff, List.mem_cons, or_false, reduceCtorEq,
  gN, gTp, gLs, gCn, gNl, iR1, iR2, iRL, iLst, iTpl, iEnum, stab,
  ite_self, str_i, fmt_i, fmt_s, isB_b, notB_b, any_l, tup_l, sExt, e0_is, t0_is, d0_is, s0_is, i0_is, sTry, hXk_n, hXk_s, sRaise, eCallX, eCallXP, eMethX, eMakeX, ePropX, eOwn2X, callX, roA, opXv_exn, opIsX_exn, List.map_cons, List.map_nil, Nat.lt_irrefl, Nat.zero_lt_one, Nat.reduceLT, Nat.zero_lt_succ, some_inj_ex,
  Option.isSome_some, Option.isSome_none, true_and, and_true, eq_self, List.length_map, decide_true, decide_false, Bool.not_true, Bool.not_false, not_true_eq_false, Bool.true_eq_false, Bool.false_eq_true, false_imp_iff, forall_const, true_imp_iff, and_self, decide_eq_true_eq, decide_eq_false_iff_not, Bool.not_eq_true', Bool.not_eq_false'])
namespace CD
namespace K96
open K46 (preN mem_pre pre_bt perm_flat)

/-! ### words that meet -/
structure Meets (rs : List (Int × Int)) (n : Nat) (v w : List Int) : Prop where
  lv : v.length = n
  lw : w.length = n
  wv : Wd rs.length v
  ww : Wd rs.length w
  ne : v ≠ w
  ea : (formF rs v).1 = (formF rs w).1
  dv : (formF rs v).1 ∣ (formF rs v).2.1 - (formF rs w).2.1
def gapF (rs : List (Int × Int)) (v w : List Int) : Int := ((formF rs v).2.1 - (formF rs w).2.1) / (formF rs v).1
section
variable {base : Nat} {rs : List (Int × Int)} {n : Nat} {v w : List Int}
theorem Meets.gap (h : Meets rs n v w) : gapF rs v w * (formF rs v).1 = (formF rs v).2.1 - (formF rs w).2.1 := Int.ediv_mul_cancel h.dv
theorem low_one {g A : Int} (hA : 1 ≤ A) : low (g * A) A = (g, 1) := by
  have := low_mul (t := g) (b := 1) (k := A) (by omega) (by omega)
  rw [Int.one_mul] at this
  rw [this]
  exact low_self (p := (g, 1)) (by simp)
theorem Meets.dist (hr : RulesOk base rs) (h : Meets rs n v w) : distF (formF rs v) (formF rs w) = encR (gapF rs v w, 1) := by
  unfold distF
  rw [if_pos h.ea, ← h.gap, low_one (form_a_size hr h.wv).2]
theorem Meets.wok (hr : RulesOk base rs) (h2 : 2 ≤ base) (h6 : base ≤ 60) (hn : n ≤ 900) (h : Meets rs n v w) : WOk rs v ∧ WOk rs w := by
  have a1 := h.lv
  have a2 := h.lw
  exact ⟨hr.wok h2 h6 (by rw [← hr.len]; exact h.wv) (by omega), hr.wok h2 h6 (by rw [← hr.len]; exact h.ww) (by omega)⟩
theorem Meets.scale (h : Meets rs n v w) : (formF rs v).2.2 = (rs.length : Int) ^ n ∧ (formF rs w).2.2 = (rs.length : Int) ^ n := by
  constructor
  · rw [formF_scale, h.lv]
  · rw [formF_scale, h.lw]
theorem Meets.at_ (hr : RulesOk base rs) (h2 : 2 ≤ base) (h6 : base ≤ 60) (hn : n ≤ 900) (h : Meets rs n v w) : zWord rs (clsF (formF rs v)) n = v ∧ zWord rs (clsF (formF rs v) + gapF rs v w) n = w := by
  obtain ⟨wo1, wo2⟩ := h.wok hr h2 h6 hn
  have ho := hr.map h2 (by omega)
  obtain ⟨c0, c1, c2⟩ := clsF_spec wo1.ok.1 wo1.ok.2.1
  obtain ⟨s1, s2⟩ := h.scale
  constructor
  · have := (zWord_cls wo1 (clsF (formF rs v))).mpr (Int.emod_eq_of_lt c0 c1)
    rwa [h.lv] at this
  · have := (form_iff wo2.mp (clsF (formF rs v) + gapF rs v w) wo2.wd).mpr (by
      have g := h.gap
      rw [s2, ← s1]
      have e : (formF rs w).1 * (clsF (formF rs v) + gapF rs v w) + (formF rs w).2.1 = (formF rs v).1 * clsF (formF rs v) + (formF rs v).2.1 := by
        rw [← h.ea, Int.mul_add]
        have : (formF rs v).1 * gapF rs v w = gapF rs v w * (formF rs v).1 := Int.mul_comm _ _
        omega
      rw [e]
      exact c2)
    rwa [h.lw] at this
theorem Meets.meet (hr : RulesOk base rs) (h2 : 2 ≤ base) (h6 : base ≤ 60) (hn : n ≤ 900) (h : Meets rs n v w) {c : Nat} (hc : clsF (formF rs v) = c) : meetB rs n (gapF rs v w) c = true := by
  obtain ⟨a, b⟩ := h.at_ hr h2 h6 hn
  rw [hc] at a b
  unfold meetB abF
  rw [a, b]
  refine decide_eq_true ⟨h.ea, ?_⟩
  have g := h.gap
  show (formF rs v).2.1 = (formF rs v).1 * gapF rs v w + (formF rs w).2.1
  have : (formF rs v).1 * gapF rs v w = gapF rs v w * (formF rs v).1 := Int.mul_comm _ _
  omega
end
/-! ### numbers before, any number of steps -/
def sp_numbers_before : FSpec := fun args kr _ => ∃ (rs : List (Int × Int)) (n : Int) (k : Nat), args = [.ro (mapD rs), .ro (.int n), .ro (.int k)] ∧ MapOk rs ∧ rs.length ≤ 12 ∧ (∀ p ∈ rs, p.1 ≤ 1000) ∧ (∀ p ∈ rs, Bt 600 p.2) ∧ Bt 5000 n ∧ k ≤ 12 ∧ (∀ i, i ≤ k → rs.length ^ i ≤ 4096) ∧ ∀ ms : List Int, ms.Perm (preN rs n k) → ms.Pairwise (· ≤ ·) → (∀ y ∈ ms, Bt 7000 y) → kr (.fr (encZs ms)) []
theorem sat_numbers_before : Sat 7 sp_numbers_before K46.b_numbers_before := by
  rintro args mus kr kx hm ⟨rs, n, k, rfl, ho, hl, h1k, hb, bn, hk2, hpw, hk⟩
  obtain rfl := mus0 hm
  unfold K46.b_numbers_before
  walk_at "sx"
  refine ⟨fun h => absurd h (by omega), fun h => ?_⟩
  unfold sFor
  walk_at "sx"
  refine ⟨by omega, fun i ρ => ∃ (ms : List Int) (e4 e5 e6 : Sl), ρ = [.sh (mapD rs), .sh (.int n), .sh (.int k), .sh (encZs ms), e4, e5, e6] ∧ ms.length ≤ rs.length ^ i ∧ (∀ y ∈ ms, Bt (5000 + 100 * i) y) ∧ ms.Perm (preN rs n i), ⟨[n], _, _, _, rfl, by simp, by simpa using bn, List.Perm.refl _⟩, fun _ _ _ _ => trivial, ?_, ?_⟩
  · rintro i d ρ hi rfl ⟨ms, e4, e5, e6, rfl, hml, hms, hpm⟩
    have hi : i < k := by omega
    walk_at "sx"
    intro a5
    have pw := hpw i (by omega)
    refine ⟨fun j ρ => ∃ (us : List Int) (e6 : Sl), ρ = [.sh (mapD rs), .sh (.int n), .sh (.int k), .sh (encZs ms), .sh (.int i), .own false a5 (encZs us), e6] ∧ us.length ≤ rs.length * j ∧ (∀ y ∈ us, Bt (5000 + 100 * (i + 1)) y) ∧ us.Perm ((ms.take j).flatMap (preF rs.length rs)), ⟨[], _, rfl, by simp, by simp, by simp⟩, fun _ _ _ _ => trivial, ?_, ?_⟩
    · rintro j d ρ hj hd ⟨us, e6, rfl, hul, hus, hup⟩
      obtain ⟨y, hy, rfl⟩ := get_map hd
      have by' := hms y (List.mem_of_getElem? hy)
      have hj : j < ms.length := by simpa using hj
      have jb : rs.length * j ≤ 12 * 4096 := Nat.mul_le_mul hl (by omega)
      walk_at "sx"
      refine ⟨⟨_, _, _, rfl⟩, rs, y, rfl, ho, h1k, by'.mono (by omega), fun vs q1 q2 => ?_⟩
      have vl : vs.length ≤ rs.length := by rw [q1.length_eq]; exact pre_len _ _ _
      walk_at "sx"
      refine ⟨Nat.le_of_lt (line_big (by omega)), us ++ vs, .sh (.int y), by simp only [encZs, List.map_append], by rw [List.length_append, Nat.mul_succ]; omega, fun z hz => ?_, ?_⟩
      · rcases List.mem_append.mp hz with h | h
        · exact hus z h
        · exact (pre_bt ho hl hb by' (by omega) (q1.mem_iff.mp h)).mono (by omega)
      · rw [take_next hy, List.flatMap_append]
        simp only [List.flatMap_cons, List.flatMap_nil, List.append_nil]
        exact hup.append q1
    · rintro ρ ⟨us, e6, rfl, hul, hus, hup⟩
      walk_at "sx"
      refine ⟨us, _, _, _, rfl, ?_, hus, ?_⟩
      · have h1 : rs.length * ms.length ≤ rs.length * rs.length ^ i := Nat.mul_le_mul_left _ hml
        rw [Nat.pow_succ, Nat.mul_comm (rs.length ^ i)]
        omega
      · rw [List.take_length] at hup
        exact hup.trans (perm_flat hpm)
  rintro ρ ⟨ms, e4, e5, e6, rfl, hml, hms, hpm⟩
  walk_at "sx"
  rw [sort_l]
  refine ⟨ms, rfl, fun ms2 q1 q2 => ?_⟩
  walk_at "sx"
  refine hk ms2 (q1.trans (by simpa using hpm)) q2 fun y hy => (hms y (q1.mem_iff.mp hy)).mono (by omega)
/-! ### the words that meet -/
/- meeting_words: 0:rule_map 1:steps 2:rows 3:found 4:k 5:one 6:a 7:b 8:other 9:other_a 10:other_b -/
end K96
end CD
end TL

namespace TL
open PySem L2
set_option maxHeartbeats 2000000
local macro_rules | `(tactic| walk_at "sx") => `(tactic| try simp only [sSeq, sNil, eDisp1, eDispN, ltT_l, sumT_l, eDIn, eDNotIn, eDSetd, eDNew, eDGet, eDGet2, sDSet, eTake, sAugL, isDc, sCut, ghs_cons, ghs_nil, eKeep, keep_fr, keep_sh, keep_gh, keep_loc, eAd, eDr, eBinG, sAppE, sRevE, sPopE, eFz, fz_sh, fz_fr, fz_gh, fz_loc, ePk, gF, gP, agBg, agMg, agBd, pvw, eCallG, get_gh, stl_gh, pok_gh, owns, List.drop_succ_cons, List.drop_zero, List.take_succ_cons, List.take_zero, List.mem_cons, List.not_mem_nil, or_false, sSet, sFrz, frz_o, frz_sh, frz_s, sIf, sRet, sRetN, sPass, sBrk, sPar, sSub, sApp, sExpr, sAsg, sAug, sFld, sRevI, sPop, eLoc, eC, eUn, eBin, eAnd, eOr, eNot, eIf, eTup, eLst, dNil, dCons, tVal_eq, tstD_bl, tAndW, tOrW, tNotW, eFld_eq, eFldD_o, eProp, eMeth, eMeth0, eSl, pNone, pSome, sl_l,
  out_sh, out_fr, get_loc, get_sh, get_fr, getL_z, getL_o, getL_s, bound_z, bound_o, bound_s, isOwn_o, isOwn_s, pok_loc, pok_sh, pok_fr, stl_loc, stlS_sh, stlS_own, stl_sh, stl_fr, lay_fr, lay_sh, lay_loc, envOf, slotsOf, valN, ghOf, endK, resK, exMu, muN, List.cons_append, List.nil_append, List.append_nil, List.length_cons, List.length_nil, Nat.reduceAdd, Nat.reduceSub, List.replicate_succ, List.replicate_zero, List.replicate,
  List.getElem?_cons_zero, List.getElem?_cons_succ, List.getElem?_nil, List.set_cons_zero, List.set_cons_succ,
  add_ii, add_ss, add_ll, sub_ii, mul_ii, fdv_ii, fdvN_ii, mod_ii, modN_ii, pow_ii, lt_ii, le_ii, gt_ii, ge_ii, eq_ii, ne_ii, ix_li, ix_ti, neg_i, abs_i, int_i, int_b, max_ii, min_ii, len_l, len_t, list_l, list_t, rev_l, isi_int, isi_bl, isi_tup, isi_lst, isi_non, isN_i, isN_n, isN_t, isN_l, notN_i, notN_n, notN_t, notN_l, isTy,
  atI0, atI1, atI2, ixN0, ixN1, ixN2, some_inj_ex, isObj, setAt0, setAt1, setAt2, setAt3, restE, keepS, wipeE, ↓reduceIte, if_false, if_true,
  eCall, eCallP, eMake, pm, eTwo, dLit, eOwn2, eLenO, okLen, eMethP, eMakeP, isC_o, eRepL, lr1_i, lr2_i, List.filterMap_cons, List.filterMap_nil, agNil, agRo, agBo, agMu, agTm, callK, boIx, muIx, tms, argsK, upE, reown, hasBo, noTm, flatRo, noLstAll, noLst, noLsts, List.nodup_nil, List.nodup_cons, List.not_mem_nil, not_false_eq_true, Nat.zero_le, Nat.le_refl, Nat.reduceLeDiff, List.mem_cons, or_false, reduceCtorEq,
  gN, gTp, gLs, gCn, gNl, iR1, iR2, iRL, iLst, iTpl, iEnum, stab,
  ite_self, str_i, fmt_i, fmt_s, isB_b, notB_b, any_l, tup_l, sExt, e0_is, t0_is, d0_is, s0_is, i0_is, sTry, hXk_n, hXk_s, sRaise, eCallX, eCallXP, eMethX, eMakeX, ePropX, eOwn2X, callX, roA, opXv_exn, opIsX_exn, List.map_cons, List.map_nil, Nat.lt_irrefl, Nat.zero_lt_one, Nat.reduceLT, Nat.zero_lt_succ, some_inj_ex,
  Option.isSome_some, Option.isSome_none, true_and, and_true, eq_self, List.length_map, decide_true, decide_false, Bool.not_true, Bool.not_false, not_true_eq_false, Bool.true_eq_false, Bool.false_eq_true, false_imp_iff, forall_const, true_imp_iff, and_self, decide_eq_true_eq, decide_eq_false_iff_not, Bool.not_eq_true', Bool.not_eq_false'])
namespace CD
open MP (Sz)
/-! ### joined maps: fractions -/
section
variable {rs ss : List (Int × Int)}
/-! ### joined maps: integers -/
/-! ### the numbers before: each once -/
theorem pre_iff (h : MapOk rs) {n x : Int} : x ∈ preF rs.length rs n ↔ zStep rs x = n := ⟨fun hx => (pre_mem h hx).1, fun e => by rw [← e]; exact K46.mem_pre h x⟩
theorem walk_head (x : Int) : ∀ n, zWalk rs x (n + 1) = zWalk rs (zStep rs x) n
  | 0 => rfl
  | n + 1 => by
    show zStep rs (zWalk rs x (n + 1)) = zStep rs (zWalk rs (zStep rs x) n)
    rw [walk_head x n]
theorem preN_iff (h : MapOk rs) {y x : Int} : ∀ {n : Nat}, x ∈ K46.preN rs y n ↔ zWalk rs x n = y
  | 0 => by
    show x ∈ [y] ↔ x = y
    rw [List.mem_singleton]
  | n + 1 => by
    show x ∈ (K46.preN rs y n).flatMap (preF rs.length rs) ↔ _
    rw [List.mem_flatMap, walk_head]
    constructor
    · rintro ⟨z, hz, hx⟩
      rw [(pre_iff h).mp hx]
      exact (preN_iff h).mp hz
    · intro e
      exact ⟨zStep rs x, (preN_iff h).mpr e, (pre_iff h).mpr rfl⟩
/-! ### the rules of a join -/
end
end CD
end TL

namespace TL
open PySem L2
set_option maxHeartbeats 2000000
local macro_rules | `(tactic| walk_at "sx") => `(tactic| try simp only [sSeq, sNil, eDisp1, eDispN, ltT_l, sumT_l, eDIn, eDNotIn, eDSetd, eDNew, eDGet, eDGet2, sDSet, eTake, sAugL, isDc, sCut, eNe2, neK, rep_l, ghs_cons, ghs_nil, eKeep, keep_fr, keep_sh, keep_gh, keep_loc, eAd, eDr, eBinG, sAppE, sRevE, sPopE, eFz, fz_sh, fz_fr, fz_gh, fz_loc, ePk, gF, gP, agBg, agMg, agBd, pvw, eCallG, get_gh, stl_gh, pok_gh, owns, List.drop_succ_cons, List.drop_zero, List.take_succ_cons, List.take_zero, List.mem_cons, List.not_mem_nil, or_false, sSet, sFrz, frz_o, frz_sh, frz_s, sIf, sRet, sRetN, sPass, sBrk, sPar, sSub, sApp, sExpr, sAsg, sAug, sFld, sRevI, sPop, eLoc, eC, eUn, eBin, eAnd, eOr, eNot, eIf, eTup, eLst, dNil, dCons, tVal_eq, tstD_bl, tAndW, tOrW, tNotW, eFld_eq, eFldD_o, eProp, eMeth, eMeth0, eSl, pNone, pSome, sl_l,
  out_sh, out_fr, get_loc, get_sh, get_fr, getL_z, getL_o, getL_s, bound_z, bound_o, bound_s, isOwn_o, isOwn_s, pok_loc, pok_sh, pok_fr, stl_loc, stlS_sh, stlS_own, stl_sh, stl_fr, lay_fr, lay_sh, lay_loc, envOf, slotsOf, valN, ghOf, endK, resK, exMu, muN, List.cons_append, List.nil_append, List.append_nil, List.length_cons, List.length_nil, Nat.reduceAdd, Nat.reduceSub, List.replicate_succ, List.replicate_zero, List.replicate,
  List.getElem?_cons_zero, List.getElem?_cons_succ, List.getElem?_nil, List.set_cons_zero, List.set_cons_succ,
  add_ii, add_ss, add_ll, sub_ii, mul_ii, fdv_ii, fdvN_ii, mod_ii, modN_ii, pow_ii, lt_ii, le_ii, gt_ii, ge_ii, eq_ii, ne_ii, ix_li, ix_ti, neg_i, abs_i, int_i, int_b, max_ii, min_ii, len_l, len_t, list_l, list_t, rev_l, isi_int, isi_bl, isi_tup, isi_lst, isi_non, isN_i, isN_n, isN_t, isN_l, notN_i, notN_n, notN_t, notN_l, isTy,
  atI0, atI1, atI2, ixN0, ixN1, ixN2, some_inj_ex, isObj, setAt0, setAt1, setAt2, setAt3, restE, keepS, wipeE, ↓reduceIte, if_false, if_true,
  eCall, eCallP, eMake, pm, eTwo, dLit, eOwn2, eLenO, okLen, eMethP, eMakeP, isC_o, eRepL, lr1_i, lr2_i, List.filterMap_cons, List.filterMap_nil, agNil, agRo, agBo, agMu, agTm, callK, boIx, muIx, tms, argsK, upE, reown, hasBo, noTm, flatRo, noLstAll, noLst, noLsts, List.nodup_nil, List.nodup_cons, List.not_mem_nil, not_false_eq_true, Nat.zero_le, Nat.le_refl, Nat.reduceLeDiff, List.mem_cons, or_false, reduceCtorEq,
  gN, gTp, gLs, gCn, gNl, iR1, iR2, iRL, iLst, iTpl, iEnum, stab,
  ite_self, str_i, fmt_i, fmt_s, isB_b, notB_b, any_l, tup_l, sExt, e0_is, t0_is, d0_is, s0_is, i0_is, sTry, hXk_n, hXk_s, sRaise, eCallX, eCallXP, eMethX, eMakeX, ePropX, eOwn2X, callX, roA, opXv_exn, opIsX_exn, List.map_cons, List.map_nil, Nat.lt_irrefl, Nat.zero_lt_one, Nat.reduceLT, Nat.zero_lt_succ, some_inj_ex,
  Option.isSome_some, Option.isSome_none, true_and, and_true, eq_self, List.length_map, decide_true, decide_false, Bool.not_true, Bool.not_false, not_true_eq_false, Bool.true_eq_false, Bool.false_eq_true, false_imp_iff, forall_const, true_imp_iff, and_self, decide_eq_true_eq, decide_eq_false_iff_not, Bool.not_eq_true', Bool.not_eq_false'])
/-! ### numbers by their endless words -/
namespace NW
open CD (backW backW_spec form_a_size)
open CD.K46 (walk_back low_uniq walkF_u wordF_u wd_word)
section
variable {base : Nat} {rs : List (Int × Int)}
/-- if two places of a walk are one, it comes round -/
theorem comes_some {p : Int × Int} {n i k : Nat} (hik : i < k) (hk : k ≤ n) (h : walkF rs i p = walkF rs k p) : ∃ r, comesF rs p n = some r := by
  cases e : comesF rs p n with
  | some r => exact ⟨r, rfl⟩
  | none =>
    exfalso
    obtain ⟨m, rfl⟩ : ∃ m, k = m + 1 := ⟨k - 1, by omega⟩
    have e1 := comesF_none e (m + 1) hk
    have e0 := comesF_none e m (by omega)
    unfold comesF at e1
    rw [e0] at e1
    have e1 : (idxQ (walkF rs (m + 1) p) (trk rs p (m + 1)) 0).map (fun j => (j, m + 1 - j)) = none := e1
    have e2 := Option.map_eq_none_iff.mp e1
    refine idxQ_none e2 ?_
    unfold trk
    exact List.mem_map.mpr ⟨i, List.mem_range.mpr hik, h⟩
/-- the fraction that goes round by a word: there is one -/
theorem ring_uniq (hr : RulesOk base rs) (h2 : 2 ≤ base) (h6 : base ≤ 60) {q : Int × Int} (hg : Good rs.length q) {n : Nat} (hn : 1 ≤ n) (hw : walkF rs n q = q) : q = ringP rs (wordF rs q n) := by
  have ho := hr.map h2 (by omega)
  have wd := wd_word ho hg n
  have wl : (wordF rs q n).length = n := wordF_len rs q n
  have fw := form_walkU ho hg.2.2 q.1 n
  rw [← wordF_u ho hg] at fw
  have wu := walkF_u ho hg n
  rw [hw] at wu
  obtain ⟨c, hc, e1, e2⟩ := low_gcd (u := uWalk rs q.2 q.1 n) hg.1
  rw [← wu] at e1 e2
  have c1 : c = 1 := by
    have : q.2 * 1 = q.2 * c := by omega
    exact (Int.eq_of_mul_eq_mul_left (by have := hg.1; omega) this).symm
  rw [c1, Int.mul_one] at e1
  rw [e1] at fw
  obtain ⟨g, c, _, _⟩ := ringP_spec ho wd (by omega)
  have ne := ne_scale ho wd (by omega)
  generalize wordF rs q n = ws at *
  generalize ringP rs ws = p at *
  generalize formF rs ws = f at *
  -- both solve one equation
  have h1 : q.1 * (f.2.2 - f.1) = f.2.1 * q.2 := by rw [Int.mul_sub, Int.mul_comm q.1, Int.mul_comm q.1]; omega
  have h3 : p.1 * (f.2.2 - f.1) = f.2.1 * p.2 := by rw [Int.mul_sub, Int.mul_comm p.1, Int.mul_comm p.1]; omega
  have cross : q.1 * p.2 = p.1 * q.2 := by
    have : (q.1 * p.2) * (f.2.2 - f.1) = (p.1 * q.2) * (f.2.2 - f.1) := by
      have a1 : (q.1 * p.2) * (f.2.2 - f.1) = (q.1 * (f.2.2 - f.1)) * p.2 := by grind
      have a2 : (p.1 * q.2) * (f.2.2 - f.1) = (p.1 * (f.2.2 - f.1)) * q.2 := by grind
      rw [a1, a2, h1, h3]; grind
    exact Int.eq_of_mul_eq_mul_right ne this
  have u1 := low_uniq hg.1 hg.2.1 g.1 (t := p.1) (by rw [cross])
  rw [low_self g.2.1] at u1
  exact u1.symm
/-- the number of a word and then another one again and again -/
def numP (rs : List (Int × Int)) (vs ws : List Int) : Int × Int := backW rs (ringP rs ws) vs
theorem num_walk (hr : RulesOk base rs) (h2 : 2 ≤ base) (h6 : base ≤ 60) {vs ws : List Int} (hv : Wd rs.length vs) (hw : Wd rs.length ws) (h1 : 1 ≤ ws.length) : walkF rs vs.length (numP rs vs ws) = ringP rs ws ∧ wordF rs (numP rs vs ws) vs.length = vs :=
  walk_back hr h2 h6 (ringP_spec (hr.map h2 (by omega)) hw h1).1 hv
/-- rounds -/
theorem ring_rounds (ho : MapOk rs) {ws : List Int} (hw : Wd rs.length ws) (h1 : 1 ≤ ws.length) : ∀ t : Nat, walkF rs (t * ws.length) (ringP rs ws) = ringP rs ws ∧ wordF rs (ringP rs ws) (t * ws.length) = (List.replicate t ws).flatten
  | 0 => by rw [Nat.zero_mul]; exact ⟨rfl, rfl⟩
  | t + 1 => by
    obtain ⟨a, b⟩ := ring_rounds ho hw h1 t
    have rr := ring_round ho hw h1
    have rw1 : wordF rs (ringP rs ws) ws.length = ws := by
      obtain ⟨g, _, u, _⟩ := ringP_spec ho hw h1
      rw [wordF_u ho g]
      exact u
    rw [Nat.succ_mul]
    constructor
    · rw [← walkF_add, a, rr]
    · rw [wordF_add, a, b, rw1, List.replicate_succ', List.flatten_append]
      simp
/-! ### the shortest words -/
def endF (rs : List (Int × Int)) (p : Int × Int) (n : Nat) : Option (List Int × List Int) := (comesF rs p n).map fun r => (wordF rs p r.1, (wordF rs p (r.1 + r.2)).drop r.1)
theorem num_comes (hr : RulesOk base rs) (h2 : 2 ≤ base) (h6 : base ≤ 60) {vs ws : List Int} (hv : Wd rs.length vs) (hw : Wd rs.length ws) (h1 : 1 ≤ ws.length) {n : Nat} (hn : vs.length + ws.length ≤ n) : ∃ e, endF rs (numP rs vs ws) n = some e := by
  have ho := hr.map h2 (by omega)
  obtain ⟨a, _⟩ := num_walk hr h2 h6 hv hw h1
  obtain ⟨r, hr1⟩ := comes_some (rs := rs) (p := numP rs vs ws) (n := n) (i := vs.length) (k := vs.length + ws.length) (by omega) hn (by
    rw [← walkF_add, a, ring_round ho hw h1])
  exact ⟨_, by unfold endF; rw [hr1]; rfl⟩
end
end NW
end TL

namespace TL
open PySem L2
set_option maxHeartbeats 2000000
local macro_rules | `(tactic| walk_at "sx") => `(tactic| try simp only [sSeq, sNil, eDisp1, eDispN, ltT_l, sumT_l, eDIn, eDNotIn, eDSetd, eDNew, eDGet, eDGet2, sDSet, eTake, sAugL, isDc, sCut, eNe2, neK, rep_l, ghs_cons, ghs_nil, eKeep, keep_fr, keep_sh, keep_gh, keep_loc, eAd, eDr, eBinG, sAppE, sRevE, sPopE, eFz, fz_sh, fz_fr, fz_gh, fz_loc, ePk, gF, gP, agBg, agMg, agBd, pvw, eCallG, get_gh, stl_gh, pok_gh, owns, List.drop_succ_cons, List.drop_zero, List.take_succ_cons, List.take_zero, List.mem_cons, List.not_mem_nil, or_false, sSet, sFrz, frz_o, frz_sh, frz_s, sIf, sRet, sRetN, sPass, sBrk, sPar, sSub, sApp, sExpr, sAsg, sAug, sFld, sRevI, sPop, eLoc, eC, eUn, eBin, eAnd, eOr, eNot, eIf, eTup, eLst, dNil, dCons, tVal_eq, tstD_bl, tAndW, tOrW, tNotW, eFld_eq, eFldD_o, eProp, eMeth, eMeth0, eSl, pNone, pSome, sl_l,
  out_sh, out_fr, get_loc, get_sh, get_fr, getL_z, getL_o, getL_s, bound_z, bound_o, bound_s, isOwn_o, isOwn_s, pok_loc, pok_sh, pok_fr, stl_loc, stlS_sh, stlS_own, stl_sh, stl_fr, lay_fr, lay_sh, lay_loc, envOf, slotsOf, valN, ghOf, endK, resK, exMu, muN, List.cons_append, List.nil_append, List.append_nil, List.length_cons, List.length_nil, Nat.reduceAdd, Nat.reduceSub, List.replicate_succ, List.replicate_zero, List.replicate,
  List.getElem?_cons_zero, List.getElem?_cons_succ, List.getElem?_nil, List.set_cons_zero, List.set_cons_succ,
  add_ii, add_ss, add_ll, sub_ii, mul_ii, fdv_ii, fdvN_ii, mod_ii, modN_ii, pow_ii, lt_ii, le_ii, gt_ii, ge_ii, eq_ii, ne_ii, ix_li, ix_ti, neg_i, abs_i, int_i, int_b, max_ii, min_ii, len_l, len_t, list_l, list_t, rev_l, isi_int, isi_bl, isi_tup, isi_lst, isi_non, isN_i, isN_n, isN_t, isN_l, notN_i, notN_n, notN_t, notN_l, isTy,
  atI0, atI1, atI2, ixN0, ixN1, ixN2, some_inj_ex, isObj, setAt0, setAt1, setAt2, setAt3, restE, keepS, wipeE, ↓reduceIte, if_false, if_true,
  eCall, eCallP, eMake, pm, eTwo, dLit, eOwn2, eLenO, okLen, eMethP, eMakeP, isC_o, eRepL, lr1_i, lr2_i, List.filterMap_cons, List.filterMap_nil, agNil, agRo, agBo, agMu, agTm, callK, boIx, muIx, tms, argsK, upE, reown, hasBo, noTm, flatRo, noLstAll, noLst, noLsts, List.nodup_nil, List.nodup_cons, List.not_mem_nil, not_false_eq_true, Nat.zero_le, Nat.le_refl, Nat.reduceLeDiff, List.mem_cons, or_false, reduceCtorEq,
  gN, gTp, gLs, gCn, gNl, iR1, iR2, iRL, iLst, iTpl, iEnum, stab,
  ite_self, str_i, fmt_i, fmt_s, isB_b, notB_b, any_l, tup_l, sExt, e0_is, t0_is, d0_is, s0_is, i0_is, sTry, hXk_n, hXk_s, sRaise, eCallX, eCallXP, eMethX, eMakeX, ePropX, eOwn2X, callX, roA, opXv_exn, opIsX_exn, List.map_cons, List.map_nil, Nat.lt_irrefl, Nat.zero_lt_one, Nat.reduceLT, Nat.zero_lt_succ, some_inj_ex,
  Option.isSome_some, Option.isSome_none, true_and, and_true, eq_self, List.length_map, decide_true, decide_false, Bool.not_true, Bool.not_false, not_true_eq_false, Bool.true_eq_false, Bool.false_eq_true, false_imp_iff, forall_const, true_imp_iff, and_self, decide_eq_true_eq, decide_eq_false_iff_not, Bool.not_eq_true', Bool.not_eq_false'])
namespace NW
open CD (backW backW_spec form_a_size)
open CD.K46 (walk_back low_uniq walkF_u wordF_u wd_word)
theorem atI_natC {xs : List D} {q : Nat} (h : q < xs.length) : L2.atI xs (q : Int) = xs[q]? := by
  unfold L2.atI ixN
  rw [if_pos (by omega), if_pos (by omega), Option.bind_some, Int.toNat_natCast]
theorem ring_first {rs : List (Int × Int)} {ws : List Int} (h1 : 1 ≤ ws.length) : L2.atI ((ringL rs ws).map encR) 0 = some (encR (ringP rs ws)) := by
  rw [show (0 : Int) = ((0 : Nat) : Int) from rfl, atI_natC (by rw [List.length_map]; unfold ringL; rw [List.length_map, List.length_range]; omega), List.getElem?_map]
  unfold ringL
  rw [List.getElem?_map, List.getElem?_range (show 0 < ws.length by omega)]
  rfl
abbrev sp_word_round : FSpec := K32.sp_word_round
theorem sat_word_round : Sat 3 sp_word_round K32.b_word_round := K32.sat_word_round
/- number_of: 0:rule_map 1:ahead 2:again 3:top 4:bottom 5:a 6:b 7:scale -/
/- endless_word: 0:rule_map 1:fraction 2:most 3:found 4:first 5:every 6:word -/
end NW
end TL

namespace TL
open PySem L2
set_option maxHeartbeats 2000000
local macro_rules | `(tactic| walk_at "sx") => `(tactic| try simp only [sSeq, sNil, eDisp1, eDispN, ltT_l, sumT_l, eDIn, eDNotIn, eDSetd, eDNew, eDGet, eDGet2, sDSet, eTake, sAugL, isDc, sCut, eNe2, neK, rep_l, ghs_cons, ghs_nil, eKeep, keep_fr, keep_sh, keep_gh, keep_loc, eAd, eDr, eBinG, sAppE, sRevE, sPopE, eFz, fz_sh, fz_fr, fz_gh, fz_loc, ePk, gF, gP, agBg, agMg, agBd, pvw, eCallG, get_gh, stl_gh, pok_gh, owns, List.drop_succ_cons, List.drop_zero, List.take_succ_cons, List.take_zero, List.mem_cons, List.not_mem_nil, or_false, sSet, sFrz, frz_o, frz_sh, frz_s, sIf, sRet, sRetN, sPass, sBrk, sPar, sSub, sApp, sExpr, sAsg, sAug, sFld, sRevI, sPop, eLoc, eC, eUn, eBin, eAnd, eOr, eNot, eIf, eTup, eLst, dNil, dCons, tVal_eq, tstD_bl, tAndW, tOrW, tNotW, eFld_eq, eFldD_o, eProp, eMeth, eMeth0, eSl, pNone, pSome, sl_l,
  out_sh, out_fr, get_loc, get_sh, get_fr, getL_z, getL_o, getL_s, bound_z, bound_o, bound_s, isOwn_o, isOwn_s, pok_loc, pok_sh, pok_fr, stl_loc, stlS_sh, stlS_own, stl_sh, stl_fr, lay_fr, lay_sh, lay_loc, envOf, slotsOf, valN, ghOf, endK, resK, exMu, muN, List.cons_append, List.nil_append, List.append_nil, List.length_cons, List.length_nil, Nat.reduceAdd, Nat.reduceSub, List.replicate_succ, List.replicate_zero, List.replicate,
  List.getElem?_cons_zero, List.getElem?_cons_succ, List.getElem?_nil, List.set_cons_zero, List.set_cons_succ,
  add_ii, add_ss, add_ll, sub_ii, mul_ii, fdv_ii, fdvN_ii, mod_ii, modN_ii, pow_ii, lt_ii, le_ii, gt_ii, ge_ii, eq_ii, ne_ii, ix_li, ix_ti, neg_i, abs_i, int_i, int_b, max_ii, min_ii, len_l, len_t, list_l, list_t, rev_l, isi_int, isi_bl, isi_tup, isi_lst, isi_non, isN_i, isN_n, isN_t, isN_l, notN_i, notN_n, notN_t, notN_l, isTy,
  atI0, atI1, atI2, ixN0, ixN1, ixN2, some_inj_ex, isObj, setAt0, setAt1, setAt2, setAt3, restE, keepS, wipeE, ↓reduceIte, if_false, if_true,
  eCall, eCallP, eMake, pm, eTwo, dLit, eOwn2, eLenO, okLen, eMethP, eMakeP, isC_o, eRepL, lr1_i, lr2_i, List.filterMap_cons, List.filterMap_nil, agNil, agRo, agBo, agMu, agTm, callK, boIx, muIx, tms, argsK, upE, reown, hasBo, noTm, flatRo, noLstAll, noLst, noLsts, List.nodup_nil, List.nodup_cons, List.not_mem_nil, not_false_eq_true, Nat.zero_le, Nat.le_refl, Nat.reduceLeDiff, List.mem_cons, or_false, reduceCtorEq,
  gN, gTp, gLs, gCn, gNl, iR1, iR2, iRL, iLst, iTpl, iEnum, stab,
  ite_self, str_i, fmt_i, fmt_s, isB_b, notB_b, any_l, tup_l, sExt, e0_is, t0_is, d0_is, s0_is, i0_is, sTry, hXk_n, hXk_s, sRaise, eCallX, eCallXP, eMethX, eMakeX, ePropX, eOwn2X, callX, roA, opXv_exn, opIsX_exn, List.map_cons, List.map_nil, Nat.lt_irrefl, Nat.zero_lt_one, Nat.reduceLT, Nat.zero_lt_succ, some_inj_ex,
  Option.isSome_some, Option.isSome_none, true_and, and_true, eq_self, List.length_map, decide_true, decide_false, Bool.not_true, Bool.not_false, not_true_eq_false, Bool.true_eq_false, Bool.false_eq_true, false_imp_iff, forall_const, true_imp_iff, and_self, decide_eq_true_eq, decide_eq_false_iff_not, Bool.not_eq_true', Bool.not_eq_false'])
namespace NW
namespace K87
open CD (backW backW_spec form_a_size)
open CD.K46 (walk_back low_uniq walkF_u wordF_u wd_word)
section
variable {base : Nat} {rs : List (Int × Int)}
structure PairOk (rs : List (Int × Int)) (p : List Int × List Int) : Prop where
  w1 : Wd rs.length p.1
  w2 : Wd rs.length p.2
  l0 : 1 ≤ p.2.length
  l1 : p.1.length ≤ 40
  l2 : p.2.length ≤ 40
  en : ∃ e, endF rs (numP rs p.1 p.2) 12 = some e
end
/- _law_alike: 0:chart 1:pairs 2:values 3:ends 4:k 5:other 6:front 7:back 8:value -/
end K87
end NW
end TL

namespace TL
open PySem L2
namespace NW
namespace K87
open CD (backW backW_spec form_a_size)
open CD.K46 (walk_back low_uniq walkF_u wordF_u wd_word)
set_option maxHeartbeats 2000000
local macro_rules | `(tactic| walk_at "sx") => `(tactic| try simp only [sSeq, sNil, eDisp1, eDispN, ltT_l, sumT_l, eDIn, eDNotIn, eDSetd, eDNew, eDGet, eDGet2, sDSet, eTake, sAugL, isDc, sCut, eNe2, neK, rep_l, ghs_cons, ghs_nil, eKeep, keep_fr, keep_sh, keep_gh, keep_loc, eAd, eDr, eBinG, sAppE, sRevE, sPopE, eFz, fz_sh, fz_fr, fz_gh, fz_loc, ePk, gF, gP, agBg, agMg, agBd, pvw, eCallG, get_gh, stl_gh, pok_gh, owns, List.drop_succ_cons, List.drop_zero, List.take_succ_cons, List.take_zero, List.mem_cons, List.not_mem_nil, or_false, sSet, sFrz, frz_o, frz_sh, frz_s, sIf, sRet, sRetN, sPass, sBrk, sPar, sSub, sApp, sExpr, sAsg, sAug, sFld, sRevI, sPop, eLoc, eC, eUn, eBin, eAnd, eOr, eNot, eIf, eTup, eLst, dNil, dCons, tVal_eq, tstD_bl, tAndW, tOrW, tNotW, eFld_eq, eFldD_o, eProp, eMeth, eMeth0, eSl, pNone, pSome, sl_l,
  out_sh, out_fr, get_loc, get_sh, get_fr, getL_z, getL_o, getL_s, bound_z, bound_o, bound_s, isOwn_o, isOwn_s, pok_loc, pok_sh, pok_fr, stl_loc, stlS_sh, stlS_own, stl_sh, stl_fr, lay_fr, lay_sh, lay_loc, envOf, slotsOf, valN, ghOf, endK, resK, exMu, muN, List.cons_append, List.nil_append, List.append_nil, List.length_cons, List.length_nil, Nat.reduceAdd, Nat.reduceSub, List.replicate_succ, List.replicate_zero, List.replicate,
  List.getElem?_cons_zero, List.getElem?_cons_succ, List.getElem?_nil, List.set_cons_zero, List.set_cons_succ,
  add_ii, add_ss, add_ll, sub_ii, mul_ii, fdv_ii, fdvN_ii, mod_ii, modN_ii, pow_ii, lt_ii, le_ii, gt_ii, ge_ii, eq_ii, ne_ii, ix_li, ix_ti, neg_i, abs_i, int_i, int_b, max_ii, min_ii, len_l, len_t, list_l, list_t, rev_l, isi_int, isi_bl, isi_tup, isi_lst, isi_non, isN_i, isN_n, isN_t, isN_l, notN_i, notN_n, notN_t, notN_l, isTy,
  atI0, atI1, atI2, ixN0, ixN1, ixN2, some_inj_ex, isObj, setAt0, setAt1, setAt2, setAt3, restE, keepS, wipeE, ↓reduceIte, if_false, if_true,
  eCall, eCallP, eMake, pm, eTwo, dLit, eOwn2, eLenO, okLen, eMethP, eMakeP, isC_o, eRepL, lr1_i, lr2_i, List.filterMap_cons, List.filterMap_nil, agNil, agRo, agBo, agMu, agTm, callK, boIx, muIx, tms, argsK, upE, reown, hasBo, noTm, flatRo, noLstAll, noLst, noLsts, List.nodup_nil, List.nodup_cons, List.not_mem_nil, not_false_eq_true, Nat.zero_le, Nat.le_refl, Nat.reduceLeDiff, List.mem_cons, or_false, reduceCtorEq,
  gN, gTp, gLs, gCn, gNl, iR1, iR2, iRL, iLst, iTpl, iEnum, stab,
  ite_self, str_i, fmt_i, fmt_s, isB_b, notB_b, any_l, tup_l, sExt, e0_is, t0_is, d0_is, s0_is, i0_is, sTry, hXk_n, hXk_s, sRaise, eCallX, eCallXP, eMethX, eMakeX, ePropX, eOwn2X, callX, roA, opXv_exn, opIsX_exn, List.map_cons, List.map_nil, Nat.lt_irrefl, Nat.zero_lt_one, Nat.reduceLT, Nat.zero_lt_succ, some_inj_ex,
  Option.isSome_some, Option.isSome_none, true_and, and_true, eq_self, List.length_map, decide_true, decide_false, Bool.not_true, Bool.not_false, not_true_eq_false, Bool.true_eq_false, Bool.false_eq_true, false_imp_iff, forall_const, true_imp_iff, and_self, decide_eq_true_eq, decide_eq_false_iff_not, Bool.not_eq_true', Bool.not_eq_false'])
section
variable {base : Nat} {rs : List (Int × Int)}
theorem wd_apK {m : Int} {a b : List Int} (h1 : Wd m a) (h2 : Wd m b) : Wd m (a ++ b) := fun e he => (List.mem_append.mp he).elim (h1 e) (h2 e)
theorem wd_takeK {m : Int} {a : List Int} (h : Wd m a) (n : Nat) : Wd m (a.take n) := fun e he => h e (List.mem_of_mem_take he)
theorem wd_dropK {m : Int} {a : List Int} (h : Wd m a) (n : Nat) : Wd m (a.drop n) := fun e he => h e (List.mem_of_mem_drop he)
theorem PairOk.of (hr : RulesOk base rs) (h2 : 2 ≤ base) (h6 : base ≤ 60) {v w : List Int} (w1 : Wd rs.length v) (w2 : Wd rs.length w) (l0 : 1 ≤ w.length) (hl : v.length + w.length ≤ 12) : PairOk rs (v, w) :=
  ⟨w1, w2, l0, by show v.length ≤ 40; omega, by show w.length ≤ 40; omega, num_comes hr h2 h6 w1 w2 l0 hl⟩
end
/- _law_right: 0:source 1:chart 2:base 3:front 4:middle 5:back 6:spot 7:pairs 8:first 9:value 10:times 11:count -/
/- law: 0:script 1:source 2:base 3:rules 4:chart 5:k -/
end K87
end NW
end TL

namespace TL
open PySem L2
set_option maxHeartbeats 2000000
local macro_rules | `(tactic| walk_at "sx") => `(tactic| try simp only [sSeq, sNil, eDisp1, eDispN, ltT_l, sumT_l, eDIn, eDNotIn, eDSetd, eDNew, eDGet, eDGet2, sDSet, eTake, sAugL, isDc, sCut, eNe2, neK, rep_l, ghs_cons, ghs_nil, eKeep, keep_fr, keep_sh, keep_gh, keep_loc, eAd, eDr, eBinG, sAppE, sRevE, sPopE, eFz, fz_sh, fz_fr, fz_gh, fz_loc, ePk, gF, gP, agBg, agMg, agBd, pvw, eCallG, get_gh, stl_gh, pok_gh, owns, List.drop_succ_cons, List.drop_zero, List.take_succ_cons, List.take_zero, List.mem_cons, List.not_mem_nil, or_false, sSet, sFrz, frz_o, frz_sh, frz_s, sIf, sRet, sRetN, sPass, sBrk, sPar, sSub, sApp, sExpr, sAsg, sAug, sFld, sRevI, sPop, eLoc, eC, eUn, eBin, eAnd, eOr, eNot, eIf, eTup, eLst, dNil, dCons, tVal_eq, tstD_bl, tAndW, tOrW, tNotW, eFld_eq, eFldD_o, eProp, eMeth, eMeth0, eSl, pNone, pSome, sl_l,
  out_sh, out_fr, get_loc, get_sh, get_fr, getL_z, getL_o, getL_s, bound_z, bound_o, bound_s, isOwn_o, isOwn_s, pok_loc, pok_sh, pok_fr, stl_loc, stlS_sh, stlS_own, stl_sh, stl_fr, lay_fr, lay_sh, lay_loc, envOf, slotsOf, valN, ghOf, endK, resK, exMu, muN, List.cons_append, List.nil_append, List.append_nil, List.length_cons, List.length_nil, Nat.reduceAdd, Nat.reduceSub, List.replicate_succ, List.replicate_zero, List.replicate,
  List.getElem?_cons_zero, List.getElem?_cons_succ, List.getElem?_nil, List.set_cons_zero, List.set_cons_succ,
  add_ii, add_ss, add_ll, sub_ii, mul_ii, fdv_ii, fdvN_ii, mod_ii, modN_ii, pow_ii, lt_ii, le_ii, gt_ii, ge_ii, eq_ii, ne_ii, ix_li, ix_ti, neg_i, abs_i, int_i, int_b, max_ii, min_ii, len_l, len_t, list_l, list_t, rev_l, isi_int, isi_bl, isi_tup, isi_lst, isi_non, isN_i, isN_n, isN_t, isN_l, notN_i, notN_n, notN_t, notN_l, isTy,
  atI0, atI1, atI2, ixN0, ixN1, ixN2, some_inj_ex, isObj, setAt0, setAt1, setAt2, setAt3, restE, keepS, wipeE, ↓reduceIte, if_false, if_true,
  eCall, eCallP, eMake, pm, eTwo, dLit, eOwn2, eLenO, okLen, eMethP, eMakeP, isC_o, eRepL, lr1_i, lr2_i, List.filterMap_cons, List.filterMap_nil, agNil, agRo, agBo, agMu, agTm, callK, boIx, muIx, tms, argsK, upE, reown, hasBo, noTm, flatRo, noLstAll, noLst, noLsts, List.nodup_nil, List.nodup_cons, List.not_mem_nil, not_false_eq_true, Nat.zero_le, Nat.le_refl, Nat.reduceLeDiff, List.mem_cons, or_false, reduceCtorEq,
  gN, gTp, gLs, gCn, gNl, iR1, iR2, iRL, iLst, iTpl, iEnum, stab,
  ite_self, str_i, fmt_i, fmt_s, isB_b, notB_b, any_l, tup_l, sExt, e0_is, t0_is, d0_is, s0_is, i0_is, sTry, hXk_n, hXk_s, sRaise, eCallX, eCallXP, eMethX, eMakeX, ePropX, eOwn2X, callX, roA, opXv_exn, opIsX_exn, List.map_cons, List.map_nil, Nat.lt_irrefl, Nat.zero_lt_one, Nat.reduceLT, Nat.zero_lt_succ, some_inj_ex,
  Option.isSome_some, Option.isSome_none, true_and, and_true, eq_self, List.length_map, decide_true, decide_false, Bool.not_true, Bool.not_false, not_true_eq_false, Bool.true_eq_false, Bool.false_eq_true, false_imp_iff, forall_const, true_imp_iff, and_self, decide_eq_true_eq, decide_eq_false_iff_not, Bool.not_eq_true', Bool.not_eq_false'])
namespace NW
namespace K33
open CD (backW backW_spec form_a_size)
open CD.K46 (walk_back low_uniq walkF_u wordF_u wd_word)
open K87 (wd_apK wd_takeK wd_dropK)
section
variable {base : Nat} {rs : List (Int × Int)} {p : Int × Int} {n j k : Nat}
theorem apart (h : comesF rs p n = some (j, k)) {i t : Nat} (hi : i < t) (ht : t < j + k) : walkF rs i p ≠ walkF rs t p := fun e => by
  obtain ⟨c1, _, _, c4, _⟩ := comesF_at h
  have c4 : comesF rs p (j + k - 1) = none := c4
  obtain ⟨r, hr⟩ := comes_some (n := j + k - 1) hi (by omega) e
  rw [c4] at hr
  cases hr
theorem rep_walk {e : Nat} {x : Int × Int} (h : walkF rs e x = x) : ∀ t, walkF rs (e * t) x = x
  | 0 => rfl
  | t + 1 => by
    rw [Nat.mul_succ, ← walkF_add, rep_walk h t, h]
theorem per_ge (h : comesF rs p n = some (j, k)) {m : Nat} (hm : j ≤ m) : walkF rs k (walkF rs m p) = walkF rs m p := by
  obtain ⟨_, _, _, _, c5⟩ := comesF_at h
  have c5 : walkF rs j p = walkF rs (j + k) p := c5
  obtain ⟨d, rfl⟩ := Nat.exists_eq_add_of_le hm
  rw [walkF_add, show j + d + k = j + k + d by omega, ← walkF_add rs (j + k) p d, ← c5, walkF_add]
/-- where the walk goes round, by steps that the least period divides -/
theorem per_of (h : comesF rs p n = some (j, k)) {m e : Nat} (he : 1 ≤ e) (hw : walkF rs e (walkF rs m p) = walkF rs m p) : j ≤ m ∧ k ∣ e := by
  obtain ⟨c1, _, _, _, c5⟩ := comesF_at h
  have c1 : 1 ≤ k := c1
  have hj : j ≤ m := by
    by_cases hj : j ≤ m
    · exact hj
    exfalso
    have r := rep_walk hw j
    have e1 : walkF rs k (walkF rs m p) = walkF rs m p := by
      have q := per_ge h (m := m + e * j) (by have : j ≤ e * j := Nat.le_mul_of_pos_left j (by omega)
                                              omega)
      rw [← walkF_add rs m p (e * j), r] at q
      exact q
    rw [walkF_add] at e1
    exact apart h (show m < m + k by omega) (by omega) e1.symm
  refine ⟨hj, ?_⟩
  obtain ⟨d, rfl⟩ := Nat.exists_eq_add_of_le hj
  have pk := per_ge h hj
  have er : walkF rs (e % k) (walkF rs (j + d) p) = walkF rs (j + d) p := by
    have e0 : k * (e / k) + e % k = e := Nat.div_add_mod e k
    have q := hw
    rw [← e0, ← walkF_add, rep_walk pk (e / k)] at q
    exact q
  by_cases h0 : e % k = 0
  · exact Nat.dvd_of_mod_eq_zero h0
  exfalso
  have lt : e % k < k := Nat.mod_lt _ (by omega)
  have kd : d ≤ k * d := Nat.le_mul_of_pos_left d (by omega)
  have s1 : walkF rs (k * d - d) (walkF rs (j + d) p) = walkF rs j p := by
    rw [walkF_add, show j + d + (k * d - d) = j + k * d by omega, ← walkF_add, rep_walk (per_ge h (Nat.le_refl j)) d]
  have s2 : walkF rs (e % k) (walkF rs j p) = walkF rs j p := by
    rw [← s1, walkF_add, walkF_add, show j + d + (k * d - d + e % k) = (j + d + e % k) + (k * d - d) by omega, ← walkF_add, ← walkF_add rs (j + d) p (e % k), er]
  rw [walkF_add] at s2
  exact apart h (show j < j + e % k by omega) (by omega) s2.symm
/-- the ring of a word turned -/
theorem rot_ring (hr : RulesOk base rs) (h2 : 2 ≤ base) (h6 : base ≤ 60) {ws : List Int} (hw : Wd rs.length ws) (h1 : 1 ≤ ws.length) {s : Nat} (hs : s ≤ ws.length) : walkF rs s (ringP rs ws) = ringP rs (ws.drop s ++ ws.take s) ∧ wordF rs (ringP rs ws) s = ws.take s := by
  have ho := hr.map h2 (by omega)
  obtain ⟨g, _⟩ := ringP_spec ho hw h1
  obtain ⟨w1, w2⟩ := ring_rounds ho hw h1 1
  rw [Nat.one_mul] at w1 w2
  have w2 : wordF rs (ringP rs ws) ws.length = ws := by rw [w2]; simp
  have hsp := wordF_add rs (ringP rs ws) s (ws.length - s)
  rw [show s + (ws.length - s) = ws.length by omega, w2] at hsp
  have hT : wordF rs (ringP rs ws) s = ws.take s := by
    have := congrArg (List.take s) hsp
    rw [List.take_left' (wordF_len _ _ _)] at this
    exact this.symm
  have hD : wordF rs (walkF rs s (ringP rs ws)) (ws.length - s) = ws.drop s := by
    have := congrArg (List.drop s) hsp
    rw [List.drop_left' (wordF_len _ _ _)] at this
    exact this.symm
  have e1 := wordF_add rs (walkF rs s (ringP rs ws)) (ws.length - s) s
  rw [walkF_add, show s + (ws.length - s) = ws.length by omega, w1, hT, hD, show ws.length - s + s = ws.length by omega] at e1
  have e2 : walkF rs ws.length (walkF rs s (ringP rs ws)) = walkF rs s (ringP rs ws) := by
    rw [walkF_add, Nat.add_comm, ← walkF_add, w1]
  have q := ring_uniq hr h2 h6 (walkF_good g s) h1 e2
  rw [e1] at q
  exact ⟨q, hT⟩
/-- a word that repeats its beginning: the ring is round after it -/
theorem pow_round (hr : RulesOk base rs) (h2 : 2 ≤ base) (h6 : base ≤ 60) {ws : List Int} (hw : Wd rs.length ws) (h1 : 1 ≤ ws.length) {c : Nat} (hc : c ≤ ws.length) (he : (List.replicate (ws.length / c) (ws.take c)).flatten = ws) : walkF rs c (ringP rs ws) = ringP rs ws := by
  rw [(rot_ring hr h2 h6 hw h1 hc).1]
  congr 1
  obtain ⟨q, hq⟩ : ∃ q, ws.length / c = q := ⟨_, rfl⟩
  rw [hq] at he
  cases q with
  | zero =>
    rw [← he] at h1
    simp at h1
  | succ q =>
    have lt : (ws.take c).length = c := by rw [List.length_take]; omega
    have hd : ws.drop c = (List.replicate q (ws.take c)).flatten := by
      conv => lhs; rw [← he]
      rw [List.replicate_succ, List.flatten_cons, List.drop_left' lt]
    have hs : (List.replicate (q + 1) (ws.take c)).flatten = (List.replicate q (ws.take c)).flatten ++ ws.take c := by
      rw [List.replicate_succ', List.flatten_append]
      simp
    rw [hd, ← hs, he]
/-- of the words that a word repeats the shortest is as long as the ring -/
theorem root (hr : RulesOk base rs) (h2 : 2 ≤ base) (h6 : base ≤ 60) {vs ws : List Int} (hv : Wd rs.length vs) (hw : Wd rs.length ws) (h1 : 1 ≤ ws.length) (h : comesF rs (numP rs vs ws) n = some (j, k)) : j ≤ vs.length ∧ 1 ≤ k ∧ k ∣ ws.length ∧ (List.replicate (ws.length / k) (ws.take k)).flatten = ws ∧ ∀ c, 1 ≤ c → c ≤ ws.length → (List.replicate (ws.length / c) (ws.take c)).flatten = ws → k ∣ c := by
  have ho := hr.map h2 (by omega)
  obtain ⟨a, b⟩ := num_walk hr h2 h6 hv hw h1
  have rr := ring_round ho hw h1
  rw [← a] at rr
  obtain ⟨e1, e2⟩ := per_of h h1 rr
  have k1 : 1 ≤ k := (comesF_at h).1
  obtain ⟨t, ht⟩ := e2
  have hk : k ≤ ws.length := Nat.le_of_dvd (by omega) ⟨t, ht⟩
  have pk := per_ge h e1
  rw [a] at pk
  refine ⟨e1, k1, ⟨t, ht⟩, ?_, fun c c1 c2 hc => ?_⟩
  · have et : ws.length / k = t := by rw [ht]; exact Nat.mul_div_cancel_left t (by omega)
    rw [et, ← (rot_ring hr h2 h6 hw h1 hk).2]
    have wl : (wordF rs (ringP rs ws) k).length = k := wordF_len _ _ _
    obtain ⟨g, _⟩ := ringP_spec ho hw h1
    have q := ring_uniq hr h2 h6 g k1 pk
    have r := (ring_rounds ho (wd_word ho g k) (by rw [wl]; exact k1) t).2
    rw [← q, wl] at r
    rw [← r, Nat.mul_comm, ← ht]
    have w2 := (ring_rounds ho hw h1 1).2
    rw [Nat.one_mul] at w2
    rw [w2]
    simp
  · have := pow_round hr h2 h6 hw h1 c2 hc
    rw [← a] at this
    exact (per_of h c1 this).2
end
end K33
end NW
end TL

namespace TL
open PySem L2
namespace NW
namespace K33
open CD (backW backW_spec form_a_size)
open CD.K46 (walk_back low_uniq walkF_u wordF_u wd_word)
open K87 (wd_apK wd_takeK wd_dropK)
set_option maxHeartbeats 2000000
local macro_rules | `(tactic| walk_at "sx") => `(tactic| try simp only [sSeq, sNil, eDisp1, eDispN, ltT_l, sumT_l, eDIn, eDNotIn, eDSetd, eDNew, eDGet, eDGet2, sDSet, eTake, sAugL, isDc, sCut, eNe2, neK, rep_l, ghs_cons, ghs_nil, eKeep, keep_fr, keep_sh, keep_gh, keep_loc, eAd, eDr, eBinG, sAppE, sRevE, sPopE, eFz, fz_sh, fz_fr, fz_gh, fz_loc, ePk, gF, gP, agBg, agMg, agBd, pvw, eCallG, get_gh, stl_gh, pok_gh, owns, List.drop_succ_cons, List.drop_zero, List.take_succ_cons, List.take_zero, List.mem_cons, List.not_mem_nil, or_false, sSet, sFrz, frz_o, frz_sh, frz_s, sIf, sRet, sRetN, sPass, sBrk, sPar, sSub, sApp, sExpr, sAsg, sAug, sFld, sRevI, sPop, eLoc, eC, eUn, eBin, eAnd, eOr, eNot, eIf, eTup, eLst, dNil, dCons, tVal_eq, tstD_bl, tAndW, tOrW, tNotW, eFld_eq, eFldD_o, eProp, eMeth, eMeth0, eSl, pNone, pSome, sl_l,
  out_sh, out_fr, get_loc, get_sh, get_fr, getL_z, getL_o, getL_s, bound_z, bound_o, bound_s, isOwn_o, isOwn_s, pok_loc, pok_sh, pok_fr, stl_loc, stlS_sh, stlS_own, stl_sh, stl_fr, lay_fr, lay_sh, lay_loc, envOf, slotsOf, valN, ghOf, endK, resK, exMu, muN, List.cons_append, List.nil_append, List.append_nil, List.length_cons, List.length_nil, Nat.reduceAdd, Nat.reduceSub, List.replicate_succ, List.replicate_zero, List.replicate,
  List.getElem?_cons_zero, List.getElem?_cons_succ, List.getElem?_nil, List.set_cons_zero, List.set_cons_succ,
  add_ii, add_ss, add_ll, sub_ii, mul_ii, fdv_ii, fdvN_ii, mod_ii, modN_ii, pow_ii, lt_ii, le_ii, gt_ii, ge_ii, eq_ii, ne_ii, ix_li, ix_ti, neg_i, abs_i, int_i, int_b, max_ii, min_ii, len_l, len_t, list_l, list_t, rev_l, isi_int, isi_bl, isi_tup, isi_lst, isi_non, isN_i, isN_n, isN_t, isN_l, notN_i, notN_n, notN_t, notN_l, isTy,
  atI0, atI1, atI2, ixN0, ixN1, ixN2, some_inj_ex, isObj, setAt0, setAt1, setAt2, setAt3, restE, keepS, wipeE, ↓reduceIte, if_false, if_true,
  eCall, eCallP, eMake, pm, eTwo, dLit, eOwn2, eLenO, okLen, eMethP, eMakeP, isC_o, eRepL, lr1_i, lr2_i, List.filterMap_cons, List.filterMap_nil, agNil, agRo, agBo, agMu, agTm, callK, boIx, muIx, tms, argsK, upE, reown, hasBo, noTm, flatRo, noLstAll, noLst, noLsts, List.nodup_nil, List.nodup_cons, List.not_mem_nil, not_false_eq_true, Nat.zero_le, Nat.le_refl, Nat.reduceLeDiff, List.mem_cons, or_false, reduceCtorEq,
  gN, gTp, gLs, gCn, gNl, iR1, iR2, iRL, iLst, iTpl, iEnum, stab,
  ite_self, str_i, fmt_i, fmt_s, isB_b, notB_b, any_l, tup_l, sExt, e0_is, t0_is, d0_is, s0_is, i0_is, sTry, hXk_n, hXk_s, sRaise, eCallX, eCallXP, eMethX, eMakeX, ePropX, eOwn2X, callX, roA, opXv_exn, opIsX_exn, List.map_cons, List.map_nil, Nat.lt_irrefl, Nat.zero_lt_one, Nat.reduceLT, Nat.zero_lt_succ, some_inj_ex,
  Option.isSome_some, Option.isSome_none, true_and, and_true, eq_self, List.length_map, decide_true, decide_false, Bool.not_true, Bool.not_false, not_true_eq_false, Bool.true_eq_false, Bool.false_eq_true, false_imp_iff, forall_const, true_imp_iff, and_self, decide_eq_true_eq, decide_eq_false_iff_not, Bool.not_eq_true', Bool.not_eq_false'])
/- _law_later: 0:front 1:back 2:count 3:spot -/
/- _law_shortest: 0:front 1:back 2:shorter 3:count 4:turn -/
end K33
end NW
end TL

namespace TL
open PySem L2
namespace NW
namespace K33
open CD (backW backW_spec form_a_size)
open CD.K46 (walk_back low_uniq walkF_u wordF_u wd_word)
open K87 (wd_apK wd_takeK wd_dropK)
set_option maxHeartbeats 2000000
local macro_rules | `(tactic| walk_at "sx") => `(tactic| try simp only [sSeq, sNil, eDisp1, eDispN, ltT_l, sumT_l, eDIn, eDNotIn, eDSetd, eDNew, eDGet, eDGet2, sDSet, eTake, sAugL, isDc, sCut, eNe2, neK, rep_l, ghs_cons, ghs_nil, eKeep, keep_fr, keep_sh, keep_gh, keep_loc, eAd, eDr, eBinG, sAppE, sRevE, sPopE, eFz, fz_sh, fz_fr, fz_gh, fz_loc, ePk, gF, gP, agBg, agMg, agBd, pvw, eCallG, get_gh, stl_gh, pok_gh, owns, List.drop_succ_cons, List.drop_zero, List.take_succ_cons, List.take_zero, List.mem_cons, List.not_mem_nil, or_false, sSet, sFrz, frz_o, frz_sh, frz_s, sIf, sRet, sRetN, sPass, sBrk, sPar, sSub, sApp, sExpr, sAsg, sAug, sFld, sRevI, sPop, eLoc, eC, eUn, eBin, eAnd, eOr, eNot, eIf, eTup, eLst, dNil, dCons, tVal_eq, tstD_bl, tAndW, tOrW, tNotW, eFld_eq, eFldD_o, eProp, eMeth, eMeth0, eSl, pNone, pSome, sl_l,
  out_sh, out_fr, get_loc, get_sh, get_fr, getL_z, getL_o, getL_s, bound_z, bound_o, bound_s, isOwn_o, isOwn_s, pok_loc, pok_sh, pok_fr, stl_loc, stlS_sh, stlS_own, stl_sh, stl_fr, lay_fr, lay_sh, lay_loc, envOf, slotsOf, valN, ghOf, endK, resK, exMu, muN, List.cons_append, List.nil_append, List.append_nil, List.length_cons, List.length_nil, Nat.reduceAdd, Nat.reduceSub, List.replicate_succ, List.replicate_zero, List.replicate,
  List.getElem?_cons_zero, List.getElem?_cons_succ, List.getElem?_nil, List.set_cons_zero, List.set_cons_succ,
  add_ii, add_ss, add_ll, sub_ii, mul_ii, fdv_ii, fdvN_ii, mod_ii, modN_ii, pow_ii, lt_ii, le_ii, gt_ii, ge_ii, eq_ii, ne_ii, ix_li, ix_ti, neg_i, abs_i, int_i, int_b, max_ii, min_ii, len_l, len_t, list_l, list_t, rev_l, isi_int, isi_bl, isi_tup, isi_lst, isi_non, isN_i, isN_n, isN_t, isN_l, notN_i, notN_n, notN_t, notN_l, isTy,
  atI0, atI1, atI2, ixN0, ixN1, ixN2, some_inj_ex, isObj, setAt0, setAt1, setAt2, setAt3, restE, keepS, wipeE, ↓reduceIte, if_false, if_true,
  eCall, eCallP, eMake, pm, eTwo, dLit, eOwn2, eLenO, okLen, eMethP, eMakeP, isC_o, eRepL, lr1_i, lr2_i, List.filterMap_cons, List.filterMap_nil, agNil, agRo, agBo, agMu, agTm, callK, boIx, muIx, tms, argsK, upE, reown, hasBo, noTm, flatRo, noLstAll, noLst, noLsts, List.nodup_nil, List.nodup_cons, List.not_mem_nil, not_false_eq_true, Nat.zero_le, Nat.le_refl, Nat.reduceLeDiff, List.mem_cons, or_false, reduceCtorEq,
  gN, gTp, gLs, gCn, gNl, iR1, iR2, iRL, iLst, iTpl, iEnum, stab,
  ite_self, str_i, fmt_i, fmt_s, isB_b, notB_b, any_l, tup_l, sExt, e0_is, t0_is, d0_is, s0_is, i0_is, sTry, hXk_n, hXk_s, sRaise, eCallX, eCallXP, eMethX, eMakeX, ePropX, eOwn2X, callX, roA, opXv_exn, opIsX_exn, List.map_cons, List.map_nil, Nat.lt_irrefl, Nat.zero_lt_one, Nat.reduceLT, Nat.zero_lt_succ, some_inj_ex,
  Option.isSome_some, Option.isSome_none, true_and, and_true, eq_self, List.length_map, decide_true, decide_false, Bool.not_true, Bool.not_false, not_true_eq_false, Bool.true_eq_false, Bool.false_eq_true, false_imp_iff, forall_const, true_imp_iff, and_self, decide_eq_true_eq, decide_eq_false_iff_not, Bool.not_eq_true', Bool.not_eq_false'])
/- _law_right: 0:chart 1:base 2:rules 3:front 4:back 5:count 6:passed 7:found 8:places 9:path 10:later 11:short -/
end K33
end NW
end TL

namespace TL
open PySem L2
namespace NW
namespace K33
open CD (backW backW_spec form_a_size)
open CD.K46 (walk_back low_uniq walkF_u wordF_u wd_word)
open K87 (wd_apK wd_takeK wd_dropK)
set_option maxHeartbeats 2000000
local macro_rules | `(tactic| walk_at "sx") => `(tactic| try simp only [sSeq, sNil, eDisp1, eDispN, ltT_l, sumT_l, eDIn, eDNotIn, eDSetd, eDNew, eDGet, eDGet2, sDSet, eTake, sAugL, isDc, sCut, eNe2, neK, rep_l, ghs_cons, ghs_nil, eKeep, keep_fr, keep_sh, keep_gh, keep_loc, eAd, eDr, eBinG, sAppE, sRevE, sPopE, eFz, fz_sh, fz_fr, fz_gh, fz_loc, ePk, gF, gP, agBg, agMg, agBd, pvw, eCallG, get_gh, stl_gh, pok_gh, owns, List.drop_succ_cons, List.drop_zero, List.take_succ_cons, List.take_zero, List.mem_cons, List.not_mem_nil, or_false, sSet, sFrz, frz_o, frz_sh, frz_s, sIf, sRet, sRetN, sPass, sBrk, sPar, sSub, sApp, sExpr, sAsg, sAug, sFld, sRevI, sPop, eLoc, eC, eUn, eBin, eAnd, eOr, eNot, eIf, eTup, eLst, dNil, dCons, tVal_eq, tstD_bl, tAndW, tOrW, tNotW, eFld_eq, eFldD_o, eProp, eMeth, eMeth0, eSl, pNone, pSome, sl_l,
  out_sh, out_fr, get_loc, get_sh, get_fr, getL_z, getL_o, getL_s, bound_z, bound_o, bound_s, isOwn_o, isOwn_s, pok_loc, pok_sh, pok_fr, stl_loc, stlS_sh, stlS_own, stl_sh, stl_fr, lay_fr, lay_sh, lay_loc, envOf, slotsOf, valN, ghOf, endK, resK, exMu, muN, List.cons_append, List.nil_append, List.append_nil, List.length_cons, List.length_nil, Nat.reduceAdd, Nat.reduceSub, List.replicate_succ, List.replicate_zero, List.replicate,
  List.getElem?_cons_zero, List.getElem?_cons_succ, List.getElem?_nil, List.set_cons_zero, List.set_cons_succ,
  add_ii, add_ss, add_ll, sub_ii, mul_ii, fdv_ii, fdvN_ii, mod_ii, modN_ii, pow_ii, lt_ii, le_ii, gt_ii, ge_ii, eq_ii, ne_ii, ix_li, ix_ti, neg_i, abs_i, int_i, int_b, max_ii, min_ii, len_l, len_t, list_l, list_t, rev_l, isi_int, isi_bl, isi_tup, isi_lst, isi_non, isN_i, isN_n, isN_t, isN_l, notN_i, notN_n, notN_t, notN_l, isTy,
  atI0, atI1, atI2, ixN0, ixN1, ixN2, some_inj_ex, isObj, setAt0, setAt1, setAt2, setAt3, restE, keepS, wipeE, ↓reduceIte, if_false, if_true,
  eCall, eCallP, eMake, pm, eTwo, dLit, eOwn2, eLenO, okLen, eMethP, eMakeP, isC_o, eRepL, lr1_i, lr2_i, List.filterMap_cons, List.filterMap_nil, agNil, agRo, agBo, agMu, agTm, callK, boIx, muIx, tms, argsK, upE, reown, hasBo, noTm, flatRo, noLstAll, noLst, noLsts, List.nodup_nil, List.nodup_cons, List.not_mem_nil, not_false_eq_true, Nat.zero_le, Nat.le_refl, Nat.reduceLeDiff, List.mem_cons, or_false, reduceCtorEq,
  gN, gTp, gLs, gCn, gNl, iR1, iR2, iRL, iLst, iTpl, iEnum, stab,
  ite_self, str_i, fmt_i, fmt_s, isB_b, notB_b, any_l, tup_l, sExt, e0_is, t0_is, d0_is, s0_is, i0_is, sTry, hXk_n, hXk_s, sRaise, eCallX, eCallXP, eMethX, eMakeX, ePropX, eOwn2X, callX, roA, opXv_exn, opIsX_exn, List.map_cons, List.map_nil, Nat.lt_irrefl, Nat.zero_lt_one, Nat.reduceLT, Nat.zero_lt_succ, some_inj_ex,
  Option.isSome_some, Option.isSome_none, true_and, and_true, eq_self, List.length_map, decide_true, decide_false, Bool.not_true, Bool.not_false, not_true_eq_false, Bool.true_eq_false, Bool.false_eq_true, false_imp_iff, forall_const, true_imp_iff, and_self, decide_eq_true_eq, decide_eq_false_iff_not, Bool.not_eq_true', Bool.not_eq_false'])
/- law: 0:script 1:source 2:base 3:rules 4:chart 5:k 6:front 7:back -/
section
variable {kx : Nat → D → Prop} {K : SK} {c : Addr} {x y z : Int} {base : Nat} {k : Int} {rs : List (Int × Int)} {f b ns : List Int}
end
end K33
end NW
end TL

namespace TL
open PySem L2
set_option maxHeartbeats 2000000
local macro_rules | `(tactic| walk_at "sx") => `(tactic| try simp only [sSeq, sNil, eDisp1, eDispN, ltT_l, sumT_l, eDIn, eDNotIn, eDSetd, eDNew, eDGet, eDGet2, sDSet, eTake, sAugL, isDc, sCut, eNe2, neK, rep_l, minT_t, ghs_cons, ghs_nil, eKeep, keep_fr, keep_sh, keep_gh, keep_loc, eAd, eDr, eBinG, sAppE, sRevE, sPopE, eFz, fz_sh, fz_fr, fz_gh, fz_loc, ePk, gF, gP, agBg, agMg, agBd, pvw, eCallG, get_gh, stl_gh, pok_gh, owns, List.drop_succ_cons, List.drop_zero, List.take_succ_cons, List.take_zero, List.mem_cons, List.not_mem_nil, or_false, sSet, sFrz, frz_o, frz_sh, frz_s, sIf, sRet, sRetN, sPass, sBrk, sPar, sSub, sApp, sExpr, sAsg, sAug, sFld, sRevI, sPop, eLoc, eC, eUn, eBin, eAnd, eOr, eNot, eIf, eTup, eLst, dNil, dCons, tVal_eq, tstD_bl, tAndW, tOrW, tNotW, eFld_eq, eFldD_o, eProp, eMeth, eMeth0, eSl, pNone, pSome, sl_l,
  out_sh, out_fr, get_loc, get_sh, get_fr, getL_z, getL_o, getL_s, bound_z, bound_o, bound_s, isOwn_o, isOwn_s, pok_loc, pok_sh, pok_fr, stl_loc, stlS_sh, stlS_own, stl_sh, stl_fr, lay_fr, lay_sh, lay_loc, envOf, slotsOf, valN, ghOf, endK, resK, exMu, muN, List.cons_append, List.nil_append, List.append_nil, List.length_cons, List.length_nil, Nat.reduceAdd, Nat.reduceSub, List.replicate_succ, List.replicate_zero, List.replicate,
  List.getElem?_cons_zero, List.getElem?_cons_succ, List.getElem?_nil, List.set_cons_zero, List.set_cons_succ,
  add_ii, add_ss, add_ll, sub_ii, mul_ii, fdv_ii, fdvN_ii, mod_ii, modN_ii, pow_ii, lt_ii, le_ii, gt_ii, ge_ii, eq_ii, ne_ii, ix_li, ix_ti, neg_i, abs_i, int_i, int_b, max_ii, min_ii, len_l, len_t, list_l, list_t, rev_l, isi_int, isi_bl, isi_tup, isi_lst, isi_non, isN_i, isN_n, isN_t, isN_l, notN_i, notN_n, notN_t, notN_l, isTy,
  atI0, atI1, atI2, ixN0, ixN1, ixN2, some_inj_ex, isObj, setAt0, setAt1, setAt2, setAt3, restE, keepS, wipeE, ↓reduceIte, if_false, if_true,
  eCall, eCallP, eMake, pm, eTwo, dLit, eOwn2, eLenO, okLen, eMethP, eMakeP, isC_o, eRepL, lr1_i, lr2_i, List.filterMap_cons, List.filterMap_nil, agNil, agRo, agBo, agMu, agTm, callK, boIx, muIx, tms, argsK, upE, reown, hasBo, noTm, flatRo, noLstAll, noLst, noLsts, List.nodup_nil, List.nodup_cons, List.not_mem_nil, not_false_eq_true, Nat.zero_le, Nat.le_refl, Nat.reduceLeDiff, List.mem_cons, or_false, reduceCtorEq,
  gN, gTp, gLs, gCn, gNl, iR1, iR2, iRL, iLst, iTpl, iEnum, stab,
  ite_self, str_i, fmt_i, fmt_s, isB_b, notB_b, any_l, tup_l, sExt, e0_is, t0_is, d0_is, s0_is, i0_is, sTry, hXk_n, hXk_s, sRaise, eCallX, eCallXP, eMethX, eMakeX, ePropX, eOwn2X, callX, roA, opXv_exn, opIsX_exn, List.map_cons, List.map_nil, Nat.lt_irrefl, Nat.zero_lt_one, Nat.reduceLT, Nat.zero_lt_succ, some_inj_ex,
  Option.isSome_some, Option.isSome_none, true_and, and_true, eq_self, List.length_map, decide_true, decide_false, Bool.not_true, Bool.not_false, not_true_eq_false, Bool.true_eq_false, Bool.false_eq_true, false_imp_iff, forall_const, true_imp_iff, and_self, decide_eq_true_eq, decide_eq_false_iff_not, Bool.not_eq_true', Bool.not_eq_false'])
/-! ### plain words: each ring of fractions has one, and the rings count the words -/
namespace NW
namespace PW
open CD (backW)
open CD.K46 (walk_back wd_word)
open K33 (per_of per_ge rot_ring rep_walk apart root)
open K87 (wd_apK wd_takeK wd_dropK)
def rotL (k : Nat) (w : List Int) : List Int := w.drop k ++ w.take k
theorem rotL_len (k : Nat) (w : List Int) : (rotL k w).length = w.length := by unfold rotL; simp; omega
def Plain (w : List Int) : Prop := ∀ k, 1 ≤ k → k < w.length → w < rotL k w
section
variable {base : Nat} {rs : List (Int × Int)}
theorem word_ring (ho : MapOk rs) {w : List Int} (hw : Wd rs.length w) (h1 : 1 ≤ w.length) : wordF rs (ringP rs w) w.length = w := by
  have := (ring_rounds ho hw h1 1).2
  rw [Nat.one_mul] at this
  rw [this]
  simp
theorem rot_wd {w : List Int} (hw : Wd rs.length w) (k : Nat) : Wd rs.length (rotL k w) := wd_apK (wd_dropK hw k) (wd_takeK hw k)
/-- the least period of a ring's first place -/
theorem ring_per (hr : RulesOk base rs) (h2 : 2 ≤ base) (h6 : base ≤ 60) {x : Int × Int} {n : Nat} (hn : 1 ≤ n) (hx : walkF rs n x = x) : ∃ k, comesF rs x n = some (0, k) ∧ 1 ≤ k ∧ k ∣ n := by
  obtain ⟨⟨j, k⟩, h⟩ := comes_some (rs := rs) (p := x) (i := 0) (k := n) (n := n) hn (Nat.le_refl _) (by rw [hx]; rfl)
  obtain ⟨a, b⟩ := per_of h (m := 0) hn (by show walkF rs n x = x; exact hx)
  have k1 : 1 ≤ k := (comesF_at h).1
  obtain rfl : j = 0 := by omega
  exact ⟨k, h, k1, b⟩
theorem plain_per (hr : RulesOk base rs) (h2 : 2 ≤ base) (h6 : base ≤ 60) {p : List Int} (hp : Wd rs.length p) (h1 : 1 ≤ p.length) (hpl : Plain p) : comesF rs (ringP rs p) p.length = some (0, p.length) := by
  have ho := hr.map h2 (by omega)
  have rr := ring_round ho hp h1
  obtain ⟨k, h, k1, kd⟩ := ring_per hr h2 h6 h1 rr
  have kl := Nat.le_of_dvd (by omega) kd
  by_cases e : k = p.length
  · rw [h, e]
  exfalso
  have pk := per_ge h (Nat.le_refl 0)
  have pk : walkF rs k (ringP rs p) = ringP rs p := pk
  have q := (rot_ring hr h2 h6 hp h1 kl).1
  rw [pk] at q
  have e2 := word_ring ho (rot_wd hp k) (by rw [rotL_len]; exact h1)
  rw [rotL_len] at e2
  have e3 := word_ring ho hp h1
  have : rotL k p = p := by
    rw [← e2, show ringP rs (rotL k p) = ringP rs p from q.symm, e3]
  have lt := hpl k k1 (by omega)
  rw [this] at lt
  exact absurd lt (List.lt_irrefl p)
/-- two plain words on one ring are one, and at one place -/
theorem plain_same (hr : RulesOk base rs) (h2 : 2 ≤ base) (h6 : base ≤ 60) {p q : List Int} (hp : Wd rs.length p) (hq : Wd rs.length q) (p1 : 1 ≤ p.length) (q1 : 1 ≤ q.length) (pp : Plain p) (pq : Plain q) {s t : Nat} (hs : s < p.length) (ht : t < q.length) (h : walkF rs s (ringP rs p) = walkF rs t (ringP rs q)) : p = q ∧ s = t := by
  have ho := hr.map h2 (by omega)
  have cp := plain_per hr h2 h6 hp p1 pp
  have cq := plain_per hr h2 h6 hq q1 pq
  have rp := ring_round ho hp p1
  have rq := ring_round ho hq q1
  -- q's ring goes round by p's length, and p's by q's
  have a1 : walkF rs p.length (walkF rs t (ringP rs q)) = walkF rs t (ringP rs q) := by
    rw [← h, walkF_add, Nat.add_comm, ← walkF_add, rp]
  have a2 : walkF rs q.length (walkF rs s (ringP rs p)) = walkF rs s (ringP rs p) := by
    rw [h, walkF_add, Nat.add_comm, ← walkF_add, rq]
  have d1 := (per_of cq p1 a1).2
  have d2 := (per_of cp q1 a2).2
  have el : p.length = q.length := Nat.dvd_antisymm d2 d1
  -- the first place of q is a place of p
  obtain ⟨j, hj, ej⟩ : ∃ j, j < p.length ∧ walkF rs j (ringP rs p) = ringP rs q := by
    have e : walkF rs (s + (q.length - t)) (ringP rs p) = ringP rs q := by
      rw [← walkF_add, h, walkF_add, show t + (q.length - t) = q.length by omega, rq]
    refine ⟨(s + (q.length - t)) % p.length, Nat.mod_lt _ (by omega), ?_⟩
    have e0 : p.length * ((s + (q.length - t)) / p.length) + (s + (q.length - t)) % p.length = s + (q.length - t) := Nat.div_add_mod _ _
    rw [← e0, ← walkF_add, rep_walk rp] at e
    exact e
  have eq : q = rotL j p := by
    have r := (rot_ring hr h2 h6 hp p1 (by omega : j ≤ p.length)).1
    rw [ej] at r
    have e2 := word_ring ho (rot_wd hp j) (by rw [rotL_len]; exact p1)
    rw [rotL_len, show ringP rs (rotL j p) = ringP rs q from r.symm, el, word_ring ho hq q1] at e2
    exact e2
  have j0 : j = 0 := by
    by_cases h0 : j = 0
    · exact h0
    exfalso
    have l1 := pp j (by omega) hj
    rw [← eq] at l1
    have l2 := pq (q.length - j) (by omega) (by omega)
    have back : rotL (q.length - j) q = p := by
      rw [eq, rotL_len]
      unfold rotL
      rw [List.drop_left' (by rw [List.length_drop]), List.take_left' (by rw [List.length_drop])]
      exact List.take_append_drop j p
    rw [back] at l2
    exact absurd (List.lt_trans l1 l2) (List.lt_irrefl p)
  subst j0
  have pq2 : p = q := by rw [eq]; unfold rotL; simp
  refine ⟨pq2, ?_⟩
  subst pq2
  rcases Nat.lt_trichotomy s t with z | z | z
  · exact absurd h (apart cp z (by omega))
  · exact z
  · exact absurd h.symm (apart cp z (by omega))
theorem least_of {f : Nat → List Int} : ∀ {n : Nat}, 1 ≤ n → ∃ s, s < n ∧ ∀ t, t < n → ¬ f t < f s
  | 1, _ => ⟨0, by omega, fun t ht => by
    obtain rfl : t = 0 := by omega
    exact List.lt_irrefl _⟩
  | n + 2, _ => by
    obtain ⟨s, hs, h⟩ := least_of (f := f) (n := n + 1) (by omega)
    by_cases c : f (n + 1) < f s
    · refine ⟨n + 1, by omega, fun t ht => ?_⟩
      by_cases e : t = n + 1
      · subst e; exact List.lt_irrefl _
      · intro z
        exact h t (by omega) (List.lt_trans z c)
    · refine ⟨s, by omega, fun t ht => ?_⟩
      by_cases e : t = n + 1
      · subst e; exact c
      · exact h t (by omega)
/-- each place that comes round is a place of the ring of a plain word -/
theorem orb_of (hr : RulesOk base rs) (h2 : 2 ≤ base) (h6 : base ≤ 60) {x : Int × Int} (g : Good rs.length x) {n : Nat} (hn : 1 ≤ n) (hx : walkF rs n x = x) : ∃ p, Wd rs.length p ∧ 1 ≤ p.length ∧ p.length ∣ n ∧ Plain p ∧ ∃ t, t < p.length ∧ walkF rs t (ringP rs p) = x := by
  have ho := hr.map h2 (by omega)
  obtain ⟨k, h, k1, kd⟩ := ring_per hr h2 h6 hn hx
  have pk : ∀ s, walkF rs k (walkF rs s x) = walkF rs s x := fun s => per_ge h (Nat.zero_le s)
  have px : walkF rs k x = x := pk 0
  obtain ⟨s, hs, hm⟩ := least_of (f := fun s => wordF rs (walkF rs s x) k) k1
  have gy := walkF_good (rs := rs) g s
  have ey := ring_uniq hr h2 h6 gy k1 (pk s)
  have wp := wd_word ho gy k
  have lp : (wordF rs (walkF rs s x) k).length = k := wordF_len _ _ _
  refine ⟨wordF rs (walkF rs s x) k, wp, by omega, by rw [lp]; exact kd, fun i i1 i2 => ?_, ?_⟩
  · rw [lp] at i2
    have r := (rot_ring hr h2 h6 wp (by omega) (by omega : i ≤ _)).1
    rw [← ey] at r
    have er : rotL i (wordF rs (walkF rs s x) k) = wordF rs (walkF rs i (walkF rs s x)) k := by
      have e := word_ring ho (rot_wd wp i) (by rw [rotL_len]; omega)
      rw [rotL_len, lp] at e
      rw [← e, show ringP rs (rotL i (wordF rs (walkF rs s x) k)) = walkF rs i (walkF rs s x) from r.symm]
    have ne : wordF rs (walkF rs i (walkF rs s x)) k ≠ wordF rs (walkF rs s x) k := fun e => by
      have gi := walkF_good (rs := rs) gy i
      have q := ring_uniq hr h2 h6 gi k1 (by rw [walkF_add rs s x i]; exact pk (s + i))
      rw [e, ← ey] at q
      have := Nat.le_of_dvd (by omega) (per_of h i1 q).2
      omega
    have nl : ¬ wordF rs (walkF rs i (walkF rs s x)) k < wordF rs (walkF rs s x) k := by
      rw [walkF_add]
      by_cases c : s + i < k
      · exact hm (s + i) c
      · have e : walkF rs (s + i) x = walkF rs (s + i - k) x := by
          have := pk (s + i - k)
          rw [walkF_add, show s + i - k + k = s + i by omega] at this
          exact this
        rw [e]
        exact hm (s + i - k) (by omega)
    rw [er]
    by_cases c : wordF rs (walkF rs s x) k < wordF rs (walkF rs i (walkF rs s x)) k
    · exact c
    · exact absurd (List.le_antisymm (List.not_lt.mp c) (List.not_lt.mp nl)) ne
  · rw [lp, ← ey]
    by_cases s0 : s = 0
    · subst s0
      exact ⟨0, by omega, rfl⟩
    · refine ⟨k - s, by omega, ?_⟩
      rw [walkF_add, show s + (k - s) = k by omega, px]
def orbL (rs : List (Int × Int)) (p : List Int) : List (Int × Int) := (List.range p.length).map fun s => walkF rs s (ringP rs p)
theorem orbs_nodup (hr : RulesOk base rs) (h2 : 2 ≤ base) (h6 : base ≤ 60) : ∀ {Q : List (List Int)}, Q.Nodup → (∀ p ∈ Q, Wd rs.length p ∧ 1 ≤ p.length ∧ Plain p) → (Q.flatMap (orbL rs)).Nodup
  | [], _, _ => List.nodup_nil
  | p :: Q, hq, h => by
    obtain ⟨n1, n2⟩ := List.nodup_cons.mp hq
    obtain ⟨a1, a2, a3⟩ := h p List.mem_cons_self
    have ih := orbs_nodup hr h2 h6 n2 fun q hq => h q (List.mem_cons_of_mem _ hq)
    rw [List.flatMap_cons, List.nodup_append]
    refine ⟨?_, ih, ?_⟩
    · have nr : (List.range p.length).Nodup := List.nodup_range
      unfold orbL
      unfold List.Nodup at nr ⊢
      rw [List.pairwise_map]
      refine nr.imp_of_mem fun {s t} hs ht hne e => ?_
      exact hne (plain_same hr h2 h6 a1 a1 a2 a2 a3 a3 (List.mem_range.mp hs) (List.mem_range.mp ht) e).2
    · intro u hu v hv e
      subst e
      obtain ⟨q, hq, hv⟩ := List.mem_flatMap.mp hv
      obtain ⟨b1, b2, b3⟩ := h q (List.mem_cons_of_mem _ hq)
      obtain ⟨s, hs, es⟩ := List.mem_map.mp hu
      obtain ⟨t, ht, et⟩ := List.mem_map.mp hv
      have := (plain_same hr h2 h6 a1 b1 a2 b2 a3 b3 (List.mem_range.mp hs) (List.mem_range.mp ht) (es.trans et.symm)).1
      subst this
      exact n1 hq
def plainB (w : List Int) : Bool := (List.range w.length).all fun k => decide (k = 0 ∨ w < rotL k w)
theorem plainB_iff {w : List Int} : plainB w = true ↔ Plain w := by
  unfold plainB Plain
  rw [List.all_eq_true]
  constructor
  · intro h k k1 k2
    have := of_decide_eq_true (h k (List.mem_range.mpr k2))
    exact this.resolve_left (by omega)
  · intro h k hk
    refine decide_eq_true ?_
    by_cases k0 : k = 0
    · exact .inl k0
    · exact .inr (h k (by omega) (List.mem_range.mp hk))
def plainL (m d : Nat) : List (List Int) := (allW m d).filter plainB
def divQ (m n : Nat) : List (List Int) := ((List.range (n + 1)).filter fun d => decide (1 ≤ d ∧ n % d = 0)).flatMap (plainL m)
theorem plainL_mem {m d : Nat} {p : List Int} : p ∈ plainL m d ↔ p.length = d ∧ Wd m p ∧ Plain p := by
  unfold plainL
  rw [List.mem_filter, allW_mem, plainB_iff, and_assoc]
theorem flat_nodup {α : Type} {f : Nat → List α} {g : α → Nat} (hf : ∀ d, (f d).Nodup) (hg : ∀ d x, x ∈ f d → g x = d) : ∀ {L : List Nat}, L.Nodup → (L.flatMap f).Nodup
  | [], _ => List.nodup_nil
  | d :: L, h => by
    obtain ⟨n1, n2⟩ := List.nodup_cons.mp h
    rw [List.flatMap_cons, List.nodup_append]
    refine ⟨hf d, flat_nodup hf hg n2, ?_⟩
    intro u hu v hv e
    subst e
    obtain ⟨d', hd, hv⟩ := List.mem_flatMap.mp hv
    have := (hg d u hu).symm.trans (hg d' u hv)
    subst this
    exact n1 hd
theorem plainL_nodup (m d : Nat) : (plainL m d).Nodup := (allW_nodup m d).filter _
theorem divQ_nodup (m n : Nat) : (divQ m n).Nodup := flat_nodup (g := List.length) (plainL_nodup m) (fun d x hx => (plainL_mem.mp hx).1) (List.nodup_range.filter _)
theorem divQ_mem {m n : Nat} (hn : 1 ≤ n) {p : List Int} : p ∈ divQ m n ↔ 1 ≤ p.length ∧ p.length ∣ n ∧ Wd m p ∧ Plain p := by
  unfold divQ
  rw [List.mem_flatMap]
  constructor
  · rintro ⟨d, hd, hp⟩
    obtain ⟨rfl, a, b⟩ := plainL_mem.mp hp
    have := of_decide_eq_true (List.mem_filter.mp hd).2
    exact ⟨this.1, Nat.dvd_of_mod_eq_zero this.2, a, b⟩
  · rintro ⟨a, b, c, d⟩
    have := Nat.le_of_dvd (by omega) b
    exact ⟨p.length, List.mem_filter.mpr ⟨List.mem_range.mpr (by omega), decide_eq_true ⟨a, Nat.mod_eq_zero_of_dvd b⟩⟩, plainL_mem.mpr ⟨rfl, c, d⟩⟩
/-- the rings of the plain words whose lengths divide n count the words of length n -/
theorem ring_count (hr : RulesOk base rs) (h2 : 2 ≤ base) (h6 : base ≤ 60) {n : Nat} (hn : 1 ≤ n) : ((divQ base n).flatMap (orbL rs)).length = base ^ n := by
  have ho := hr.map h2 (by omega)
  have hl := hr.len
  have perm : ((divQ base n).flatMap (orbL rs)).Perm ((allW base n).map (ringP rs)) := by
    refine (List.perm_ext_iff_of_nodup (orbs_nodup hr h2 h6 (divQ_nodup base n) fun p hp => ?_) ?_).mpr fun x => ?_
    · obtain ⟨a, b, c, d⟩ := (divQ_mem hn).mp hp
      exact ⟨by rw [hl]; exact c, a, d⟩
    · have nd := allW_nodup base n
      unfold List.Nodup at nd ⊢
      rw [List.pairwise_map]
      refine nd.imp_of_mem fun {v w} hv hw hne e => hne ?_
      obtain ⟨v1, v2⟩ := allW_mem.mp hv
      obtain ⟨w1, w2⟩ := allW_mem.mp hw
      have a := word_ring ho (w := v) (by rw [hl]; exact v2) (by omega)
      have b := word_ring ho (w := w) (by rw [hl]; exact w2) (by omega)
      rw [v1] at a
      rw [w1] at b
      rw [← a, ← b, e]
    · rw [List.mem_flatMap, List.mem_map]
      constructor
      · rintro ⟨p, hp, hx⟩
        obtain ⟨a, b, c, d⟩ := (divQ_mem hn).mp hp
        have c : Wd rs.length p := by rw [hl]; exact c
        obtain ⟨s, _, rfl⟩ := List.mem_map.mp hx
        obtain ⟨g, _⟩ := ringP_spec ho c a
        obtain ⟨q, hq⟩ := b
        have rp := rep_walk (ring_round ho c a) q
        rw [← hq] at rp
        have rx : walkF rs n (walkF rs s (ringP rs p)) = walkF rs s (ringP rs p) := by
          rw [walkF_add, Nat.add_comm, ← walkF_add, rp]
        have gx := walkF_good (rs := rs) g s
        refine ⟨wordF rs (walkF rs s (ringP rs p)) n, allW_mem.mpr ⟨wordF_len _ _ _, ?_⟩, (ring_uniq hr h2 h6 gx hn rx).symm⟩
        have := wd_word ho gx n
        rw [hl] at this
        exact this
      · rintro ⟨w, hw, rfl⟩
        obtain ⟨w1, w2⟩ := allW_mem.mp hw
        have w2 : Wd rs.length w := by rw [hl]; exact w2
        obtain ⟨g, _⟩ := ringP_spec ho w2 (by omega)
        have rw' := ring_round ho w2 (by omega)
        rw [w1] at rw'
        obtain ⟨p, p1, p2, p3, p4, t, ht, e⟩ := orb_of hr h2 h6 g hn rw'
        exact ⟨p, (divQ_mem hn).mpr ⟨p2, p3, by rw [← hl]; exact p1, p4⟩, List.mem_map.mpr ⟨t, List.mem_range.mpr ht, e⟩⟩
  rw [perm.length_eq, List.length_map, allW_len]
end
end PW
end NW
end TL

namespace TL
open PySem L2
set_option maxHeartbeats 2000000
local macro_rules | `(tactic| walk_at "sx") => `(tactic| try simp only [sSeq, sNil, eDisp1, eDispN, ltT_l, sumT_l, eDIn, eDNotIn, eDSetd, eDNew, eDGet, eDGet2, sDSet, eTake, sAugL, isDc, sCut, eNe2, neK, rep_l, minT_t, ltL_l, ghs_cons, ghs_nil, eKeep, keep_fr, keep_sh, keep_gh, keep_loc, eAd, eDr, eBinG, sAppE, sRevE, sPopE, eFz, fz_sh, fz_fr, fz_gh, fz_loc, ePk, gF, gP, agBg, agMg, agBd, pvw, eCallG, get_gh, stl_gh, pok_gh, owns, List.drop_succ_cons, List.drop_zero, List.take_succ_cons, List.take_zero, List.mem_cons, List.not_mem_nil, or_false, sSet, sFrz, frz_o, frz_sh, frz_s, sIf, sRet, sRetN, sPass, sBrk, sPar, sSub, sApp, sExpr, sAsg, sAug, sFld, sRevI, sPop, eLoc, eC, eUn, eBin, eAnd, eOr, eNot, eIf, eTup, eLst, dNil, dCons, tVal_eq, tstD_bl, tAndW, tOrW, tNotW, eFld_eq, eFldD_o, eProp, eMeth, eMeth0, eSl, pNone, pSome, sl_l,
  out_sh, out_fr, get_loc, get_sh, get_fr, getL_z, getL_o, getL_s, bound_z, bound_o, bound_s, isOwn_o, isOwn_s, pok_loc, pok_sh, pok_fr, stl_loc, stlS_sh, stlS_own, stl_sh, stl_fr, lay_fr, lay_sh, lay_loc, envOf, slotsOf, valN, ghOf, endK, resK, exMu, muN, List.cons_append, List.nil_append, List.append_nil, List.length_cons, List.length_nil, Nat.reduceAdd, Nat.reduceSub, List.replicate_succ, List.replicate_zero, List.replicate,
  List.getElem?_cons_zero, List.getElem?_cons_succ, List.getElem?_nil, List.set_cons_zero, List.set_cons_succ,
  add_ii, add_ss, add_ll, sub_ii, mul_ii, fdv_ii, fdvN_ii, mod_ii, modN_ii, pow_ii, lt_ii, le_ii, gt_ii, ge_ii, eq_ii, ne_ii, ix_li, ix_ti, neg_i, abs_i, int_i, int_b, max_ii, min_ii, len_l, len_t, list_l, list_t, rev_l, isi_int, isi_bl, isi_tup, isi_lst, isi_non, isN_i, isN_n, isN_t, isN_l, notN_i, notN_n, notN_t, notN_l, isTy,
  atI0, atI1, atI2, ixN0, ixN1, ixN2, some_inj_ex, isObj, setAt0, setAt1, setAt2, setAt3, restE, keepS, wipeE, ↓reduceIte, if_false, if_true,
  eCall, eCallP, eMake, pm, eTwo, dLit, eOwn2, eLenO, okLen, eMethP, eMakeP, isC_o, eRepL, lr1_i, lr2_i, List.filterMap_cons, List.filterMap_nil, agNil, agRo, agBo, agMu, agTm, callK, boIx, muIx, tms, argsK, upE, reown, hasBo, noTm, flatRo, noLstAll, noLst, noLsts, List.nodup_nil, List.nodup_cons, List.not_mem_nil, not_false_eq_true, Nat.zero_le, Nat.le_refl, Nat.reduceLeDiff, List.mem_cons, or_false, reduceCtorEq,
  gN, gTp, gLs, gCn, gNl, iR1, iR2, iRL, iLst, iTpl, iEnum, stab,
  ite_self, str_i, fmt_i, fmt_s, isB_b, notB_b, any_l, tup_l, sExt, e0_is, t0_is, d0_is, s0_is, i0_is, sTry, hXk_n, hXk_s, sRaise, eCallX, eCallXP, eMethX, eMakeX, ePropX, eOwn2X, callX, roA, opXv_exn, opIsX_exn, List.map_cons, List.map_nil, Nat.lt_irrefl, Nat.zero_lt_one, Nat.reduceLT, Nat.zero_lt_succ, some_inj_ex,
  Option.isSome_some, Option.isSome_none, true_and, and_true, eq_self, List.length_map, decide_true, decide_false, Bool.not_true, Bool.not_false, not_true_eq_false, Bool.true_eq_false, Bool.false_eq_true, false_imp_iff, forall_const, true_imp_iff, and_self, decide_eq_true_eq, decide_eq_false_iff_not, Bool.not_eq_true', Bool.not_eq_false'])
namespace NW
namespace K29
open PW (rotL rotL_len Plain plainB plainB_iff plainL plainL_mem)
theorem rot_cut {ws : List Int} {k : Nat} (h : k ≤ ws.length) : cutL (ws.map D.int) (some (k : Int)) none ++ cutL (ws.map D.int) none (some (k : Int)) = (rotL k ws).map D.int := by
  rw [cutL_drop (by rw [List.length_map]; exact h), cutL_take (by rw [List.length_map]; exact h), ← List.map_drop, ← List.map_take, ← List.map_append]
  rfl
theorem cut_len {ws : List Int} {k : Nat} (h : k ≤ ws.length) : (cutL (ws.map D.int) (some (k : Int)) none).length + (cutL (ws.map D.int) none (some (k : Int))).length = ws.length := by
  rw [← List.length_append, rot_cut h, List.length_map, rotL_len]
def sp_is_plain_and_least : FSpec := fun args kr _ => ∃ ws : List Int, args = [.ro (encZs ws)] ∧ ws.length ≤ 1000 ∧ kr (.sh (.bl (plainB ws))) []
/- is_plain_and_least: 0:word 1:k -/
def b_is_plain_and_least : SW := (sSeq (sFor (iR2 (dCons (eC (.int 1)) (dCons (eUn opLen (eLoc 0)) dNil))) (gN 1) (sIf (tVal (eBin opLeL (eBin opAdd (eSl (eLoc 0) (pSome (eLoc 1)) pNone) (eSl (eLoc 0) pNone (pSome (eLoc 1)))) (eLoc 0))) (sRet (eC (.bl false))) sNil))
  (sRet (eC (.bl true))))
/- _law_is_plain: 0:base 1:path 2:k -/
theorem sat_is_plain_and_least : Sat 2 sp_is_plain_and_least b_is_plain_and_least := by
  rintro args mus kr kx hm ⟨ws, rfl, hl, hk⟩
  obtain rfl := mus0 hm
  unfold b_is_plain_and_least
  unfold sFor
  walk_at "sx"
  refine ⟨by omega, fun i ρ => ∃ e1 : Sl, ρ = [.sh (encZs ws), e1] ∧ ∀ k, 1 ≤ k → k < 1 + i → k < ws.length → ws < rotL k ws, ⟨_, rfl, fun k h1 h2 => by omega⟩, fun _ _ _ _ => trivial, ?_, ?_⟩
  · rintro i d ρ hi rfl ⟨e1, rfl, hm⟩
    have hi : 1 + i < ws.length := by omega
    rw [show (1 : Int) + (i : Int) = ((1 + i : Nat) : Int) by omega]
    walk_at "sx"
    rw [rot_cut (by omega)]
    refine ⟨Nat.le_of_lt (line_big (by rw [cut_len (by omega)]; omega)), ?_⟩
    refine ⟨rotL (1 + i) ws, ws, rfl, rfl, ?_⟩
    by_cases c : ws < rotL (1 + i) ws
    · rw [decide_eq_true c]
      walk_at "sx"
      refine ⟨_, rfl, fun k h1 h2 h3 => ?_⟩
      by_cases e : k = 1 + i
      · rw [e]; exact c
      · exact hm k h1 (by omega) h3
    · rw [decide_eq_false c]
      walk_at "sx"
      have : plainB ws = false := by
        cases e : plainB ws with
        | false => rfl
        | true => exact absurd (plainB_iff.mp e (1 + i) (by omega) hi) c
      rw [this] at hk
      exact hk
  rintro ρ ⟨e1, rfl, hm⟩
  walk_at "sx"
  have : plainB ws = true := plainB_iff.mpr fun k h1 h2 => hm k h1 (by omega) h2
  rw [this] at hk
  exact hk
theorem take_nx {α : Type} {xs : List α} {i : Nat} {x : α} (h : xs[i]? = some x) : xs.take (i + 1) = xs.take i ++ [x] := by rw [List.take_succ, h]; rfl
/- plain_words: 0:modulus 1:length 2:words 3:turn 4:word 5:entry -/
end K29
end NW
end TL

namespace TL
open PySem L2
set_option maxHeartbeats 2000000
local macro_rules | `(tactic| walk_at "sx") => `(tactic| try simp only [sSeq, sNil, eDisp1, eDispN, ltT_l, sumT_l, eDIn, eDNotIn, eDSetd, eDNew, eDGet, eDGet2, sDSet, eTake, sAugL, isDc, sCut, eNe2, neK, rep_l, minT_t, ltL_l, ghs_cons, ghs_nil, eKeep, keep_fr, keep_sh, keep_gh, keep_loc, eAd, eDr, eBinG, sAppE, sRevE, sPopE, eFz, fz_sh, fz_fr, fz_gh, fz_loc, ePk, gF, gP, agBg, agMg, agBd, pvw, eCallG, get_gh, stl_gh, pok_gh, owns, List.drop_succ_cons, List.drop_zero, List.take_succ_cons, List.take_zero, List.mem_cons, List.not_mem_nil, or_false, sSet, sFrz, frz_o, frz_sh, frz_s, sIf, sRet, sRetN, sPass, sBrk, sPar, sSub, sApp, sExpr, sAsg, sAug, sFld, sRevI, sPop, eLoc, eC, eUn, eBin, eAnd, eOr, eNot, eIf, eTup, eLst, dNil, dCons, tVal_eq, tstD_bl, tAndW, tOrW, tNotW, eFld_eq, eFldD_o, eProp, eMeth, eMeth0, eSl, pNone, pSome, sl_l,
  out_sh, out_fr, get_loc, get_sh, get_fr, getL_z, getL_o, getL_s, bound_z, bound_o, bound_s, isOwn_o, isOwn_s, pok_loc, pok_sh, pok_fr, stl_loc, stlS_sh, stlS_own, stl_sh, stl_fr, lay_fr, lay_sh, lay_loc, envOf, slotsOf, valN, ghOf, endK, resK, exMu, muN, List.cons_append, List.nil_append, List.append_nil, List.length_cons, List.length_nil, Nat.reduceAdd, Nat.reduceSub, List.replicate_succ, List.replicate_zero, List.replicate,
  List.getElem?_cons_zero, List.getElem?_cons_succ, List.getElem?_nil, List.set_cons_zero, List.set_cons_succ,
  add_ii, add_ss, add_ll, sub_ii, mul_ii, fdv_ii, fdvN_ii, mod_ii, modN_ii, pow_ii, lt_ii, le_ii, gt_ii, ge_ii, eq_ii, ne_ii, ix_li, ix_ti, neg_i, abs_i, int_i, int_b, max_ii, min_ii, len_l, len_t, list_l, list_t, rev_l, isi_int, isi_bl, isi_tup, isi_lst, isi_non, isN_i, isN_n, isN_t, isN_l, notN_i, notN_n, notN_t, notN_l, isTy,
  atI0, atI1, atI2, ixN0, ixN1, ixN2, some_inj_ex, isObj, setAt0, setAt1, setAt2, setAt3, restE, keepS, wipeE, ↓reduceIte, if_false, if_true,
  eCall, eCallP, eMake, pm, eTwo, dLit, eOwn2, eLenO, okLen, eMethP, eMakeP, isC_o, eRepL, lr1_i, lr2_i, List.filterMap_cons, List.filterMap_nil, agNil, agRo, agBo, agMu, agTm, callK, boIx, muIx, tms, argsK, upE, reown, hasBo, noTm, flatRo, noLstAll, noLst, noLsts, List.nodup_nil, List.nodup_cons, List.not_mem_nil, not_false_eq_true, Nat.zero_le, Nat.le_refl, Nat.reduceLeDiff, List.mem_cons, or_false, reduceCtorEq,
  gN, gTp, gLs, gCn, gNl, iR1, iR2, iRL, iLst, iTpl, iEnum, stab,
  ite_self, str_i, fmt_i, fmt_s, isB_b, notB_b, any_l, tup_l, sExt, e0_is, t0_is, d0_is, s0_is, i0_is, sTry, hXk_n, hXk_s, sRaise, eCallX, eCallXP, eMethX, eMakeX, ePropX, eOwn2X, callX, roA, opXv_exn, opIsX_exn, List.map_cons, List.map_nil, Nat.lt_irrefl, Nat.zero_lt_one, Nat.reduceLT, Nat.zero_lt_succ, some_inj_ex,
  Option.isSome_some, Option.isSome_none, true_and, and_true, eq_self, List.length_map, decide_true, decide_false, Bool.not_true, Bool.not_false, not_true_eq_false, Bool.true_eq_false, Bool.false_eq_true, false_imp_iff, forall_const, true_imp_iff, and_self, decide_eq_true_eq, decide_eq_false_iff_not, Bool.not_eq_true', Bool.not_eq_false'])
namespace NW
namespace K29
open PW (rotL rotL_len Plain plainB plainB_iff plainL plainL_mem orbL divQ ring_count)
/-- a map for each modulus -/
def triv (b : Nat) : List (Int × Int) := (List.range b).map fun r : Nat => (1, -(r : Int))
theorem triv_ok {b : Nat} (h2 : 2 ≤ b) (h6 : b ≤ 60) : RulesOk b (triv b) := by
  refine ⟨by unfold triv; simp, fun i p h => ?_⟩
  unfold triv at h
  rw [List.getElem?_map] at h
  obtain ⟨r, hr, rfl⟩ := Option.map_eq_some_iff.mp h
  have hi := (List.getElem?_eq_some_iff.mp hr).1
  rw [List.length_range] at hi
  rw [List.getElem?_range hi] at hr
  cases hr
  refine ⟨?_, by omega, ((Bt.small (x := -(i : Int)) (by omega) (by omega)).mono (by omega))⟩
  unfold RuleOk
  refine ⟨by simp, by simp, ?_⟩
  show ((1 : Int) * (i : Int) + -(i : Int)) % (b : Int) = 0
  rw [Int.one_mul, Int.add_right_neg, Int.zero_emod]
def totF (b n i : Nat) : Nat := (((List.range (i + 1)).filter fun d => decide (1 ≤ d ∧ n % d = 0)).map fun d => d * (plainL b d).length).sum
theorem totF_yes {b n i : Nat} (h : n % (i + 1) = 0) : totF b n (i + 1) = totF b n i + (i + 1) * (plainL b (i + 1)).length := by
  unfold totF
  rw [List.range_succ (n := i + 1), List.filter_append, List.map_append, List.sum_append, List.filter_cons_of_pos (by simpa using h)]
  simp
theorem totF_no {b n i : Nat} (h : ¬ n % (i + 1) = 0) : totF b n (i + 1) = totF b n i := by
  unfold totF
  rw [List.range_succ (n := i + 1), List.filter_append, List.map_append, List.sum_append, List.filter_cons_of_neg (by simpa using h)]
  simp
theorem sum_len (L : List Nat) (b : Nat) : ((L.flatMap (plainL b)).map List.length).sum = (L.map fun d => d * (plainL b d).length).sum := by
  induction L with
  | nil => rfl
  | cons d L ih =>
    rw [List.flatMap_cons, List.map_append, List.sum_append, ih, List.map_cons, List.sum_cons]
    congr 1
    have : (plainL b d).map List.length = (plainL b d).map fun _ => d := List.map_congr_left fun p hp => (plainL_mem.mp hp).1
    rw [this, List.map_const', List.sum_replicate_nat, Nat.mul_comm]
theorem tot_all {b n : Nat} (h2 : 2 ≤ b) (h6 : b ≤ 60) (hn : 1 ≤ n) : totF b n n = b ^ n := by
  rw [← ring_count (triv_ok h2 h6) h2 h6 hn, List.length_flatMap]
  unfold totF divQ
  rw [← sum_len]
  congr 1
  apply List.map_congr_left
  intro p _
  unfold orbL
  simp
theorem plain_len {b n : Nat} : (plainL b n).length ≤ b ^ n := by
  unfold plainL
  have := List.length_filter_le plainB (allW b n)
  rw [allW_len] at this
  exact this
/- _law_are_plain: 0:base 1:count 2:found 3:path 4:k -/
/- _law_right: 0:base 1:count 2:total 3:part 4:found 5:kept 6:path -/
/- law: 0:script 1:k 2:source 3:base -/
end K29
end NW
end TL

namespace TL
open PySem L2
set_option maxHeartbeats 2000000
local macro_rules | `(tactic| walk_at "sx") => `(tactic| try simp only [sSeq, sNil, eDisp1, eDispN, ltT_l, sumT_l, eDIn, eDNotIn, eDSetd, eDNew, eDGet, eDGet2, sDSet, eTake, sAugL, isDc, sCut, eNe2, neK, rep_l, minT_t, ltL_l, ghs_cons, ghs_nil, eKeep, keep_fr, keep_sh, keep_gh, keep_loc, eAd, eDr, eBinG, sAppE, sRevE, sPopE, eFz, fz_sh, fz_fr, fz_gh, fz_loc, ePk, gF, gP, agBg, agMg, agBd, pvw, eCallG, get_gh, stl_gh, pok_gh, owns, List.drop_succ_cons, List.drop_zero, List.take_succ_cons, List.take_zero, List.mem_cons, List.not_mem_nil, or_false, sSet, sFrz, frz_o, frz_sh, frz_s, sIf, sRet, sRetN, sPass, sBrk, sPar, sSub, sApp, sExpr, sAsg, sAug, sFld, sRevI, sPop, eLoc, eC, eUn, eBin, eAnd, eOr, eNot, eIf, eTup, eLst, dNil, dCons, tVal_eq, tstD_bl, tAndW, tOrW, tNotW, eFld_eq, eFldD_o, eProp, eMeth, eMeth0, eSl, pNone, pSome, sl_l,
  out_sh, out_fr, get_loc, get_sh, get_fr, getL_z, getL_o, getL_s, bound_z, bound_o, bound_s, isOwn_o, isOwn_s, pok_loc, pok_sh, pok_fr, stl_loc, stlS_sh, stlS_own, stl_sh, stl_fr, lay_fr, lay_sh, lay_loc, envOf, slotsOf, valN, ghOf, endK, resK, exMu, muN, List.cons_append, List.nil_append, List.append_nil, List.length_cons, List.length_nil, Nat.reduceAdd, Nat.reduceSub, List.replicate_succ, List.replicate_zero, List.replicate,
  List.getElem?_cons_zero, List.getElem?_cons_succ, List.getElem?_nil, List.set_cons_zero, List.set_cons_succ,
  add_ii, add_ss, add_ll, sub_ii, mul_ii, fdv_ii, fdvN_ii, mod_ii, modN_ii, pow_ii, lt_ii, le_ii, gt_ii, ge_ii, eq_ii, ne_ii, ix_li, ix_ti, neg_i, abs_i, int_i, int_b, max_ii, min_ii, len_l, len_t, list_l, list_t, rev_l, isi_int, isi_bl, isi_tup, isi_lst, isi_non, isN_i, isN_n, isN_t, isN_l, notN_i, notN_n, notN_t, notN_l, isTy,
  atI0, atI1, atI2, ixN0, ixN1, ixN2, some_inj_ex, isObj, setAt0, setAt1, setAt2, setAt3, restE, keepS, wipeE, ↓reduceIte, if_false, if_true,
  eCall, eCallP, eMake, pm, eTwo, dLit, eOwn2, eLenO, okLen, eMethP, eMakeP, isC_o, eRepL, lr1_i, lr2_i, List.filterMap_cons, List.filterMap_nil, agNil, agRo, agBo, agMu, agTm, callK, boIx, muIx, tms, argsK, upE, reown, hasBo, noTm, flatRo, noLstAll, noLst, noLsts, List.nodup_nil, List.nodup_cons, List.not_mem_nil, not_false_eq_true, Nat.zero_le, Nat.le_refl, Nat.reduceLeDiff, List.mem_cons, or_false, reduceCtorEq,
  gN, gTp, gLs, gCn, gNl, iR1, iR2, iRL, iLst, iTpl, iEnum, stab,
  ite_self, str_i, fmt_i, fmt_s, isB_b, notB_b, any_l, tup_l, sExt, e0_is, t0_is, d0_is, s0_is, i0_is, sTry, hXk_n, hXk_s, sRaise, eCallX, eCallXP, eMethX, eMakeX, ePropX, eOwn2X, callX, roA, opXv_exn, opIsX_exn, List.map_cons, List.map_nil, Nat.lt_irrefl, Nat.zero_lt_one, Nat.reduceLT, Nat.zero_lt_succ, some_inj_ex,
  Option.isSome_some, Option.isSome_none, true_and, and_true, eq_self, List.length_map, decide_true, decide_false, Bool.not_true, Bool.not_false, not_true_eq_false, Bool.true_eq_false, Bool.false_eq_true, false_imp_iff, forall_const, true_imp_iff, and_self, decide_eq_true_eq, decide_eq_false_iff_not, Bool.not_eq_true', Bool.not_eq_false'])
namespace NW
namespace K90
open PW (rotL rotL_len Plain plainB plainB_iff plainL plainL_mem orbL divQ ring_count)
open K29 (take_nx)
abbrev sp_is_plain_and_least : FSpec := K29.sp_is_plain_and_least
theorem sat_is_plain_and_least : Sat 2 sp_is_plain_and_least K29.b_is_plain_and_least := K29.sat_is_plain_and_least
theorem firstIn {m : Int} : ∀ {ns : List Int}, m ∈ ns → ∃ q : Nat, q < ns.length ∧ ns[q]? = some m ∧ ∀ t v, t < q → ns[t]? = some v → ¬ v = m
  | n :: ns, h => by
    by_cases e : n = m
    · exact ⟨0, by simp, by rw [e]; rfl, fun t v ht => by omega⟩
    · obtain ⟨q, h1, h2, h3⟩ := firstIn (ns := ns) ((List.mem_cons.mp h).resolve_left fun z => e z.symm)
      refine ⟨q + 1, by simp; omega, h2, fun t v ht hv => ?_⟩
      cases t with
      | zero => simp at hv; rw [← hv]; exact e
      | succ t => exact h3 t v (by omega) hv
/-- the tops of a ring, from the least on -/
def TurnsTo (ns ms : List Int) : Prop := ∃ q m, q < ns.length ∧ ns[q]? = some m ∧ (∀ y ∈ ns, m ≤ y) ∧ (∀ t v, t < q → ns[t]? = some v → ¬ v = m) ∧ ms = ns.drop q ++ ns.take q
theorem TurnsTo.uniq {ns a b : List Int} (h : TurnsTo ns a) (k : TurnsTo ns b) : a = b := by
  obtain ⟨q, m, q1, q2, q3, q4, rfl⟩ := h
  obtain ⟨r, n, r1, r2, r3, r4, rfl⟩ := k
  have e : m = n := Int.le_antisymm (q3 n (List.mem_of_getElem? r2)) (r3 m (List.mem_of_getElem? q2))
  subst e
  rcases Nat.lt_trichotomy q r with z | z | z
  · exact absurd rfl (r4 q m z q2)
  · rw [z]
  · exact absurd rfl (q4 r m z r2)
def tops (rs : List (Int × Int)) (w : List Int) : List Int := (ringL rs w).map fun p => p.1
def wholeB (rs : List (Int × Int)) (w : List Int) : Bool := decide ((ringP rs w).2 = 1)
/-- the whole rings of the words of a list, turned -/
def Turned (rs : List (Int × Int)) (W F : List (List Int)) : Prop := ∃ h : F.length = (W.filter (wholeB rs)).length, ∀ (i : Nat) w f, (W.filter (wholeB rs))[i]? = some w → F[i]? = some f → TurnsTo (tops rs w) f
theorem Turned.uniq {rs : List (Int × Int)} {W F G : List (List Int)} (h : Turned rs W F) (k : Turned rs W G) : F = G := by
  obtain ⟨h1, h2⟩ := h
  obtain ⟨k1, k2⟩ := k
  apply List.ext_getElem?
  intro i
  by_cases c : i < F.length
  · obtain ⟨f, hf⟩ : ∃ f, F[i]? = some f := ⟨_, List.getElem?_eq_getElem c⟩
    obtain ⟨g, hg⟩ : ∃ g, G[i]? = some g := ⟨_, List.getElem?_eq_getElem (by omega)⟩
    obtain ⟨w, hw⟩ : ∃ w, (W.filter (wholeB rs))[i]? = some w := ⟨_, List.getElem?_eq_getElem (by omega)⟩
    rw [hf, hg, (h2 i w f hw hf).uniq (k2 i w g hw hg)]
  · rw [List.getElem?_eq_none (by omega), List.getElem?_eq_none (by omega)]
theorem Turned.nil {rs : List (Int × Int)} : Turned rs [] [] := ⟨rfl, fun i w f h => by simp at h⟩
theorem Turned.no {rs : List (Int × Int)} {W F : List (List Int)} {w : List Int} (h : Turned rs W F) (hw : wholeB rs w = false) : Turned rs (W ++ [w]) F := by
  have e : (W ++ [w]).filter (wholeB rs) = W.filter (wholeB rs) := by rw [List.filter_append]; simp [hw]
  unfold Turned
  rw [e]
  exact h
theorem Turned.yes {rs : List (Int × Int)} {W F : List (List Int)} {w f : List Int} (h : Turned rs W F) (hw : wholeB rs w = true) (hf : TurnsTo (tops rs w) f) : Turned rs (W ++ [w]) (F ++ [f]) := by
  have e : (W ++ [w]).filter (wholeB rs) = W.filter (wholeB rs) ++ [w] := by rw [List.filter_append]; simp [hw]
  obtain ⟨h1, h2⟩ := h
  unfold Turned
  rw [e]
  refine ⟨by simp [h1], fun i v g hv hg => ?_⟩
  by_cases c : i < F.length
  · rw [List.getElem?_append_left (by omega)] at hv
    rw [List.getElem?_append_left c] at hg
    exact h2 i v g hv hg
  · rw [List.getElem?_append_right (by omega)] at hv
    rw [List.getElem?_append_right (by omega)] at hg
    have : i - F.length = 0 := by
      have := (List.getElem?_eq_some_iff.mp hg).1
      simp at this
      omega
    rw [this] at hg
    rw [← h1, this] at hv
    cases hv
    cases hg
    exact hf
def sortW (F : List (List Int)) : List (List Int) := F.mergeSort fun x y => decide (x ≤ y)
/-- the whole rings up to a length, as the program lists them -/
def Rings (rs : List (Int × Int)) (b : Nat) : Nat → List (List Int) → Prop
  | 0, R => R = []
  | n + 1, R => ∃ R' F, Rings rs b n R' ∧ Turned rs (plainL b (n + 1)) F ∧ R = R' ++ sortW F
theorem Rings.uniq {rs : List (Int × Int)} {b : Nat} : ∀ {n : Nat} {R S : List (List Int)}, Rings rs b n R → Rings rs b n S → R = S
  | 0, R, S, h, k => by rw [h, k]
  | n + 1, R, S, ⟨R', F, h1, h2, h3⟩, ⟨S', G, k1, k2, k3⟩ => by rw [h3, k3, Rings.uniq h1 k1, h2.uniq k2]
theorem sort_rows {W : List (List Int)} {k : Ro → Prop} : opSortD (encWs W) k = k (.fr (encWs (W.mergeSort fun x y => decide (x ≤ y)))) := by
  rw [show encWs W = .lst (W.map encZs) from rfl, sortD_l]
  have pdz : ∀ w : List Int, pd (encZs w) = .list (w.map PyData.int) := fun w => by
    show PyData.list (pds (w.map D.int)) = _
    congr 1
    induction w with
    | nil => rfl
    | cons x xs ih => show pd (.int x) :: pds (xs.map D.int) = _; rw [ih]; rfl
  have e : (W.map encZs).mergeSort (PySem.W.dataLe false pd) = (W.mergeSort fun x y => decide (x ≤ y)).map encZs := by
    refine (List.map_mergeSort fun p _ q _ => ?_).symm
    have := congrFun (congrFun (PySem.W.dataLe_rows (β := List Int) (fun b => b)) p) q
    rw [← this]
    show PySem.W.dataLe false (fun b => PyData.list (b.map PyData.int)) p q = PySem.W.dataLe false (fun b => pd (encZs b)) p q
    rw [show (fun b => pd (encZs b)) = fun b : List Int => PyData.list (b.map PyData.int) from funext pdz]
  rw [e]
  refine propext ⟨fun h => h.2.2.2, fun h => ⟨fun d hd => ?_, ?_, ?_, h⟩⟩
  · obtain ⟨p, _, rfl⟩ := List.mem_map.mp hd
    exact okD_encZs (n := 3) p
  · rw [List.map_map]
    refine PySem.W.AllAlike.of fun p q => ?_
    show PySem.W.alike (pd (encZs p)) (pd (encZs q)) = true
    rw [pdz, pdz]
    exact PySem.W.alike_ints p q
  · rw [List.map_map]
    refine PySem.W.Sortable.others fun p => ?_
    show pd (encZs p) ≠ _ ∧ ∀ xs, pd (encZs p) ≠ _
    rw [pdz]
    exact ⟨by simp, by simp⟩
def sp_plain_words : FSpec := fun args kr _ => ∃ (b k : Nat), args = [.ro (.int b), .ro (.int k)] ∧ 2 ≤ b ∧ 1 ≤ k ∧ k ≤ 12 ∧ (∀ i, i ≤ k → b ^ i ≤ 4096) ∧ kr (.fr (encWs (plainL b k))) []
def sp_whole_rings : FSpec := fun args kr _ => ∃ (rs : List (Int × Int)) (b k : Nat), args = [.ro (mapD rs), .ro (.int k)] ∧ RulesOk b rs ∧ 2 ≤ b ∧ b ≤ 60 ∧ 1 ≤ k ∧ k ≤ 12 ∧ (∀ i, i ≤ k → b ^ i ≤ 4096) ∧ ∀ R, Rings rs b k R → R.length ≤ 100000 → kr (.fr (encWs R)) []
/- plain_words: 0:modulus 1:length 2:words 3:turn 4:word 5:entry -/
def b_plain_words : SW := (sSeq (sIf (tVal (eBin opLt (eLoc 0) (eC (.int 2)))) sNever sNil)
  (sSeq (sExpr (eCall 2 sp_check_number (agRo (eLoc 1) (agRo (eC (.int 1)) agNil))))
  (sSeq (sFrz 2 (sSet 2 (eLst (dCons (eLst dNil) dNil))))
  (sSeq (sFor (iR1 (dCons (eLoc 1) dNil)) (gN 3) (sFrz 2 (sSet 2 (eComp2 (iLst (eLoc 2)) (gN 4) (iR1 (dCons (eLoc 0) dNil)) (gN 5) (eBin opAdd (eLoc 4) (eLst (dCons (eLoc 5) dNil))) [4, 5] [5]))))
  (sRet (eComp (iLst (eLoc 2)) (gN 4) (tVal (eCall 1 sp_is_plain_and_least (agRo (eLoc 4) agNil))) (eLoc 4) [4]))))))
/- whole_rings: 0:rule_map 1:most 2:rings 3:length 4:found 5:word 6:ring 7:at 8:top 9:bottom -/
def b_whole_rings : SW := (sSeq (sExpr (eCall 2 sp_check_number (agRo (eLoc 1) (agRo (eC (.int 1)) agNil))))
  (sSeq (sSet 2 (eLst dNil))
  (sSeq (sFor (iR2 (dCons (eC (.int 1)) (dCons (eBin opAdd (eLoc 1) (eC (.int 1))) dNil))) (gN 3) (sSeq (sSet 4 (eLst dNil))
  (sSeq (sFor (iLst (eCall 2 sp_plain_words (agRo (eProp 0 sp_Map_modulus (eLoc 0)) (agRo (eLoc 3) agNil)))) (gN 5) (sIf (tVal (eCall 2 sp_is_whole_ring (agRo (eLoc 0) (agRo (eLoc 5) agNil)))) (sSeq (sFrz 6 (sSet 6 (eComp (iLst (eCall 2 sp_ring_of (agRo (eLoc 0) (agRo (eLoc 5) agNil)))) (gTp 2 (gCn (gN 8) (gCn (gN 9) gNl))) tYesW (eLoc 8) [8, 9])))
  (sSeq (sFrz 7 (sSet 7 (eIdx (eLoc 6) (eUn opMin1 (eLoc 6)))))
  (sApp 4 (eBin opAdd (eSl (eLoc 6) (pSome (eLoc 7)) pNone) (eSl (eLoc 6) pNone (pSome (eLoc 7))))))) sNil))
  (sAugL 2 (eUn opSortD (eLoc 4))))))
  (sRet (eLoc 2)))))
theorem sat_plain_words : Sat 6 sp_plain_words b_plain_words := by
  rintro args mus kr kx hm ⟨b, k, rfl, hb, k1, k12, hp, hk⟩
  obtain rfl := mus0 hm
  unfold b_plain_words
  unfold sFor
  walk_at "sx"
  refine ⟨fun h => by omega, fun _ => ⟨k, 1, rfl, by omega, ?_⟩⟩
  walk_at "sx"
  have wl : ∀ i, i ≤ k → (allW b i).length ≤ 4096 := fun i hi => by rw [allW_len]; exact hp i hi
  refine ⟨by omega, fun i ρ => ∃ e3 : Sl, ρ = [.sh (.int b), .sh (.int k), .sh (encWs (allW b i)), e3, .no, .no], ⟨.no, rfl⟩, fun _ _ _ _ => trivial, ?_, ?_⟩
  · rintro i d ρ hi rfl ⟨e3, rfl⟩
    have hi : i < k := by omega
    have pw := hp (i + 1) (by omega)
    have ml : b * b ^ i ≤ 4096 := by rw [Nat.mul_comm, ← Nat.pow_succ]; exact pw
    simp only [eComp2, iLst]
    walk_at "sx"
    refine ⟨fun j acc ρ => acc = (((allW b i).take j).flatMap fun p => (List.range b).map fun s : Nat => p ++ [(s : Int)]).map encZs ∧ ρ = [.sh (.int b), .sh (.int k), .sh (encWs (allW b i)), .sh (.int i), .no, .no], ⟨rfl, rfl⟩, fun _ _ _ _ _ => trivial, ?_, ?_⟩
    · rintro j d acc ρ hj hd ⟨rfl, rfl⟩
      obtain ⟨w, hw, rfl⟩ := get_map hd
      have al := allW_len b i
      have hj : j < (allW b i).length := by simpa using hj
      have wm := allW_mem.mp (List.mem_of_getElem? hw)
      have jl : j * b + b ≤ 4096 := by
        have : (j + 1) * b ≤ b ^ i * b := Nat.mul_le_mul_right _ (by omega)
        rw [Nat.succ_mul, Nat.mul_comm (b ^ i)] at this
        omega
      have fl : (((allW b i).take j).flatMap fun p => (List.range b).map fun s : Nat => p ++ [(s : Int)]).length ≤ j * b := by
        rw [List.length_flatMap]
        simp only [List.length_map, List.length_range]
        rw [List.map_const', List.sum_replicate_nat, List.length_take]
        exact Nat.mul_le_mul_right _ (Nat.min_le_left _ _)
      walk_at "sx"
      refine ⟨by omega, fun l acc ρ => acc = ((((allW b i).take j).flatMap fun p => (List.range b).map fun s : Nat => p ++ [(s : Int)]) ++ (List.range l).map fun s : Nat => w ++ [(s : Int)]).map encZs ∧ ρ = [.sh (.int b), .sh (.int k), .sh (encWs (allW b i)), .sh (.int i), .sh (encZs w), .no], ⟨by simp, rfl⟩, fun _ _ _ _ _ => trivial, ?_, ?_⟩
      · rintro l e acc ρ hl2 rfl ⟨rfl, rfl⟩
        have hl2 : l < b := by omega
        walk_at "sx"
        have wl1 := wm.1
        refine ⟨Nat.le_of_lt (line_big (by omega)), line_big (by simp only [List.length_map, List.length_append, List.length_range]; omega), ?_⟩
        rw [List.range_succ]
        simp [encZs]
      · rintro acc ρ ⟨rfl, rfl⟩
        refine ⟨?_, rfl⟩
        rw [take_nx hw, List.flatMap_append]
        simp only [List.flatMap_cons, List.flatMap_nil, List.append_nil, Int.toNat_natCast]
    · rintro acc ρ ⟨rfl, rfl⟩
      walk_at "sx"
      rw [List.take_length]
      exact ⟨_, rfl⟩
  · rintro ρ ⟨e3, rfl⟩
    simp only [eComp, iLst]
    walk_at "sx"
    rw [Int.toNat_natCast]
    have kl := wl k (Nat.le_refl _)
    refine ⟨fun i acc ρ => acc = (((allW b k).take i).filter plainB).map encZs ∧ ρ = [.sh (.int b), .sh (.int k), .sh (encWs (allW b k)), e3, .no, .no], ⟨rfl, rfl⟩, fun _ _ _ _ _ => trivial, ?_, ?_⟩
    · rintro i d acc ρ hi hd ⟨rfl, rfl⟩
      obtain ⟨w, hw, rfl⟩ := get_map hd
      have wm := allW_mem.mp (List.mem_of_getElem? hw)
      have hi : i < (allW b k).length := by simpa using hi
      have lF : (((allW b k).take i).filter plainB).length ≤ i := by
        refine Nat.le_trans (List.length_filter_le _ _) ?_
        rw [List.length_take]
        exact Nat.min_le_left _ _
      have en : ((allW b k).take (i + 1)).filter plainB = ((allW b k).take i).filter plainB ++ [w].filter plainB := by rw [take_nx hw, List.filter_append]
      walk_at "sx"
      refine ⟨w, rfl, by have := wm.1; omega, ?_⟩
      walk_at "sx"
      exact ⟨fun h => ⟨line_big (by omega), by rw [en]; simp [h]⟩, fun h => by rw [en]; simp [h]⟩
    · rintro acc ρ ⟨rfl, rfl⟩
      rw [List.take_length]
      walk_at "sx"
      exact hk
theorem sat_whole_rings : Sat 10 sp_whole_rings b_whole_rings := by
  rintro args mus kr kx hm ⟨rs, base, k, rfl, hr, h2, h6, k1, k12, hp, hk⟩
  obtain rfl := mus0 hm
  have ho := hr.map h2 (by omega)
  have hl := hr.len
  unfold b_whole_rings
  unfold sFor
  walk_at "sx"
  refine ⟨k, 1, rfl, by omega, ?_⟩
  walk_at "sx"
  intro a2
  have kk : ((k : Int) + 1 - 1).toNat = k := by omega
  refine ⟨by omega, fun i ρ => ∃ (R : List (List Int)) (e3 e4 e5 e6 e7 : Sl), R.length ≤ i * 4096 ∧ Rings rs base i R ∧ ρ = [.sh (mapD rs), .sh (.int k), .own false a2 (encWs R), e3, e4, e5, e6, e7, .no, .no], ⟨[], _, _, _, _, _, by simp, rfl, rfl⟩, fun _ _ _ _ => trivial, ?_, ?_⟩
  · rintro i d ρ hi rfl ⟨R, e3, e4, e5, e6, e7, hR, hRs, rfl⟩
    have hi : i < k := by omega
    walk_at "sx"
    intro a4
    refine ⟨rs, rfl, ?_⟩
    walk_at "sx"
    obtain ⟨W, eW⟩ : ∃ W, W = plainL base (i + 1) := ⟨_, rfl⟩
    have hW : ∀ w ∈ W, Wd rs.length w ∧ w.length = i + 1 := fun w hw => by
      rw [eW] at hw
      obtain ⟨z1, z2, _⟩ := plainL_mem.mp hw
      exact ⟨by rw [hl]; exact z2, z1⟩
    have hWl : W.length ≤ 4096 := by
      rw [eW]
      have := List.length_filter_le plainB (allW base (i + 1))
      rw [allW_len] at this
      exact Nat.le_trans this (hp (i + 1) (by omega))
    refine ⟨base, i + 1, by rw [hl, show (1 : Int) + (i : Int) = ((i + 1 : Nat) : Int) by omega], h2, by omega, by omega, fun j hj => hp j (by omega), ?_⟩
    rw [← eW]
    walk_at "sx"
    refine ⟨fun j ρ => ∃ (F : List (List Int)) (e5 e6 e7 : Sl), F.length ≤ j ∧ Turned rs (W.take j) F ∧ ρ = [.sh (mapD rs), .sh (.int k), .own false a2 (encWs R), .sh (.int (1 + i)), .own false a4 (encWs F), e5, e6, e7, .no, .no], ⟨[], _, _, _, by simp, Turned.nil, rfl⟩, fun _ _ _ _ => trivial, ?_, ?_⟩
    · rintro j d ρ hj hd ⟨F, e5, e6, e7, hF, hT, rfl⟩
      obtain ⟨w, hw, rfl⟩ := get_map hd
      have hj : j < W.length := by simpa using hj
      obtain ⟨w1, w2⟩ := hW w (List.mem_of_getElem? hw)
      have wne : w ≠ [] := fun z => by rw [z] at w2; simp at w2
      have fz := form_sizes hr h2 h6 w1 (by omega)
      walk_at "sx"
      refine ⟨rs, w, rfl, ho, w1, by omega, fz, ?_⟩
      cases hwb : decide ((ringP rs w).2 = 1) with
      | false =>
        walk_at "sx"
        exact ⟨F, _, _, _, by omega, by rw [take_nx hw]; exact hT.no hwb, rfl⟩
      | true =>
        walk_at "sx"
        simp only [eComp, iLst, tYesW]
        walk_at "sx"
        refine sp_ringR hr h2 h6 w1 (by omega) (by omega) ?_
        walk_at "sx"
        refine ⟨fun t acc ρ => acc = (((ringL rs w).take t).map fun p => p.1).map D.int ∧ ρ = [.sh (mapD rs), .sh (.int k), .own false a2 (encWs R), .sh (.int (1 + i)), .own false a4 (encWs F), .sh (encZs w), e6, e7, .no, .no], ⟨rfl, rfl⟩, fun _ _ _ _ _ => trivial, ?_, ?_⟩
        · rintro t d acc ρ ht hd ⟨rfl, rfl⟩
          obtain ⟨p, hp2, rfl⟩ := get_map hd
          have ht : t < (ringL rs w).length := by simpa using ht
          have rl : (ringL rs w).length = w.length := by unfold ringL; simp
          walk_at "sx"
          refine ⟨line_big (by simp; omega), ?_⟩
          rw [List.take_succ, hp2]
          simp
        · rintro acc ρ ⟨rfl, rfl⟩
          walk_at "sx"
          rw [List.take_length]
          obtain ⟨ns, ens⟩ : ∃ ns, ns = (ringL rs w).map fun p => p.1 := ⟨_, rfl⟩
          have nl : ns.length = w.length := by rw [ens, List.length_map]; unfold ringL; simp
          rw [← ens]
          unfold eIdx
          walk_at "sx"
          refine ⟨trivial, ns, rfl, by have := List.length_pos_iff.mpr wne; omega, fun m hm hmin => ?_⟩
          obtain ⟨q, hq, hq1, hq2⟩ := firstIn hm
          walk_at "sx"
          refine ⟨⟨rfl, okD_encZs (n := 63) ns⟩, q, .int m, by rw [List.getElem?_map, hq1]; rfl, by rw [eqD_int]; simp, fun t z' ht hz => ?_, ?_⟩
          · obtain ⟨v, hv, rfl⟩ := get_map hz
            rw [eqD_int]
            exact decide_eq_false (hq2 t v ht hv)
          · walk_at "sx"
            have c1 : cutL (ns.map D.int) (some (q : Int)) none = (ns.drop q).map D.int := by rw [cutL_drop (by rw [List.length_map]; omega), List.map_drop]
            have c2 : cutL (ns.map D.int) none (some (q : Int)) = (ns.take q).map D.int := by rw [cutL_take (by rw [List.length_map]; omega), List.map_take]
            rw [c1, c2, ← List.map_append]
            refine ⟨⟨_, _, _, rfl⟩, Nat.le_of_lt (line_big (by rw [List.length_map, List.length_map, List.length_drop, List.length_take]; omega)), line_big (by omega), F ++ [ns.drop q ++ ns.take q], .sh (encZs w), .sh (encZs ns), .sh (.int q), by rw [List.length_append]; exact Nat.succ_le_succ hF, by rw [take_nx hw]; exact hT.yes hwb (show TurnsTo (tops rs w) _ by rw [show tops rs w = ns from ens.symm]; exact ⟨q, m, hq, hq1, hmin, hq2, rfl⟩), by rw [show [D.lst (List.map D.int (List.drop q ns ++ List.take q ns))] = List.map encZs [List.drop q ns ++ List.take q ns] from rfl, ← List.map_append]⟩
    · rintro ρ ⟨F, e5, e6, e7, hF, hT, rfl⟩
      have hF : F.length ≤ 4096 := Nat.le_trans hF hWl
      walk_at "sx"
      rw [sort_rows]
      walk_at "sx"
      have i12 : i * 4096 ≤ 12 * 4096 := Nat.mul_le_mul_right _ (by omega)
      refine ⟨⟨_, _, _, rfl⟩, Nat.le_of_lt (line_big (by rw [List.length_mergeSort]; omega)), R ++ F.mergeSort (fun x y => decide (x ≤ y)), .sh (.int (1 + i)), .own false a4 (encWs F), e5, e6, e7, by rw [List.length_append, List.length_mergeSort, Nat.succ_mul]; omega, ⟨R, F, hRs, by rw [← eW]; rw [List.take_length] at hT; exact hT, rfl⟩, by rw [← List.map_append]⟩
  · rintro ρ ⟨R, e3, e4, e5, e6, e7, hR, hRs, rfl⟩
    walk_at "sx"
    rw [kk] at hRs hR
    exact hk R hRs (by omega)
end K90
end NW
end TL

namespace TL
open PySem L2
set_option maxHeartbeats 2000000
local macro_rules | `(tactic| walk_at "sx") => `(tactic| try simp only [sSeq, sNil, eDisp1, eDispN, ltT_l, sumT_l, eDIn, eDNotIn, eDSetd, eDNew, eDGet, eDGet2, sDSet, eTake, sAugL, isDc, sCut, eNe2, neK, rep_l, minT_t, ltL_l, ghs_cons, ghs_nil, eKeep, keep_fr, keep_sh, keep_gh, keep_loc, eAd, eDr, eBinG, sAppE, sRevE, sPopE, eFz, fz_sh, fz_fr, fz_gh, fz_loc, ePk, gF, gP, agBg, agMg, agBd, pvw, eCallG, get_gh, stl_gh, pok_gh, owns, List.drop_succ_cons, List.drop_zero, List.take_succ_cons, List.take_zero, List.mem_cons, List.not_mem_nil, or_false, sSet, sFrz, frz_o, frz_sh, frz_s, sIf, sRet, sRetN, sPass, sBrk, sPar, sSub, sApp, sExpr, sAsg, sAug, sFld, sRevI, sPop, eLoc, eC, eUn, eBin, eAnd, eOr, eNot, eIf, eTup, eLst, dNil, dCons, tVal_eq, tstD_bl, tAndW, tOrW, tNotW, eFld_eq, eFldD_o, eProp, eMeth, eMeth0, eSl, pNone, pSome, sl_l,
  out_sh, out_fr, get_loc, get_sh, get_fr, getL_z, getL_o, getL_s, bound_z, bound_o, bound_s, isOwn_o, isOwn_s, pok_loc, pok_sh, pok_fr, stl_loc, stlS_sh, stlS_own, stl_sh, stl_fr, lay_fr, lay_sh, lay_loc, envOf, slotsOf, valN, ghOf, endK, resK, exMu, muN, List.cons_append, List.nil_append, List.append_nil, List.length_cons, List.length_nil, Nat.reduceAdd, Nat.reduceSub, List.replicate_succ, List.replicate_zero, List.replicate,
  List.getElem?_cons_zero, List.getElem?_cons_succ, List.getElem?_nil, List.set_cons_zero, List.set_cons_succ,
  add_ii, add_ss, add_ll, sub_ii, mul_ii, fdv_ii, fdvN_ii, mod_ii, modN_ii, pow_ii, lt_ii, le_ii, gt_ii, ge_ii, eq_ii, ne_ii, ix_li, ix_ti, neg_i, abs_i, int_i, int_b, max_ii, min_ii, len_l, len_t, list_l, list_t, rev_l, isi_int, isi_bl, isi_tup, isi_lst, isi_non, isN_i, isN_n, isN_t, isN_l, notN_i, notN_n, notN_t, notN_l, isTy,
  atI0, atI1, atI2, ixN0, ixN1, ixN2, some_inj_ex, isObj, setAt0, setAt1, setAt2, setAt3, restE, keepS, wipeE, ↓reduceIte, if_false, if_true,
  eCall, eCallP, eMake, pm, eTwo, dLit, eOwn2, eLenO, okLen, eMethP, eMakeP, isC_o, eRepL, lr1_i, lr2_i, List.filterMap_cons, List.filterMap_nil, agNil, agRo, agBo, agMu, agTm, callK, boIx, muIx, tms, argsK, upE, reown, hasBo, noTm, flatRo, noLstAll, noLst, noLsts, List.nodup_nil, List.nodup_cons, List.not_mem_nil, not_false_eq_true, Nat.zero_le, Nat.le_refl, Nat.reduceLeDiff, List.mem_cons, or_false, reduceCtorEq,
  gN, gTp, gLs, gCn, gNl, iR1, iR2, iRL, iLst, iTpl, iEnum, stab,
  ite_self, str_i, fmt_i, fmt_s, isB_b, notB_b, any_l, tup_l, sExt, e0_is, t0_is, d0_is, s0_is, i0_is, sTry, hXk_n, hXk_s, sRaise, eCallX, eCallXP, eMethX, eMakeX, ePropX, eOwn2X, callX, roA, opXv_exn, opIsX_exn, List.map_cons, List.map_nil, Nat.lt_irrefl, Nat.zero_lt_one, Nat.reduceLT, Nat.zero_lt_succ, some_inj_ex,
  Option.isSome_some, Option.isSome_none, true_and, and_true, eq_self, List.length_map, decide_true, decide_false, Bool.not_true, Bool.not_false, not_true_eq_false, Bool.true_eq_false, Bool.false_eq_true, false_imp_iff, forall_const, true_imp_iff, and_self, decide_eq_true_eq, decide_eq_false_iff_not, Bool.not_eq_true', Bool.not_eq_false'])
namespace NW
namespace K90
open PW (rotL rotL_len Plain plainB plainB_iff plainL plainL_mem orbL divQ ring_count plain_per plain_same word_ring rot_wd)
open K33 (rep_walk rot_ring apart)
open K31 (befF judgeP)
open K87 (wd_apK wd_takeK wd_dropK)
section
variable {base : Nat} {rs : List (Int × Int)}
theorem atI_natC {xs : List D} {q : Nat} (h : q < xs.length) : L2.atI xs (q : Int) = xs[q]? := by
  unfold L2.atI ixN
  rw [if_pos (by omega), if_pos (by omega), Option.bind_some, Int.toNat_natCast]
theorem ringL_orb (ho : MapOk rs) {w : List Int} (hw : Wd rs.length w) (h1 : 1 ≤ w.length) : ringL rs w = orbL rs w := ringL_walk ho hw h1
theorem turn_orb {x : Int × Int} {n s : Nat} (hx : walkF rs n x = x) (hs : s ≤ n) : ((List.range n).map fun i => walkF rs i x).drop s ++ ((List.range n).map fun i => walkF rs i x).take s = (List.range n).map fun i => walkF rs i (walkF rs s x) := by
  apply List.ext_getElem?
  intro i
  by_cases c : i < n
  · rw [List.getElem?_map, List.getElem?_range c]
    by_cases d : i < n - s
    · rw [List.getElem?_append_left (by simp; omega), List.getElem?_drop, List.getElem?_map, List.getElem?_range (by omega)]
      show some (walkF rs (s + i) x) = some (walkF rs i (walkF rs s x))
      rw [walkF_add]
    · rw [List.getElem?_append_right (by simp; omega), List.length_drop, List.length_map, List.length_range, List.getElem?_take_of_lt (by omega), List.getElem?_map, List.getElem?_range (by omega)]
      show some (walkF rs (i - (n - s)) x) = some (walkF rs i (walkF rs s x))
      rw [walkF_add, show s + i = n + (i - (n - s)) by omega, ← walkF_add, hx]
  · rw [List.getElem?_eq_none (by simp; omega), List.getElem?_eq_none (by simp; omega)]
theorem judge_turn (hr : RulesOk base rs) (h2 : 2 ≤ base) (h6 : base ≤ 60) {p : List Int} (hp : Wd rs.length p) (h1 : 1 ≤ p.length) (hpl : Plain p) {s : Nat} (hs : s ≤ p.length) : judgeP rs ((ringL rs p).drop s ++ (ringL rs p).take s) := by
  have ho := hr.map h2 (by omega)
  obtain ⟨g, _⟩ := ringP_spec ho hp h1
  have rp := ring_round ho hp h1
  have cp := plain_per hr h2 h6 hp h1 hpl
  have nd : (ringL rs p).Nodup := by
    rw [ringL_walk ho hp h1]
    have nr : (List.range p.length).Nodup := List.nodup_range
    unfold List.Nodup at nr ⊢
    rw [List.pairwise_map]
    refine nr.imp_of_mem fun {a b} ha hb hne e => ?_
    exact hne (plain_same hr h2 h6 hp hp h1 h1 hpl hpl (List.mem_range.mp ha) (List.mem_range.mp hb) e).2
  have nd2 : ((ringL rs p).drop s ++ (ringL rs p).take s).Nodup := by
    refine (List.Perm.nodup_iff (List.perm_append_comm)).mpr ?_
    rw [List.take_append_drop]
    exact nd
  have e := turn_orb (s := s) rp hs
  rw [← ringL_walk ho hp h1] at e
  refine ⟨?_, ?_, nd2, ?_⟩
  · rw [e]
    intro z
    rw [List.map_eq_nil_iff, List.range_eq_nil] at z
    omega
  · intro q hq
    rw [e] at hq
    obtain ⟨i, _, rfl⟩ := List.mem_map.mp hq
    exact walkF_good (walkF_good (rs := rs) g s) i
  · rw [e]
    intro k hk
    rw [List.length_map, List.length_range] at hk
    have gt : ∀ i, i < p.length → ((List.range p.length).map fun i => walkF rs i (walkF rs s (ringP rs p))).getD i (0, 1) = walkF rs i (walkF rs s (ringP rs p)) := fun i hi => by
      rw [List.getD_eq_getElem?_getD, List.getElem?_map, List.getElem?_range hi]
      rfl
    unfold befF
    rw [List.length_map, List.length_range, gt k hk]
    by_cases k0 : k = 0
    · rw [if_pos k0, gt _ (by omega), k0]
      show walkF rs (p.length - 1 + 1) (walkF rs s (ringP rs p)) = walkF rs s (ringP rs p)
      rw [show p.length - 1 + 1 = p.length by omega, walkF_add, Nat.add_comm, ← walkF_add, rp]
    · rw [if_neg k0, gt _ (by omega)]
      show walkF rs (k - 1 + 1) _ = _
      rw [show k - 1 + 1 = k by omega]
end
abbrev sp_judge_ring : FSpec := K31.sp_judge_ring
theorem sat_judge_ring : Sat 6 sp_judge_ring K31.b_judge_ring := K31.sat_judge_ring
def sp_law_is_round : FSpec := fun args kr _ => ∃ (x y z N : Int) (base n : Nat) (rs : List (Int × Int)) (p : List Int), args = [.mu (src x y z), .ro (mapD rs), .ro (encZs p), .ro (encRs (ringL rs p)), .ro (.int n)] ∧ RulesOk base rs ∧ 2 ≤ base ∧ base ≤ 60 ∧ Wd rs.length p ∧ 1 ≤ p.length ∧ p.length ≤ 12 ∧ 1 ≤ n ∧ n ≤ 12 ∧ Plain p ∧ 0 ≤ z ∧ z ≤ N ∧ N ≤ 900000 ∧ ∀ x z', 0 ≤ z' → z' ≤ N + 1 → kr (.sh (.bl true)) [src x y z']
/- _law_is_round: 0:source 1:chart 2:path 3:ring 4:length 5:spot 6:place -/
def b_law_is_round : SW := (sSeq (sFrz 5 (sSet 5 (eCall 2 sp_law_take (agMu 0 (agRo (eUn opLen (eLoc 3)) agNil)))))
  (sSeq (sIf (tVal (eUn (opNotB true) (eCall 2 sp_judge_ring (agRo (eLoc 1) (agRo (eBin opAdd (eSl (eLoc 3) (pSome (eLoc 5)) pNone) (eSl (eLoc 3) pNone (pSome (eLoc 5)))) agNil))))) (sRet (eC (.bl false))) sNil)
  (sSeq (sIf (tVal (eBin opNe (eCall 3 sp_word_round (agRo (eLoc 1) (agRo (eBin opIx (eLoc 3) (eLoc 5)) (agRo (eUn opLen (eLoc 3)) agNil)))) (eBin opAdd (eSl (eLoc 2) (pSome (eLoc 5)) pNone) (eSl (eLoc 2) pNone (pSome (eLoc 5)))))) (sRet (eC (.bl false))) sNil)
  (sSeq (sIf (tVal (eBin opGt (eBin opMod (eUn opInt (eLoc 4)) (eUn opLen (eLoc 3))) (eC (.int 0)))) (sRet (eC (.bl true))) sNil)
  (sSeq (sIf (tVal (eBin opNe (eCall 3 sp_word_round (agRo (eLoc 1) (agRo (eBin opIx (eLoc 3) (eC (.int 0))) (agRo (eLoc 4) agNil)))) (eBin opRep (eLoc 2) (eBin opFdv (eLoc 4) (eUn opLen (eLoc 2)))))) (sRet (eC (.bl false))) sNil)
  (sRet (eUn opAll (eComp (iLst (eLoc 3)) (gN 6) tYesW (eBin opEq (eCall 3 sp_after (agRo (eLoc 1) (agRo (eLoc 6) (agRo (eLoc 4) agNil)))) (eLoc 6)) [6]))))))))
theorem sat_law_is_round : Sat 7 sp_law_is_round b_law_is_round := by
  rintro args mus kr kx hm ⟨x0, y, z0, N, base, n, rs, p, rfl, hr, h2, h6, hp, p1, pl, n1, n12, hpl, hz0, hzN, hN, hk⟩
  obtain ⟨a, rfl⟩ := mus1 hm
  have ho := hr.map h2 (by omega)
  have hl := hr.len
  have lr : (ringL rs p).length = p.length := by unfold ringL; simp
  obtain ⟨g, gs1, gs2⟩ := K16.ring_sizes hr h2 h6 hp p1
  have rp := ring_round ho hp p1
  have sz : ∀ i, Bt 80000000 (walkF rs i (ringP rs p)).1 ∧ Bt 8000 (walkF rs i (ringP rs p)).2 := by
    intro i
    refine ⟨?_, ?_⟩
    · have e0 : p.length * (i / p.length) + i % p.length = i := Nat.div_add_mod _ _
      have e1 : walkF rs i (ringP rs p) = walkF rs (i % p.length) (ringP rs p) := by
        rw [← e0, ← walkF_add, rep_walk rp, e0]
      have lt : i % p.length < p.length := Nat.mod_lt _ (by omega)
      rw [e1]
      exact (walk_szR hr h2 g (gs1.mono (by omega)) (gs2.mono (by omega)) (i % p.length)).mono (by omega)
    · exact walkF_bot (gs2.mono (by omega)) i
  have rw1 : ringL rs p = (List.range p.length).map fun i => walkF rs i (ringP rs p) := ringL_walk ho hp p1
  have gat : ∀ {i : Nat}, i < p.length → L2.atI ((ringL rs p).map encR) (i : Int) = some (encR (walkF rs i (ringP rs p))) := fun {i} hi => by
    rw [atI_natC (by rw [List.length_map, lr]; exact hi), rw1, List.getElem?_map, List.getElem?_map, List.getElem?_range hi]
    rfl
  unfold b_law_is_round
  walk_at "sx"
  rw [lr]
  refine ⟨x0, y, z0, p.length, N, rfl, by omega, (Bt.small (by omega) (by omega)).mono (by omega), hz0, hzN, by omega, fun s x z s0 s1 hz0 hzN => ?_⟩
  obtain ⟨s, rfl⟩ := Int.eq_ofNat_of_zero_le s0
  have hs : s < p.length := by omega
  have tail : kr (.sh (.bl true)) [src x y z] := hk _ _ hz0 hzN
  walk_at "sx"
  have cr1 : cutL ((ringL rs p).map encR) (some (s : Int)) none = ((ringL rs p).drop s).map encR := by rw [cutL_drop (by rw [List.length_map, lr]; omega), List.map_drop]
  have cr2 : cutL ((ringL rs p).map encR) none (some (s : Int)) = ((ringL rs p).take s).map encR := by rw [cutL_take (by rw [List.length_map, lr]; omega), List.map_take]
  rw [cr1, cr2, List.length_map, List.length_map, List.length_drop, List.length_take, lr, ← List.map_append]
  refine ⟨Nat.le_of_lt (line_big (by omega)), rs, _, rfl, ho, by rw [List.length_append, List.length_drop, List.length_take, lr]; omega, fun q hq => ?_, ?_⟩
  · have hq : q ∈ ringL rs p := by
      rcases List.mem_append.mp hq with h | h
      · exact List.mem_of_mem_drop h
      · exact List.mem_of_mem_take h
    rw [rw1] at hq
    obtain ⟨i, _, rfl⟩ := List.mem_map.mp hq
    exact sz i
  rw [decide_eq_true (judge_turn hr h2 h6 hp p1 hpl (by omega))]
  walk_at "sx"
  refine ⟨_, gat hs, ?_⟩
  have gy := walkF_good (rs := rs) g s
  have ry : walkF rs p.length (walkF rs s (ringP rs p)) = walkF rs s (ringP rs p) := by rw [walkF_add, Nat.add_comm, ← walkF_add, rp]
  have wy : wordF rs (walkF rs s (ringP rs p)) p.length = rotL s p := by
    rw [(rot_ring hr h2 h6 hp p1 (by omega)).1]
    have e := word_ring ho (rot_wd hp s) (by rw [rotL_len]; exact p1)
    rw [rotL_len] at e
    exact e
  refine ⟨rs, walkF rs s (ringP rs p), p.length, by rw [lr], ho, gy, fun i hi => by rw [walkF_add]; exact (sz _).1, (sz s).2, p1, by omega, fun h => absurd ry h, fun _ => ?_⟩
  rw [wy]
  walk_at "sx"
  have cp1 : cutL (p.map D.int) (some (s : Int)) none = (p.drop s).map D.int := by rw [cutL_drop (by rw [List.length_map]; omega), List.map_drop]
  have cp2 : cutL (p.map D.int) none (some (s : Int)) = (p.take s).map D.int := by rw [cutL_take (by rw [List.length_map]; omega), List.map_take]
  rw [cp1, cp2, List.length_map, List.length_map, List.length_drop, List.length_take, ← List.map_append]
  refine ⟨Nat.le_of_lt (line_big (by omega)), ?_⟩
  rw [show D.lst ((p.drop s ++ p.take s).map D.int) = encZs (rotL s p) from rfl, ne_zz, decide_eq_true rfl]
  walk_at "sx"
  rw [lr]
  have em : (n : Int) % (p.length : Int) = ((n % p.length : Nat) : Int) := (Int.natCast_emod _ _).symm
  have ed : (n : Int) / (p.length : Int) = ((n / p.length : Nat) : Int) := (Int.natCast_ediv _ _).symm
  refine ⟨by omega, fun _ => tail, fun hm0 => ?_⟩
  have hm0 : n % p.length = 0 := by omega
  have e0 : p.length * (n / p.length) + n % p.length = n := Nat.div_add_mod _ _
  have en : (n / p.length) * p.length = n := by rw [Nat.mul_comm]; omega
  have rn : ∀ i, walkF rs n (walkF rs i (ringP rs p)) = walkF rs i (ringP rs p) := fun i => by
    have z := (ring_rounds ho hp p1 (n / p.length)).1
    rw [en] at z
    rw [walkF_add, Nat.add_comm, ← walkF_add, z]
  have wn : wordF rs (ringP rs p) n = (List.replicate (n / p.length) p).flatten := by
    have z := (ring_rounds ho hp p1 (n / p.length)).2
    rw [en] at z
    exact z
  refine ⟨_, ring_first p1, ?_⟩
  refine ⟨rs, ringP rs p, n, rfl, ho, g, fun i hi => (sz i).1, (sz 0).2, n1, by omega, fun h => absurd (rn 0) h, fun _ => ?_⟩
  rw [wn]
  walk_at "sx"
  have dl : n / p.length ≤ n := Nat.div_le_self _ _
  have ml : p.length * (n / p.length) ≤ n := Nat.mul_div_le _ _
  have eM : (List.replicate (n / p.length) (p.map D.int)).flatten = ((List.replicate (n / p.length) p).flatten).map D.int := by rw [List.map_flatten, List.map_replicate]
  rw [ed, Int.toNat_natCast, eM]
  refine ⟨⟨by omega, (show Bt 9000 (p.length : Int) from (Bt.small (by omega) (by omega)).mono (by omega))⟩, ⟨Int.le_trans (by decide) (Int.natCast_nonneg _), Int.lt_of_le_of_lt (Int.ofNat_le.mpr dl) (by omega), Nat.le_of_lt (line_big (by omega))⟩, ?_⟩
  rw [show D.lst (((List.replicate (n / p.length) p).flatten).map D.int) = encZs (List.replicate (n / p.length) p).flatten from rfl, ne_zz, decide_eq_true rfl]
  walk_at "sx"
  simp only [eComp, tYesW, iLst]
  walk_at "sx"
  refine ⟨fun i acc ρ => acc = List.replicate i (.bl true) ∧ ρ = [.own true a (src x y z), .sh (mapD rs), .sh (encZs p), .sh (encRs (ringL rs p)), .sh (.int n), .sh (.int s), .no], ⟨rfl, rfl⟩, fun _ _ _ _ _ => trivial, ?_, ?_⟩
  · rintro i d acc ρ hi hd ⟨rfl, rfl⟩
    obtain ⟨q, hq, rfl⟩ := get_map hd
    have hi : i < p.length := by
      have := (List.getElem?_eq_some_iff.mp hq).1
      omega
    rw [rw1, List.getElem?_map, List.getElem?_range hi] at hq
    cases hq
    walk_at "sx"
    refine ⟨rs, walkF rs i (ringP rs p), n, rfl, ho, walkF_good g i, fun j hj => by rw [walkF_add]; exact (sz _).1, (sz i).2, by omega, ?_⟩
    rw [rn i]
    walk_at "sx"
    rw [eq_r, decide_eq_true rfl]
    walk_at "sx"
    exact ⟨line_big (by rw [List.length_replicate]; omega), by rw [← List.replicate_succ']; rfl⟩
  rintro acc ρ ⟨rfl, rfl⟩
  walk_at "sx"
  refine ⟨List.replicate _ true, by rw [List.map_replicate], ?_⟩
  rw [all_true]
  walk_at "sx"
  exact tail
end K90
end NW
end TL

namespace TL
open PySem L2
set_option maxHeartbeats 2000000
local macro_rules | `(tactic| walk_at "sx") => `(tactic| try simp only [sSeq, sNil, eDisp1, eDispN, ltT_l, sumT_l, eDIn, eDNotIn, eDSetd, eDNew, eDGet, eDGet2, sDSet, eTake, sAugL, isDc, sCut, eNe2, neK, rep_l, minT_t, ltL_l, ghs_cons, ghs_nil, eKeep, keep_fr, keep_sh, keep_gh, keep_loc, eAd, eDr, eBinG, sAppE, sRevE, sPopE, eFz, fz_sh, fz_fr, fz_gh, fz_loc, ePk, gF, gP, agBg, agMg, agBd, pvw, eCallG, get_gh, stl_gh, pok_gh, owns, List.drop_succ_cons, List.drop_zero, List.take_succ_cons, List.take_zero, List.mem_cons, List.not_mem_nil, or_false, sSet, sFrz, frz_o, frz_sh, frz_s, sIf, sRet, sRetN, sPass, sBrk, sPar, sSub, sApp, sExpr, sAsg, sAug, sFld, sRevI, sPop, eLoc, eC, eUn, eBin, eAnd, eOr, eNot, eIf, eTup, eLst, dNil, dCons, tVal_eq, tstD_bl, tAndW, tOrW, tNotW, eFld_eq, eFldD_o, eProp, eMeth, eMeth0, eSl, pNone, pSome, sl_l,
  out_sh, out_fr, get_loc, get_sh, get_fr, getL_z, getL_o, getL_s, bound_z, bound_o, bound_s, isOwn_o, isOwn_s, pok_loc, pok_sh, pok_fr, stl_loc, stlS_sh, stlS_own, stl_sh, stl_fr, lay_fr, lay_sh, lay_loc, envOf, slotsOf, valN, ghOf, endK, resK, exMu, muN, List.cons_append, List.nil_append, List.append_nil, List.length_cons, List.length_nil, Nat.reduceAdd, Nat.reduceSub, List.replicate_succ, List.replicate_zero, List.replicate,
  List.getElem?_cons_zero, List.getElem?_cons_succ, List.getElem?_nil, List.set_cons_zero, List.set_cons_succ,
  add_ii, add_ss, add_ll, sub_ii, mul_ii, fdv_ii, fdvN_ii, mod_ii, modN_ii, pow_ii, lt_ii, le_ii, gt_ii, ge_ii, eq_ii, ne_ii, ix_li, ix_ti, neg_i, abs_i, int_i, int_b, max_ii, min_ii, len_l, len_t, list_l, list_t, rev_l, isi_int, isi_bl, isi_tup, isi_lst, isi_non, isN_i, isN_n, isN_t, isN_l, notN_i, notN_n, notN_t, notN_l, isTy,
  atI0, atI1, atI2, ixN0, ixN1, ixN2, some_inj_ex, isObj, setAt0, setAt1, setAt2, setAt3, restE, keepS, wipeE, ↓reduceIte, if_false, if_true,
  eCall, eCallP, eMake, pm, eTwo, dLit, eOwn2, eLenO, okLen, eMethP, eMakeP, isC_o, eRepL, lr1_i, lr2_i, List.filterMap_cons, List.filterMap_nil, agNil, agRo, agBo, agMu, agTm, callK, boIx, muIx, tms, argsK, upE, reown, hasBo, noTm, flatRo, noLstAll, noLst, noLsts, List.nodup_nil, List.nodup_cons, List.not_mem_nil, not_false_eq_true, Nat.zero_le, Nat.le_refl, Nat.reduceLeDiff, List.mem_cons, or_false, reduceCtorEq,
  gN, gTp, gLs, gCn, gNl, iR1, iR2, iRL, iLst, iTpl, iEnum, stab,
  ite_self, str_i, fmt_i, fmt_s, isB_b, notB_b, any_l, tup_l, sExt, e0_is, t0_is, d0_is, s0_is, i0_is, sTry, hXk_n, hXk_s, sRaise, eCallX, eCallXP, eMethX, eMakeX, ePropX, eOwn2X, callX, roA, opXv_exn, opIsX_exn, List.map_cons, List.map_nil, Nat.lt_irrefl, Nat.zero_lt_one, Nat.reduceLT, Nat.zero_lt_succ, some_inj_ex,
  Option.isSome_some, Option.isSome_none, true_and, and_true, eq_self, List.length_map, decide_true, decide_false, Bool.not_true, Bool.not_false, not_true_eq_false, Bool.true_eq_false, Bool.false_eq_true, false_imp_iff, forall_const, true_imp_iff, and_self, decide_eq_true_eq, decide_eq_false_iff_not, Bool.not_eq_true', Bool.not_eq_false'])
namespace NW
namespace K90
open PW (rotL rotL_len Plain plainB plainB_iff plainL plainL_mem orbL divQ ring_count plain_per plain_same word_ring rot_wd)
open CD (clsR clsL clsL_len clsL_at preF)
open CD.K43 (step_cls)
open CD.K46 (preN mem_pre)
abbrev sp_numbers_before : FSpec := CD.K96.sp_numbers_before
theorem sat_numbers_before : Sat 7 sp_numbers_before CD.K46.b_numbers_before := CD.K96.sat_numbers_before
abbrev sp_whole_before : FSpec := CD.sp_whole_before
theorem sat_whole_before : Sat 6 sp_whole_before CD.b_whole_before := CD.sat_whole_before
abbrev sp_classes_before : FSpec := CD.sp_classes_before
theorem sat_classes_before : Sat 6 sp_classes_before CD.b_classes_before := CD.sat_classes_before
def sp_law_is_led_to : FSpec := fun args kr _ => ∃ (b n : Nat) (rs : List (Int × Int)) (x : Int), args = [.ro (mapD rs), .ro (.int b), .ro (encZs ((List.range n).map fun i => zWalk rs x i))] ∧ RulesOk b rs ∧ 2 ≤ b ∧ b ≤ 12 ∧ 1 ≤ n ∧ n ≤ 12 ∧ (∀ i, i ≤ n → b ^ i ≤ 4096) ∧ zWalk rs x n = x ∧ (∀ i, i ≤ n → Bt 4000 (zWalk rs x i)) ∧ kr (.sh (.bl true)) []
/- _law_is_led_to: 0:chart 1:base 2:tops 3:sides 4:k 5:side 6:rest -/
def b_law_is_led_to : SW := (sSeq (sFrz 3 (sSet 3 (eCallP 1 [0] sp_classes_before (agRo (eLoc 0) agNil))))
  (sSeq (sFor (iR1 (dCons (eUn opLen (eLoc 2)) dNil)) (gN 4) (sSeq (sAsg (eBin opIx (eLoc 3) (eBin opMod (eUn opInt (eBin opIx (eLoc 2) (eBin opSub (eLoc 4) (eC (.int 1))))) (eLoc 1))) (gTp 2 (gCn (gN 5) (gCn (gN 6) gNl))))
  (sIf (tOrW (tVal (eBin opNe (eBin opMod (eUn opInt (eBin opSub (eBin opIx (eLoc 2) (eLoc 4)) (eLoc 6))) (eLoc 5)) (eC (.int 0)))) (tVal (eBin opNotIn (eBin opIx (eLoc 2) (eBin opSub (eLoc 4) (eC (.int 1)))) (eCallP 2 [0, 1] sp_whole_before (agRo (eLoc 0) (agRo (eBin opIx (eLoc 2) (eLoc 4)) agNil)))))) (sRet (eC (.bl false))) sNil)))
  (sRet (eBin opIn (eBin opIx (eLoc 2) (eC (.int 0))) (eCallP 3 [0, 1, 2] sp_numbers_before (agRo (eLoc 0) (agRo (eBin opIx (eLoc 2) (eC (.int 0))) (agRo (eUn opLen (eLoc 2)) agNil))))))))
theorem sat_law_is_led_to : Sat 7 sp_law_is_led_to b_law_is_led_to := by
  rintro args mus kr kx hm ⟨b, n, rs, x, rfl, hr, h2, h12, n1, n12, hp, hx, hb, hk⟩
  obtain rfl := mus0 hm
  have ho := hr.map h2 (by omega)
  have hl := hr.len
  have r1 : ∀ p ∈ rs, p.1 ≤ 1000 := fun p hp => by
    obtain ⟨i, hi⟩ := List.getElem?_of_mem hp
    exact (hr.ok i p hi).2.1
  have r2 : ∀ p ∈ rs, Bt 600 p.2 := fun p hp => by
    obtain ⟨i, hi⟩ := List.getElem?_of_mem hp
    exact (hr.ok i p hi).2.2
  obtain ⟨T, eT⟩ : ∃ T, T = (List.range n).map fun i => zWalk rs x i := ⟨_, rfl⟩
  have lT : T.length = n := by rw [eT]; simp
  have gT : ∀ {i : Nat}, i < n → L2.atI (T.map D.int) (i : Int) = some (.int (zWalk rs x i)) := fun {i} hi => by
    rw [atI_natC (by rw [List.length_map, lT]; exact hi), eT, List.getElem?_map, List.getElem?_map, List.getElem?_range hi]
    rfl
  have prev : ∀ k : Nat, k < n → ∃ v, L2.atI (T.map D.int) ((k : Int) - 1) = some (.int v) ∧ zStep rs v = zWalk rs x k := fun k hk => by
    by_cases k0 : k = 0
    · subst k0
      obtain ⟨n', rfl⟩ : ∃ n', n = n' + 1 := ⟨n - 1, by omega⟩
      refine ⟨zWalk rs x n', ?_, hx⟩
      rw [eT, List.range_succ, List.map_append, List.map_append]
      exact atI_last
    · obtain ⟨k', rfl⟩ : ∃ k', k = k' + 1 := ⟨k - 1, by omega⟩
      refine ⟨zWalk rs x k', ?_, rfl⟩
      rw [show ((k' + 1 : Nat) : Int) - 1 = (k' : Int) by omega]
      exact gT (by omega)
  rw [← eT]
  unfold b_law_is_led_to
  walk_at "sx"
  refine ⟨rs, rfl, ho, r1, ?_⟩
  walk_at "sx"
  simp only [sFor]
  walk_at "sx"
  refine ⟨by omega, fun i ρ => ∃ e4 e5 e6 : Sl, ρ = [.sh (mapD rs), .sh (.int b), .sh (encZs T), .sh (encRs (clsL rs)), e4, e5, e6], ⟨_, _, _, rfl⟩, fun _ _ _ _ => trivial, ?_, ?_⟩
  · rintro i d ρ hi rfl ⟨e4, e5, e6, rfl⟩
    have hi : i < n := by omega
    obtain ⟨v, hv1, hv2⟩ := prev i hi
    obtain ⟨r, hvr⟩ := Int.eq_ofNat_of_zero_le (Int.emod_nonneg v (show (b : Int) ≠ 0 by omega))
    have rb : r < rs.length := by have := Int.emod_lt_of_pos v (show (0 : Int) < b by omega); omega
    have gC : L2.atI ((clsL rs).map encR) (r : Int) = some (encR (clsR rs r)) := by
      rw [atI_natC (by rw [List.length_map, clsL_len]; exact rb), List.getElem?_map, clsL_at rb]
      rfl
    have ev : v = (r : Int) + rs.length * (v / b) := by
      have := Int.emod_add_mul_ediv v b
      rw [hl]
      omega
    have cl := step_cls ho rb (v / b)
    rw [← ev, hv2] at cl
    have ca : 1 ≤ (clsR rs r).1 := by
      have := ho.ok r _ (List.getElem?_eq_getElem rb)
      unfold clsR
      rw [List.getD_eq_getElem?_getD, List.getElem?_eq_getElem rb]
      exact this.1
    have tz : (zWalk rs x i - (clsR rs r).2) % (clsR rs r).1 = 0 := by
      rw [← cl]
      have e := Int.emod_add_mul_ediv (zWalk rs x i) (clsR rs r).1
      have : zWalk rs x i - zWalk rs x i % (clsR rs r).1 = (clsR rs r).1 * (zWalk rs x i / (clsR rs r).1) := by omega
      rw [this]
      exact Int.mul_emod_right _ _
    walk_at "sx"
    refine ⟨_, hv1, ?_⟩
    walk_at "sx"
    rw [hvr]
    refine ⟨by omega, _, gC, ?_⟩
    dsimp only [encR]
    walk_at "sx"
    refine ⟨_, gT hi, ?_⟩
    walk_at "sx"
    refine ⟨by omega, fun h => absurd tz h, fun _ => ?_⟩
    refine ⟨_, hv1, _, gT hi, ?_⟩
    refine ⟨rs, _, rfl, ho, r1, (hb i (by omega)).mono (by omega), fun ms q1 q2 => ?_⟩
    walk_at "sx"
    have inn : (ms.any fun z => decide (z = v)) = true := by
      rw [List.any_eq_true]
      exact ⟨v, q1.mem_iff.mpr (by rw [← hv2]; exact mem_pre ho v), decide_eq_true rfl⟩
    rw [show encZs ms = .lst (ms.map D.int) from rfl, notIn_l]
    refine ⟨⟨rfl, okD_encZs (n := 63) _⟩, ?_⟩
    rw [List.any_map, show ((fun z => eqD z (D.int v)) ∘ D.int) = fun z => decide (z = v) from funext fun z => by simp [eqD_int], inn]
    walk_at "sx"
    exact ⟨_, _, _, rfl⟩
  rintro ρ ⟨e4, e5, e6, rfl⟩
  walk_at "sx"
  have g0 : L2.atI (T.map D.int) 0 = some (.int x) := gT (i := 0) (by omega)
  refine ⟨_, g0, _, g0, ?_⟩
  refine ⟨rs, x, T.length, rfl, ho, by omega, r1, r2, (hb 0 (by omega)).mono (by omega), by omega, fun i hi => by rw [hl]; exact hp i (by omega), fun ms q1 q2 q3 => ?_⟩
  walk_at "sx"
  have inn : (ms.any fun z => decide (z = x)) = true := by
    rw [List.any_eq_true]
    exact ⟨x, q1.mem_iff.mpr ((CD.preN_iff ho).mpr (by rw [lT]; exact hx)), decide_eq_true rfl⟩
  rw [show encZs ms = .lst (ms.map D.int) from rfl, in_l]
  refine ⟨⟨rfl, okD_encZs (n := 63) _⟩, ?_⟩
  rw [List.any_map, show ((fun z => eqD z (D.int x)) ∘ D.int) = fun z => decide (z = x) from funext fun z => by simp [eqD_int], inn]
  walk_at "sx"
  exact hk
end K90
end NW
end TL

namespace TL
open PySem L2
set_option maxHeartbeats 2000000
local macro_rules | `(tactic| walk_at "sx") => `(tactic| try simp only [sSeq, sNil, eDisp1, eDispN, ltT_l, sumT_l, eDIn, eDNotIn, eDSetd, eDNew, eDGet, eDGet2, sDSet, eTake, sAugL, isDc, sCut, eNe2, neK, rep_l, minT_t, ltL_l, lenDT_d, ghs_cons, ghs_nil, eKeep, keep_fr, keep_sh, keep_gh, keep_loc, eAd, eDr, eBinG, sAppE, sRevE, sPopE, eFz, fz_sh, fz_fr, fz_gh, fz_loc, ePk, gF, gP, agBg, agMg, agBd, pvw, eCallG, get_gh, stl_gh, pok_gh, owns, List.drop_succ_cons, List.drop_zero, List.take_succ_cons, List.take_zero, List.mem_cons, List.not_mem_nil, or_false, sSet, sFrz, frz_o, frz_sh, frz_s, sIf, sRet, sRetN, sPass, sBrk, sPar, sSub, sApp, sExpr, sAsg, sAug, sFld, sRevI, sPop, eLoc, eC, eUn, eBin, eAnd, eOr, eNot, eIf, eTup, eLst, dNil, dCons, tVal_eq, tstD_bl, tAndW, tOrW, tNotW, eFld_eq, eFldD_o, eProp, eMeth, eMeth0, eSl, pNone, pSome, sl_l,
  out_sh, out_fr, get_loc, get_sh, get_fr, getL_z, getL_o, getL_s, bound_z, bound_o, bound_s, isOwn_o, isOwn_s, pok_loc, pok_sh, pok_fr, stl_loc, stlS_sh, stlS_own, stl_sh, stl_fr, lay_fr, lay_sh, lay_loc, envOf, slotsOf, valN, ghOf, endK, resK, exMu, muN, List.cons_append, List.nil_append, List.append_nil, List.length_cons, List.length_nil, Nat.reduceAdd, Nat.reduceSub, List.replicate_succ, List.replicate_zero, List.replicate,
  List.getElem?_cons_zero, List.getElem?_cons_succ, List.getElem?_nil, List.set_cons_zero, List.set_cons_succ,
  add_ii, add_ss, add_ll, sub_ii, mul_ii, fdv_ii, fdvN_ii, mod_ii, modN_ii, pow_ii, lt_ii, le_ii, gt_ii, ge_ii, eq_ii, ne_ii, ix_li, ix_ti, neg_i, abs_i, int_i, int_b, max_ii, min_ii, len_l, len_t, list_l, list_t, rev_l, isi_int, isi_bl, isi_tup, isi_lst, isi_non, isN_i, isN_n, isN_t, isN_l, notN_i, notN_n, notN_t, notN_l, isTy,
  atI0, atI1, atI2, ixN0, ixN1, ixN2, some_inj_ex, isObj, setAt0, setAt1, setAt2, setAt3, restE, keepS, wipeE, ↓reduceIte, if_false, if_true,
  eCall, eCallP, eMake, pm, eTwo, dLit, eOwn2, eLenO, okLen, eMethP, eMakeP, isC_o, eRepL, lr1_i, lr2_i, List.filterMap_cons, List.filterMap_nil, agNil, agRo, agBo, agMu, agTm, callK, boIx, muIx, tms, argsK, upE, reown, hasBo, noTm, flatRo, noLstAll, noLst, noLsts, List.nodup_nil, List.nodup_cons, List.not_mem_nil, not_false_eq_true, Nat.zero_le, Nat.le_refl, Nat.reduceLeDiff, List.mem_cons, or_false, reduceCtorEq,
  gN, gTp, gLs, gCn, gNl, iR1, iR2, iRL, iLst, iTpl, iEnum, stab,
  ite_self, str_i, fmt_i, fmt_s, isB_b, notB_b, any_l, tup_l, sExt, e0_is, t0_is, d0_is, s0_is, i0_is, sTry, hXk_n, hXk_s, sRaise, eCallX, eCallXP, eMethX, eMakeX, ePropX, eOwn2X, callX, roA, opXv_exn, opIsX_exn, List.map_cons, List.map_nil, Nat.lt_irrefl, Nat.zero_lt_one, Nat.reduceLT, Nat.zero_lt_succ, some_inj_ex,
  Option.isSome_some, Option.isSome_none, true_and, and_true, eq_self, List.length_map, decide_true, decide_false, Bool.not_true, Bool.not_false, not_true_eq_false, Bool.true_eq_false, Bool.false_eq_true, false_imp_iff, forall_const, true_imp_iff, and_self, decide_eq_true_eq, decide_eq_false_iff_not, Bool.not_eq_true', Bool.not_eq_false'])
namespace NW
namespace K90
open PW (rotL rotL_len Plain plainB plainB_iff plainL plainL_mem orbL orbs_nodup divQ ring_count plain_per plain_same word_ring rot_wd plainL_nodup)
open K29 (take_nx totF totF_yes totF_no tot_all plain_len)
abbrev sp_law_rules : FSpec := K24.sp_law_rules
theorem sat_law_rules : Sat 9 sp_law_rules K24.b_law_rules := K24.sat_law_rules
abbrev sp_law_steps : FSpec := K86.sp_law_steps
theorem sat_law_steps : Sat 6 sp_law_steps K86.b_law_steps := K86.sat_law_steps
def PQ (b i : Nat) : List (List Int) := (List.range i).flatMap fun t => plainL b (t + 1)
theorem PQ_succ (b i : Nat) : PQ b (i + 1) = PQ b i ++ plainL b (i + 1) := by
  unfold PQ
  rw [List.range_succ, List.flatMap_append]
  simp
theorem PQ_mem {b i : Nat} {p : List Int} (h : p ∈ PQ b i) : 1 ≤ p.length ∧ p.length ≤ i ∧ Wd b p ∧ Plain p := by
  unfold PQ at h
  obtain ⟨t, ht, hp⟩ := List.mem_flatMap.mp h
  obtain ⟨q1, q2, q3⟩ := plainL_mem.mp hp
  have := List.mem_range.mp ht
  exact ⟨by omega, by omega, q2, q3⟩
theorem PQ_nodup (b i : Nat) : (PQ b i).Nodup := PW.flat_nodup (g := fun p => p.length - 1) (fun t => plainL_nodup b (t + 1)) (fun t x hx => by have := (plainL_mem.mp hx).1; omega) List.nodup_range
def keysF (rs : List (Int × Int)) (Q : List (List Int)) : List (Int × Int) := Q.flatMap (orbL rs)
theorem keys_new {base : Nat} {rs : List (Int × Int)} (hr : RulesOk base rs) (h2 : 2 ≤ base) (h6 : base ≤ 60) {Q : List (List Int)} {p : List Int} (nd : (Q ++ [p]).Nodup) (h : ∀ q ∈ Q ++ [p], Wd rs.length q ∧ 1 ≤ q.length ∧ Plain q) {t : Nat} (ht : t < p.length) : walkF rs t (ringP rs p) ∉ keysF rs Q ++ (orbL rs p).take t := by
  have n := orbs_nodup hr h2 h6 nd h
  rw [List.flatMap_append] at n
  simp only [List.flatMap_cons, List.flatMap_nil, List.append_nil] at n
  have ho : (orbL rs p)[t]? = some (walkF rs t (ringP rs p)) := by
    unfold orbL
    rw [List.getElem?_map, List.getElem?_range ht]
    rfl
  rw [← List.take_append_drop t (orbL rs p), ← List.append_assoc] at n
  intro hm
  obtain ⟨_, _, dis⟩ := List.nodup_append.mp n
  refine dis _ hm _ ?_ rfl
  have hl : t < (orbL rs p).length := by unfold orbL; simp; exact ht
  rw [List.drop_eq_getElem_cons hl]
  have : (orbL rs p)[t] = walkF rs t (ringP rs p) := by
    have e := List.getElem?_eq_getElem hl
    rw [ho] at e
    exact (Option.some.inj e).symm
  rw [this]
  exact List.mem_cons_self
def sp_law_right : FSpec := fun args kr _ => ∃ (x y z N : Int) (b n : Nat) (rs : List (Int × Int)), args = [.mu (src x y z), .ro (mapD rs), .ro (.int b), .ro (.int n)] ∧ RulesOk b rs ∧ 2 ≤ b ∧ b ≤ 12 ∧ 1 ≤ n ∧ n ≤ 9 ∧ b ^ n ≤ 512 ∧ 0 ≤ z ∧ z ≤ N ∧ N ≤ 800000 ∧ ∀ x z', 0 ≤ z' → z' ≤ N + 6000 → kr (.sh (.bl true)) [src x y z']
/- _law_right: 0:source 1:chart 2:base 3:length 4:found 5:whole 6:total 7:places 8:count 9:some 10:path 11:ring 12:place 13:tops 14:spot -/
def b_law_right : SW := (sSeq (sSet 4 (eDNew true))
  (sSeq (sSet 5 (eLst dNil))
  (sSeq (sSet 6 (eC (.int 0)))
  (sSeq (sSet 7 (eC (.int 0)))
  (sSeq (sFor (iR2 (dCons (eC (.int 1)) (dCons (eBin opAdd (eLoc 3) (eC (.int 1))) dNil))) (gN 8) (sSeq (sSet 9 (eLst dNil))
  (sSeq (sFor (iLst (eCall 2 sp_plain_words (agRo (eLoc 2) (agRo (eLoc 8) agNil)))) (gN 10) (sSeq (sFrz 11 (sSet 11 (eCall 2 sp_ring_of (agRo (eLoc 1) (agRo (eUn opList (eLoc 10)) agNil)))))
  (sSeq (sIf (tOrW (tVal (eBin opNe (eUn opLen (eLoc 11)) (eLoc 8))) (tNotW (tVal (eCall 5 sp_law_is_round (agMu 0 (agRo (eLoc 1) (agRo (eLoc 10) (agRo (eLoc 11) (agRo (eLoc 3) agNil))))))))) (sRet (eC (.bl false))) sNil)
  (sSeq (sFrz 7 (sSet 7 (eBin opAdd (eLoc 7) (eLoc 8))))
  (sSeq (sFor (iLst (eLoc 11)) (gN 12) (sDSet 4 (eLoc 12) (eC (.bl true))))
  (sSeq (sIf (tVal (eBin opEq (eBin opMod (eUn opInt (eLoc 3)) (eLoc 8)) (eC (.int 0)))) (sFrz 6 (sSet 6 (eBin opAdd (eLoc 6) (eLoc 8)))) sNil)
  (sIf (tVal (eCall 2 sp_is_whole_ring (agRo (eLoc 1) (agRo (eLoc 10) agNil)))) (sSeq (sFrz 13 (sSet 13 (eComp (iLst (eLoc 11)) (gN 12) tYesW (eBin opIx (eLoc 12) (eC (.int 0))) [12])))
  (sSeq (sFrz 14 (sSet 14 (eIdx (eLoc 13) (eUn opMin1 (eLoc 13)))))
  (sSeq (sIf (tNotW (tVal (eCall 3 sp_law_is_led_to (agRo (eLoc 1) (agRo (eLoc 2) (agRo (eLoc 13) agNil)))))) (sRet (eC (.bl false))) sNil)
  (sApp 9 (eBin opAdd (eSl (eLoc 13) (pSome (eLoc 14)) pNone) (eSl (eLoc 13) pNone (pSome (eLoc 14)))))))) sNil)))))))
  (sExt 5 (eUn opSortD (eLoc 9))))))
  (sSeq (sIf (tOrW (tVal (eBin opNe (eUn opLenDT (eLoc 4)) (eLoc 7))) (tVal (eBin opNe (eLoc 6) (eCall 2 sp_law_power (agRo (eLoc 2) (agRo (eLoc 3) agNil)))))) (sRet (eC (.bl false))) sNil)
  (sRet (eBin opEq (eCall 2 sp_whole_rings (agRo (eLoc 1) (agRo (eLoc 3) agNil))) (eLoc 5)))))))))
theorem sat_law_right : Sat 15 sp_law_right b_law_right := by
  rintro args mus kr kx hm ⟨x0, y, z0, N, b, n, rs, rfl, hr, h2, h12, n1, n9, hp, hz0, hzN, hN, hk⟩
  obtain ⟨a, rfl⟩ := mus1 hm
  have ho := hr.map h2 (by omega)
  have hl := hr.len
  have pw : ∀ i, i ≤ n → b ^ i ≤ 512 := fun i hi => Nat.le_trans (Nat.pow_le_pow_right (by omega) hi) hp
  unfold b_law_right
  walk_at "sx"
  intro a4 _
  walk_at "sx"
  rename_i a5
  simp only [sFor]
  walk_at "sx"
  refine ⟨by omega, fun i ρ => ∃ (x z : Int) (R : List (List Int)) (e8 e9 e10 e11 e12 e13 e14 : Sl), ρ = [.own true a (src x y z), .sh (mapD rs), .sh (.int b), .sh (.int n), .own false a4 (.dic (.bl true :: (keysF rs (PQ b i)).map encR) (List.replicate (keysF rs (PQ b i)).length (.bl true))), .own false a5 (encWs R), .sh (.int (totF b n i : Nat)), .sh (.int (keysF rs (PQ b i)).length), e8, e9, e10, e11, e12, e13, e14] ∧ Rings rs b i R ∧ R.length ≤ i * 512 ∧ (keysF rs (PQ b i)).length ≤ i * (512 * 9) ∧ 0 ≤ z ∧ z ≤ N + i * 512, ⟨_, _, [], _, _, _, _, _, _, _, rfl, rfl, by simp, by simp [keysF, PQ], hz0, by omega⟩, fun _ _ _ _ => trivial, ?_, ?_⟩
  · rintro i d ρ hi rfl ⟨x, z, R, e8, e9, e10, e11, e12, e13, e14, rfl, hR, lR, lK, hz0, hz1⟩
    have hi : i < n := by omega
    obtain ⟨W, eW⟩ : ∃ W, W = plainL b (i + 1) := ⟨_, rfl⟩
    have lW : W.length ≤ 512 := by rw [eW]; exact Nat.le_trans plain_len (pw (i + 1) (by omega))
    have wm : ∀ {w}, w ∈ W → w.length = i + 1 ∧ Wd rs.length w ∧ Plain w := fun h => by
      rw [eW] at h
      obtain ⟨q1, q2, q3⟩ := plainL_mem.mp h
      exact ⟨q1, by rw [hl]; exact q2, q3⟩
    rw [show (1 : Int) + (i : Int) = ((i + 1 : Nat) : Int) by omega]
    walk_at "sx"
    intro a9
    simp only [sFor]
    walk_at "sx"
    refine ⟨b, i + 1, rfl, h2, by omega, by omega, fun j hj => Nat.le_trans (pw j (by omega)) (by omega), ?_⟩
    rw [← eW]
    walk_at "sx"
    have ndW : ∀ j w, W[j]? = some w → (PQ b i ++ W.take j ++ [w]).Nodup := fun j w hw => by
      have h := PQ_nodup b (i + 1)
      rw [PQ_succ, ← eW, ← List.take_append_drop (j + 1) W, take_nx hw, ← List.append_assoc, ← List.append_assoc] at h
      exact (List.nodup_append.mp h).1
    have allQ : ∀ j w, W[j]? = some w → ∀ q ∈ PQ b i ++ W.take j ++ [w], Wd rs.length q ∧ 1 ≤ q.length ∧ Plain q := fun j w hw q hq => by
      rcases List.mem_append.mp hq with h | h
      · rcases List.mem_append.mp h with h | h
        · obtain ⟨q1, q2, q3, q4⟩ := PQ_mem h
          exact ⟨by rw [hl]; exact q3, q1, q4⟩
        · obtain ⟨q1, q2, q3⟩ := wm (List.mem_of_mem_take h)
          exact ⟨q2, by omega, q3⟩
      · rw [List.mem_singleton.mp h]
        obtain ⟨q1, q2, q3⟩ := wm (List.mem_of_getElem? hw)
        exact ⟨q2, by omega, q3⟩
    refine ⟨fun j ρ => ∃ (x z : Int) (F : List (List Int)) (e10 e11 e12 e13 e14 : Sl), ρ = [.own true a (src x y z), .sh (mapD rs), .sh (.int b), .sh (.int n), .own false a4 (.dic (.bl true :: (keysF rs (PQ b i ++ W.take j)).map encR) (List.replicate (keysF rs (PQ b i ++ W.take j)).length (.bl true))), .own false a5 (encWs R), .sh (.int (if n % (i + 1) = 0 then totF b n i + (i + 1) * j else totF b n i : Nat)), .sh (.int (keysF rs (PQ b i ++ W.take j)).length), .sh (.int (i + 1 : Nat)), .own false a9 (encWs F), e10, e11, e12, e13, e14] ∧ Turned rs (W.take j) F ∧ F.length ≤ j ∧ (keysF rs (PQ b i ++ W.take j)).length ≤ i * (512 * 9) + j * 9 ∧ 0 ≤ z ∧ z ≤ N + i * 512 + j, ⟨x, z, [], e10, e11, e12, e13, e14, by simp, Turned.nil, by simp, by simp; omega, hz0, by omega⟩, fun _ _ _ _ => trivial, ?_, ?_⟩
    · rintro j d ρ hj hd ⟨x, z, F, e10, e11, e12, e13, e14, rfl, hT, lF, lK2, hz0, hz1⟩
      obtain ⟨w, hw, rfl⟩ := get_map hd
      have hj : j < W.length := by simpa using hj
      obtain ⟨q1, q2, q3⟩ := wm (List.mem_of_getElem? hw)
      have rl : (ringL rs w).length = w.length := by unfold ringL; simp
      have nextK : keysF rs (PQ b i ++ W.take (j + 1)) = keysF rs (PQ b i ++ W.take j) ++ orbL rs w := by
        rw [take_nx hw, ← List.append_assoc]
        unfold keysF
        rw [List.flatMap_append]
        simp
      walk_at "sx"
      refine sp_ringR hr h2 (by omega) q2 (by omega) (by omega) ?_
      walk_at "sx"
      rw [rl]
      refine ⟨fun h => absurd (by omega) h, fun _ => ?_⟩
      refine ⟨x, y, z, N + i * 512 + j, b, n, rs, w, rfl, hr, h2, by omega, q2, by omega, by omega, n1, by omega, q3, hz0, hz1, by omega, fun x z hz0 hz1 => ?_⟩
      obtain ⟨KK, eK⟩ : ∃ KK, KK = keysF rs (PQ b i ++ W.take j) := ⟨_, rfl⟩
      have fresh : ∀ t, t < w.length → walkF rs t (ringP rs w) ∉ KK ++ (orbL rs w).take t := fun t ht => by
        rw [eK]
        exact keys_new hr h2 (by omega) (ndW j w hw) (allQ j w hw) ht
      have oL : (orbL rs w).length = w.length := by unfold orbL; simp
      have oR : ringL rs w = orbL rs w := ringL_orb ho q2 (by omega)
      rw [← eK] at lK2 nextK ⊢
      walk_at "sx"
      simp only [sFor]
      walk_at "sx"
      refine ⟨fun t ρ => ∃ e12 : Sl, ρ = [.own true a (src x y z), .sh (mapD rs), .sh (.int b), .sh (.int n), .own false a4 (.dic (.bl true :: (KK ++ (orbL rs w).take t).map encR) (List.replicate (KK ++ (orbL rs w).take t).length (.bl true))), .own false a5 (encWs R), .sh (.int (if n % (i + 1) = 0 then totF b n i + (i + 1) * j else totF b n i : Nat)), .sh (.int ((KK.length : Int) + (i + 1 : Nat))), .sh (.int (i + 1 : Nat)), .own false a9 (encWs F), .sh (encZs w), .sh (encRs (ringL rs w)), e12, e13, e14], ⟨e12, by simp⟩, fun _ _ _ _ => trivial, ?_, ?_⟩
      · rintro t d ρ ht hd ⟨e12, rfl⟩
        obtain ⟨q, hq, rfl⟩ := get_map hd
        have ht : t < w.length := by
          have := (List.getElem?_eq_some_iff.mp hq).1
          omega
        have hq2 : (orbL rs w)[t]? = some (walkF rs t (ringP rs w)) := by
          unfold orbL
          rw [List.getElem?_map, List.getElem?_range ht]
          rfl
        rw [oR, hq2] at hq
        cases hq
        have nm := fresh t ht
        have lKt : (KK ++ (orbL rs w).take t).length ≤ 9 * (512 * 9) + 512 * 9 + 9 := by
          rw [List.length_append, List.length_take]
          omega
        walk_at "sx"
        refine ⟨key_encR _, line_big (by rw [List.length_replicate]; omega), .sh (encR (walkF rs t (ringP rs w))), ?_⟩
        rw [putKD_new nm, putVD_new nm (by rw [List.length_replicate]), take_nx hq2, ← List.append_assoc]
        rw [List.length_append (bs := [walkF rs t (ringP rs w)]), List.length_singleton, List.replicate_succ']
      rintro ρ ⟨e12, rfl⟩
      rw [rl, ← oL, List.take_length, ← nextK]
      have nl : (keysF rs (PQ b i ++ W.take (j + 1))).length = KK.length + (i + 1) := by rw [nextK, List.length_append, oL, q1]
      walk_at "sx"
      rw [show (KK.length : Int) + ((i + 1 : Nat) : Int) = ((keysF rs (PQ b i ++ W.take (j + 1))).length : Int) by rw [nl]; simp]
      have em : (n : Int) % ((i + 1 : Nat) : Int) = ((n % (i + 1) : Nat) : Int) := (Int.natCast_emod _ _).symm
      have totY : n % (i + 1) = 0 → (((if n % (i + 1) = 0 then totF b n i + (i + 1) * j else totF b n i : Nat) : Int) + ((i + 1 : Nat) : Int)) = ((if n % (i + 1) = 0 then totF b n i + (i + 1) * (j + 1) else totF b n i : Nat) : Int) := fun h => by
        rw [if_pos h, if_pos h, Nat.mul_succ]
        omega
      have totN : ¬ n % (i + 1) = 0 → (if n % (i + 1) = 0 then totF b n i + (i + 1) * j else totF b n i : Nat) = (if n % (i + 1) = 0 then totF b n i + (i + 1) * (j + 1) else totF b n i : Nat) := fun h => by rw [if_neg h, if_neg h]
      have fz := form_sizes hr h2 (by omega) q2 (by omega)
      have lt : (tops rs w).length = (ringL rs w).length := by unfold tops; simp
      obtain ⟨gw, gw1, gw2⟩ := K16.ring_sizes hr h2 (by omega) q2 (by omega : 1 ≤ w.length)
      have rpw := ring_round ho q2 (by omega : 1 ≤ w.length)
      have whole : (ringP rs w).2 = 1 → ∃ x1 : Int, tops rs w = (List.range w.length).map (fun i => zWalk rs x1 i) ∧ zWalk rs x1 w.length = x1 ∧ ∀ i, i ≤ w.length → Bt 4000 (zWalk rs x1 i) := fun h1 => by
        have e1 : ringP rs w = ((ringP rs w).1, 1) := by rw [← h1]
        have wk : ∀ i, walkF rs i (ringP rs w) = (zWalk rs (ringP rs w).1 i, 1) := fun i => by
          conv => lhs; rw [e1]
          exact walkF_one (by omega) i
        refine ⟨(ringP rs w).1, ?_, ?_, fun i hi => ?_⟩
        · unfold tops
          rw [ringL_walk ho q2 (by omega), List.map_map]
          apply List.map_congr_left
          intro i _
          show (walkF rs i (ringP rs w)).1 = _
          rw [wk i]
        · have := wk w.length
          rw [rpw] at this
          exact (congrArg Prod.fst this).symm
        · have h := walk_sizeK (K := 2000) hr h2 (good_one (x := (ringP rs w).1)) (gw1.mono (by omega)) (by omega) one_bt i
          rw [walkF_one (by omega)] at h
          exact h.mono (by omega)
      refine ⟨by omega, fun h => ?_, fun h => ?_⟩
      all_goals
        first | rw [totY (by omega)] | rw [totN (by omega)]
        refine ⟨rs, w, rfl, ho, q2, by omega, fz, ?_⟩
        cases hwb : decide ((ringP rs w).2 = 1) with
        | false =>
          walk_at "sx"
          exact ⟨x, z, F, _, _, _, _, _, rfl, by rw [take_nx hw]; exact hT.no hwb, by omega, by omega, hz0, by omega⟩
        | true =>
          obtain ⟨x1, t1, t2, t3⟩ := whole (of_decide_eq_true hwb)
          walk_at "sx"
          simp only [eComp, tYesW, iLst]
          walk_at "sx"
          generalize hTT : (if n % (i + 1) = 0 then totF b n i + (i + 1) * (j + 1) else totF b n i) = TT
          refine ⟨fun t acc ρ => acc = ((tops rs w).take t).map D.int ∧ ρ = [.own true a (src x y z), .sh (mapD rs), .sh (.int b), .sh (.int n), .own false a4 (.dic (.bl true :: (keysF rs (PQ b i ++ W.take (j + 1))).map encR) (List.replicate (keysF rs (PQ b i ++ W.take (j + 1))).length (.bl true))), .own false a5 (encWs R), .sh (.int TT), .sh (.int (keysF rs (PQ b i ++ W.take (j + 1))).length), .sh (.int (i + 1 : Nat)), .own false a9 (encWs F), .sh (encZs w), .sh (encRs (ringL rs w)), .no, e13, e14], ⟨rfl, rfl⟩, fun _ _ _ _ _ => trivial, ?_, ?_⟩
          · rintro t d acc ρ ht hd ⟨rfl, rfl⟩
            obtain ⟨p, hp2, rfl⟩ := get_map hd
            have g : (tops rs w)[t]? = some p.1 := by unfold tops; rw [List.getElem?_map, hp2]; rfl
            walk_at "sx"
            refine ⟨line_big (by simp; omega), ?_⟩
            rw [take_nx g, List.map_append]
            rfl
          · rintro acc ρ ⟨rfl, rfl⟩
            rw [← lt, List.take_length]
            intro a13
            unfold eIdx
            walk_at "sx"
            refine ⟨trivial, tops rs w, rfl, by omega, fun m hm hmin => ?_⟩
            obtain ⟨q, hq, hq1, hq2⟩ := firstIn hm
            walk_at "sx"
            refine ⟨⟨rfl, okD_encZs (n := 63) _⟩, q, .int m, by rw [List.getElem?_map, hq1]; rfl, by rw [eqD_int]; simp, fun t z' ht hz => ?_, ?_⟩
            · obtain ⟨v, hv, rfl⟩ := get_map hz
              rw [eqD_int]
              exact decide_eq_false (hq2 t v ht hv)
            walk_at "sx"
            refine ⟨b, w.length, rs, x1, by rw [← t1], hr, h2, h12, by omega, by omega, fun i hi => Nat.le_trans (pw i (by omega)) (by omega), t2, t3, ?_⟩
            walk_at "sx"
            have c1 : cutL ((tops rs w).map D.int) (some (q : Int)) none = ((tops rs w).drop q).map D.int := by rw [cutL_drop (by rw [List.length_map]; omega), List.map_drop]
            have c2 : cutL ((tops rs w).map D.int) none (some (q : Int)) = ((tops rs w).take q).map D.int := by rw [cutL_take (by rw [List.length_map]; omega), List.map_take]
            rw [c1, c2, ← List.map_append]
            refine ⟨⟨_, _, _, rfl⟩, Nat.le_of_lt (line_big (by rw [List.length_map, List.length_map, List.length_drop, List.length_take]; omega)), line_big (by omega), x, z, F ++ [(tops rs w).drop q ++ (tops rs w).take q], _, _, _, _, _, by rw [show [D.lst (List.map D.int (List.drop q (tops rs w) ++ List.take q (tops rs w)))] = List.map encZs [List.drop q (tops rs w) ++ List.take q (tops rs w)] from rfl, ← List.map_append], by rw [take_nx hw]; exact hT.yes hwb ⟨q, m, hq, hq1, hmin, hq2, rfl⟩, by rw [List.length_append]; exact Nat.succ_le_succ lF, by omega, hz0, by omega⟩
    rintro ρ ⟨x, z, F, e10, e11, e12, e13, e14, rfl, hT, lF, lK2, hz0, hz1⟩
    rw [List.take_length] at hT lK2 ⊢
    have eP : PQ b i ++ W = PQ b (i + 1) := by rw [PQ_succ, eW]
    rw [eP] at lK2 ⊢
    have eT : (if n % (i + 1) = 0 then totF b n i + (i + 1) * W.length else totF b n i) = totF b n (i + 1) := by
      by_cases h : n % (i + 1) = 0
      · rw [if_pos h, totF_yes h, eW]
      · rw [if_neg h, totF_no h]
    rw [eT]
    walk_at "sx"
    refine ⟨⟨_, _, _, rfl⟩, ?_⟩
    rw [sort_rows]
    walk_at "sx"
    refine ⟨Nat.le_of_lt (line_big (by rw [List.length_mergeSort]; omega)), x, z, R ++ sortW F, _, _, _, _, _, _, _, by rw [← List.map_append]; rfl, ⟨R, F, hR, by rw [← eW]; exact hT, rfl⟩, ?_, ?_, hz0, by omega⟩
    · unfold sortW
      rw [List.length_append, List.length_mergeSort]
      omega
    · omega
  rintro ρ ⟨x, z, R, e8, e9, e10, e11, e12, e13, e14, rfl, hR, lR, lK, hz0, hz1⟩
  rw [show ((n : Int) + 1 - 1).toNat = n by omega] at *
  rw [tot_all h2 (by omega) n1]
  walk_at "sx"
  rw [List.length_replicate]
  walk_at "sx"
  refine ⟨b, n, rfl, by omega, by omega, ?_⟩
  rw [show (b : Int) ^ n = ((b ^ n : Nat) : Int) by simp]
  walk_at "sx"
  refine ⟨rs, b, n, rfl, hr, h2, by omega, n1, by omega, fun i hi => Nat.le_trans (pw i hi) (by omega), fun S hS lS => ?_⟩
  rw [hS.uniq hR]
  walk_at "sx"
  refine ⟨⟨okDs_map (n := 63) (fun w => okD_encZs (n := 62) w) R, okDs_map (n := 63) (fun w => okD_encZs (n := 62) w) R⟩, ?_⟩
  rw [show eqD (encWs R) (encWs R) = true from (eqDs_map eqD_encZs R R).trans (decide_eq_true rfl)]
  walk_at "sx"
  exact hk _ _ hz0 (by omega)
end K90
end NW
end TL

namespace TL
open PySem L2
set_option maxHeartbeats 2000000
local macro_rules | `(tactic| walk_at "sx") => `(tactic| try simp only [sSeq, sNil, eDisp1, eDispN, ltT_l, sumT_l, eDIn, eDNotIn, eDSetd, eDNew, eDGet, eDGet2, sDSet, eTake, sAugL, isDc, sCut, eNe2, neK, rep_l, minT_t, ltL_l, lenDT_d, ghs_cons, ghs_nil, eKeep, keep_fr, keep_sh, keep_gh, keep_loc, eAd, eDr, eBinG, sAppE, sRevE, sPopE, eFz, fz_sh, fz_fr, fz_gh, fz_loc, ePk, gF, gP, agBg, agMg, agBd, pvw, eCallG, get_gh, stl_gh, pok_gh, owns, List.drop_succ_cons, List.drop_zero, List.take_succ_cons, List.take_zero, List.mem_cons, List.not_mem_nil, or_false, sSet, sFrz, frz_o, frz_sh, frz_s, sIf, sRet, sRetN, sPass, sBrk, sPar, sSub, sApp, sExpr, sAsg, sAug, sFld, sRevI, sPop, eLoc, eC, eUn, eBin, eAnd, eOr, eNot, eIf, eTup, eLst, dNil, dCons, tVal_eq, tstD_bl, tAndW, tOrW, tNotW, eFld_eq, eFldD_o, eProp, eMeth, eMeth0, eSl, pNone, pSome, sl_l,
  out_sh, out_fr, get_loc, get_sh, get_fr, getL_z, getL_o, getL_s, bound_z, bound_o, bound_s, isOwn_o, isOwn_s, pok_loc, pok_sh, pok_fr, stl_loc, stlS_sh, stlS_own, stl_sh, stl_fr, lay_fr, lay_sh, lay_loc, envOf, slotsOf, valN, ghOf, endK, resK, exMu, muN, List.cons_append, List.nil_append, List.append_nil, List.length_cons, List.length_nil, Nat.reduceAdd, Nat.reduceSub, List.replicate_succ, List.replicate_zero, List.replicate,
  List.getElem?_cons_zero, List.getElem?_cons_succ, List.getElem?_nil, List.set_cons_zero, List.set_cons_succ,
  add_ii, add_ss, add_ll, sub_ii, mul_ii, fdv_ii, fdvN_ii, mod_ii, modN_ii, pow_ii, lt_ii, le_ii, gt_ii, ge_ii, eq_ii, ne_ii, ix_li, ix_ti, neg_i, abs_i, int_i, int_b, max_ii, min_ii, len_l, len_t, list_l, list_t, rev_l, isi_int, isi_bl, isi_tup, isi_lst, isi_non, isN_i, isN_n, isN_t, isN_l, notN_i, notN_n, notN_t, notN_l, isTy,
  atI0, atI1, atI2, ixN0, ixN1, ixN2, some_inj_ex, isObj, setAt0, setAt1, setAt2, setAt3, restE, keepS, wipeE, ↓reduceIte, if_false, if_true,
  eCall, eCallP, eMake, pm, eTwo, dLit, eOwn2, eLenO, okLen, eMethP, eMakeP, isC_o, eRepL, lr1_i, lr2_i, List.filterMap_cons, List.filterMap_nil, agNil, agRo, agBo, agMu, agTm, callK, boIx, muIx, tms, argsK, upE, reown, hasBo, noTm, flatRo, noLstAll, noLst, noLsts, List.nodup_nil, List.nodup_cons, List.not_mem_nil, not_false_eq_true, Nat.zero_le, Nat.le_refl, Nat.reduceLeDiff, List.mem_cons, or_false, reduceCtorEq,
  gN, gTp, gLs, gCn, gNl, iR1, iR2, iRL, iLst, iTpl, iEnum, stab,
  ite_self, str_i, fmt_i, fmt_s, isB_b, notB_b, any_l, tup_l, sExt, e0_is, t0_is, d0_is, s0_is, i0_is, sTry, hXk_n, hXk_s, sRaise, eCallX, eCallXP, eMethX, eMakeX, ePropX, eOwn2X, callX, roA, opXv_exn, opIsX_exn, List.map_cons, List.map_nil, Nat.lt_irrefl, Nat.zero_lt_one, Nat.reduceLT, Nat.zero_lt_succ, some_inj_ex,
  Option.isSome_some, Option.isSome_none, true_and, and_true, eq_self, List.length_map, decide_true, decide_false, Bool.not_true, Bool.not_false, not_true_eq_false, Bool.true_eq_false, Bool.false_eq_true, false_imp_iff, forall_const, true_imp_iff, and_self, decide_eq_true_eq, decide_eq_false_iff_not, Bool.not_eq_true', Bool.not_eq_false'])
namespace NW
namespace K90
abbrev sp_law_closing : FSpec := K28.sp_law_closing
theorem sat_law_closing : Sat 9 sp_law_closing K28.b_law_closing := K28.sat_law_closing
abbrev sp_law : FSpec := K24.sp_law
/- law: 0:script 1:k 2:source 3:base 4:rules 5:chart -/
def b_law : SW := (sSeq (sFor (iR1 (dCons (eBin opMax2 (eC (.int 1)) (eBin opMin2 (eC (.int 3)) (eUn opLen (eLoc 0)))) dNil)) (gN 1) (sSeq (sSet 2 (eCall 2 sp_law_source (agRo (eLoc 0) (agRo (eLoc 1) agNil))))
  (sSeq (sFrz 3 (sSet 3 (eBin opAdd (eC (.int 2)) (eCall 2 sp_law_take (agMu 2 (agRo (eBin opIx (eLst (dLit [(.int 1), (.int 3), (.int 11)] dNil)) (eCall 2 sp_law_take (agMu 2 (agRo (eC (.int 3)) agNil)))) agNil))))))
  (sSeq (sFrz 4 (sSet 4 (eCall 3 sp_law_rules (agMu 2 (agRo (eLoc 3) (agRo (eBin opPow (eC (.int 10)) (eC (.int 10))) agNil))))))
  (sSeq (sIf (tVal (eBin opEq (eCall 2 sp_law_take (agMu 2 (agRo (eC (.int 2)) agNil))) (eC (.int 0)))) (sFrz 4 (sSet 4 (eBin opIx (eCall 3 sp_law_closing (agMu 2 (agRo (eLoc 3) (agRo (eLoc 4) agNil)))) (eC (.int 0))))) sNil)
  (sSeq (sFrz 5 (sSet 5 (eMake 0 3 sp_Map_init (agRo (eLoc 3) (agRo (eUn opList (eLoc 4)) agNil)))))
  (sIf (tOrW (tNotW (tVal (eCall 4 sp_law_right (agMu 2 (agRo (eLoc 5) (agRo (eLoc 3) (agRo (eBin opMax2 (eC (.int 1)) (eCall 2 sp_law_steps (agMu 2 (agRo (eLoc 3) agNil)))) agNil))))))) (tVal (eBin opNe (eProp 0 sp_Map_rules (eLoc 5)) (eLoc 4)))) (sRet (eC (.bl false))) sNil)))))))
  (sRet (eC (.bl true))))
theorem sat_law : Sat 6 sp_law b_law := by
  rintro args mus kr kx hm ⟨ns, rfl, hns, hln, hk⟩
  obtain rfl := mus0 hm
  have cp : CPow 10 10 := by unfold CPow; decide
  have e10 : (10 : Int) ^ (Int.toNat 10) = 10000000000 := by decide
  unfold b_law
  unfold sFor
  walk_at "sx"
  try simp only [List.length_map]
  refine ⟨by (repeat' split) <;> omega, fun i ρ => ∃ e1 e2 e3 e4 e5, ρ = [.sh (encZs ns), e1, e2, e3, e4, e5], ⟨_, _, _, _, _, rfl⟩, fun _ _ _ _ => trivial, ?_, ?_⟩
  · rintro i d ρ hi rfl ⟨e1, e2, e3, e4, e5, rfl⟩
    have hi : i < 31 := by revert hi; (repeat' split) <;> omega
    walk_at "sx"
    refine ⟨ns, i, rfl, by omega, hns, hln, fun x y c => ?_⟩
    walk_at "sx"
    rw [e10]
    refine ⟨x, y, 0, 3, 0, rfl, by omega, by unfold Bt; decide, by omega, by omega, by omega, fun t x z ht0 ht hz0 hzN => ?_⟩
    walk_at "sx"
    obtain ⟨top, htop, en⟩ := list3 (a := 1) (b := 3) (c := 11) ht0 ht
    rw [en]
    refine ⟨_, rfl, ?_⟩
    have ht : 1 ≤ top ∧ top ≤ 11 := by omega
    refine ⟨x, y, z, top, 1, rfl, by omega, (Bt.small (by omega) (by omega)).mono (by omega), hz0, by omega, by omega, fun t x z ht0 ht hz0 hzN => ?_⟩
    walk_at "sx"
    obtain ⟨base, hbase⟩ := Int.eq_ofNat_of_zero_le (show 0 ≤ 2 + t by omega)
    rw [hbase]
    refine ⟨cp, x, y, z, 10000000000, 2, base, rfl, by omega, by omega, by omega, by omega, hz0, by omega, by omega, fun rs x z hrs hb hz0 hzN c2 => ?_⟩
    walk_at "sx"
    refine ⟨x, y, z, 2, 300, rfl, by omega, by unfold Bt; decide, hz0, by omega, by omega, fun u x z hu0 hu1 hz0 hzN => ?_⟩
    walk_at "sx"
    refine ⟨fun hu => ?_, fun hu => ?_⟩
    · refine ⟨x, y, z, 400, base, rs, rfl, hrs, by omega, by omega, hz0, by omega, by omega, fun qs ss x z hqs hss hz0 hzN => ?_⟩
      walk_at "sx"
      refine ⟨qs, by rw [hqs.len], hqs.map (by omega) (by omega), ?_⟩
      walk_at "sx"
      refine ⟨x, y, z, 500, base, rfl, by omega, by omega, hz0, by omega, by omega, fun m x z hm hpm hz0 hzN => ?_⟩
      walk_at "sx"
      obtain ⟨q, hq, q1, q9, hp2⟩ : ∃ q : Nat, (if (m : Int) > 1 then (m : Int) else 1) = (q : Int) ∧ 1 ≤ q ∧ q ≤ 9 ∧ base ^ q ≤ 512 := by
        by_cases h : (m : Int) > 1
        · have e : ((base ^ m : Nat) : Int) = (base : Int) ^ m := by simp
          exact ⟨m, by rw [if_pos h], by omega, hm, by omega⟩
        · exact ⟨1, by rw [if_neg h]; rfl, by omega, by omega, by rw [Nat.pow_one]; omega⟩
      rw [hq]
      refine ⟨x, y, z, 600, base, q, qs, rfl, hqs, by omega, by omega, q1, q9, hp2, hz0, by omega, by omega, fun x z hz0 hzN => ?_⟩
      walk_at "sx"
      refine ⟨qs, rfl, ?_⟩
      walk_at "sx"
      rw [ne_rr, decide_eq_true rfl]
      walk_at "sx"
      exact ⟨_, _, _, _, _, rfl⟩
    · skip
      refine ⟨rs, by rw [hrs.len], hrs.map (by omega) (by omega), ?_⟩
      walk_at "sx"
      refine ⟨x, y, z, 500, base, rfl, by omega, by omega, hz0, by omega, by omega, fun m x z hm hpm hz0 hzN => ?_⟩
      walk_at "sx"
      obtain ⟨q, hq, q1, q9, hp2⟩ : ∃ q : Nat, (if (m : Int) > 1 then (m : Int) else 1) = (q : Int) ∧ 1 ≤ q ∧ q ≤ 9 ∧ base ^ q ≤ 512 := by
        by_cases h : (m : Int) > 1
        · have e : ((base ^ m : Nat) : Int) = (base : Int) ^ m := by simp
          exact ⟨m, by rw [if_pos h], by omega, hm, by omega⟩
        · exact ⟨1, by rw [if_neg h]; rfl, by omega, by omega, by rw [Nat.pow_one]; omega⟩
      rw [hq]
      refine ⟨x, y, z, 600, base, q, rs, rfl, hrs, by omega, by omega, q1, q9, hp2, hz0, by omega, by omega, fun x z hz0 hzN => ?_⟩
      walk_at "sx"
      refine ⟨rs, rfl, ?_⟩
      walk_at "sx"
      rw [ne_rr, decide_eq_true rfl]
      walk_at "sx"
      exact ⟨_, _, _, _, _, rfl⟩
  · rintro ρ ⟨e1, e2, e3, e4, e5, rfl⟩
    walk_at "sx"
    exact hk
end K90
end NW
end TL

namespace TL
open PySem PySem.Spec L2
namespace NW.K90
def top (i : Nat) : Stmt := PySem.Challenge.pw_reststeps_k90_whole_all_that_comes_round.main.body.getD i (.Pass ⟨0, 0, 0, 0⟩)
abbrev s_is_plain_and_least : Stmt := top 31
abbrev s_check_number : Stmt := top 17
abbrev s_plain_words : Stmt := top 32
abbrev s_Map_modulus : Stmt := inClass (top 42) 1
abbrev s_joined_form : Stmt := top 25
abbrev s_Map_rules : Stmt := inClass (top 42) 2
abbrev s_check_word : Stmt := top 24
abbrev s_form_of : Stmt := top 26
abbrev s_check_again : Stmt := top 28
abbrev s_is_whole_ring : Stmt := top 30
abbrev s_gcd : Stmt := top 10
abbrev s_lowest : Stmt := top 11
abbrev s_ring_of : Stmt := top 29
abbrev s_whole_rings : Stmt := top 33
abbrev s_law_power : Stmt := top 49
abbrev s_whole_before : Stmt := top 37
abbrev s_numbers_before : Stmt := top 38
abbrev s_classes_before : Stmt := top 39
abbrev s_law_is_led_to : Stmt := top 52
abbrev s_inverse : Stmt := top 14
abbrev s_remainder_by : Stmt := top 18
abbrev s_stepped : Stmt := top 19
abbrev s_is_fraction : Stmt := top 12
abbrev s_is_good : Stmt := top 13
abbrev s_check_fraction : Stmt := top 16
abbrev s_walk : Stmt := top 20
abbrev s_after : Stmt := top 21
abbrev s_word_of : Stmt := top 22
abbrev s_word_round : Stmt := top 35
abbrev s_judge_ring : Stmt := top 34
abbrev s_law_take : Stmt := top 45
abbrev s_law_is_round : Stmt := top 51
abbrev s_law_right : Stmt := top 53
abbrev s_law_steps : Stmt := top 50
abbrev s_is_rule : Stmt := top 41
abbrev s_Map_init : Stmt := inClass (top 42) 0
abbrev s_law_closing : Stmt := top 48
abbrev s_law_gcd : Stmt := top 46
abbrev s_law_rules : Stmt := top 47
abbrev s_law_source : Stmt := top 44
abbrev s_law : Stmt := top 54
section
variable {P : Program} {w : World} {K : PySem.W.Frag} {mg : Str → Option Value} {base : Heap} {C : Ccs}
theorem sc_is_plain_and_least : FnScope ["word", "k"] ["word"] (defScope s_is_plain_and_least) := ⟨rfl, rfl, rfl, by decide +kernel, rfl, by decide +kernel, by decide +kernel⟩
theorem ok_is_plain_and_least {f_is_plain_and_least : Addr} {d_is_plain_and_least : FuncData} (F : Fun K "is_plain_and_least" "is_plain_and_least" s_is_plain_and_least f_is_plain_and_least d_is_plain_and_least) (cK : C.cc.K = K) (n_len : mg "len" = none) (n_range : mg "range" = none) : FnOk P w K mg base CX0 1 f_is_plain_and_least d_is_plain_and_least ["word"] (LSp0 C sp_is_plain_and_least 1) :=
  fn_ok F sc_is_plain_and_least sat_is_plain_and_least (by decide) fun cdv A outer s H E Z hcc hz hr => have hK : Z.cc.K = K := by rw [hcc]; exact cK
  (ds_cons (ds_for PassesOwn.never rfl (di_r2 rfl n_range (da_cons de_int (da_cons (de_b1 call_lenA (ops_len hK) n_len (de_loc 0)) da_nil))) (dg_name (i := 1) sc_is_plain_and_least.nd) (ds_one (ds_if (dt_cmp (op_leL (room6 hr)) (ops_leL hK) (de_bin op_addA (ops_add hK) (de_slice hK (de_loc 0) (dp_some (de_loc 1)) dp_none) (de_slice hK (de_loc 0) dp_none (dp_some (de_loc 1)))) (de_loc 0) (nomark _)) (ds_one (ds_ret de_bl)) ds_nil)))
  (ds_one (ds_ret de_bl)))
theorem sc_check_number : FnScope ["number", "least"] ["number", "least"] (defScope s_check_number) := ⟨rfl, rfl, rfl, by decide +kernel, rfl, by decide +kernel, by decide +kernel⟩
theorem ok_check_number {f_check_number : Addr} {d_check_number : FuncData} (F : Fun K "check_number" "check_number" s_check_number f_check_number d_check_number) (cK : C.cc.K = K)  : FnOk P w K mg base CX0 1 f_check_number d_check_number ["number", "least"] (LSp0 C sp_check_number 2) :=
  fn_ok F sc_check_number sat_check_number (by decide) fun cdv A outer s H E Z hcc hz hr => have hK : Z.cc.K = K := by rw [hcc]; exact cK
  (ds_one (ds_if (dt_cmp op_lt ops_lt (de_loc 0) (de_loc 1) (nomark _)) (ds_one ds_never) ds_nil))
theorem sc_plain_words : FnScope ["modulus", "length", "words", "turn", "word", "entry"] ["modulus", "length"] (defScope s_plain_words) := ⟨rfl, rfl, rfl, by decide +kernel, rfl, by decide +kernel, by decide +kernel⟩
theorem ok_plain_words {f_plain_words : Addr} {d_plain_words : FuncData} (F : Fun K "plain_words" "plain_words" s_plain_words f_plain_words d_plain_words) (cK : C.cc.K = K) (n_range : mg "range" = none) {f_is_plain_and_least : Addr} {d_is_plain_and_least : FuncData} (ok_is_plain_and_least : FnOk P w K mg base CX0 1 f_is_plain_and_least d_is_plain_and_least ["word"] (LSp0 C sp_is_plain_and_least 1)) (B_is_plain_and_least : Binds K d_is_plain_and_least ["word"] []) (M_is_plain_and_least : mg "is_plain_and_least" = some (.ref f_is_plain_and_least)) (K_is_plain_and_least : PySem.W.keepIn K (.ref f_is_plain_and_least) = true) {f_check_number : Addr} {d_check_number : FuncData} (ok_check_number : FnOk P w K mg base CX0 1 f_check_number d_check_number ["number", "least"] (LSp0 C sp_check_number 2)) (B_check_number : Binds K d_check_number ["number", "least"] []) (M_check_number : mg "check_number" = some (.ref f_check_number)) (K_check_number : PySem.W.keepIn K (.ref f_check_number) = true) : FnOk P w K mg base CX0 2 f_plain_words d_plain_words ["modulus", "length"] (LSp0 C sp_plain_words 2) :=
  fn_ok F sc_plain_words sat_plain_words (by decide) fun cdv A outer s H E Z hcc hz hr => have hK : Z.cc.K = K := by rw [hcc]; exact cK
  (ds_cons (ds_if (dt_cmp op_lt ops_lt (de_loc 0) de_int (nomark _)) (ds_one ds_never) ds_nil)
  (ds_cons (ds_expr (de_callN hcc hz ok_check_number (hr.mono (by decide)) M_check_number K_check_number B_check_number (dag_ro (de_loc 1) (dag_ro de_int dag_nil))))
  (ds_cons (ds_frz (i := 2) (ds_set (i := 2) sc_plain_words.nd (de_lst (da_cons (de_lst da_nil) da_nil))))
  (ds_cons (ds_for PassesOwn.never rfl (di_r1 rfl n_range (da_cons (de_loc 1) da_nil)) (dg_name (i := 3) sc_plain_words.nd) (ds_one (ds_frz (i := 2) (ds_setLc2 (i := 2) (own := [("word", 4), ("entry", 5)]) (vs1 := [5]) rfl sc_plain_words.nd (di_lst hK (de_loc 2)) (blkOk_by (own := [("word", 4), ("entry", 5)]) (N := ["modulus", "length", "words", "turn", "word", "entry"]) (sc := defScope s_plain_words) (by decide +kernel)) (fun _ _ _ _ _ => (dgc_name (i := 4) sc_plain_words.nd)) (fun _ _ _ _ _ _ _ => (di_r1 rfl n_range (da_cons (de_loc 0) da_nil))) (fun _ _ _ _ _ => (dgc_name (i := 5) sc_plain_words.nd)) (fun _ _ _ _ _ _ _ => (de_bin op_addA (ops_add hK) (de_loc 4) (de_lst (da_cons (de_loc 5) da_nil)))) (sw_true rfl rfl rfl (by decide +kernel))))))
  (ds_one (ds_ret (de_comp (own := [("word", 4)]) rfl sc_plain_words.nd (di_lst hK (de_loc 2)) (blkOk_by (own := [("word", 4)]) (N := ["modulus", "length", "words", "turn", "word", "entry"]) (sc := defScope s_plain_words) (by decide +kernel)) (fun _ _ _ _ _ => (dgc_name (i := 4) sc_plain_words.nd)) (fun _ _ _ _ _ _ _ => (dts_one (dt_val (de_callN hcc rfl ok_is_plain_and_least (hr.mono (by decide)) M_is_plain_and_least K_is_plain_and_least B_is_plain_and_least (dag_ro (de_loc 4) dag_nil))))) (fun _ _ _ _ _ _ _ => (de_loc 4)))))))))
theorem sc_Map_modulus : FnScope ["self"] ["self"] (defScope s_Map_modulus) := ⟨rfl, rfl, rfl, by decide +kernel, rfl, by decide +kernel, by decide +kernel⟩
theorem ok_Map_modulus {f_Map_modulus : Addr} {d_Map_modulus : FuncData} (F : Fun K "modulus" "Map.modulus" s_Map_modulus f_Map_modulus d_Map_modulus) (cK : C.cc.K = K) (ck_Map : ClsOk K (C.cc.cl 0)) (fl_Map : (C.cc.cl 0).2 = (["base", "rows"] : List Str)) : FnOk P w K mg base CX0 1 f_Map_modulus d_Map_modulus ["self"] (LSp0 C sp_Map_modulus 1) :=
  fn_ok F sc_Map_modulus sat_Map_modulus (by decide) fun cdv A outer s H E Z hcc hz hr => have hK : Z.cc.K = K := by rw [hcc]; exact cK
  (ds_one (ds_ret (de_fld (by rw [hcc]; exact ck_Map) (by rw [hcc, fl_Map]; rfl) (de_loc 0))))
theorem sc_joined_form : FnScope ["form", "rule", "modulus", "a", "b", "scale"] ["form", "rule", "modulus"] (defScope s_joined_form) := ⟨rfl, rfl, rfl, by decide +kernel, rfl, by decide +kernel, by decide +kernel⟩
theorem ok_joined_form {f_joined_form : Addr} {d_joined_form : FuncData} (F : Fun K "joined_form" "joined_form" s_joined_form f_joined_form d_joined_form) (cK : C.cc.K = K)  : FnOk P w K mg base CX0 1 f_joined_form d_joined_form ["form", "rule", "modulus"] (LSp0 C sp_joined_form 3) :=
  fn_ok F sc_joined_form sat_joined_form (by decide) fun cdv A outer s H E Z hcc hz hr => have hK : Z.cc.K = K := by rw [hcc]; exact cK
  (ds_cons (ds_asg (de_loc 0) (dg_tup rfl (dgs_cons (dg_name (i := 3) sc_joined_form.nd) (dgs_cons (dg_name (i := 4) sc_joined_form.nd) (dgs_cons (dg_name (i := 5) sc_joined_form.nd) dgs_nil)))))
  (ds_one (ds_ret (de_tup (da_cons (de_bin op_mulX ops_mul (de_ix hK (de_loc 1) de_int) (de_loc 3)) (da_cons (de_bin op_addA (ops_add hK) (de_bin op_mulX ops_mul (de_ix hK (de_loc 1) de_int) (de_loc 4)) (de_bin op_mulX ops_mul (de_ix hK (de_loc 1) de_int) (de_loc 5))) (da_cons (de_bin op_mulX ops_mul (de_loc 2) (de_loc 5)) da_nil)))))))
theorem sc_Map_rules : FnScope ["self"] ["self"] (defScope s_Map_rules) := ⟨rfl, rfl, rfl, by decide +kernel, rfl, by decide +kernel, by decide +kernel⟩
theorem ok_Map_rules {f_Map_rules : Addr} {d_Map_rules : FuncData} (F : Fun K "rules" "Map.rules" s_Map_rules f_Map_rules d_Map_rules) (cK : C.cc.K = K) (n_list : mg "list" = none) (ck_Map : ClsOk K (C.cc.cl 0)) (fl_Map : (C.cc.cl 0).2 = (["base", "rows"] : List Str)) : FnOk P w K mg base CX0 1 f_Map_rules d_Map_rules ["self"] (LSp0 C sp_Map_rules 1) :=
  fn_ok F sc_Map_rules sat_Map_rules (by decide) fun cdv A outer s H E Z hcc hz hr => have hK : Z.cc.K = K := by rw [hcc]; exact cK
  (ds_one (ds_ret (de_t1 call_list_of (ops_list hK) n_list (de_fld (by rw [hcc]; exact ck_Map) (by rw [hcc, fl_Map]; rfl) (de_loc 0)))))
theorem sc_check_word : FnScope ["modulus", "word", "entry"] ["modulus", "word"] (defScope s_check_word) := ⟨rfl, rfl, rfl, by decide +kernel, rfl, by decide +kernel, by decide +kernel⟩
theorem ok_check_word {f_check_word : Addr} {d_check_word : FuncData} (F : Fun K "check_word" "check_word" s_check_word f_check_word d_check_word) (cK : C.cc.K = K)  : FnOk P w K mg base CX0 1 f_check_word d_check_word ["modulus", "word"] (LSp0 C sp_check_word 2) :=
  fn_ok F sc_check_word sat_check_word (by decide) fun cdv A outer s H E Z hcc hz hr => have hK : Z.cc.K = K := by rw [hcc]; exact cK
  (ds_one (ds_for PassesOwn.never rfl (di_lst hK (de_loc 1)) (dg_name (i := 2) sc_check_word.nd) (ds_one (ds_if (PW.pt (dw_or (dt_cmp op_lt ops_lt (de_loc 2) de_int (nomark _)) (dw_or1 (dt_cmp op_ge ops_ge (de_loc 2) (de_loc 0) (nomark _))))) (ds_one ds_never) ds_nil))))
theorem sc_form_of : FnScope ["rule_map", "word", "modulus", "rules", "form", "entry"] ["rule_map", "word"] (defScope s_form_of) := ⟨rfl, rfl, rfl, by decide +kernel, rfl, by decide +kernel, by decide +kernel⟩
theorem ok_form_of {f_form_of : Addr} {d_form_of : FuncData} (F : Fun K "form_of" "form_of" s_form_of f_form_of d_form_of) (cK : C.cc.K = K) (ck_Map : ClsOk K (C.cc.cl 0)) (fl_Map : (C.cc.cl 0).2 = (["base", "rows"] : List Str)) {f_joined_form : Addr} {d_joined_form : FuncData} (ok_joined_form : FnOk P w K mg base CX0 1 f_joined_form d_joined_form ["form", "rule", "modulus"] (LSp0 C sp_joined_form 3)) (B_joined_form : Binds K d_joined_form ["form", "rule", "modulus"] []) (M_joined_form : mg "joined_form" = some (.ref f_joined_form)) (K_joined_form : PySem.W.keepIn K (.ref f_joined_form) = true) {f_Map_rules : Addr} {d_Map_rules : FuncData} (ok_Map_rules : FnOk P w K mg base CX0 1 f_Map_rules d_Map_rules ["self"] (LSp0 C sp_Map_rules 1)) (B_Map_rules : Binds K d_Map_rules ["self"] []) {p_Map_rules : Addr} (pr_Map_rules : PropOf K (C.cc.cl 0).1 "rules" p_Map_rules f_Map_rules) {f_check_word : Addr} {d_check_word : FuncData} (ok_check_word : FnOk P w K mg base CX0 1 f_check_word d_check_word ["modulus", "word"] (LSp0 C sp_check_word 2)) (B_check_word : Binds K d_check_word ["modulus", "word"] []) (M_check_word : mg "check_word" = some (.ref f_check_word)) (K_check_word : PySem.W.keepIn K (.ref f_check_word) = true) {f_Map_modulus : Addr} {d_Map_modulus : FuncData} (ok_Map_modulus : FnOk P w K mg base CX0 1 f_Map_modulus d_Map_modulus ["self"] (LSp0 C sp_Map_modulus 1)) (B_Map_modulus : Binds K d_Map_modulus ["self"] []) {p_Map_modulus : Addr} (pr_Map_modulus : PropOf K (C.cc.cl 0).1 "modulus" p_Map_modulus f_Map_modulus) : FnOk P w K mg base CX0 3 f_form_of d_form_of ["rule_map", "word"] (LSp0 C sp_form_of 2) :=
  fn_ok F sc_form_of sat_form_of (by decide) fun cdv A outer s H E Z hcc hz hr => have hK : Z.cc.K = K := by rw [hcc]; exact cK
  (ds_cons (ds_frz (i := 2) (ds_set (i := 2) sc_form_of.nd (de_prop hcc hz (by rw [hcc]; exact ck_Map) (by rw [hcc]; exact pr_Map_modulus) ok_Map_modulus (hr.mono (by decide)) B_Map_modulus (de_loc 0))))
  (ds_cons (ds_expr (de_callN hcc hz ok_check_word (hr.mono (by decide)) M_check_word K_check_word B_check_word (dag_ro (de_loc 2) (dag_ro (de_loc 1) dag_nil))))
  (ds_cons (ds_frz (i := 3) (ds_set (i := 3) sc_form_of.nd (de_prop hcc hz (by rw [hcc]; exact ck_Map) (by rw [hcc]; exact pr_Map_rules) ok_Map_rules (hr.mono (by decide)) B_Map_rules (de_loc 0))))
  (ds_cons (ds_set (i := 4) sc_form_of.nd (de_tup (da_cons de_int (da_cons de_int (da_cons de_int da_nil)))))
  (ds_cons (ds_for PassesOwn.never rfl (di_lst hK (de_loc 1)) (dg_name (i := 5) sc_form_of.nd) (ds_one (ds_frz (i := 4) (ds_set (i := 4) sc_form_of.nd (de_callN hcc hz ok_joined_form (hr.mono (by decide)) M_joined_form K_joined_form B_joined_form (dag_ro (de_loc 4) (dag_ro (de_ix hK (de_loc 3) (de_loc 5)) (dag_ro (de_loc 2) dag_nil))))))))
  (ds_one (ds_ret (de_loc 4))))))))
theorem sc_check_again : FnScope ["modulus", "word"] ["modulus", "word"] (defScope s_check_again) := ⟨rfl, rfl, rfl, by decide +kernel, rfl, by decide +kernel, by decide +kernel⟩
theorem ok_check_again {f_check_again : Addr} {d_check_again : FuncData} (F : Fun K "check_again" "check_again" s_check_again f_check_again d_check_again) (cK : C.cc.K = K) (n_len : mg "len" = none) {f_check_word : Addr} {d_check_word : FuncData} (ok_check_word : FnOk P w K mg base CX0 1 f_check_word d_check_word ["modulus", "word"] (LSp0 C sp_check_word 2)) (B_check_word : Binds K d_check_word ["modulus", "word"] []) (M_check_word : mg "check_word" = some (.ref f_check_word)) (K_check_word : PySem.W.keepIn K (.ref f_check_word) = true) : FnOk P w K mg base CX0 2 f_check_again d_check_again ["modulus", "word"] (LSp0 C sp_check_again 2) :=
  fn_ok F sc_check_again sat_check_again (by decide) fun cdv A outer s H E Z hcc hz hr => have hK : Z.cc.K = K := by rw [hcc]; exact cK
  (ds_cons (ds_expr (de_callN hcc hz ok_check_word (hr.mono (by decide)) M_check_word K_check_word B_check_word (dag_ro (de_loc 0) (dag_ro (de_loc 1) dag_nil))))
  (ds_one (ds_if (dt_cmp (op_eqD hr.units) (ops_eq hK) (de_b1 call_lenA (ops_len hK) n_len (de_loc 1)) de_int (nomark _)) (ds_one ds_never) ds_nil)))
theorem sc_is_whole_ring : FnScope ["rule_map", "word", "a", "b", "scale"] ["rule_map", "word"] (defScope s_is_whole_ring) := ⟨rfl, rfl, rfl, by decide +kernel, rfl, by decide +kernel, by decide +kernel⟩
theorem ok_is_whole_ring {f_is_whole_ring : Addr} {d_is_whole_ring : FuncData} (F : Fun K "is_whole_ring" "is_whole_ring" s_is_whole_ring f_is_whole_ring d_is_whole_ring) (cK : C.cc.K = K) (ck_Map : ClsOk K (C.cc.cl 0)) (fl_Map : (C.cc.cl 0).2 = (["base", "rows"] : List Str)) {f_form_of : Addr} {d_form_of : FuncData} (ok_form_of : FnOk P w K mg base CX0 3 f_form_of d_form_of ["rule_map", "word"] (LSp0 C sp_form_of 2)) (B_form_of : Binds K d_form_of ["rule_map", "word"] []) (M_form_of : mg "form_of" = some (.ref f_form_of)) (K_form_of : PySem.W.keepIn K (.ref f_form_of) = true) {f_check_again : Addr} {d_check_again : FuncData} (ok_check_again : FnOk P w K mg base CX0 2 f_check_again d_check_again ["modulus", "word"] (LSp0 C sp_check_again 2)) (B_check_again : Binds K d_check_again ["modulus", "word"] []) (M_check_again : mg "check_again" = some (.ref f_check_again)) (K_check_again : PySem.W.keepIn K (.ref f_check_again) = true) {f_Map_modulus : Addr} {d_Map_modulus : FuncData} (ok_Map_modulus : FnOk P w K mg base CX0 1 f_Map_modulus d_Map_modulus ["self"] (LSp0 C sp_Map_modulus 1)) (B_Map_modulus : Binds K d_Map_modulus ["self"] []) {p_Map_modulus : Addr} (pr_Map_modulus : PropOf K (C.cc.cl 0).1 "modulus" p_Map_modulus f_Map_modulus) : FnOk P w K mg base CX0 4 f_is_whole_ring d_is_whole_ring ["rule_map", "word"] (LSp0 C sp_is_whole_ring 2) :=
  fn_ok F sc_is_whole_ring sat_is_whole_ring (by decide) fun cdv A outer s H E Z hcc hz hr => have hK : Z.cc.K = K := by rw [hcc]; exact cK
  (ds_cons (ds_expr (de_callN hcc hz ok_check_again (hr.mono (by decide)) M_check_again K_check_again B_check_again (dag_ro (de_prop hcc hz (by rw [hcc]; exact ck_Map) (by rw [hcc]; exact pr_Map_modulus) ok_Map_modulus (hr.mono (by decide)) B_Map_modulus (de_loc 0)) (dag_ro (de_loc 1) dag_nil))))
  (ds_cons (ds_asg (de_callN hcc hz ok_form_of (hr.mono (by decide)) M_form_of K_form_of B_form_of (dag_ro (de_loc 0) (dag_ro (de_loc 1) dag_nil))) (dg_tup rfl (dgs_cons (dg_name (i := 2) sc_is_whole_ring.nd) (dgs_cons (dg_name (i := 3) sc_is_whole_ring.nd) (dgs_cons (dg_name (i := 4) sc_is_whole_ring.nd) dgs_nil)))))
  (ds_one (ds_ret (de_cmp (op_eqD hr.units) (ops_eq hK) (de_bin op_modN ops_modN (de_loc 3) (de_bin op_sub ops_sub (de_loc 4) (de_loc 2))) de_int (nomark _))))))
theorem sc_gcd : FnScope ["one", "other"] ["one", "other"] (defScope s_gcd) := ⟨rfl, rfl, rfl, by decide +kernel, rfl, by decide +kernel, by decide +kernel⟩
theorem ok_gcd {f_gcd : Addr} {d_gcd : FuncData} (F : Fun K "gcd" "gcd" s_gcd f_gcd d_gcd) (cK : C.cc.K = K) (n_abs : mg "abs" = none) : FnOk P w K mg base CX0 1 f_gcd d_gcd ["one", "other"] (LSp0 C sp_gcd 2) :=
  fn_ok F sc_gcd sat_gcd (by decide) fun cdv A outer s H E Z hcc hz hr => have hK : Z.cc.K = K := by rw [hcc]; exact cK
  (ds_cons (ds_frz (i := 0) (ds_set (i := 0) sc_gcd.nd (de_b1 call_abs ops_abs n_abs (de_loc 0))))
  (ds_cons (ds_frz (i := 1) (ds_set (i := 1) sc_gcd.nd (de_b1 call_abs ops_abs n_abs (de_loc 1))))
  (ds_cons (ds_while PassesOwn.never (dt_cmp op_gt ops_gt (de_loc 1) de_int (nomark _)) (ds_one (ds_par (i := 0) (j := 1) rfl sc_gcd.nd (da_cons (de_loc 1) (da_cons (de_bin op_mod ops_mod (de_loc 0) (de_loc 1)) da_nil)))))
  (ds_one (ds_ret (de_loc 0))))))
theorem sc_lowest : FnScope ["top", "bottom", "common"] ["top", "bottom"] (defScope s_lowest) := ⟨rfl, rfl, rfl, by decide +kernel, rfl, by decide +kernel, by decide +kernel⟩
theorem ok_lowest {f_lowest : Addr} {d_lowest : FuncData} (F : Fun K "lowest" "lowest" s_lowest f_lowest d_lowest) (cK : C.cc.K = K) {f_gcd : Addr} {d_gcd : FuncData} (ok_gcd : FnOk P w K mg base CX0 1 f_gcd d_gcd ["one", "other"] (LSp0 C sp_gcd 2)) (B_gcd : Binds K d_gcd ["one", "other"] []) (M_gcd : mg "gcd" = some (.ref f_gcd)) (K_gcd : PySem.W.keepIn K (.ref f_gcd) = true) : FnOk P w K mg base CX0 2 f_lowest d_lowest ["top", "bottom"] (LSp0 C sp_lowest 2) :=
  fn_ok F sc_lowest sat_lowest (by decide) fun cdv A outer s H E Z hcc hz hr => have hK : Z.cc.K = K := by rw [hcc]; exact cK
  (ds_cons (ds_if (dt_cmp op_lt ops_lt (de_loc 1) de_int (nomark _)) (ds_cons (ds_set (i := 0) sc_lowest.nd (de_neg (de_loc 0)))
  (ds_one (ds_set (i := 1) sc_lowest.nd (de_neg (de_loc 1))))) ds_nil)
  (ds_cons (ds_frz (i := 2) (ds_set (i := 2) sc_lowest.nd (de_callN hcc hz ok_gcd (hr.mono (by decide)) M_gcd K_gcd B_gcd (dag_ro (de_loc 0) (dag_ro (de_loc 1) dag_nil)))))
  (ds_one (ds_ret (de_tup (da_cons (de_bin op_fdvX ops_fdv (de_loc 0) (de_loc 2)) (da_cons (de_bin op_fdvX ops_fdv (de_loc 1) (de_loc 2)) da_nil)))))))
theorem sc_ring_of : FnScope ["rule_map", "word", "modulus", "rules", "a", "b", "scale", "top", "bottom", "ring", "entry"] ["rule_map", "word"] (defScope s_ring_of) := ⟨rfl, rfl, rfl, by decide +kernel, rfl, by decide +kernel, by decide +kernel⟩
theorem ok_ring_of {f_ring_of : Addr} {d_ring_of : FuncData} (F : Fun K "ring_of" "ring_of" s_ring_of f_ring_of d_ring_of) (cK : C.cc.K = K) (ck_Map : ClsOk K (C.cc.cl 0)) (fl_Map : (C.cc.cl 0).2 = (["base", "rows"] : List Str)) {f_lowest : Addr} {d_lowest : FuncData} (ok_lowest : FnOk P w K mg base CX0 2 f_lowest d_lowest ["top", "bottom"] (LSp0 C sp_lowest 2)) (B_lowest : Binds K d_lowest ["top", "bottom"] []) (M_lowest : mg "lowest" = some (.ref f_lowest)) (K_lowest : PySem.W.keepIn K (.ref f_lowest) = true) {f_form_of : Addr} {d_form_of : FuncData} (ok_form_of : FnOk P w K mg base CX0 3 f_form_of d_form_of ["rule_map", "word"] (LSp0 C sp_form_of 2)) (B_form_of : Binds K d_form_of ["rule_map", "word"] []) (M_form_of : mg "form_of" = some (.ref f_form_of)) (K_form_of : PySem.W.keepIn K (.ref f_form_of) = true) {f_Map_rules : Addr} {d_Map_rules : FuncData} (ok_Map_rules : FnOk P w K mg base CX0 1 f_Map_rules d_Map_rules ["self"] (LSp0 C sp_Map_rules 1)) (B_Map_rules : Binds K d_Map_rules ["self"] []) {p_Map_rules : Addr} (pr_Map_rules : PropOf K (C.cc.cl 0).1 "rules" p_Map_rules f_Map_rules) {f_check_again : Addr} {d_check_again : FuncData} (ok_check_again : FnOk P w K mg base CX0 2 f_check_again d_check_again ["modulus", "word"] (LSp0 C sp_check_again 2)) (B_check_again : Binds K d_check_again ["modulus", "word"] []) (M_check_again : mg "check_again" = some (.ref f_check_again)) (K_check_again : PySem.W.keepIn K (.ref f_check_again) = true) {f_Map_modulus : Addr} {d_Map_modulus : FuncData} (ok_Map_modulus : FnOk P w K mg base CX0 1 f_Map_modulus d_Map_modulus ["self"] (LSp0 C sp_Map_modulus 1)) (B_Map_modulus : Binds K d_Map_modulus ["self"] []) {p_Map_modulus : Addr} (pr_Map_modulus : PropOf K (C.cc.cl 0).1 "modulus" p_Map_modulus f_Map_modulus) : FnOk P w K mg base CX0 4 f_ring_of d_ring_of ["rule_map", "word"] (LSp0 C sp_ring_of 2) :=
  fn_ok F sc_ring_of sat_ring_of (by decide) fun cdv A outer s H E Z hcc hz hr => have hK : Z.cc.K = K := by rw [hcc]; exact cK
  (ds_cons (ds_frz (i := 2) (ds_set (i := 2) sc_ring_of.nd (de_prop hcc hz (by rw [hcc]; exact ck_Map) (by rw [hcc]; exact pr_Map_modulus) ok_Map_modulus (hr.mono (by decide)) B_Map_modulus (de_loc 0))))
  (ds_cons (ds_expr (de_callN hcc hz ok_check_again (hr.mono (by decide)) M_check_again K_check_again B_check_again (dag_ro (de_loc 2) (dag_ro (de_loc 1) dag_nil))))
  (ds_cons (ds_frz (i := 3) (ds_set (i := 3) sc_ring_of.nd (de_prop hcc hz (by rw [hcc]; exact ck_Map) (by rw [hcc]; exact pr_Map_rules) ok_Map_rules (hr.mono (by decide)) B_Map_rules (de_loc 0))))
  (ds_cons (ds_asg (de_callN hcc hz ok_form_of (hr.mono (by decide)) M_form_of K_form_of B_form_of (dag_ro (de_loc 0) (dag_ro (de_loc 1) dag_nil))) (dg_tup rfl (dgs_cons (dg_name (i := 4) sc_ring_of.nd) (dgs_cons (dg_name (i := 5) sc_ring_of.nd) (dgs_cons (dg_name (i := 6) sc_ring_of.nd) dgs_nil)))))
  (ds_cons (ds_asg (de_callN hcc hz ok_lowest (hr.mono (by decide)) M_lowest K_lowest B_lowest (dag_ro (de_loc 5) (dag_ro (de_bin op_sub ops_sub (de_loc 6) (de_loc 4)) dag_nil))) (dg_tup rfl (dgs_cons (dg_name (i := 7) sc_ring_of.nd) (dgs_cons (dg_name (i := 8) sc_ring_of.nd) dgs_nil))))
  (ds_cons (ds_set (i := 9) sc_ring_of.nd (de_lst da_nil))
  (ds_cons (ds_for PassesOwn.never rfl (di_lst hK (de_loc 1)) (dg_name (i := 10) sc_ring_of.nd) (ds_cons (ds_app (j := 9) (de_tup (da_cons (de_loc 7) (da_cons (de_loc 8) da_nil))))
  (ds_one (ds_frz (i := 7) (ds_set (i := 7) sc_ring_of.nd (de_bin op_fdvX ops_fdv (de_bin op_addA (ops_add hK) (de_bin op_mulX ops_mul (de_ix hK (de_ix hK (de_loc 3) (de_loc 10)) de_int) (de_loc 7)) (de_bin op_mulX ops_mul (de_ix hK (de_ix hK (de_loc 3) (de_loc 10)) de_int) (de_loc 8))) (de_loc 2)))))))
  (ds_one (ds_ret (de_loc 9))))))))))
theorem sc_whole_rings : FnScope ["rule_map", "most", "rings", "length", "found", "word", "ring", "at", "top", "bottom"] ["rule_map", "most"] (defScope s_whole_rings) := ⟨rfl, rfl, rfl, by decide +kernel, rfl, by decide +kernel, by decide +kernel⟩
theorem ok_whole_rings {f_whole_rings : Addr} {d_whole_rings : FuncData} (F : Fun K "whole_rings" "whole_rings" s_whole_rings f_whole_rings d_whole_rings) (cK : C.cc.K = K) (n_min : mg "min" = none) (n_range : mg "range" = none) (n_sorted : mg "sorted" = none) (ck_Map : ClsOk K (C.cc.cl 0)) (fl_Map : (C.cc.cl 0).2 = (["base", "rows"] : List Str)) {f_plain_words : Addr} {d_plain_words : FuncData} (ok_plain_words : FnOk P w K mg base CX0 2 f_plain_words d_plain_words ["modulus", "length"] (LSp0 C sp_plain_words 2)) (B_plain_words : Binds K d_plain_words ["modulus", "length"] []) (M_plain_words : mg "plain_words" = some (.ref f_plain_words)) (K_plain_words : PySem.W.keepIn K (.ref f_plain_words) = true) {f_Map_modulus : Addr} {d_Map_modulus : FuncData} (ok_Map_modulus : FnOk P w K mg base CX0 1 f_Map_modulus d_Map_modulus ["self"] (LSp0 C sp_Map_modulus 1)) (B_Map_modulus : Binds K d_Map_modulus ["self"] []) {p_Map_modulus : Addr} (pr_Map_modulus : PropOf K (C.cc.cl 0).1 "modulus" p_Map_modulus f_Map_modulus) {f_is_whole_ring : Addr} {d_is_whole_ring : FuncData} (ok_is_whole_ring : FnOk P w K mg base CX0 4 f_is_whole_ring d_is_whole_ring ["rule_map", "word"] (LSp0 C sp_is_whole_ring 2)) (B_is_whole_ring : Binds K d_is_whole_ring ["rule_map", "word"] []) (M_is_whole_ring : mg "is_whole_ring" = some (.ref f_is_whole_ring)) (K_is_whole_ring : PySem.W.keepIn K (.ref f_is_whole_ring) = true) {f_ring_of : Addr} {d_ring_of : FuncData} (ok_ring_of : FnOk P w K mg base CX0 4 f_ring_of d_ring_of ["rule_map", "word"] (LSp0 C sp_ring_of 2)) (B_ring_of : Binds K d_ring_of ["rule_map", "word"] []) (M_ring_of : mg "ring_of" = some (.ref f_ring_of)) (K_ring_of : PySem.W.keepIn K (.ref f_ring_of) = true) {f_check_number : Addr} {d_check_number : FuncData} (ok_check_number : FnOk P w K mg base CX0 1 f_check_number d_check_number ["number", "least"] (LSp0 C sp_check_number 2)) (B_check_number : Binds K d_check_number ["number", "least"] []) (M_check_number : mg "check_number" = some (.ref f_check_number)) (K_check_number : PySem.W.keepIn K (.ref f_check_number) = true) : FnOk P w K mg base CX0 5 f_whole_rings d_whole_rings ["rule_map", "most"] (LSp0 C sp_whole_rings 2) :=
  fn_ok F sc_whole_rings sat_whole_rings (by decide) fun cdv A outer s H E Z hcc hz hr => have hK : Z.cc.K = K := by rw [hcc]; exact cK
  (ds_cons (ds_expr (de_callN hcc hz ok_check_number (hr.mono (by decide)) M_check_number K_check_number B_check_number (dag_ro (de_loc 1) (dag_ro de_int dag_nil))))
  (ds_cons (ds_set (i := 2) sc_whole_rings.nd (de_lst da_nil))
  (ds_cons (ds_for PassesOwn.never rfl (di_r2 rfl n_range (da_cons de_int (da_cons (de_bin op_addA (ops_add hK) (de_loc 1) de_int) da_nil))) (dg_name (i := 3) sc_whole_rings.nd) (ds_cons (ds_set (i := 4) sc_whole_rings.nd (de_lst da_nil))
  (ds_cons (ds_for PassesOwn.never rfl (di_lst hK (de_callN hcc hz ok_plain_words (hr.mono (by decide)) M_plain_words K_plain_words B_plain_words (dag_ro (de_prop hcc hz (by rw [hcc]; exact ck_Map) (by rw [hcc]; exact pr_Map_modulus) ok_Map_modulus (hr.mono (by decide)) B_Map_modulus (de_loc 0)) (dag_ro (de_loc 3) dag_nil)))) (dg_name (i := 5) sc_whole_rings.nd) (ds_one (ds_if (dt_val (de_callN hcc hz ok_is_whole_ring (hr.mono (by decide)) M_is_whole_ring K_is_whole_ring B_is_whole_ring (dag_ro (de_loc 0) (dag_ro (de_loc 5) dag_nil)))) (ds_cons (ds_frz (i := 6) (ds_setLc (i := 6) (own := [("top", 8), ("bottom", 9)]) rfl sc_whole_rings.nd (di_lst hK (de_callN hcc hz ok_ring_of (hr.mono (by decide)) M_ring_of K_ring_of B_ring_of (dag_ro (de_loc 0) (dag_ro (de_loc 5) dag_nil)))) (blkOk_by (own := [("top", 8), ("bottom", 9)]) (N := ["rule_map", "most", "rings", "length", "found", "word", "ring", "at", "top", "bottom"]) (sc := defScope s_whole_rings) (by decide +kernel)) (fun _ _ _ _ _ => (dgc_tup rfl (dgcs_cons (dgc_name (i := 8) sc_whole_rings.nd) (dgcs_cons (dgc_name (i := 9) sc_whole_rings.nd) dgcs_nil)))) (fun _ _ _ _ _ _ _ => dts_nil) (fun _ _ _ _ _ _ _ => (de_loc 8)) (sw_true rfl rfl rfl (by decide +kernel))))
  (ds_cons (ds_frz (i := 7) (ds_set (i := 7) sc_whole_rings.nd (de_idx (room65 hr) hK (de_loc 6) (de_b1 (cr_min rfl) (ops_min1 hK) n_min (de_loc 6)))))
  (ds_one (ds_app (j := 4) (de_bin op_addA (ops_add hK) (de_slice hK (de_loc 6) (dp_some (de_loc 7)) dp_none) (de_slice hK (de_loc 6) dp_none (dp_some (de_loc 7)))))))) ds_nil)))
  (ds_one (ds_augL (j := 2) sc_whole_rings.nd (de_b1 (cr_sortedD (room6 hr)) (ops_sortD hK) n_sorted (de_loc 4)))))))
  (ds_one (ds_ret (de_loc 2))))))
theorem sc_law_power : FnScope ["base", "count", "scale", "turn"] ["base", "count"] (defScope s_law_power) := ⟨rfl, rfl, rfl, by decide +kernel, rfl, by decide +kernel, by decide +kernel⟩
theorem ok_law_power {f_law_power : Addr} {d_law_power : FuncData} (F : Fun K "_law_power" "_law_power" s_law_power f_law_power d_law_power) (cK : C.cc.K = K) (n_range : mg "range" = none) : FnOk P w K mg base CX0 1 f_law_power d_law_power ["base", "count"] (LSp0 C sp_law_power 2) :=
  fn_ok F sc_law_power sat_law_power (by decide) fun cdv A outer s H E Z hcc hz hr => have hK : Z.cc.K = K := by rw [hcc]; exact cK
  (ds_cons (ds_set (i := 2) sc_law_power.nd de_int)
  (ds_cons (ds_for PassesOwn.never rfl (di_r1 rfl n_range (da_cons (de_loc 1) da_nil)) (dg_name (i := 3) sc_law_power.nd) (ds_one (ds_frz (i := 2) (ds_set (i := 2) sc_law_power.nd (de_bin op_mulX ops_mul (de_loc 2) (de_loc 0))))))
  (ds_one (ds_ret (de_loc 2)))))
theorem sc_whole_before : FnScope ["rule_map", "number", "modulus", "found", "a", "b"] ["rule_map", "number"] (defScope s_whole_before) := ⟨rfl, rfl, rfl, by decide +kernel, rfl, by decide +kernel, by decide +kernel⟩
theorem ok_whole_before {f_whole_before : Addr} {d_whole_before : FuncData} (F : Fun K "whole_before" "whole_before" s_whole_before f_whole_before d_whole_before) (cK : C.cc.K = K) (n_sorted : mg "sorted" = none) (ck_Map : ClsOk K (C.cc.cl 0)) (fl_Map : (C.cc.cl 0).2 = (["base", "rows"] : List Str)) {f_Map_rules : Addr} {d_Map_rules : FuncData} (ok_Map_rules : FnOk P w K mg base CX0 1 f_Map_rules d_Map_rules ["self"] (LSp0 C sp_Map_rules 1)) (B_Map_rules : Binds K d_Map_rules ["self"] []) {p_Map_rules : Addr} (pr_Map_rules : PropOf K (C.cc.cl 0).1 "rules" p_Map_rules f_Map_rules) {f_Map_modulus : Addr} {d_Map_modulus : FuncData} (ok_Map_modulus : FnOk P w K mg base CX0 1 f_Map_modulus d_Map_modulus ["self"] (LSp0 C sp_Map_modulus 1)) (B_Map_modulus : Binds K d_Map_modulus ["self"] []) {p_Map_modulus : Addr} (pr_Map_modulus : PropOf K (C.cc.cl 0).1 "modulus" p_Map_modulus f_Map_modulus) : FnOk P w K mg base CX0 3 f_whole_before d_whole_before ["rule_map", "number"] (LSp0 C sp_whole_before 2) :=
  fn_ok F sc_whole_before sat_whole_before (by decide) fun cdv A outer s H E Z hcc hz hr => have hK : Z.cc.K = K := by rw [hcc]; exact cK
  (ds_cons (ds_frz (i := 2) (ds_set (i := 2) sc_whole_before.nd (de_prop hcc hz (by rw [hcc]; exact ck_Map) (by rw [hcc]; exact pr_Map_modulus) ok_Map_modulus (hr.mono (by decide)) B_Map_modulus (de_loc 0))))
  (ds_cons (ds_set (i := 3) sc_whole_before.nd (de_lst da_nil))
  (ds_cons (ds_for PassesOwn.never rfl (di_lst hK (de_prop hcc hz (by rw [hcc]; exact ck_Map) (by rw [hcc]; exact pr_Map_rules) ok_Map_rules (hr.mono (by decide)) B_Map_rules (de_loc 0))) (dg_tup rfl (dgs_cons (dg_name (i := 4) sc_whole_before.nd) (dgs_cons (dg_name (i := 5) sc_whole_before.nd) dgs_nil))) (ds_one (ds_if (dt_cmp (op_eqD hr.units) (ops_eq hK) (de_bin op_mod ops_mod (de_bin op_sub ops_sub (de_bin op_mulX ops_mul (de_loc 2) (de_loc 1)) (de_loc 5)) (de_loc 4)) de_int (nomark _)) (ds_one (ds_app (j := 3) (de_bin op_fdvX ops_fdv (de_bin op_sub ops_sub (de_bin op_mulX ops_mul (de_loc 2) (de_loc 1)) (de_loc 5)) (de_loc 4)))) ds_nil)))
  (ds_one (ds_ret (de_b1 cr_sortedI (ops_sort hK) n_sorted (de_loc 3)))))))
theorem sc_numbers_before : FnScope ["rule_map", "number", "steps", "found", "step", "earlier", "one"] ["rule_map", "number", "steps"] (defScope s_numbers_before) := ⟨rfl, rfl, rfl, by decide +kernel, rfl, by decide +kernel, by decide +kernel⟩
theorem ok_numbers_before {f_numbers_before : Addr} {d_numbers_before : FuncData} (F : Fun K "numbers_before" "numbers_before" s_numbers_before f_numbers_before d_numbers_before) (cK : C.cc.K = K) (n_range : mg "range" = none) (n_sorted : mg "sorted" = none) {f_whole_before : Addr} {d_whole_before : FuncData} (ok_whole_before : FnOk P w K mg base CX0 3 f_whole_before d_whole_before ["rule_map", "number"] (LSp0 C sp_whole_before 2)) (B_whole_before : Binds K d_whole_before ["rule_map", "number"] []) (M_whole_before : mg "whole_before" = some (.ref f_whole_before)) (K_whole_before : PySem.W.keepIn K (.ref f_whole_before) = true) : FnOk P w K mg base CX0 4 f_numbers_before d_numbers_before ["rule_map", "number", "steps"] (LSp0 C sp_numbers_before 3) :=
  fn_ok F sc_numbers_before sat_numbers_before (by decide) fun cdv A outer s H E Z hcc hz hr => have hK : Z.cc.K = K := by rw [hcc]; exact cK
  (ds_cons (ds_if (dt_cmp op_lt ops_lt (de_loc 2) de_int (nomark _)) (ds_one ds_never) ds_nil)
  (ds_cons (ds_frz (i := 3) (ds_set (i := 3) sc_numbers_before.nd (de_lst (da_cons (de_loc 1) da_nil))))
  (ds_cons (ds_for PassesOwn.never rfl (di_r1 rfl n_range (da_cons (de_loc 2) da_nil)) (dg_name (i := 4) sc_numbers_before.nd) (ds_cons (ds_set (i := 5) sc_numbers_before.nd (de_lst da_nil))
  (ds_cons (ds_for PassesOwn.never rfl (di_lst hK (de_loc 3)) (dg_name (i := 6) sc_numbers_before.nd) (ds_one (ds_ext (j := 5) (de_callN hcc hz ok_whole_before (hr.mono (by decide)) M_whole_before K_whole_before B_whole_before (dag_ro (de_loc 0) (dag_ro (de_loc 6) dag_nil))))))
  (ds_one (ds_set (i := 3) sc_numbers_before.nd (de_loc 5))))))
  (ds_one (ds_ret (de_b1 cr_sortedI (ops_sort hK) n_sorted (de_loc 3)))))))
theorem sc_classes_before : FnScope ["rule_map", "rules", "found", "k", "a", "b"] ["rule_map"] (defScope s_classes_before) := ⟨rfl, rfl, rfl, by decide +kernel, rfl, by decide +kernel, by decide +kernel⟩
theorem ok_classes_before {f_classes_before : Addr} {d_classes_before : FuncData} (F : Fun K "classes_before" "classes_before" s_classes_before f_classes_before d_classes_before) (cK : C.cc.K = K) (n_len : mg "len" = none) (n_range : mg "range" = none) (ck_Map : ClsOk K (C.cc.cl 0)) (fl_Map : (C.cc.cl 0).2 = (["base", "rows"] : List Str)) {f_Map_rules : Addr} {d_Map_rules : FuncData} (ok_Map_rules : FnOk P w K mg base CX0 1 f_Map_rules d_Map_rules ["self"] (LSp0 C sp_Map_rules 1)) (B_Map_rules : Binds K d_Map_rules ["self"] []) {p_Map_rules : Addr} (pr_Map_rules : PropOf K (C.cc.cl 0).1 "rules" p_Map_rules f_Map_rules) : FnOk P w K mg base CX0 3 f_classes_before d_classes_before ["rule_map"] (LSp0 C sp_classes_before 1) :=
  fn_ok F sc_classes_before sat_classes_before (by decide) fun cdv A outer s H E Z hcc hz hr => have hK : Z.cc.K = K := by rw [hcc]; exact cK
  (ds_cons (ds_frz (i := 1) (ds_set (i := 1) sc_classes_before.nd (de_prop hcc hz (by rw [hcc]; exact ck_Map) (by rw [hcc]; exact pr_Map_rules) ok_Map_rules (hr.mono (by decide)) B_Map_rules (de_loc 0))))
  (ds_cons (ds_set (i := 2) sc_classes_before.nd (de_lst da_nil))
  (ds_cons (ds_for PassesOwn.never rfl (di_r1 rfl n_range (da_cons (de_b1 call_lenA (ops_len hK) n_len (de_loc 1)) da_nil)) (dg_name (i := 3) sc_classes_before.nd) (ds_cons (ds_asg (de_ix hK (de_loc 1) (de_loc 3)) (dg_tup rfl (dgs_cons (dg_name (i := 4) sc_classes_before.nd) (dgs_cons (dg_name (i := 5) sc_classes_before.nd) dgs_nil))))
  (ds_one (ds_app (j := 2) (de_tup (da_cons (de_loc 4) (da_cons (de_bin op_mod ops_mod (de_bin op_fdvX ops_fdv (de_bin op_addA (ops_add hK) (de_bin op_mulX ops_mul (de_loc 4) (de_loc 3)) (de_loc 5)) (de_b1 call_lenA (ops_len hK) n_len (de_loc 1))) (de_loc 4)) da_nil)))))))
  (ds_one (ds_ret (de_loc 2))))))
theorem sc_law_is_led_to : FnScope ["chart", "base", "tops", "sides", "k", "side", "rest"] ["chart", "base", "tops"] (defScope s_law_is_led_to) := ⟨rfl, rfl, rfl, by decide +kernel, rfl, by decide +kernel, by decide +kernel⟩
theorem ok_law_is_led_to {f_law_is_led_to : Addr} {d_law_is_led_to : FuncData} (F : Fun K "_law_is_led_to" "_law_is_led_to" s_law_is_led_to f_law_is_led_to d_law_is_led_to) (cK : C.cc.K = K) (n_int : mg "int" = none) (n_len : mg "len" = none) (n_range : mg "range" = none) {f_numbers_before : Addr} {d_numbers_before : FuncData} (ok_numbers_before : FnOk P w K mg base CX0 4 f_numbers_before d_numbers_before ["rule_map", "number", "steps"] (LSp0 C sp_numbers_before 3)) (M_numbers_before : mg "numbers_before" = some (.ref f_numbers_before)) (K_numbers_before : PySem.W.keepIn K (.ref f_numbers_before) = true) {f_whole_before : Addr} {d_whole_before : FuncData} (ok_whole_before : FnOk P w K mg base CX0 3 f_whole_before d_whole_before ["rule_map", "number"] (LSp0 C sp_whole_before 2)) (M_whole_before : mg "whole_before" = some (.ref f_whole_before)) (K_whole_before : PySem.W.keepIn K (.ref f_whole_before) = true) {f_classes_before : Addr} {d_classes_before : FuncData} (ok_classes_before : FnOk P w K mg base CX0 3 f_classes_before d_classes_before ["rule_map"] (LSp0 C sp_classes_before 1)) (M_classes_before : mg "classes_before" = some (.ref f_classes_before)) (K_classes_before : PySem.W.keepIn K (.ref f_classes_before) = true) (KB_classes_before_0 : KBp K d_classes_before ["rule_map"] ["rule_map"] [0]) (KB_numbers_before_012 : KBp K d_numbers_before ["rule_map", "number", "steps"] ["rule_map", "number", "steps"] [0, 1, 2]) (KB_whole_before_01 : KBp K d_whole_before ["rule_map", "number"] ["rule_map", "number"] [0, 1]) : FnOk P w K mg base CX0 5 f_law_is_led_to d_law_is_led_to ["chart", "base", "tops"] (LSp0 C sp_law_is_led_to 3) :=
  fn_ok F sc_law_is_led_to sat_law_is_led_to (by decide) fun cdv A outer s H E Z hcc hz hr => have hK : Z.cc.K = K := by rw [hcc]; exact cK
  (ds_cons (ds_frz (i := 3) (ds_set (i := 3) sc_law_is_led_to.nd (de_callPN hcc hz ok_classes_before (hr.mono (by decide)) M_classes_before K_classes_before KB_classes_before_0 rfl (dkg_ro (de_loc 0) dkg_nil))))
  (ds_cons (ds_for PassesOwn.never rfl (di_r1 rfl n_range (da_cons (de_b1 call_lenA (ops_len hK) n_len (de_loc 2)) da_nil)) (dg_name (i := 4) sc_law_is_led_to.nd) (ds_cons (ds_asg (de_ix hK (de_loc 3) (de_bin op_mod ops_mod (de_t1 call_int1 ops_int1 n_int (de_ix hK (de_loc 2) (de_bin op_sub ops_sub (de_loc 4) de_int))) (de_loc 1))) (dg_tup rfl (dgs_cons (dg_name (i := 5) sc_law_is_led_to.nd) (dgs_cons (dg_name (i := 6) sc_law_is_led_to.nd) dgs_nil))))
  (ds_one (ds_if (PW.pt (dw_or (dt_cmp (op_neD hr.units) (ops_ne hK) (de_bin op_mod ops_mod (de_t1 call_int1 ops_int1 n_int (de_bin op_sub ops_sub (de_ix hK (de_loc 2) (de_loc 4)) (de_loc 6))) (de_loc 5)) de_int (nomark _)) (dw_or1 (dt_cmp (op_notInD (room65 hr)) (ops_notIn hK) (de_ix hK (de_loc 2) (de_bin op_sub ops_sub (de_loc 4) de_int)) (de_callPN hcc hz ok_whole_before (hr.mono (by decide)) M_whole_before K_whole_before KB_whole_before_01 rfl (dkg_ro (de_loc 0) (dkg_ro (de_ix hK (de_loc 2) (de_loc 4)) dkg_nil))) (by rfl))))) (ds_one (ds_ret de_bl)) ds_nil))))
  (ds_one (ds_ret (de_cmp (op_inD (room65 hr)) (ops_in hK) (de_ix hK (de_loc 2) de_int) (de_callPN hcc hz ok_numbers_before (hr.mono (by decide)) M_numbers_before K_numbers_before KB_numbers_before_012 rfl (dkg_ro (de_loc 0) (dkg_ro (de_ix hK (de_loc 2) de_int) (dkg_ro (de_b1 call_lenA (ops_len hK) n_len (de_loc 2)) dkg_nil)))) (by rfl))))))
theorem sc_inverse : FnScope ["number", "modulus", "one", "other", "here", "there", "times"] ["number", "modulus"] (defScope s_inverse) := ⟨rfl, rfl, rfl, by decide +kernel, rfl, by decide +kernel, by decide +kernel⟩
theorem ok_inverse {f_inverse : Addr} {d_inverse : FuncData} (F : Fun K "inverse" "inverse" s_inverse f_inverse d_inverse) (cK : C.cc.K = K)  : FnOk P w K mg base CX0 1 f_inverse d_inverse ["number", "modulus"] (LSp0 C sp_inverse 2) :=
  fn_ok F sc_inverse sat_inverse (by decide) fun cdv A outer s H E Z hcc hz hr => have hK : Z.cc.K = K := by rw [hcc]; exact cK
  (ds_cons (ds_par (i := 2) (j := 3) rfl sc_inverse.nd (da_cons (de_bin op_mod ops_mod (de_loc 0) (de_loc 1)) (da_cons (de_loc 1) da_nil)))
  (ds_cons (ds_asg (de_tup (da_cons de_int (da_cons de_int da_nil))) (dg_tup rfl (dgs_cons (dg_name (i := 4) sc_inverse.nd) (dgs_cons (dg_name (i := 5) sc_inverse.nd) dgs_nil))))
  (ds_cons (ds_while PassesOwn.never (dt_cmp op_gt ops_gt (de_loc 3) de_int (nomark _)) (ds_cons (ds_frz (i := 6) (ds_set (i := 6) sc_inverse.nd (de_bin op_fdvX ops_fdv (de_loc 2) (de_loc 3))))
  (ds_cons (ds_par (i := 2) (j := 3) rfl sc_inverse.nd (da_cons (de_loc 3) (da_cons (de_bin op_sub ops_sub (de_loc 2) (de_bin op_mulX ops_mul (de_loc 6) (de_loc 3))) da_nil)))
  (ds_one (ds_par (i := 4) (j := 5) rfl sc_inverse.nd (da_cons (de_loc 5) (da_cons (de_bin op_sub ops_sub (de_loc 4) (de_bin op_mulX ops_mul (de_loc 6) (de_loc 5))) da_nil)))))))
  (ds_one (ds_ret (de_bin op_mod ops_mod (de_loc 4) (de_loc 1)))))))
theorem sc_remainder_by : FnScope ["modulus", "number"] ["modulus", "number"] (defScope s_remainder_by) := ⟨rfl, rfl, rfl, by decide +kernel, rfl, by decide +kernel, by decide +kernel⟩
theorem ok_remainder_by {f_remainder_by : Addr} {d_remainder_by : FuncData} (F : Fun K "remainder_by" "remainder_by" s_remainder_by f_remainder_by d_remainder_by) (cK : C.cc.K = K) {f_inverse : Addr} {d_inverse : FuncData} (ok_inverse : FnOk P w K mg base CX0 1 f_inverse d_inverse ["number", "modulus"] (LSp0 C sp_inverse 2)) (B_inverse : Binds K d_inverse ["number", "modulus"] []) (M_inverse : mg "inverse" = some (.ref f_inverse)) (K_inverse : PySem.W.keepIn K (.ref f_inverse) = true) : FnOk P w K mg base CX0 2 f_remainder_by d_remainder_by ["modulus", "number"] (LSp0 C sp_remainder_by 2) :=
  fn_ok F sc_remainder_by sat_remainder_by (by decide) fun cdv A outer s H E Z hcc hz hr => have hK : Z.cc.K = K := by rw [hcc]; exact cK
  (ds_cons (ds_if (dt_cmp (op_eqD hr.units) (ops_eq hK) (de_ix hK (de_loc 1) de_int) de_int (nomark _)) (ds_one (ds_ret (de_bin op_mod ops_mod (de_ix hK (de_loc 1) de_int) (de_loc 0)))) ds_nil)
  (ds_one (ds_ret (de_bin op_mod ops_mod (de_bin op_mulX ops_mul (de_ix hK (de_loc 1) de_int) (de_callN hcc hz ok_inverse (hr.mono (by decide)) M_inverse K_inverse B_inverse (dag_ro (de_ix hK (de_loc 1) de_int) (dag_ro (de_loc 0) dag_nil)))) (de_loc 0)))))
theorem sc_stepped : FnScope ["modulus", "rules", "number", "top", "bottom", "a", "b"] ["modulus", "rules", "number"] (defScope s_stepped) := ⟨rfl, rfl, rfl, by decide +kernel, rfl, by decide +kernel, by decide +kernel⟩
theorem ok_stepped {f_stepped : Addr} {d_stepped : FuncData} (F : Fun K "stepped" "stepped" s_stepped f_stepped d_stepped) (cK : C.cc.K = K) {f_lowest : Addr} {d_lowest : FuncData} (ok_lowest : FnOk P w K mg base CX0 2 f_lowest d_lowest ["top", "bottom"] (LSp0 C sp_lowest 2)) (B_lowest : Binds K d_lowest ["top", "bottom"] []) (M_lowest : mg "lowest" = some (.ref f_lowest)) (K_lowest : PySem.W.keepIn K (.ref f_lowest) = true) {f_remainder_by : Addr} {d_remainder_by : FuncData} (ok_remainder_by : FnOk P w K mg base CX0 2 f_remainder_by d_remainder_by ["modulus", "number"] (LSp0 C sp_remainder_by 2)) (B_remainder_by : Binds K d_remainder_by ["modulus", "number"] []) (M_remainder_by : mg "remainder_by" = some (.ref f_remainder_by)) (K_remainder_by : PySem.W.keepIn K (.ref f_remainder_by) = true) : FnOk P w K mg base CX0 3 f_stepped d_stepped ["modulus", "rules", "number"] (LSp0 C sp_stepped 3) :=
  fn_ok F sc_stepped sat_stepped (by decide) fun cdv A outer s H E Z hcc hz hr => have hK : Z.cc.K = K := by rw [hcc]; exact cK
  (ds_cons (ds_asg (de_loc 2) (dg_tup rfl (dgs_cons (dg_name (i := 3) sc_stepped.nd) (dgs_cons (dg_name (i := 4) sc_stepped.nd) dgs_nil))))
  (ds_cons (ds_asg (de_ix hK (de_loc 1) (de_callN hcc hz ok_remainder_by (hr.mono (by decide)) M_remainder_by K_remainder_by B_remainder_by (dag_ro (de_loc 0) (dag_ro (de_loc 2) dag_nil)))) (dg_tup rfl (dgs_cons (dg_name (i := 5) sc_stepped.nd) (dgs_cons (dg_name (i := 6) sc_stepped.nd) dgs_nil))))
  (ds_one (ds_ret (de_callN hcc hz ok_lowest (hr.mono (by decide)) M_lowest K_lowest B_lowest (dag_ro (de_bin op_fdvX ops_fdv (de_bin op_addA (ops_add hK) (de_bin op_mulX ops_mul (de_loc 5) (de_loc 3)) (de_bin op_mulX ops_mul (de_loc 6) (de_loc 4))) (de_loc 0)) (dag_ro (de_loc 4) dag_nil)))))))
theorem sc_is_fraction : FnScope ["value"] ["value"] (defScope s_is_fraction) := ⟨rfl, rfl, rfl, by decide +kernel, rfl, by decide +kernel, by decide +kernel⟩
theorem ok_is_fraction {f_is_fraction : Addr} {d_is_fraction : FuncData} (F : Fun K "is_fraction" "is_fraction" s_is_fraction f_is_fraction d_is_fraction) (cK : C.cc.K = K) {f_gcd : Addr} {d_gcd : FuncData} (ok_gcd : FnOk P w K mg base CX0 1 f_gcd d_gcd ["one", "other"] (LSp0 C sp_gcd 2)) (B_gcd : Binds K d_gcd ["one", "other"] []) (M_gcd : mg "gcd" = some (.ref f_gcd)) (K_gcd : PySem.W.keepIn K (.ref f_gcd) = true) : FnOk P w K mg base CX0 2 f_is_fraction d_is_fraction ["value"] (LSp0 C sp_is_fraction 1) :=
  fn_ok F sc_is_fraction sat_is_fraction (by decide) fun cdv A outer s H E Z hcc hz hr => have hK : Z.cc.K = K := by rw [hcc]; exact cK
  (ds_one (ds_ret (de_and (de_cmp op_ge ops_ge (de_ix hK (de_loc 0) de_int) de_int (nomark _)) (de_one (de_cmp (op_eqD hr.units) (ops_eq hK) (de_callN hcc hz ok_gcd (hr.mono (by decide)) M_gcd K_gcd B_gcd (dag_ro (de_ix hK (de_loc 0) de_int) (dag_ro (de_ix hK (de_loc 0) de_int) dag_nil))) de_int (nomark _))))))
theorem sc_is_good : FnScope ["modulus", "value"] ["modulus", "value"] (defScope s_is_good) := ⟨rfl, rfl, rfl, by decide +kernel, rfl, by decide +kernel, by decide +kernel⟩
theorem ok_is_good {f_is_good : Addr} {d_is_good : FuncData} (F : Fun K "is_good" "is_good" s_is_good f_is_good d_is_good) (cK : C.cc.K = K) {f_is_fraction : Addr} {d_is_fraction : FuncData} (ok_is_fraction : FnOk P w K mg base CX0 2 f_is_fraction d_is_fraction ["value"] (LSp0 C sp_is_fraction 1)) (B_is_fraction : Binds K d_is_fraction ["value"] []) (M_is_fraction : mg "is_fraction" = some (.ref f_is_fraction)) (K_is_fraction : PySem.W.keepIn K (.ref f_is_fraction) = true) {f_gcd : Addr} {d_gcd : FuncData} (ok_gcd : FnOk P w K mg base CX0 1 f_gcd d_gcd ["one", "other"] (LSp0 C sp_gcd 2)) (B_gcd : Binds K d_gcd ["one", "other"] []) (M_gcd : mg "gcd" = some (.ref f_gcd)) (K_gcd : PySem.W.keepIn K (.ref f_gcd) = true) : FnOk P w K mg base CX0 3 f_is_good d_is_good ["modulus", "value"] (LSp0 C sp_is_good 2) :=
  fn_ok F sc_is_good sat_is_good (by decide) fun cdv A outer s H E Z hcc hz hr => have hK : Z.cc.K = K := by rw [hcc]; exact cK
  (ds_one (ds_ret (de_and (de_callN hcc hz ok_is_fraction (hr.mono (by decide)) M_is_fraction K_is_fraction B_is_fraction (dag_ro (de_loc 1) dag_nil)) (de_one (de_cmp (op_eqD hr.units) (ops_eq hK) (de_callN hcc hz ok_gcd (hr.mono (by decide)) M_gcd K_gcd B_gcd (dag_ro (de_ix hK (de_loc 1) de_int) (dag_ro (de_loc 0) dag_nil))) de_int (nomark _))))))
theorem sc_check_fraction : FnScope ["rule_map", "number"] ["rule_map", "number"] (defScope s_check_fraction) := ⟨rfl, rfl, rfl, by decide +kernel, rfl, by decide +kernel, by decide +kernel⟩
theorem ok_check_fraction {f_check_fraction : Addr} {d_check_fraction : FuncData} (F : Fun K "check_fraction" "check_fraction" s_check_fraction f_check_fraction d_check_fraction) (cK : C.cc.K = K) (ck_Map : ClsOk K (C.cc.cl 0)) (fl_Map : (C.cc.cl 0).2 = (["base", "rows"] : List Str)) {f_is_good : Addr} {d_is_good : FuncData} (ok_is_good : FnOk P w K mg base CX0 3 f_is_good d_is_good ["modulus", "value"] (LSp0 C sp_is_good 2)) (B_is_good : Binds K d_is_good ["modulus", "value"] []) (M_is_good : mg "is_good" = some (.ref f_is_good)) (K_is_good : PySem.W.keepIn K (.ref f_is_good) = true) {f_Map_modulus : Addr} {d_Map_modulus : FuncData} (ok_Map_modulus : FnOk P w K mg base CX0 1 f_Map_modulus d_Map_modulus ["self"] (LSp0 C sp_Map_modulus 1)) (B_Map_modulus : Binds K d_Map_modulus ["self"] []) {p_Map_modulus : Addr} (pr_Map_modulus : PropOf K (C.cc.cl 0).1 "modulus" p_Map_modulus f_Map_modulus) : FnOk P w K mg base CX0 4 f_check_fraction d_check_fraction ["rule_map", "number"] (LSp0 C sp_check_fraction 2) :=
  fn_ok F sc_check_fraction sat_check_fraction (by decide) fun cdv A outer s H E Z hcc hz hr => have hK : Z.cc.K = K := by rw [hcc]; exact cK
  (ds_one (ds_if (dt_not (dt_val (de_callN hcc hz ok_is_good (hr.mono (by decide)) M_is_good K_is_good B_is_good (dag_ro (de_prop hcc hz (by rw [hcc]; exact ck_Map) (by rw [hcc]; exact pr_Map_modulus) ok_Map_modulus (hr.mono (by decide)) B_Map_modulus (de_loc 0)) (dag_ro (de_loc 1) dag_nil))))) (ds_one ds_never) ds_nil))
theorem sc_walk : FnScope ["rule_map", "number", "steps", "modulus", "rules", "found", "turn"] ["rule_map", "number", "steps"] (defScope s_walk) := ⟨rfl, rfl, rfl, by decide +kernel, rfl, by decide +kernel, by decide +kernel⟩
theorem ok_walk {f_walk : Addr} {d_walk : FuncData} (F : Fun K "walk" "walk" s_walk f_walk d_walk) (cK : C.cc.K = K) (n_range : mg "range" = none) (ck_Map : ClsOk K (C.cc.cl 0)) (fl_Map : (C.cc.cl 0).2 = (["base", "rows"] : List Str)) {f_stepped : Addr} {d_stepped : FuncData} (ok_stepped : FnOk P w K mg base CX0 3 f_stepped d_stepped ["modulus", "rules", "number"] (LSp0 C sp_stepped 3)) (B_stepped : Binds K d_stepped ["modulus", "rules", "number"] []) (M_stepped : mg "stepped" = some (.ref f_stepped)) (K_stepped : PySem.W.keepIn K (.ref f_stepped) = true) {f_Map_rules : Addr} {d_Map_rules : FuncData} (ok_Map_rules : FnOk P w K mg base CX0 1 f_Map_rules d_Map_rules ["self"] (LSp0 C sp_Map_rules 1)) (B_Map_rules : Binds K d_Map_rules ["self"] []) {p_Map_rules : Addr} (pr_Map_rules : PropOf K (C.cc.cl 0).1 "rules" p_Map_rules f_Map_rules) {f_Map_modulus : Addr} {d_Map_modulus : FuncData} (ok_Map_modulus : FnOk P w K mg base CX0 1 f_Map_modulus d_Map_modulus ["self"] (LSp0 C sp_Map_modulus 1)) (B_Map_modulus : Binds K d_Map_modulus ["self"] []) {p_Map_modulus : Addr} (pr_Map_modulus : PropOf K (C.cc.cl 0).1 "modulus" p_Map_modulus f_Map_modulus) {f_check_number : Addr} {d_check_number : FuncData} (ok_check_number : FnOk P w K mg base CX0 1 f_check_number d_check_number ["number", "least"] (LSp0 C sp_check_number 2)) (B_check_number : Binds K d_check_number ["number", "least"] []) (M_check_number : mg "check_number" = some (.ref f_check_number)) (K_check_number : PySem.W.keepIn K (.ref f_check_number) = true) {f_check_fraction : Addr} {d_check_fraction : FuncData} (ok_check_fraction : FnOk P w K mg base CX0 4 f_check_fraction d_check_fraction ["rule_map", "number"] (LSp0 C sp_check_fraction 2)) (B_check_fraction : Binds K d_check_fraction ["rule_map", "number"] []) (M_check_fraction : mg "check_fraction" = some (.ref f_check_fraction)) (K_check_fraction : PySem.W.keepIn K (.ref f_check_fraction) = true) : FnOk P w K mg base CX0 5 f_walk d_walk ["rule_map", "number", "steps"] (LSp0 C sp_walk 3) :=
  fn_ok F sc_walk sat_walk (by decide) fun cdv A outer s H E Z hcc hz hr => have hK : Z.cc.K = K := by rw [hcc]; exact cK
  (ds_cons (ds_expr (de_callN hcc hz ok_check_fraction (hr.mono (by decide)) M_check_fraction K_check_fraction B_check_fraction (dag_ro (de_loc 0) (dag_ro (de_loc 1) dag_nil))))
  (ds_cons (ds_expr (de_callN hcc hz ok_check_number (hr.mono (by decide)) M_check_number K_check_number B_check_number (dag_ro (de_loc 2) (dag_ro de_int dag_nil))))
  (ds_cons (ds_frz (i := 3) (ds_set (i := 3) sc_walk.nd (de_prop hcc hz (by rw [hcc]; exact ck_Map) (by rw [hcc]; exact pr_Map_modulus) ok_Map_modulus (hr.mono (by decide)) B_Map_modulus (de_loc 0))))
  (ds_cons (ds_frz (i := 4) (ds_set (i := 4) sc_walk.nd (de_prop hcc hz (by rw [hcc]; exact ck_Map) (by rw [hcc]; exact pr_Map_rules) ok_Map_rules (hr.mono (by decide)) B_Map_rules (de_loc 0))))
  (ds_cons (ds_set (i := 5) sc_walk.nd (de_lst (da_cons (de_loc 1) da_nil)))
  (ds_cons (ds_for PassesOwn.never rfl (di_r1 rfl n_range (da_cons (de_loc 2) da_nil)) (dg_name (i := 6) sc_walk.nd) (ds_one (ds_app (j := 5) (de_callN hcc hz ok_stepped (hr.mono (by decide)) M_stepped K_stepped B_stepped (dag_ro (de_loc 3) (dag_ro (de_loc 4) (dag_ro (de_ix hK (de_loc 5) (de_neg de_int)) dag_nil)))))))
  (ds_one (ds_ret (de_loc 5)))))))))
theorem sc_after : FnScope ["rule_map", "number", "steps"] ["rule_map", "number", "steps"] (defScope s_after) := ⟨rfl, rfl, rfl, by decide +kernel, rfl, by decide +kernel, by decide +kernel⟩
theorem ok_after {f_after : Addr} {d_after : FuncData} (F : Fun K "after" "after" s_after f_after d_after) (cK : C.cc.K = K) {f_walk : Addr} {d_walk : FuncData} (ok_walk : FnOk P w K mg base CX0 5 f_walk d_walk ["rule_map", "number", "steps"] (LSp0 C sp_walk 3)) (B_walk : Binds K d_walk ["rule_map", "number", "steps"] []) (M_walk : mg "walk" = some (.ref f_walk)) (K_walk : PySem.W.keepIn K (.ref f_walk) = true) : FnOk P w K mg base CX0 6 f_after d_after ["rule_map", "number", "steps"] (LSp0 C sp_after 3) :=
  fn_ok F sc_after sat_after (by decide) fun cdv A outer s H E Z hcc hz hr => have hK : Z.cc.K = K := by rw [hcc]; exact cK
  (ds_one (ds_ret (de_ix hK (de_callN hcc hz ok_walk (hr.mono (by decide)) M_walk K_walk B_walk (dag_ro (de_loc 0) (dag_ro (de_loc 1) (dag_ro (de_loc 2) dag_nil)))) (de_neg de_int))))
theorem sc_word_of : FnScope ["rule_map", "number", "steps", "modulus", "place"] ["rule_map", "number", "steps"] (defScope s_word_of) := ⟨rfl, rfl, rfl, by decide +kernel, rfl, by decide +kernel, by decide +kernel⟩
theorem ok_word_of {f_word_of : Addr} {d_word_of : FuncData} (F : Fun K "word_of" "word_of" s_word_of f_word_of d_word_of) (cK : C.cc.K = K) (ck_Map : ClsOk K (C.cc.cl 0)) (fl_Map : (C.cc.cl 0).2 = (["base", "rows"] : List Str)) {f_walk : Addr} {d_walk : FuncData} (ok_walk : FnOk P w K mg base CX0 5 f_walk d_walk ["rule_map", "number", "steps"] (LSp0 C sp_walk 3)) (B_walk : Binds K d_walk ["rule_map", "number", "steps"] []) (M_walk : mg "walk" = some (.ref f_walk)) (K_walk : PySem.W.keepIn K (.ref f_walk) = true) {f_remainder_by : Addr} {d_remainder_by : FuncData} (ok_remainder_by : FnOk P w K mg base CX0 2 f_remainder_by d_remainder_by ["modulus", "number"] (LSp0 C sp_remainder_by 2)) (B_remainder_by : Binds K d_remainder_by ["modulus", "number"] []) (M_remainder_by : mg "remainder_by" = some (.ref f_remainder_by)) (K_remainder_by : PySem.W.keepIn K (.ref f_remainder_by) = true) {f_Map_modulus : Addr} {d_Map_modulus : FuncData} (ok_Map_modulus : FnOk P w K mg base CX0 1 f_Map_modulus d_Map_modulus ["self"] (LSp0 C sp_Map_modulus 1)) (B_Map_modulus : Binds K d_Map_modulus ["self"] []) {p_Map_modulus : Addr} (pr_Map_modulus : PropOf K (C.cc.cl 0).1 "modulus" p_Map_modulus f_Map_modulus) : FnOk P w K mg base CX0 6 f_word_of d_word_of ["rule_map", "number", "steps"] (LSp0 C sp_word_of 3) :=
  fn_ok F sc_word_of sat_word_of (by decide) fun cdv A outer s H E Z hcc hz hr => have hK : Z.cc.K = K := by rw [hcc]; exact cK
  (ds_cons (ds_frz (i := 3) (ds_set (i := 3) sc_word_of.nd (de_prop hcc hz (by rw [hcc]; exact ck_Map) (by rw [hcc]; exact pr_Map_modulus) ok_Map_modulus (hr.mono (by decide)) B_Map_modulus (de_loc 0))))
  (ds_one (ds_ret (de_comp (own := [("place", 4)]) rfl sc_word_of.nd (di_lst hK (de_slice hK (de_callN hcc hz ok_walk (hr.mono (by decide)) M_walk K_walk B_walk (dag_ro (de_loc 0) (dag_ro (de_loc 1) (dag_ro (de_loc 2) dag_nil)))) dp_none (dp_some (de_neg de_int)))) (blkOk_by (own := [("place", 4)]) (N := ["rule_map", "number", "steps", "modulus", "place"]) (sc := defScope s_word_of) (by decide +kernel)) (fun _ _ _ _ _ => (dgc_name (i := 4) sc_word_of.nd)) (fun _ _ _ _ _ _ _ => dts_nil) (fun _ _ _ _ _ _ _ => (de_callN hcc rfl ok_remainder_by (hr.mono (by decide)) M_remainder_by K_remainder_by B_remainder_by (dag_ro (de_loc 3) (dag_ro (de_loc 4) dag_nil))))))))
theorem sc_word_round : FnScope ["rule_map", "fraction", "length"] ["rule_map", "fraction", "length"] (defScope s_word_round) := ⟨rfl, rfl, rfl, by decide +kernel, rfl, by decide +kernel, by decide +kernel⟩
theorem ok_word_round {f_word_round : Addr} {d_word_round : FuncData} (F : Fun K "word_round" "word_round" s_word_round f_word_round d_word_round) (cK : C.cc.K = K) {f_word_of : Addr} {d_word_of : FuncData} (ok_word_of : FnOk P w K mg base CX0 6 f_word_of d_word_of ["rule_map", "number", "steps"] (LSp0 C sp_word_of 3)) (B_word_of : Binds K d_word_of ["rule_map", "number", "steps"] []) (M_word_of : mg "word_of" = some (.ref f_word_of)) (K_word_of : PySem.W.keepIn K (.ref f_word_of) = true) {f_walk : Addr} {d_walk : FuncData} (ok_walk : FnOk P w K mg base CX0 5 f_walk d_walk ["rule_map", "number", "steps"] (LSp0 C sp_walk 3)) (B_walk : Binds K d_walk ["rule_map", "number", "steps"] []) (M_walk : mg "walk" = some (.ref f_walk)) (K_walk : PySem.W.keepIn K (.ref f_walk) = true) {f_check_number : Addr} {d_check_number : FuncData} (ok_check_number : FnOk P w K mg base CX0 1 f_check_number d_check_number ["number", "least"] (LSp0 C sp_check_number 2)) (B_check_number : Binds K d_check_number ["number", "least"] []) (M_check_number : mg "check_number" = some (.ref f_check_number)) (K_check_number : PySem.W.keepIn K (.ref f_check_number) = true) {f_check_fraction : Addr} {d_check_fraction : FuncData} (ok_check_fraction : FnOk P w K mg base CX0 4 f_check_fraction d_check_fraction ["rule_map", "number"] (LSp0 C sp_check_fraction 2)) (B_check_fraction : Binds K d_check_fraction ["rule_map", "number"] []) (M_check_fraction : mg "check_fraction" = some (.ref f_check_fraction)) (K_check_fraction : PySem.W.keepIn K (.ref f_check_fraction) = true) : FnOk P w K mg base CX0 7 f_word_round d_word_round ["rule_map", "fraction", "length"] (LSp0 C sp_word_round 3) :=
  fn_ok F sc_word_round sat_word_round (by decide) fun cdv A outer s H E Z hcc hz hr => have hK : Z.cc.K = K := by rw [hcc]; exact cK
  (ds_cons (ds_expr (de_callN hcc hz ok_check_fraction (hr.mono (by decide)) M_check_fraction K_check_fraction B_check_fraction (dag_ro (de_loc 0) (dag_ro (de_loc 1) dag_nil))))
  (ds_cons (ds_expr (de_callN hcc hz ok_check_number (hr.mono (by decide)) M_check_number K_check_number B_check_number (dag_ro (de_loc 2) (dag_ro de_int dag_nil))))
  (ds_cons (ds_if (dt_cmp (op_neD hr.units) (ops_ne hK) (de_ix hK (de_callN hcc hz ok_walk (hr.mono (by decide)) M_walk K_walk B_walk (dag_ro (de_loc 0) (dag_ro (de_loc 1) (dag_ro (de_loc 2) dag_nil)))) (de_neg de_int)) (de_loc 1) (nomark _)) (ds_one (ds_ret de_non)) ds_nil)
  (ds_one (ds_ret (de_callN hcc hz ok_word_of (hr.mono (by decide)) M_word_of K_word_of B_word_of (dag_ro (de_loc 0) (dag_ro (de_loc 1) (dag_ro (de_loc 2) dag_nil)))))))))
theorem sc_judge_ring : FnScope ["rule_map", "told", "modulus", "rules", "k", "entry"] ["rule_map", "told"] (defScope s_judge_ring) := ⟨rfl, rfl, rfl, by decide +kernel, rfl, by decide +kernel, by decide +kernel⟩
theorem ok_judge_ring {f_judge_ring : Addr} {d_judge_ring : FuncData} (F : Fun K "judge_ring" "judge_ring" s_judge_ring f_judge_ring d_judge_ring) (cK : C.cc.K = K) (n_all : mg "all" = none) (n_len : mg "len" = none) (n_range : mg "range" = none) (n_set : mg "set" = none) (ck_Map : ClsOk K (C.cc.cl 0)) (fl_Map : (C.cc.cl 0).2 = (["base", "rows"] : List Str)) {f_stepped : Addr} {d_stepped : FuncData} (ok_stepped : FnOk P w K mg base CX0 3 f_stepped d_stepped ["modulus", "rules", "number"] (LSp0 C sp_stepped 3)) (B_stepped : Binds K d_stepped ["modulus", "rules", "number"] []) (M_stepped : mg "stepped" = some (.ref f_stepped)) (K_stepped : PySem.W.keepIn K (.ref f_stepped) = true) {f_Map_rules : Addr} {d_Map_rules : FuncData} (ok_Map_rules : FnOk P w K mg base CX0 1 f_Map_rules d_Map_rules ["self"] (LSp0 C sp_Map_rules 1)) (B_Map_rules : Binds K d_Map_rules ["self"] []) {p_Map_rules : Addr} (pr_Map_rules : PropOf K (C.cc.cl 0).1 "rules" p_Map_rules f_Map_rules) {f_is_good : Addr} {d_is_good : FuncData} (ok_is_good : FnOk P w K mg base CX0 3 f_is_good d_is_good ["modulus", "value"] (LSp0 C sp_is_good 2)) (B_is_good : Binds K d_is_good ["modulus", "value"] []) (M_is_good : mg "is_good" = some (.ref f_is_good)) (K_is_good : PySem.W.keepIn K (.ref f_is_good) = true) {f_Map_modulus : Addr} {d_Map_modulus : FuncData} (ok_Map_modulus : FnOk P w K mg base CX0 1 f_Map_modulus d_Map_modulus ["self"] (LSp0 C sp_Map_modulus 1)) (B_Map_modulus : Binds K d_Map_modulus ["self"] []) {p_Map_modulus : Addr} (pr_Map_modulus : PropOf K (C.cc.cl 0).1 "modulus" p_Map_modulus f_Map_modulus) : FnOk P w K mg base CX0 4 f_judge_ring d_judge_ring ["rule_map", "told"] (LSp0 C sp_judge_ring 2) :=
  fn_ok F sc_judge_ring sat_judge_ring (by decide) fun cdv A outer s H E Z hcc hz hr => have hK : Z.cc.K = K := by rw [hcc]; exact cK
  (ds_cons (ds_frz (i := 2) (ds_set (i := 2) sc_judge_ring.nd (de_prop hcc hz (by rw [hcc]; exact ck_Map) (by rw [hcc]; exact pr_Map_modulus) ok_Map_modulus (hr.mono (by decide)) B_Map_modulus (de_loc 0))))
  (ds_cons (ds_if (PW.pt (dw_or (dt_cmp (op_eqD hr.units) (ops_eq hK) (de_b1 call_lenA (ops_len hK) n_len (de_loc 1)) de_int (nomark _)) (dw_or1 (dt_not (dt_val (de_b1 (cr_all rfl) (ops_all hK) n_all (de_comp (own := [("entry", 5)]) rfl sc_judge_ring.nd (di_lst hK (de_loc 1)) (blkOk_by (own := [("entry", 5)]) (N := ["rule_map", "told", "modulus", "rules", "k", "entry"]) (sc := defScope s_judge_ring) (by decide +kernel)) (fun _ _ _ _ _ => (dgc_name (i := 5) sc_judge_ring.nd)) (fun _ _ _ _ _ _ _ => dts_nil) (fun _ _ _ _ _ _ _ => (de_callN hcc rfl ok_is_good (hr.mono (by decide)) M_is_good K_is_good B_is_good (dag_ro (de_loc 2) (dag_ro (de_loc 5) dag_nil))))))))))) (ds_one (ds_ret de_bl)) ds_nil)
  (ds_cons (ds_if (dt_cmp op_lt ops_lt (de_lenSetT rfl (room6 hr) hK n_len n_set (de_loc 1)) (de_b1 call_lenA (ops_len hK) n_len (de_loc 1)) (nomark _)) (ds_one (ds_ret de_bl)) ds_nil)
  (ds_cons (ds_frz (i := 3) (ds_set (i := 3) sc_judge_ring.nd (de_prop hcc hz (by rw [hcc]; exact ck_Map) (by rw [hcc]; exact pr_Map_rules) ok_Map_rules (hr.mono (by decide)) B_Map_rules (de_loc 0))))
  (ds_cons (ds_for PassesOwn.never rfl (di_r1 rfl n_range (da_cons (de_b1 call_lenA (ops_len hK) n_len (de_loc 1)) da_nil)) (dg_name (i := 4) sc_judge_ring.nd) (ds_one (ds_if (dt_cmp (op_neD hr.units) (ops_ne hK) (de_callN hcc hz ok_stepped (hr.mono (by decide)) M_stepped K_stepped B_stepped (dag_ro (de_loc 2) (dag_ro (de_loc 3) (dag_ro (de_ix hK (de_loc 1) (de_bin op_sub ops_sub (de_loc 4) de_int)) dag_nil)))) (de_ix hK (de_loc 1) (de_loc 4)) (nomark _)) (ds_one (ds_ret de_bl)) ds_nil)))
  (ds_one (ds_ret de_bl)))))))
theorem sc_law_take : FnScope ["source", "many", "taken", "mixed"] ["source", "many"] (defScope s_law_take) := ⟨rfl, rfl, rfl, by decide +kernel, rfl, by decide +kernel, by decide +kernel⟩
theorem ok_law_take {f_law_take : Addr} {d_law_take : FuncData} (F : Fun K "_law_take" "_law_take" s_law_take f_law_take d_law_take) (cK : C.cc.K = K) (n_int : mg "int" = none) : FnOk P w K mg base CX0 1 f_law_take d_law_take ["source", "many"] (LSp0 C sp_law_take 2) :=
  fn_ok F sc_law_take sat_law_take (by decide) fun cdv A outer s H E Z hcc hz hr => have hK : Z.cc.K = K := by rw [hcc]; exact cK
  (ds_cons (ds_if (dt_cmp op_gt ops_gt (de_ix hK (de_loc 0) de_int) de_int (nomark _)) (ds_cons (ds_frz (i := 2) (ds_set (i := 2) sc_law_take.nd (de_bin op_mod ops_mod (de_t1 call_int1 ops_int1 n_int (de_ix hK (de_loc 0) de_int)) (de_loc 1))))
  (ds_cons (ds_sub (j := 0) (de_bin op_fdvX ops_fdv (de_ix hK (de_loc 0) de_int) (de_loc 1)) de_int)
  (ds_one (ds_ret (de_loc 2))))) ds_nil)
  (ds_cons (ds_sub (j := 0) (de_bin op_addA (ops_add hK) (de_ix hK (de_loc 0) de_int) de_int) de_int)
  (ds_cons (ds_frz (i := 3) (ds_set (i := 3) sc_law_take.nd (de_bin op_mod ops_mod (de_t1 call_int1 ops_int1 n_int (de_bin op_addA (ops_add hK) (de_ix hK (de_loc 0) de_int) (de_bin op_mulX ops_mul de_int (de_ix hK (de_loc 0) de_int)))) de_int)))
  (ds_cons (ds_frz (i := 3) (ds_set (i := 3) sc_law_take.nd (de_bin op_mod ops_mod (de_t1 call_int1 ops_int1 n_int (de_bin op_addA (ops_add hK) (de_bin op_addA (ops_add hK) (de_bin op_mulX ops_mul (de_loc 3) (de_loc 3)) (de_bin op_mulX ops_mul de_int (de_ix hK (de_loc 0) de_int))) de_int)) de_int)))
  (ds_cons (ds_frz (i := 3) (ds_set (i := 3) sc_law_take.nd (de_bin op_mod ops_mod (de_t1 call_int1 ops_int1 n_int (de_bin op_addA (ops_add hK) (de_bin op_mulX ops_mul (de_bin op_mulX ops_mul (de_loc 3) (de_loc 3)) (de_loc 3)) (de_ix hK (de_loc 0) de_int))) de_int)))
  (ds_one (ds_ret (de_bin op_mod ops_mod (de_t1 call_int1 ops_int1 n_int (de_bin op_fdvX ops_fdv (de_loc 3) de_int)) (de_loc 1)))))))))
theorem sc_law_is_round : FnScope ["source", "chart", "path", "ring", "length", "spot", "place"] ["source", "chart", "path", "ring", "length"] (defScope s_law_is_round) := ⟨rfl, rfl, rfl, by decide +kernel, rfl, by decide +kernel, by decide +kernel⟩
theorem ok_law_is_round {f_law_is_round : Addr} {d_law_is_round : FuncData} (F : Fun K "_law_is_round" "_law_is_round" s_law_is_round f_law_is_round d_law_is_round) (cK : C.cc.K = K) (n_all : mg "all" = none) (n_int : mg "int" = none) (n_len : mg "len" = none) {f_after : Addr} {d_after : FuncData} (ok_after : FnOk P w K mg base CX0 6 f_after d_after ["rule_map", "number", "steps"] (LSp0 C sp_after 3)) (B_after : Binds K d_after ["rule_map", "number", "steps"] []) (M_after : mg "after" = some (.ref f_after)) (K_after : PySem.W.keepIn K (.ref f_after) = true) {f_word_round : Addr} {d_word_round : FuncData} (ok_word_round : FnOk P w K mg base CX0 7 f_word_round d_word_round ["rule_map", "fraction", "length"] (LSp0 C sp_word_round 3)) (B_word_round : Binds K d_word_round ["rule_map", "fraction", "length"] []) (M_word_round : mg "word_round" = some (.ref f_word_round)) (K_word_round : PySem.W.keepIn K (.ref f_word_round) = true) {f_judge_ring : Addr} {d_judge_ring : FuncData} (ok_judge_ring : FnOk P w K mg base CX0 4 f_judge_ring d_judge_ring ["rule_map", "told"] (LSp0 C sp_judge_ring 2)) (B_judge_ring : Binds K d_judge_ring ["rule_map", "told"] []) (M_judge_ring : mg "judge_ring" = some (.ref f_judge_ring)) (K_judge_ring : PySem.W.keepIn K (.ref f_judge_ring) = true) {f_law_take : Addr} {d_law_take : FuncData} (ok_law_take : FnOk P w K mg base CX0 1 f_law_take d_law_take ["source", "many"] (LSp0 C sp_law_take 2)) (B_law_take : Binds K d_law_take ["source", "many"] []) (M_law_take : mg "_law_take" = some (.ref f_law_take)) (K_law_take : PySem.W.keepIn K (.ref f_law_take) = true) : FnOk P w K mg base CX0 8 f_law_is_round d_law_is_round ["source", "chart", "path", "ring", "length"] (LSp0 C sp_law_is_round 5) :=
  fn_ok F sc_law_is_round sat_law_is_round (by decide) fun cdv A outer s H E Z hcc hz hr => have hK : Z.cc.K = K := by rw [hcc]; exact cK
  (ds_cons (ds_frz (i := 5) (ds_set (i := 5) sc_law_is_round.nd (de_callN hcc hz ok_law_take (hr.mono (by decide)) M_law_take K_law_take B_law_take (dag_mu (i := 0) (dag_ro (de_b1 call_lenA (ops_len hK) n_len (de_loc 3)) dag_nil)))))
  (ds_cons (ds_if (dt_notB (de_callN hcc hz ok_judge_ring (hr.mono (by decide)) M_judge_ring K_judge_ring B_judge_ring (dag_ro (de_loc 1) (dag_ro (de_bin op_addA (ops_add hK) (de_slice hK (de_loc 3) (dp_some (de_loc 5)) dp_none) (de_slice hK (de_loc 3) dp_none (dp_some (de_loc 5)))) dag_nil)))) (ds_one (ds_ret de_bl)) ds_nil)
  (ds_cons (ds_if (dt_cmp (op_neD hr.units) (ops_ne hK) (de_callN hcc hz ok_word_round (hr.mono (by decide)) M_word_round K_word_round B_word_round (dag_ro (de_loc 1) (dag_ro (de_ix hK (de_loc 3) (de_loc 5)) (dag_ro (de_b1 call_lenA (ops_len hK) n_len (de_loc 3)) dag_nil)))) (de_bin op_addA (ops_add hK) (de_slice hK (de_loc 2) (dp_some (de_loc 5)) dp_none) (de_slice hK (de_loc 2) dp_none (dp_some (de_loc 5)))) (nomark _)) (ds_one (ds_ret de_bl)) ds_nil)
  (ds_cons (ds_if (dt_cmp op_gt ops_gt (de_bin op_mod ops_mod (de_t1 call_int1 ops_int1 n_int (de_loc 4)) (de_b1 call_lenA (ops_len hK) n_len (de_loc 3))) de_int (nomark _)) (ds_one (ds_ret de_bl)) ds_nil)
  (ds_cons (ds_if (dt_cmp (op_neD hr.units) (ops_ne hK) (de_callN hcc hz ok_word_round (hr.mono (by decide)) M_word_round K_word_round B_word_round (dag_ro (de_loc 1) (dag_ro (de_ix hK (de_loc 3) de_int) (dag_ro (de_loc 4) dag_nil)))) (de_bin op_repS (ops_rep hK) (de_loc 2) (de_bin op_fdvX ops_fdv (de_loc 4) (de_b1 call_lenA (ops_len hK) n_len (de_loc 2)))) (nomark _)) (ds_one (ds_ret de_bl)) ds_nil)
  (ds_one (ds_ret (de_b1 (cr_all rfl) (ops_all hK) n_all (de_comp (own := [("place", 6)]) rfl sc_law_is_round.nd (di_lst hK (de_loc 3)) (blkOk_by (own := [("place", 6)]) (N := ["source", "chart", "path", "ring", "length", "spot", "place"]) (sc := defScope s_law_is_round) (by decide +kernel)) (fun _ _ _ _ _ => (dgc_name (i := 6) sc_law_is_round.nd)) (fun _ _ _ _ _ _ _ => dts_nil) (fun _ _ _ _ _ _ _ => (de_cmp (op_eqD hr.units) (ops_eq hK) (de_callN hcc rfl ok_after (hr.mono (by decide)) M_after K_after B_after (dag_ro (de_loc 1) (dag_ro (de_loc 6) (dag_ro (de_loc 4) dag_nil)))) (de_loc 6) (nomark _))))))))))))
theorem sc_law_right : FnScope ["source", "chart", "base", "length", "found", "whole", "total", "places", "count", "some", "path", "ring", "place", "tops", "spot"] ["source", "chart", "base", "length"] (defScope s_law_right) := ⟨rfl, rfl, rfl, by decide +kernel, rfl, by decide +kernel, by decide +kernel⟩
theorem ok_law_right {f_law_right : Addr} {d_law_right : FuncData} (F : Fun K "_law_right" "_law_right" s_law_right f_law_right d_law_right) (cK : C.cc.K = K) (n_int : mg "int" = none) (n_len : mg "len" = none) (n_list : mg "list" = none) (n_min : mg "min" = none) (n_range : mg "range" = none) (n_sorted : mg "sorted" = none) {f_whole_rings : Addr} {d_whole_rings : FuncData} (ok_whole_rings : FnOk P w K mg base CX0 5 f_whole_rings d_whole_rings ["rule_map", "most"] (LSp0 C sp_whole_rings 2)) (B_whole_rings : Binds K d_whole_rings ["rule_map", "most"] []) (M_whole_rings : mg "whole_rings" = some (.ref f_whole_rings)) (K_whole_rings : PySem.W.keepIn K (.ref f_whole_rings) = true) {f_law_power : Addr} {d_law_power : FuncData} (ok_law_power : FnOk P w K mg base CX0 1 f_law_power d_law_power ["base", "count"] (LSp0 C sp_law_power 2)) (B_law_power : Binds K d_law_power ["base", "count"] []) (M_law_power : mg "_law_power" = some (.ref f_law_power)) (K_law_power : PySem.W.keepIn K (.ref f_law_power) = true) {f_plain_words : Addr} {d_plain_words : FuncData} (ok_plain_words : FnOk P w K mg base CX0 2 f_plain_words d_plain_words ["modulus", "length"] (LSp0 C sp_plain_words 2)) (B_plain_words : Binds K d_plain_words ["modulus", "length"] []) (M_plain_words : mg "plain_words" = some (.ref f_plain_words)) (K_plain_words : PySem.W.keepIn K (.ref f_plain_words) = true) {f_is_whole_ring : Addr} {d_is_whole_ring : FuncData} (ok_is_whole_ring : FnOk P w K mg base CX0 4 f_is_whole_ring d_is_whole_ring ["rule_map", "word"] (LSp0 C sp_is_whole_ring 2)) (B_is_whole_ring : Binds K d_is_whole_ring ["rule_map", "word"] []) (M_is_whole_ring : mg "is_whole_ring" = some (.ref f_is_whole_ring)) (K_is_whole_ring : PySem.W.keepIn K (.ref f_is_whole_ring) = true) {f_law_is_led_to : Addr} {d_law_is_led_to : FuncData} (ok_law_is_led_to : FnOk P w K mg base CX0 5 f_law_is_led_to d_law_is_led_to ["chart", "base", "tops"] (LSp0 C sp_law_is_led_to 3)) (B_law_is_led_to : Binds K d_law_is_led_to ["chart", "base", "tops"] []) (M_law_is_led_to : mg "_law_is_led_to" = some (.ref f_law_is_led_to)) (K_law_is_led_to : PySem.W.keepIn K (.ref f_law_is_led_to) = true) {f_law_is_round : Addr} {d_law_is_round : FuncData} (ok_law_is_round : FnOk P w K mg base CX0 8 f_law_is_round d_law_is_round ["source", "chart", "path", "ring", "length"] (LSp0 C sp_law_is_round 5)) (B_law_is_round : Binds K d_law_is_round ["source", "chart", "path", "ring", "length"] []) (M_law_is_round : mg "_law_is_round" = some (.ref f_law_is_round)) (K_law_is_round : PySem.W.keepIn K (.ref f_law_is_round) = true) {f_ring_of : Addr} {d_ring_of : FuncData} (ok_ring_of : FnOk P w K mg base CX0 4 f_ring_of d_ring_of ["rule_map", "word"] (LSp0 C sp_ring_of 2)) (B_ring_of : Binds K d_ring_of ["rule_map", "word"] []) (M_ring_of : mg "ring_of" = some (.ref f_ring_of)) (K_ring_of : PySem.W.keepIn K (.ref f_ring_of) = true) : FnOk P w K mg base CX0 9 f_law_right d_law_right ["source", "chart", "base", "length"] (LSp0 C sp_law_right 4) :=
  fn_ok F sc_law_right sat_law_right (by decide) fun cdv A outer s H E Z hcc hz hr => have hK : Z.cc.K = K := by rw [hcc]; exact cK
  (ds_cons (ds_set (i := 4) sc_law_right.nd de_dnewT)
  (ds_cons (ds_set (i := 5) sc_law_right.nd (de_lst da_nil))
  (ds_cons (ds_set (i := 6) sc_law_right.nd de_int)
  (ds_cons (ds_set (i := 7) sc_law_right.nd de_int)
  (ds_cons (ds_for PassesOwn.never rfl (di_r2 rfl n_range (da_cons de_int (da_cons (de_bin op_addA (ops_add hK) (de_loc 3) de_int) da_nil))) (dg_name (i := 8) sc_law_right.nd) (ds_cons (ds_set (i := 9) sc_law_right.nd (de_lst da_nil))
  (ds_cons (ds_for PassesOwn.never rfl (di_lst hK (de_callN hcc hz ok_plain_words (hr.mono (by decide)) M_plain_words K_plain_words B_plain_words (dag_ro (de_loc 2) (dag_ro (de_loc 8) dag_nil)))) (dg_name (i := 10) sc_law_right.nd) (ds_cons (ds_frz (i := 11) (ds_set (i := 11) sc_law_right.nd (de_callN hcc hz ok_ring_of (hr.mono (by decide)) M_ring_of K_ring_of B_ring_of (dag_ro (de_loc 1) (dag_ro (de_t1 call_list_of (ops_list hK) n_list (de_loc 10)) dag_nil)))))
  (ds_cons (ds_if (PW.pt (dw_or (dt_cmp (op_neD hr.units) (ops_ne hK) (de_b1 call_lenA (ops_len hK) n_len (de_loc 11)) (de_loc 8) (nomark _)) (dw_or1 (dt_not (dt_val (de_callN hcc hz ok_law_is_round (hr.mono (by decide)) M_law_is_round K_law_is_round B_law_is_round (dag_mu (i := 0) (dag_ro (de_loc 1) (dag_ro (de_loc 10) (dag_ro (de_loc 11) (dag_ro (de_loc 3) dag_nil))))))))))) (ds_one (ds_ret de_bl)) ds_nil)
  (ds_cons (ds_frz (i := 7) (ds_set (i := 7) sc_law_right.nd (de_bin op_addA (ops_add hK) (de_loc 7) (de_loc 8))))
  (ds_cons (ds_for PassesOwn.never rfl (di_lst hK (de_loc 11)) (dg_name (i := 12) sc_law_right.nd) (ds_one (ds_dset (j := 4) (room1 hr) de_bl (de_loc 12))))
  (ds_cons (ds_if (dt_cmp (op_eqD hr.units) (ops_eq hK) (de_bin op_mod ops_mod (de_t1 call_int1 ops_int1 n_int (de_loc 3)) (de_loc 8)) de_int (nomark _)) (ds_one (ds_frz (i := 6) (ds_set (i := 6) sc_law_right.nd (de_bin op_addA (ops_add hK) (de_loc 6) (de_loc 8))))) ds_nil)
  (ds_one (ds_if (dt_val (de_callN hcc hz ok_is_whole_ring (hr.mono (by decide)) M_is_whole_ring K_is_whole_ring B_is_whole_ring (dag_ro (de_loc 1) (dag_ro (de_loc 10) dag_nil)))) (ds_cons (ds_frz (i := 13) (ds_setLc (i := 13) (own := [("place", 12)]) rfl sc_law_right.nd (di_lst hK (de_loc 11)) (blkOk_by (own := [("place", 12)]) (N := ["source", "chart", "base", "length", "found", "whole", "total", "places", "count", "some", "path", "ring", "place", "tops", "spot"]) (sc := defScope s_law_right) (by decide +kernel)) (fun _ _ _ _ _ => (dgc_name (i := 12) sc_law_right.nd)) (fun _ _ _ _ _ _ _ => dts_nil) (fun _ _ _ _ _ _ _ => (de_ix hK (de_loc 12) de_int)) (sw_true rfl rfl rfl (by decide +kernel))))
  (ds_cons (ds_frz (i := 14) (ds_set (i := 14) sc_law_right.nd (de_idx (room65 hr) hK (de_loc 13) (de_b1 (cr_min rfl) (ops_min1 hK) n_min (de_loc 13)))))
  (ds_cons (ds_if (dt_not (dt_val (de_callN hcc hz ok_law_is_led_to (hr.mono (by decide)) M_law_is_led_to K_law_is_led_to B_law_is_led_to (dag_ro (de_loc 1) (dag_ro (de_loc 2) (dag_ro (de_loc 13) dag_nil)))))) (ds_one (ds_ret de_bl)) ds_nil)
  (ds_one (ds_app (j := 9) (de_bin op_addA (ops_add hK) (de_slice hK (de_loc 13) (dp_some (de_loc 14)) dp_none) (de_slice hK (de_loc 13) dp_none (dp_some (de_loc 14))))))))) ds_nil))))))))
  (ds_one (ds_ext (j := 5) (de_b1 (cr_sortedD (room6 hr)) (ops_sortD hK) n_sorted (de_loc 9)))))))
  (ds_cons (ds_if (PW.pt (dw_or (dt_cmp (op_neD hr.units) (ops_ne hK) (de_b1 call_lenDT ops_lenDT n_len (de_loc 4)) (de_loc 7) (nomark _)) (dw_or1 (dt_cmp (op_neD hr.units) (ops_ne hK) (de_loc 6) (de_callN hcc hz ok_law_power (hr.mono (by decide)) M_law_power K_law_power B_law_power (dag_ro (de_loc 2) (dag_ro (de_loc 3) dag_nil))) (nomark _))))) (ds_one (ds_ret de_bl)) ds_nil)
  (ds_one (ds_ret (de_cmp (op_eqD hr.units) (ops_eq hK) (de_callN hcc hz ok_whole_rings (hr.mono (by decide)) M_whole_rings K_whole_rings B_whole_rings (dag_ro (de_loc 1) (dag_ro (de_loc 3) dag_nil))) (de_loc 5) (nomark _))))))))))
theorem sc_law_steps : FnScope ["source", "base", "limit", "most", "scale", "turn"] ["source", "base"] (defScope s_law_steps) := ⟨rfl, rfl, rfl, by decide +kernel, rfl, by decide +kernel, by decide +kernel⟩
theorem ok_law_steps {f_law_steps : Addr} {d_law_steps : FuncData} (F : Fun K "_law_steps" "_law_steps" s_law_steps f_law_steps d_law_steps) (cK : C.cc.K = K) (n_int : mg "int" = none) (n_range : mg "range" = none) {f_law_take : Addr} {d_law_take : FuncData} (ok_law_take : FnOk P w K mg base CX0 1 f_law_take d_law_take ["source", "many"] (LSp0 C sp_law_take 2)) (B_law_take : Binds K d_law_take ["source", "many"] []) (M_law_take : mg "_law_take" = some (.ref f_law_take)) (K_law_take : PySem.W.keepIn K (.ref f_law_take) = true) : FnOk P w K mg base CX0 2 f_law_steps d_law_steps ["source", "base"] (LSp0 C sp_law_steps 2) :=
  fn_ok F sc_law_steps sat_law_steps (by decide) fun cdv A outer s H E Z hcc hz hr => have hK : Z.cc.K = K := by rw [hcc]; exact cK
  (ds_cons (ds_frz (i := 2) (ds_set (i := 2) sc_law_steps.nd (de_ix hK (de_lst (da_lit de_int (da_lit de_int (da_lit0 da_nil)))) (de_t1 call_int1 ops_int1 n_int (de_cmp (op_eqD hr.units) (ops_eq hK) (de_callN hcc hz ok_law_take (hr.mono (by decide)) M_law_take K_law_take B_law_take (dag_mu (i := 0) (dag_ro de_int dag_nil))) de_int (nomark _))))))
  (ds_cons (ds_set (i := 3) sc_law_steps.nd de_int)
  (ds_cons (ds_set (i := 4) sc_law_steps.nd (de_loc 1))
  (ds_cons (ds_for PassesOwn.never rfl (di_r1 rfl n_range (da_cons de_int da_nil)) (dg_name (i := 5) sc_law_steps.nd) (ds_one (ds_if (dt_cmp op_le ops_le (de_loc 4) (de_loc 2) (nomark _)) (ds_cons (ds_frz (i := 3) (ds_set (i := 3) sc_law_steps.nd (de_bin op_addA (ops_add hK) (de_loc 3) de_int)))
  (ds_one (ds_frz (i := 4) (ds_set (i := 4) sc_law_steps.nd (de_bin op_mulX ops_mul (de_loc 4) (de_loc 1)))))) ds_nil)))
  (ds_one (ds_ret (de_callN hcc hz ok_law_take (hr.mono (by decide)) M_law_take K_law_take B_law_take (dag_mu (i := 0) (dag_ro (de_bin op_addA (ops_add hK) (de_loc 3) de_int) dag_nil)))))))))
theorem sc_is_rule : FnScope ["modulus", "remainder", "rule"] ["modulus", "remainder", "rule"] (defScope s_is_rule) := ⟨rfl, rfl, rfl, by decide +kernel, rfl, by decide +kernel, by decide +kernel⟩
theorem ok_is_rule {f_is_rule : Addr} {d_is_rule : FuncData} (F : Fun K "is_rule" "is_rule" s_is_rule f_is_rule d_is_rule) (cK : C.cc.K = K) {f_gcd : Addr} {d_gcd : FuncData} (ok_gcd : FnOk P w K mg base CX0 1 f_gcd d_gcd ["one", "other"] (LSp0 C sp_gcd 2)) (B_gcd : Binds K d_gcd ["one", "other"] []) (M_gcd : mg "gcd" = some (.ref f_gcd)) (K_gcd : PySem.W.keepIn K (.ref f_gcd) = true) : FnOk P w K mg base CX0 2 f_is_rule d_is_rule ["modulus", "remainder", "rule"] (LSp0 C sp_is_rule 3) :=
  fn_ok F sc_is_rule sat_is_rule (by decide) fun cdv A outer s H E Z hcc hz hr => have hK : Z.cc.K = K := by rw [hcc]; exact cK
  (ds_cons (ds_if (PW.pt (dw_or (dt_cmp op_lt ops_lt (de_ix hK (de_loc 2) de_int) de_int (nomark _)) (dw_or1 (dt_cmp (op_neD hr.units) (ops_ne hK) (de_callN hcc hz ok_gcd (hr.mono (by decide)) M_gcd K_gcd B_gcd (dag_ro (de_ix hK (de_loc 2) de_int) (dag_ro (de_loc 0) dag_nil))) de_int (nomark _))))) (ds_one (ds_ret de_bl)) ds_nil)
  (ds_one (ds_ret (de_cmp (op_eqD hr.units) (ops_eq hK) (de_bin op_mod ops_mod (de_bin op_addA (ops_add hK) (de_bin op_mulX ops_mul (de_ix hK (de_loc 2) de_int) (de_loc 1)) (de_ix hK (de_loc 2) de_int)) (de_loc 0)) de_int (nomark _)))))
theorem sc_Map_init : FnScope ["self", "modulus", "rules", "remainder", "rule"] ["self", "modulus", "rules"] (defScope s_Map_init) := ⟨rfl, rfl, rfl, by decide +kernel, rfl, by decide +kernel, by decide +kernel⟩
theorem ok_Map_init {f_Map_init : Addr} {d_Map_init : FuncData} (F : Fun K "__init__" "Map.__init__" s_Map_init f_Map_init d_Map_init) (cK : C.cc.K = K) (n_enumerate : mg "enumerate" = none) (n_len : mg "len" = none) (ck_Map : ClsOk K (C.cc.cl 0)) (fl_Map : (C.cc.cl 0).2 = (["base", "rows"] : List Str)) {f_is_rule : Addr} {d_is_rule : FuncData} (ok_is_rule : FnOk P w K mg base CX0 2 f_is_rule d_is_rule ["modulus", "remainder", "rule"] (LSp0 C sp_is_rule 3)) (B_is_rule : Binds K d_is_rule ["modulus", "remainder", "rule"] []) (M_is_rule : mg "is_rule" = some (.ref f_is_rule)) (K_is_rule : PySem.W.keepIn K (.ref f_is_rule) = true) : FnOk P w K mg base CX0 3 f_Map_init d_Map_init ["self", "modulus", "rules"] (LSp0 C sp_Map_init 3) :=
  fn_ok F sc_Map_init sat_Map_init (by decide) fun cdv A outer s H E Z hcc hz hr => have hK : Z.cc.K = K := by rw [hcc]; exact cK
  (ds_cons (ds_if (dt_cmp op_lt ops_lt (de_loc 1) de_int (nomark _)) (ds_one ds_never) ds_nil)
  (ds_cons (ds_if (dt_cmp (op_neD hr.units) (ops_ne hK) (de_b1 call_lenA (ops_len hK) n_len (de_loc 2)) (de_loc 1) (nomark _)) (ds_one ds_never) ds_nil)
  (ds_cons (ds_for PassesOwn.never rfl (di_enum hK n_enumerate (de_loc 2)) (dg_tup rfl (dgs_cons (dg_name (i := 3) sc_Map_init.nd) (dgs_cons (dg_name (i := 4) sc_Map_init.nd) dgs_nil))) (ds_one (ds_if (dt_not (dt_val (de_callN hcc hz ok_is_rule (hr.mono (by decide)) M_is_rule K_is_rule B_is_rule (dag_ro (de_loc 1) (dag_ro (de_loc 3) (dag_ro (de_loc 4) dag_nil)))))) (ds_one ds_never) ds_nil)))
  (ds_cons (ds_fld (i := 0) (by rw [hcc]; exact ck_Map) (by rw [hcc, fl_Map]; rfl) (de_loc 1))
  (ds_one (ds_fld (i := 0) (by rw [hcc]; exact ck_Map) (by rw [hcc, fl_Map]; rfl) (de_comp (own := [("rule", 4)]) rfl sc_Map_init.nd (di_lst hK (de_loc 2)) (blkOk_by (own := [("rule", 4)]) (N := ["self", "modulus", "rules", "remainder", "rule"]) (sc := defScope s_Map_init) (by decide +kernel)) (fun _ _ _ _ _ => (dgc_name (i := 4) sc_Map_init.nd)) (fun _ _ _ _ _ _ _ => dts_nil) (fun _ _ _ _ _ _ _ => (de_tup (da_cons (de_ix hK (de_loc 4) de_int) (da_cons (de_ix hK (de_loc 4) de_int) da_nil)))))))))))
theorem sc_law_closing : FnScope ["source", "base", "rules", "left", "some", "turn", "spot", "closed", "k"] ["source", "base", "rules"] (defScope s_law_closing) := ⟨rfl, rfl, rfl, by decide +kernel, rfl, by decide +kernel, by decide +kernel⟩
theorem ok_law_closing {f_law_closing : Addr} {d_law_closing : FuncData} (F : Fun K "_law_closing" "_law_closing" s_law_closing f_law_closing d_law_closing) (cK : C.cc.K = K) (n_int : mg "int" = none) (n_len : mg "len" = none) (n_list : mg "list" = none) (n_min : mg "min" = none) (n_range : mg "range" = none) {f_law_take : Addr} {d_law_take : FuncData} (ok_law_take : FnOk P w K mg base CX0 1 f_law_take d_law_take ["source", "many"] (LSp0 C sp_law_take 2)) (B_law_take : Binds K d_law_take ["source", "many"] []) (M_law_take : mg "_law_take" = some (.ref f_law_take)) (K_law_take : PySem.W.keepIn K (.ref f_law_take) = true) : FnOk P w K mg base CX0 2 f_law_closing d_law_closing ["source", "base", "rules"] (LSp0 C sp_law_closing 3) :=
  fn_ok F sc_law_closing sat_law_closing (by decide) fun cdv A outer s H E Z hcc hz hr => have hK : Z.cc.K = K := by rw [hcc]; exact cK
  (ds_cons (ds_set (i := 3) sc_law_closing.nd (de_lr1 rfl n_list n_range (de_loc 1)))
  (ds_cons (ds_set (i := 4) sc_law_closing.nd (de_lst da_nil))
  (ds_cons (ds_for PassesOwn.never rfl (di_r1 rfl n_range (da_cons (de_bin op_addA (ops_add hK) de_int (de_callN hcc hz ok_law_take (hr.mono (by decide)) M_law_take K_law_take B_law_take (dag_mu (i := 0) (dag_ro (de_b2 (call_min2 rfl) ops_min2 n_min de_int (de_loc 1)) dag_nil)))) da_nil)) (dg_name (i := 5) sc_law_closing.nd) (ds_cons (ds_frz (i := 6) (ds_set (i := 6) sc_law_closing.nd (de_popAt (j := 3) (de_callN hcc hz ok_law_take (hr.mono (by decide)) M_law_take K_law_take B_law_take (dag_mu (i := 0) (dag_ro (de_b1 call_lenA (ops_len hK) n_len (de_loc 3)) dag_nil))))))
  (ds_one (ds_app (j := 4) (de_bin op_addA (ops_add hK) (de_loc 6) (de_bin op_mulX ops_mul (de_loc 1) (de_bin op_sub ops_sub (de_callN hcc hz ok_law_take (hr.mono (by decide)) M_law_take K_law_take B_law_take (dag_mu (i := 0) (dag_ro de_int dag_nil))) de_int)))))))
  (ds_cons (ds_set (i := 7) sc_law_closing.nd (de_t1 call_list_of (ops_list hK) n_list (de_loc 2)))
  (ds_cons (ds_for PassesOwn.never rfl (di_r1 rfl n_range (da_cons (de_b1 call_lenA (ops_len hK) n_len (de_loc 4)) da_nil)) (dg_name (i := 8) sc_law_closing.nd) (ds_cons (ds_frz (i := 6) (ds_set (i := 6) sc_law_closing.nd (de_bin op_mod ops_mod (de_t1 call_int1 ops_int1 n_int (de_ix hK (de_loc 4) (de_bin op_sub ops_sub (de_loc 8) de_int))) (de_loc 1))))
  (ds_one (ds_sub (j := 7) (de_tup (da_cons (de_ix hK (de_ix hK (de_loc 2) (de_loc 6)) de_int) (da_cons (de_bin op_sub ops_sub (de_bin op_mulX ops_mul (de_loc 1) (de_ix hK (de_loc 4) (de_loc 8))) (de_bin op_mulX ops_mul (de_ix hK (de_ix hK (de_loc 2) (de_loc 6)) de_int) (de_ix hK (de_loc 4) (de_bin op_sub ops_sub (de_loc 8) de_int)))) da_nil))) (de_loc 6)))))
  (ds_one (ds_ret (de_tup (da_cons (de_loc 7) (da_cons (de_loc 4) da_nil))))))))))
theorem sc_law_gcd : FnScope ["left", "right"] ["left", "right"] (defScope s_law_gcd) := ⟨rfl, rfl, rfl, by decide +kernel, rfl, by decide +kernel, by decide +kernel⟩
theorem ok_law_gcd {f_law_gcd : Addr} {d_law_gcd : FuncData} (F : Fun K "_law_gcd" "_law_gcd" s_law_gcd f_law_gcd d_law_gcd) (cK : C.cc.K = K) (n_abs : mg "abs" = none) (n_int : mg "int" = none) : FnOk P w K mg base CX0 1 f_law_gcd d_law_gcd ["left", "right"] (LSp0 C sp_law_gcd 2) :=
  fn_ok F sc_law_gcd sat_law_gcd (by decide) fun cdv A outer s H E Z hcc hz hr => have hK : Z.cc.K = K := by rw [hcc]; exact cK
  (ds_cons (ds_frz (i := 0) (ds_set (i := 0) sc_law_gcd.nd (de_b1 call_abs ops_abs n_abs (de_loc 0))))
  (ds_cons (ds_frz (i := 1) (ds_set (i := 1) sc_law_gcd.nd (de_b1 call_abs ops_abs n_abs (de_loc 1))))
  (ds_cons (ds_while PassesOwn.never (dt_cmp op_gt ops_gt (de_loc 1) de_int (nomark _)) (ds_one (ds_par (i := 0) (j := 1) rfl sc_law_gcd.nd (da_cons (de_loc 1) (da_cons (de_bin op_mod ops_mod (de_t1 call_int1 ops_int1 n_int (de_loc 0)) (de_loc 1)) da_nil)))))
  (ds_one (ds_ret (de_loc 0))))))
theorem sc_law_rules : FnScope ["source", "base", "far", "limit", "near", "rules", "remainder", "a", "more"] ["source", "base", "far"] (defScope s_law_rules) := ⟨rfl, rfl, rfl, by decide +kernel, rfl, by decide +kernel, by decide +kernel⟩
theorem ok_law_rules {f_law_rules : Addr} {d_law_rules : FuncData} (F : Fun K "_law_rules" "_law_rules" s_law_rules f_law_rules d_law_rules) (cK : C.cc.K = K) (n_range : mg "range" = none) {f_law_take : Addr} {d_law_take : FuncData} (ok_law_take : FnOk P w K mg base CX0 1 f_law_take d_law_take ["source", "many"] (LSp0 C sp_law_take 2)) (B_law_take : Binds K d_law_take ["source", "many"] []) (M_law_take : mg "_law_take" = some (.ref f_law_take)) (K_law_take : PySem.W.keepIn K (.ref f_law_take) = true) {f_law_gcd : Addr} {d_law_gcd : FuncData} (ok_law_gcd : FnOk P w K mg base CX0 1 f_law_gcd d_law_gcd ["left", "right"] (LSp0 C sp_law_gcd 2)) (B_law_gcd : Binds K d_law_gcd ["left", "right"] []) (M_law_gcd : mg "_law_gcd" = some (.ref f_law_gcd)) (K_law_gcd : PySem.W.keepIn K (.ref f_law_gcd) = true) : FnOk P w K mg base CX0 2 f_law_rules d_law_rules ["source", "base", "far"] (LSp0 C sp_law_rules 3) :=
  fn_ok F sc_law_rules sat_law_rules (by decide) fun cdv A outer s H E Z hcc hz hr => have hK : Z.cc.K = K := by rw [hcc]; exact cK
  (ds_cons (ds_frz (i := 3) (ds_set (i := 3) sc_law_rules.nd (de_ix hK (de_lst (da_lit de_int (da_lit de_int (da_lit de_int (da_lit de_int (da_lit0 da_nil)))))) (de_callN hcc hz ok_law_take (hr.mono (by decide)) M_law_take K_law_take B_law_take (dag_mu (i := 0) (dag_ro de_int dag_nil))))))
  (ds_cons (ds_frz (i := 4) (ds_set (i := 4) sc_law_rules.nd (de_ix hK (de_lst (da_lit de_int (da_lit de_int (da_lit0 (da_cons (de_loc 2) da_nil))))) (de_callN hcc hz ok_law_take (hr.mono (by decide)) M_law_take K_law_take B_law_take (dag_mu (i := 0) (dag_ro de_int dag_nil))))))
  (ds_cons (ds_set (i := 5) sc_law_rules.nd (de_lst da_nil))
  (ds_cons (ds_for PassesOwn.never rfl (di_r1 rfl n_range (da_cons (de_loc 1) da_nil)) (dg_name (i := 6) sc_law_rules.nd) (ds_cons (ds_frz (i := 7) (ds_set (i := 7) sc_law_rules.nd (de_bin op_addA (ops_add hK) de_int (de_callN hcc hz ok_law_take (hr.mono (by decide)) M_law_take K_law_take B_law_take (dag_mu (i := 0) (dag_ro (de_loc 3) dag_nil))))))
  (ds_cons (ds_for PassesOwn.never rfl (di_r1 rfl n_range (da_cons de_int da_nil)) (dg_name (i := 8) sc_law_rules.nd) (ds_one (ds_if (dt_cmp op_gt ops_gt (de_callN hcc hz ok_law_gcd (hr.mono (by decide)) M_law_gcd K_law_gcd B_law_gcd (dag_ro (de_loc 7) (dag_ro (de_loc 1) dag_nil))) de_int (nomark _)) (ds_one (ds_frz (i := 7) (ds_set (i := 7) sc_law_rules.nd (de_bin op_sub ops_sub (de_loc 7) de_int)))) ds_nil)))
  (ds_one (ds_app (j := 5) (de_tup (da_cons (de_loc 7) (da_cons (de_bin op_sub ops_sub (de_bin op_mulX ops_mul (de_loc 1) (de_bin op_addA (ops_add hK) (de_bin op_sub ops_sub (de_callN hcc hz ok_law_take (hr.mono (by decide)) M_law_take K_law_take B_law_take (dag_mu (i := 0) (dag_ro (de_bin op_sub ops_sub (de_bin op_mulX ops_mul de_int (de_loc 4)) de_int) dag_nil))) (de_loc 4)) de_int)) (de_bin op_mulX ops_mul (de_loc 7) (de_loc 6))) da_nil))))))))
  (ds_one (ds_ret (de_loc 5)))))))
theorem sc_law_source : FnScope ["script", "k", "cell"] ["script", "k"] (defScope s_law_source) := ⟨rfl, rfl, rfl, by decide +kernel, rfl, by decide +kernel, by decide +kernel⟩
theorem ok_law_source {f_law_source : Addr} {d_law_source : FuncData} (F : Fun K "_law_source" "_law_source" s_law_source f_law_source d_law_source) (cK : C.cc.K = K) (n_abs : mg "abs" = none) (n_int : mg "int" = none) (n_len : mg "len" = none) (n_max : mg "max" = none) : FnOk P w K mg base CX0 1 f_law_source d_law_source ["script", "k"] (LSp0 C sp_law_source 2) :=
  fn_ok F sc_law_source sat_law_source (by decide) fun cdv A outer s H E Z hcc hz hr => have hK : Z.cc.K = K := by rw [hcc]; exact cK
  (ds_cons (ds_frz (i := 2) (ds_set (i := 2) sc_law_source.nd (de_b1 call_lenA (ops_len hK) n_len (de_loc 0))))
  (ds_cons (ds_if (dt_cmp op_lt ops_lt (de_loc 1) (de_b1 call_lenA (ops_len hK) n_len (de_loc 0)) (nomark _)) (ds_one (ds_frz (i := 2) (ds_set (i := 2) sc_law_source.nd (de_ix hK (de_loc 0) (de_loc 1))))) ds_nil)
  (ds_one (ds_ret (de_lst (da_cons (de_b2 (call_max2 rfl) ops_max2 n_max de_int (de_bin op_sub ops_sub (de_loc 2) (de_bin op_pow ops_pow de_int de_int))) (da_cons (de_bin op_addA (ops_add hK) (de_bin op_mod ops_mod (de_t1 call_int1 ops_int1 n_int (de_bin op_addA (ops_add hK) (de_bin op_mulX ops_mul de_int (de_b1 call_abs ops_abs n_abs (de_loc 2))) (de_t1 call_int1 ops_int1 n_int (de_cmp op_lt ops_lt (de_loc 2) de_int (nomark _))))) de_int) de_int) (da_cons de_int da_nil))))))))
theorem sc_law : FnScope ["script", "k", "source", "base", "rules", "chart"] ["script"] (defScope s_law) := ⟨rfl, rfl, rfl, by decide +kernel, rfl, by decide +kernel, by decide +kernel⟩
theorem ok_law {f_law : Addr} {d_law : FuncData} (F : Fun K "law" "law" s_law f_law d_law) (cK : C.cc.K = K) (n_len : mg "len" = none) (n_list : mg "list" = none) (n_max : mg "max" = none) (n_min : mg "min" = none) (n_range : mg "range" = none) (ck_Map : ClsOk K (C.cc.cl 0)) (fl_Map : (C.cc.cl 0).2 = (["base", "rows"] : List Str)) {f_law_right : Addr} {d_law_right : FuncData} (ok_law_right : FnOk P w K mg base CX0 9 f_law_right d_law_right ["source", "chart", "base", "length"] (LSp0 C sp_law_right 4)) (B_law_right : Binds K d_law_right ["source", "chart", "base", "length"] []) (M_law_right : mg "_law_right" = some (.ref f_law_right)) (K_law_right : PySem.W.keepIn K (.ref f_law_right) = true) {f_law_steps : Addr} {d_law_steps : FuncData} (ok_law_steps : FnOk P w K mg base CX0 2 f_law_steps d_law_steps ["source", "base"] (LSp0 C sp_law_steps 2)) (B_law_steps : Binds K d_law_steps ["source", "base"] []) (M_law_steps : mg "_law_steps" = some (.ref f_law_steps)) (K_law_steps : PySem.W.keepIn K (.ref f_law_steps) = true) {f_Map_rules : Addr} {d_Map_rules : FuncData} (ok_Map_rules : FnOk P w K mg base CX0 1 f_Map_rules d_Map_rules ["self"] (LSp0 C sp_Map_rules 1)) (B_Map_rules : Binds K d_Map_rules ["self"] []) {p_Map_rules : Addr} (pr_Map_rules : PropOf K (C.cc.cl 0).1 "rules" p_Map_rules f_Map_rules) {f_Map_init : Addr} {d_Map_init : FuncData} (ok_Map_init : FnOk P w K mg base CX0 3 f_Map_init d_Map_init ["self", "modulus", "rules"] (LSp0 C sp_Map_init 3)) (B_Map_init : Binds K d_Map_init ["self", "modulus", "rules"] []) (mk_Map : Mk K (C.cc.cl 0).1 f_Map_init) (mg_Map : mg "Map" = some (.ref (C.cc.cl 0).1)) {f_law_take : Addr} {d_law_take : FuncData} (ok_law_take : FnOk P w K mg base CX0 1 f_law_take d_law_take ["source", "many"] (LSp0 C sp_law_take 2)) (B_law_take : Binds K d_law_take ["source", "many"] []) (M_law_take : mg "_law_take" = some (.ref f_law_take)) (K_law_take : PySem.W.keepIn K (.ref f_law_take) = true) {f_law_closing : Addr} {d_law_closing : FuncData} (ok_law_closing : FnOk P w K mg base CX0 2 f_law_closing d_law_closing ["source", "base", "rules"] (LSp0 C sp_law_closing 3)) (B_law_closing : Binds K d_law_closing ["source", "base", "rules"] []) (M_law_closing : mg "_law_closing" = some (.ref f_law_closing)) (K_law_closing : PySem.W.keepIn K (.ref f_law_closing) = true) {f_law_rules : Addr} {d_law_rules : FuncData} (ok_law_rules : FnOk P w K mg base CX0 2 f_law_rules d_law_rules ["source", "base", "far"] (LSp0 C sp_law_rules 3)) (B_law_rules : Binds K d_law_rules ["source", "base", "far"] []) (M_law_rules : mg "_law_rules" = some (.ref f_law_rules)) (K_law_rules : PySem.W.keepIn K (.ref f_law_rules) = true) {f_law_source : Addr} {d_law_source : FuncData} (ok_law_source : FnOk P w K mg base CX0 1 f_law_source d_law_source ["script", "k"] (LSp0 C sp_law_source 2)) (B_law_source : Binds K d_law_source ["script", "k"] []) (M_law_source : mg "_law_source" = some (.ref f_law_source)) (K_law_source : PySem.W.keepIn K (.ref f_law_source) = true) : FnOk P w K mg base CX0 10 f_law d_law ["script"] (LSp0 C sp_law 1) :=
  fn_ok F sc_law sat_law (by decide) fun cdv A outer s H E Z hcc hz hr => have hK : Z.cc.K = K := by rw [hcc]; exact cK
  (ds_cons (ds_for PassesOwn.never rfl (di_r1 rfl n_range (da_cons (de_b2 (call_max2 rfl) ops_max2 n_max de_int (de_b2 (call_min2 rfl) ops_min2 n_min de_int (de_b1 call_lenA (ops_len hK) n_len (de_loc 0)))) da_nil)) (dg_name (i := 1) sc_law.nd) (ds_cons (ds_set (i := 2) sc_law.nd (de_callN hcc hz ok_law_source (hr.mono (by decide)) M_law_source K_law_source B_law_source (dag_ro (de_loc 0) (dag_ro (de_loc 1) dag_nil))))
  (ds_cons (ds_frz (i := 3) (ds_set (i := 3) sc_law.nd (de_bin op_addA (ops_add hK) de_int (de_callN hcc hz ok_law_take (hr.mono (by decide)) M_law_take K_law_take B_law_take (dag_mu (i := 2) (dag_ro (de_ix hK (de_lst (da_lit de_int (da_lit de_int (da_lit de_int (da_lit0 da_nil))))) (de_callN hcc hz ok_law_take (hr.mono (by decide)) M_law_take K_law_take B_law_take (dag_mu (i := 2) (dag_ro de_int dag_nil)))) dag_nil))))))
  (ds_cons (ds_frz (i := 4) (ds_set (i := 4) sc_law.nd (de_callN hcc hz ok_law_rules (hr.mono (by decide)) M_law_rules K_law_rules B_law_rules (dag_mu (i := 2) (dag_ro (de_loc 3) (dag_ro (de_bin op_pow ops_pow de_int de_int) dag_nil))))))
  (ds_cons (ds_if (dt_cmp (op_eqD hr.units) (ops_eq hK) (de_callN hcc hz ok_law_take (hr.mono (by decide)) M_law_take K_law_take B_law_take (dag_mu (i := 2) (dag_ro de_int dag_nil))) de_int (nomark _)) (ds_one (ds_frz (i := 4) (ds_set (i := 4) sc_law.nd (de_ix hK (de_callN hcc hz ok_law_closing (hr.mono (by decide)) M_law_closing K_law_closing B_law_closing (dag_mu (i := 2) (dag_ro (de_loc 3) (dag_ro (de_loc 4) dag_nil)))) de_int)))) ds_nil)
  (ds_cons (ds_frz (i := 5) (ds_set (i := 5) sc_law.nd (de_makeN hcc hz (by rw [hcc]; exact mk_Map) ok_Map_init (hr.mono (by decide)) (by rw [hcc]; exact mg_Map) B_Map_init (dag_ro (de_loc 3) (dag_ro (de_t1 call_list_of (ops_list hK) n_list (de_loc 4)) dag_nil)))))
  (ds_one (ds_if (PW.pt (dw_or (dt_not (dt_val (de_callN hcc hz ok_law_right (hr.mono (by decide)) M_law_right K_law_right B_law_right (dag_mu (i := 2) (dag_ro (de_loc 5) (dag_ro (de_loc 3) (dag_ro (de_b2 (call_max2 rfl) ops_max2 n_max de_int (de_callN hcc hz ok_law_steps (hr.mono (by decide)) M_law_steps K_law_steps B_law_steps (dag_mu (i := 2) (dag_ro (de_loc 3) dag_nil)))) dag_nil))))))) (dw_or1 (dt_cmp (op_neD hr.units) (ops_ne hK) (de_prop hcc hz (by rw [hcc]; exact ck_Map) (by rw [hcc]; exact pr_Map_rules) ok_Map_rules (hr.mono (by decide)) B_Map_rules (de_loc 5)) (de_loc 4) (nomark _))))) (ds_one (ds_ret de_bl)) ds_nil))))))))
  (ds_one (ds_ret de_bl)))
end
theorem all_mk {l : PySem.W.OpenLaw} {w : World} {K : PySem.W.Frag} {h : Heap} {mg : Str → Option Value} {fa f_is_plain_and_least f_check_number f_plain_words f_Map_modulus f_joined_form f_Map_rules f_check_word f_form_of f_check_again f_is_whole_ring f_gcd f_lowest f_ring_of f_whole_rings f_law_power f_whole_before f_numbers_before f_classes_before f_law_is_led_to f_inverse f_remainder_by f_stepped f_is_fraction f_is_good f_check_fraction f_walk f_after f_word_of f_word_round f_judge_ring f_law_take f_law_is_round f_law_right f_law_steps f_is_rule f_Map_init f_law_closing f_law_gcd f_law_rules f_law_source f_law c_Map p_Map_modulus p_Map_rules : Addr} (X : K.In h) (G : h.Ns mainGlobals mg) (hfa : mg "law" = some (.ref fa))
    {od_is_plain_and_least an_is_plain_and_least od_check_number an_check_number od_plain_words an_plain_words od_Map_modulus an_Map_modulus od_joined_form an_joined_form od_Map_rules an_Map_rules od_check_word an_check_word od_form_of an_form_of od_check_again an_check_again od_is_whole_ring an_is_whole_ring od_gcd an_gcd od_lowest an_lowest od_ring_of an_ring_of od_whole_rings an_whole_rings od_law_power an_law_power od_whole_before an_whole_before od_numbers_before an_numbers_before od_classes_before an_classes_before od_law_is_led_to an_law_is_led_to od_inverse an_inverse od_remainder_by an_remainder_by od_stepped an_stepped od_is_fraction an_is_fraction od_is_good an_is_good od_check_fraction an_check_fraction od_walk an_walk od_after an_after od_word_of an_word_of od_word_round an_word_round od_judge_ring an_judge_ring od_law_take an_law_take od_law_is_round an_law_is_round od_law_right an_law_right od_law_steps an_law_steps od_is_rule an_is_rule od_Map_init an_Map_init od_law_closing an_law_closing od_law_gcd an_law_gcd od_law_rules an_law_rules od_law_source an_law_source od_law an_law : Option Addr} {sl_is_plain_and_least sl_check_number sl_plain_words sl_Map_modulus sl_joined_form sl_Map_rules sl_check_word sl_form_of sl_check_again sl_is_whole_ring sl_gcd sl_lowest sl_ring_of sl_whole_rings sl_law_power sl_whole_before sl_numbers_before sl_classes_before sl_law_is_led_to sl_inverse sl_remainder_by sl_stepped sl_is_fraction sl_is_good sl_check_fraction sl_walk sl_after sl_word_of sl_word_round sl_judge_ring sl_law_take sl_law_is_round sl_law_right sl_law_steps sl_is_rule sl_Map_init sl_law_closing sl_law_gcd sl_law_rules sl_law_source sl_law : Array (Option Value)} {oc_is_plain_and_least kV_is_plain_and_least dc_is_plain_and_least pm_is_plain_and_least cd_is_plain_and_least ct_is_plain_and_least oc_check_number kV_check_number dc_check_number pm_check_number cd_check_number ct_check_number oc_plain_words kV_plain_words dc_plain_words pm_plain_words cd_plain_words ct_plain_words oc_Map_modulus kV_Map_modulus dc_Map_modulus pm_Map_modulus cd_Map_modulus ct_Map_modulus oc_joined_form kV_joined_form dc_joined_form pm_joined_form cd_joined_form ct_joined_form oc_Map_rules kV_Map_rules dc_Map_rules pm_Map_rules cd_Map_rules ct_Map_rules oc_check_word kV_check_word dc_check_word pm_check_word cd_check_word ct_check_word oc_form_of kV_form_of dc_form_of pm_form_of cd_form_of ct_form_of oc_check_again kV_check_again dc_check_again pm_check_again cd_check_again ct_check_again oc_is_whole_ring kV_is_whole_ring dc_is_whole_ring pm_is_whole_ring cd_is_whole_ring ct_is_whole_ring oc_gcd kV_gcd dc_gcd pm_gcd cd_gcd ct_gcd oc_lowest kV_lowest dc_lowest pm_lowest cd_lowest ct_lowest oc_ring_of kV_ring_of dc_ring_of pm_ring_of cd_ring_of ct_ring_of oc_whole_rings kV_whole_rings dc_whole_rings pm_whole_rings cd_whole_rings ct_whole_rings oc_law_power kV_law_power dc_law_power pm_law_power cd_law_power ct_law_power oc_whole_before kV_whole_before dc_whole_before pm_whole_before cd_whole_before ct_whole_before oc_numbers_before kV_numbers_before dc_numbers_before pm_numbers_before cd_numbers_before ct_numbers_before oc_classes_before kV_classes_before dc_classes_before pm_classes_before cd_classes_before ct_classes_before oc_law_is_led_to kV_law_is_led_to dc_law_is_led_to pm_law_is_led_to cd_law_is_led_to ct_law_is_led_to oc_inverse kV_inverse dc_inverse pm_inverse cd_inverse ct_inverse oc_remainder_by kV_remainder_by dc_remainder_by pm_remainder_by cd_remainder_by ct_remainder_by oc_stepped kV_stepped dc_stepped pm_stepped cd_stepped ct_stepped oc_is_fraction kV_is_fraction dc_is_fraction pm_is_fraction cd_is_fraction ct_is_fraction oc_is_good kV_is_good dc_is_good pm_is_good cd_is_good ct_is_good oc_check_fraction kV_check_fraction dc_check_fraction pm_check_fraction cd_check_fraction ct_check_fraction oc_walk kV_walk dc_walk pm_walk cd_walk ct_walk oc_after kV_after dc_after pm_after cd_after ct_after oc_word_of kV_word_of dc_word_of pm_word_of cd_word_of ct_word_of oc_word_round kV_word_round dc_word_round pm_word_round cd_word_round ct_word_round oc_judge_ring kV_judge_ring dc_judge_ring pm_judge_ring cd_judge_ring ct_judge_ring oc_law_take kV_law_take dc_law_take pm_law_take cd_law_take ct_law_take oc_law_is_round kV_law_is_round dc_law_is_round pm_law_is_round cd_law_is_round ct_law_is_round oc_law_right kV_law_right dc_law_right pm_law_right cd_law_right ct_law_right oc_law_steps kV_law_steps dc_law_steps pm_law_steps cd_law_steps ct_law_steps oc_is_rule kV_is_rule dc_is_rule pm_is_rule cd_is_rule ct_is_rule oc_Map_init kV_Map_init dc_Map_init pm_Map_init cd_Map_init ct_Map_init oc_law_closing kV_law_closing dc_law_closing pm_law_closing cd_law_closing ct_law_closing oc_law_gcd kV_law_gcd dc_law_gcd pm_law_gcd cd_law_gcd ct_law_gcd oc_law_rules kV_law_rules dc_law_rules pm_law_rules cd_law_rules ct_law_rules oc_law_source kV_law_source dc_law_source pm_law_source cd_law_source ct_law_source oc_law kV_law dc_law pm_law cd_law ct_law : Value} {rest_Map_modulus rest_Map_rules : List Value}
    (a_Map : PySem.W.nsIn K mainGlobals "Map" = some (some (.ref c_Map)))
    (at_is_plain_and_least : PySem.W.nsIn K mainGlobals "is_plain_and_least" = some (some (.ref f_is_plain_and_least)))
    (lo_is_plain_and_least : K.lookup f_is_plain_and_least = some ⟨oc_is_plain_and_least, od_is_plain_and_least, .func (PySem.W.fnOf "is_plain_and_least" "is_plain_and_least" (defArgs s_is_plain_and_least) (defBody s_is_plain_and_least) (defScope s_is_plain_and_least) .none kV_is_plain_and_least dc_is_plain_and_least pm_is_plain_and_least an_is_plain_and_least cd_is_plain_and_least ct_is_plain_and_least), sl_is_plain_and_least⟩)
    (co_is_plain_and_least : PySem.W.codeIn K cd_is_plain_and_least "is_plain_and_least" = true)
    (ke_is_plain_and_least : PySem.W.keepIn K (.ref f_is_plain_and_least) = true)
    (at_check_number : PySem.W.nsIn K mainGlobals "check_number" = some (some (.ref f_check_number)))
    (lo_check_number : K.lookup f_check_number = some ⟨oc_check_number, od_check_number, .func (PySem.W.fnOf "check_number" "check_number" (defArgs s_check_number) (defBody s_check_number) (defScope s_check_number) .none kV_check_number dc_check_number pm_check_number an_check_number cd_check_number ct_check_number), sl_check_number⟩)
    (co_check_number : PySem.W.codeIn K cd_check_number "check_number" = true)
    (ke_check_number : PySem.W.keepIn K (.ref f_check_number) = true)
    (at_plain_words : PySem.W.nsIn K mainGlobals "plain_words" = some (some (.ref f_plain_words)))
    (lo_plain_words : K.lookup f_plain_words = some ⟨oc_plain_words, od_plain_words, .func (PySem.W.fnOf "plain_words" "plain_words" (defArgs s_plain_words) (defBody s_plain_words) (defScope s_plain_words) .none kV_plain_words dc_plain_words pm_plain_words an_plain_words cd_plain_words ct_plain_words), sl_plain_words⟩)
    (co_plain_words : PySem.W.codeIn K cd_plain_words "plain_words" = true)
    (ke_plain_words : PySem.W.keepIn K (.ref f_plain_words) = true)
    (at_Map_modulus : PySem.W.findIn K (.ref c_Map) "modulus" = some (some (.ref p_Map_modulus)))
    (gt_Map_modulus : PySem.W.specialIn K (.ref p_Map_modulus) "__get__" = some (some (.builtin "property.__get__")))
    (tk_Map_modulus : PySem.W.takesIn K (.ref p_Map_modulus) = some true)
    (rc_Map_modulus : PySem.W.recIn K p_Map_modulus "property" = some (.ref f_Map_modulus :: rest_Map_modulus))
    (lo_Map_modulus : K.lookup f_Map_modulus = some ⟨oc_Map_modulus, od_Map_modulus, .func (PySem.W.fnOf "modulus" "Map.modulus" (defArgs s_Map_modulus) (defBody s_Map_modulus) (defScope s_Map_modulus) .none kV_Map_modulus dc_Map_modulus pm_Map_modulus an_Map_modulus cd_Map_modulus ct_Map_modulus), sl_Map_modulus⟩)
    (co_Map_modulus : PySem.W.codeIn K cd_Map_modulus "Map.modulus" = true)
    (ke_Map_modulus : PySem.W.keepIn K (.ref f_Map_modulus) = true)
    (at_joined_form : PySem.W.nsIn K mainGlobals "joined_form" = some (some (.ref f_joined_form)))
    (lo_joined_form : K.lookup f_joined_form = some ⟨oc_joined_form, od_joined_form, .func (PySem.W.fnOf "joined_form" "joined_form" (defArgs s_joined_form) (defBody s_joined_form) (defScope s_joined_form) .none kV_joined_form dc_joined_form pm_joined_form an_joined_form cd_joined_form ct_joined_form), sl_joined_form⟩)
    (co_joined_form : PySem.W.codeIn K cd_joined_form "joined_form" = true)
    (ke_joined_form : PySem.W.keepIn K (.ref f_joined_form) = true)
    (at_Map_rules : PySem.W.findIn K (.ref c_Map) "rules" = some (some (.ref p_Map_rules)))
    (gt_Map_rules : PySem.W.specialIn K (.ref p_Map_rules) "__get__" = some (some (.builtin "property.__get__")))
    (tk_Map_rules : PySem.W.takesIn K (.ref p_Map_rules) = some true)
    (rc_Map_rules : PySem.W.recIn K p_Map_rules "property" = some (.ref f_Map_rules :: rest_Map_rules))
    (lo_Map_rules : K.lookup f_Map_rules = some ⟨oc_Map_rules, od_Map_rules, .func (PySem.W.fnOf "rules" "Map.rules" (defArgs s_Map_rules) (defBody s_Map_rules) (defScope s_Map_rules) .none kV_Map_rules dc_Map_rules pm_Map_rules an_Map_rules cd_Map_rules ct_Map_rules), sl_Map_rules⟩)
    (co_Map_rules : PySem.W.codeIn K cd_Map_rules "Map.rules" = true)
    (ke_Map_rules : PySem.W.keepIn K (.ref f_Map_rules) = true)
    (at_check_word : PySem.W.nsIn K mainGlobals "check_word" = some (some (.ref f_check_word)))
    (lo_check_word : K.lookup f_check_word = some ⟨oc_check_word, od_check_word, .func (PySem.W.fnOf "check_word" "check_word" (defArgs s_check_word) (defBody s_check_word) (defScope s_check_word) .none kV_check_word dc_check_word pm_check_word an_check_word cd_check_word ct_check_word), sl_check_word⟩)
    (co_check_word : PySem.W.codeIn K cd_check_word "check_word" = true)
    (ke_check_word : PySem.W.keepIn K (.ref f_check_word) = true)
    (at_form_of : PySem.W.nsIn K mainGlobals "form_of" = some (some (.ref f_form_of)))
    (lo_form_of : K.lookup f_form_of = some ⟨oc_form_of, od_form_of, .func (PySem.W.fnOf "form_of" "form_of" (defArgs s_form_of) (defBody s_form_of) (defScope s_form_of) .none kV_form_of dc_form_of pm_form_of an_form_of cd_form_of ct_form_of), sl_form_of⟩)
    (co_form_of : PySem.W.codeIn K cd_form_of "form_of" = true)
    (ke_form_of : PySem.W.keepIn K (.ref f_form_of) = true)
    (at_check_again : PySem.W.nsIn K mainGlobals "check_again" = some (some (.ref f_check_again)))
    (lo_check_again : K.lookup f_check_again = some ⟨oc_check_again, od_check_again, .func (PySem.W.fnOf "check_again" "check_again" (defArgs s_check_again) (defBody s_check_again) (defScope s_check_again) .none kV_check_again dc_check_again pm_check_again an_check_again cd_check_again ct_check_again), sl_check_again⟩)
    (co_check_again : PySem.W.codeIn K cd_check_again "check_again" = true)
    (ke_check_again : PySem.W.keepIn K (.ref f_check_again) = true)
    (at_is_whole_ring : PySem.W.nsIn K mainGlobals "is_whole_ring" = some (some (.ref f_is_whole_ring)))
    (lo_is_whole_ring : K.lookup f_is_whole_ring = some ⟨oc_is_whole_ring, od_is_whole_ring, .func (PySem.W.fnOf "is_whole_ring" "is_whole_ring" (defArgs s_is_whole_ring) (defBody s_is_whole_ring) (defScope s_is_whole_ring) .none kV_is_whole_ring dc_is_whole_ring pm_is_whole_ring an_is_whole_ring cd_is_whole_ring ct_is_whole_ring), sl_is_whole_ring⟩)
    (co_is_whole_ring : PySem.W.codeIn K cd_is_whole_ring "is_whole_ring" = true)
    (ke_is_whole_ring : PySem.W.keepIn K (.ref f_is_whole_ring) = true)
    (at_gcd : PySem.W.nsIn K mainGlobals "gcd" = some (some (.ref f_gcd)))
    (lo_gcd : K.lookup f_gcd = some ⟨oc_gcd, od_gcd, .func (PySem.W.fnOf "gcd" "gcd" (defArgs s_gcd) (defBody s_gcd) (defScope s_gcd) .none kV_gcd dc_gcd pm_gcd an_gcd cd_gcd ct_gcd), sl_gcd⟩)
    (co_gcd : PySem.W.codeIn K cd_gcd "gcd" = true)
    (ke_gcd : PySem.W.keepIn K (.ref f_gcd) = true)
    (at_lowest : PySem.W.nsIn K mainGlobals "lowest" = some (some (.ref f_lowest)))
    (lo_lowest : K.lookup f_lowest = some ⟨oc_lowest, od_lowest, .func (PySem.W.fnOf "lowest" "lowest" (defArgs s_lowest) (defBody s_lowest) (defScope s_lowest) .none kV_lowest dc_lowest pm_lowest an_lowest cd_lowest ct_lowest), sl_lowest⟩)
    (co_lowest : PySem.W.codeIn K cd_lowest "lowest" = true)
    (ke_lowest : PySem.W.keepIn K (.ref f_lowest) = true)
    (at_ring_of : PySem.W.nsIn K mainGlobals "ring_of" = some (some (.ref f_ring_of)))
    (lo_ring_of : K.lookup f_ring_of = some ⟨oc_ring_of, od_ring_of, .func (PySem.W.fnOf "ring_of" "ring_of" (defArgs s_ring_of) (defBody s_ring_of) (defScope s_ring_of) .none kV_ring_of dc_ring_of pm_ring_of an_ring_of cd_ring_of ct_ring_of), sl_ring_of⟩)
    (co_ring_of : PySem.W.codeIn K cd_ring_of "ring_of" = true)
    (ke_ring_of : PySem.W.keepIn K (.ref f_ring_of) = true)
    (at_whole_rings : PySem.W.nsIn K mainGlobals "whole_rings" = some (some (.ref f_whole_rings)))
    (lo_whole_rings : K.lookup f_whole_rings = some ⟨oc_whole_rings, od_whole_rings, .func (PySem.W.fnOf "whole_rings" "whole_rings" (defArgs s_whole_rings) (defBody s_whole_rings) (defScope s_whole_rings) .none kV_whole_rings dc_whole_rings pm_whole_rings an_whole_rings cd_whole_rings ct_whole_rings), sl_whole_rings⟩)
    (co_whole_rings : PySem.W.codeIn K cd_whole_rings "whole_rings" = true)
    (ke_whole_rings : PySem.W.keepIn K (.ref f_whole_rings) = true)
    (at_law_power : PySem.W.nsIn K mainGlobals "_law_power" = some (some (.ref f_law_power)))
    (lo_law_power : K.lookup f_law_power = some ⟨oc_law_power, od_law_power, .func (PySem.W.fnOf "_law_power" "_law_power" (defArgs s_law_power) (defBody s_law_power) (defScope s_law_power) .none kV_law_power dc_law_power pm_law_power an_law_power cd_law_power ct_law_power), sl_law_power⟩)
    (co_law_power : PySem.W.codeIn K cd_law_power "_law_power" = true)
    (ke_law_power : PySem.W.keepIn K (.ref f_law_power) = true)
    (at_whole_before : PySem.W.nsIn K mainGlobals "whole_before" = some (some (.ref f_whole_before)))
    (lo_whole_before : K.lookup f_whole_before = some ⟨oc_whole_before, od_whole_before, .func (PySem.W.fnOf "whole_before" "whole_before" (defArgs s_whole_before) (defBody s_whole_before) (defScope s_whole_before) .none kV_whole_before dc_whole_before pm_whole_before an_whole_before cd_whole_before ct_whole_before), sl_whole_before⟩)
    (co_whole_before : PySem.W.codeIn K cd_whole_before "whole_before" = true)
    (ke_whole_before : PySem.W.keepIn K (.ref f_whole_before) = true)
    (at_numbers_before : PySem.W.nsIn K mainGlobals "numbers_before" = some (some (.ref f_numbers_before)))
    (lo_numbers_before : K.lookup f_numbers_before = some ⟨oc_numbers_before, od_numbers_before, .func (PySem.W.fnOf "numbers_before" "numbers_before" (defArgs s_numbers_before) (defBody s_numbers_before) (defScope s_numbers_before) .none kV_numbers_before dc_numbers_before pm_numbers_before an_numbers_before cd_numbers_before ct_numbers_before), sl_numbers_before⟩)
    (co_numbers_before : PySem.W.codeIn K cd_numbers_before "numbers_before" = true)
    (ke_numbers_before : PySem.W.keepIn K (.ref f_numbers_before) = true)
    (at_classes_before : PySem.W.nsIn K mainGlobals "classes_before" = some (some (.ref f_classes_before)))
    (lo_classes_before : K.lookup f_classes_before = some ⟨oc_classes_before, od_classes_before, .func (PySem.W.fnOf "classes_before" "classes_before" (defArgs s_classes_before) (defBody s_classes_before) (defScope s_classes_before) .none kV_classes_before dc_classes_before pm_classes_before an_classes_before cd_classes_before ct_classes_before), sl_classes_before⟩)
    (co_classes_before : PySem.W.codeIn K cd_classes_before "classes_before" = true)
    (ke_classes_before : PySem.W.keepIn K (.ref f_classes_before) = true)
    (at_law_is_led_to : PySem.W.nsIn K mainGlobals "_law_is_led_to" = some (some (.ref f_law_is_led_to)))
    (lo_law_is_led_to : K.lookup f_law_is_led_to = some ⟨oc_law_is_led_to, od_law_is_led_to, .func (PySem.W.fnOf "_law_is_led_to" "_law_is_led_to" (defArgs s_law_is_led_to) (defBody s_law_is_led_to) (defScope s_law_is_led_to) .none kV_law_is_led_to dc_law_is_led_to pm_law_is_led_to an_law_is_led_to cd_law_is_led_to ct_law_is_led_to), sl_law_is_led_to⟩)
    (co_law_is_led_to : PySem.W.codeIn K cd_law_is_led_to "_law_is_led_to" = true)
    (ke_law_is_led_to : PySem.W.keepIn K (.ref f_law_is_led_to) = true)
    (at_inverse : PySem.W.nsIn K mainGlobals "inverse" = some (some (.ref f_inverse)))
    (lo_inverse : K.lookup f_inverse = some ⟨oc_inverse, od_inverse, .func (PySem.W.fnOf "inverse" "inverse" (defArgs s_inverse) (defBody s_inverse) (defScope s_inverse) .none kV_inverse dc_inverse pm_inverse an_inverse cd_inverse ct_inverse), sl_inverse⟩)
    (co_inverse : PySem.W.codeIn K cd_inverse "inverse" = true)
    (ke_inverse : PySem.W.keepIn K (.ref f_inverse) = true)
    (at_remainder_by : PySem.W.nsIn K mainGlobals "remainder_by" = some (some (.ref f_remainder_by)))
    (lo_remainder_by : K.lookup f_remainder_by = some ⟨oc_remainder_by, od_remainder_by, .func (PySem.W.fnOf "remainder_by" "remainder_by" (defArgs s_remainder_by) (defBody s_remainder_by) (defScope s_remainder_by) .none kV_remainder_by dc_remainder_by pm_remainder_by an_remainder_by cd_remainder_by ct_remainder_by), sl_remainder_by⟩)
    (co_remainder_by : PySem.W.codeIn K cd_remainder_by "remainder_by" = true)
    (ke_remainder_by : PySem.W.keepIn K (.ref f_remainder_by) = true)
    (at_stepped : PySem.W.nsIn K mainGlobals "stepped" = some (some (.ref f_stepped)))
    (lo_stepped : K.lookup f_stepped = some ⟨oc_stepped, od_stepped, .func (PySem.W.fnOf "stepped" "stepped" (defArgs s_stepped) (defBody s_stepped) (defScope s_stepped) .none kV_stepped dc_stepped pm_stepped an_stepped cd_stepped ct_stepped), sl_stepped⟩)
    (co_stepped : PySem.W.codeIn K cd_stepped "stepped" = true)
    (ke_stepped : PySem.W.keepIn K (.ref f_stepped) = true)
    (at_is_fraction : PySem.W.nsIn K mainGlobals "is_fraction" = some (some (.ref f_is_fraction)))
    (lo_is_fraction : K.lookup f_is_fraction = some ⟨oc_is_fraction, od_is_fraction, .func (PySem.W.fnOf "is_fraction" "is_fraction" (defArgs s_is_fraction) (defBody s_is_fraction) (defScope s_is_fraction) .none kV_is_fraction dc_is_fraction pm_is_fraction an_is_fraction cd_is_fraction ct_is_fraction), sl_is_fraction⟩)
    (co_is_fraction : PySem.W.codeIn K cd_is_fraction "is_fraction" = true)
    (ke_is_fraction : PySem.W.keepIn K (.ref f_is_fraction) = true)
    (at_is_good : PySem.W.nsIn K mainGlobals "is_good" = some (some (.ref f_is_good)))
    (lo_is_good : K.lookup f_is_good = some ⟨oc_is_good, od_is_good, .func (PySem.W.fnOf "is_good" "is_good" (defArgs s_is_good) (defBody s_is_good) (defScope s_is_good) .none kV_is_good dc_is_good pm_is_good an_is_good cd_is_good ct_is_good), sl_is_good⟩)
    (co_is_good : PySem.W.codeIn K cd_is_good "is_good" = true)
    (ke_is_good : PySem.W.keepIn K (.ref f_is_good) = true)
    (at_check_fraction : PySem.W.nsIn K mainGlobals "check_fraction" = some (some (.ref f_check_fraction)))
    (lo_check_fraction : K.lookup f_check_fraction = some ⟨oc_check_fraction, od_check_fraction, .func (PySem.W.fnOf "check_fraction" "check_fraction" (defArgs s_check_fraction) (defBody s_check_fraction) (defScope s_check_fraction) .none kV_check_fraction dc_check_fraction pm_check_fraction an_check_fraction cd_check_fraction ct_check_fraction), sl_check_fraction⟩)
    (co_check_fraction : PySem.W.codeIn K cd_check_fraction "check_fraction" = true)
    (ke_check_fraction : PySem.W.keepIn K (.ref f_check_fraction) = true)
    (at_walk : PySem.W.nsIn K mainGlobals "walk" = some (some (.ref f_walk)))
    (lo_walk : K.lookup f_walk = some ⟨oc_walk, od_walk, .func (PySem.W.fnOf "walk" "walk" (defArgs s_walk) (defBody s_walk) (defScope s_walk) .none kV_walk dc_walk pm_walk an_walk cd_walk ct_walk), sl_walk⟩)
    (co_walk : PySem.W.codeIn K cd_walk "walk" = true)
    (ke_walk : PySem.W.keepIn K (.ref f_walk) = true)
    (at_after : PySem.W.nsIn K mainGlobals "after" = some (some (.ref f_after)))
    (lo_after : K.lookup f_after = some ⟨oc_after, od_after, .func (PySem.W.fnOf "after" "after" (defArgs s_after) (defBody s_after) (defScope s_after) .none kV_after dc_after pm_after an_after cd_after ct_after), sl_after⟩)
    (co_after : PySem.W.codeIn K cd_after "after" = true)
    (ke_after : PySem.W.keepIn K (.ref f_after) = true)
    (at_word_of : PySem.W.nsIn K mainGlobals "word_of" = some (some (.ref f_word_of)))
    (lo_word_of : K.lookup f_word_of = some ⟨oc_word_of, od_word_of, .func (PySem.W.fnOf "word_of" "word_of" (defArgs s_word_of) (defBody s_word_of) (defScope s_word_of) .none kV_word_of dc_word_of pm_word_of an_word_of cd_word_of ct_word_of), sl_word_of⟩)
    (co_word_of : PySem.W.codeIn K cd_word_of "word_of" = true)
    (ke_word_of : PySem.W.keepIn K (.ref f_word_of) = true)
    (at_word_round : PySem.W.nsIn K mainGlobals "word_round" = some (some (.ref f_word_round)))
    (lo_word_round : K.lookup f_word_round = some ⟨oc_word_round, od_word_round, .func (PySem.W.fnOf "word_round" "word_round" (defArgs s_word_round) (defBody s_word_round) (defScope s_word_round) .none kV_word_round dc_word_round pm_word_round an_word_round cd_word_round ct_word_round), sl_word_round⟩)
    (co_word_round : PySem.W.codeIn K cd_word_round "word_round" = true)
    (ke_word_round : PySem.W.keepIn K (.ref f_word_round) = true)
    (at_judge_ring : PySem.W.nsIn K mainGlobals "judge_ring" = some (some (.ref f_judge_ring)))
    (lo_judge_ring : K.lookup f_judge_ring = some ⟨oc_judge_ring, od_judge_ring, .func (PySem.W.fnOf "judge_ring" "judge_ring" (defArgs s_judge_ring) (defBody s_judge_ring) (defScope s_judge_ring) .none kV_judge_ring dc_judge_ring pm_judge_ring an_judge_ring cd_judge_ring ct_judge_ring), sl_judge_ring⟩)
    (co_judge_ring : PySem.W.codeIn K cd_judge_ring "judge_ring" = true)
    (ke_judge_ring : PySem.W.keepIn K (.ref f_judge_ring) = true)
    (at_law_take : PySem.W.nsIn K mainGlobals "_law_take" = some (some (.ref f_law_take)))
    (lo_law_take : K.lookup f_law_take = some ⟨oc_law_take, od_law_take, .func (PySem.W.fnOf "_law_take" "_law_take" (defArgs s_law_take) (defBody s_law_take) (defScope s_law_take) .none kV_law_take dc_law_take pm_law_take an_law_take cd_law_take ct_law_take), sl_law_take⟩)
    (co_law_take : PySem.W.codeIn K cd_law_take "_law_take" = true)
    (ke_law_take : PySem.W.keepIn K (.ref f_law_take) = true)
    (at_law_is_round : PySem.W.nsIn K mainGlobals "_law_is_round" = some (some (.ref f_law_is_round)))
    (lo_law_is_round : K.lookup f_law_is_round = some ⟨oc_law_is_round, od_law_is_round, .func (PySem.W.fnOf "_law_is_round" "_law_is_round" (defArgs s_law_is_round) (defBody s_law_is_round) (defScope s_law_is_round) .none kV_law_is_round dc_law_is_round pm_law_is_round an_law_is_round cd_law_is_round ct_law_is_round), sl_law_is_round⟩)
    (co_law_is_round : PySem.W.codeIn K cd_law_is_round "_law_is_round" = true)
    (ke_law_is_round : PySem.W.keepIn K (.ref f_law_is_round) = true)
    (at_law_right : PySem.W.nsIn K mainGlobals "_law_right" = some (some (.ref f_law_right)))
    (lo_law_right : K.lookup f_law_right = some ⟨oc_law_right, od_law_right, .func (PySem.W.fnOf "_law_right" "_law_right" (defArgs s_law_right) (defBody s_law_right) (defScope s_law_right) .none kV_law_right dc_law_right pm_law_right an_law_right cd_law_right ct_law_right), sl_law_right⟩)
    (co_law_right : PySem.W.codeIn K cd_law_right "_law_right" = true)
    (ke_law_right : PySem.W.keepIn K (.ref f_law_right) = true)
    (at_law_steps : PySem.W.nsIn K mainGlobals "_law_steps" = some (some (.ref f_law_steps)))
    (lo_law_steps : K.lookup f_law_steps = some ⟨oc_law_steps, od_law_steps, .func (PySem.W.fnOf "_law_steps" "_law_steps" (defArgs s_law_steps) (defBody s_law_steps) (defScope s_law_steps) .none kV_law_steps dc_law_steps pm_law_steps an_law_steps cd_law_steps ct_law_steps), sl_law_steps⟩)
    (co_law_steps : PySem.W.codeIn K cd_law_steps "_law_steps" = true)
    (ke_law_steps : PySem.W.keepIn K (.ref f_law_steps) = true)
    (at_is_rule : PySem.W.nsIn K mainGlobals "is_rule" = some (some (.ref f_is_rule)))
    (lo_is_rule : K.lookup f_is_rule = some ⟨oc_is_rule, od_is_rule, .func (PySem.W.fnOf "is_rule" "is_rule" (defArgs s_is_rule) (defBody s_is_rule) (defScope s_is_rule) .none kV_is_rule dc_is_rule pm_is_rule an_is_rule cd_is_rule ct_is_rule), sl_is_rule⟩)
    (co_is_rule : PySem.W.codeIn K cd_is_rule "is_rule" = true)
    (ke_is_rule : PySem.W.keepIn K (.ref f_is_rule) = true)
    (at_Map_init : PySem.W.findIn K (.ref c_Map) "__init__" = some (some (.ref f_Map_init)))
    (is_Map_init : PySem.W.isFn K (.ref f_Map_init) = true)
    (lo_Map_init : K.lookup f_Map_init = some ⟨oc_Map_init, od_Map_init, .func (PySem.W.fnOf "__init__" "Map.__init__" (defArgs s_Map_init) (defBody s_Map_init) (defScope s_Map_init) .none kV_Map_init dc_Map_init pm_Map_init an_Map_init cd_Map_init ct_Map_init), sl_Map_init⟩)
    (co_Map_init : PySem.W.codeIn K cd_Map_init "Map.__init__" = true)
    (ke_Map_init : PySem.W.keepIn K (.ref f_Map_init) = true)
    (at_law_closing : PySem.W.nsIn K mainGlobals "_law_closing" = some (some (.ref f_law_closing)))
    (lo_law_closing : K.lookup f_law_closing = some ⟨oc_law_closing, od_law_closing, .func (PySem.W.fnOf "_law_closing" "_law_closing" (defArgs s_law_closing) (defBody s_law_closing) (defScope s_law_closing) .none kV_law_closing dc_law_closing pm_law_closing an_law_closing cd_law_closing ct_law_closing), sl_law_closing⟩)
    (co_law_closing : PySem.W.codeIn K cd_law_closing "_law_closing" = true)
    (ke_law_closing : PySem.W.keepIn K (.ref f_law_closing) = true)
    (at_law_gcd : PySem.W.nsIn K mainGlobals "_law_gcd" = some (some (.ref f_law_gcd)))
    (lo_law_gcd : K.lookup f_law_gcd = some ⟨oc_law_gcd, od_law_gcd, .func (PySem.W.fnOf "_law_gcd" "_law_gcd" (defArgs s_law_gcd) (defBody s_law_gcd) (defScope s_law_gcd) .none kV_law_gcd dc_law_gcd pm_law_gcd an_law_gcd cd_law_gcd ct_law_gcd), sl_law_gcd⟩)
    (co_law_gcd : PySem.W.codeIn K cd_law_gcd "_law_gcd" = true)
    (ke_law_gcd : PySem.W.keepIn K (.ref f_law_gcd) = true)
    (at_law_rules : PySem.W.nsIn K mainGlobals "_law_rules" = some (some (.ref f_law_rules)))
    (lo_law_rules : K.lookup f_law_rules = some ⟨oc_law_rules, od_law_rules, .func (PySem.W.fnOf "_law_rules" "_law_rules" (defArgs s_law_rules) (defBody s_law_rules) (defScope s_law_rules) .none kV_law_rules dc_law_rules pm_law_rules an_law_rules cd_law_rules ct_law_rules), sl_law_rules⟩)
    (co_law_rules : PySem.W.codeIn K cd_law_rules "_law_rules" = true)
    (ke_law_rules : PySem.W.keepIn K (.ref f_law_rules) = true)
    (at_law_source : PySem.W.nsIn K mainGlobals "_law_source" = some (some (.ref f_law_source)))
    (lo_law_source : K.lookup f_law_source = some ⟨oc_law_source, od_law_source, .func (PySem.W.fnOf "_law_source" "_law_source" (defArgs s_law_source) (defBody s_law_source) (defScope s_law_source) .none kV_law_source dc_law_source pm_law_source an_law_source cd_law_source ct_law_source), sl_law_source⟩)
    (co_law_source : PySem.W.codeIn K cd_law_source "_law_source" = true)
    (ke_law_source : PySem.W.keepIn K (.ref f_law_source) = true)
    (at_law : PySem.W.nsIn K mainGlobals "law" = some (some (.ref f_law)))
    (lo_law : K.lookup f_law = some ⟨oc_law, od_law, .func (PySem.W.fnOf "law" "law" (defArgs s_law) (defBody s_law) (defScope s_law) .none kV_law dc_law pm_law an_law cd_law ct_law), sl_law⟩)
    (co_law : PySem.W.codeIn K cd_law "law" = true)
    (ke_law : PySem.W.keepIn K (.ref f_law) = true)
    (pg_Map : PySem.W.plainGet K c_Map Str.empty = true)
    (hd_Map : PySem.W.hasDictIn K c_Map = true)
    (po_Map : PySem.W.plainOver K c_Map = true)
    (sa_Map : PySem.W.findIn K (.ref c_Map) "__setattr__" = some (some (.builtin "object.__setattr__")))
    (ms_Map : PySem.W.makesIn K c_Map = true)
    (kc_Map : PySem.W.keepIn K (.ref c_Map) = true)
    (nf_Map_base : PySem.W.findIn K (.ref c_Map) "base" = some none)
    (nf_Map_rows : PySem.W.findIn K (.ref c_Map) "rows" = some none)
    (z_abs : PySem.W.nsIn K mainGlobals "abs" = some none)
    (z_all : PySem.W.nsIn K mainGlobals "all" = some none)
    (z_enumerate : PySem.W.nsIn K mainGlobals "enumerate" = some none)
    (z_int : PySem.W.nsIn K mainGlobals "int" = some none)
    (z_len : PySem.W.nsIn K mainGlobals "len" = some none)
    (z_list : PySem.W.nsIn K mainGlobals "list" = some none)
    (z_max : PySem.W.nsIn K mainGlobals "max" = some none)
    (z_min : PySem.W.nsIn K mainGlobals "min" = some none)
    (z_range : PySem.W.nsIn K mainGlobals "range" = some none)
    (z_set : PySem.W.nsIn K mainGlobals "set" = some none)
    (z_sorted : PySem.W.nsIn K mainGlobals "sorted" = some none)
    : ∃ fd : FuncData, (∀ (s : Shared) (v : Value), BindsTo s fd ⟨[v], []⟩ [("script", v)]) ∧ ∀ base : Heap, K.In base → base.Ns mainGlobals mg → FnOk l.prog w K mg base CX0 10 fa fd ["script"] (endSp K) := by
  have e := hfa.symm.trans (PySem.W.mg_of X G at_law)
  cases e
  let C : Ccs := ⟨⟨(fun i => if i = 0 then (c_Map, (["base", "rows"] : List Str)) else (c_Map, [])), K⟩, fun _ => fa⟩
  have n_abs := PySem.W.mg_none_of X G z_abs
  have n_all := PySem.W.mg_none_of X G z_all
  have n_enumerate := PySem.W.mg_none_of X G z_enumerate
  have n_int := PySem.W.mg_none_of X G z_int
  have n_len := PySem.W.mg_none_of X G z_len
  have n_list := PySem.W.mg_none_of X G z_list
  have n_max := PySem.W.mg_none_of X G z_max
  have n_min := PySem.W.mg_none_of X G z_min
  have n_range := PySem.W.mg_none_of X G z_range
  have n_set := PySem.W.mg_none_of X G z_set
  have n_sorted := PySem.W.mg_none_of X G z_sorted
  have fl_Map : (C.cc.cl 0).2 = (["base", "rows"] : List Str) := rfl
  have ck_Map : ClsOk K (C.cc.cl 0) := ⟨⟨pg_Map, hd_Map, po_Map, sa_Map⟩, fun f hf => by
    simp only [fl_Map, List.mem_cons, List.not_mem_nil, or_false] at hf
    rcases hf with rfl | rfl
    · exact nf_Map_base
    · exact nf_Map_rows, by rw [fl_Map]; decide +kernel, by rw [fl_Map]; decide⟩
  have mg_Map : mg "Map" = some (.ref (C.cc.cl 0).1) := PySem.W.mg_of X G a_Map
  have mk_Map : Mk K (C.cc.cl 0).1 f_Map_init := ⟨ms_Map, at_Map_init, is_Map_init, kc_Map⟩
  have F_is_plain_and_least := fun_mk (st := s_is_plain_and_least) lo_is_plain_and_least co_is_plain_and_least ke_is_plain_and_least
  have B_is_plain_and_least := F_is_plain_and_least.binds (ps := ["word"]) fun _ _ _ _ _ _ us hl => match us, hl with | [_], _ => rfl
  have M_is_plain_and_least := PySem.W.mg_of X G at_is_plain_and_least
  have K_is_plain_and_least := ke_is_plain_and_least
  have F_check_number := fun_mk (st := s_check_number) lo_check_number co_check_number ke_check_number
  have B_check_number := F_check_number.binds (ps := ["number", "least"]) fun _ _ _ _ _ _ us hl => match us, hl with | [_, _], _ => rfl
  have M_check_number := PySem.W.mg_of X G at_check_number
  have K_check_number := ke_check_number
  have F_plain_words := fun_mk (st := s_plain_words) lo_plain_words co_plain_words ke_plain_words
  have B_plain_words := F_plain_words.binds (ps := ["modulus", "length"]) fun _ _ _ _ _ _ us hl => match us, hl with | [_, _], _ => rfl
  have M_plain_words := PySem.W.mg_of X G at_plain_words
  have K_plain_words := ke_plain_words
  have F_Map_modulus := fun_mk (st := s_Map_modulus) lo_Map_modulus co_Map_modulus ke_Map_modulus
  have B_Map_modulus := F_Map_modulus.binds (ps := ["self"]) fun _ _ _ _ _ _ us hl => match us, hl with | [_], _ => rfl
  have K_Map_modulus := ke_Map_modulus
  have pr_Map_modulus : PropOf K (C.cc.cl 0).1 "modulus" p_Map_modulus f_Map_modulus := ⟨at_Map_modulus, gt_Map_modulus, tk_Map_modulus, ⟨_, rc_Map_modulus⟩⟩
  have F_joined_form := fun_mk (st := s_joined_form) lo_joined_form co_joined_form ke_joined_form
  have B_joined_form := F_joined_form.binds (ps := ["form", "rule", "modulus"]) fun _ _ _ _ _ _ us hl => match us, hl with | [_, _, _], _ => rfl
  have M_joined_form := PySem.W.mg_of X G at_joined_form
  have K_joined_form := ke_joined_form
  have F_Map_rules := fun_mk (st := s_Map_rules) lo_Map_rules co_Map_rules ke_Map_rules
  have B_Map_rules := F_Map_rules.binds (ps := ["self"]) fun _ _ _ _ _ _ us hl => match us, hl with | [_], _ => rfl
  have K_Map_rules := ke_Map_rules
  have pr_Map_rules : PropOf K (C.cc.cl 0).1 "rules" p_Map_rules f_Map_rules := ⟨at_Map_rules, gt_Map_rules, tk_Map_rules, ⟨_, rc_Map_rules⟩⟩
  have F_check_word := fun_mk (st := s_check_word) lo_check_word co_check_word ke_check_word
  have B_check_word := F_check_word.binds (ps := ["modulus", "word"]) fun _ _ _ _ _ _ us hl => match us, hl with | [_, _], _ => rfl
  have M_check_word := PySem.W.mg_of X G at_check_word
  have K_check_word := ke_check_word
  have F_form_of := fun_mk (st := s_form_of) lo_form_of co_form_of ke_form_of
  have B_form_of := F_form_of.binds (ps := ["rule_map", "word"]) fun _ _ _ _ _ _ us hl => match us, hl with | [_, _], _ => rfl
  have M_form_of := PySem.W.mg_of X G at_form_of
  have K_form_of := ke_form_of
  have F_check_again := fun_mk (st := s_check_again) lo_check_again co_check_again ke_check_again
  have B_check_again := F_check_again.binds (ps := ["modulus", "word"]) fun _ _ _ _ _ _ us hl => match us, hl with | [_, _], _ => rfl
  have M_check_again := PySem.W.mg_of X G at_check_again
  have K_check_again := ke_check_again
  have F_is_whole_ring := fun_mk (st := s_is_whole_ring) lo_is_whole_ring co_is_whole_ring ke_is_whole_ring
  have B_is_whole_ring := F_is_whole_ring.binds (ps := ["rule_map", "word"]) fun _ _ _ _ _ _ us hl => match us, hl with | [_, _], _ => rfl
  have M_is_whole_ring := PySem.W.mg_of X G at_is_whole_ring
  have K_is_whole_ring := ke_is_whole_ring
  have F_gcd := fun_mk (st := s_gcd) lo_gcd co_gcd ke_gcd
  have B_gcd := F_gcd.binds (ps := ["one", "other"]) fun _ _ _ _ _ _ us hl => match us, hl with | [_, _], _ => rfl
  have M_gcd := PySem.W.mg_of X G at_gcd
  have K_gcd := ke_gcd
  have F_lowest := fun_mk (st := s_lowest) lo_lowest co_lowest ke_lowest
  have B_lowest := F_lowest.binds (ps := ["top", "bottom"]) fun _ _ _ _ _ _ us hl => match us, hl with | [_, _], _ => rfl
  have M_lowest := PySem.W.mg_of X G at_lowest
  have K_lowest := ke_lowest
  have F_ring_of := fun_mk (st := s_ring_of) lo_ring_of co_ring_of ke_ring_of
  have B_ring_of := F_ring_of.binds (ps := ["rule_map", "word"]) fun _ _ _ _ _ _ us hl => match us, hl with | [_, _], _ => rfl
  have M_ring_of := PySem.W.mg_of X G at_ring_of
  have K_ring_of := ke_ring_of
  have F_whole_rings := fun_mk (st := s_whole_rings) lo_whole_rings co_whole_rings ke_whole_rings
  have B_whole_rings := F_whole_rings.binds (ps := ["rule_map", "most"]) fun _ _ _ _ _ _ us hl => match us, hl with | [_, _], _ => rfl
  have M_whole_rings := PySem.W.mg_of X G at_whole_rings
  have K_whole_rings := ke_whole_rings
  have F_law_power := fun_mk (st := s_law_power) lo_law_power co_law_power ke_law_power
  have B_law_power := F_law_power.binds (ps := ["base", "count"]) fun _ _ _ _ _ _ us hl => match us, hl with | [_, _], _ => rfl
  have M_law_power := PySem.W.mg_of X G at_law_power
  have K_law_power := ke_law_power
  have F_whole_before := fun_mk (st := s_whole_before) lo_whole_before co_whole_before ke_whole_before
  have B_whole_before := F_whole_before.binds (ps := ["rule_map", "number"]) fun _ _ _ _ _ _ us hl => match us, hl with | [_, _], _ => rfl
  have M_whole_before := PySem.W.mg_of X G at_whole_before
  have K_whole_before := ke_whole_before
  have F_numbers_before := fun_mk (st := s_numbers_before) lo_numbers_before co_numbers_before ke_numbers_before
  have B_numbers_before := F_numbers_before.binds (ps := ["rule_map", "number", "steps"]) fun _ _ _ _ _ _ us hl => match us, hl with | [_, _, _], _ => rfl
  have M_numbers_before := PySem.W.mg_of X G at_numbers_before
  have K_numbers_before := ke_numbers_before
  have F_classes_before := fun_mk (st := s_classes_before) lo_classes_before co_classes_before ke_classes_before
  have B_classes_before := F_classes_before.binds (ps := ["rule_map"]) fun _ _ _ _ _ _ us hl => match us, hl with | [_], _ => rfl
  have M_classes_before := PySem.W.mg_of X G at_classes_before
  have K_classes_before := ke_classes_before
  have F_law_is_led_to := fun_mk (st := s_law_is_led_to) lo_law_is_led_to co_law_is_led_to ke_law_is_led_to
  have B_law_is_led_to := F_law_is_led_to.binds (ps := ["chart", "base", "tops"]) fun _ _ _ _ _ _ us hl => match us, hl with | [_, _, _], _ => rfl
  have M_law_is_led_to := PySem.W.mg_of X G at_law_is_led_to
  have K_law_is_led_to := ke_law_is_led_to
  have F_inverse := fun_mk (st := s_inverse) lo_inverse co_inverse ke_inverse
  have B_inverse := F_inverse.binds (ps := ["number", "modulus"]) fun _ _ _ _ _ _ us hl => match us, hl with | [_, _], _ => rfl
  have M_inverse := PySem.W.mg_of X G at_inverse
  have K_inverse := ke_inverse
  have F_remainder_by := fun_mk (st := s_remainder_by) lo_remainder_by co_remainder_by ke_remainder_by
  have B_remainder_by := F_remainder_by.binds (ps := ["modulus", "number"]) fun _ _ _ _ _ _ us hl => match us, hl with | [_, _], _ => rfl
  have M_remainder_by := PySem.W.mg_of X G at_remainder_by
  have K_remainder_by := ke_remainder_by
  have F_stepped := fun_mk (st := s_stepped) lo_stepped co_stepped ke_stepped
  have B_stepped := F_stepped.binds (ps := ["modulus", "rules", "number"]) fun _ _ _ _ _ _ us hl => match us, hl with | [_, _, _], _ => rfl
  have M_stepped := PySem.W.mg_of X G at_stepped
  have K_stepped := ke_stepped
  have F_is_fraction := fun_mk (st := s_is_fraction) lo_is_fraction co_is_fraction ke_is_fraction
  have B_is_fraction := F_is_fraction.binds (ps := ["value"]) fun _ _ _ _ _ _ us hl => match us, hl with | [_], _ => rfl
  have M_is_fraction := PySem.W.mg_of X G at_is_fraction
  have K_is_fraction := ke_is_fraction
  have F_is_good := fun_mk (st := s_is_good) lo_is_good co_is_good ke_is_good
  have B_is_good := F_is_good.binds (ps := ["modulus", "value"]) fun _ _ _ _ _ _ us hl => match us, hl with | [_, _], _ => rfl
  have M_is_good := PySem.W.mg_of X G at_is_good
  have K_is_good := ke_is_good
  have F_check_fraction := fun_mk (st := s_check_fraction) lo_check_fraction co_check_fraction ke_check_fraction
  have B_check_fraction := F_check_fraction.binds (ps := ["rule_map", "number"]) fun _ _ _ _ _ _ us hl => match us, hl with | [_, _], _ => rfl
  have M_check_fraction := PySem.W.mg_of X G at_check_fraction
  have K_check_fraction := ke_check_fraction
  have F_walk := fun_mk (st := s_walk) lo_walk co_walk ke_walk
  have B_walk := F_walk.binds (ps := ["rule_map", "number", "steps"]) fun _ _ _ _ _ _ us hl => match us, hl with | [_, _, _], _ => rfl
  have M_walk := PySem.W.mg_of X G at_walk
  have K_walk := ke_walk
  have F_after := fun_mk (st := s_after) lo_after co_after ke_after
  have B_after := F_after.binds (ps := ["rule_map", "number", "steps"]) fun _ _ _ _ _ _ us hl => match us, hl with | [_, _, _], _ => rfl
  have M_after := PySem.W.mg_of X G at_after
  have K_after := ke_after
  have F_word_of := fun_mk (st := s_word_of) lo_word_of co_word_of ke_word_of
  have B_word_of := F_word_of.binds (ps := ["rule_map", "number", "steps"]) fun _ _ _ _ _ _ us hl => match us, hl with | [_, _, _], _ => rfl
  have M_word_of := PySem.W.mg_of X G at_word_of
  have K_word_of := ke_word_of
  have F_word_round := fun_mk (st := s_word_round) lo_word_round co_word_round ke_word_round
  have B_word_round := F_word_round.binds (ps := ["rule_map", "fraction", "length"]) fun _ _ _ _ _ _ us hl => match us, hl with | [_, _, _], _ => rfl
  have M_word_round := PySem.W.mg_of X G at_word_round
  have K_word_round := ke_word_round
  have F_judge_ring := fun_mk (st := s_judge_ring) lo_judge_ring co_judge_ring ke_judge_ring
  have B_judge_ring := F_judge_ring.binds (ps := ["rule_map", "told"]) fun _ _ _ _ _ _ us hl => match us, hl with | [_, _], _ => rfl
  have M_judge_ring := PySem.W.mg_of X G at_judge_ring
  have K_judge_ring := ke_judge_ring
  have F_law_take := fun_mk (st := s_law_take) lo_law_take co_law_take ke_law_take
  have B_law_take := F_law_take.binds (ps := ["source", "many"]) fun _ _ _ _ _ _ us hl => match us, hl with | [_, _], _ => rfl
  have M_law_take := PySem.W.mg_of X G at_law_take
  have K_law_take := ke_law_take
  have F_law_is_round := fun_mk (st := s_law_is_round) lo_law_is_round co_law_is_round ke_law_is_round
  have B_law_is_round := F_law_is_round.binds (ps := ["source", "chart", "path", "ring", "length"]) fun _ _ _ _ _ _ us hl => match us, hl with | [_, _, _, _, _], _ => rfl
  have M_law_is_round := PySem.W.mg_of X G at_law_is_round
  have K_law_is_round := ke_law_is_round
  have F_law_right := fun_mk (st := s_law_right) lo_law_right co_law_right ke_law_right
  have B_law_right := F_law_right.binds (ps := ["source", "chart", "base", "length"]) fun _ _ _ _ _ _ us hl => match us, hl with | [_, _, _, _], _ => rfl
  have M_law_right := PySem.W.mg_of X G at_law_right
  have K_law_right := ke_law_right
  have F_law_steps := fun_mk (st := s_law_steps) lo_law_steps co_law_steps ke_law_steps
  have B_law_steps := F_law_steps.binds (ps := ["source", "base"]) fun _ _ _ _ _ _ us hl => match us, hl with | [_, _], _ => rfl
  have M_law_steps := PySem.W.mg_of X G at_law_steps
  have K_law_steps := ke_law_steps
  have F_is_rule := fun_mk (st := s_is_rule) lo_is_rule co_is_rule ke_is_rule
  have B_is_rule := F_is_rule.binds (ps := ["modulus", "remainder", "rule"]) fun _ _ _ _ _ _ us hl => match us, hl with | [_, _, _], _ => rfl
  have M_is_rule := PySem.W.mg_of X G at_is_rule
  have K_is_rule := ke_is_rule
  have F_Map_init := fun_mk (st := s_Map_init) lo_Map_init co_Map_init ke_Map_init
  have B_Map_init := F_Map_init.binds (ps := ["self", "modulus", "rules"]) fun _ _ _ _ _ _ us hl => match us, hl with | [_, _, _], _ => rfl
  have K_Map_init := ke_Map_init
  have F_law_closing := fun_mk (st := s_law_closing) lo_law_closing co_law_closing ke_law_closing
  have B_law_closing := F_law_closing.binds (ps := ["source", "base", "rules"]) fun _ _ _ _ _ _ us hl => match us, hl with | [_, _, _], _ => rfl
  have M_law_closing := PySem.W.mg_of X G at_law_closing
  have K_law_closing := ke_law_closing
  have F_law_gcd := fun_mk (st := s_law_gcd) lo_law_gcd co_law_gcd ke_law_gcd
  have B_law_gcd := F_law_gcd.binds (ps := ["left", "right"]) fun _ _ _ _ _ _ us hl => match us, hl with | [_, _], _ => rfl
  have M_law_gcd := PySem.W.mg_of X G at_law_gcd
  have K_law_gcd := ke_law_gcd
  have F_law_rules := fun_mk (st := s_law_rules) lo_law_rules co_law_rules ke_law_rules
  have B_law_rules := F_law_rules.binds (ps := ["source", "base", "far"]) fun _ _ _ _ _ _ us hl => match us, hl with | [_, _, _], _ => rfl
  have M_law_rules := PySem.W.mg_of X G at_law_rules
  have K_law_rules := ke_law_rules
  have F_law_source := fun_mk (st := s_law_source) lo_law_source co_law_source ke_law_source
  have B_law_source := F_law_source.binds (ps := ["script", "k"]) fun _ _ _ _ _ _ us hl => match us, hl with | [_, _], _ => rfl
  have M_law_source := PySem.W.mg_of X G at_law_source
  have K_law_source := ke_law_source
  have F_law := fun_mk (st := s_law) lo_law co_law ke_law
  have B_law := F_law.binds (ps := ["script"]) fun _ _ _ _ _ _ us hl => match us, hl with | [_], _ => rfl
  have M_law := PySem.W.mg_of X G at_law
  have K_law := ke_law
  have KB_classes_before_0 : KBp K (PySem.W.fnOf "classes_before" "classes_before" (defArgs s_classes_before) (defBody s_classes_before) (defScope s_classes_before) .none kV_classes_before dc_classes_before pm_classes_before an_classes_before cd_classes_before ct_classes_before) ["rule_map"] ["rule_map"] [0] := ⟨fun s ws hl => match ws, hl with | [_], _ => .of_eq rfl⟩
  have KB_numbers_before_012 : KBp K (PySem.W.fnOf "numbers_before" "numbers_before" (defArgs s_numbers_before) (defBody s_numbers_before) (defScope s_numbers_before) .none kV_numbers_before dc_numbers_before pm_numbers_before an_numbers_before cd_numbers_before ct_numbers_before) ["rule_map", "number", "steps"] ["rule_map", "number", "steps"] [0, 1, 2] := ⟨fun s ws hl => match ws, hl with | [_, _, _], _ => .of_eq rfl⟩
  have KB_whole_before_01 : KBp K (PySem.W.fnOf "whole_before" "whole_before" (defArgs s_whole_before) (defBody s_whole_before) (defScope s_whole_before) .none kV_whole_before dc_whole_before pm_whole_before an_whole_before cd_whole_before ct_whole_before) ["rule_map", "number"] ["rule_map", "number"] [0, 1] := ⟨fun s ws hl => match ws, hl with | [_, _], _ => .of_eq rfl⟩
  refine ⟨PySem.W.fnOf "law" "law" (defArgs s_law) (defBody s_law) (defScope s_law) .none kV_law dc_law pm_law an_law cd_law ct_law, fun s v => .of_eq rfl, fun base _ _ => ?_⟩
  have ok_is_plain_and_least := ok_is_plain_and_least (P := l.prog) (w := w) (mg := mg) (base := base) (C := C) F_is_plain_and_least rfl n_len n_range
  have ok_check_number := ok_check_number (P := l.prog) (w := w) (mg := mg) (base := base) (C := C) F_check_number rfl 
  have ok_plain_words := ok_plain_words (P := l.prog) (w := w) (mg := mg) (base := base) (C := C) F_plain_words rfl n_range ok_is_plain_and_least B_is_plain_and_least M_is_plain_and_least K_is_plain_and_least ok_check_number B_check_number M_check_number K_check_number
  have ok_Map_modulus := ok_Map_modulus (P := l.prog) (w := w) (mg := mg) (base := base) (C := C) F_Map_modulus rfl ck_Map fl_Map
  have ok_joined_form := ok_joined_form (P := l.prog) (w := w) (mg := mg) (base := base) (C := C) F_joined_form rfl 
  have ok_Map_rules := ok_Map_rules (P := l.prog) (w := w) (mg := mg) (base := base) (C := C) F_Map_rules rfl n_list ck_Map fl_Map
  have ok_check_word := ok_check_word (P := l.prog) (w := w) (mg := mg) (base := base) (C := C) F_check_word rfl 
  have ok_form_of := ok_form_of (P := l.prog) (w := w) (mg := mg) (base := base) (C := C) F_form_of rfl ck_Map fl_Map ok_joined_form B_joined_form M_joined_form K_joined_form ok_Map_rules B_Map_rules pr_Map_rules ok_check_word B_check_word M_check_word K_check_word ok_Map_modulus B_Map_modulus pr_Map_modulus
  have ok_check_again := ok_check_again (P := l.prog) (w := w) (mg := mg) (base := base) (C := C) F_check_again rfl n_len ok_check_word B_check_word M_check_word K_check_word
  have ok_is_whole_ring := ok_is_whole_ring (P := l.prog) (w := w) (mg := mg) (base := base) (C := C) F_is_whole_ring rfl ck_Map fl_Map ok_form_of B_form_of M_form_of K_form_of ok_check_again B_check_again M_check_again K_check_again ok_Map_modulus B_Map_modulus pr_Map_modulus
  have ok_gcd := ok_gcd (P := l.prog) (w := w) (mg := mg) (base := base) (C := C) F_gcd rfl n_abs
  have ok_lowest := ok_lowest (P := l.prog) (w := w) (mg := mg) (base := base) (C := C) F_lowest rfl ok_gcd B_gcd M_gcd K_gcd
  have ok_ring_of := ok_ring_of (P := l.prog) (w := w) (mg := mg) (base := base) (C := C) F_ring_of rfl ck_Map fl_Map ok_lowest B_lowest M_lowest K_lowest ok_form_of B_form_of M_form_of K_form_of ok_Map_rules B_Map_rules pr_Map_rules ok_check_again B_check_again M_check_again K_check_again ok_Map_modulus B_Map_modulus pr_Map_modulus
  have ok_whole_rings := ok_whole_rings (P := l.prog) (w := w) (mg := mg) (base := base) (C := C) F_whole_rings rfl n_min n_range n_sorted ck_Map fl_Map ok_plain_words B_plain_words M_plain_words K_plain_words ok_Map_modulus B_Map_modulus pr_Map_modulus ok_is_whole_ring B_is_whole_ring M_is_whole_ring K_is_whole_ring ok_ring_of B_ring_of M_ring_of K_ring_of ok_check_number B_check_number M_check_number K_check_number
  have ok_law_power := ok_law_power (P := l.prog) (w := w) (mg := mg) (base := base) (C := C) F_law_power rfl n_range
  have ok_whole_before := ok_whole_before (P := l.prog) (w := w) (mg := mg) (base := base) (C := C) F_whole_before rfl n_sorted ck_Map fl_Map ok_Map_rules B_Map_rules pr_Map_rules ok_Map_modulus B_Map_modulus pr_Map_modulus
  have ok_numbers_before := ok_numbers_before (P := l.prog) (w := w) (mg := mg) (base := base) (C := C) F_numbers_before rfl n_range n_sorted ok_whole_before B_whole_before M_whole_before K_whole_before
  have ok_classes_before := ok_classes_before (P := l.prog) (w := w) (mg := mg) (base := base) (C := C) F_classes_before rfl n_len n_range ck_Map fl_Map ok_Map_rules B_Map_rules pr_Map_rules
  have ok_law_is_led_to := ok_law_is_led_to (P := l.prog) (w := w) (mg := mg) (base := base) (C := C) F_law_is_led_to rfl n_int n_len n_range ok_numbers_before M_numbers_before K_numbers_before ok_whole_before M_whole_before K_whole_before ok_classes_before M_classes_before K_classes_before KB_classes_before_0 KB_numbers_before_012 KB_whole_before_01
  have ok_inverse := ok_inverse (P := l.prog) (w := w) (mg := mg) (base := base) (C := C) F_inverse rfl 
  have ok_remainder_by := ok_remainder_by (P := l.prog) (w := w) (mg := mg) (base := base) (C := C) F_remainder_by rfl ok_inverse B_inverse M_inverse K_inverse
  have ok_stepped := ok_stepped (P := l.prog) (w := w) (mg := mg) (base := base) (C := C) F_stepped rfl ok_lowest B_lowest M_lowest K_lowest ok_remainder_by B_remainder_by M_remainder_by K_remainder_by
  have ok_is_fraction := ok_is_fraction (P := l.prog) (w := w) (mg := mg) (base := base) (C := C) F_is_fraction rfl ok_gcd B_gcd M_gcd K_gcd
  have ok_is_good := ok_is_good (P := l.prog) (w := w) (mg := mg) (base := base) (C := C) F_is_good rfl ok_is_fraction B_is_fraction M_is_fraction K_is_fraction ok_gcd B_gcd M_gcd K_gcd
  have ok_check_fraction := ok_check_fraction (P := l.prog) (w := w) (mg := mg) (base := base) (C := C) F_check_fraction rfl ck_Map fl_Map ok_is_good B_is_good M_is_good K_is_good ok_Map_modulus B_Map_modulus pr_Map_modulus
  have ok_walk := ok_walk (P := l.prog) (w := w) (mg := mg) (base := base) (C := C) F_walk rfl n_range ck_Map fl_Map ok_stepped B_stepped M_stepped K_stepped ok_Map_rules B_Map_rules pr_Map_rules ok_Map_modulus B_Map_modulus pr_Map_modulus ok_check_number B_check_number M_check_number K_check_number ok_check_fraction B_check_fraction M_check_fraction K_check_fraction
  have ok_after := ok_after (P := l.prog) (w := w) (mg := mg) (base := base) (C := C) F_after rfl ok_walk B_walk M_walk K_walk
  have ok_word_of := ok_word_of (P := l.prog) (w := w) (mg := mg) (base := base) (C := C) F_word_of rfl ck_Map fl_Map ok_walk B_walk M_walk K_walk ok_remainder_by B_remainder_by M_remainder_by K_remainder_by ok_Map_modulus B_Map_modulus pr_Map_modulus
  have ok_word_round := ok_word_round (P := l.prog) (w := w) (mg := mg) (base := base) (C := C) F_word_round rfl ok_word_of B_word_of M_word_of K_word_of ok_walk B_walk M_walk K_walk ok_check_number B_check_number M_check_number K_check_number ok_check_fraction B_check_fraction M_check_fraction K_check_fraction
  have ok_judge_ring := ok_judge_ring (P := l.prog) (w := w) (mg := mg) (base := base) (C := C) F_judge_ring rfl n_all n_len n_range n_set ck_Map fl_Map ok_stepped B_stepped M_stepped K_stepped ok_Map_rules B_Map_rules pr_Map_rules ok_is_good B_is_good M_is_good K_is_good ok_Map_modulus B_Map_modulus pr_Map_modulus
  have ok_law_take := ok_law_take (P := l.prog) (w := w) (mg := mg) (base := base) (C := C) F_law_take rfl n_int
  have ok_law_is_round := ok_law_is_round (P := l.prog) (w := w) (mg := mg) (base := base) (C := C) F_law_is_round rfl n_all n_int n_len ok_after B_after M_after K_after ok_word_round B_word_round M_word_round K_word_round ok_judge_ring B_judge_ring M_judge_ring K_judge_ring ok_law_take B_law_take M_law_take K_law_take
  have ok_law_right := ok_law_right (P := l.prog) (w := w) (mg := mg) (base := base) (C := C) F_law_right rfl n_int n_len n_list n_min n_range n_sorted ok_whole_rings B_whole_rings M_whole_rings K_whole_rings ok_law_power B_law_power M_law_power K_law_power ok_plain_words B_plain_words M_plain_words K_plain_words ok_is_whole_ring B_is_whole_ring M_is_whole_ring K_is_whole_ring ok_law_is_led_to B_law_is_led_to M_law_is_led_to K_law_is_led_to ok_law_is_round B_law_is_round M_law_is_round K_law_is_round ok_ring_of B_ring_of M_ring_of K_ring_of
  have ok_law_steps := ok_law_steps (P := l.prog) (w := w) (mg := mg) (base := base) (C := C) F_law_steps rfl n_int n_range ok_law_take B_law_take M_law_take K_law_take
  have ok_is_rule := ok_is_rule (P := l.prog) (w := w) (mg := mg) (base := base) (C := C) F_is_rule rfl ok_gcd B_gcd M_gcd K_gcd
  have ok_Map_init := ok_Map_init (P := l.prog) (w := w) (mg := mg) (base := base) (C := C) F_Map_init rfl n_enumerate n_len ck_Map fl_Map ok_is_rule B_is_rule M_is_rule K_is_rule
  have ok_law_closing := ok_law_closing (P := l.prog) (w := w) (mg := mg) (base := base) (C := C) F_law_closing rfl n_int n_len n_list n_min n_range ok_law_take B_law_take M_law_take K_law_take
  have ok_law_gcd := ok_law_gcd (P := l.prog) (w := w) (mg := mg) (base := base) (C := C) F_law_gcd rfl n_abs n_int
  have ok_law_rules := ok_law_rules (P := l.prog) (w := w) (mg := mg) (base := base) (C := C) F_law_rules rfl n_range ok_law_take B_law_take M_law_take K_law_take ok_law_gcd B_law_gcd M_law_gcd K_law_gcd
  have ok_law_source := ok_law_source (P := l.prog) (w := w) (mg := mg) (base := base) (C := C) F_law_source rfl n_abs n_int n_len n_max
  have ok_law := ok_law (P := l.prog) (w := w) (mg := mg) (base := base) (C := C) F_law rfl n_len n_list n_max n_min n_range ck_Map fl_Map ok_law_right B_law_right M_law_right K_law_right ok_law_steps B_law_steps M_law_steps K_law_steps ok_Map_rules B_Map_rules pr_Map_rules ok_Map_init B_Map_init mk_Map mg_Map ok_law_take B_law_take M_law_take K_law_take ok_law_closing B_law_closing M_law_closing K_law_closing ok_law_rules B_law_rules M_law_rules K_law_rules ok_law_source B_law_source M_law_source K_law_source
  exact law_end ok_law rfl fun ns h1 h2 => ⟨ns, rfl, h2, by omega, rfl⟩
end NW.K90
end TL
open PySem PySem.W PyProof.Rows
set_option maxRecDepth 100000 in
set_option maxHeartbeats 0 in
theorem PySem.Challenge.cw_reststeps_k90_whole_all_that_comes_round_holds : PySem.Challenge.rw_reststeps_k90_whole_all_that_comes_round.Holds := by
  w_on; o_law; k_head; (case hw => w_witness2)
  k_fill
  refine TL.walkT (l := PySem.Challenge.rw_reststeps_k90_whole_all_that_comes_round) (k := 10) rfl rfl ⟨rfl, by decide, by decide⟩ (fun w h Y => PySem.W.kIn_of Y) ?F
  case F =>
    intro w mg fa h KX G hmg
    refine' TL.NW.K90.all_mk KX G hmg ?a_Map ?at_is_plain_and_least ?lo_is_plain_and_least ?co_is_plain_and_least ?ke_is_plain_and_least ?at_check_number ?lo_check_number ?co_check_number ?ke_check_number ?at_plain_words ?lo_plain_words ?co_plain_words ?ke_plain_words ?at_Map_modulus ?gt_Map_modulus ?tk_Map_modulus ?rc_Map_modulus ?lo_Map_modulus ?co_Map_modulus ?ke_Map_modulus ?at_joined_form ?lo_joined_form ?co_joined_form ?ke_joined_form ?at_Map_rules ?gt_Map_rules ?tk_Map_rules ?rc_Map_rules ?lo_Map_rules ?co_Map_rules ?ke_Map_rules ?at_check_word ?lo_check_word ?co_check_word ?ke_check_word ?at_form_of ?lo_form_of ?co_form_of ?ke_form_of ?at_check_again ?lo_check_again ?co_check_again ?ke_check_again ?at_is_whole_ring ?lo_is_whole_ring ?co_is_whole_ring ?ke_is_whole_ring ?at_gcd ?lo_gcd ?co_gcd ?ke_gcd ?at_lowest ?lo_lowest ?co_lowest ?ke_lowest ?at_ring_of ?lo_ring_of ?co_ring_of ?ke_ring_of ?at_whole_rings ?lo_whole_rings ?co_whole_rings ?ke_whole_rings ?at_law_power ?lo_law_power ?co_law_power ?ke_law_power ?at_whole_before ?lo_whole_before ?co_whole_before ?ke_whole_before ?at_numbers_before ?lo_numbers_before ?co_numbers_before ?ke_numbers_before ?at_classes_before ?lo_classes_before ?co_classes_before ?ke_classes_before ?at_law_is_led_to ?lo_law_is_led_to ?co_law_is_led_to ?ke_law_is_led_to ?at_inverse ?lo_inverse ?co_inverse ?ke_inverse ?at_remainder_by ?lo_remainder_by ?co_remainder_by ?ke_remainder_by ?at_stepped ?lo_stepped ?co_stepped ?ke_stepped ?at_is_fraction ?lo_is_fraction ?co_is_fraction ?ke_is_fraction ?at_is_good ?lo_is_good ?co_is_good ?ke_is_good ?at_check_fraction ?lo_check_fraction ?co_check_fraction ?ke_check_fraction ?at_walk ?lo_walk ?co_walk ?ke_walk ?at_after ?lo_after ?co_after ?ke_after ?at_word_of ?lo_word_of ?co_word_of ?ke_word_of ?at_word_round ?lo_word_round ?co_word_round ?ke_word_round ?at_judge_ring ?lo_judge_ring ?co_judge_ring ?ke_judge_ring ?at_law_take ?lo_law_take ?co_law_take ?ke_law_take ?at_law_is_round ?lo_law_is_round ?co_law_is_round ?ke_law_is_round ?at_law_right ?lo_law_right ?co_law_right ?ke_law_right ?at_law_steps ?lo_law_steps ?co_law_steps ?ke_law_steps ?at_is_rule ?lo_is_rule ?co_is_rule ?ke_is_rule ?at_Map_init ?is_Map_init ?lo_Map_init ?co_Map_init ?ke_Map_init ?at_law_closing ?lo_law_closing ?co_law_closing ?ke_law_closing ?at_law_gcd ?lo_law_gcd ?co_law_gcd ?ke_law_gcd ?at_law_rules ?lo_law_rules ?co_law_rules ?ke_law_rules ?at_law_source ?lo_law_source ?co_law_source ?ke_law_source ?at_law ?lo_law ?co_law ?ke_law ?pg_Map ?hd_Map ?po_Map ?sa_Map ?ms_Map ?kc_Map ?nf_Map_base ?nf_Map_rows ?z_abs ?z_all ?z_enumerate ?z_int ?z_len ?z_list ?z_max ?z_min ?z_range ?z_set ?z_sorted
    (case a_Map => k_is)
    (case at_is_plain_and_least => k_is)
    (case lo_is_plain_and_least => k_is)
    (case co_is_plain_and_least => k_is)
    (case ke_is_plain_and_least => k_is)
    (case at_check_number => k_is)
    (case lo_check_number => k_is)
    (case co_check_number => k_is)
    (case ke_check_number => k_is)
    (case at_plain_words => k_is)
    (case lo_plain_words => k_is)
    (case co_plain_words => k_is)
    (case ke_plain_words => k_is)
    (case at_Map_modulus => k_is)
    (case gt_Map_modulus => k_is)
    (case tk_Map_modulus => k_is)
    (case rc_Map_modulus => k_is)
    (case lo_Map_modulus => k_is)
    (case co_Map_modulus => k_is)
    (case ke_Map_modulus => k_is)
    (case at_joined_form => k_is)
    (case lo_joined_form => k_is)
    (case co_joined_form => k_is)
    (case ke_joined_form => k_is)
    (case at_Map_rules => k_is)
    (case gt_Map_rules => k_is)
    (case tk_Map_rules => k_is)
    (case rc_Map_rules => k_is)
    (case lo_Map_rules => k_is)
    (case co_Map_rules => k_is)
    (case ke_Map_rules => k_is)
    (case at_check_word => k_is)
    (case lo_check_word => k_is)
    (case co_check_word => k_is)
    (case ke_check_word => k_is)
    (case at_form_of => k_is)
    (case lo_form_of => k_is)
    (case co_form_of => k_is)
    (case ke_form_of => k_is)
    (case at_check_again => k_is)
    (case lo_check_again => k_is)
    (case co_check_again => k_is)
    (case ke_check_again => k_is)
    (case at_is_whole_ring => k_is)
    (case lo_is_whole_ring => k_is)
    (case co_is_whole_ring => k_is)
    (case ke_is_whole_ring => k_is)
    (case at_gcd => k_is)
    (case lo_gcd => k_is)
    (case co_gcd => k_is)
    (case ke_gcd => k_is)
    (case at_lowest => k_is)
    (case lo_lowest => k_is)
    (case co_lowest => k_is)
    (case ke_lowest => k_is)
    (case at_ring_of => k_is)
    (case lo_ring_of => k_is)
    (case co_ring_of => k_is)
    (case ke_ring_of => k_is)
    (case at_whole_rings => k_is)
    (case lo_whole_rings => k_is)
    (case co_whole_rings => k_is)
    (case ke_whole_rings => k_is)
    (case at_law_power => k_is)
    (case lo_law_power => k_is)
    (case co_law_power => k_is)
    (case ke_law_power => k_is)
    (case at_whole_before => k_is)
    (case lo_whole_before => k_is)
    (case co_whole_before => k_is)
    (case ke_whole_before => k_is)
    (case at_numbers_before => k_is)
    (case lo_numbers_before => k_is)
    (case co_numbers_before => k_is)
    (case ke_numbers_before => k_is)
    (case at_classes_before => k_is)
    (case lo_classes_before => k_is)
    (case co_classes_before => k_is)
    (case ke_classes_before => k_is)
    (case at_law_is_led_to => k_is)
    (case lo_law_is_led_to => k_is)
    (case co_law_is_led_to => k_is)
    (case ke_law_is_led_to => k_is)
    (case at_inverse => k_is)
    (case lo_inverse => k_is)
    (case co_inverse => k_is)
    (case ke_inverse => k_is)
    (case at_remainder_by => k_is)
    (case lo_remainder_by => k_is)
    (case co_remainder_by => k_is)
    (case ke_remainder_by => k_is)
    (case at_stepped => k_is)
    (case lo_stepped => k_is)
    (case co_stepped => k_is)
    (case ke_stepped => k_is)
    (case at_is_fraction => k_is)
    (case lo_is_fraction => k_is)
    (case co_is_fraction => k_is)
    (case ke_is_fraction => k_is)
    (case at_is_good => k_is)
    (case lo_is_good => k_is)
    (case co_is_good => k_is)
    (case ke_is_good => k_is)
    (case at_check_fraction => k_is)
    (case lo_check_fraction => k_is)
    (case co_check_fraction => k_is)
    (case ke_check_fraction => k_is)
    (case at_walk => k_is)
    (case lo_walk => k_is)
    (case co_walk => k_is)
    (case ke_walk => k_is)
    (case at_after => k_is)
    (case lo_after => k_is)
    (case co_after => k_is)
    (case ke_after => k_is)
    (case at_word_of => k_is)
    (case lo_word_of => k_is)
    (case co_word_of => k_is)
    (case ke_word_of => k_is)
    (case at_word_round => k_is)
    (case lo_word_round => k_is)
    (case co_word_round => k_is)
    (case ke_word_round => k_is)
    (case at_judge_ring => k_is)
    (case lo_judge_ring => k_is)
    (case co_judge_ring => k_is)
    (case ke_judge_ring => k_is)
    (case at_law_take => k_is)
    (case lo_law_take => k_is)
    (case co_law_take => k_is)
    (case ke_law_take => k_is)
    (case at_law_is_round => k_is)
    (case lo_law_is_round => k_is)
    (case co_law_is_round => k_is)
    (case ke_law_is_round => k_is)
    (case at_law_right => k_is)
    (case lo_law_right => k_is)
    (case co_law_right => k_is)
    (case ke_law_right => k_is)
    (case at_law_steps => k_is)
    (case lo_law_steps => k_is)
    (case co_law_steps => k_is)
    (case ke_law_steps => k_is)
    (case at_is_rule => k_is)
    (case lo_is_rule => k_is)
    (case co_is_rule => k_is)
    (case ke_is_rule => k_is)
    (case at_Map_init => k_is)
    (case is_Map_init => k_is)
    (case lo_Map_init => k_is)
    (case co_Map_init => k_is)
    (case ke_Map_init => k_is)
    (case at_law_closing => k_is)
    (case lo_law_closing => k_is)
    (case co_law_closing => k_is)
    (case ke_law_closing => k_is)
    (case at_law_gcd => k_is)
    (case lo_law_gcd => k_is)
    (case co_law_gcd => k_is)
    (case ke_law_gcd => k_is)
    (case at_law_rules => k_is)
    (case lo_law_rules => k_is)
    (case co_law_rules => k_is)
    (case ke_law_rules => k_is)
    (case at_law_source => k_is)
    (case lo_law_source => k_is)
    (case co_law_source => k_is)
    (case ke_law_source => k_is)
    (case at_law => k_is)
    (case lo_law => k_is)
    (case co_law => k_is)
    (case ke_law => k_is)
    (case pg_Map => k_is)
    (case hd_Map => k_is)
    (case po_Map => k_is)
    (case sa_Map => k_is)
    (case ms_Map => k_is)
    (case kc_Map => k_is)
    (case nf_Map_base => k_is)
    (case nf_Map_rows => k_is)
    (case z_abs => k_is)
    (case z_all => k_is)
    (case z_enumerate => k_is)
    (case z_int => k_is)
    (case z_len => k_is)
    (case z_list => k_is)
    (case z_max => k_is)
    (case z_min => k_is)
    (case z_range => k_is)
    (case z_set => k_is)
    (case z_sorted => k_is)

