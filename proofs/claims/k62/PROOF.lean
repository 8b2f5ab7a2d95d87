import PyProof.Rows.All
import Wide.All
import OpenK.AllK
import Wide.FinOn
import HandS.ForMost
import HandS.ForExc
import HandS.Property
import HandS.Wide
import HandS.EndBits
import HandS.Style
import HandS.WordsList
import HandS.IsInst
import HandS.Codes
import HandS.SlotsOwn
import HandS.MakeKwOnly
import HandS.Conv
import HandS.NoneIn
import HandS.Exc
import HandS.ExcInit
import HandS.WordsExc
import KE.KExcIs
import HandS.ExcField
import HandS.ExcIs
import HandS.SortInts
import HandS.Deep
import PyProof.LongRange
import HandS.FStr
import HandS.Text
import HandS.Dict
import HandS.Iter
import HandS.SetKeys
import KE.KDictDisplayH
import PyProof.DictMoreH
import KE.KTupSum
import KE.SortData
import KE.DataCmp
import HandS.TupSets
import PyProof.Rows.SetFrom
import PySem.Challenge.RW_reststeps_k62_least_moduli
set_option Elab.async false
set_option linter.all false
set_option maxRecDepth 100000
set_option maxHeartbeats 2000000
/-! The tree layer: values as trees, defs as predicate transformers over environments of trees. -/
namespace TL
open PySem L2

/-- at a: an exception of the class at C, its dict at dx -/
def exC (a C dx : Addr) : HO := .ext fun h => ∃ (oe : Obj) (vs : Array Value), h.get? a = some oe ∧ oe.cls = .ref C ∧ oe.dict = some dx ∧ oe.data = .fields vs
/-- a value as a tree (dct: an exception, [its class] [its value]) -/
inductive D where
  | non | bl (b : Bool) | int (i : Int) | str (x : Str)
  | tup (xs : List D) | lst (xs : List D) | obj (c : Nat) (xs : List D) | dct (ks xs : List D) | dic (ks xs : List D) | ptr (a : Addr)

/-- the classes: where each stands, the names of its fields in order; what the top has written -/
structure CC where
  cl : Nat → Addr × List Str
  K : PySem.W.Frag
/-- a key of a dict as a tree -/
def keyD : Key → D
  | .inl i => .int i
  | .inr x => .str x
/-- a dict stands at a: the kind of its keys (tuples or not) and its keys, its values -/
def DctO (H : Hp) (a : Addr) (ks : List D) (vs : List V) : Prop :=
  (∃ kk : List Key, ks = .bl false :: kk.map keyD ∧ kk.length = vs.length ∧ kk.Nodup ∧ H a = some (.dK (kk.zip vs))) ∨
  (∃ kt : List (List Key), ks = .bl true :: kt.map (fun k => .tup (k.map keyD)) ∧ kt.length = vs.length ∧ kt.Nodup ∧ H a = some (.dT (kt.zip vs)))
/-- the same, or the dict is locked: read alone -/
def DctR (H : Hp) (a : Addr) (ks : List D) (vs : List V) : Prop :=
  (∃ kk : List Key, ks = .bl false :: kk.map keyD ∧ kk.length = vs.length ∧ kk.Nodup ∧ Rd H a (.dK (kk.zip vs))) ∨
  (∃ kt : List (List Key), ks = .bl true :: kt.map (fun k => .tup (k.map keyD)) ∧ kt.length = vs.length ∧ kt.Nodup ∧ Rd H a (.dT (kt.zip vs)))
theorem DctO.rd {H : Hp} {a : Addr} {ks : List D} {vs : List V} (r : DctO H a ks vs) : DctR H a ks vs := by
  rcases r with ⟨kk, h1, h2, h3, h4⟩ | ⟨kk, h1, h2, h3, h4⟩
  · exact .inl ⟨kk, h1, h2, h3, .inl h4⟩
  · exact .inr ⟨kk, h1, h2, h3, .inl h4⟩
theorem DctR.heap {H H' : Hp} {a : Addr} {ks : List D} {vs : List V} (r : DctR H a ks vs) (e : ∀ o, H a = some o → H' a = some o) : DctR H' a ks vs := by
  rcases r with ⟨kk, h1, h2, h3, h4⟩ | ⟨kk, h1, h2, h3, h4⟩
  · exact .inl ⟨kk, h1, h2, h3, h4.imp (e _) fun ⟨o, q⟩ => ⟨o, e _ q⟩⟩
  · exact .inr ⟨kk, h1, h2, h3, h4.imp (e _) fun ⟨o, q⟩ => ⟨o, e _ q⟩⟩
theorem DctO.heap {H H' : Hp} {a : Addr} {ks : List D} {vs : List V} (r : DctO H a ks vs) (e : ∀ o, H a = some o → H' a = some o) : DctO H' a ks vs := by
  rcases r with ⟨kk, h1, h2, h3, h4⟩ | ⟨kk, h1, h2, h3, h4⟩
  · exact .inl ⟨kk, h1, h2, h3, e _ h4⟩
  · exact .inr ⟨kk, h1, h2, h3, e _ h4⟩
theorem DctO.ob {H : Hp} {a : Addr} {ks : List D} {vs : List V} (r : DctO H a ks vs) : ∃ o, H a = some o ∧ Mut (some o) := by
  rcases r with ⟨kk, h1, h2, h3, h4⟩ | ⟨kk, h1, h2, h3, h4⟩
  · exact ⟨_, h4, trivial⟩
  · exact ⟨_, h4, trivial⟩
mutual
/-- the value v stands for the tree d, all its objects within G -/
def Rep (cc : CC) (G : Hp) : V → D → Prop
  | v, .non => v = .non
  | v, .bl b => v = .bl b
  | v, .int i => v = .int i
  | v, .str x => v = .str x
  | v, .ptr a => v = .ref a
  | v, .tup ds => ∃ a vs, v = .ref a ∧ G a = some (.tup vs) ∧ Reps cc G vs ds
  | v, .lst ds => ∃ a vs, v = .ref a ∧ SqL cc.K G a vs ∧ Reps cc G vs ds
  | v, .obj c ds => ∃ a dx vs, v = .ref a ∧ G a = some (.ins (cc.cl c).1 dx ((cc.cl c).2.zip vs)) ∧ vs.length ≤ (cc.cl c).2.length ∧ Reps cc G vs ds
  | v, .dct ks ds => ∃ (c : Nat) (a dx : Addr) (u : V), ks = [.int c] ∧ v = .ref a ∧ G a = some (exC a (cc.cl c).1 dx) ∧ G dx = some (.xd [("value", u)]) ∧ Reps cc G [u] ds
  | v, .dic ks ds => ∃ a vs, v = .ref a ∧ DctR G a ks vs ∧ Reps cc G vs ds
def Reps (cc : CC) (G : Hp) : List V → List D → Prop
  | vs, [] => vs = []
  | vs, d :: ds => ∃ v r, vs = v :: r ∧ Rep cc G v d ∧ Reps cc G r ds
end

def LE (G G' : Hp) : Prop := ∀ a o, G a = some o → G' a = some o
theorem LE.refl (G : Hp) : LE G G := fun _ _ h => h
theorem LE.trans {A B C : Hp} (h : LE A B) (k : LE B C) : LE A C := fun a o e => k a o (h a o e)
theorem LE.rd {G G' : Hp} (h : LE G G') {a : Addr} {o : HO} (r : Rd G a o) : Rd G' a o := by
  rcases r with r | ⟨u, r⟩
  · exact .inl (h _ _ r)
  · exact .inr ⟨u, h _ _ r⟩
theorem LE.sql {K : PySem.W.Frag} {G G' : Hp} (h : LE G G') {a : Addr} {xs : List V} (r : SqL K G a xs) : SqL K G' a xs := by
  rcases r with r | r
  · exact .inl (h.rd r)
  · exact .inr r
theorem LE.upd {G : Hp} {a : Addr} {o : HO} (h : G a = none) : LE G (upd G a o) := fun b u e => by
  rw [upd_ne (ne_of_none e h)]; exact e
mutual
theorem Rep.mono {cc : CC} {G G' : Hp} (h : LE G G') : ∀ {d : D} {v : V}, Rep cc G v d → Rep cc G' v d
  | .non, _, r => by unfold Rep at r ⊢; exact r
  | .bl _, _, r => by unfold Rep at r ⊢; exact r
  | .int _, _, r => by unfold Rep at r ⊢; exact r
  | .str _, _, r => by unfold Rep at r ⊢; exact r
  | .ptr _, _, r => by unfold Rep at r ⊢; exact r
  | .tup ds, _, r => by
    unfold Rep at r ⊢
    obtain ⟨a, vs, e, g, q⟩ := r
    exact ⟨a, vs, e, h _ _ g, Reps.mono h q⟩
  | .lst ds, _, r => by
    unfold Rep at r ⊢
    obtain ⟨a, vs, e, g, q⟩ := r
    exact ⟨a, vs, e, h.sql g, Reps.mono h q⟩
  | .obj c ds, _, r => by
    unfold Rep at r ⊢
    obtain ⟨a, dx, vs, e, g, l, q⟩ := r
    exact ⟨a, dx, vs, e, h _ _ g, l, Reps.mono h q⟩
  | .dct _ ds, _, r => by
    unfold Rep at r ⊢
    obtain ⟨c, a, dx, u, e1, e2, g1, g2, q⟩ := r
    exact ⟨c, a, dx, u, e1, e2, h _ _ g1, h _ _ g2, Reps.mono h q⟩
  | .dic _ ds, _, r => by
    unfold Rep at r ⊢
    obtain ⟨a, vs, e, g, q⟩ := r
    exact ⟨a, vs, e, g.heap fun o ho => h _ _ ho, Reps.mono h q⟩
theorem Reps.mono {cc : CC} {G G' : Hp} (h : LE G G') : ∀ {ds : List D} {vs : List V}, Reps cc G vs ds → Reps cc G' vs ds
  | [], _, r => by unfold Reps at r ⊢; exact r
  | d :: ds, _, r => by
    unfold Reps at r ⊢
    obtain ⟨v, q, e, a, b⟩ := r
    exact ⟨v, q, e, Rep.mono h a, Reps.mono h b⟩
end

section
variable {cc : CC} {G : Hp}
theorem Reps.nil : Reps cc G [] [] := by unfold Reps; rfl
theorem Reps.cons {v : V} {d : D} {vs : List V} {ds : List D} (a : Rep cc G v d) (b : Reps cc G vs ds) : Reps cc G (v :: vs) (d :: ds) := by
  unfold Reps; exact ⟨v, vs, rfl, a, b⟩
theorem Reps.inv_cons {vs : List V} {d : D} {ds : List D} (h : Reps cc G vs (d :: ds)) : ∃ v r, vs = v :: r ∧ Rep cc G v d ∧ Reps cc G r ds := by
  unfold Reps at h; exact h
theorem Reps.inv_nil {vs : List V} (h : Reps cc G vs []) : vs = [] := by unfold Reps at h; exact h
theorem Reps.length : ∀ {ds : List D} {vs : List V}, Reps cc G vs ds → vs.length = ds.length
  | [], _, h => by rw [h.inv_nil]; rfl
  | d :: ds, _, h => by obtain ⟨v, r, rfl, _, q⟩ := h.inv_cons; simp [Reps.length q]
theorem Reps.append : ∀ {ds es : List D} {vs us : List V}, Reps cc G vs ds → Reps cc G us es → Reps cc G (vs ++ us) (ds ++ es)
  | [], _, _, _, h, k => by rw [h.inv_nil]; exact k
  | d :: ds, _, _, _, h, k => by obtain ⟨v, r, rfl, a, q⟩ := h.inv_cons; exact Reps.cons a (Reps.append q k)
theorem Reps.get : ∀ {ds : List D} {vs : List V} {i : Nat} {d : D}, Reps cc G vs ds → ds[i]? = some d → ∃ v, vs[i]? = some v ∧ Rep cc G v d
  | [], _, _, _, _, e => by simp at e
  | _ :: _, _, 0, _, h, e => by
    obtain ⟨v, r, rfl, a, q⟩ := h.inv_cons
    simp at e; subst e
    exact ⟨v, rfl, a⟩
  | _ :: _, _, i + 1, _, h, e => by
    obtain ⟨v, r, rfl, a, q⟩ := h.inv_cons
    simp at e
    obtain ⟨u, e1, e2⟩ := Reps.get q e
    exact ⟨u, by simpa using e1, e2⟩
theorem Reps.get' : ∀ {ds : List D} {vs : List V} {i : Nat} {v : V}, Reps cc G vs ds → vs[i]? = some v → ∃ d, ds[i]? = some d ∧ Rep cc G v d
  | [], _, _, _, h, e => by rw [h.inv_nil] at e; simp at e
  | _ :: _, _, 0, _, h, e => by
    obtain ⟨v, r, rfl, a, q⟩ := h.inv_cons
    simp at e; subst e
    exact ⟨_, rfl, a⟩
  | _ :: _, _, i + 1, _, h, e => by
    obtain ⟨v, r, rfl, a, q⟩ := h.inv_cons
    simp at e
    obtain ⟨u, e1, e2⟩ := Reps.get' q e
    exact ⟨u, by simpa using e1, e2⟩
theorem Reps.set : ∀ {ds : List D} {vs : List V} (i : Nat) {v : V} {d : D}, Reps cc G vs ds → Rep cc G v d → Reps cc G (vs.set i v) (ds.set i d)
  | [], _, _, _, _, h, _ => by rw [h.inv_nil]; exact Reps.nil
  | _ :: _, _, 0, _, _, h, k => by
    obtain ⟨v, r, rfl, a, q⟩ := h.inv_cons
    exact Reps.cons k q
  | _ :: _, _, i + 1, _, _, h, k => by
    obtain ⟨v, r, rfl, a, q⟩ := h.inv_cons
    exact Reps.cons a (Reps.set i q k)
theorem Reps.take : ∀ {ds : List D} {vs : List V} (n : Nat), Reps cc G vs ds → Reps cc G (vs.take n) (ds.take n)
  | _, _, 0, _ => by simp; exact Reps.nil
  | [], _, _ + 1, h => by rw [h.inv_nil]; exact Reps.nil
  | _ :: _, _, n + 1, h => by
    obtain ⟨v, r, rfl, a, q⟩ := h.inv_cons
    exact Reps.cons a (Reps.take n q)
theorem Reps.drop : ∀ {ds : List D} {vs : List V} (n : Nat), Reps cc G vs ds → Reps cc G (vs.drop n) (ds.drop n)
  | _, _, 0, h => by simpa using h
  | [], _, _ + 1, h => by rw [h.inv_nil]; exact Reps.nil
  | _ :: _, _, n + 1, h => by
    obtain ⟨v, r, rfl, a, q⟩ := h.inv_cons
    exact Reps.drop n q
theorem Reps.reverse : ∀ {ds : List D} {vs : List V}, Reps cc G vs ds → Reps cc G vs.reverse ds.reverse
  | [], _, h => by rw [h.inv_nil]; exact Reps.nil
  | _ :: _, _, h => by
    obtain ⟨v, r, rfl, a, q⟩ := h.inv_cons
    rw [List.reverse_cons, List.reverse_cons]
    exact (Reps.reverse q).append (Reps.cons a Reps.nil)
end

/-- a slot of a def: nothing known; a value that may stand elsewhere too; a root that stands nowhere else (p: it is the caller's, handed in to be changed) -/
inductive Sl where
  | no | sh (d : D) | own (p : Bool) (a : Addr) (d : D)
abbrev REnv := List Sl
/-- what an expression gives: the value of a name; a value; a new root; a ghost (a root of no name, behind the frame); a value with new roots within -/
inductive Rv where
  | loc (i : Nat) | sh (d : D) | fr (a : Addr) (d : D) | gh (j : Nat) (a : Addr) | gx (as : List Addr) (cs : List D) (t : D)
def getL (ρ : REnv) (i : Nat) : D := match ρ[i]? with | some (.sh d) => d | some (.own _ _ d) => d | _ => .non
/-- the addresses of the roots that are known -/
def owns : REnv → List Addr
  | [] => []
  | .own _ a _ :: ρ => a :: owns ρ
  | _ :: ρ => owns ρ
def Rv.get (r : Rv) (ρ : REnv) : D := match r with | .loc i => getL ρ i | .sh d => d | .fr _ d => d | .gh j _ => getL ρ j | .gx _ _ t => t
def Rv.pend (r : Rv) : Rv := match r with | .fr _ d => .sh d | .gx _ _ t => .sh t | r => r
theorem Rv.get_pend (r : Rv) (ρ : REnv) : r.pend.get ρ = r.get ρ := by cases r <;> rfl
def bound (ρ : REnv) (i : Nat) : Prop := match ρ[i]? with | some (.sh _) => True | some (.own _ _ _) => True | _ => False

/-- what is wanted of an exception: its class, its value, the names -/
abbrev Xk := Nat → D → REnv → Prop
abbrev EW := Xk → REnv → (Rv → REnv → Prop) → Prop
abbrev TW := Xk → REnv → (Bool → REnv → Prop) → Prop
structure SK where
  nx : REnv → Prop
  rt : Rv → REnv → Prop
  bk : REnv → Prop := fun _ => False
  ct : REnv → Prop := fun _ => False
abbrev SW := Xk → REnv → SK → Prop
abbrev GW := D → REnv → (REnv → Prop) → Prop

/-- fixed through a def's run: where the classes stand, the heap and the known part of it at the entry, the arguments that may be changed -/
structure Zone where
  cc : CC
  H0 : Hp
  G0 : Hp
  mu : List Addr
  xk : Xk
  n : Nat

/-- the object at a is the root of d, its parts within G -/
def Root (cc : CC) (G H : Hp) (a : Addr) : D → Prop
  | .lst ds => ∃ vs, H a = some (.lst vs) ∧ Reps cc G vs ds
  | .obj c ds => ∃ dx vs, H a = some (.ins (cc.cl c).1 dx ((cc.cl c).2.zip vs)) ∧ vs.length ≤ (cc.cl c).2.length ∧ Reps cc G vs ds
  | .dic ks ds => ∃ vs, DctO H a ks vs ∧ Reps cc G vs ds
  | _ => False
def SlOk (cc : CC) (G H : Hp) (i : Nat) (σ : St) : Sl → Prop
  | .no => True
  | .sh d => ∃ v, σ[i]? = some (some v) ∧ Rep cc G v d
  | .own _ a d => (σ[i]? = some (some (.ref a)) ∨ σ.length ≤ i) ∧ Root cc G H a d
structure SR (Z : Zone) (ρ : REnv) (G : Hp) (σ : St) (H : Hp) : Prop where
  len : σ.length = Z.n ∧ Z.n ≤ ρ.length
  sub : LE G H
  slot : ∀ (i : Nat) (s : Sl), ρ[i]? = some s → SlOk Z.cc G H i σ s
  inj : ∀ (i j : Nat) (p q : Bool) (a : Addr) (d : D) (b : Addr) (e : D), ρ[i]? = some (.own p a d) → ρ[j]? = some (.own q b e) → i ≠ j → a ≠ b
  out : ∀ (i : Nat) (p : Bool) (a : Addr) (d : D), ρ[i]? = some (.own p a d) → G a = none
  ent : ∀ a o, Z.H0 a = some o → a ∉ Z.mu → H a = some o
  frs : ∀ (i : Nat) (p : Bool) (a : Addr) (d : D), ρ[i]? = some (.own p a d) → if p then a ∈ Z.mu else (Z.H0 a = none ∧ a ∉ Z.mu)
  gnew : ∀ a, G a ≠ none → Z.G0 a ≠ none ∨ Z.H0 a = none
  g0 : LE Z.G0 G
  mout : ∀ a ∈ Z.mu, G a = none
  mux : ∀ a ∈ Z.mu, H a ≠ none
/-- a new root at a -/
def FrOk (Z : Zone) (ρ : REnv) (G H : Hp) (a : Addr) (d : D) : Prop := Root Z.cc G H a d ∧ G a = none ∧ (∀ (i : Nat) (p : Bool) (b : Addr) (e : D), ρ[i]? = some (.own p b e) → b ≠ a) ∧ Z.H0 a = none ∧ a ∉ Z.mu
def RvOk (Z : Zone) (r : Rv) (ρ : REnv) (G : Hp) (σ : St) (H : Hp) (v : V) : Prop :=
  match r with
  | .loc i => σ[i]? = some (some v) ∧ bound ρ i
  | .sh d => Rep Z.cc G v d
  | .gh j a => v = .ref a ∧ ∃ p d, ρ[j]? = some (.own p a d)
  | .gx as cs t => as.Nodup ∧ as.length = cs.length ∧ Rep Z.cc G v t ∧ ∀ (i : Nat) (a : Addr) (d : D), as[i]? = some a → cs[i]? = some d → FrOk Z ρ G H a d
  | .fr a d => v = .ref a ∧ Root Z.cc G H a d ∧ G a = none ∧ (∀ (i : Nat) (p : Bool) (b : Addr) (e : D), ρ[i]? = some (.own p b e) → b ≠ a) ∧ Z.H0 a = none ∧ a ∉ Z.mu

theorem Root.mono {cc : CC} {G G' H : Hp} {a : Addr} {d : D} (h : LE G G') (r : Root cc G H a d) : Root cc G' H a d := by
  cases d <;> try exact r
  · obtain ⟨vs, e, q⟩ := r; exact ⟨vs, e, q.mono h⟩
  · obtain ⟨dx, vs, e, l, q⟩ := r; exact ⟨dx, vs, e, l, q.mono h⟩
  · obtain ⟨vs, e, q⟩ := r; exact ⟨vs, e, q.mono h⟩
/-- the root's object -/
theorem Root.ob {cc : CC} {G H : Hp} {a : Addr} {d : D} (r : Root cc G H a d) : ∃ o, H a = some o ∧ Mut (some o) := by
  cases d <;> try exact r.elim
  · obtain ⟨vs, e, q⟩ := r; exact ⟨_, e, trivial⟩
  · obtain ⟨dx, vs, e, l, q⟩ := r; exact ⟨_, e, trivial⟩
  · obtain ⟨vs, e, q⟩ := r; exact e.ob
theorem Root.heap {cc : CC} {G H H' : Hp} {a : Addr} {d : D} (r : Root cc G H a d) (e : ∀ o, H a = some o → H' a = some o) : Root cc G H' a d := by
  cases d <;> try exact r.elim
  · obtain ⟨vs, h, q⟩ := r; exact ⟨vs, e _ h, q⟩
  · obtain ⟨dx, vs, h, l, q⟩ := r; exact ⟨dx, vs, e _ h, l, q⟩
  · obtain ⟨vs, h, q⟩ := r; exact ⟨vs, h.heap e, q⟩
theorem Root.rep {cc : CC} {G H : Hp} {a : Addr} {d : D} (r : Root cc G H a d) (h : LE G H) : Rep cc H (.ref a) d := by
  cases d <;> try exact r.elim
  · obtain ⟨vs, e, q⟩ := r; unfold Rep; exact ⟨a, vs, rfl, SqL.of e, q.mono h⟩
  · obtain ⟨dx, vs, e, l, q⟩ := r; unfold Rep; exact ⟨a, dx, vs, rfl, e, l, q.mono h⟩
  · obtain ⟨vs, e, q⟩ := r; unfold Rep; exact ⟨a, vs, rfl, e.rd, q.mono h⟩
theorem Root.rep' {cc : CC} {G H : Hp} {a : Addr} {d : D} (r : Root cc G H a d) {o : HO} (ho : H a = some o) (n : G a = none) : Rep cc (upd G a o) (.ref a) d := by
  cases d <;> try exact r.elim
  · obtain ⟨vs, e, q⟩ := r; rw [ho] at e; cases e; unfold Rep; exact ⟨a, vs, rfl, SqL.of upd_same, q.mono (LE.upd n)⟩
  · obtain ⟨dx, vs, e, l, q⟩ := r; rw [ho] at e; cases e; unfold Rep; exact ⟨a, dx, vs, rfl, upd_same, l, q.mono (LE.upd n)⟩
  · obtain ⟨vs, e, q⟩ := r; unfold Rep; exact ⟨a, vs, rfl, e.rd.heap fun u hu => by rw [ho] at hu; cases hu; exact upd_same, q.mono (LE.upd n)⟩

theorem SlOk.mono {cc : CC} {G G' H : Hp} {i : Nat} {σ : St} {s : Sl} (h : LE G G') (r : SlOk cc G H i σ s) : SlOk cc G' H i σ s := by
  cases s with
  | no => trivial
  | sh d => obtain ⟨v, e, q⟩ := r; exact ⟨v, e, q.mono h⟩
  | own p a d => exact ⟨r.1, r.2.mono h⟩
end TL

namespace TL
open PySem L2

/-- v shows the tree d: its own object as it stands in H, its parts within G -/
def View (cc : CC) (G H : Hp) (v : V) : D → Prop
  | .non => v = .non
  | .bl b => v = .bl b
  | .int i => v = .int i
  | .str x => v = .str x
  | .ptr a => v = .ref a
  | .tup ds => ∃ a vs, v = .ref a ∧ H a = some (.tup vs) ∧ Reps cc G vs ds
  | .lst ds => ∃ a vs, v = .ref a ∧ SqL cc.K H a vs ∧ Reps cc G vs ds
  | .obj c ds => ∃ a dx vs, v = .ref a ∧ H a = some (.ins (cc.cl c).1 dx ((cc.cl c).2.zip vs)) ∧ vs.length ≤ (cc.cl c).2.length ∧ Reps cc G vs ds
  | .dct ks ds => ∃ (c : Nat) (a dx : Addr) (u : V), ks = [.int c] ∧ v = .ref a ∧ H a = some (exC a (cc.cl c).1 dx) ∧ H dx = some (.xd [("value", u)]) ∧ Reps cc G [u] ds
  | .dic ks ds => ∃ a vs, v = .ref a ∧ DctR H a ks vs ∧ Reps cc G vs ds
theorem View.of_rep {cc : CC} {G H : Hp} (h : LE G H) {v : V} {d : D} (r : Rep cc G v d) : View cc G H v d := by
  cases d <;> unfold Rep at r <;> try exact r
  · obtain ⟨a, vs, e, g, q⟩ := r; exact ⟨a, vs, e, h _ _ g, q⟩
  · obtain ⟨a, vs, e, g, q⟩ := r; exact ⟨a, vs, e, h.sql g, q⟩
  · obtain ⟨a, dx, vs, e, g, l, q⟩ := r; exact ⟨a, dx, vs, e, h _ _ g, l, q⟩
  · obtain ⟨c, a, dx, u, e1, e2, g1, g2, q⟩ := r; exact ⟨c, a, dx, u, e1, e2, h _ _ g1, h _ _ g2, q⟩
  · obtain ⟨a, vs, e, g, q⟩ := r; exact ⟨a, vs, e, g.heap fun o ho => h _ _ ho, q⟩
theorem View.of_root {cc : CC} {G H : Hp} {a : Addr} {d : D} (r : Root cc G H a d) : View cc G H (.ref a) d := by
  cases d <;> try exact r.elim
  · obtain ⟨vs, e, q⟩ := r; exact ⟨a, vs, rfl, SqL.of e, q⟩
  · obtain ⟨dx, vs, e, l, q⟩ := r; exact ⟨a, dx, vs, rfl, e, l, q⟩
  · obtain ⟨vs, e, q⟩ := r; exact ⟨a, vs, rfl, e.rd, q⟩

theorem own_in {σ : St} {i : Nat} {a : Addr} {v : V} (e : σ[i]? = some (some v)) (h : σ[i]? = some (some (.ref a)) ∨ σ.length ≤ i) : v = .ref a := by
  rcases h with h | h
  · rw [e] at h; cases h; rfl
  · rw [List.getElem?_eq_none h] at e; cases e
theorem own_at {σ : St} {i : Nat} {a : Addr} (hi : i < σ.length) (h : σ[i]? = some (some (.ref a)) ∨ σ.length ≤ i) : σ[i]? = some (some (.ref a)) := h.resolve_right (by omega)
theorem owns_set {σ : St} {i j : Nat} {x : Option V} {a : Addr} (hj : i ≠ j) (h : σ[i]? = some (some (.ref a)) ∨ σ.length ≤ i) : (σ.set j x)[i]? = some (some (.ref a)) ∨ (σ.set j x).length ≤ i := by
  rw [List.getElem?_set_ne (Ne.symm hj), List.length_set]; exact h
theorem owns_unset {σ : St} {i j : Nat} {x : Option V} {a : Addr} (hj : i ≠ j) (h : (σ.set j x)[i]? = some (some (.ref a)) ∨ (σ.set j x).length ≤ i) : σ[i]? = some (some (.ref a)) ∨ σ.length ≤ i := by
  rw [List.getElem?_set_ne (Ne.symm hj), List.length_set] at h; exact h
section
variable {Z : Zone} {ρ : REnv} {G H : Hp} {σ : St}
theorem FrOk.mono {ρ ρ' : REnv} {G G' H : Hp} {a : Addr} {d : D} (h : LE G G') (q : FrOk Z ρ G H a d) (ga : G' a = none) (hr : ∀ (i : Nat) (p : Bool) (b : Addr) (e : D), ρ'[i]? = some (.own p b e) → b ≠ a) : FrOk Z ρ' G' H a d :=
  ⟨q.1.mono h, ga, hr, q.2.2.2.1, q.2.2.2.2⟩
theorem SR.h0 (I : SR Z ρ G σ H) {p : Addr} (h : H p = none) : Z.H0 p = none ∧ p ∉ Z.mu := by
  have h2 : p ∉ Z.mu := fun m => I.mux p m h
  refine ⟨?_, h2⟩
  cases e : Z.H0 p with
  | none => rfl
  | some o => have := I.ent p o e h2; rw [h] at this; cases this
theorem SR.g (I : SR Z ρ G σ H) {p : Addr} (h : H p = none) : G p = none := by
  cases e : G p with
  | none => rfl
  | some o => have := I.sub p o e; rw [h] at this; cases this
theorem SR.own_ob (I : SR Z ρ G σ H) {i : Nat} {p : Bool} {a : Addr} {d : D} (h : ρ[i]? = some (.own p a d)) : Root Z.cc G H a d := (I.slot i _ h).2
theorem SR.own_ne (I : SR Z ρ G σ H) {i : Nat} {m : Bool} {a p : Addr} {d : D} (h : ρ[i]? = some (.own m a d)) (hp : H p = none) : a ≠ p := by
  obtain ⟨o, e, _⟩ := (I.own_ob h).ob
  exact ne_of_none e hp

/-- a new object, known -/
theorem SR.newG (I : SR Z ρ G σ H) {p : Addr} {o : HO} (hp : H p = none) : SR Z ρ (upd G p o) σ (upd H p o) := by
  have gp := I.g hp
  obtain ⟨z0, zm⟩ := I.h0 hp
  have hle : LE H (upd H p o) := LE.upd hp
  refine ⟨I.len, fun a u e => ?_, fun i s e => ?_, I.inj, fun i m a d e => ?_, fun a u e hm => hle _ _ (I.ent a u e hm), I.frs, fun a ha => ?_, fun a u e => ?_, fun a ha => ?_, fun a ha => ?_⟩
  · by_cases h : a = p
    · subst h; rw [upd_same] at e ⊢; exact e
    · rw [upd_ne h] at e ⊢; exact I.sub a u e
  · have q := I.slot i s e
    cases s with
    | no => trivial
    | sh d => obtain ⟨v, e1, r⟩ := q; exact ⟨v, e1, r.mono (LE.upd gp)⟩
    | own m a d => exact ⟨q.1, (q.2.mono (LE.upd gp)).heap fun u hu => hle _ _ hu⟩
  · rw [upd_ne (I.own_ne e hp)]; exact I.out i m a d e
  · by_cases h : a = p
    · subst h; exact .inr z0
    · rw [upd_ne h] at ha; exact I.gnew a ha
  · exact (LE.upd gp) _ _ (I.g0 a u e)
  · have : a ≠ p := fun h => zm (h ▸ ha)
    rw [upd_ne this]; exact I.mout a ha
  · have : a ≠ p := fun h => zm (h ▸ ha)
    rw [upd_ne this]; exact I.mux a ha
/-- a new object, not known -/
theorem SR.newH (I : SR Z ρ G σ H) {p : Addr} {o : HO} (hp : H p = none) : SR Z ρ G σ (upd H p o) := by
  have gp := I.g hp
  obtain ⟨z0, zm⟩ := I.h0 hp
  have hle : LE H (upd H p o) := LE.upd hp
  refine ⟨I.len, fun a u e => hle _ _ (I.sub a u e), fun i s e => ?_, I.inj, I.out, fun a u e hm => hle _ _ (I.ent a u e hm), I.frs, I.gnew, I.g0, I.mout, fun a ha => ?_⟩
  · have q := I.slot i s e
    cases s with
    | no => trivial
    | sh d => exact q
    | own m a d => exact ⟨q.1, q.2.heap fun u hu => hle _ _ hu⟩
  · have : a ≠ p := fun h => zm (h ▸ ha)
    rw [upd_ne this]; exact I.mux a ha
/-- an object that stands, not an own one: known from now on -/
theorem SR.know (I : SR Z ρ G σ H) {p : Addr} {o : HO} (hp : H p = some o) (hg : G p = none) (ho : ∀ (i : Nat) (m : Bool) (b : Addr) (e : D), ρ[i]? = some (.own m b e) → b ≠ p) (h0 : Z.H0 p = none) (hm : p ∉ Z.mu) : SR Z ρ (upd G p o) σ H := by
  refine ⟨I.len, fun a u e => ?_, fun i s e => (I.slot i s e).mono (LE.upd hg), I.inj, fun i m a d e => ?_, I.ent, I.frs, fun a ha => ?_, fun a u e => (LE.upd hg) _ _ (I.g0 a u e), fun a ha => ?_, I.mux⟩
  · by_cases h : a = p
    · subst h; rw [upd_same] at e; cases e; exact hp
    · rw [upd_ne h] at e; exact I.sub a u e
  · rw [upd_ne (ho i m a d e)]; exact I.out i m a d e
  · by_cases h : a = p
    · subst h; exact .inr h0
    · rw [upd_ne h] at ha; exact I.gnew a ha
  · have : a ≠ p := fun h => hm (h ▸ ha)
    rw [upd_ne this]; exact I.mout a ha
/-- a new root is given up to what is known -/
theorem SR.freeze (I : SR Z ρ G σ H) {r : Rv} {v : V} (q : RvOk Z r ρ G σ H v) : ∃ G', LE G G' ∧ SR Z ρ G' σ H ∧ RvOk Z r.pend ρ G' σ H v := by
  cases r with
  | loc i => exact ⟨G, LE.refl G, I, q⟩
  | sh d => exact ⟨G, LE.refl G, I, q⟩
  | gh j a => exact ⟨G, LE.refl G, I, q⟩
  | gx as cs t => exact ⟨G, LE.refl G, I, q.2.2.1⟩
  | fr a d =>
    obtain ⟨rfl, rt, ga, ho, z0, zm⟩ := q
    obtain ⟨o, e, _⟩ := rt.ob
    exact ⟨upd G a o, LE.upd ga, I.know e ga ho z0 zm, rt.rep' e ga⟩
theorem RvOk.view (I : SR Z ρ G σ H) {r : Rv} {v : V} (q : RvOk Z r ρ G σ H v) : View Z.cc G H v (r.get ρ) := by
  cases r with
  | loc i =>
    obtain ⟨e, hb⟩ := q
    unfold bound at hb
    show View _ _ _ _ (getL ρ i)
    unfold getL
    cases hs : ρ[i]? with
    | none => rw [hs] at hb; exact hb.elim
    | some s =>
      have so := I.slot i s hs
      cases s with
      | no => rw [hs] at hb; exact hb.elim
      | sh d =>
        obtain ⟨u, eu, r⟩ := so
        rw [e] at eu; cases eu
        exact View.of_rep I.sub r
      | own m a d =>
        obtain ⟨eu, r⟩ := so
        cases own_in e eu
        exact View.of_root r
  | sh d => exact View.of_rep (d := d) I.sub q
  | gh j a =>
    obtain ⟨rfl, p, d, hs⟩ := q
    show View _ _ _ _ (getL ρ j)
    unfold getL
    rw [hs]
    exact View.of_root (I.slot j _ hs).2
  | gx as cs t => exact View.of_rep (d := t) I.sub q.2.2.1
  | fr a d => obtain ⟨rfl, rt, _⟩ := q; exact View.of_root rt
theorem RvOk.repH (I : SR Z ρ G σ H) {r : Rv} {v : V} (q : RvOk Z r ρ G σ H v) : Rep Z.cc H v (r.get ρ) := by
  cases r with
  | loc i =>
    obtain ⟨e, hb⟩ := q
    unfold bound at hb
    show Rep _ _ _ (getL ρ i)
    unfold getL
    cases hs : ρ[i]? with
    | none => rw [hs] at hb; exact hb.elim
    | some s =>
      have so := I.slot i s hs
      cases s with
      | no => rw [hs] at hb; exact hb.elim
      | sh d =>
        obtain ⟨u, eu, r⟩ := so
        rw [e] at eu; cases eu
        exact r.mono I.sub
      | own m a d =>
        obtain ⟨eu, r⟩ := so
        cases own_in e eu
        exact r.rep I.sub
  | sh d => exact Rep.mono (d := d) I.sub q
  | gh j a =>
    obtain ⟨rfl, p, d, hs⟩ := q
    show Rep _ _ _ (getL ρ j)
    unfold getL
    rw [hs]
    exact (I.slot j _ hs).2.rep I.sub
  | gx as cs t => exact Rep.mono (d := t) I.sub q.2.2.1
  | fr a d => obtain ⟨rfl, rt, _⟩ := q; exact rt.rep I.sub

theorem get_set {ρ : REnv} {i j : Nat} {s t : Sl} (h : (ρ.set i s)[j]? = some t) : (j = i ∧ t = s) ∨ (j ≠ i ∧ ρ[j]? = some t) := by
  by_cases e : i = j
  · subst e
    rw [List.getElem?_set] at h
    simp only [if_true] at h
    split at h
    · exact .inl ⟨rfl, (Option.some.inj h).symm⟩
    · cases h
  · rw [List.getElem?_set_ne e] at h
    exact .inr ⟨fun z => e z.symm, h⟩
/-- an own root becomes a value that is known -/
theorem SR.leak (I : SR Z ρ G σ H) {i : Nat} {a : Addr} {d : D} (h : ρ[i]? = some (.own false a d)) (es : σ[i]? = some (some (.ref a))) : ∃ G', LE G G' ∧ SR Z (ρ.set i (.sh d)) G' σ H ∧ Rep Z.cc G' (.ref a) d := by
  obtain ⟨_, rt⟩ := I.slot i _ h
  obtain ⟨o, e, _⟩ := rt.ob
  have ga := I.out i false a d h
  obtain ⟨z0, hm⟩ : Z.H0 a = none ∧ a ∉ Z.mu := I.frs i false a d h
  have rp := rt.rep' e ga
  refine ⟨upd G a o, LE.upd ga, ⟨by simpa using I.len, fun b u q => ?_, fun j s q => ?_, fun j k m n b x c y q1 q2 hn => ?_, fun j m b x q => ?_, I.ent, fun j m b x q => ?_, fun b hb => ?_, fun b u q => (LE.upd ga) _ _ (I.g0 b u q), fun b hb => ?_, I.mux⟩, rp⟩
  · by_cases hh : b = a
    · subst hh; rw [upd_same] at q; cases q; exact e
    · rw [upd_ne hh] at q; exact I.sub b u q
  · rcases get_set q with ⟨rfl, rfl⟩ | ⟨hj, q⟩
    · exact ⟨_, es, rp⟩
    · exact (I.slot j s q).mono (LE.upd ga)
  · rcases get_set q1 with ⟨_, q1⟩ | ⟨_, q1⟩
    · cases q1
    · rcases get_set q2 with ⟨_, q2⟩ | ⟨_, q2⟩
      · cases q2
      · exact I.inj j k m n b x c y q1 q2 hn
  · rcases get_set q with ⟨_, q⟩ | ⟨hj, q⟩
    · cases q
    · rw [upd_ne (I.inj j i m false b x a d q h hj)]; exact I.out j m b x q
  · rcases get_set q with ⟨_, q⟩ | ⟨hj, q⟩
    · cases q
    · exact I.frs j m b x q
  · by_cases hh : b = a
    · subst hh; exact .inr z0
    · rw [upd_ne hh] at hb; exact I.gnew b hb
  · have : b ≠ a := fun h => hm (h ▸ hb)
    rw [upd_ne this]; exact I.mout b hb

/-- a value that is stored somewhere: a root of a name's own is given up -/
def stl (r : Rv) (ρ : REnv) (K : D → REnv → Prop) : Prop :=
  match r with
  | .loc i => match ρ[i]? with
    | some (.sh d) => K d ρ
    | some (.own false _ d) => K d (ρ.set i (.sh d))
    | _ => False
  | .sh d => K d ρ
  | .fr _ d => K d ρ
  | .gh _ a => K (.ptr a) ρ
  | .gx _ _ _ => False
theorem SR.settle (I : SR Z ρ G σ H) {r : Rv} {v : V} {K : D → REnv → Prop} (q : RvOk Z r ρ G σ H v) (h : stl r ρ K) : ∃ d ρ' G', LE G G' ∧ SR Z ρ' G' σ H ∧ Rep Z.cc G' v d ∧ K d ρ' ∧ ∀ i, bound ρ i → bound ρ' i := by
  cases r with
  | loc i =>
    obtain ⟨e, hb⟩ := q
    unfold stl at h
    cases hs : ρ[i]? with
    | none => simp only [hs] at h
    | some s =>
      simp only [hs] at h
      cases s with
      | no => exact h.elim
      | sh d =>
        obtain ⟨u, eu, r⟩ := I.slot i _ hs
        rw [e] at eu; cases eu
        exact ⟨d, ρ, G, LE.refl G, I, r, h, fun _ z => z⟩
      | own m a d =>
        cases m with
        | true => exact h.elim
        | false =>
          obtain ⟨eu, _⟩ := I.slot i _ hs
          cases own_in e eu
          obtain ⟨G', l, I', r⟩ := I.leak hs e
          refine ⟨d, _, G', l, I', r, h, fun j hj => ?_⟩
          unfold bound at hj ⊢
          by_cases hji : i = j
          · subst hji
            obtain ⟨hlt, _⟩ := List.getElem?_eq_some_iff.mp hs
            rw [List.getElem?_set_self hlt]
            trivial
          · rw [List.getElem?_set_ne hji]; exact hj
  | sh d => exact ⟨d, ρ, G, LE.refl G, I, q, h, fun _ z => z⟩
  | gh j a => exact ⟨.ptr a, ρ, G, LE.refl G, I, by unfold Rep; exact q.1, h, fun _ z => z⟩
  | gx as cs t => exact h.elim
  | fr a d =>
    obtain ⟨G', l, I', r⟩ := I.freeze q
    exact ⟨d, ρ, G', l, I', r, h, fun _ z => z⟩

/-- a slot is stored -/
theorem SR.put (I : SR Z ρ G σ H) {i : Nat} {v : V} {d : D} (hi : i < σ.length) (r : Rep Z.cc G v d) : SR Z (ρ.set i (.sh d)) G (σ.set i (some v)) H := by
  refine ⟨by simpa using I.len, I.sub, fun j s q => ?_, fun j k m n b x c y q1 q2 hn => ?_, fun j m b x q => ?_, I.ent, fun j m b x q => ?_, I.gnew, I.g0, I.mout, I.mux⟩
  · rcases get_set q with ⟨rfl, rfl⟩ | ⟨hj, q⟩
    · exact ⟨v, by rw [List.getElem?_set_self hi], r⟩
    · have so := I.slot j s q
      cases s with
      | no => trivial
      | sh d => obtain ⟨u, eu, ru⟩ := so; exact ⟨u, by rw [List.getElem?_set_ne (Ne.symm hj)]; exact eu, ru⟩
      | own m a d => exact ⟨owns_set hj so.1, so.2⟩
  · rcases get_set q1 with ⟨_, q1⟩ | ⟨_, q1⟩
    · cases q1
    · rcases get_set q2 with ⟨_, q2⟩ | ⟨_, q2⟩
      · cases q2
      · exact I.inj j k m n b x c y q1 q2 hn
  · rcases get_set q with ⟨_, q⟩ | ⟨hj, q⟩
    · cases q
    · exact I.out j m b x q
  · rcases get_set q with ⟨_, q⟩ | ⟨hj, q⟩
    · cases q
    · exact I.frs j m b x q
theorem SR.putNo (I : SR Z ρ G σ H) {i : Nat} {v : Option V} : SR Z (ρ.set i .no) G (σ.set i v) H := by
  refine ⟨by simpa using I.len, I.sub, fun j s q => ?_, fun j k m n b x c y q1 q2 hn => ?_, fun j m b x q => ?_, I.ent, fun j m b x q => ?_, I.gnew, I.g0, I.mout, I.mux⟩
  · rcases get_set q with ⟨rfl, rfl⟩ | ⟨hj, q⟩
    · trivial
    · have so := I.slot j s q
      cases s with
      | no => trivial
      | sh d => obtain ⟨u, eu, ru⟩ := so; exact ⟨u, by rw [List.getElem?_set_ne (Ne.symm hj)]; exact eu, ru⟩
      | own m a d => exact ⟨owns_set hj so.1, so.2⟩
  · rcases get_set q1 with ⟨_, q1⟩ | ⟨_, q1⟩
    · cases q1
    · rcases get_set q2 with ⟨_, q2⟩ | ⟨_, q2⟩
      · cases q2
      · exact I.inj j k m n b x c y q1 q2 hn
  · rcases get_set q with ⟨_, q⟩ | ⟨hj, q⟩
    · cases q
    · exact I.out j m b x q
  · rcases get_set q with ⟨_, q⟩ | ⟨hj, q⟩
    · cases q
    · exact I.frs j m b x q
/-- a slot gets a new root -/
theorem SR.putFr (I : SR Z ρ G σ H) {i : Nat} {a : Addr} {d : D} (hi : i < σ.length) (r : RvOk Z (.fr a d) ρ G σ H (.ref a)) : SR Z (ρ.set i (.own false a d)) G (σ.set i (some (.ref a))) H := by
  obtain ⟨_, rt, ga, ho, z0, zm⟩ := r
  refine ⟨by simpa using I.len, I.sub, fun j s q => ?_, fun j k m n b x c y q1 q2 hn => ?_, fun j m b x q => ?_, I.ent, fun j m b x q => ?_, I.gnew, I.g0, I.mout, I.mux⟩
  · rcases get_set q with ⟨rfl, rfl⟩ | ⟨hj, q⟩
    · exact ⟨Or.inl (by rw [List.getElem?_set_self hi]), rt⟩
    · have so := I.slot j s q
      cases s with
      | no => trivial
      | sh d => obtain ⟨u, eu, ru⟩ := so; exact ⟨u, by rw [List.getElem?_set_ne (Ne.symm hj)]; exact eu, ru⟩
      | own m a d => exact ⟨owns_set hj so.1, so.2⟩
  · rcases get_set q1 with ⟨e1, q1⟩ | ⟨_, q1⟩
    · cases q1
      rcases get_set q2 with ⟨e2, q2⟩ | ⟨_, q2⟩
      · exact absurd (e1.trans e2.symm) hn
      · exact (ho k n c y q2).symm
    · rcases get_set q2 with ⟨_, q2⟩ | ⟨_, q2⟩
      · cases q2; exact ho j m b x q1
      · exact I.inj j k m n b x c y q1 q2 hn
  · rcases get_set q with ⟨_, q⟩ | ⟨hj, q⟩
    · cases q; exact ga
    · exact I.out j m b x q
  · rcases get_set q with ⟨_, q⟩ | ⟨hj, q⟩
    · cases q; exact ⟨z0, zm⟩
    · exact I.frs j m b x q
/-- the object of a root of a name's own is changed -/
theorem SR.write (I : SR Z ρ G σ H) {i : Nat} {m : Bool} {a : Addr} {d d' : D} {o : HO} (h : ρ[i]? = some (.own m a d)) (rt : Root Z.cc G (upd H a o) a d') : SR Z (ρ.set i (.own m a d')) G σ (upd H a o) := by
  have ga := I.out i m a d h
  obtain ⟨es, r0⟩ := I.slot i _ h
  refine ⟨by simpa using I.len, fun b u q => ?_, fun j s q => ?_, fun j k m1 n b x c y q1 q2 hn => ?_, fun j m1 b x q => ?_, fun b u q hm => ?_, fun j m1 b x q => ?_, I.gnew, I.g0, I.mout, fun b hb => ?_⟩
  · rw [upd_ne (ne_of_none q ga)]; exact I.sub b u q
  · rcases get_set q with ⟨rfl, rfl⟩ | ⟨hj, q⟩
    · exact ⟨es, rt⟩
    · have so := I.slot j s q
      cases s with
      | no => trivial
      | sh d => exact so
      | own m1 b x => exact ⟨so.1, so.2.heap fun u hu => by rw [upd_ne (I.inj j i m1 m b x a d q h hj)]; exact hu⟩
  · rcases get_set q1 with ⟨e1, q1⟩ | ⟨h1, q1⟩
    · cases q1
      rcases get_set q2 with ⟨e2, q2⟩ | ⟨h2, q2⟩
      · exact absurd (e1.trans e2.symm) hn
      · exact I.inj i k _ n a d c y h q2 (Ne.symm h2)
    · rcases get_set q2 with ⟨_, q2⟩ | ⟨_, q2⟩
      · cases q2; exact I.inj j i m1 _ b x a d q1 h h1
      · exact I.inj j k m1 n b x c y q1 q2 hn
  · rcases get_set q with ⟨_, q⟩ | ⟨hj, q⟩
    · cases q; exact ga
    · exact I.out j m1 b x q
  · have := I.frs i m a d h
    have : b ≠ a := by
      rintro rfl
      cases m with
      | true => exact hm this
      | false => rw [this.1] at q; cases q
    rw [upd_ne this]; exact I.ent b u q hm
  · rcases get_set q with ⟨e1, q⟩ | ⟨hj, q⟩
    · cases q; exact I.frs i m a d h
    · exact I.frs j m1 b x q
  · by_cases hh : b = a
    · subst hh; rw [upd_same]; simp
    · rw [upd_ne hh]; exact I.mux b hb
/-- the roots that are known, with their trees -/
def gP : REnv → List (Addr × D)
  | [] => []
  | .own _ a d :: ρ => (a, d) :: gP ρ
  | _ :: ρ => gP ρ
theorem gP_mem {a : Addr} {d : D} : ∀ {ρ : REnv}, (a, d) ∈ gP ρ ↔ ∃ (i : Nat) (p : Bool), ρ[i]? = some (Sl.own p a d)
  | [] => by simp [gP]
  | s :: ρ => by
    have ih := gP_mem (a := a) (d := d) (ρ := ρ)
    have tl : (∃ (i : Nat) (p : Bool), ρ[i]? = some (Sl.own p a d)) → ∃ (i : Nat) (p : Bool), (s :: ρ)[i]? = some (Sl.own p a d) := fun ⟨i, p, h⟩ => ⟨i + 1, p, by simpa using h⟩
    have un : ∀ {P : Prop}, (∀ (p : Bool), s = Sl.own p a d → P) → ((∃ (i : Nat) (p : Bool), ρ[i]? = some (Sl.own p a d)) → P) → (∃ (i : Nat) (p : Bool), (s :: ρ)[i]? = some (Sl.own p a d)) → P := fun {P} h1 h2 ⟨i, p, h⟩ => by
      cases i with
      | zero => exact h1 p (by simpa using h)
      | succ i => exact h2 ⟨i, p, by simpa using h⟩
    cases s with
    | no => exact ⟨fun h => tl (ih.mp h), un (fun _ h => by cases h) ih.mpr⟩
    | sh d => exact ⟨fun h => tl (ih.mp h), un (fun _ h => by cases h) ih.mpr⟩
    | own m b e =>
      constructor
      · intro h
        rcases List.mem_cons.mp h with h | h
        · cases h; exact ⟨0, m, rfl⟩
        · exact tl (ih.mp h)
      · exact un (fun _ h => by cases h; exact List.mem_cons_self) fun h => List.mem_cons_of_mem _ (ih.mpr h)
mutual
/-- with the roots of L seen through, d reads e -/
inductive Vw (L : List (Addr × D)) : D → D → Prop
  | self (d : D) : Vw L d d
  | ptr {a : Addr} {d e : D} : (a, d) ∈ L → Vw L d e → Vw L (.ptr a) e
  | tup {ds es : List D} : Vws L ds es → Vw L (.tup ds) (.tup es)
  | lst {ds es : List D} : Vws L ds es → Vw L (.lst ds) (.lst es)
  | obj {c : Nat} {ds es : List D} : Vws L ds es → Vw L (.obj c ds) (.obj c es)
  | dic {ks ds es : List D} : Vws L ds es → Vw L (.dic ks ds) (.dic ks es)
inductive Vws (L : List (Addr × D)) : List D → List D → Prop
  | nil : Vws L [] []
  | cons {d e : D} {ds es : List D} : Vw L d e → Vws L ds es → Vws L (d :: ds) (e :: es)
end
mutual
theorem Vw.sound {cc : CC} {L : List (Addr × D)} {G H : Hp} (le : LE G H) (hL : ∀ a d, (a, d) ∈ L → Root cc G H a d) : ∀ {d e : D}, Vw L d e → ∀ v : V, Rep cc G v d → Rep cc H v e
  | _, _, .self d, v, r => r.mono le
  | _, _, .ptr (a := a) (d := d) (e := e) hm q, v, r => by
    unfold Rep at r
    subst r
    have rt := hL _ _ hm
    cases q with
    | self => exact rt.rep le
    | ptr h2 q2 => exact rt.elim
    | tup q2 => exact rt.elim
    | lst q2 =>
      obtain ⟨vs, e1, rs⟩ := rt
      unfold Rep
      exact ⟨a, vs, rfl, SqL.of e1, Vws.sound le hL q2 vs rs⟩
    | obj q2 =>
      obtain ⟨dx, vs, e1, l, rs⟩ := rt
      unfold Rep
      exact ⟨a, dx, vs, rfl, e1, l, Vws.sound le hL q2 vs rs⟩
    | dic q2 =>
      obtain ⟨vs, e1, rs⟩ := rt
      unfold Rep
      exact ⟨a, vs, rfl, e1.rd, Vws.sound le hL q2 vs rs⟩
  | _, _, .tup q, v, r => by
    unfold Rep at r ⊢
    obtain ⟨a, vs, e, g, rs⟩ := r
    exact ⟨a, vs, e, le _ _ g, Vws.sound le hL q vs rs⟩
  | _, _, .lst q, v, r => by
    unfold Rep at r ⊢
    obtain ⟨a, vs, e, g, rs⟩ := r
    exact ⟨a, vs, e, le.sql g, Vws.sound le hL q vs rs⟩
  | _, _, .obj q, v, r => by
    unfold Rep at r ⊢
    obtain ⟨a, dx, vs, e, g, l, rs⟩ := r
    exact ⟨a, dx, vs, e, le _ _ g, l, Vws.sound le hL q vs rs⟩
  | _, _, .dic q, v, r => by
    unfold Rep at r ⊢
    obtain ⟨a, vs, e, g, rs⟩ := r
    exact ⟨a, vs, e, g.heap fun o ho => le _ _ ho, Vws.sound le hL q vs rs⟩
theorem Vws.sound {cc : CC} {L : List (Addr × D)} {G H : Hp} (le : LE G H) (hL : ∀ a d, (a, d) ∈ L → Root cc G H a d) : ∀ {ds es : List D}, Vws L ds es → ∀ vs : List V, Reps cc G vs ds → Reps cc H vs es
  | _, _, .nil, vs, r => by rw [r.inv_nil]; exact Reps.nil
  | _, _, .cons h q, vs, r => by
    obtain ⟨v, us, rfl, rv, rr⟩ := r.inv_cons
    exact Reps.cons (Vw.sound le hL h v rv) (Vws.sound le hL q us rr)
end
/-- new roots behind the slots -/
def ghs (as : List Addr) (ds : List D) : REnv := List.zipWith (Sl.own false) as ds
theorem owns_mem {a : Addr} : ∀ {ρ : REnv}, a ∈ owns ρ ↔ ∃ (i : Nat) (p : Bool) (d : D), ρ[i]? = some (Sl.own p a d)
  | [] => by simp [owns]
  | s :: ρ => by
    have ih := owns_mem (a := a) (ρ := ρ)
    have tl : (∃ (i : Nat) (p : Bool) (d : D), ρ[i]? = some (Sl.own p a d)) → ∃ (i : Nat) (p : Bool) (d : D), (s :: ρ)[i]? = some (Sl.own p a d) := fun ⟨i, p, d, h⟩ => ⟨i + 1, p, d, by simpa using h⟩
    have un : ∀ {P : Prop}, (∀ (p : Bool) (d : D), s = Sl.own p a d → P) → ((∃ (i : Nat) (p : Bool) (d : D), ρ[i]? = some (Sl.own p a d)) → P) → (∃ (i : Nat) (p : Bool) (d : D), (s :: ρ)[i]? = some (Sl.own p a d)) → P := fun {P} h1 h2 ⟨i, p, d, h⟩ => by
      cases i with
      | zero => exact h1 p d (by simpa using h)
      | succ i => exact h2 ⟨i, p, d, by simpa using h⟩
    cases s with
    | no => exact ⟨fun h => tl (ih.mp h), un (fun _ _ h => by cases h) ih.mpr⟩
    | sh d => exact ⟨fun h => tl (ih.mp h), un (fun _ _ h => by cases h) ih.mpr⟩
    | own m b e =>
      constructor
      · intro h
        rcases List.mem_cons.mp h with rfl | h
        · exact ⟨0, m, e, rfl⟩
        · exact tl (ih.mp h)
      · exact un (fun _ _ h => by cases h; exact List.mem_cons_self) fun h => List.mem_cons_of_mem _ (ih.mpr h)
theorem ghs_get {as : List Addr} {ds : List D} {k : Nat} {s : Sl} (h : (ghs as ds)[k]? = some s) : ∃ a d, as[k]? = some a ∧ ds[k]? = some d ∧ s = .own false a d := by
  unfold ghs at h
  rw [List.getElem?_zipWith] at h
  cases ha : as[k]? with
  | none => simp [ha] at h
  | some a =>
    cases hd : ds[k]? with
    | none => simp [ha, hd] at h
    | some d => simp [ha, hd] at h; exact ⟨a, d, rfl, rfl, h.symm⟩
theorem app_get {ρ τ : REnv} {i : Nat} {s : Sl} (h : (ρ ++ τ)[i]? = some s) : (i < ρ.length ∧ ρ[i]? = some s) ∨ ∃ k, i = ρ.length + k ∧ τ[k]? = some s := by
  by_cases hi : i < ρ.length
  · rw [List.getElem?_append_left hi] at h; exact .inl ⟨hi, h⟩
  · rw [List.getElem?_append_right (by omega)] at h; exact .inr ⟨_, by omega, h⟩
theorem nodup_ne {as : List Addr} (h : as.Nodup) {i j : Nat} {a b : Addr} (hi : as[i]? = some a) (hj : as[j]? = some b) (hn : i ≠ j) : a ≠ b := by
  rintro rfl
  obtain ⟨hi1, hi2⟩ := List.getElem?_eq_some_iff.mp hi
  obtain ⟨hj1, hj2⟩ := List.getElem?_eq_some_iff.mp hj
  have p := List.pairwise_iff_getElem.mp h
  rcases Nat.lt_or_gt_of_ne hn with z | z
  · exact p i j hi1 hj1 z (hi2.trans hj2.symm)
  · exact p j i hj1 hi1 z (hj2.trans hi2.symm)
/-- new roots stand behind the slots from now on -/
theorem SR.addGs (I : SR Z ρ G σ H) {as : List Addr} {ds : List D} (nd : as.Nodup) (h : ∀ (i : Nat) (a : Addr) (d : D), as[i]? = some a → ds[i]? = some d → FrOk Z ρ G H a d) : SR Z (ρ ++ ghs as ds) G σ H := by
  have len := I.len
  refine ⟨⟨len.1, by rw [List.length_append]; omega⟩, I.sub, fun j s q => ?_, fun j k m n b x c y q1 q2 hn => ?_, fun j m b x q => ?_, I.ent, fun j m b x q => ?_, I.gnew, I.g0, I.mout, I.mux⟩
  · rcases app_get q with ⟨_, q⟩ | ⟨k, ek, q'⟩
    · exact I.slot j s q
    · obtain ⟨a, d, ha, hd, rfl⟩ := ghs_get q'
      exact ⟨.inr (by omega), (h k _ _ ha hd).1⟩
  · rcases app_get q1 with ⟨_, q1⟩ | ⟨k1, ek1, q1'⟩
    · rcases app_get q2 with ⟨_, q2⟩ | ⟨k2, ek2, q2'⟩
      · exact I.inj j k m n b x c y q1 q2 hn
      · obtain ⟨a, d, ha, hd, e⟩ := ghs_get q2'
        cases e
        exact (h k2 _ _ ha hd).2.2.1 j m b x q1
    · obtain ⟨a, d, ha, hd, e⟩ := ghs_get q1'
      cases e
      rcases app_get q2 with ⟨_, q2⟩ | ⟨k2, ek2, q2'⟩
      · exact ((h k1 _ _ ha hd).2.2.1 k n c y q2).symm
      · obtain ⟨a2, d2, ha2, hd2, e⟩ := ghs_get q2'
        cases e
        exact nodup_ne nd ha ha2 (by omega)
  · rcases app_get q with ⟨_, q⟩ | ⟨k, ek, q'⟩
    · exact I.out j m b x q
    · obtain ⟨a, d, ha, hd, e⟩ := ghs_get q'
      cases e
      exact (h k _ _ ha hd).2.1
  · rcases app_get q with ⟨_, q⟩ | ⟨k, ek, q'⟩
    · exact I.frs j m b x q
    · obtain ⟨a, d, ha, hd, e⟩ := ghs_get q'
      cases e
      exact (h k _ _ ha hd).2.2.2
end
end TL

namespace TL
open PySem L2

/-- an expression's reading over trees, as a reading of the layer below -/
def T (Z : Zone) (w : EW) : TE := fun σ H Q => ∃ ρ G K, SR Z ρ G σ H ∧ w Z.xk ρ K ∧
  ∀ r ρ' v H' G', LE G G' → SR Z ρ' G' σ H' → RvOk Z r ρ' G' σ H' v → K r ρ' → Q v H'
def Tt (Z : Zone) (w : TW) : TT := fun σ H Q => ∃ ρ G K, SR Z ρ G σ H ∧ w Z.xk ρ K ∧
  ∀ b ρ' H' G', LE G G' → SR Z ρ' G' σ H' → K b ρ' → Q b H'
abbrev DW := Xk → REnv → (List D → REnv → Prop) → Prop
def Ta (Z : Zone) (w : DW) : TA := fun σ H Q => ∃ ρ G K, SR Z ρ G σ H ∧ w Z.xk ρ K ∧
  ∀ ds ρ' vs H' G', LE G G' → SR Z ρ' G' σ H' → Reps Z.cc G' vs ds → K ds ρ' → Q vs H'

section
variable {X : Cx} {Z : Zone} {a b e : Expr} {wa wb : EW} {pos : Pos}

/-! ### names, constants -/
def eLoc (i : Nat) : EW := fun _ ρ K => bound ρ i ∧ K (.loc i) ρ
def eC (d : D) : EW := fun _ ρ K => K (.sh d) ρ
theorem bound_get {ρ : REnv} {G H : Hp} {σ : St} (I : SR Z ρ G σ H) {i : Nat} (hi : i < σ.length) (h : bound ρ i) : ∃ v, σ[i]? = some (some v) := by
  unfold bound at h
  cases hs : ρ[i]? with
  | none => rw [hs] at h; exact h.elim
  | some s =>
    have so := I.slot i s hs
    cases s with
    | no => rw [hs] at h; exact h.elim
    | sh d => exact ⟨_, so.choose_spec.1⟩
    | own m p d => exact ⟨_, own_at hi so.1⟩
theorem lt_len {X : Cx} {pins : List (Addr × Obj)} {σ : L2.St} {H : Hp} {s : Shared} {i : Nat} {x : Str} (I : L2.Inv X pins σ H s) (hi : X.N[i]? = some x) : i < σ.length := by
  rw [I.len]; exact (List.getElem?_eq_some_iff.mp hi).1
theorem de_loc (i : Nat) {x : Str} {pos : Pos} (hN : X.N[i]? = some x := by rfl) (hv : Vis X.env.scope x := by first | exact Or.inl rfl | exact Or.inr (Or.inl rfl) | exact Or.inr (Or.inr rfl)) (hd : (x == ("__debug__" : Str)) = false := by decide)
    (hcd : (x == ("__classdict__" : Str)) = false := by decide) : PE X (.Name x pos) (T Z (eLoc i)) :=
  ⟨fun pins s σ H Q I ⟨ρ, G, K, IR, ⟨hb, hk⟩, q⟩ => by
    obtain ⟨v, e⟩ := bound_get IR (lt_len I hN) hb
    exact (pv i hN hv hd hcd).run pins s σ H Q I ⟨v, e, q (.loc i) _ v H G (LE.refl G) IR ⟨e, hb⟩ hk⟩⟩
theorem T.const {v : V} {d : D} (hr : ∀ G, Rep Z.cc G v d) (h : PE X e (tC v)) : PE X e (T Z (eC d)) :=
  ⟨fun pins s σ H Q I ⟨ρ, G, K, IR, hk, q⟩ => h.run pins s σ H Q I (q (.sh d) _ v H G (LE.refl G) IR (hr G) hk)⟩
theorem de_int {i j pos} : PE X (.Constant (.int i) j pos) (T Z (eC (.int i))) := T.const (v := .int i) (fun _ => by unfold Rep; rfl) pe_int
theorem de_bl {b j pos} : PE X (.Constant (.bool b) j pos) (T Z (eC (.bl b))) := T.const (v := .bl b) (fun _ => by unfold Rep; rfl) pe_bl
theorem de_non {j pos} : PE X (.Constant .none j pos) (T Z (eC .non)) := T.const (v := .non) (fun _ => by unfold Rep; rfl) pe_non
/-! ### two operands -/
/-- a first operand that is a name is still known -/
def pok (r : Rv) (ρ : REnv) : Prop := match r with | .loc i => bound ρ i | .gh j a => ∃ p d, ρ[j]? = some (.own p a d) | _ => True
theorem T.two {ρ : REnv} {G H : Hp} {σ : L2.St} {R : Rv → Rv → REnv → Prop} (I : SR Z ρ G σ H) (hw : wa Z.xk ρ fun r1 ρ1 => wb Z.xk ρ1 fun r2 ρ2 => pok r1 ρ2 ∧ R r1 r2 ρ2) :
    T Z wa σ H fun x H1 => T Z wb σ H1 fun y H2 => ∃ r1 r2 ρ2 G2, LE G G2 ∧ SR Z ρ2 G2 σ H2 ∧ RvOk Z r1.pend ρ2 G2 σ H2 x ∧ RvOk Z r2 ρ2 G2 σ H2 y ∧ R r1 r2 ρ2 := by
  refine ⟨ρ, G, _, I, hw, fun r1 ρ1 x H1 G1 le1 I1 q1 k1 => ?_⟩
  obtain ⟨G1', le, I1', q1'⟩ := I1.freeze q1
  refine ⟨ρ1, G1', _, I1', k1, fun r2 ρ2 y H2 G2 le2 I2 q2 k2 => ⟨r1, r2, ρ2, G2, (le1.trans le).trans le2, I2, ?_, q2, k2.2⟩⟩
  have pk := k2.1
  cases r1 with
  | loc i => exact ⟨q1'.1, pk⟩
  | sh d => exact Rep.mono (d := d) le2 q1'
  | fr a d => exact Rep.mono (d := d) le2 q1'
  | gh j a => exact ⟨q1'.1, pk⟩
  | gx as cs t => exact Rep.mono (d := t) le2 q1'

/-- what an operation gives: a value, or a new root -/
inductive Ro where
  | sh (d : D) | fr (d : D) | gx (as : List Addr) (cs : List D) (t : D)
/-- how the result of an operation lies -/
def Fin (cc : CC) (G H : Hp) (Q : VK) : Ro → Prop
  | .sh d => (∀ v, Rep cc G v d → Q v H) ∧ ∀ p o, H p = none → Rep cc (upd G p o) (.ref p) d → Q (.ref p) (upd H p o)
  | .fr d => ∀ p o, H p = none → Root cc G (upd H p o) p d → Q (.ref p) (upd H p o)
  | .gx _ _ _ => True
/-- a result is handed on -/
def out (o : Ro) (ρ : REnv) (K : Rv → REnv → Prop) : Prop := match o with
  | .sh d => K (.sh d) ρ
  | .fr d => ∀ a, K (.fr a d) ρ
  | .gx as cs t => as.Nodup → (∀ a ∈ as, a ∉ owns ρ) → K (.sh t) (ρ ++ ghs as cs)
abbrev OW := (Ro → Prop) → Prop
theorem T.fin {ρ : REnv} {G G0 H : Hp} {σ : L2.St} {K : Rv → REnv → Prop} {Q : VK} {o : Ro} (I : SR Z ρ G σ H) (le : LE G0 G) (hk : out o ρ K)
    (q : ∀ r ρ' v H' G', LE G0 G' → SR Z ρ' G' σ H' → RvOk Z r ρ' G' σ H' v → K r ρ' → Q v H') : Fin Z.cc G H Q o := by
  cases o with
  | sh d => exact ⟨fun v r => q (.sh d) ρ v H G le I r hk, fun p o hp r => q (.sh d) ρ _ _ _ (le.trans (LE.upd (I.g hp))) (I.newG hp) r hk⟩
  | fr d =>
    refine fun p o hp r => q (.fr p d) ρ _ _ G le (I.newH hp) ⟨rfl, r, I.g hp, fun i m b e h => I.own_ne h hp, (I.h0 hp).1, (I.h0 hp).2⟩ (hk p)
  | gx n t cs => exact trivial

/-- a binary operation over trees, told by one over values -/
def OpS (cc : CC) (op : D → D → OW) (r : R2) : Prop := ∀ (G H : Hp) (x y : V) (d e : D) (k : Ro → Prop) (Q : VK), LE G H → View cc G H x d → View cc G H y e → Rep cc H x d → Rep cc H y e →
  op d e k → (∀ o, k o → Fin cc G H Q o) → r x y H Q
def eBin (op : D → D → OW) (wa wb : EW) : EW := fun xk ρ K => wa xk ρ fun r1 ρ1 => wb xk ρ1 fun r2 ρ2 => pok r1 ρ2 ∧ op (r1.get ρ2) (r2.get ρ2) fun o => out o ρ2 K
theorem T.bin {op : D → D → OW} {r : R2} (hs : OpS Z.cc op r) {σ : L2.St} {H : Hp} {Q : VK} (h : T Z (eBin op wa wb) σ H Q) : tOp r (T Z wa) (T Z wb) σ H Q := by
  obtain ⟨ρ, G, K, I, hw, q⟩ := h
  obtain ⟨ρ', G', K', I', hw', q'⟩ := T.two (R := fun r1 r2 ρ2 => op (r1.get ρ2) (r2.get ρ2) fun o => out o ρ2 K) I hw
  refine ⟨ρ', G', K', I', hw', fun r1 ρ1 x H1 G1 le1 I1 q1 k1 => ?_⟩
  obtain ⟨ρ1', G1', K1', I1', hw1', q1'⟩ := q' r1 ρ1 x H1 G1 le1 I1 q1 k1
  refine ⟨ρ1', G1', K1', I1', hw1', fun r2 ρ2 y H2 G2 le2 I2 q2 k2 => ?_⟩
  obtain ⟨s1, s2, ρ3, G3, le3, I3, v1, v2, ho⟩ := q1' r2 ρ2 y H2 G2 le2 I2 q2 k2
  have e1 := v1.view I3
  have e1' := v1.repH I3
  rw [Rv.get_pend] at e1 e1'
  exact hs G3 H2 x y _ _ _ Q I3.sub e1 (v2.view I3) e1' (v2.repH I3) ho fun o ho => T.fin I3 le3 ho q
end
end TL

namespace TL
open PySem L2

/-- t is a reading of what w says -/
def Via (Z : Zone) (t : TE) (w : EW) : Prop := ∀ σ H Q, T Z w σ H Q → t σ H Q
theorem pvia {X : Cx} {Z : Zone} {e : Expr} {t : TE} {w : EW} (h : PE X e t) (v : Via Z t w) : PE X e (T Z w) :=
  ⟨fun pins s σ H Q I q => h.run pins s σ H Q I (v σ H Q q)⟩

theorem pviaI {X : Cx} {Z : Zone} {e : Expr} {t : TE} {w : EW} (h : PE X e t) (v : ∀ σ H Q, σ.length = X.N.length → T Z w σ H Q → t σ H Q) : PE X e (T Z w) :=
  ⟨fun pins s σ H Q I q => h.run pins s σ H Q I (v σ H Q I.len q)⟩
theorem lt_lenN {X : Cx} {σ : L2.St} {i : Nat} {x : Str} (h : σ.length = X.N.length) (hi : X.N[i]? = some x) : i < σ.length := by
  rw [h]; exact (List.getElem?_eq_some_iff.mp hi).1

/-! ### operations by the trees' forms -/
def MulOk (i j : Int) : Prop := i.natAbs.log2 + j.natAbs.log2 < 100000000
theorem MulOk.ok {i j : Int} (h : MulOk i j) : IntMulOk i j := by
  have b : ∀ x : Int, Builtin.Int.intBits x ≤ x.natAbs.log2 + 1 := fun x => by
    unfold Builtin.Int.intBits
    split <;> omega
  have h1 := b i
  have h2 := b j
  have h3 : i.natAbs.log2 + j.natAbs.log2 < 100000000 := h
  have e : bitsLine = 134217728 := by decide
  unfold IntMulOk
  intro z
  rw [Bool.and_eq_true] at z
  have z2 := z.2
  unfold Builtin.Int.intTooBig at z2
  have z3 := of_decide_eq_true z2
  rw [e] at z3
  omega
def DivOk (j : Int) : Prop := 0 < j ∧ j.natAbs.log2 < 9000
def DivOkN (j : Int) : Prop := j ≠ 0 ∧ j.natAbs.log2 < 9000
section
variable {X : Cx}
theorem op_mulX : OpR X (binaryOp .Mult) (rI MulOk fun i j => .int (i * j)) := opI fun _ _ _ _ _ _ _ hc q => PyProof.Rows.mul_int q hc.ok
theorem op_fdvX : OpR X (binaryOp .FloorDiv) (rI (fun _ j => DivOk j) fun i j => .int (i / j)) := op_fdivW
theorem op_fdvN : OpR X (binaryOp .FloorDiv) (rI (fun _ j => DivOkN j) fun i j => .int (i.fdiv j)) := opI fun i j _ _ _ _ _ hc q =>
  PyProof.Rows.floordiv_int hc.1 q (.inl (PyProof.noPylong_of_log2 hc.2))
def rCatR (K : PySem.W.Frag) : R2 := fun x y H Q => ∃ l b xs zs, x = .ref l ∧ y = .ref b ∧ SqL K H l xs ∧ SqL K H b zs ∧ xs.length + zs.length ≤ sizeLine ∧ ∀ p, H p = none → Q (.ref p) (upd H p (.lst (xs ++ zs)))
theorem op_catR : OpR X (binaryOp .Add) (rCatR X.K) := by
  intro pins s σ H x y v u Q I rx ry h
  obtain ⟨l, b, xs, zs, rfl, rfl, hH, hB, hz, q⟩ := h
  cases rx
  cases ry
  obtain ⟨its, r, ⟨⟨cls, dd, data, sl⟩, n, ho, hc, hd0, hd⟩, z⟩ := I.list hH
  obtain ⟨its2, r2, ⟨⟨cls2, dd2, data2, sl2⟩, n2, ho2, hc2, hd20, hd2⟩, z2⟩ := I.list hB
  simp only at hc hd hc2 hd2
  subst hc hd hc2 hd2
  have hl := r.length
  have hl2 := r2.length
  have ea : its.toArray ++ its2.toArray = (its ++ its2).toArray := by simp
  refine PySem.concat_meets ⟨_, ho, rfl⟩ ⟨_, ho2, rfl⟩ noFill_list_add seq_list_add PySem.F.slot_list_add PySem.F.entry_list_add (PySem.F.args_list_add_2 _ _) (PyProof.Rows.list_addW l b its.toArray its2.toArray n n2 dd dd2 sl sl2 (by rw [List.size_toArray, List.size_toArray]; omega)) ⟨ho, ho2, ?_⟩
  rw [ea]
  exact ⟨.ref _, _, I.lnew (t' := s.toks) (r.append r2) (by rw [List.length_append]; omega), rfl, q _ I.fresh⟩
end

def opAdd : D → D → OW
  | .int i, .int j => fun k => k (.sh (.int (i + j)))
  | .str i, .str j => fun k => i.length + j.length ≤ sizeLine ∧ k (.sh (.str (i ++ j)))
  | .lst i, .lst j => fun k => i.length + j.length ≤ sizeLine ∧ k (.fr (.lst (i ++ j)))
  | _, _ => fun _ => False
def opSub : D → D → OW
  | .int i, .int j => fun k => k (.sh (.int (i - j)))
  | _, _ => fun _ => False
def opMul : D → D → OW
  | .int i, .int j => fun k => MulOk i j ∧ k (.sh (.int (i * j)))
  | _, _ => fun _ => False
def opFdv : D → D → OW
  | .int i, .int j => fun k => DivOk j ∧ k (.sh (.int (i / j)))
  | _, _ => fun _ => False
def opFdvN : D → D → OW
  | .int i, .int j => fun k => DivOkN j ∧ k (.sh (.int (i.fdiv j)))
  | _, _ => fun _ => False
def opMod : D → D → OW
  | .int i, .int j => fun k => 0 < j ∧ k (.sh (.int (i % j)))
  | _, _ => fun _ => False
def opModN : D → D → OW
  | .int i, .int j => fun k => j ≠ 0 ∧ k (.sh (.int (i.fmod j)))
  | _, _ => fun _ => False
def opPow : D → D → OW
  | .int i, .int j => fun k => CPow i j ∧ k (.sh (.int (i ^ j.toNat)))
  | _, _ => fun _ => False
def opLt : D → D → OW
  | .int i, .int j => fun k => k (.sh (.bl (decide (i < j))))
  | _, _ => fun _ => False
def opLe : D → D → OW
  | .int i, .int j => fun k => k (.sh (.bl (decide (i ≤ j))))
  | _, _ => fun _ => False
def opGt : D → D → OW
  | .int i, .int j => fun k => k (.sh (.bl (decide (j < i))))
  | _, _ => fun _ => False
def opGe : D → D → OW
  | .int i, .int j => fun k => k (.sh (.bl (decide (j ≤ i))))
  | _, _ => fun _ => False

section
variable {cc : CC}
theorem rep_int {G : Hp} {i : Int} : Rep cc G (.int i) (.int i) := by unfold Rep; rfl
theorem rep_bl {G : Hp} {i : Bool} : Rep cc G (.bl i) (.bl i) := by unfold Rep; rfl
theorem rep_str {G : Hp} {i : Str} : Rep cc G (.str i) (.str i) := by unfold Rep; rfl
theorem rv_sh {Z : Zone} {ρ : REnv} {G H : Hp} {σ : L2.St} {v : V} {d : D} (h : Rep Z.cc G v d) : RvOk Z (.sh d) ρ G σ H v := h
theorem rep_non {G : Hp} : Rep cc G .non .non := by unfold Rep; rfl
theorem ops_int {op : D → D → OW} {C : Int → Int → Prop} {g : Int → Int → V} {f : Int → Int → D} (h : ∀ d e k, op d e k → ∃ i j, d = .int i ∧ e = .int j ∧ C i j ∧ k (.sh (f i j))) (hr : ∀ G i j, Rep cc G (g i j) (f i j)) : OpS cc op (rI C g) := by
  intro G H x y d e k Q le v1 v2 _ _ ho fin
  obtain ⟨i, j, rfl, rfl, c, hk⟩ := h d e k ho
  exact ⟨i, j, v1, v2, c, (fin _ hk).1 _ (hr G i j)⟩
theorem ops_int0 {op : D → D → OW} {g : Int → Int → V} {f : Int → Int → D} (h : ∀ d e k, op d e k → ∃ i j, d = .int i ∧ e = .int j ∧ k (.sh (f i j))) (hr : ∀ G i j, Rep cc G (g i j) (f i j)) : OpS cc op (rI0 g) := by
  intro G H x y d e k Q le v1 v2 _ _ ho fin
  obtain ⟨i, j, rfl, rfl, hk⟩ := h d e k ho
  exact ⟨i, j, v1, v2, (fin _ hk).1 _ (hr G i j)⟩
theorem ops_sub : OpS cc opSub (rI0 fun i j => .int (i - j)) := ops_int0 (f := fun i j => .int (i - j)) (fun d e k h => by unfold opSub at h; split at h <;> first | exact h.elim | exact ⟨_, _, rfl, rfl, h⟩) fun _ _ _ => rep_int
theorem ops_lt : OpS cc opLt (rI0 fun i j => .bl (decide (i < j))) := ops_int0 (f := fun i j => .bl (decide (i < j))) (fun d e k h => by unfold opLt at h; split at h <;> first | exact h.elim | exact ⟨_, _, rfl, rfl, h⟩) fun _ _ _ => rep_bl
theorem ops_gt : OpS cc opGt (rI0 fun i j => .bl (decide (j < i))) := ops_int0 (f := fun i j => .bl (decide (j < i))) (fun d e k h => by unfold opGt at h; split at h <;> first | exact h.elim | exact ⟨_, _, rfl, rfl, h⟩) fun _ _ _ => rep_bl
theorem ops_ge : OpS cc opGe (rI0 fun i j => .bl (decide (j ≤ i))) := ops_int0 (f := fun i j => .bl (decide (j ≤ i))) (fun d e k h => by unfold opGe at h; split at h <;> first | exact h.elim | exact ⟨_, _, rfl, rfl, h⟩) fun _ _ _ => rep_bl
theorem ops_mul : OpS cc opMul (rI MulOk fun i j => .int (i * j)) := ops_int (f := fun i j => .int (i * j)) (fun d e k h => by unfold opMul at h; split at h <;> first | exact h.elim | exact ⟨_, _, rfl, rfl, h⟩) fun _ _ _ => rep_int
theorem ops_fdv : OpS cc opFdv (rI (fun _ j => DivOk j) fun i j => .int (i / j)) := ops_int (f := fun i j => .int (i / j)) (fun d e k h => by unfold opFdv at h; split at h <;> first | exact h.elim | exact ⟨_, _, rfl, rfl, h⟩) fun _ _ _ => rep_int
theorem ops_fdvN : OpS cc opFdvN (rI (fun _ j => DivOkN j) fun i j => .int (i.fdiv j)) := ops_int (f := fun i j => .int (i.fdiv j)) (fun d e k h => by unfold opFdvN at h; split at h <;> first | exact h.elim | exact ⟨_, _, rfl, rfl, h⟩) fun _ _ _ => rep_int
theorem ops_mod : OpS cc opMod (rI (fun _ j => 0 < j) fun i j => .int (i % j)) := ops_int (f := fun i j => .int (i % j)) (fun d e k h => by unfold opMod at h; split at h <;> first | exact h.elim | exact ⟨_, _, rfl, rfl, h⟩) fun _ _ _ => rep_int
theorem ops_modN : OpS cc opModN (rI (fun _ j => j ≠ 0) fun i j => .int (i.fmod j)) := ops_int (f := fun i j => .int (i.fmod j)) (fun d e k h => by unfold opModN at h; split at h <;> first | exact h.elim | exact ⟨_, _, rfl, rfl, h⟩) fun _ _ _ => rep_int
theorem ops_pow : OpS cc opPow (rI CPow fun i j => .int (i ^ j.toNat)) := ops_int (f := fun i j => .int (i ^ j.toNat)) (fun d e k h => by unfold opPow at h; split at h <;> first | exact h.elim | exact ⟨_, _, rfl, rfl, h⟩) fun _ _ _ => rep_int
abbrev rAddS : R2 := fun x y H Q => ∃ i j, x = .str i ∧ y = .str j ∧ i.length + j.length ≤ sizeLine ∧ Q (.str (i ++ j)) H
def rAddA (K : PySem.W.Frag) : R2 := fun x y H Q => rI0 (fun i j => .int (i + j)) x y H Q ∨ rAddS x y H Q ∨ rCatR K x y H Q
theorem op_addA {X : Cx} : OpR X (binaryOp .Add) (rAddA X.K) := op_add.or (op_add_str.or op_catR)
theorem ops_add {K : PySem.W.Frag} (hK : cc.K = K) : OpS cc opAdd (rAddA K) := by
  subst hK
  intro G H x y d e k Q le v1 v2 _ _ ho fin
  unfold opAdd at ho
  split at ho
  · exact .inl ⟨_, _, v1, v2, (fin _ ho).1 _ rep_int⟩
  · exact .inr (.inl ⟨_, _, v1, v2, ho.1, (fin _ ho.2).1 _ rep_str⟩)
  · obtain ⟨a, vs, ea, ra, qa⟩ := v1
    obtain ⟨b, us, eb, rb, qb⟩ := v2
    refine .inr (.inr ⟨a, b, vs, us, ea, eb, ra, rb, ?_, fun p hp => ?_⟩)
    · rw [qa.length, qb.length]; exact ho.1
    · exact (fin _ ho.2) p _ hp ⟨_, upd_same, qa.append qb⟩
  · exact ho.elim
end

section
variable {X : Cx} {Z : Zone} {a b e : Expr} {wa wb w : EW} {pos : Pos}
theorem via_bin {op : D → D → OW} {r : R2} (hs : OpS Z.cc op r) : Via Z (tOp r (T Z wa) (T Z wb)) (eBin op wa wb) := fun σ H Q h => T.bin hs h
theorem de_bin {o : Operator} {op : D → D → OW} {r : R2} (hr : OpR X (binaryOp o) r) (hs : OpS Z.cc op r) (ha : PE X a (T Z wa)) (hb : PE X b (T Z wb)) : PE X (.BinOp a o b pos) (T Z (eBin op wa wb)) := pvia (pe_op hr ha hb) (via_bin hs)
theorem de_cmp {o : CmpOp} {op : D → D → OW} {r : R2} (hr : OpR X (compareOp o) r) (hs : OpS Z.cc op r) (ha : PE X a (T Z wa)) (hb : PE X b (T Z wb)) (hm : behindInMarks o b = false) : PE X (.Compare a [o] [b] pos) (T Z (eBin op wa wb)) := pvia (pe_cmpR hr ha hb hm) (via_bin hs)

/-! ### one operand -/
def OpS1 (cc : CC) (op : D → OW) (r : V → Hp → VK → Prop) : Prop := ∀ (G H : Hp) (x : V) (d : D) (k : Ro → Prop) (Q : VK), LE G H → View cc G H x d → Rep cc H x d → op d k → (∀ o, k o → Fin cc G H Q o) → r x H Q
def eUn (op : D → OW) (wa : EW) : EW := fun xk ρ K => wa xk ρ fun r ρ1 => op (r.get ρ1) fun o => out o ρ1 K
theorem via_un {op : D → OW} {r : V → Hp → VK → Prop} (hs : OpS1 Z.cc op r) : Via Z (fun σ H Q => T Z wa σ H fun x H1 => r x H1 Q) (eUn op wa) := fun σ H Q ⟨ρ, G, K, I, hw, q⟩ =>
  ⟨ρ, G, _, I, hw, fun r1 ρ1 x H1 G1 le1 I1 q1 k1 => hs G1 H1 x _ _ Q I1.sub (q1.view I1) (q1.repH I1) k1 fun o ho => T.fin I1 le1 ho q⟩
theorem de_un {o : UnaryOp} {op : D → OW} {r : V → Hp → VK → Prop} (hr : UnR X (unaryOp o) r) (hs : OpS1 Z.cc op r) (ha : PE X a (T Z wa)) : PE X (.UnaryOp o a pos) (T Z (eUn op wa)) := pvia (pe_un hr ha) (via_un hs)
def opNeg : D → OW
  | .int i => fun k => k (.sh (.int (-i)))
  | _ => fun _ => False
theorem ops_neg {cc : CC} : OpS1 cc opNeg (rU fun i => .int (-i)) := by
  intro G H x d k Q le v1 _ ho fin
  unfold opNeg at ho
  split at ho
  · exact ⟨_, v1, (fin _ ho).1 _ rep_int⟩
  · exact ho.elim
theorem de_neg (ha : PE X a (T Z wa)) : PE X (.UnaryOp .USub a pos) (T Z (eUn opNeg wa)) := de_un un_neg ops_neg ha

/-! ### tests -/
def tVal (w : EW) : TW := fun xk ρ K => w xk ρ fun r ρ' => match r.get ρ' with | .bl b => K b ρ' | _ => False
theorem Tt.val {t : TE} (v : Via Z t w) {σ : L2.St} {H : Hp} {Q : Bool → Hp → Prop} (h : Tt Z (tVal w) σ H Q) : t σ H fun x H' => ∃ k, x = .bl k ∧ Q k H' := by
  obtain ⟨ρ, G, K, I, hw, q⟩ := h
  refine v σ H _ ⟨ρ, G, _, I, hw, fun r ρ' x H' G' le I' q' k => ?_⟩
  have vw := q'.view I'
  cases hd : r.get ρ' <;> simp only [hd] at k
  all_goals try exact k.elim
  rename_i c
  rw [hd] at vw
  exact ⟨c, vw, q c ρ' H' G' le I' k⟩
theorem dt_val (h : PE X e (T Z w)) (he : ∀ whole, isTrue e X.env whole = (do let v ← whole; standAt e.pos; holding [v] (truthy v)) := by intro _; rfl) : PT X e (Tt Z (tVal w)) :=
  ⟨fun pins s σ H Q I q => (pt_val h he).run pins s σ H Q I (Tt.val (t := T Z w) (fun _ _ _ z => z) q)⟩
theorem dt_cmp {o : CmpOp} {op : D → D → OW} {r : R2} (hr : OpR X (compareOp o) r) (hs : OpS Z.cc op r) (ha : PE X a (T Z wa)) (hb : PE X b (T Z wb)) (hm : behindInMarks o b = false) : PT X (.Compare a [o] [b] pos) (Tt Z (tVal (eBin op wa wb))) :=
  ⟨fun pins s σ H Q I q => (pt_cmpR hr ha hb hm).run pins s σ H Q I (Tt.val (via_bin hs) q)⟩
def tAndW (ta tb : TW) : TW := fun xk ρ K => ta xk ρ fun c ρ1 => (c = true → tb xk ρ1 K) ∧ (c = false → K false ρ1)
def tOrW (ta tb : TW) : TW := fun xk ρ K => ta xk ρ fun c ρ1 => (c = true → K true ρ1) ∧ (c = false → tb xk ρ1 K)
def tNotW (ta : TW) : TW := fun xk ρ K => ta xk ρ fun c ρ1 => K (!c) ρ1
variable {ta tb : TW} {rest : List Expr}
theorem dw_and1 (ha : PT X a (Tt Z ta)) : PW X (.BoolOp .And [a] pos) (Tt Z ta) := pw_and1 ha
theorem dw_or1 (ha : PT X a (Tt Z ta)) : PW X (.BoolOp .Or [a] pos) (Tt Z ta) := pw_or1 ha
theorem dw_and (ha : PT X a (Tt Z ta)) (hb : PW X (.BoolOp .And (b :: rest) pos) (Tt Z tb)) : PW X (.BoolOp .And (a :: b :: rest) pos) (Tt Z (tAndW ta tb)) :=
  ⟨fun wh pins s σ H Q I ⟨ρ, G, K, IR, hw, q⟩ => (pw_and ha hb).run wh pins s σ H Q I ⟨ρ, G, _, IR, hw, fun c ρ1 H1 G1 le1 I1 k1 => by
    cases c with
    | true => rw [if_pos rfl]; exact ⟨ρ1, G1, _, I1, k1.1 rfl, fun c2 ρ2 H2 G2 le2 I2 k2 => q c2 ρ2 H2 G2 (le1.trans le2) I2 k2⟩
    | false => rw [if_neg Bool.false_ne_true]; exact q false ρ1 H1 G1 le1 I1 (k1.2 rfl)⟩⟩
theorem dw_or (ha : PT X a (Tt Z ta)) (hb : PW X (.BoolOp .Or (b :: rest) pos) (Tt Z tb)) : PW X (.BoolOp .Or (a :: b :: rest) pos) (Tt Z (tOrW ta tb)) :=
  ⟨fun wh pins s σ H Q I ⟨ρ, G, K, IR, hw, q⟩ => (pw_or ha hb).run wh pins s σ H Q I ⟨ρ, G, _, IR, hw, fun c ρ1 H1 G1 le1 I1 k1 => by
    cases c with
    | false => rw [if_neg Bool.false_ne_true]; exact ⟨ρ1, G1, _, I1, k1.2 rfl, fun c2 ρ2 H2 G2 le2 I2 k2 => q c2 ρ2 H2 G2 (le1.trans le2) I2 k2⟩
    | true => rw [if_pos rfl]; exact q true ρ1 H1 G1 le1 I1 (k1.1 rfl)⟩⟩
theorem dt_not (ha : PT X a (Tt Z ta)) : PT X (.UnaryOp .Not a pos) (Tt Z (tNotW ta)) :=
  ⟨fun pins s σ H Q I ⟨ρ, G, K, IR, hw, q⟩ => (pt_not ha).run pins s σ H Q I ⟨ρ, G, _, IR, hw, fun c ρ1 H1 G1 le1 I1 k1 => q (!c) ρ1 H1 G1 le1 I1 k1⟩⟩
/-! .. as values -/
def eAnd (wa wb : EW) : EW := fun xk ρ K => tVal wa xk ρ fun c ρ1 => (c = true → wb xk ρ1 K) ∧ (c = false → K (.sh (.bl false)) ρ1)
def eOr (wa wb : EW) : EW := fun xk ρ K => tVal wa xk ρ fun c ρ1 => (c = true → K (.sh (.bl true)) ρ1) ∧ (c = false → wb xk ρ1 K)
def eNot (wa : EW) : EW := fun xk ρ K => tVal wa xk ρ fun c ρ1 => K (.sh (.bl !c)) ρ1
theorem de_one {o} (h : PE X a (T Z wa)) : PE X (.BoolOp o [a] pos) (T Z wa) := pe_one h
theorem de_and (ha : PE X a (T Z wa)) (hb : PE X (.BoolOp .And (b :: rest) pos) (T Z wb)) : PE X (.BoolOp .And (a :: b :: rest) pos) (T Z (eAnd wa wb)) :=
  ⟨fun pins s σ H Q I ⟨ρ, G, K, IR, hw, q⟩ => (pe_and ha hb).run pins s σ H Q I (by
    have h : Tt Z (tVal wa) σ H fun c H1 => if c = true then T Z wb σ H1 Q else Q (.bl false) H1 := ⟨ρ, G, _, IR, hw, fun c ρ1 H1 G1 le1 I1 k1 => by
      cases c with
      | true => rw [if_pos rfl]; exact ⟨ρ1, G1, _, I1, k1.1 rfl, fun r2 ρ2 v H2 G2 le2 I2 q2 k2 => q r2 ρ2 v H2 G2 (le1.trans le2) I2 q2 k2⟩
      | false => rw [if_neg Bool.false_ne_true]; exact q (.sh (.bl false)) ρ1 _ H1 G1 le1 I1 (rv_sh rep_bl) (k1.2 rfl)⟩
    exact Tt.val (t := T Z wa) (fun _ _ _ z => z) h)⟩
theorem de_not (ha : PE X a (T Z wa)) : PE X (.UnaryOp .Not a pos) (T Z (eNot wa)) :=
  ⟨fun pins s σ H Q I ⟨ρ, G, K, IR, hw, q⟩ => (pe_not ha).run pins s σ H Q I (by
    have h : Tt Z (tVal wa) σ H fun c H1 => Q (.bl !c) H1 := ⟨ρ, G, _, IR, hw, fun c ρ1 H1 G1 le1 I1 k1 => q (.sh (.bl !c)) ρ1 _ H1 G1 le1 I1 (rv_sh rep_bl) k1⟩
    exact Tt.val (t := T Z wa) (fun _ _ _ z => z) h)⟩
def eIf (t : TW) (wa wb : EW) : EW := fun xk ρ K => t xk ρ fun c ρ1 => (c = true → wa xk ρ1 K) ∧ (c = false → wb xk ρ1 K)
/-! ### displays, argument lists -/
def dNil : DW := fun _ ρ K => K [] ρ
def dCons (wa : EW) (wr : DW) : DW := fun xk ρ K => wa xk ρ fun r ρ1 => stl r ρ1 fun d ρ2 => wr xk ρ2 fun ds ρ3 => K (d :: ds) ρ3
variable {es : List Expr} {wd : DW}
theorem da_nil : PA X [] (Ta Z dNil) := ⟨fun pos pins s σ H Q I ⟨ρ, G, K, IR, hw, q⟩ => pa_nil.run pos pins s σ H Q I (q [] ρ [] H G (LE.refl G) IR Reps.nil hw)⟩
theorem ta_cons {σ : L2.St} {H : Hp} {Q : List V → Hp → Prop} (h : Ta Z (dCons wa wd) σ H Q) : tCons (T Z wa) (Ta Z wd) σ H Q := by
  obtain ⟨ρ, G, K, IR, hw, q⟩ := h
  refine ⟨ρ, G, _, IR, hw, fun r ρ1 v H1 G1 le1 I1 q1 k1 => ?_⟩
  obtain ⟨d, ρ2, G2, le2, I2, rp, k2, _⟩ := I1.settle q1 k1
  exact ⟨ρ2, G2, _, I2, k2, fun ds ρ3 vs H3 G3 le3 I3 rs k3 => q (d :: ds) ρ3 (v :: vs) H3 G3 ((le1.trans le2).trans le3) I3 ((rp.mono le3) |> fun z => Reps.cons z rs) k3⟩
theorem da_cons (ha : PE X e (T Z wa)) (hr : PA X es (Ta Z wd)) (hs : starEach (e :: es) X.env = (false, eval e X.env) :: starEach es X.env := by rfl) : PA X (e :: es) (Ta Z (dCons wa wd)) :=
  ⟨fun pos pins s σ H Q I q => (pa_cons ha hr hs).run pos pins s σ H Q I (ta_cons q)⟩
def eTup (wd : DW) : EW := fun xk ρ K => wd xk ρ fun ds ρ1 => ds.length ≤ 1000 ∧ K (.sh (.tup ds)) ρ1
def eLst (wd : DW) : EW := fun xk ρ K => wd xk ρ fun ds ρ1 => ds.length ≤ 1000 ∧ ∀ a, K (.fr a (.lst ds)) ρ1
theorem le_line {n : Nat} (h : n ≤ 1000) : n ≤ sizeLine := Nat.le_of_lt (small1000 h)
theorem de_tup {x1} (h : PA X es (Ta Z wd)) : PE X (.Tuple es x1 pos) (T Z (eTup wd)) :=
  ⟨fun pins s σ H Q I ⟨ρ, G, K, IR, hw, q⟩ => (pe_tup h).run pins s σ H Q I ⟨ρ, G, _, IR, hw, fun ds ρ1 vs H1 G1 le1 I1 rs k1 => ⟨by rw [rs.length]; exact le_line k1.1, fun p hp =>
    q (.sh (.tup ds)) ρ1 _ _ _ (le1.trans (LE.upd (I1.g hp))) (I1.newG hp) (by show Rep _ _ _ _; unfold Rep; exact ⟨p, vs, rfl, upd_same, rs.mono (LE.upd (I1.g hp))⟩) k1.2⟩⟩⟩
theorem de_lst (h : PA X es (Ta Z wd)) : PE X (.List es pos) (T Z (eLst wd)) :=
  ⟨fun pins s σ H Q I ⟨ρ, G, K, IR, hw, q⟩ => (pe_lst h).run pins s σ H Q I ⟨ρ, G, _, IR, hw, fun ds ρ1 vs H1 G1 le1 I1 rs k1 => ⟨by rw [rs.length]; exact le_line k1.1, fun p hp =>
    q (.fr p (.lst ds)) ρ1 _ _ G1 le1 (I1.newH hp) ⟨rfl, ⟨vs, upd_same, rs⟩, I1.g hp, fun i m b e h => I1.own_ne h hp, (I1.h0 hp).1, (I1.h0 hp).2⟩ (k1.2 p)⟩⟩⟩
end
end TL

namespace TL
open PySem L2

/-- the ends of a statement: over trees, and below -/
structure Lk (Z : Zone) (G : Hp) (K : SK) (D : Ends) : Prop where
  nx : ∀ ρ' σ' H' G', LE G G' → SR Z ρ' G' σ' H' → K.nx ρ' → D.nx σ' H'
  rt : ∀ r ρ' v σ' H' G', LE G G' → SR Z ρ' G' σ' H' → RvOk Z r ρ' G' σ' H' v → K.rt r ρ' → D.rt v H'
  bk : ∀ ρ' σ' H' G', LE G G' → SR Z ρ' G' σ' H' → K.bk ρ' → D.bk σ' H'
  ct : ∀ ρ' σ' H' G', LE G G' → SR Z ρ' G' σ' H' → K.ct ρ' → D.ct σ' H'
theorem Lk.mono {Z : Zone} {G G1 : Hp} {K : SK} {D : Ends} (l : Lk Z G K D) (h : LE G G1) : Lk Z G1 K D :=
  ⟨fun a b c d e => l.nx a b c d (h.trans e), fun a b c d e f g => l.rt a b c d e f (h.trans g), fun a b c d e => l.bk a b c d (h.trans e), fun a b c d e => l.ct a b c d (h.trans e)⟩
def Ts (Z : Zone) (w : SW) : TS := fun D σ H => ∃ ρ G K, SR Z ρ G σ H ∧ w Z.xk ρ K ∧ Lk Z G K D

section
variable {X : Cx} {Z : Zone} {e : Expr} {w wa wb : EW} {pos : Pos} {st : Stmt} {rest : List Stmt} {sa sb : SW} {tw : TW}
def sNil : SW := fun _ ρ K => K.nx ρ
def sSeq (a b : SW) : SW := fun xk ρ K => a xk ρ { K with nx := fun ρ' => b xk ρ' K }
theorem ds_nil : PSs X [] (Ts Z sNil) := ⟨fun pins s σ H D I ⟨ρ, G, K, IR, hw, l⟩ => pss_nil.run pins s σ H D I (l.nx ρ σ H G (LE.refl G) IR hw)⟩
theorem ts_seq {D : Ends} {σ : L2.St} {H : Hp} (h : Ts Z (sSeq sa sb) D σ H) : tSeq (Ts Z sa) (Ts Z sb) D σ H := by
  obtain ⟨ρ, G, K, IR, hw, l⟩ := h
  exact ⟨ρ, G, _, IR, hw, ⟨fun ρ' σ' H' G' le I' k => ⟨ρ', G', K, I', k, l.mono le⟩, l.rt, l.bk, l.ct⟩⟩
theorem ds_cons (h1 : PS X st (Ts Z sa)) (h2 : PSs X rest (Ts Z sb)) : PSs X (st :: rest) (Ts Z (sSeq sa sb)) := ⟨fun pins s σ H D I h => (pss_cons h1 h2).run pins s σ H D I (ts_seq h)⟩
theorem ds_one (h1 : PS X st (Ts Z sa)) : PSs X [st] (Ts Z sa) := pss_one h1
def sPass : SW := fun _ ρ K => K.nx ρ
def sBrk : SW := fun _ ρ K => K.bk ρ
def sNever : SW := fun _ _ _ => False
theorem ds_never : PS X st (Ts Z sNever) := ⟨fun _ _ _ _ _ _ ⟨_, _, _, _, h, _⟩ => h.elim⟩
def sExpr (w : EW) : SW := fun xk ρ K => w xk ρ fun _ ρ1 => K.nx ρ1
def sRet (w : EW) : SW := fun xk ρ K => w xk ρ K.rt
theorem ds_ret (he : PE X e (T Z w)) : PS X (.Return (some e) pos) (Ts Z (sRet w)) :=
  ⟨fun pins s σ H D I ⟨ρ, G, K, IR, hw, l⟩ => (ps_ret he).run pins s σ H D I ⟨ρ, G, _, IR, hw, fun r ρ' v H' G' le I' q k => l.rt r ρ' v σ H' G' le I' q k⟩⟩
def sRetN : SW := fun _ ρ K => K.rt (.sh .non) ρ
def sIf (t : TW) (a b : SW) : SW := fun xk ρ K => t xk ρ fun c ρ1 => (c = true → a xk ρ1 K) ∧ (c = false → b xk ρ1 K)
theorem ds_if {c : Expr} {a b : List Stmt} (hc : PT X c (Tt Z tw)) (ha : PSs X a (Ts Z sa)) (hb : PSs X b (Ts Z sb)) : PS X (.If c a b pos) (Ts Z (sIf tw sa sb)) :=
  ⟨fun pins s σ H D I ⟨ρ, G, K, IR, hw, l⟩ => (ps_if hc ha hb).run pins s σ H D I ⟨ρ, G, _, IR, hw, fun c ρ' H' G' le I' k => by
    cases c with
    | true => rw [if_pos rfl]; exact ⟨ρ', G', K, I', k.1 rfl, l.mono le⟩
    | false => rw [if_neg Bool.false_ne_true]; exact ⟨ρ', G', K, I', k.2 rfl, l.mono le⟩⟩⟩

/-! ### stores -/
def lay (i : Nat) (r : Rv) (ρ : REnv) (K : REnv → Prop) : Prop := match r with
  | .fr a d => K (ρ.set i (.own false a d))
  | r => stl r ρ fun d ρ2 => K (ρ2.set i (.sh d))
theorem SR.place {ρ : REnv} {G H : Hp} {σ : L2.St} {i : Nat} {r : Rv} {v : V} {K : REnv → Prop} (I : SR Z ρ G σ H) (hi : i < σ.length) (q : RvOk Z r ρ G σ H v) (h : lay i r ρ K) : ∃ ρ' G', LE G G' ∧ SR Z ρ' G' (σ.set i (some v)) H ∧ K ρ' := by
  have other : ∀ {r : Rv}, RvOk Z r ρ G σ H v → (stl r ρ fun d ρ2 => K (ρ2.set i (.sh d))) → ∃ ρ' G', LE G G' ∧ SR Z ρ' G' (σ.set i (some v)) H ∧ K ρ' := fun {r} q h => by
    obtain ⟨d, ρ', G', le, I', rp, k, _⟩ := I.settle q h
    exact ⟨_, G', le, I'.put hi rp, k⟩
  cases r with
  | loc j => exact other q h
  | sh d => exact other q h
  | gh j a => exact other q h
  | gx as cs t => exact other q h
  | fr a d =>
    have e := q.1
    subst e
    exact ⟨_, G, LE.refl G, I.putFr hi q, h⟩
def sSet (i : Nat) (w : EW) : SW := fun xk ρ K => w xk ρ fun r ρ1 => lay i r ρ1 K.nx
theorem ds_set {i : Nat} {x : Str} {pos' : Pos} (hN : X.N.Nodup) (he : PE X e (T Z w)) (hi : X.N[i]? = some x := by rfl) (hx : Loc X.env.scope x := by first | exact Or.inl rfl | exact Or.inr rfl) (hs : swapsWith e (some (.Name x pos')) pos.line X.env = pure false := by rfl) (hf : X.fn x = true ∨ X.env.scope.names.lookup x = some .local := by first | exact .inl rfl | exact .inr rfl | assumption) :
    PS X (.Assign [.Name x pos'] e pos) (Ts Z (sSet i w)) :=
  ⟨fun pins s σ H D I ⟨ρ, G, K, IR, hw, l⟩ => (ps_set hN hi hx he hs hf).run pins s σ H D I ⟨ρ, G, _, IR, hw, fun r ρ' v H' G' le I' q k => by
    obtain ⟨ρ2, G2, le2, I2, k2⟩ := I'.place (lt_len I hi) q k
    exact l.nx ρ2 _ H' G2 (le.trans le2) I2 k2⟩⟩
/-- a, b = x, y -/
def sPar (i j : Nat) (wd : DW) : SW := fun xk ρ K => wd xk ρ fun ds ρ1 => match ds with | [d, e] => K.nx ((ρ1.set i (.sh d)).set j (.sh e)) | _ => False
theorem ds_par {i j : Nat} {x y : Str} {a b : Expr} {px py pt : Pos} {kt k2 pt2} {wd : DW} (hc : X.calm = true) (hN : X.N.Nodup) (ha : PA X [a, b] (Ta Z wd)) (hi : X.N[i]? = some x := by rfl) (hj : X.N[j]? = some y := by rfl) (hij : i ≠ j := by decide)
    (hx : X.env.scope.names.lookup x = some .local := by rfl) (hy : X.env.scope.names.lookup y = some .local := by rfl)
    (hw : swappedStores [.Tuple [.Name x px, .Name y py] kt pt] (.Tuple [a, b] k2 pt2) X.env = pure (some [x, y]) := by rfl)
    (hs : swapsWithSole [.Tuple [.Name x px, .Name y py] kt pt] (.Tuple [a, b] k2 pt2) pos.line X.env = pure false := by rfl) :
    PS X (.Assign [.Tuple [.Name x px, .Name y py] kt pt] (.Tuple [a, b] k2 pt2) pos) (Ts Z (sPar i j wd)) :=
  ⟨fun pins s σ H D I ⟨ρ, G, K, IR, h, l⟩ => (ps_par hc hN hi hj hij hx hy ha hw hs).run pins s σ H D I ⟨ρ, G, _, IR, h, fun ds ρ' vs H' G' le I' rs k => by
    match ds, k with
    | [d, e], k =>
      obtain ⟨v, r1, rfl, rv, rs⟩ := rs.inv_cons
      obtain ⟨u, r2, rfl, ru, rs⟩ := rs.inv_cons
      have := rs.inv_nil
      subst this
      refine ⟨v, u, rfl, l.nx _ _ H' G' le ((I'.put (lt_len I hi) rv).put ?_ ru) k⟩
      rw [List.length_set]; exact lt_len I hj⟩⟩

/-! ### targets -/
def Tg (Z : Zone) (g : GW) : TG := fun v σ H Q => ∃ ρ G d K, SR Z ρ G σ H ∧ Rep Z.cc G v d ∧ g d ρ K ∧ ∀ ρ' σ' G', LE G G' → SR Z ρ' G' σ' H → K ρ' → Q σ' H
abbrev GWs := List D → REnv → (REnv → Prop) → Prop
def Tgs (Z : Zone) (g : GWs) : TGs := fun vs σ H Q => ∃ ρ G ds K, SR Z ρ G σ H ∧ Reps Z.cc G vs ds ∧ g ds ρ K ∧ ∀ ρ' σ' G', LE G G' → SR Z ρ' G' σ' H → K ρ' → Q σ' H
def gN (i : Nat) : GW := fun d ρ K => K (ρ.set i (.sh d))
def gNl : GWs := fun ds ρ K => ds = [] ∧ K ρ
def gCn (g : GW) (gs : GWs) : GWs := fun ds ρ K => match ds with | d :: r => g d ρ fun ρ' => gs r ρ' K | [] => False
def gTp (n : Nat) (gs : GWs) : GW := fun d ρ K => match d with | .tup ds => ds.length = n ∧ gs ds ρ K | _ => False
theorem dg_name {i : Nat} {x : Str} (hN : X.N.Nodup) (hi : X.N[i]? = some x := by rfl) (hx : Loc X.env.scope x := by first | exact Or.inl rfl | exact Or.inr rfl) (hf : X.fn x = true ∨ X.env.scope.names.lookup x = some .local := by first | exact .inl rfl | exact .inr rfl | assumption) : PG X (.Name x pos) (Tg Z (gN i)) :=
  ⟨fun pins s σ H v u Q I r ⟨ρ, G, d, K, IR, rp, k, q⟩ => (pg_name hN hi hx hf).run pins s σ H v u Q I r (q _ _ G (LE.refl G) (IR.put (lt_len I hi) rp) k)⟩
theorem dgs_nil : PGs X [] (Tgs Z gNl) := ⟨fun pins s σ H vs us Q I r ⟨ρ, G, ds, K, IR, rp, k, q⟩ => pgs_nil.run pins s σ H vs us Q I r (by
  obtain ⟨e, k⟩ := k
  subst e
  exact ⟨rp.inv_nil, q ρ σ G (LE.refl G) IR k⟩)⟩
theorem dgs_cons {es : List Expr} {g : GW} {gs : GWs} (h1 : PG X e (Tg Z g)) (h2 : PGs X es (Tgs Z gs))
    (hs : (assignEach (e :: es) X.env).map (·.2) = assign e X.env :: (assignEach es X.env).map (·.2) := by rfl) : PGs X (e :: es) (Tgs Z (gCn g gs)) :=
  ⟨fun pins s σ H vs us Q I r ⟨ρ, G, ds, K, IR, rp, k, q⟩ => (pgs_cons h1 h2 hs).run pins s σ H vs us Q I r (by
    match ds, k with
    | d :: dr, k =>
      obtain ⟨v, vr, rfl, rv, rs⟩ := rp.inv_cons
      exact ⟨v, vr, rfl, ρ, G, d, _, IR, rv, k, fun ρ' σ' G' le I' k' => ⟨ρ', G', dr, K, I', rs.mono le, k', fun ρ2 σ2 G2 le2 I2 k2 => q ρ2 σ2 G2 (le.trans le2) I2 k2⟩⟩)⟩
theorem dg_tup {es : List Expr} {k : Nat} {gs : GWs} {n : Nat} (hc : X.calm = true) (h : PGs X es (Tgs Z gs))
    (hn : (assignEach es X.env).length = n := by rfl) (hst : (assignEach es X.env).findIdx? (·.1) = none := by rfl) : PG X (.Tuple es k pos) (Tg Z (gTp n gs)) :=
  ⟨fun pins s σ H v u Q I r ⟨ρ, G, d, K, IR, rp, k, q⟩ => (pg_tup (n := n) hc h hn hst).run pins s σ H v u Q I r (by
    cases d <;> try exact (k : False).elim
    rename_i ds
    unfold Rep at rp
    obtain ⟨a, vs, e, ga, rs⟩ := rp
    exact ⟨a, vs, e, SqT.of (IR.sub _ _ ga), by rw [rs.length]; exact k.1, ρ, G, ds, K, IR, rs, k.2, q⟩)⟩
/-- target = value -/
def sAsg (w : EW) (g : GW) : SW := fun xk ρ K => w xk ρ fun r ρ1 => stl r ρ1 fun d ρ2 => g d ρ2 K.nx
theorem ds_asg {tg : Expr} {g : GW} (he : PE X e (T Z w)) (hg : PG X tg (Tg Z g)) (hs : swapsWithSole [tg] e pos.line X.env = pure false := by rfl) (hw : swappedStores [tg] e X.env = pure none := by rfl)
    (h1 : (assignEach [tg] X.env).map (·.2) = [assign tg X.env] := by rfl) : PS X (.Assign [tg] e pos) (Ts Z (sAsg w g)) :=
  ⟨fun pins s σ H D I ⟨ρ, G, K, IR, hk, l⟩ => (ps_asg he hg hs hw h1).run pins s σ H D I ⟨ρ, G, _, IR, hk, fun r ρ' v H' G' le I' q k => by
    obtain ⟨d, ρ2, G2, le2, I2, rp, k2, _⟩ := I'.settle q k
    exact ⟨ρ2, G2, d, _, I2, rp, k2, fun ρ3 σ3 G3 le3 I3 k3 => l.nx ρ3 σ3 H' G3 ((le.trans le2).trans le3) I3 k3⟩⟩⟩

/-! ### a root of a name's own, changed -/
theorem Root.lst {cc : CC} {G H : Hp} {a : Addr} {vs : List V} {ds : List D} (h : H a = some (.lst vs)) (r : Reps cc G vs ds) : Root cc G H a (.lst ds) := ⟨vs, h, r⟩
theorem SR.ownL {ρ : REnv} {G H : Hp} {σ : L2.St} (I : SR Z ρ G σ H) {j : Nat} {m : Bool} {a : Addr} {ds : List D} (h : ρ[j]? = some (.own m a (.lst ds))) : (σ[j]? = some (some (.ref a)) ∨ σ.length ≤ j) ∧ ∃ vs, H a = some (.lst vs) ∧ Reps Z.cc G vs ds := I.slot j _ h
def sSub (j : Nat) (wi w : EW) : SW := fun xk ρ K => w xk ρ fun r ρ1 => stl r ρ1 fun d ρ2 => bound ρ2 j ∧ wi xk ρ2 fun ri ρ3 => match ρ3[j]?, ri.get ρ3 with
  | some (.own m a (.lst ds)), .int k => ∃ n, ixN ds.length k = some n ∧ K.nx (ρ3.set j (.own m a (.lst (ds.set n d))))
  | _, _ => False
theorem ds_sub {j : Nat} {x : Str} {i : Expr} {wi : EW} {px ps : Pos} (he : PE X e (T Z w)) (hi : PE X i (T Z wi)) (hN : X.N[j]? = some x := by rfl) (hv : Vis X.env.scope x := by first | exact Or.inl rfl | exact Or.inr (Or.inl rfl) | exact Or.inr (Or.inr rfl)) (hd : (x == ("__debug__" : Str)) = false := by decide)
    (hcd : (x == ("__classdict__" : Str)) = false := by decide)
    (ha : ∀ v, assign (.Subscript (.Name x px) i ps) X.env v = (do
      let ov ← holding [v] (eval (.Name x px) X.env)
      let iv ← holding [v, ov] (eval i X.env)
      standAt ps
      holding [v, ov, iv] (setItem ov iv v)
      release [v, ov, iv] []) := by intro _; rfl)
    (hs : swapsWithSole [.Subscript (.Name x px) i ps] e pos.line X.env = pure false := by rfl) (hw : swappedStores [.Subscript (.Name x px) i ps] e X.env = pure none := by rfl)
    (h1 : (assignEach [.Subscript (.Name x px) i ps] X.env).map (·.2) = [assign (.Subscript (.Name x px) i ps) X.env] := by rfl) : PS X (.Assign [.Subscript (.Name x px) i ps] e pos) (Ts Z (sSub j wi w)) :=
  ⟨fun pins s σ H D I ⟨ρ, G, K, IR, hk, l⟩ => (ps_asg he (pg_sub (pv j hN hv hd hcd) hi set_list ha) hs hw h1).run pins s σ H D I ⟨ρ, G, _, IR, hk, fun r ρ' v H' G' le I' q k => by
    obtain ⟨d, ρ2, G2, le2, I2, rp, ⟨hb, k2⟩, _⟩ := I'.settle q k
    obtain ⟨o, eo⟩ := bound_get I2 (lt_len I hN) hb
    refine ⟨o, eo, ρ2, G2, _, I2, k2, fun ri ρ3 iv H3 G3 le3 I3 qi k3 => ?_⟩
    have vi := qi.view I3
    split at k3
    · rename_i m a ds kk hs hg
      rw [hg] at vi
      obtain ⟨n, hn, k4⟩ := k3
      obtain ⟨es, vs, ha, rs⟩ := I3.ownL hs
      cases own_in eo es
      refine ⟨a, vs, kk, n, rfl, vi, ha, by rw [rs.length]; exact hn, ?_⟩
      exact l.nx _ _ _ G3 ((le.trans le2).trans le3) (I3.write hs (Root.lst upd_same (rs.set n (rp.mono le3)))) k4
    · exact k3.elim⟩⟩
def sApp (j : Nat) (w : EW) : SW := fun xk ρ K => (∃ m a ds, ρ[j]? = some (.own m a (.lst ds))) ∧ w xk ρ fun r ρ1 => stl r ρ1 fun d ρ2 => match ρ2[j]? with
  | some (.own m a (.lst ds)) => ds.length < sizeLine ∧ K.nx (ρ2.set j (.own m a (.lst (ds ++ [d]))))
  | _ => False
theorem ds_app {j : Nat} {x : Str} {px apos cpos : Pos} (he : PE X e (T Z w)) (hN : X.N[j]? = some x := by rfl) (hv : Vis X.env.scope x := by first | exact Or.inl rfl | exact Or.inr (Or.inl rfl) | exact Or.inr (Or.inr rfl)) (hd : (x == ("__debug__" : Str)) = false := by decide)
    (hcd : (x == ("__classdict__" : Str)) = false := by decide)
    (hbase : attributeBase (.Name x px) "append" X.env (eval (.Name x px) X.env) = eval (.Name x px) X.env := by rfl)
    (hfew : ((backTo cpos (starEach [e] X.env)).all (fun x => !x.1) && (backToKw cpos (keywordEach [] X.env)).all (fun x => x.1.isSome)
      && decide (([e] : List Expr).length + ([] : List Keyword).length + (if ([] : List Keyword).isEmpty then 0 else 1) < 30)) = true := by rfl)
    (hline : (apos.endLine == cpos.line) = true := by rfl) (hst : starEach [e] X.env = (false, eval e X.env) :: starEach [] X.env := by rfl) (hplain : (backTo cpos (starEach [] X.env)).any (·.1) = false := by rfl)
    (hs : swapsWith (.Call (.Attribute (.Name x px) "append" apos) [e] [] cpos) none pos.line X.env = pure false := by rfl) :
    PS X (.Expr (.Call (.Attribute (.Name x px) "append" apos) [e] [] cpos) pos) (Ts Z (sApp j w)) :=
  ⟨fun pins s σ H D I ⟨ρ, G, K, IR, ⟨⟨m, a, ds, hs0⟩, hk⟩, l⟩ => (ps_expr (pe_bm PySem.F.plainAttrs_list PySem.F.slot_list_append PySem.F.type_list_append mt_append (pv j hN hv hd hcd) (pa_cons he pa_nil hst) hbase hfew hline hst hplain) hs).run pins s σ H D I (by
    obtain ⟨es, vs, ha, rs⟩ := IR.ownL hs0
    have es := own_at (lt_len I hN) es
    refine ⟨.ref a, es, .inl ⟨rfl, vs, SqL.of ha⟩, ρ, G, _, IR, hk, fun r ρ' v H' G' le I' q k => ?_⟩
    obtain ⟨d, ρ2, G2, le2, I2, rp, k2, _⟩ := I'.settle q k
    split at k2
    · rename_i m2 a2 ds2 hs2
      obtain ⟨es2, vs2, ha2, rs2⟩ := I2.ownL hs2
      cases own_in es es2
      refine ⟨a, vs2, v, rfl, rfl, ha2, by rw [rs2.length]; exact k2.1, ?_⟩
      exact l.nx _ _ _ G2 (le.trans le2) (I2.write hs2 (Root.lst upd_same (rs2.append (Reps.cons rp Reps.nil)))) k2.2
    · exact k2.elim)⟩

/-! ### while -/
def sWhile (t : TW) (b : SW) : SW := fun xk ρ K => ∃ W : Nat → REnv → Prop, (∃ m, W m ρ) ∧ ∀ m ρ, W m ρ → t xk ρ fun c ρ1 =>
  (c = true → b xk ρ1 { K with nx := fun ρ2 => ∃ m', m' < m ∧ W m' ρ2, ct := fun ρ2 => ∃ m', m' < m ∧ W m' ρ2, bk := K.nx }) ∧ (c = false → K.nx ρ1)
theorem ds_while {c : Expr} {body : List Stmt} (hp : PassesOwn (model X.prog X.w) X.A X.env X.xe) (hc : PT X c (Tt Z tw)) (hb : PSs X body (Ts Z sb)) : PS X (.While c body [] pos) (Ts Z (sWhile tw sb)) :=
  ⟨fun pins s σ H D I ⟨ρ, G, K, IR, ⟨W, ⟨m0, w0⟩, turn⟩, l⟩ => (ps_while hp hc hb).run pins s σ H D I (by
    refine ⟨fun m σ' H' => ∃ ρ' G', LE G G' ∧ SR Z ρ' G' σ' H' ∧ W m ρ', ⟨m0, ρ, G, LE.refl G, IR, w0⟩, ?_⟩
    rintro m σ' H' ⟨ρ', G', le, I', w'⟩
    refine ⟨ρ', G', _, I', turn m ρ' w', fun c ρ1 H1 G1 le1 I1 k => ?_⟩
    cases c with
    | true =>
      rw [if_pos rfl]
      refine ⟨fun σ2 H2 => ∃ ρ2 G2 m', LE G G2 ∧ SR Z ρ2 G2 σ2 H2 ∧ m' < m ∧ W m' ρ2, fun σ2 H2 ⟨ρ2, G2, m', le2, I2, hm, w2⟩ => ⟨m', hm, ρ2, G2, le2, I2, w2⟩, ρ1, G1, _, I1, k.1 rfl, ?_⟩
      have lG := le.trans le1
      exact ⟨fun ρ2 σ2 H2 G2 le2 I2 ⟨m', hm, w2⟩ => ⟨ρ2, G2, m', lG.trans le2, I2, hm, w2⟩, fun r ρ2 v σ2 H2 G2 le2 I2 q k => l.rt r ρ2 v σ2 H2 G2 (lG.trans le2) I2 q k, fun ρ2 σ2 H2 G2 le2 I2 k => l.nx ρ2 σ2 H2 G2 (lG.trans le2) I2 k,
        fun ρ2 σ2 H2 G2 le2 I2 ⟨m', hm, w2⟩ => ⟨ρ2, G2, m', lG.trans le2, I2, hm, w2⟩⟩
    | false =>
      rw [if_neg Bool.false_ne_true]
      exact l.nx ρ1 σ' H1 G1 (le.trans le1) I1 (k.2 rfl))⟩

/-! ### for -/
/-- what a loop walks: how many turns, what comes at a turn, what must stand as it is meanwhile -/
abbrev IW := Xk → REnv → (Nat → (Nat → D → Prop) → (REnv → Prop) → REnv → Prop) → Prop
def ItOk (Z : Zone) (J : It) (n : Nat) (f : Nat → D → Prop) (st : REnv → Prop) (G : Hp) : Prop := ∀ (H0 : Hp) (xk : Xk) i ρ G1 σ H, LE G G1 → SR { Z with H0 := H0, xk := xk } ρ G1 σ H → st ρ →
  (n ≤ i → J.stop i H) ∧ (i < n → J.go i H ∧ ∀ x H', J.yld i H x H' → ∃ d G2, f i d ∧ LE G1 G2 ∧ SR { Z with H0 := H0, xk := xk } ρ G2 σ H' ∧ Rep Z.cc G2 x d)
def Ti (Z : Zone) (iw : IW) : TI := fun σ H R => ∃ ρ G K, SR Z ρ G σ H ∧ iw Z.xk ρ K ∧
  ∀ n f st ρ' H' G' J, LE G G' → SR Z ρ' G' σ H' → ItOk Z J n f st G' → K n f st ρ' → R J H'
def sFor (iw : IW) (g : GW) (b : SW) : SW := fun xk ρ K => iw xk ρ fun n f st ρ1 => ∃ W : Nat → REnv → Prop, W 0 ρ1 ∧ (∀ i ρ, i ≤ n → W i ρ → st ρ) ∧
  (∀ i d ρ, i < n → f i d → W i ρ → g d ρ fun ρ2 => b xk ρ2 { K with nx := W (i + 1), ct := W (i + 1), bk := K.nx }) ∧ ∀ ρ, W n ρ → K.nx ρ
theorem ds_for {tg iter : Expr} {body : List Stmt} {iw : IW} {g : GW} (hp : PassesOwn (model X.prog X.w) X.A X.env X.xe) (hc : X.calm = true) (hi : PI X tg iter (Ti Z iw)) (hg : PG X tg (Tg Z g)) (hb : PSs X body (Ts Z sb))
    (hs : ∀ x, foldedSetIterable iter X.env x = pure x := by intro _; rfl) : PS X (.For tg iter body [] pos) (Ts Z (sFor iw g sb)) :=
  ⟨fun pins s σ H D I ⟨ρ, G, K, IR, hw, l⟩ => (ps_for hp hc hi hg hb hs).run pins s σ H D I ⟨ρ, G, _, IR, hw, fun n f st ρ1 H1 G1 J le1 I1 io ⟨W, w0, stb, turn, fin⟩ => by
    refine ⟨fun i m σ' H' => m = n - i ∧ i ≤ n ∧ ∃ ρ' G', LE G1 G' ∧ SR Z ρ' G' σ' H' ∧ W i ρ', ⟨n, by simp, Nat.zero_le _, ρ1, G1, LE.refl G1, I1, w0⟩, ?_⟩
    rintro i m σ' H' ⟨rfl, hin, ρ', G', le', I', w'⟩
    obtain ⟨s1, s2⟩ := io Z.H0 Z.xk i ρ' G' σ' H' le' I' (stb i ρ' hin w')
    by_cases hlt : i < n
    · obtain ⟨go, yl⟩ := s2 hlt
      refine .inr ⟨go, fun σ2 H2 => ∃ ρ2 G2, LE G1 G2 ∧ SR Z ρ2 G2 σ2 H2 ∧ W (i + 1) ρ2, fun σ2 H2 h => ⟨n - (i + 1), by omega, rfl, hlt, h⟩, fun x H2 y => ?_⟩
      obtain ⟨d, G2, fd, le2, I2, rp⟩ := yl x H2 y
      refine ⟨ρ', G2, d, _, I2, rp, turn i d ρ' hlt fd w', fun ρ3 σ3 G3 le3 I3 k3 => ⟨ρ3, G3, _, I3, k3, ?_⟩⟩
      have l3 := (le'.trans le2).trans le3
      have lG := le1.trans l3
      exact ⟨fun ρ4 σ4 H4 G4 le4 I4 k => ⟨ρ4, G4, l3.trans le4, I4, k⟩, fun r ρ4 v σ4 H4 G4 le4 I4 q k => l.rt r ρ4 v σ4 H4 G4 (lG.trans le4) I4 q k, fun ρ4 σ4 H4 G4 le4 I4 k => l.nx ρ4 σ4 H4 G4 (lG.trans le4) I4 k,
        fun ρ4 σ4 H4 G4 le4 I4 k => ⟨ρ4, G4, l3.trans le4, I4, k⟩⟩
    · have e : i = n := by omega
      subst e
      exact .inl ⟨s1 (Nat.le_refl _), l.nx ρ' σ' H' G' (le1.trans le') I' (fin ρ' w')⟩⟩⟩

/-- the source of a loop stands still -/
def stab (r : Rv) (ρ1 : REnv) (ρ : REnv) : Prop := match r with
  | .loc i => match ρ1[i]? with
    | some (.own m a d) => ρ[i]? = some (.own m a d)
    | _ => True
  | .gh j _ => match ρ1[j]? with
    | some (.own m a d) => ρ[j]? = some (.own m a d)
    | _ => True
  | _ => True
def iLst (w : EW) : IW := fun xk ρ K => w xk ρ fun r ρ1 => match r.get ρ1 with | .lst ds => K ds.length (fun i d => ds[i]? = some d) (stab r ρ1) ρ1 | _ => False
def iTpl (w : EW) : IW := fun xk ρ K => w xk ρ fun r ρ1 => match r.get ρ1 with | .tup ds => K ds.length (fun i d => ds[i]? = some d) (fun _ => True) ρ1 | _ => False
theorem SqL.rd {K : PySem.W.Frag} {H : Hp} {a : Addr} {xs : List V} (h : Rd H a (.lst xs)) : SqL K H a xs := .inl h
theorem SqT.rd {K : PySem.W.Frag} {H : Hp} {a : Addr} {xs : List V} (h : Rd H a (.tup xs)) : SqT K H a xs := .inl h
/-- a source that stands in what is known -/
theorem itl_known {K : PySem.W.Frag} {a : Addr} {vs : List V} {ds : List D} {G : Hp} {st : REnv → Prop} (hK : Z.cc.K = K) (ra : SqL Z.cc.K G a vs) (rs : Reps Z.cc G vs ds) :
    ItOk Z (Itl K a) ds.length (fun i d => ds[i]? = some d) st G := by
  intro H0 xk i ρ G1 σ H le I _
  have rH : SqL K H a vs := by rw [← hK]; exact (le.trans I.sub).sql ra
  refine ⟨fun h => ⟨vs, rH, by rw [rs.length]; exact h⟩, fun h => ?_⟩
  obtain ⟨v, hv, _⟩ := rs.get (List.getElem?_eq_getElem h)
  refine ⟨⟨vs, v, rH, hv⟩, fun x H' y => ?_⟩
  obtain ⟨e, y⟩ := y
  subst e
  obtain ⟨d, hd, rp⟩ := rs.get' (y vs rH)
  exact ⟨d, G1, hd, LE.refl _, I, rp.mono le⟩
end
end TL

namespace TL
open PySem L2

section
variable {X : Cx} {Z : Zone} {e : Expr} {w wa wb : EW} {pos : Pos}

/-! ### what a loop walks -/
theorem it_list {K : PySem.W.Frag} (hK : Z.cc.K = K) {ρ : REnv} {G H : Hp} {σ : L2.St} {r : Rv} {x : V} {ds : List D} (I : SR Z ρ G σ H) (q : RvOk Z r ρ G σ H x) (hd : r.get ρ = .lst ds) :
    ∃ a G', x = .ref a ∧ LE G G' ∧ SR Z ρ G' σ H ∧ (∃ xs, SqL K H a xs) ∧ ItOk Z (Itl K a) ds.length (fun i d => ds[i]? = some d) (stab r ρ) G' := by
  have known : ∀ {G'}, LE G G' → SR Z ρ G' σ H → Rep Z.cc G' x (.lst ds) → ∃ a G', x = .ref a ∧ LE G G' ∧ SR Z ρ G' σ H ∧ (∃ xs, SqL K H a xs) ∧ ItOk Z (Itl K a) ds.length (fun i d => ds[i]? = some d) (stab r ρ) G' := fun {G'} le I' rp => by
    unfold Rep at rp
    obtain ⟨a, vs, ea, ra, rs⟩ := rp
    exact ⟨a, G', ea, le, I', ⟨vs, by rw [← hK]; exact I'.sub.sql ra⟩, itl_known hK ra rs⟩
  cases r with
  | sh d => exact known (LE.refl G) I (by have : d = .lst ds := hd; rw [← this]; exact q)
  | fr a d =>
    have : d = .lst ds := hd
    subst this
    obtain ⟨G', le, I', q'⟩ := I.freeze q
    exact known le I' q'
  | loc i =>
    obtain ⟨ex, hb⟩ := q
    have hd : getL ρ i = .lst ds := hd
    unfold getL at hd
    unfold bound at hb
    cases hs : ρ[i]? with
    | none => rw [hs] at hb; exact hb.elim
    | some s =>
      have so := I.slot i s hs
      simp only [hs] at hd
      cases s with
      | no => rw [hs] at hb; exact hb.elim
      | sh d =>
        obtain ⟨u, eu, ru⟩ := so
        rw [ex] at eu; cases eu
        subst hd
        exact known (LE.refl G) I ru
      | own m a d =>
        obtain ⟨eu, rt⟩ := so
        cases own_in ex eu
        have hd : d = .lst ds := hd
        subst hd
        obtain ⟨vs, ha, rs⟩ := rt
        refine ⟨a, G, rfl, LE.refl G, I, ⟨vs, SqL.of ha⟩, fun H0 xk j ρ' G1 σ' H' le I' hst => ?_⟩
        have hst : ρ'[i]? = some (.own m a (.lst ds)) := by
          unfold stab at hst
          simp only [hs] at hst
          exact hst
        obtain ⟨es, us, ha', rs'⟩ := I'.ownL hst
        refine ⟨fun h => ⟨us, SqL.of ha', by rw [rs'.length]; exact h⟩, fun h => ?_⟩
        obtain ⟨v, hv, _⟩ := rs'.get (List.getElem?_eq_getElem h)
        refine ⟨⟨us, v, SqL.of ha', hv⟩, fun x H2 y => ?_⟩
        obtain ⟨e, y⟩ := y
        subst e
        obtain ⟨d, hd, rp⟩ := rs'.get' (y us (SqL.of ha'))
        exact ⟨d, G1, hd, LE.refl _, I', rp⟩
  | gh j a =>
    obtain ⟨rfl, m, d, hs⟩ := q
    have hd : getL ρ j = .lst ds := hd
    unfold getL at hd
    rw [hs] at hd
    have hd : d = .lst ds := hd
    subst hd
    have rt := (I.slot j _ hs).2
    obtain ⟨vs, ha, rs⟩ := rt
    refine ⟨a, G, rfl, LE.refl G, I, ⟨vs, SqL.of ha⟩, fun H0 xk k ρ' G1 σ' H' le I' hst => ?_⟩
    have hst : ρ'[j]? = some (.own m a (.lst ds)) := by
      unfold stab at hst
      simp only [hs] at hst
      exact hst
    obtain ⟨es, us, ha', rs'⟩ := I'.ownL hst
    refine ⟨fun h => ⟨us, SqL.of ha', by rw [rs'.length]; exact h⟩, fun h => ?_⟩
    obtain ⟨v, hv, _⟩ := rs'.get (List.getElem?_eq_getElem h)
    refine ⟨⟨us, v, SqL.of ha', hv⟩, fun x H2 y => ?_⟩
    obtain ⟨e, y⟩ := y
    subst e
    obtain ⟨d, hd, rp⟩ := rs'.get' (y us (SqL.of ha'))
    exact ⟨d, G1, hd, LE.refl _, I', rp⟩
  | gx as cs t => exact known (LE.refl G) I (by have : t = .lst ds := hd; rw [← this]; exact q.2.2.1)
theorem di_lst {tg : Expr} (hK : Z.cc.K = X.K) (he : PE X e (T Z w)) : PI X tg e (Ti Z (iLst w)) :=
  ⟨fun pins s σ H R I ⟨ρ, G, K, IR, hw, q⟩ => (pi_list he).run pins s σ H R I ⟨ρ, G, _, IR, hw, fun r ρ' v H' G' le I' qr k => by
    split at k
    · rename_i ds hd
      obtain ⟨a, G2, ea, le2, I2, hx, io⟩ := it_list (K := X.K) hK I' qr hd
      exact ⟨a, ea, hx, q _ _ _ ρ' H' G2 _ (le.trans le2) I2 io k⟩
    · exact k.elim⟩⟩
def iR1 (wd : DW) : IW := fun xk ρ K => wd xk ρ fun ds ρ1 => match ds with
  | [.int j] => (-(2 ^ 62) ≤ j ∧ j < 2 ^ 62) ∧ K j.toNat (fun i d => d = .int i) (fun _ => True) ρ1
  | _ => False
def iR2 (wd : DW) : IW := fun xk ρ K => wd xk ρ fun ds ρ1 => match ds with
  | [.int i, .int j] => (-(2 ^ 62) ≤ i ∧ i < 2 ^ 62 ∧ -(2 ^ 62) ≤ j ∧ j < 2 ^ 62) ∧ K (j - i).toNat (fun k d => d = .int (i + k)) (fun _ => True) ρ1
  | _ => False
theorem itr_ok {lo : Int} {n : Nat} {G : Hp} : ItOk Z (Itr lo n) n (fun k d => d = .int (lo + k)) (fun _ => True) G := by
  intro H0 xk i ρ G1 σ' H le I _
  refine ⟨fun h => h, fun h => ⟨h, fun x H' y => ?_⟩⟩
  obtain ⟨rfl, rfl⟩ := y
  exact ⟨_, G1, rfl, LE.refl _, I, rep_int⟩
theorem itr_ok0 {n : Nat} {G : Hp} : ItOk Z (Itr 0 n) n (fun k d => d = .int k) (fun _ => True) G := by
  intro H0 xk i ρ G1 σ' H le I _
  refine ⟨fun h => h, fun h => ⟨h, fun x H' y => ?_⟩⟩
  obtain ⟨rfl, rfl⟩ := y
  exact ⟨.int i, G1, rfl, LE.refl _, I, by rw [Int.zero_add]; exact rep_int⟩
theorem di_r1 {tg a : Expr} {wd : DW} {p : Pos} (hg : Gl X "range") (hm : X.mg "range" = none) (ha : PA X [a] (Ta Z wd)) (hs : starEach [a] X.env = [(false, eval a X.env)] := by rfl) : PI X tg (.Call (.Name "range" p) [a] [] pos) (Ti Z (iR1 wd)) :=
  ⟨fun pins s σ H R I ⟨ρ, G, K, IR, hw, q⟩ => (pi_range1 hg hm ha hs).run pins s σ H R I ⟨ρ, G, _, IR, hw, fun ds ρ' vs H' G' le I' rs k => by
    split at k
    · rename_i j
      obtain ⟨v, r, rfl, rv, rr⟩ := rs.inv_cons
      have := rr.inv_nil
      subst this
      unfold Rep at rv
      subst rv
      exact ⟨j, rfl, k.1.1, k.1.2, q _ _ _ ρ' H' G' _ le I' itr_ok0 k.2⟩
    · exact k.elim⟩⟩
theorem di_r2 {tg a b : Expr} {wd : DW} {p : Pos} (hg : Gl X "range") (hm : X.mg "range" = none) (ha : PA X [a, b] (Ta Z wd)) (hs : starEach [a, b] X.env = [(false, eval a X.env), (false, eval b X.env)] := by rfl) (hs2 : starEach [b] X.env = [(false, eval b X.env)] := by rfl) : PI X tg (.Call (.Name "range" p) [a, b] [] pos) (Ti Z (iR2 wd)) :=
  ⟨fun pins s σ H R I ⟨ρ, G, K, IR, hw, q⟩ => (pi_range2 hg hm ha hs hs2).run pins s σ H R I ⟨ρ, G, _, IR, hw, fun ds ρ' vs H' G' le I' rs k => by
    split at k
    · rename_i i j
      obtain ⟨v, r, rfl, rv, rr⟩ := rs.inv_cons
      obtain ⟨u, r2, rfl, ru, rr⟩ := rr.inv_cons
      have := rr.inv_nil
      subst this
      unfold Rep at rv ru
      subst rv ru
      exact ⟨i, j, rfl, k.1, q _ _ _ ρ' H' G' _ le I' itr_ok k.2⟩
    · exact k.elim⟩⟩

/-! ### a comprehension -/
abbrev xk0 : Xk := fun _ _ _ => False
abbrev Zone.ext (Z : Zone) (D : Addr) (o : HO) : Zone := { Z with H0 := upd Z.H0 D o, xk := xk0 }
theorem SR.ext {ρ : REnv} {G H : Hp} {σ : L2.St} {D : Addr} {o : HO} (I : SR Z ρ G σ H) (hD : H D = some o) (gD : G D = none) (ho : ∀ (i : Nat) (m : Bool) (b : Addr) (e : TL.D), ρ[i]? = some (.own m b e) → b ≠ D) (hm : D ∉ Z.mu) : SR (Z.ext D o) ρ G σ H := by
  refine ⟨I.len, I.sub, I.slot, I.inj, I.out, fun a u e hn => ?_, fun i m a d e => ?_, fun a ha => ?_, I.g0, I.mout, I.mux⟩
  · by_cases h : a = D
    · subst h
      have e : upd Z.H0 a o a = some u := e
      rw [upd_same] at e; cases e; exact hD
    · have e : upd Z.H0 D o a = some u := e
      rw [upd_ne h] at e; exact I.ent a u e hn
  · have := I.frs i m a d e
    cases m with
    | true => exact this
    | false => exact ⟨by show upd Z.H0 D o a = none; rw [upd_ne (ho i _ a d e)]; exact this.1, this.2⟩
  · have : a ≠ D := fun h => ha (h ▸ gD)
    rcases I.gnew a ha with z | z
    · exact .inl z
    · exact .inr (by show upd Z.H0 D o a = none; rw [upd_ne this]; exact z)
theorem SR.unext {ρ : REnv} {G H : Hp} {σ : L2.St} {D : Addr} {o : HO} (I : SR (Z.ext D o) ρ G σ H) (h0 : Z.H0 D = none) (g0 : Z.G0 D = none) (hm : D ∉ Z.mu) : SR Z ρ G σ H ∧ H D = some o ∧ G D = none ∧ ∀ (i : Nat) (m : Bool) (b : Addr) (e : TL.D), ρ[i]? = some (.own m b e) → b ≠ D := by
  have hD : H D = some o := I.ent D o (by show upd Z.H0 D o D = some o; exact upd_same) hm
  have gD : G D = none := by
    cases e : G D with
    | none => rfl
    | some u =>
      rcases I.gnew D (by rw [e]; simp) with z | z
      · exact absurd g0 z
      · have z : upd Z.H0 D o D = none := z
        rw [upd_same] at z; cases z
  refine ⟨⟨I.len, I.sub, I.slot, I.inj, I.out, fun a u e hn => ?_, fun i m a d e => ?_, fun a ha => ?_, I.g0, I.mout, I.mux⟩, hD, gD, fun i m b e h => ?_⟩
  · refine I.ent a u ?_ hn
    show upd Z.H0 D o a = some u
    rw [upd_ne (ne_of_none e h0)]; exact e
  · have := I.frs i m a d e
    cases m with
    | true => exact this
    | false =>
      have h := this.1
      have h : upd Z.H0 D o a = none := h
      by_cases z : a = D
      · subst z; rw [upd_same] at h; cases h
      · rw [upd_ne z] at h; exact ⟨h, this.2⟩
  · rcases I.gnew a ha with z | z
    · exact .inl z
    · have z : upd Z.H0 D o a = none := z
      have : a ≠ D := fun h => by subst h; rw [upd_same] at z; cases z
      rw [upd_ne this] at z; exact .inr z
  · have := I.frs i m b e h
    cases m with
    | true => exact fun z => hm (z ▸ this)
    | false =>
      rintro rfl
      have h := this.1
      have h : upd Z.H0 b o b = none := h
      rw [upd_same] at h; cases h

def wipeE (ρ : REnv) : List Nat → REnv
  | [] => ρ
  | v :: vs => (wipeE ρ vs).set v .no
def keepS (ρ1 : REnv) (v : Nat) : Sl := match ρ1[v]? with | some (.sh d) => .sh d | _ => .no
def restE (ρ1 : REnv) : List Nat → REnv → REnv
  | [], ρ => ρ
  | v :: vs, ρ => restE ρ1 vs (ρ.set v (if v ∈ vs then .no else keepS ρ1 v))
theorem SR.wipe {ρ : REnv} {G H : Hp} {σ : L2.St} (I : SR Z ρ G σ H) : ∀ vs, SR Z (wipeE ρ vs) G (L2.wipe σ vs) H
  | [] => I
  | v :: vs => (SR.wipe I vs).putNo
theorem SR.back {ρ : REnv} {G H : Hp} {σ : L2.St} {v : Nat} {x : Option V} {s : Sl} (I : SR Z ρ G (σ.set v x) H) (so : SlOk Z.cc G H v σ s) (hn : ∀ m a d, s ≠ .own m a d) : SR Z (ρ.set v s) G σ H := by
  refine ⟨by simpa using I.len, I.sub, fun j t q => ?_, fun j k m n b y c z q1 q2 hj => ?_, fun j m b y q => ?_, I.ent, fun j m b y q => ?_, I.gnew, I.g0, I.mout, I.mux⟩
  · rcases get_set q with ⟨rfl, rfl⟩ | ⟨hj, q⟩
    · exact so
    · have := I.slot j t q
      cases t with
      | no => trivial
      | sh d => obtain ⟨u, eu, ru⟩ := this; rw [List.getElem?_set_ne (Ne.symm hj)] at eu; exact ⟨u, eu, ru⟩
      | own m a d => obtain ⟨eu, ru⟩ := this; exact ⟨owns_unset hj eu, ru⟩
  · rcases get_set q1 with ⟨_, q1⟩ | ⟨_, q1⟩
    · exact absurd q1.symm (hn _ _ _)
    · rcases get_set q2 with ⟨_, q2⟩ | ⟨_, q2⟩
      · exact absurd q2.symm (hn _ _ _)
      · exact I.inj j k m n b y c z q1 q2 hj
  · rcases get_set q with ⟨_, q⟩ | ⟨_, q⟩
    · exact absurd q.symm (hn _ _ _)
    · exact I.out j m b y q
  · rcases get_set q with ⟨_, q⟩ | ⟨_, q⟩
    · exact absurd q.symm (hn _ _ _)
    · exact I.frs j m b y q
theorem wipe_get {σ : L2.St} {v : Nat} : ∀ {vs : List Nat}, v ∉ vs → (L2.wipe σ vs)[v]? = σ[v]?
  | [], _ => rfl
  | u :: vs, h => by
    have h1 : u ≠ v := by rintro rfl; exact h List.mem_cons_self
    show ((L2.wipe σ vs).set u none)[v]? = σ[v]?
    rw [List.getElem?_set_ne h1]
    exact wipe_get fun z => h (List.mem_cons_of_mem _ z)
theorem SR.unwipe {ρ1 : REnv} {G1 H1 : Hp} {σ : L2.St} (I1 : SR Z ρ1 G1 σ H1) {G H : Hp} (le : LE G1 G) : ∀ (vs : List Nat) {ρ : REnv}, SR Z ρ G (L2.wipe σ vs) H → SR Z (restE ρ1 vs ρ) G σ H
  | [], _, I => I
  | v :: vs, ρ, I => by
    unfold restE
    by_cases hv : v ∈ vs
    · rw [if_pos hv]
      exact SR.unwipe I1 le vs (SR.back (x := none) (s := .no) I trivial fun _ _ _ => by simp)
    · rw [if_neg hv]
      refine SR.unwipe I1 le vs (SR.back (x := none) I ?_ ?_)
      · unfold keepS
        cases hs : ρ1[v]? with
        | none => exact trivial
        | some s =>
          cases s with
          | no => exact trivial
          | own m a d => exact trivial
          | sh d =>
            obtain ⟨u, eu, ru⟩ := I1.slot v _ hs
            exact ⟨u, by rw [wipe_get hv]; exact eu, ru.mono le⟩
      · intro m a d
        unfold keepS
        split <;> simp

def tYesW : TW := fun _ ρ K => K true ρ
theorem dts_nil {X : Cx} {Z : Zone} : PTs X [] (Tt Z tYesW) := ⟨fun pins s σ H Q I ⟨ρ, G, K, IR, hw, q⟩ => pts_nil.run pins s σ H Q I (q true ρ H G (LE.refl G) IR hw)⟩
/-- [elt for tg in iter if t] -/
def eComp (iw : IW) (g : GW) (t : TW) (we : EW) (vs : List Nat) : EW := fun xk ρ K => iw xk ρ fun n f st ρ1 => ∃ W : Nat → List D → REnv → Prop, W 0 [] (wipeE ρ1 vs) ∧ (∀ i acc ρ, i ≤ n → W i acc ρ → st ρ) ∧
  (∀ i d acc ρ, i < n → f i d → W i acc ρ → g d ρ fun ρ2 => t xk0 ρ2 fun c ρ3 => (c = true → we xk0 ρ3 fun r ρ4 => stl r ρ4 fun e ρ5 => acc.length < sizeLine ∧ W (i + 1) (acc ++ [e]) (wipeE ρ5 vs)) ∧ (c = false → W (i + 1) acc (wipeE ρ3 vs))) ∧
  ∀ acc ρ, W n acc ρ → ∀ a, K (.fr a (.lst acc)) (restE ρ1 vs ρ)

theorem wipe_set {σ : L2.St} {i : Nat} {x : Option V} : ∀ {vs : List Nat}, i ∈ vs → L2.wipe (σ.set i x) vs = L2.wipe σ vs
  | [], h => by simp at h
  | u :: vs, h => by
    show (L2.wipe (σ.set i x) vs).set u none = (L2.wipe σ vs).set u none
    by_cases hi : i ∈ vs
    · rw [wipe_set hi]
    · have : i = u := (List.mem_cons.mp h).resolve_right hi
      subst this
      have sw : ∀ {ws : List Nat}, i ∉ ws → L2.wipe (σ.set i x) ws = (L2.wipe σ ws).set i x := by
        intro ws
        induction ws with
        | nil => intro _; rfl
        | cons w ws ih =>
          intro hw
          show (L2.wipe (σ.set i x) ws).set w none = ((L2.wipe σ ws).set w none).set i x
          rw [ih fun z => hw (List.mem_cons_of_mem _ z)]
          exact List.set_comm _ _ (by rintro rfl; exact hw List.mem_cons_self)
      rw [sw hi, List.set_set]
theorem wipe_wipe {σ : L2.St} : ∀ {vs : List Nat}, L2.wipe (L2.wipe σ vs) vs = L2.wipe σ vs := by
  intro vs
  have : ∀ ws, (∀ i ∈ ws, i ∈ vs) → L2.wipe (L2.wipe σ ws) vs = L2.wipe σ vs := by
    intro ws
    induction ws with
    | nil => intro _; rfl
    | cons w ws ih =>
      intro h
      show L2.wipe ((L2.wipe σ ws).set w none) vs = _
      rw [wipe_set (h w List.mem_cons_self)]
      exact ih fun i hi => h i (List.mem_cons_of_mem _ hi)
  exact this vs fun _ h => h
/-- a target within a comprehension: only the comprehension's own slots vs are stored -/
def Tgc (Z : Zone) (vs : List Nat) (g : GW) : TG := fun v σ H Q => ∃ D o ρ G d K, SR (Z.ext D o) ρ G σ H ∧ Rep Z.cc G v d ∧ g d ρ K ∧ ∀ ρ' σ' G', LE G G' → SR (Z.ext D o) ρ' G' σ' H → L2.wipe σ' vs = L2.wipe σ vs → K ρ' → Q σ' H
theorem dgc_name {X : Cx} {Z : Zone} {pos : Pos} {i : Nat} {x : Str} {vs : List Nat} (hN : X.N.Nodup) (hm : i ∈ vs := by decide) (hi : X.N[i]? = some x := by rfl) (hx : Loc X.env.scope x := by first | exact Or.inl rfl | exact Or.inr rfl) (hf : X.fn x = true ∨ X.env.scope.names.lookup x = some .local := by first | exact .inl rfl | exact .inr rfl | assumption) : PG X (.Name x pos) (Tgc Z vs (gN i)) :=
  ⟨fun pins s σ H v u Q I r ⟨D, o, ρ, G, d, K, IR, rp, k, q⟩ => (pg_name hN hi hx hf).run pins s σ H v u Q I r (q _ _ G (LE.refl G) (IR.put (lt_len I hi) rp) (wipe_set hm) k)⟩
def TX (Z : Zone) (w : EW) : TE := fun σ H Q => ∃ D o, T (Z.ext D o) w σ H Q
def TtX (Z : Zone) (w : TW) : TT := fun σ H Q => ∃ D o, Tt (Z.ext D o) w σ H Q
/-- another object, that no slot and no known part speaks of, is changed -/
theorem SR.other {Z : Zone} {ρ : REnv} {G H : Hp} {σ : L2.St} {p : Addr} {o : HO} (I : SR Z ρ G σ H) (gp : G p = none) (ow : ∀ (i : Nat) (m : Bool) (b : Addr) (e : D), ρ[i]? = some (.own m b e) → b ≠ p) (h0 : Z.H0 p = none) (hm : p ∉ Z.mu) : SR Z ρ G σ (upd H p o) := by
  refine ⟨I.len, fun a u e => ?_, fun i s e => ?_, I.inj, I.out, fun a u e hn => ?_, I.frs, I.gnew, I.g0, I.mout, fun a ha => ?_⟩
  · rw [upd_ne (ne_of_none e gp)]; exact I.sub a u e
  · have q := I.slot i s e
    cases s with
    | no => trivial
    | sh d => exact q
    | own m a d => exact ⟨q.1, q.2.heap fun u hu => by rw [upd_ne (ow i m a d e)]; exact hu⟩
  · rw [upd_ne (ne_of_none e h0)]; exact I.ent a u e hn
  · have : a ≠ p := fun h => hm (h ▸ ha)
    rw [upd_ne this]; exact I.mux a ha
theorem restE_own {ρ1 : REnv} : ∀ {vs : List Nat} {ρ : REnv} {i : Nat} {m : Bool} {b : Addr} {e : D}, (restE ρ1 vs ρ)[i]? = some (.own m b e) → ρ[i]? = some (.own m b e)
  | [], _, _, _, _, _, h => h
  | v :: vs, ρ, i, m, b, e, h => by
    unfold restE at h
    have h := restE_own h
    rcases get_set h with ⟨_, h⟩ | ⟨_, h⟩
    · exfalso
      revert h
      split
      · intro h; cases h
      · unfold keepS
        split <;> (intro h; cases h)
    · exact h
theorem wipeE_own : ∀ {vs : List Nat} {ρ : REnv} {i : Nat} {m : Bool} {b : Addr} {e : D}, (wipeE ρ vs)[i]? = some (.own m b e) → ρ[i]? = some (.own m b e)
  | [], _, _, _, _, _, h => h
  | v :: vs, ρ, i, m, b, e, h => by
    unfold wipeE at h
    rcases get_set h with ⟨_, h⟩ | ⟨_, h⟩
    · cases h
    · exact wipeE_own h

theorem T.comp {Z : Zone} {iw : IW} {g : GW} {t : TW} {we : EW} {vs : List Nat} {σ : L2.St} {H : Hp} {Q : VK}
    (h : T Z (eComp iw g t we vs) σ H Q) : tLc (Ti Z iw) (Tgc Z vs g) (TtX Z t) (TX Z we) vs σ H Q := by
  obtain ⟨ρ, G, K, IR, hw, q⟩ := h
  refine ⟨ρ, G, _, IR, hw, fun n f st ρ1 H1 G1 J le1 I1 io ⟨W, w0, stb, turn, fin⟩ Dd hD => ?_⟩
  obtain ⟨h0, hm⟩ := I1.h0 hD
  have gD1 := I1.g hD
  have g0 : Z.G0 Dd = none := by
    cases e : Z.G0 Dd with
    | none => rfl
    | some u => have := I1.g0 _ _ e; rw [gD1] at this; cases this
  refine ⟨fun i m H' => m = n - i ∧ i ≤ n ∧ ∃ acc ρ' G' va, LE G1 G' ∧ SR Z ρ' G' (L2.wipe σ vs) H' ∧ H' Dd = some (.lst va) ∧ Reps Z.cc G' va acc ∧ G' Dd = none ∧ (∀ (i : Nat) (m : Bool) (b : Addr) (e : D), ρ'[i]? = some (.own m b e) → b ≠ Dd) ∧ W i acc ρ',
    ⟨n, by simp, Nat.zero_le _, [], wipeE ρ1 vs, G1, [], LE.refl G1, (I1.newH hD).wipe vs, upd_same, Reps.nil, gD1, fun i m b e h => I1.own_ne (wipeE_own h) hD, w0⟩, ?_⟩
  rintro i m H' ⟨rfl, hin, acc, ρ', G', va, le', I', hDl, rs, gD, ow, w'⟩
  have Ix := I'.ext hDl gD ow hm
  obtain ⟨s1, s2⟩ := io _ _ i ρ' G' (L2.wipe σ vs) H' le' Ix (stb i acc ρ' hin w')
  by_cases hlt : i < n
  · obtain ⟨go, yl⟩ := s2 hlt
    refine .inr ⟨go, fun H2 => ∃ acc ρ' G' va, LE G1 G' ∧ SR Z ρ' G' (L2.wipe σ vs) H2 ∧ H2 Dd = some (.lst va) ∧ Reps Z.cc G' va acc ∧ G' Dd = none ∧ (∀ (i : Nat) (m : Bool) (b : Addr) (e : D), ρ'[i]? = some (.own m b e) → b ≠ Dd) ∧ W (i + 1) acc ρ',
      fun H2 h => ⟨n - (i + 1), by omega, rfl, hlt, h⟩, fun x H2 y => ?_⟩
    obtain ⟨d, G2, fd, le2, I2, rp⟩ := yl x H2 y
    refine ⟨Dd, .lst va, ρ', G2, d, _, I2, rp, turn i d acc ρ' hlt fd w', fun ρ3 σ3 G3 le3 I3 hw3 k3 => ?_⟩
    rw [wipe_wipe] at hw3
    refine ⟨hw3, Dd, .lst va, ρ3, G3, _, I3, k3, fun c ρ4 H4 G4 le4 I4 k4 => ?_⟩
    have l4 := ((le'.trans le2).trans le3).trans le4
    cases c with
    | true =>
      refine iteT ?_
      refine ⟨Dd, .lst va, ρ4, G4, _, I4, k4.1 rfl, fun r ρ5 yv H5 G5 le5 I5 q5 k5 => ?_⟩
      obtain ⟨e, ρ6, G6, le6, I6, rpe, ⟨hl, k6⟩, _⟩ := I5.settle q5 k5
      obtain ⟨J6, hD6, gD6, ow6⟩ := I6.unext h0 g0 hm
      refine ⟨va, hD6, by rw [rs.length]; exact hl, acc ++ [e], wipeE ρ6 vs, G6, va ++ [yv], (l4.trans le5).trans le6, ?_, upd_same, ?_, gD6, fun i m b e h => ow6 i m b e (wipeE_own h), k6⟩
      · have := J6.wipe vs
        rw [hw3] at this
        exact this.other gD6 (fun i m b e h => ow6 i m b e (wipeE_own h)) h0 hm
      · exact (rs.mono ((((le2.trans le3).trans le4).trans le5).trans le6)).append (Reps.cons rpe Reps.nil)
    | false =>
      refine iteF ?_
      obtain ⟨J4, hD4, gD4, ow4⟩ := I4.unext h0 g0 hm
      refine ⟨acc, wipeE ρ4 vs, G4, va, l4, ?_, hD4, rs.mono ((le2.trans le3).trans le4), gD4, fun i m b e h => ow4 i m b e (wipeE_own h), k4.2 rfl⟩
      have := J4.wipe vs
      rw [hw3] at this
      exact this
  · have e : i = n := by omega
    subst e
    refine .inl ⟨s1 (Nat.le_refl _), q (.fr Dd (.lst acc)) (restE ρ1 vs ρ') _ H' G' (le1.trans le') (I1.unwipe le' vs I') ?_ (fin acc ρ' w' Dd)⟩
    exact ⟨rfl, ⟨va, hDl, rs⟩, gD, fun i m b e h => ow i m b e (restE_own h), h0, hm⟩
end
section
variable {X : Cx} {Z : Zone}
/-- x = [..] on one line -/
theorem ds_setLc {i : Nat} {y : Str} {py : Pos} {elt tg iter : Expr} {ifs : List Expr} {scope : Scope} {own : List (Str × Nat)} {pos spos : Pos} {iw : IW} {g : GW} {t : TW} {we : EW} (hc : X.calm = true) (hN : X.N.Nodup) 
    (hi : PI X tg iter (Ti Z iw)) (ok : BlkOk X.N X.env.scope scope own)
    (hg : ∀ (s : Shared) (H : Hp) (C : Addr) (cl : List (Str × Addr)) (fp : List Addr), PG (X.blk s H scope (compEnvC scope cl C X.env) fp) tg (Tgc Z (own.map (·.2)) g))
    (ht : ∀ (D : Addr) (o : HO) (s : Shared) (H : Hp) (C : Addr) (cl : List (Str × Addr)) (fp : List Addr), PTs (X.blk s H scope (compEnvC scope cl C X.env) fp) ifs (Tt (Z.ext D o) t))
    (he : ∀ (D : Addr) (o : HO) (s : Shared) (H : Hp) (C : Addr) (cl : List (Str × Addr)) (fp : List Addr), PE (X.blk s H scope (compEnvC scope cl C X.env) fp) elt (T (Z.ext D o) we))
    (hsw : swapsWith (.ListComp elt [⟨tg, iter, ifs, 0⟩] scope pos) (some (.Name y py)) spos.line X.env = pure true)
    (hy : X.N[i]? = some y := by rfl) (hyl : X.env.scope.names.lookup y = some .local := by rfl) (hs : ∀ x, foldedSetIterable iter X.env x = pure x := by intro _; rfl) :
    PS X (.Assign [.Name y py] (.ListComp elt [⟨tg, iter, ifs, 0⟩] scope pos) spos) (Ts Z (sSet i (eComp iw g t we (own.map (·.2))))) :=
  ⟨fun pins s σ H D I ⟨ρ, G, K, IR, hw, l⟩ => (ps_setLc hc hN hy hyl hsw hi ok hg (tt := TtX Z t) (te := TX Z we)
    (fun s H C cl fp => ⟨fun pins s' σ H Q I ⟨D, o, h⟩ => (ht D o s _ C cl fp).run pins s' σ H Q I h⟩) (fun s H C cl fp => ⟨fun pins s' σ H Q I ⟨D, o, h⟩ => (he D o s _ C cl fp).run pins s' σ H Q I h⟩) hs).run pins s σ H D I
    (T.comp ⟨ρ, G, _, IR, hw, fun r ρ' v H' G' le I' q k => by
      obtain ⟨ρ2, G2, le2, I2, k2⟩ := I'.place (lt_len I hy) q k
      exact l.nx ρ2 _ H' G2 (le.trans le2) I2 k2⟩)⟩
end
end TL

namespace TL
open PySem PySem.Spec L2

/-! ### a def's promise over trees -/
inductive Arg where
  | ro (d : D) | mu (d : D) | gh (b : Addr) (d : D)
abbrev FSpec := List Arg → (Ro → List D → Prop) → (Nat → D → Prop) → Prop
def ArgsOk (cc : CC) (G0 H : Hp) : List V → List Arg → List Addr → Prop
  | [], [], [] => True
  | v :: vs, .ro d :: r, mus => Rep cc G0 v d ∧ ArgsOk cc G0 H vs r mus
  | v :: vs, .mu d :: r, a :: mus => v = .ref a ∧ G0 a = none ∧ Root cc G0 H a d ∧ a ∉ mus ∧ ArgsOk cc G0 H vs r mus
  | vs, .gh b d :: r, a :: mus => b = a ∧ G0 a = none ∧ Root cc G0 H a d ∧ a ∉ mus ∧ ArgsOk cc G0 H vs r mus
  | _, _, _ => False
def MusOk (cc : CC) (G H : Hp) : List Addr → List D → Prop
  | [], [] => True
  | a :: mus, d :: ds => Root cc G H a d ∧ G a = none ∧ MusOk cc G H mus ds
  | _, _ => False
def ResOk (cc : CC) (G H H' : Hp) (v : V) : Ro → Prop
  | .sh d => Rep cc G v d
  | .fr d => ∃ a, v = .ref a ∧ Root cc G H' a d ∧ G a = none ∧ H a = none
  | .gx as cs t => as.Nodup ∧ as.length = cs.length ∧ Rep cc G v t ∧ ∀ (i : Nat) (a : Addr) (d : D), as[i]? = some a → cs[i]? = some d → Root cc G H' a d ∧ G a = none ∧ H a = none
/-- the classes: of objects, of errors -/
structure Ccs where
  cc : CC
  xc : Nat → Addr
/-- .. of a def that raises nothing -/
def LSp0 (C : Ccs) (sp : FSpec) (np : Nat) : Sp := fun vs H Q _ => vs.length = np ∧ ∃ args G0 mus kr, LE G0 H ∧ ArgsOk C.cc G0 H vs args mus ∧ sp args kr (fun _ _ => False) ∧
  (∀ o ds v H' G', LE G0 G' → LE G' H' → (∀ a u, H a = some u → a ∉ mus → H' a = some u) → (∀ a, G' a ≠ none → G0 a ≠ none ∨ H a = none) → MusOk C.cc G' H' mus ds → ResOk C.cc G' H H' v o → kr o ds → Q v H')

def slotsOf : List Arg → List Addr → REnv
  | [], _ => []
  | .ro d :: r, mus => .sh d :: slotsOf r mus
  | .mu d :: r, a :: mus => .own true a d :: slotsOf r mus
  | .mu _ :: r, [] => .no :: slotsOf r []
  | .gh _ _ :: r, _ :: mus => slotsOf r mus
  | .gh _ _ :: r, [] => slotsOf r []
/-- the ghosts that are handed in to be changed -/
def ghOf : List Arg → List Addr → REnv
  | [], _ => []
  | .ro _ :: r, mus => ghOf r mus
  | .mu _ :: r, _ :: mus => ghOf r mus
  | .mu _ :: r, [] => ghOf r []
  | .gh _ d :: r, a :: mus => .own true a d :: ghOf r mus
  | .gh _ _ :: r, [] => ghOf r []
def valN : List Arg → Nat
  | [] => 0
  | .ro _ :: r => valN r + 1
  | .mu _ :: r => valN r + 1
  | .gh _ _ :: r => valN r
def envOf (args : List Arg) (mus : List Addr) (n : Nat) : REnv := slotsOf args mus ++ (List.replicate (n - valN args) .no ++ ghOf args mus)
/-- the arguments that may be changed, at the end -/
def exMu : List Arg → List Addr → REnv → (List D → Prop) → Prop
  | [], [], _, k => k []
  | .ro _ :: r, mus, _ :: ρ, k => exMu r mus ρ k
  | .mu _ :: r, a :: mus, s :: ρ, k => match s with
    | .own true b d => b = a ∧ exMu r mus ρ fun ds => k (d :: ds)
    | _ => False
  | .gh _ _ :: r, a :: mus, ρ, k => ∃ d, .own true a d ∈ ρ ∧ exMu r mus ρ fun ds => k (d :: ds)
  | _, _, _, _ => False
def resK (r : Rv) (ρ : REnv) (k : Ro → Prop) : Prop := match r with
  | .loc i => match ρ[i]? with
    | some (.sh d) => k (.sh d)
    | some (.own false _ d) => k (.fr d)
    | _ => False
  | .sh d => k (.sh d)
  | .fr _ d => k (.fr d)
  | .gh j _ => match ρ[j]? with
    | some (.own false _ d) => k (.fr d)
    | _ => False
  | .gx as cs t => k (.gx as cs t)
def endK (args : List Arg) (mus : List Addr) (kr : Ro → List D → Prop) (r : Rv) (ρ : REnv) : Prop := resK r ρ fun o => exMu args mus ρ fun ds => kr o ds
def muN : List Arg → Nat
  | [] => 0
  | .ro _ :: r => muN r
  | .mu _ :: r => muN r + 1
  | .gh _ _ :: r => muN r + 1
/-- the body b keeps the promise sp, with n names -/
def Sat (n : Nat) (sp : FSpec) (b : SW) : Prop := ∀ (args : List Arg) (mus : List Addr) (kr : Ro → List D → Prop) (kx : Nat → D → Prop), mus.length = muN args → sp args kr kx →
  b (fun c d _ => kx c d) (envOf args mus n) { nx := endK args mus kr (.sh .non), rt := endK args mus kr }

theorem ArgsOk.muN {cc : CC} {G0 H : Hp} : ∀ {vs : List V} {args : List Arg} {mus : List Addr}, ArgsOk cc G0 H vs args mus → mus.length = TL.muN args
  | [], [], [], _ => rfl
  | v :: vs, .ro d :: r, mus, h => ArgsOk.muN (args := r) h.2
  | v :: vs, .mu d :: r, a :: mus, h => by simp [TL.muN, ArgsOk.muN (args := r) h.2.2.2.2]
  | [], .gh b d :: r, a :: mus, h => by simp [TL.muN, ArgsOk.muN (args := r) h.2.2.2.2]
  | v :: vs, .gh b d :: r, a :: mus, h => by simp [TL.muN, ArgsOk.muN (args := r) h.2.2.2.2]
  | [], .gh _ _ :: _, [], h => by unfold ArgsOk at h; exact h.elim
  | _ :: _, .gh _ _ :: _, [], h => by unfold ArgsOk at h; exact h.elim
  | [], [], _ :: _, h => h.elim
  | [], .ro _ :: _, _, h => by unfold ArgsOk at h; exact h.elim
  | [], .mu _ :: _, _, h => by unfold ArgsOk at h; exact h.elim
  | _ :: _, [], _, h => by unfold ArgsOk at h; exact h.elim
  | _ :: _, .mu _ :: _, [], h => by unfold ArgsOk at h; exact h.elim
theorem slots_len : ∀ (args : List Arg) (mus : List Addr), (slotsOf args mus).length = valN args
  | [], _ => rfl
  | .ro d :: r, mus => by simp [slotsOf, valN, slots_len r mus]
  | .mu d :: r, a :: mus => by simp [slotsOf, valN, slots_len r mus]
  | .mu d :: r, [] => by simp [slotsOf, valN, slots_len r []]
  | .gh b d :: r, a :: mus => by simp [slotsOf, valN, slots_len r mus]
  | .gh b d :: r, [] => by simp [slotsOf, valN, slots_len r []]
theorem ArgsOk.len {cc : CC} {G0 H : Hp} : ∀ {vs : List V} {args : List Arg} {mus : List Addr}, ArgsOk cc G0 H vs args mus → vs.length = valN args
  | [], [], [], _ => rfl
  | v :: vs, .ro d :: r, mus, h => by simp [valN, ArgsOk.len (args := r) h.2]
  | v :: vs, .mu d :: r, a :: mus, h => by simp [valN, ArgsOk.len (args := r) h.2.2.2.2]
  | [], .gh b d :: r, a :: mus, h => by simp [valN, ← ArgsOk.len (args := r) h.2.2.2.2]
  | v :: vs, .gh b d :: r, a :: mus, h => by simp [valN, ← ArgsOk.len (args := r) h.2.2.2.2]
  | [], .gh _ _ :: _, [], h => by unfold ArgsOk at h; exact h.elim
  | _ :: _, .gh _ _ :: _, [], h => by unfold ArgsOk at h; exact h.elim
  | [], [], _ :: _, h => h.elim
  | [], .ro _ :: _, _, h => by unfold ArgsOk at h; exact h.elim
  | [], .mu _ :: _, _, h => by unfold ArgsOk at h; exact h.elim
  | _ :: _, [], _, h => by unfold ArgsOk at h; exact h.elim
  | _ :: _, .mu _ :: _, [], h => by unfold ArgsOk at h; exact h.elim
theorem ArgsOk.slot {cc : CC} {G0 H : Hp} : ∀ {vs : List V} {args : List Arg} {mus : List Addr}, ArgsOk cc G0 H vs args mus → ∀ (i : Nat) (s : Sl), (slotsOf args mus)[i]? = some s →
    ∃ v, vs[i]? = some v ∧ ((∃ d, s = .sh d ∧ Rep cc G0 v d) ∨ ∃ a d, s = .own true a d ∧ v = .ref a ∧ G0 a = none ∧ Root cc G0 H a d ∧ a ∈ mus)
  | [], [], [], _, i, s, e => by simp [slotsOf] at e
  | v :: vs, .ro d :: r, mus, h, 0, s, e => by
    simp [slotsOf] at e; subst e
    exact ⟨v, rfl, .inl ⟨d, rfl, h.1⟩⟩
  | v :: vs, .ro d :: r, mus, h, i + 1, s, e => by
    simp [slotsOf] at e
    obtain ⟨u, e1, e2⟩ := ArgsOk.slot h.2 i s e
    exact ⟨u, by simpa using e1, e2⟩
  | v :: vs, .mu d :: r, a :: mus, h, 0, s, e => by
    simp [slotsOf] at e; subst e
    exact ⟨v, rfl, .inr ⟨a, d, rfl, h.1, h.2.1, h.2.2.1, List.mem_cons_self⟩⟩
  | v :: vs, .mu d :: r, a :: mus, h, i + 1, s, e => by
    simp [slotsOf] at e
    obtain ⟨u, e1, e2⟩ := ArgsOk.slot h.2.2.2.2 i s e
    refine ⟨u, by simpa using e1, ?_⟩
    rcases e2 with q | ⟨b, x, q1, q2, q3, q4, q5⟩
    · exact .inl q
    · exact .inr ⟨b, x, q1, q2, q3, q4, List.mem_cons_of_mem _ q5⟩
  | [], .gh b d :: r, c :: mus, h, i, s, e => by
    obtain ⟨u, e1, e2⟩ := ArgsOk.slot (args := r) h.2.2.2.2 i s e
    simp at e1
  | v :: vs, .gh b d :: r, c :: mus, h, i, s, e => by
    obtain ⟨u, e1, e2⟩ := ArgsOk.slot (args := r) h.2.2.2.2 i s e
    refine ⟨u, e1, ?_⟩
    rcases e2 with q | ⟨b, x, q1, q2, q3, q4, q5⟩
    · exact .inl q
    · exact .inr ⟨b, x, q1, q2, q3, q4, List.mem_cons_of_mem _ q5⟩
  | [], .gh _ _ :: _, [], h, _, _, _ => by unfold ArgsOk at h; exact h.elim
  | _ :: _, .gh _ _ :: _, [], h, _, _, _ => by unfold ArgsOk at h; exact h.elim
  | [], [], _ :: _, h, _, _, _ => h.elim
  | [], .ro _ :: _, _, h, _, _, _ => by unfold ArgsOk at h; exact h.elim
  | [], .mu _ :: _, _, h, _, _, _ => by unfold ArgsOk at h; exact h.elim
  | _ :: _, [], _, h, _, _, _ => by unfold ArgsOk at h; exact h.elim
  | _ :: _, .mu _ :: _, [], h, _, _, _ => by unfold ArgsOk at h; exact h.elim
theorem ArgsOk.inj {cc : CC} {G0 H : Hp} : ∀ {vs : List V} {args : List Arg} {mus : List Addr}, ArgsOk cc G0 H vs args mus → ∀ (i j : Nat) (p q : Bool) (a : Addr) (d : D) (b : Addr) (e : D), (slotsOf args mus)[i]? = some (.own p a d) → (slotsOf args mus)[j]? = some (.own q b e) → i ≠ j → a ≠ b
  | [], [], [], _, i, j, _, _, _, _, _, _, e, _, _ => by simp [slotsOf] at e
  | v :: vs, .ro d :: r, mus, h, 0, _, _, _, _, _, _, _, e, _, _ => by simp [slotsOf] at e
  | v :: vs, .ro d :: r, mus, h, _ + 1, 0, _, _, _, _, _, _, _, e, _ => by simp [slotsOf] at e
  | v :: vs, .ro d :: r, mus, h, i + 1, j + 1, p, q, a, x, b, y, e1, e2, hn => by
    simp [slotsOf] at e1 e2
    exact ArgsOk.inj h.2 i j p q a x b y e1 e2 (by omega)
  | v :: vs, .mu d :: r, c :: mus, h, 0, 0, _, _, _, _, _, _, _, _, hn => absurd rfl hn
  | v :: vs, .mu d :: r, c :: mus, h, 0, j + 1, p, q, a, x, b, y, e1, e2, _ => by
    simp [slotsOf] at e1 e2
    obtain ⟨u, _, hq⟩ := ArgsOk.slot h.2.2.2.2 j _ e2
    rcases hq with ⟨_, hq, _⟩ | ⟨_, _, hq, _, _, _, hm⟩
    · cases hq
    · cases hq
      rintro rfl
      exact h.2.2.2.1 (e1.2.1 ▸ hm)
  | v :: vs, .mu d :: r, c :: mus, h, i + 1, 0, p, q, a, x, b, y, e1, e2, _ => by
    simp [slotsOf] at e1 e2
    obtain ⟨u, _, hq⟩ := ArgsOk.slot h.2.2.2.2 i _ e1
    rcases hq with ⟨_, hq, _⟩ | ⟨_, _, hq, _, _, _, hm⟩
    · cases hq
    · cases hq
      rintro rfl
      exact h.2.2.2.1 (e2.2.1 ▸ hm)
  | v :: vs, .mu d :: r, c :: mus, h, i + 1, j + 1, p, q, a, x, b, y, e1, e2, hn => by
    simp [slotsOf] at e1 e2
    exact ArgsOk.inj h.2.2.2.2 i j p q a x b y e1 e2 (by omega)
  | [], .gh _ _ :: r, c :: mus, h, i, j, p, q, a, x, b, y, e1, e2, hn => ArgsOk.inj (args := r) h.2.2.2.2 i j p q a x b y e1 e2 hn
  | v :: vs, .gh _ _ :: r, c :: mus, h, i, j, p, q, a, x, b, y, e1, e2, hn => ArgsOk.inj (args := r) h.2.2.2.2 i j p q a x b y e1 e2 hn
  | [], .gh _ _ :: _, [], h, _, _, _, _, _, _, _, _, _, _, _ => by unfold ArgsOk at h; exact h.elim
  | _ :: _, .gh _ _ :: _, [], h, _, _, _, _, _, _, _, _, _, _, _ => by unfold ArgsOk at h; exact h.elim
  | [], [], _ :: _, h, _, _, _, _, _, _, _, _, _, _, _ => h.elim
  | [], .ro _ :: _, _, h, _, _, _, _, _, _, _, _, _, _, _ => by unfold ArgsOk at h; exact h.elim
  | [], .mu _ :: _, _, h, _, _, _, _, _, _, _, _, _, _, _ => by unfold ArgsOk at h; exact h.elim
  | _ :: _, [], _, h, _, _, _, _, _, _, _, _, _, _, _ => by unfold ArgsOk at h; exact h.elim
  | _ :: _, .mu _ :: _, [], h, _, _, _, _, _, _, _, _, _, _, _ => by unfold ArgsOk at h; exact h.elim
theorem ArgsOk.mus {cc : CC} {G0 H : Hp} : ∀ {vs : List V} {args : List Arg} {mus : List Addr}, ArgsOk cc G0 H vs args mus → ∀ a ∈ mus, G0 a = none ∧ H a ≠ none
  | [], [], [], _, a, h => by simp at h
  | v :: vs, .ro d :: r, mus, h, a, hm => ArgsOk.mus h.2 a hm
  | v :: vs, .mu d :: r, c :: mus, h, a, hm => by
    rcases List.mem_cons.mp hm with rfl | hm
    · obtain ⟨o, e, _⟩ := h.2.2.1.ob
      exact ⟨h.2.1, by rw [e]; simp⟩
    · exact ArgsOk.mus h.2.2.2.2 a hm
  | [], .gh b d :: r, c :: mus, h, a, hm => by
    rcases List.mem_cons.mp hm with rfl | hm
    · obtain ⟨o, e, _⟩ := h.2.2.1.ob
      exact ⟨h.2.1, by rw [e]; simp⟩
    · exact ArgsOk.mus (args := r) h.2.2.2.2 a hm
  | v :: vs, .gh b d :: r, c :: mus, h, a, hm => by
    rcases List.mem_cons.mp hm with rfl | hm
    · obtain ⟨o, e, _⟩ := h.2.2.1.ob
      exact ⟨h.2.1, by rw [e]; simp⟩
    · exact ArgsOk.mus (args := r) h.2.2.2.2 a hm
  | [], .gh _ _ :: _, [], h, _, _ => by unfold ArgsOk at h; exact h.elim
  | _ :: _, .gh _ _ :: _, [], h, _, _ => by unfold ArgsOk at h; exact h.elim
  | [], [], _ :: _, h, _, _ => h.elim
  | [], .ro _ :: _, _, h, _, _ => by unfold ArgsOk at h; exact h.elim
  | [], .mu _ :: _, _, h, _, _ => by unfold ArgsOk at h; exact h.elim
  | _ :: _, [], _, h, _, _ => by unfold ArgsOk at h; exact h.elim
  | _ :: _, .mu _ :: _, [], h, _, _ => by unfold ArgsOk at h; exact h.elim
theorem ArgsOk.gho {cc : CC} {G0 H : Hp} : ∀ {vs : List V} {args : List Arg} {mus : List Addr}, ArgsOk cc G0 H vs args mus → ∀ (i : Nat) (s : Sl), (ghOf args mus)[i]? = some s →
    ∃ a d, s = .own true a d ∧ G0 a = none ∧ Root cc G0 H a d ∧ a ∈ mus
  | [], [], [], _, i, s, e => by simp [ghOf] at e
  | v :: vs, .ro d :: r, mus, h, i, s, e => ArgsOk.gho (args := r) h.2 i s e
  | v :: vs, .mu d :: r, a :: mus, h, i, s, e => by
    obtain ⟨b, x, q1, q2, q3, q4⟩ := ArgsOk.gho (args := r) h.2.2.2.2 i s e
    exact ⟨b, x, q1, q2, q3, List.mem_cons_of_mem _ q4⟩
  | [], .gh b d :: r, a :: mus, h, 0, s, e => by
    simp [ghOf] at e; subst e
    exact ⟨a, d, rfl, h.2.1, h.2.2.1, List.mem_cons_self⟩
  | v :: vs, .gh b d :: r, a :: mus, h, 0, s, e => by
    simp [ghOf] at e; subst e
    exact ⟨a, d, rfl, h.2.1, h.2.2.1, List.mem_cons_self⟩
  | [], .gh b d :: r, a :: mus, h, i + 1, s, e => by
    obtain ⟨b, x, q1, q2, q3, q4⟩ := ArgsOk.gho (args := r) h.2.2.2.2 i s (by simpa [ghOf] using e)
    exact ⟨b, x, q1, q2, q3, List.mem_cons_of_mem _ q4⟩
  | v :: vs, .gh b d :: r, a :: mus, h, i + 1, s, e => by
    obtain ⟨b, x, q1, q2, q3, q4⟩ := ArgsOk.gho (args := r) h.2.2.2.2 i s (by simpa [ghOf] using e)
    exact ⟨b, x, q1, q2, q3, List.mem_cons_of_mem _ q4⟩
  | [], .gh _ _ :: _, [], h, _, _, _ => by unfold ArgsOk at h; exact h.elim
  | _ :: _, .gh _ _ :: _, [], h, _, _, _ => by unfold ArgsOk at h; exact h.elim
  | [], [], _ :: _, h, _, _, _ => h.elim
  | [], .ro _ :: _, _, h, _, _, _ => by unfold ArgsOk at h; exact h.elim
  | [], .mu _ :: _, _, h, _, _, _ => by unfold ArgsOk at h; exact h.elim
  | _ :: _, [], _, h, _, _, _ => by unfold ArgsOk at h; exact h.elim
  | _ :: _, .mu _ :: _, [], h, _, _, _ => by unfold ArgsOk at h; exact h.elim
theorem ArgsOk.gh_inj {cc : CC} {G0 H : Hp} : ∀ {vs : List V} {args : List Arg} {mus : List Addr}, ArgsOk cc G0 H vs args mus → ∀ (i j : Nat) (p q : Bool) (a : Addr) (d : D) (b : Addr) (e : D), (ghOf args mus)[i]? = some (.own p a d) → (ghOf args mus)[j]? = some (.own q b e) → i ≠ j → a ≠ b
  | [], [], [], _, i, j, _, _, _, _, _, _, e, _, _ => by simp [ghOf] at e
  | v :: vs, .ro d :: r, mus, h, i, j, p, q, a, x, b, y, e1, e2, hn => ArgsOk.gh_inj (args := r) h.2 i j p q a x b y e1 e2 hn
  | v :: vs, .mu d :: r, c :: mus, h, i, j, p, q, a, x, b, y, e1, e2, hn => ArgsOk.gh_inj (args := r) h.2.2.2.2 i j p q a x b y e1 e2 hn
  | vs, .gh z d :: r, c :: mus, h, i, j, p, q, a, x, b, y, e1, e2, hn => by
    have h' : c ∉ mus ∧ ArgsOk cc G0 H vs r mus := by cases vs <;> exact h.2.2.2
    have tl : ∀ {k : Nat} {m : Bool} {t : Addr} {u : D}, (ghOf r mus)[k]? = some (.own m t u) → t ∈ mus := fun {k m t u} e => by
      obtain ⟨_, _, q1, _, _, q4⟩ := h'.2.gho k _ e
      cases q1; exact q4
    cases i with
    | zero =>
      cases j with
      | zero => exact absurd rfl hn
      | succ j =>
        simp [ghOf] at e1 e2
        rintro rfl
        exact h'.1 (e1.2.1 ▸ tl e2)
    | succ i =>
      cases j with
      | zero =>
        simp [ghOf] at e1 e2
        rintro rfl
        exact h'.1 (e2.2.1 ▸ tl e1)
      | succ j =>
        simp [ghOf] at e1 e2
        exact ArgsOk.gh_inj (args := r) h'.2 i j p q a x b y e1 e2 (by omega)
  | [], .gh _ _ :: _, [], h, _, _, _, _, _, _, _, _, _, _, _ => by unfold ArgsOk at h; exact h.elim
  | _ :: _, .gh _ _ :: _, [], h, _, _, _, _, _, _, _, _, _, _, _ => by unfold ArgsOk at h; exact h.elim
  | [], [], _ :: _, h, _, _, _, _, _, _, _, _, _, _, _ => h.elim
  | [], .ro _ :: _, _, h, _, _, _, _, _, _, _, _, _, _, _ => by unfold ArgsOk at h; exact h.elim
  | [], .mu _ :: _, _, h, _, _, _, _, _, _, _, _, _, _, _ => by unfold ArgsOk at h; exact h.elim
  | _ :: _, [], _, h, _, _, _, _, _, _, _, _, _, _, _ => by unfold ArgsOk at h; exact h.elim
  | _ :: _, .mu _ :: _, [], h, _, _, _, _, _, _, _, _, _, _, _ => by unfold ArgsOk at h; exact h.elim
theorem ArgsOk.cross {cc : CC} {G0 H : Hp} : ∀ {vs : List V} {args : List Arg} {mus : List Addr}, ArgsOk cc G0 H vs args mus → ∀ (i j : Nat) (p q : Bool) (a : Addr) (d : D) (b : Addr) (e : D), (slotsOf args mus)[i]? = some (.own p a d) → (ghOf args mus)[j]? = some (.own q b e) → a ≠ b
  | [], [], [], _, i, j, _, _, _, _, _, _, e, _ => by simp [slotsOf] at e
  | v :: vs, .ro d :: r, mus, h, 0, j, p, q, a, x, b, y, e1, e2 => by simp [slotsOf] at e1
  | v :: vs, .ro d :: r, mus, h, i + 1, j, p, q, a, x, b, y, e1, e2 => ArgsOk.cross (args := r) h.2 i j p q a x b y (by simpa [slotsOf] using e1) e2
  | v :: vs, .mu d :: r, c :: mus, h, 0, j, p, q, a, x, b, y, e1, e2 => by
    simp [slotsOf] at e1
    obtain ⟨_, _, q1, _, _, q4⟩ := h.2.2.2.2.gho (args := r) j _ e2
    cases q1
    rintro rfl
    exact h.2.2.2.1 (e1.2.1 ▸ q4)
  | v :: vs, .mu d :: r, c :: mus, h, i + 1, j, p, q, a, x, b, y, e1, e2 => ArgsOk.cross (args := r) h.2.2.2.2 i j p q a x b y (by simpa [slotsOf] using e1) e2
  | vs, .gh z d :: r, c :: mus, h, i, j, p, q, a, x, b, y, e1, e2 => by
    have h' : c ∉ mus ∧ ArgsOk cc G0 H vs r mus := by cases vs <;> exact h.2.2.2
    cases j with
    | zero =>
      simp [ghOf] at e2
      obtain ⟨_, _, hq⟩ := h'.2.slot i _ e1
      rcases hq with ⟨_, hq, _⟩ | ⟨_, _, hq, _, _, _, hm⟩
      · cases hq
      · cases hq
        rintro rfl
        exact h'.1 (e2.2.1 ▸ hm)
    | succ j => exact ArgsOk.cross (args := r) h'.2 i j p q a x b y e1 (by simpa [ghOf] using e2)
  | [], .gh _ _ :: _, [], h, _, _, _, _, _, _, _, _, _, _ => by unfold ArgsOk at h; exact h.elim
  | _ :: _, .gh _ _ :: _, [], h, _, _, _, _, _, _, _, _, _, _ => by unfold ArgsOk at h; exact h.elim
  | [], [], _ :: _, h, _, _, _, _, _, _, _, _, _, _ => h.elim
  | [], .ro _ :: _, _, h, _, _, _, _, _, _, _, _, _, _ => by unfold ArgsOk at h; exact h.elim
  | [], .mu _ :: _, _, h, _, _, _, _, _, _, _, _, _, _ => by unfold ArgsOk at h; exact h.elim
  | _ :: _, [], _, h, _, _, _, _, _, _, _, _, _, _ => by unfold ArgsOk at h; exact h.elim
  | _ :: _, .mu _ :: _, [], h, _, _, _, _, _, _, _, _, _, _ => by unfold ArgsOk at h; exact h.elim
theorem env_get {args : List Arg} {mus : List Addr} {n i : Nat} {s : Sl} (h : (envOf args mus n)[i]? = some s) : s = .no ∨ (slotsOf args mus)[i]? = some s ∨ ∃ k, i = valN args + (n - valN args) + k ∧ (ghOf args mus)[k]? = some s := by
  unfold envOf at h
  have sl := slots_len args mus
  by_cases hi : i < (slotsOf args mus).length
  · rw [List.getElem?_append_left hi] at h; exact .inr (.inl h)
  · rw [List.getElem?_append_right (by omega)] at h
    by_cases hj : i - (slotsOf args mus).length < (List.replicate (n - valN args) Sl.no).length
    · rw [List.getElem?_append_left hj, List.getElem?_replicate] at h
      split at h
      · cases h; exact .inl rfl
      · cases h
    · rw [List.getElem?_append_right (by omega)] at h
      simp only [List.length_replicate] at h hj
      exact .inr (.inr ⟨_, by omega, h⟩)
theorem exMu.done {cc : CC} {G H : Hp} {σ : L2.St} : ∀ {args : List Arg} {mus : List Addr} {ρ : REnv} {k : List D → Prop}, exMu args mus ρ k → (∀ (i : Nat) (m : Bool) (a : Addr) (d : D), ρ[i]? = some (.own m a d) → Root cc G H a d ∧ G a = none) →
    ∃ ds, MusOk cc G H mus ds ∧ k ds
  | [], [], _, k, h, _ => ⟨[], trivial, h⟩
  | .ro _ :: r, mus, _ :: ρ, k, h, q => exMu.done (σ := σ) (args := r) h fun i m a d e => q (i + 1) m a d (by simpa using e)
  | .mu _ :: r, a :: mus, s :: ρ, k, h, q => by
    unfold exMu at h
    split at h
    · rename_i b d
      obtain ⟨rfl, h⟩ := h
      obtain ⟨ds, h1, h2⟩ := exMu.done (σ := σ) (args := r) h fun i m a d e => q (i + 1) m a d (by simpa using e)
      obtain ⟨r1, r2⟩ := q 0 true b d rfl
      exact ⟨d :: ds, ⟨r1, r2, h1⟩, h2⟩
    · exact h.elim
  | .gh _ _ :: r, a :: mus, ρ, k, h, q => by
    unfold exMu at h
    obtain ⟨d, hm, h⟩ := h
    obtain ⟨ds, h1, h2⟩ := exMu.done (σ := σ) (args := r) h q
    obtain ⟨i, hi⟩ := List.getElem?_of_mem hm
    obtain ⟨r1, r2⟩ := q i true a d hi
    exact ⟨d :: ds, ⟨r1, r2, h1⟩, h2⟩
  | .gh _ _ :: _, [], _, _, h, _ => by unfold exMu at h; exact h.elim
  | [], _ :: _, _, _, h, _ => by unfold exMu at h; exact h.elim
  | .ro _ :: _, _, [], _, h, _ => by unfold exMu at h; exact h.elim
  | .mu _ :: _, [], _, _, h, _ => by unfold exMu at h; exact h.elim
  | .mu _ :: _, _ :: _, [], _, h, _ => by unfold exMu at h; exact h.elim

theorem sr_start {C : Ccs} {G0 H : Hp} {vs : List V} {args : List Arg} {mus : List Addr} {N : List Str} {xk : Xk} (h : ArgsOk C.cc G0 H vs args mus) (le : LE G0 H) (hl : vs.length ≤ N.length) :
    SR ⟨C.cc, H, G0, mus, xk, N.length⟩ (envOf args mus N.length) G0 (L2.start N vs) H := by
  have len := h.len
  refine ⟨?_, le, fun i s e => ?_, fun i j p q a d b e h1 h2 hn => ?_, fun i p a d e => ?_, fun _ _ e _ => e, fun i p a d e => ?_, fun _ h => .inl h, LE.refl _, fun a ha => (h.mus a ha).1, fun a ha => (h.mus a ha).2⟩
  · show (vs.map some ++ List.replicate (N.length - vs.length) none).length = N.length ∧ N.length ≤ (slotsOf args mus ++ (List.replicate (N.length - valN args) Sl.no ++ ghOf args mus)).length
    simp only [List.length_append, slots_len, List.length_replicate, List.length_map]
    omega
  · rcases env_get e with rfl | e | ⟨k, hk, e⟩
    · trivial
    · obtain ⟨v, hv, q⟩ := h.slot i s e
      have hst : (L2.start N vs)[i]? = some (some v) := by
        unfold L2.start
        have hi : i < vs.length := (List.getElem?_eq_some_iff.mp hv).1
        rw [List.getElem?_append_left (by simpa using hi), List.getElem?_map, hv]
        rfl
      rcases q with ⟨d, rfl, r⟩ | ⟨a, d, rfl, rfl, _, r, _⟩
      · exact ⟨v, hst, r⟩
      · exact ⟨.inl hst, r⟩
    · obtain ⟨a, d, rfl, _, r, _⟩ := h.gho k s e
      refine ⟨.inr ?_, r⟩
      show (vs.map some ++ List.replicate (N.length - vs.length) none).length ≤ i
      simp only [List.length_append, List.length_replicate, List.length_map]
      omega
  · rcases env_get h1 with h1 | h1 | ⟨k1, i1, h1⟩
    · cases h1
    · rcases env_get h2 with h2 | h2 | ⟨k2, i2, h2⟩
      · cases h2
      · exact h.inj i j p q a d b e h1 h2 hn
      · exact h.cross i k2 p q a d b e h1 h2
    · rcases env_get h2 with h2 | h2 | ⟨k2, i2, h2⟩
      · cases h2
      · exact (h.cross j k1 q p b e a d h2 h1).symm
      · exact h.gh_inj k1 k2 p q a d b e h1 h2 (by omega)
  · rcases env_get e with e | e | ⟨k, hk, e⟩
    · cases e
    · obtain ⟨v, hv, q⟩ := h.slot i _ e
      rcases q with ⟨_, q, _⟩ | ⟨_, _, q, _, g, _⟩
      · cases q
      · cases q; exact g
    · obtain ⟨_, _, q, g, _⟩ := h.gho k _ e
      cases q; exact g
  · rcases env_get e with e | e | ⟨k, hk, e⟩
    · cases e
    · obtain ⟨v, hv, q⟩ := h.slot i _ e
      rcases q with ⟨_, q, _⟩ | ⟨_, _, q, _, _, _, m⟩
      · cases q
      · cases q; exact m
    · obtain ⟨_, _, q, _, _, m⟩ := h.gho k _ e
      cases q; exact m

section
variable {P : Program} {w : World} {K : PySem.W.Frag} {mg : Str → Option Value} {base : Heap}
theorem resK.done {Z : Zone} {ρ : REnv} {G H : Hp} {σ : L2.St} {r : Rv} {v : V} {k : Ro → Prop} (I : SR Z ρ G σ H) (q : RvOk Z r ρ G σ H v) (h : resK r ρ k) : ∃ o, ResOk Z.cc G Z.H0 H v o ∧ k o := by
  cases r with
  | sh d => exact ⟨.sh d, q, h⟩
  | fr a d => exact ⟨.fr d, ⟨a, q.1, q.2.1, q.2.2.1, q.2.2.2.2.1⟩, h⟩
  | loc i =>
    obtain ⟨ev, hb⟩ := q
    unfold resK at h
    cases hs : ρ[i]? with
    | none => simp only [hs] at h
    | some s =>
      simp only [hs] at h
      have so := I.slot i s hs
      cases s with
      | no => exact h.elim
      | sh d =>
        obtain ⟨u, eu, r⟩ := so
        rw [ev] at eu; cases eu
        exact ⟨.sh d, r, h⟩
      | own m a d =>
        cases m with
        | true => exact h.elim
        | false =>
          obtain ⟨eu, r⟩ := so
          cases own_in ev eu
          exact ⟨.fr d, ⟨a, rfl, r, I.out i _ a d hs, (I.frs i false a d hs).1⟩, h⟩
  | gh j a =>
    obtain ⟨rfl, m, d, hs⟩ := q
    unfold resK at h
    simp only [hs] at h
    cases m with
    | true => exact h.elim
    | false => exact ⟨.fr d, ⟨a, rfl, (I.slot j _ hs).2, I.out j _ a d hs, (I.frs j false a d hs).1⟩, h⟩
  | gx as cs t =>
    obtain ⟨h1, h2, h4, h5⟩ := q
    exact ⟨.gx as cs t, ⟨h1, h2, h4, fun i a d e1 e2 => ⟨(h5 i a d e1 e2).1, (h5 i a d e1 e2).2.1, (h5 i a d e1 e2).2.2.2.1⟩⟩, h⟩
/-- THE RULE: a def that raises nothing, by its body over trees -/
theorem fn_ok {C : Ccs} {x qual : Str} {st : Stmt} {f : Addr} {fd : FuncData} {N ps : List Str} {k : Nat} {sp : FSpec} {b : SW} (F : Fun K x qual st f fd) (S : FnScope N ps (defScope st)) (hb : Sat N.length sp b) (hn : ps.length ≤ N.length)
    (hbody : ∀ (cdv : Value) (A : Around) (outer : List Env) (s : Shared) (H : Hp) (E : XK) (Z : Zone), Z.cc = C.cc → Z.xk = xk0 → Room k (A.deeper (PyProof.Rows.envOfC qual (defScope st) s.heap.objs.size f cdv)) →
      PSs (cxOf CX0 P w K mg base N qual (defScope st) f cdv A outer s H E).nox (defBody st) (Ts Z b)) : FnOk P w K mg base CX0 (k + 1) f fd ps (LSp0 C sp ps.length) := by
  refine F.ok S (fun vs H Q E h => h.1) fun cdv A outer s H vs Q E hr h => ?_
  obtain ⟨hl, args, G0, mus, kr, le, ao, hsp, ret⟩ := h
  refine ⟨_, hbody cdv A outer s H E ⟨C.cc, H, G0, mus, xk0, N.length⟩ rfl rfl hr, envOf args mus N.length, G0, _, sr_start ao le (by omega), hb args mus kr _ ao.muN hsp, ?_⟩
  have fin : ∀ {r : Rv} {ρ' : REnv} {v : V} {σ' : L2.St} {H' G' : Hp}, LE G0 G' → SR ⟨C.cc, H, G0, mus, xk0, N.length⟩ ρ' G' σ' H' → RvOk ⟨C.cc, H, G0, mus, xk0, N.length⟩ r ρ' G' σ' H' v → endK args mus kr r ρ' → Q v H' := fun {r ρ' v σ' H' G'} le' I q e => by
    obtain ⟨o, hro, e⟩ := resK.done I q e
    obtain ⟨ds, hm, e⟩ := exMu.done (σ := σ') e fun i m a d hs => ⟨(I.slot i _ hs).2, I.out i m a d hs⟩
    exact ret o ds v H' G' le' I.sub I.ent I.gnew hm hro e
  exact ⟨fun ρ' σ' H' G' le' I e => fin le' I (rv_sh rep_non) e, fun r ρ' v σ' H' G' le' I q e => fin le' I q e, fun _ _ _ _ _ _ h => h.elim, fun _ _ _ _ _ _ h => h.elim⟩
end
end TL

namespace TL
open PySem PySem.Spec L2

mutual
def noLst : D → Bool
  | .tup ds => noLsts ds
  | .lst _ => false
  | .obj _ _ => false
  | .dct _ _ => false
  | .dic _ _ => false
  | .ptr _ => false
  | _ => true
def noLsts : List D → Bool
  | [] => true
  | d :: ds => noLst d && noLsts ds
end
def chFlat : D → Bool
  | .lst ds => noLsts ds
  | .obj _ ds => noLsts ds
  | .dic _ ds => noLsts ds
  | _ => true
def flatRo : Ro → Bool
  | .sh d => noLst d
  | .fr d => chFlat d
  | .gx _ _ _ => false
mutual
theorem Rep.strip {cc : CC} {G G2 : Hp} (h : ∀ a vs, G a = some (.tup vs) → G2 a = some (.tup vs)) : ∀ {d : D} {v : V}, noLst d = true → Rep cc G v d → Rep cc G2 v d
  | .non, _, _, r => by unfold Rep at r ⊢; exact r
  | .bl _, _, _, r => by unfold Rep at r ⊢; exact r
  | .int _, _, _, r => by unfold Rep at r ⊢; exact r
  | .str _, _, _, r => by unfold Rep at r ⊢; exact r
  | .tup ds, _, n, r => by
    unfold Rep at r ⊢
    unfold noLst at n
    obtain ⟨a, vs, e, g, q⟩ := r
    exact ⟨a, vs, e, h _ _ g, Reps.strip h n q⟩
  | .lst ds, _, n, r => by simp [noLst] at n
  | .obj c ds, _, n, r => by simp [noLst] at n
  | .dct _ _, _, n, r => by simp [noLst] at n
  | .ptr _, _, n, r => by simp [noLst] at n
  | .dic _ _, _, n, r => by simp [noLst] at n
theorem Reps.strip {cc : CC} {G G2 : Hp} (h : ∀ a vs, G a = some (.tup vs) → G2 a = some (.tup vs)) : ∀ {ds : List D} {vs : List V}, noLsts ds = true → Reps cc G vs ds → Reps cc G2 vs ds
  | [], _, _, r => by unfold Reps at r ⊢; exact r
  | d :: ds, _, n, r => by
    unfold Reps at r ⊢
    unfold noLsts at n
    rw [Bool.and_eq_true] at n
    obtain ⟨v, q, e, a, b⟩ := r
    exact ⟨v, q, e, Rep.strip h n.1 a, Reps.strip h n.2 b⟩
end
theorem Root.strip {cc : CC} {G G2 H : Hp} {a : Addr} {d : D} (h : ∀ a vs, G a = some (.tup vs) → G2 a = some (.tup vs)) (n : chFlat d = true) (r : Root cc G H a d) : Root cc G2 H a d := by
  cases d <;> try exact r
  · obtain ⟨vs, e, q⟩ := r; exact ⟨vs, e, q.strip h n⟩
  · obtain ⟨dx, vs, e, l, q⟩ := r; exact ⟨dx, vs, e, l, q.strip h n⟩
  · obtain ⟨vs, e, q⟩ := r; exact ⟨vs, e, q.strip h n⟩

/-! ### the arguments of a call -/
inductive Ag where
  | ro (d : D) | bo (i : Nat) | mu (i : Nat) | tm (a : Addr) (d : D) | bg (j : Nat) (a : Addr) | mg (j : Nat) (a : Addr) | gg (j : Nat) | bd (js : List Nat) (d : D)
abbrev AgW := Xk → REnv → (List Ag → REnv → Prop) → Prop
def AgOk (Z : Zone) (ρ : REnv) (G : Hp) (σ : L2.St) (H : Hp) (v : V) : Ag → Prop
  | .ro d => Rep Z.cc G v d
  | .bo i => σ[i]? = some (some v)
  | .mu i => σ[i]? = some (some v)
  | .tm a d => RvOk Z (.fr a d) ρ G σ H v
  | .bg _ a => v = .ref a
  | .mg _ a => v = .ref a
  | .gg _ => False
  | .bd _ d => Rep Z.cc G v d
def AgsOk (Z : Zone) (ρ : REnv) (G : Hp) (σ : L2.St) (H : Hp) : List V → List Ag → Prop
  | [], [] => True
  | v :: vs, g :: gs => AgOk Z ρ G σ H v g ∧ AgsOk Z ρ G σ H vs gs
  | _, _ => False
/-- .. with ghosts behind them -/
def AgsX (Z : Zone) (ρ : REnv) (G : Hp) (σ : L2.St) (H : Hp) : List V → List Ag → Prop
  | [], [] => True
  | [], .gg _ :: gs => AgsX Z ρ G σ H [] gs
  | v :: vs, g :: gs => AgOk Z ρ G σ H v g ∧ AgsX Z ρ G σ H vs gs
  | _, _ => False
theorem AgsOk.x {Z : Zone} {ρ : REnv} {G : Hp} {σ : L2.St} {H : Hp} {js : List Nat} : ∀ {vs : List V} {gs : List Ag}, AgsOk Z ρ G σ H vs gs → AgsX Z ρ G σ H vs (gs ++ js.map .gg)
  | [], [], _ => by
    induction js with
    | nil => trivial
    | cons j js ih => exact ih
  | v :: vs, g :: gs, h => ⟨h.1, AgsOk.x (vs := vs) h.2⟩
  | [], _ :: _, h => h.elim
  | _ :: _, [], h => h.elim
theorem AgsOk.x0 {Z : Zone} {ρ : REnv} {G : Hp} {σ : L2.St} {H : Hp} {vs : List V} {gs : List Ag} (h : AgsOk Z ρ G σ H vs gs) : AgsX Z ρ G σ H vs gs := by
  have := h.x (js := [])
  simpa using this
def Tag (Z : Zone) (w : AgW) : TA := fun σ H Q => ∃ ρ G K, SR Z ρ G σ H ∧ w Z.xk ρ K ∧
  ∀ gs ρ' vs H' G', LE G G' → SR Z ρ' G' σ H' → AgsOk Z ρ' G' σ H' vs gs → K gs ρ' → Q vs H'
def isOwn (ρ : REnv) (i : Nat) : Prop := match ρ[i]? with | some (.own _ _ _) => True | _ => False
def noTm : List Ag → Bool
  | [] => true
  | .tm _ _ :: _ => false
  | _ :: r => noTm r
def agNil : AgW := fun _ ρ K => K [] ρ
def agRo (w : EW) (r : AgW) : AgW := fun xk ρ K => w xk ρ fun v ρ1 => stl v ρ1 fun d ρ2 => r xk ρ2 fun gs ρ3 => K (.ro d :: gs) ρ3
def agBo (i : Nat) (r : AgW) : AgW := fun xk ρ K => isOwn ρ i ∧ r xk ρ fun gs ρ3 => K (.bo i :: gs) ρ3
def agMu (i : Nat) (r : AgW) : AgW := fun xk ρ K => isOwn ρ i ∧ r xk ρ fun gs ρ3 => K (.mu i :: gs) ρ3
/-- a value as it may be stored -/
def pvw (v : Rv) (ρ : REnv) (K : D → Prop) : Prop := match v with
  | .sh d => K d
  | .gh _ a => K (.ptr a)
  | .loc i => match ρ[i]? with
    | some (.sh d) => K d
    | some (.own _ a _) => K (.ptr a)
    | _ => False
  | _ => False
/-- a value with all the roots at some places, lent -/
def agBd (w : EW) (r : AgW) : AgW := fun xk ρ K => w xk ρ fun v ρ1 => pvw v ρ1 fun d => r xk ρ1 fun gs ρ3 => ∃ js, K (.bd js d :: gs) ρ3
/-- a ghost, lent; handed in to be changed -/
def agBg (w : EW) (r : AgW) : AgW := fun xk ρ K => w xk ρ fun v ρ1 => match v with
  | .gh j a => r xk ρ1 fun gs ρ3 => K (.bg j a :: gs) ρ3
  | _ => False
def agMg (w : EW) (r : AgW) : AgW := fun xk ρ K => w xk ρ fun v ρ1 => match v with
  | .gh j a => r xk ρ1 fun gs ρ3 => K (.mg j a :: gs) ρ3
  | _ => False
def agTm (w : EW) (r : AgW) : AgW := fun xk ρ K => w xk ρ fun v ρ1 => match v with
  | .fr a d => r xk0 ρ1 fun gs ρ3 => noTm gs = true ∧ K (.tm a d :: gs) ρ3
  | _ => False
section
variable {X : Cx} {Z : Zone} {e : Expr} {es : List Expr} {w : EW} {r : AgW}
theorem dag_nil : PA X [] (Tag Z agNil) := ⟨fun pos pins s σ H Q I ⟨ρ, G, K, IR, hw, q⟩ => pa_nil.run pos pins s σ H Q I (q [] ρ [] H G (LE.refl G) IR trivial hw)⟩
theorem isOwn_get {ρ : REnv} {G H : Hp} {σ : L2.St} (I : SR Z ρ G σ H) {i : Nat} (hi : i < σ.length) (h : isOwn ρ i) : ∃ v, σ[i]? = some (some v) := by
  unfold isOwn at h
  cases hs : ρ[i]? with
  | none => rw [hs] at h; exact h.elim
  | some s =>
    cases s with
    | no => rw [hs] at h; exact h.elim
    | sh d => rw [hs] at h; exact h.elim
    | own m a d => exact ⟨_, own_at hi (I.slot i _ hs).1⟩
theorem dag_ro (ha : PE X e (T Z w)) (hr : PA X es (Tag Z r)) (hs : starEach (e :: es) X.env = (false, eval e X.env) :: starEach es X.env := by rfl) : PA X (e :: es) (Tag Z (agRo w r)) :=
  ⟨fun pos pins s σ H Q I ⟨ρ, G, K, IR, hw, q⟩ => (pa_cons ha hr hs).run pos pins s σ H Q I ⟨ρ, G, _, IR, hw, fun rv ρ1 v H1 G1 le1 I1 q1 k1 => by
    obtain ⟨d, ρ2, G2, le2, I2, rp, k2, _⟩ := I1.settle q1 k1
    exact ⟨ρ2, G2, _, I2, k2, fun gs ρ3 vs H3 G3 le3 I3 rs k3 => q (.ro d :: gs) ρ3 (v :: vs) H3 G3 ((le1.trans le2).trans le3) I3 ⟨(rp.mono le3 : Rep _ _ _ _), rs⟩ k3⟩⟩⟩
theorem dag_bo {i : Nat} {x : Str} {pos : Pos} (hr : PA X es (Tag Z r)) (hN : X.N[i]? = some x := by rfl) (hv : Vis X.env.scope x := by first | exact Or.inl rfl | exact Or.inr (Or.inl rfl) | exact Or.inr (Or.inr rfl)) (hd : (x == ("__debug__" : Str)) = false := by decide)
    (hcd : (x == ("__classdict__" : Str)) = false := by decide) (hs : starEach (.Name x pos :: es) X.env = (false, eval (.Name x pos) X.env) :: starEach es X.env := by rfl) : PA X (.Name x pos :: es) (Tag Z (agBo i r)) :=
  ⟨fun pos pins s σ H Q I ⟨ρ, G, K, IR, ⟨ho, hw⟩, q⟩ => (pa_cons (pv i hN hv hd hcd) hr hs).run pos pins s σ H Q I (by
    obtain ⟨v, ev⟩ := isOwn_get IR (lt_len I hN) ho
    exact ⟨v, ev, ρ, G, _, IR, hw, fun gs ρ3 vs H3 G3 le3 I3 rs k3 => q (.bo i :: gs) ρ3 (v :: vs) H3 G3 le3 I3 ⟨ev, rs⟩ k3⟩)⟩
theorem AgsOk.unext {D : Addr} {o : HO} {ρ : REnv} {G H : Hp} {σ : L2.St} : ∀ {vs : List V} {gs : List Ag}, noTm gs = true → AgsOk (Z.ext D o) ρ G σ H vs gs → AgsOk Z ρ G σ H vs gs
  | [], [], _, _ => trivial
  | v :: vs, .ro d :: gs, n, h => ⟨h.1, AgsOk.unext (gs := gs) (by simpa [noTm] using n) h.2⟩
  | v :: vs, .bo d :: gs, n, h => ⟨h.1, AgsOk.unext (gs := gs) (by simpa [noTm] using n) h.2⟩
  | v :: vs, .mu d :: gs, n, h => ⟨h.1, AgsOk.unext (gs := gs) (by simpa [noTm] using n) h.2⟩
  | v :: vs, .bg _ _ :: gs, n, h => ⟨h.1, AgsOk.unext (gs := gs) (by simpa [noTm] using n) h.2⟩
  | v :: vs, .mg _ _ :: gs, n, h => ⟨h.1, AgsOk.unext (gs := gs) (by simpa [noTm] using n) h.2⟩
  | v :: vs, .gg _ :: gs, n, h => h.1.elim
  | v :: vs, .bd _ _ :: gs, n, h => ⟨h.1, AgsOk.unext (gs := gs) (by simpa [noTm] using n) h.2⟩
  | v :: vs, .tm _ _ :: gs, n, h => by simp [noTm] at n
  | [], _ :: _, _, h => h.elim
  | _ :: _, [], _, h => h.elim
end

/-! ### a call -/
def pk (ρ : REnv) : List Nat → List (Addr × D)
  | [] => []
  | j :: js => match ρ[j]? with
    | some (.own _ a d) => (a, d) :: pk ρ js
    | _ => pk ρ js
theorem pk_mem {ρ : REnv} {a : Addr} {d : D} : ∀ {js : List Nat}, (a, d) ∈ pk ρ js → ∃ j m, j ∈ js ∧ ρ[j]? = some (.own m a d)
  | j :: js, h => by
    unfold pk at h
    split at h
    · rename_i m b e hs
      rcases List.mem_cons.mp h with h | h
      · cases h; exact ⟨j, m, List.mem_cons_self, hs⟩
      · obtain ⟨i, m, h1, h2⟩ := pk_mem h; exact ⟨i, m, List.mem_cons_of_mem _ h1, h2⟩
    · obtain ⟨i, m, h1, h2⟩ := pk_mem h; exact ⟨i, m, List.mem_cons_of_mem _ h1, h2⟩
def argsK : List Ag → REnv → (List Arg → Prop) → Prop
  | [], _, k => k []
  | .ro d :: r, ρ, k => argsK r ρ fun as => k (.ro d :: as)
  | .bo i :: r, ρ, k => match ρ[i]? with | some (.own _ _ d) => argsK r ρ fun as => k (.ro d :: as) | _ => False
  | .mu i :: r, ρ, k => match ρ[i]? with | some (.own _ _ d) => argsK r ρ fun as => k (.mu d :: as) | _ => False
  | .tm _ d :: r, ρ, k => argsK r ρ fun as => k (.mu d :: as)
  | .bg j a :: r, ρ, k => match ρ[j]? with | some (.own _ b d) => b = a ∧ argsK r ρ fun as => k (.ro d :: as) | _ => False
  | .mg j a :: r, ρ, k => match ρ[j]? with | some (.own _ b d) => b = a ∧ argsK r ρ fun as => k (.mu d :: as) | _ => False
  | .gg j :: r, ρ, k => match ρ[j]? with | some (.own _ b d) => argsK r ρ fun as => k (.gh b d :: as) | _ => False
  | .bd js d :: r, ρ, k => ∃ e, Vw (pk ρ js) d e ∧ argsK r ρ fun as => k (.ro e :: as)
def reown (ρ : REnv) (i : Nat) (d : D) : Sl := match ρ[i]? with | some (.own m a _) => .own m a d | _ => .no
def upE : List Ag → List D → REnv → REnv
  | [], _, ρ => ρ
  | .mu i :: r, d :: ds, ρ => (upE r ds ρ).set i (reown ρ i d)
  | .mu _ :: _, [], ρ => ρ
  | .tm _ _ :: r, _ :: ds, ρ => upE r ds ρ
  | .tm _ _ :: _, [], ρ => ρ
  | .ro _ :: r, ds, ρ => upE r ds ρ
  | .bo _ :: r, ds, ρ => upE r ds ρ
  | .bg _ _ :: r, ds, ρ => upE r ds ρ
  | .mg i _ :: r, d :: ds, ρ => (upE r ds ρ).set i (reown ρ i d)
  | .mg _ _ :: _, [], ρ => ρ
  | .gg i :: r, d :: ds, ρ => (upE r ds ρ).set i (reown ρ i d)
  | .gg _ :: _, [], ρ => ρ
  | .bd _ _ :: r, ds, ρ => upE r ds ρ
def boIx : List Ag → List Nat
  | [] => []
  | .bo i :: r => i :: boIx r
  | .ro _ :: r => boIx r
  | .mu _ :: r => boIx r
  | .tm _ _ :: r => boIx r
  | .bg i _ :: r => i :: boIx r
  | .mg _ _ :: r => boIx r
  | .gg _ :: r => boIx r
  | .bd js _ :: r => js ++ boIx r
def muIx : List Ag → List Nat
  | [] => []
  | .mu i :: r => i :: muIx r
  | .ro _ :: r => muIx r
  | .bo _ :: r => muIx r
  | .tm _ _ :: r => muIx r
  | .bg _ _ :: r => muIx r
  | .mg i _ :: r => i :: muIx r
  | .gg i :: r => i :: muIx r
  | .bd _ _ :: r => muIx r
def tms : List Ag → Nat
  | [] => 0
  | .tm _ _ :: r => tms r + 1
  | .ro _ :: r => tms r
  | .bo _ :: r => tms r
  | .mu _ :: r => tms r
  | .bg _ _ :: r => tms r
  | .mg _ _ :: r => tms r
  | .gg _ :: r => tms r
  | .bd _ _ :: r => tms r
def hasBo : List Ag → Bool
  | [] => false
  | .bo _ :: _ => true
  | .ro _ :: r => hasBo r
  | .mu _ :: r => hasBo r
  | .tm _ _ :: r => hasBo r
  | .bg _ _ :: _ => true
  | .mg _ _ :: r => hasBo r
  | .gg _ :: r => hasBo r
  | .bd _ _ :: _ => true
def noLstAll : List D → Bool
  | [] => true
  | d :: r => chFlat d && noLstAll r
def callK (sp : FSpec) (gs : List Ag) (ρ : REnv) (xk : Xk) (K : Rv → REnv → Prop) : Prop := (boIx gs ++ muIx gs).Nodup ∧ tms gs ≤ 1 ∧
  argsK gs ρ fun args => sp args (fun o ds => (hasBo gs = true → flatRo o = true ∧ noLstAll ds = true) ∧ out o (upE gs ds ρ) K) (fun c d => xk c d ρ)

def boA : List Ag → REnv → List Addr
  | [], _ => []
  | .bo i :: r, ρ => match ρ[i]? with | some (.own _ a _) => a :: boA r ρ | _ => boA r ρ
  | .ro _ :: r, ρ => boA r ρ
  | .mu _ :: r, ρ => boA r ρ
  | .tm _ _ :: r, ρ => boA r ρ
  | .bg i _ :: r, ρ => match ρ[i]? with | some (.own _ a _) => a :: boA r ρ | _ => boA r ρ
  | .mg _ _ :: r, ρ => boA r ρ
  | .gg _ :: r, ρ => boA r ρ
  | .bd js _ :: r, ρ => (pk ρ js).map (·.1) ++ boA r ρ
def muA : List Ag → REnv → List Addr
  | [], _ => []
  | .mu i :: r, ρ => match ρ[i]? with | some (.own _ a _) => a :: muA r ρ | _ => muA r ρ
  | .tm a _ :: r, ρ => a :: muA r ρ
  | .ro _ :: r, ρ => muA r ρ
  | .bo _ :: r, ρ => muA r ρ
  | .bg _ _ :: r, ρ => muA r ρ
  | .mg i _ :: r, ρ => match ρ[i]? with | some (.own _ a _) => a :: muA r ρ | _ => muA r ρ
  | .gg i :: r, ρ => match ρ[i]? with | some (.own _ a _) => a :: muA r ρ | _ => muA r ρ
  | .bd _ _ :: r, ρ => muA r ρ
section
variable {Z : Zone} {ρ : REnv} {G H : Hp} {σ : L2.St}
theorem boA_own : ∀ {gs : List Ag} {a : Addr}, a ∈ boA gs ρ → ∃ (i : Nat) (m : Bool) (d : D), i ∈ boIx gs ∧ ρ[i]? = some (.own m a d)
  | .bo i :: r, a, h => by
    unfold boA at h
    split at h
    · rename_i m b d hs
      rcases List.mem_cons.mp h with rfl | h
      · exact ⟨i, m, d, by simp [boIx], hs⟩
      · obtain ⟨j, m, d, h1, h2⟩ := boA_own h; exact ⟨j, m, d, by simp [boIx, h1], h2⟩
    · obtain ⟨j, m, d, h1, h2⟩ := boA_own h; exact ⟨j, m, d, by simp [boIx, h1], h2⟩
  | .bg i _ :: r, a, h => by
    unfold boA at h
    split at h
    · rename_i m b d hs
      rcases List.mem_cons.mp h with rfl | h
      · exact ⟨i, m, d, by simp [boIx], hs⟩
      · obtain ⟨j, m, d, h1, h2⟩ := boA_own h; exact ⟨j, m, d, by simp [boIx, h1], h2⟩
    · obtain ⟨j, m, d, h1, h2⟩ := boA_own h; exact ⟨j, m, d, by simp [boIx, h1], h2⟩
  | .mg _ _ :: r, a, h => boA_own (gs := r) h
  | .gg _ :: r, a, h => boA_own (gs := r) h
  | .bd js _ :: r, a, h => by
    rcases List.mem_append.mp h with h | h
    · obtain ⟨p, hp, rfl⟩ := List.mem_map.mp h
      obtain ⟨j, m, h1, h2⟩ := pk_mem (a := p.1) (d := p.2) hp
      exact ⟨j, m, p.2, by simp [boIx, h1], h2⟩
    · obtain ⟨j, m, d, h1, h2⟩ := boA_own (gs := r) h
      exact ⟨j, m, d, by simp [boIx, h1], h2⟩
  | .ro _ :: r, a, h => boA_own (gs := r) h
  | .mu _ :: r, a, h => boA_own (gs := r) h
  | .tm _ _ :: r, a, h => boA_own (gs := r) h
  | [], a, h => by simp [boA] at h
theorem hasBo_nil : ∀ {gs : List Ag}, hasBo gs = false → boA gs ρ = []
  | [], _ => rfl
  | .bo _ :: _, h => by simp [hasBo] at h
  | .ro _ :: r, h => hasBo_nil (gs := r) h
  | .mu _ :: r, h => hasBo_nil (gs := r) h
  | .tm _ _ :: r, h => hasBo_nil (gs := r) h
  | .bg _ _ :: _, h => by simp [hasBo] at h
  | .mg _ _ :: r, h => hasBo_nil (gs := r) h
  | .gg _ :: r, h => hasBo_nil (gs := r) h
  | .bd _ _ :: _, h => by simp [hasBo] at h
/-- the address of a root that is handed in to be changed -/
theorem muA_at : ∀ {gs : List Ag} {vs : List V} {a : Addr}, AgsX Z ρ G σ H vs gs → a ∈ muA gs ρ → (∃ (i : Nat) (m : Bool) (d : D), i ∈ muIx gs ∧ ρ[i]? = some (.own m a d)) ∨ (tms gs ≠ 0 ∧ ∃ v d, RvOk Z (.fr a d) ρ G σ H v)
  | [], _, a, _, h => by simp [muA] at h
  | .mu i :: r, v :: vs, a, q, h => by
    unfold muA at h
    split at h
    · rename_i m b d hs
      rcases List.mem_cons.mp h with rfl | h
      · exact .inl ⟨i, m, d, by simp [muIx], hs⟩
      · rcases muA_at q.2 h with ⟨j, m, d, h1, h2⟩ | z
        · exact .inl ⟨j, m, d, by simp [muIx, h1], h2⟩
        · exact .inr z
    · rcases muA_at q.2 h with ⟨j, m, d, h1, h2⟩ | z
      · exact .inl ⟨j, m, d, by simp [muIx, h1], h2⟩
      · exact .inr z
  | .mg i _ :: r, v :: vs, a, q, h => by
    unfold muA at h
    split at h
    · rename_i m b d hs
      rcases List.mem_cons.mp h with rfl | h
      · exact .inl ⟨i, m, d, by simp [muIx], hs⟩
      · rcases muA_at q.2 h with ⟨j, m, d, h1, h2⟩ | z
        · exact .inl ⟨j, m, d, by simp [muIx, h1], h2⟩
        · exact .inr z
    · rcases muA_at q.2 h with ⟨j, m, d, h1, h2⟩ | z
      · exact .inl ⟨j, m, d, by simp [muIx, h1], h2⟩
      · exact .inr z
  | .gg i :: r, [], a, q, h => by
    unfold muA at h
    split at h
    · rename_i m b d hs
      rcases List.mem_cons.mp h with rfl | h
      · exact .inl ⟨i, m, d, by simp [muIx], hs⟩
      · rcases muA_at (gs := r) (vs := []) q h with ⟨j, m, d, h1, h2⟩ | z
        · exact .inl ⟨j, m, d, by simp [muIx, h1], h2⟩
        · exact .inr z
    · rcases muA_at (gs := r) (vs := []) q h with ⟨j, m, d, h1, h2⟩ | z
      · exact .inl ⟨j, m, d, by simp [muIx, h1], h2⟩
      · exact .inr z
  | .gg i :: r, v :: vs, a, q, h => q.1.elim
  | .bg _ _ :: r, v :: vs, a, q, h => muA_at (gs := r) q.2 h
  | .bg _ _ :: r, [], a, h, _ => h.elim
  | .bd _ _ :: r, v :: vs, a, q, h => muA_at (gs := r) q.2 h
  | .bd _ _ :: r, [], a, h, _ => h.elim
  | .mg _ _ :: r, [], a, h, _ => h.elim
  | .ro _ :: r, v :: vs, a, q, h => muA_at (gs := r) q.2 h
  | .bo _ :: r, v :: vs, a, q, h => muA_at (gs := r) q.2 h
  | .tm b d :: r, v :: vs, a, q, h => by
    rcases List.mem_cons.mp h with rfl | h
    · exact .inr ⟨by simp [tms], v, d, q.1⟩
    · rcases muA_at (gs := r) q.2 h with z | ⟨z, w⟩
      · exact .inl z
      · exact .inr ⟨by simp [tms], w⟩
  | .mu i :: r, [], a, h, _ => h.elim
  | .ro i :: r, [], a, h, _ => h.elim
  | .bo i :: r, [], a, h, _ => h.elim
  | .tm i _ :: r, [], a, h, _ => h.elim
theorem muA_nd (I : SR Z ρ G σ H) : ∀ {gs : List Ag} {vs : List V}, AgsX Z ρ G σ H vs gs → (muIx gs).Nodup → tms gs ≤ 1 → (muA gs ρ).Nodup
  | [], _, _, _, _ => List.nodup_nil
  | .mu i :: r, v :: vs, q, n, t => by
    have n' := List.nodup_cons.mp n
    have ih := muA_nd I (gs := r) q.2 n'.2 t
    unfold muA
    split
    · rename_i m a d hs
      refine List.nodup_cons.mpr ⟨fun hm => ?_, ih⟩
      rcases muA_at q.2 hm with ⟨j, m', d', hj, hs'⟩ | ⟨_, v', d', f⟩
      · exact I.inj i j m m' a d a d' hs hs' (fun e => n'.1 (e ▸ hj)) rfl
      · exact f.2.2.2.1 i m a d hs rfl
    · exact ih
  | .mg i _ :: r, v :: vs, q, n, t => by
    have n' := List.nodup_cons.mp n
    have ih := muA_nd I (gs := r) q.2 n'.2 t
    unfold muA
    split
    · rename_i m a d hs
      refine List.nodup_cons.mpr ⟨fun hm => ?_, ih⟩
      rcases muA_at q.2 hm with ⟨j, m', d', hj, hs'⟩ | ⟨_, v', d', f⟩
      · exact I.inj i j m m' a d a d' hs hs' (fun e => n'.1 (e ▸ hj)) rfl
      · exact f.2.2.2.1 i m a d hs rfl
    · exact ih
  | .gg i :: r, [], q, n, t => by
    have n' := List.nodup_cons.mp n
    have ih := muA_nd I (gs := r) (vs := []) q n'.2 t
    unfold muA
    split
    · rename_i m a d hs
      refine List.nodup_cons.mpr ⟨fun hm => ?_, ih⟩
      rcases muA_at (gs := r) (vs := []) q hm with ⟨j, m', d', hj, hs'⟩ | ⟨_, v', d', f⟩
      · exact I.inj i j m m' a d a d' hs hs' (fun e => n'.1 (e ▸ hj)) rfl
      · exact f.2.2.2.1 i m a d hs rfl
    · exact ih
  | .gg i :: r, v :: vs, q, n, t => q.1.elim
  | .bg _ _ :: r, v :: vs, q, n, t => muA_nd I (gs := r) q.2 n t
  | .bg _ _ :: r, [], h, _, _ => h.elim
  | .bd _ _ :: r, v :: vs, q, n, t => muA_nd I (gs := r) q.2 n t
  | .bd _ _ :: r, [], h, _, _ => h.elim
  | .mg _ _ :: r, [], h, _, _ => h.elim
  | .ro _ :: r, v :: vs, q, n, t => muA_nd I (gs := r) q.2 n t
  | .bo _ :: r, v :: vs, q, n, t => muA_nd I (gs := r) q.2 n t
  | .tm a d :: r, v :: vs, q, n, t => by
    have t0 : tms r = 0 := by simp [tms] at t; omega
    have ih := muA_nd I (gs := r) q.2 n (by omega)
    refine List.nodup_cons.mpr ⟨fun hm => ?_, ih⟩
    rcases muA_at (gs := r) q.2 hm with ⟨j, m', d', hj, hs'⟩ | ⟨z, _⟩
    · exact q.1.2.2.2.1 j m' a d' hs' rfl
    · exact z t0
  | .mu i :: r, [], h, _, _ => h.elim
  | .ro i :: r, [], h, _, _ => h.elim
  | .bo i :: r, [], h, _, _ => h.elim
  | .tm i _ :: r, [], h, _, _ => h.elim
theorem boA_apart (I : SR Z ρ G σ H) {gs : List Ag} {vs : List V} (q : AgsX Z ρ G σ H vs gs) (n : (boIx gs ++ muIx gs).Nodup) {a : Addr} (h : a ∈ muA gs ρ) : a ∉ boA gs ρ := fun hb => by
  obtain ⟨i, m, d, hi, hs⟩ := boA_own hb
  rcases muA_at q h with ⟨j, m', d', hj, hs'⟩ | ⟨_, v, d', f⟩
  · exact I.inj i j m m' a d a d' hs hs' (fun e => (List.nodup_append.mp n).2.2 i hi j hj e) rfl
  · exact f.2.2.2.1 i m a d hs rfl
/-- the known part at a call -/
def cutG (B : List Addr) (G H : Hp) : Hp := fun a => if a ∈ B then H a else G a
theorem args_ok (I : SR Z ρ G σ H) {B : List Addr} (hB : ∀ a ∈ B, G a = none) : ∀ {gs : List Ag} {vs : List V} {k : List Arg → Prop}, AgsX Z ρ G σ H vs gs → (∀ a ∈ boA gs ρ, a ∈ B) → (∀ a ∈ muA gs ρ, a ∉ B) → (muA gs ρ).Nodup → argsK gs ρ k →
    ∃ args, ArgsOk Z.cc (cutG B G H) H vs args (muA gs ρ) ∧ k args := by
  have le : LE G (cutG B G H) := fun a o e => by
    unfold cutG
    rw [if_neg (fun h => by rw [hB a h] at e; cases e)]
    exact e
  intro gs
  induction gs with
  | nil => intro vs k q _ _ _ h; cases vs with
    | nil => exact ⟨[], trivial, h⟩
    | cons v vs => exact q.elim
  | cons g gs ih =>
    intro vs k q hb hm nd h
    cases vs with
    | nil =>
      cases g <;> try exact q.elim
      rename_i i
      unfold argsK at h
      cases hs : ρ[i]? with
      | none => simp only [hs] at h
      | some s =>
        simp only [hs] at h
        cases s with
        | no => exact h.elim
        | sh d => exact h.elim
        | own m a d =>
          obtain ⟨es, rt⟩ := I.slot i _ hs
          have em : muA (.gg i :: gs) ρ = a :: muA gs ρ := by simp only [muA, hs]
          rw [em] at hm nd ⊢
          obtain ⟨args, h1, h2⟩ := ih (vs := []) (k := fun as => k (.gh a d :: as)) q hb (fun b h => hm b (List.mem_cons_of_mem _ h)) (List.nodup_cons.mp nd).2 h
          refine ⟨.gh a d :: args, ⟨rfl, ?_, rt.mono le, (List.nodup_cons.mp nd).1, h1⟩, h2⟩
          unfold cutG
          rw [if_neg (hm a List.mem_cons_self)]
          exact I.out i m a d hs
    | cons v vs =>
      cases g with
      | ro d =>
        obtain ⟨args, h1, h2⟩ := ih (k := fun as => k (.ro d :: as)) q.2 hb hm nd h
        exact ⟨.ro d :: args, ⟨Rep.mono (d := d) le q.1, h1⟩, h2⟩
      | bo i =>
        unfold argsK at h
        cases hs : ρ[i]? with
        | none => simp only [hs] at h
        | some s =>
          simp only [hs] at h
          cases s with
          | no => exact h.elim
          | sh d => exact h.elim
          | own m a d =>
            obtain ⟨es, rt⟩ := I.slot i _ hs
            cases own_in (show σ[i]? = some (some v) from q.1) es
            have eb : boA (.bo i :: gs) ρ = a :: boA gs ρ := by simp only [boA, hs]
            have ha : a ∈ B := hb a (by rw [eb]; exact List.mem_cons_self)
            obtain ⟨args, h1, h2⟩ := ih (k := fun as => k (.ro d :: as)) q.2 (fun b h => hb b (by rw [eb]; exact List.mem_cons_of_mem _ h)) hm nd h
            refine ⟨.ro d :: args, ⟨?_, h1⟩, h2⟩
            have rt' := rt.mono le
            have e0 : cutG B G H a = H a := by unfold cutG; rw [if_pos ha]
            cases d <;> try exact rt'.elim
            · obtain ⟨vs, e, r⟩ := rt'; unfold Rep; exact ⟨a, vs, rfl, SqL.of (e0.trans e), r⟩
            · obtain ⟨dx, vs, e, l, r⟩ := rt'; unfold Rep; exact ⟨a, dx, vs, rfl, e0.trans e, l, r⟩
            · obtain ⟨vs, e, r⟩ := rt'; unfold Rep; exact ⟨a, vs, rfl, e.rd.heap fun o ho => e0.trans ho, r⟩
      | bg i b =>
        unfold argsK at h
        cases hs : ρ[i]? with
        | none => simp only [hs] at h
        | some s =>
          simp only [hs] at h
          cases s with
          | no => exact h.elim
          | sh d => exact h.elim
          | own m a d =>
            obtain ⟨es, rt⟩ := I.slot i _ hs
            obtain ⟨rfl, h⟩ := h
            have ev : v = .ref a := q.1
            subst ev
            have eb : boA (.bg i a :: gs) ρ = a :: boA gs ρ := by simp only [boA, hs]
            have ha : a ∈ B := hb a (by rw [eb]; exact List.mem_cons_self)
            obtain ⟨args, h1, h2⟩ := ih (k := fun as => k (.ro d :: as)) q.2 (fun b h => hb b (by rw [eb]; exact List.mem_cons_of_mem _ h)) hm nd h
            refine ⟨.ro d :: args, ⟨?_, h1⟩, h2⟩
            have rt' := rt.mono le
            have e0 : cutG B G H a = H a := by unfold cutG; rw [if_pos ha]
            cases d <;> try exact rt'.elim
            · obtain ⟨vs, e, r⟩ := rt'; unfold Rep; exact ⟨a, vs, rfl, SqL.of (e0.trans e), r⟩
            · obtain ⟨dx, vs, e, l, r⟩ := rt'; unfold Rep; exact ⟨a, dx, vs, rfl, e0.trans e, l, r⟩
            · obtain ⟨vs, e, r⟩ := rt'; unfold Rep; exact ⟨a, vs, rfl, e.rd.heap fun o ho => e0.trans ho, r⟩
      | mu i =>
        unfold argsK at h
        cases hs : ρ[i]? with
        | none => simp only [hs] at h
        | some s =>
          simp only [hs] at h
          cases s with
          | no => exact h.elim
          | sh d => exact h.elim
          | own m a d =>
            obtain ⟨es, rt⟩ := I.slot i _ hs
            cases own_in (show σ[i]? = some (some v) from q.1) es
            have em : muA (.mu i :: gs) ρ = a :: muA gs ρ := by simp only [muA, hs]
            rw [em] at hm nd ⊢
            obtain ⟨args, h1, h2⟩ := ih (k := fun as => k (.mu d :: as)) q.2 hb (fun b h => hm b (List.mem_cons_of_mem _ h)) (List.nodup_cons.mp nd).2 h
            refine ⟨.mu d :: args, ⟨rfl, ?_, rt.mono le, (List.nodup_cons.mp nd).1, h1⟩, h2⟩
            unfold cutG
            rw [if_neg (hm a List.mem_cons_self)]
            exact I.out i m a d hs
      | mg i b =>
        unfold argsK at h
        cases hs : ρ[i]? with
        | none => simp only [hs] at h
        | some s =>
          simp only [hs] at h
          cases s with
          | no => exact h.elim
          | sh d => exact h.elim
          | own m a d =>
            obtain ⟨es, rt⟩ := I.slot i _ hs
            obtain ⟨rfl, h⟩ := h
            have ev : v = .ref a := q.1
            subst ev
            have em : muA (.mg i a :: gs) ρ = a :: muA gs ρ := by simp only [muA, hs]
            rw [em] at hm nd ⊢
            obtain ⟨args, h1, h2⟩ := ih (k := fun as => k (.mu d :: as)) q.2 hb (fun b h => hm b (List.mem_cons_of_mem _ h)) (List.nodup_cons.mp nd).2 h
            refine ⟨.mu d :: args, ⟨rfl, ?_, rt.mono le, (List.nodup_cons.mp nd).1, h1⟩, h2⟩
            unfold cutG
            rw [if_neg (hm a List.mem_cons_self)]
            exact I.out i m a d hs
      | gg i => exact q.1.elim
      | bd js d =>
        obtain ⟨e, hr, h⟩ := h
        obtain ⟨args, h1, h2⟩ := ih (k := fun as => k (.ro e :: as)) q.2 (fun b h => hb b (List.mem_append_right _ h)) hm nd h
        have hL : ∀ a d, (a, d) ∈ pk ρ js → Root Z.cc G (cutG B G H) a d := fun a d hd => by
          obtain ⟨j, m, _, hs⟩ := pk_mem hd
          have ha : a ∈ B := hb a (List.mem_append_left _ (List.mem_map.mpr ⟨_, hd, rfl⟩))
          have e0 : cutG B G H a = H a := by unfold cutG; rw [if_pos ha]
          exact (I.slot j _ hs).2.heap fun o ho => e0.trans ho
        exact ⟨.ro e :: args, ⟨hr.sound le hL v q.1, h1⟩, h2⟩
      | tm a d =>
        obtain ⟨args, h1, h2⟩ := ih (k := fun as => k (.mu d :: as)) q.2 hb (fun b h => hm b (List.mem_cons_of_mem _ h)) (List.nodup_cons.mp nd).2 h
        refine ⟨.mu d :: args, ⟨q.1.1, ?_, q.1.2.1.mono le, (List.nodup_cons.mp nd).1, h1⟩, h2⟩
        unfold cutG
        rw [if_neg (hm a List.mem_cons_self)]
        exact q.1.2.2.1
theorem upE_len : ∀ {gs : List Ag} {ds : List D}, (upE gs ds ρ).length = ρ.length
  | [], _ => rfl
  | .mu _ :: r, d :: ds => by simp [upE, upE_len (gs := r)]
  | .mu _ :: _, [] => rfl
  | .tm _ _ :: r, _ :: ds => upE_len (gs := r)
  | .tm _ _ :: _, [] => rfl
  | .ro _ :: r, ds => upE_len (gs := r)
  | .bo _ :: r, ds => upE_len (gs := r)
  | .bg _ _ :: r, ds => upE_len (gs := r)
  | .bd _ _ :: r, ds => upE_len (gs := r)
  | .mg _ _ :: r, d :: ds => by simp [upE, upE_len (gs := r)]
  | .mg _ _ :: _, [] => rfl
  | .gg _ :: r, d :: ds => by simp [upE, upE_len (gs := r)]
  | .gg _ :: _, [] => rfl
theorem upE_get {G' H' : Hp} : ∀ {gs : List Ag} {vs : List V} {ds : List D} {j : Nat} {s : Sl}, AgsX Z ρ G σ H vs gs → (∀ i ∈ muIx gs, isOwn ρ i) → MusOk Z.cc G' H' (muA gs ρ) ds → (upE gs ds ρ)[j]? = some s →
    (ρ[j]? = some s ∧ j ∉ muIx gs) ∨ ∃ m a d d', ρ[j]? = some (.own m a d) ∧ s = .own m a d' ∧ a ∈ muA gs ρ ∧ Root Z.cc G' H' a d' ∧ G' a = none ∧ d' ∈ ds
  | [], _, _, j, s, _, _, _, h => .inl ⟨h, by simp [muIx]⟩
  | .ro _ :: r, v :: vs, ds, j, s, q, o, m, h => upE_get (gs := r) q.2 o m h
  | .bo _ :: r, v :: vs, ds, j, s, q, o, m, h => upE_get (gs := r) q.2 o m h
  | .tm a d :: r, v :: vs, e :: ds, j, s, q, o, m, h => by
    rcases upE_get (gs := r) q.2 o m.2.2 h with z | ⟨m1, a1, d1, d2, h1, h2, h3, h4, h5, h6⟩
    · exact .inl z
    · exact .inr ⟨m1, a1, d1, d2, h1, h2, List.mem_cons_of_mem _ h3, h4, h5, List.mem_cons_of_mem _ h6⟩
  | .tm a d :: r, v :: vs, [], j, s, q, o, m, h => m.elim
  | .mu i :: r, v :: vs, ds, j, s, q, o, m, h => by
    have oi := o i (by simp [muIx])
    unfold isOwn at oi
    cases hs : ρ[i]? with
    | none => simp only [hs] at oi
    | some t =>
      simp only [hs] at oi
      cases t with
      | no => exact oi.elim
      | sh d => exact oi.elim
      | own m1 a d =>
        have em : muA (.mu i :: r) ρ = a :: muA r ρ := by simp only [muA, hs]
        rw [em] at m ⊢
        cases ds with
        | nil => exact m.elim
        | cons e ds =>
          have h : ((upE r ds ρ).set i (reown ρ i e))[j]? = some s := h
          have er : reown ρ i e = .own m1 a e := by simp only [reown, hs]
          rw [er] at h
          rcases get_set h with ⟨rfl, rfl⟩ | ⟨hj, h⟩
          · exact .inr ⟨m1, a, d, e, hs, rfl, List.mem_cons_self, m.1, m.2.1, List.mem_cons_self⟩
          · rcases upE_get (gs := r) q.2 (fun k hk => o k (by simp [muIx, hk])) m.2.2 h with ⟨z1, z2⟩ | ⟨m1, a1, d1, d2, h1, h2, h3, h4, h5, h6⟩
            · exact .inl ⟨z1, by simp [muIx, hj, z2]⟩
            · exact .inr ⟨m1, a1, d1, d2, h1, h2, List.mem_cons_of_mem _ h3, h4, h5, List.mem_cons_of_mem _ h6⟩
  | .mg i b :: r, v :: vs, ds, j, s, q, o, m, h => by
    have oi := o i (by simp [muIx])
    unfold isOwn at oi
    cases hs : ρ[i]? with
    | none => simp only [hs] at oi
    | some t =>
      simp only [hs] at oi
      cases t with
      | no => exact oi.elim
      | sh d => exact oi.elim
      | own m1 a d =>
        have em : muA (.mg i b :: r) ρ = a :: muA r ρ := by simp only [muA, hs]
        rw [em] at m ⊢
        cases ds with
        | nil => exact m.elim
        | cons e ds =>
          have h : ((upE r ds ρ).set i (reown ρ i e))[j]? = some s := h
          have er : reown ρ i e = .own m1 a e := by simp only [reown, hs]
          rw [er] at h
          rcases get_set h with ⟨rfl, rfl⟩ | ⟨hj, h⟩
          · exact .inr ⟨m1, a, d, e, hs, rfl, List.mem_cons_self, m.1, m.2.1, List.mem_cons_self⟩
          · rcases upE_get (gs := r) q.2 (fun k hk => o k (by simp [muIx, hk])) m.2.2 h with ⟨z1, z2⟩ | ⟨m1, a1, d1, d2, h1, h2, h3, h4, h5, h6⟩
            · exact .inl ⟨z1, by simp [muIx, hj, z2]⟩
            · exact .inr ⟨m1, a1, d1, d2, h1, h2, List.mem_cons_of_mem _ h3, h4, h5, List.mem_cons_of_mem _ h6⟩
  | .gg i :: r, [], ds, j, s, q, o, m, h => by
    have oi := o i (by simp [muIx])
    unfold isOwn at oi
    cases hs : ρ[i]? with
    | none => simp only [hs] at oi
    | some t =>
      simp only [hs] at oi
      cases t with
      | no => exact oi.elim
      | sh d => exact oi.elim
      | own m1 a d =>
        have em : muA (.gg i :: r) ρ = a :: muA r ρ := by simp only [muA, hs]
        rw [em] at m ⊢
        cases ds with
        | nil => exact m.elim
        | cons e ds =>
          have h : ((upE r ds ρ).set i (reown ρ i e))[j]? = some s := h
          have er : reown ρ i e = .own m1 a e := by simp only [reown, hs]
          rw [er] at h
          rcases get_set h with ⟨rfl, rfl⟩ | ⟨hj, h⟩
          · exact .inr ⟨m1, a, d, e, hs, rfl, List.mem_cons_self, m.1, m.2.1, List.mem_cons_self⟩
          · rcases upE_get (gs := r) (vs := []) q (fun k hk => o k (by simp [muIx, hk])) m.2.2 h with ⟨z1, z2⟩ | ⟨m1, a1, d1, d2, h1, h2, h3, h4, h5, h6⟩
            · exact .inl ⟨z1, by simp [muIx, hj, z2]⟩
            · exact .inr ⟨m1, a1, d1, d2, h1, h2, List.mem_cons_of_mem _ h3, h4, h5, List.mem_cons_of_mem _ h6⟩
  | .gg i :: r, v :: vs, _, _, _, h, _, _, _ => h.1.elim
  | .bg _ _ :: r, v :: vs, ds, j, s, q, o, m, h => upE_get (gs := r) q.2 o m h
  | .bg _ _ :: r, [], _, _, _, h, _, _, _ => h.elim
  | .bd _ _ :: r, v :: vs, ds, j, s, q, o, m, h => upE_get (gs := r) q.2 o m h
  | .bd _ _ :: r, [], _, _, _, h, _, _, _ => h.elim
  | .mg _ _ :: r, [], _, _, _, h, _, _, _ => h.elim
  | .mu i :: r, [], _, _, _, h, _, _, _ => h.elim
  | .ro i :: r, [], _, _, _, h, _, _, _ => h.elim
  | .bo i :: r, [], _, _, _, h, _, _, _ => h.elim
  | .tm i _ :: r, [], _, _, _, h, _, _, _ => h.elim
theorem argsK_own : ∀ {gs : List Ag} {k : List Arg → Prop}, argsK gs ρ k → ∀ i ∈ muIx gs, isOwn ρ i
  | [], _, _, i, h => by simp [muIx] at h
  | .ro _ :: r, k, h, i, hi => argsK_own (gs := r) h i hi
  | .tm _ _ :: r, k, h, i, hi => argsK_own (gs := r) h i hi
  | .bo j :: r, k, h, i, hi => by
    unfold argsK at h
    split at h
    · exact argsK_own (gs := r) h i hi
    · exact h.elim
  | .mu j :: r, k, h, i, hi => by
    unfold argsK at h
    split at h
    · rename_i m a d hs
      rcases List.mem_cons.mp hi with rfl | hi
      · unfold isOwn; rw [hs]; trivial
      · exact argsK_own (gs := r) h i hi
    · exact h.elim
  | .bd js d :: r, k, h, i, hi => by
    obtain ⟨e, _, h⟩ := h
    exact argsK_own (gs := r) h i hi
  | .bg j b :: r, k, h, i, hi => by
    unfold argsK at h
    split at h
    · exact argsK_own (gs := r) h.2 i hi
    · exact h.elim
  | .mg j b :: r, k, h, i, hi => by
    unfold argsK at h
    split at h
    · rename_i m a d hs
      rcases List.mem_cons.mp hi with rfl | hi
      · unfold isOwn; rw [hs]; trivial
      · exact argsK_own (gs := r) h.2 i hi
    · exact h.elim
  | .gg j :: r, k, h, i, hi => by
    unfold argsK at h
    split at h
    · rename_i m a d hs
      rcases List.mem_cons.mp hi with rfl | hi
      · unfold isOwn; rw [hs]; trivial
      · exact argsK_own (gs := r) h i hi
    · exact h.elim
theorem noLstAll_mem : ∀ {ds : List D} {d : D}, noLstAll ds = true → d ∈ ds → chFlat d = true
  | e :: ds, d, h, hm => by
    unfold noLstAll at h
    rw [Bool.and_eq_true] at h
    rcases List.mem_cons.mp hm with rfl | hm
    · exact h.1
    · exact noLstAll_mem h.2 hm

/-- behind a call -/
theorem sr_after (I : SR Z ρ G σ H) {gs : List Ag} {vs : List V} {ds : List D} {o : Ro} {v : V} {G' H' : Hp} (q : AgsX Z ρ G σ H vs gs) (nd : (boIx gs ++ muIx gs).Nodup) (own : ∀ i ∈ muIx gs, isOwn ρ i)
    (le : LE (cutG (boA gs ρ) G H) G') (sub : LE G' H') (fr : ∀ a u, H a = some u → a ∉ muA gs ρ → H' a = some u) (gn : ∀ a, G' a ≠ none → cutG (boA gs ρ) G H a ≠ none ∨ H a = none) (mo : MusOk Z.cc G' H' (muA gs ρ) ds) (ro : ResOk Z.cc G' H H' v o)
    (bk : hasBo gs = true → flatRo o = true ∧ noLstAll ds = true) : ∃ G2, LE G G2 ∧ SR Z (upE gs ds ρ) G2 σ H' ∧ (match o with | .sh d => RvOk Z (.sh d) (upE gs ds ρ) G2 σ H' v | .fr d => ∃ a, RvOk Z (.fr a d) (upE gs ds ρ) G2 σ H' v | .gx as cs t => as.Nodup ∧ (∀ a ∈ as, a ∉ owns (upE gs ds ρ)) ∧ SR Z (upE gs ds ρ ++ ghs as cs) G2 σ H' ∧ RvOk Z (.sh t) (upE gs ds ρ ++ ghs as cs) G2 σ H' v) ∧
      (∀ a d, Root Z.cc G' H' a d → chFlat d = true ∨ hasBo gs = false → Root Z.cc G2 H' a d) ∧ (∀ a, G a = none → H a ≠ none → G2 a = none) := by
  have hB : ∀ a ∈ boA gs ρ, G a = none := fun a ha => by
    obtain ⟨i, m, d, _, hs⟩ := boA_own ha
    exact I.out i m a d hs
  have hBr : ∀ a ∈ boA gs ρ, ∃ u, H a = some u ∧ Mut (some u) ∧ a ∉ muA gs ρ := fun a ha => by
    obtain ⟨i, m, d, _, hs⟩ := boA_own ha
    obtain ⟨u, e, mt⟩ := (I.own_ob hs).ob
    exact ⟨u, e, mt, fun h => boA_apart I q nd h ha⟩
  -- the known part, without the roots that were lent
  obtain ⟨G2, hG2⟩ : ∃ G2 : Hp, G2 = fun a => if a ∈ boA gs ρ then none else G' a := ⟨_, rfl⟩
  have g2in : ∀ a ∈ boA gs ρ, G2 a = none := fun a ha => by rw [hG2]; show (if a ∈ boA gs ρ then none else G' a) = none; rw [if_pos ha]
  have g2out : ∀ a, a ∉ boA gs ρ → G2 a = G' a := fun a ha => by rw [hG2]; show (if a ∈ boA gs ρ then none else G' a) = _; rw [if_neg ha]
  have leG : LE G G' := fun a u e => le a u (by unfold cutG; rw [if_neg (fun h => by rw [hB a h] at e; cases e)]; exact e)
  have le2 : LE G G2 := fun a u e => by
    rw [g2out a (fun h => by rw [hB a h] at e; cases e)]
    exact leG a u e
  have tups : ∀ a us, G' a = some (.tup us) → G2 a = some (.tup us) := fun a us e => by
    rw [g2out a ?_]
    · exact e
    · intro h
      obtain ⟨u, eu, mt, nm⟩ := hBr a h
      have := fr a u eu nm
      rw [sub a _ e] at this
      cases this
      exact mt
  have strip : ∀ {a : Addr} {d : D}, (hasBo gs = true → chFlat d = true) → Root Z.cc G' H' a d → Root Z.cc G2 H' a d := fun {a d} hf r => by
    by_cases hb : hasBo gs = true
    · exact r.strip tups (hf hb)
    · have e : boA gs ρ = [] := hasBo_nil (by simpa using hb)
      have : G2 = G' := by funext a; exact g2out a (by rw [e]; simp)
      rw [this]; exact r
  have stripR : ∀ {v : V} {d : D}, (hasBo gs = true → noLst d = true) → Rep Z.cc G' v d → Rep Z.cc G2 v d := fun {v d} hf r => by
    by_cases hb : hasBo gs = true
    · exact r.strip tups (hf hb)
    · have e : boA gs ρ = [] := hasBo_nil (by simpa using hb)
      have : G2 = G' := by funext a; exact g2out a (by rw [e]; simp)
      rw [this]; exact r
  have muOwn : ∀ a ∈ muA gs ρ, (a ∈ Z.mu ∨ Z.H0 a = none) := fun a ha => by
    rcases muA_at q ha with ⟨i, m, d, _, hs⟩ | ⟨_, w, d, f⟩
    · have := I.frs i m a d hs
      cases m with
      | true => exact .inl this
      | false => exact .inr this.1
    · exact .inr f.2.2.2.2.1
  have g2n : ∀ a, G a = none → H a ≠ none → G2 a = none := fun a h1 h2 => by
    by_cases hb : a ∈ boA gs ρ
    · exact g2in a hb
    · rw [g2out a hb]
      cases e : G' a with
      | none => rfl
      | some u =>
        rcases gn a (by rw [e]; simp) with z | z
        · unfold cutG at z; rw [if_neg hb] at z; exact absurd h1 z
        · exact absurd z h2
  have J : SR Z (upE gs ds ρ) G2 σ H' := by
    refine ⟨by rw [upE_len]; exact I.len, fun a u e => ?_, fun j s e => ?_, fun i j p r a d b x e1 e2 hn => ?_, fun j m a d e => ?_, fun a u e hn => ?_, fun j m a d e => ?_, fun a ha => ?_, fun a u e => le2 _ _ (I.g0 a u e), fun a ha => ?_, fun a ha => ?_⟩
    · by_cases hb : a ∈ boA gs ρ
      · rw [g2in a hb] at e; cases e
      · rw [g2out a hb] at e; exact sub a u e
    · rcases upE_get q own mo e with ⟨e, hj⟩ | ⟨m, a, d, d', h1, rfl, h3, h4, h5, h6⟩
      · have so := I.slot j s e
        cases s with
        | no => trivial
        | sh d => obtain ⟨u, eu, r⟩ := so; exact ⟨u, eu, r.mono le2⟩
        | own m a d =>
          refine ⟨so.1, (so.2.mono le2).heap fun u hu => fr a u hu fun hm => ?_⟩
          rcases muA_at q hm with ⟨i, m', d', hi, hs⟩ | ⟨_, w, d', f⟩
          · exact I.inj j i m m' a d a d' e hs (fun z => hj (z ▸ hi)) rfl
          · exact f.2.2.2.1 j m a d e rfl
      · exact ⟨(I.slot j _ h1).1, strip (fun hb => noLstAll_mem (bk hb).2 h6) h4⟩
    · have f : ∀ {i : Nat} {p : Bool} {a : Addr} {d : D}, (upE gs ds ρ)[i]? = some (.own p a d) → ∃ d0, ρ[i]? = some (.own p a d0) := fun {i p a d} e => by
        rcases upE_get q own mo e with ⟨e, _⟩ | ⟨m, a, d0, d', h1, h2, _⟩
        · exact ⟨_, e⟩
        · cases h2; exact ⟨_, h1⟩
      obtain ⟨_, e1⟩ := f e1
      obtain ⟨_, e2⟩ := f e2
      exact I.inj i j p r a _ b _ e1 e2 hn
    · have : ∃ d0, ρ[j]? = some (.own m a d0) := by
        rcases upE_get q own mo e with ⟨e, _⟩ | ⟨m, a, d0, d', h1, h2, _⟩
        · exact ⟨_, e⟩
        · cases h2; exact ⟨_, h1⟩
      obtain ⟨_, e⟩ := this
      obtain ⟨u, eu, _⟩ := (I.own_ob e).ob
      exact g2n a (I.out j m a _ e) (by rw [eu]; simp)
    · have h1 := I.ent a u e hn
      refine fr a u h1 fun hm => ?_
      rcases muOwn a hm with z | z
      · exact hn z
      · rw [z] at e; cases e
    · have : ∃ d0, ρ[j]? = some (.own m a d0) := by
        rcases upE_get q own mo e with ⟨e, _⟩ | ⟨m, a, d0, d', h1, h2, _⟩
        · exact ⟨_, e⟩
        · cases h2; exact ⟨_, h1⟩
      obtain ⟨_, e⟩ := this
      exact I.frs j m a _ e
    · have hb : a ∉ boA gs ρ := fun h => ha (g2in a h)
      rw [g2out a hb] at ha
      rcases gn a ha with z | z
      · unfold cutG at z; rw [if_neg hb] at z; exact I.gnew a z
      · exact .inr (I.h0 z).1
    · exact g2n a (I.mout a ha) (I.mux a ha)
    · by_cases hm : a ∈ muA gs ρ
      · -- a root that was changed still stands
        have ex : ∀ {mus : List Addr} {ds : List D}, MusOk Z.cc G' H' mus ds → a ∈ mus → H' a ≠ none := by
          intro mus
          induction mus with
          | nil => intro _ _ h; simp at h
          | cons b mus ih =>
            intro ds h hm
            cases ds with
            | nil => exact h.elim
            | cons d ds =>
              rcases List.mem_cons.mp hm with rfl | hm
              · obtain ⟨u, eu, _⟩ := h.1.ob
                rw [eu]; simp
              · exact ih h.2.2 hm
        exact ex mo hm
      · cases e : H a with
        | none => exact absurd e (I.mux a ha)
        | some u => rw [fr a u e hm]; simp
  refine ⟨G2, le2, J, ?_, fun a d r hf => strip (fun hb => hf.resolve_right (by rw [hb]; simp)) r, g2n⟩
  cases o with
  | sh d => exact stripR (fun hb => (bk hb).1) ro
  | fr d =>
    obtain ⟨a, rfl, rt, ga, ha⟩ := ro
    have hz := I.h0 ha
    refine ⟨a, rfl, strip (fun hb => (bk hb).1) rt, ?_, fun i m b e h => ?_, hz.1, hz.2⟩
    · by_cases hb : a ∈ boA gs ρ
      · exact g2in a hb
      · rw [g2out a hb]; exact ga
    · rcases upE_get q own mo h with ⟨h, _⟩ | ⟨m, a', d0, d', h1, h2, _⟩
      · exact I.own_ne h ha
      · cases h2; exact I.own_ne h1 ha
  | gx as cs t =>
    obtain ⟨h2, h3, h4, h5⟩ := ro
    have nb : hasBo gs = false := by
      cases e : hasBo gs with
      | false => rfl
      | true => have := (bk e).1; cases this
    have e : boA gs ρ = [] := hasBo_nil nb
    have eG : G2 = G' := by funext a; exact g2out a (by rw [e]; simp)
    have ap : ∀ (i : Nat) (a : Addr) (d : D), as[i]? = some a → cs[i]? = some d → ∀ (j : Nat) (m : Bool) (b : Addr) (e : D), (upE gs ds ρ)[j]? = some (.own m b e) → b ≠ a := fun i a d e1 e2 j m b e h => by
      have r3 := (h5 i a d e1 e2).2.2
      rcases upE_get q own mo h with ⟨h, _⟩ | ⟨m, a', d0, d', h1, h2, _⟩
      · exact I.own_ne h r3
      · cases h2; exact I.own_ne h1 r3
    refine ⟨h2, fun a ha ho => ?_, J.addGs h2 fun i a d e1 e2 => ?_, by rw [eG]; exact h4⟩
    · obtain ⟨i, hi⟩ := List.getElem?_of_mem ha
      obtain ⟨j, m, d, hj⟩ := owns_mem.mp ho
      have hl : i < cs.length := by rw [← h3]; exact (List.getElem?_eq_some_iff.mp hi).1
      exact ap i a _ hi (List.getElem?_eq_getElem hl) j m a d hj rfl
    · obtain ⟨r1, r2, r3⟩ := h5 i a d e1 e2
      have hz := I.h0 r3
      exact ⟨by rw [eG]; exact r1, by rw [eG]; exact r2, ap i a d e1 e2, hz.1, hz.2⟩
end
section
variable {X : Cx} {Z : Zone} {C : Ccs} {k : Nat} {f : Addr} {fd : FuncData} {ps : List Str} {sp : FSpec} {aw : AgW} {x : Str} {p pos : Pos} {e : Expr} {es : List Expr}
/-- from a call's word to the promise below -/
theorem call_lsp {np : Nat} {σ : L2.St} {H : Hp} {Q : VK} {ρ : REnv} {G : Hp} {K : Rv → REnv → Prop} {gs : List Ag} {vs : List V} {E : XK} (hcc : Z.cc = C.cc) (hz : Z.xk = xk0) (hl : vs.length = np) (I : SR Z ρ G σ H) (q : AgsX Z ρ G σ H vs gs) (h : callK sp gs ρ Z.xk K)
    (fin : ∀ r ρ' v H' G', LE G G' → SR Z ρ' G' σ H' → RvOk Z r ρ' G' σ H' v → K r ρ' → Q v H') : LSp0 C sp np vs H Q E := by
  rw [hz] at h
  obtain ⟨nd, tm, h⟩ := h
  have own := argsK_own h
  have hB : ∀ a ∈ boA gs ρ, G a = none := fun a ha => by
    obtain ⟨i, m, d, _, hs⟩ := boA_own ha
    exact I.out i m a d hs
  obtain ⟨args, ao, hs⟩ := args_ok I hB q (fun _ h => h) (fun a h => boA_apart I q nd h) (muA_nd I q (List.nodup_append.mp nd).2.1 tm) h
  refine ⟨hl, args, cutG (boA gs ρ) G H, muA gs ρ, _, fun a u e => ?_, by rw [← hcc]; exact ao, hs, fun o ds v H' G' le sub fr gn mo ro hk => ?_⟩
  · unfold cutG at e
    split at e
    · exact e
    · exact I.sub a u e
  · rw [← hcc] at mo ro
    obtain ⟨G2, le2, J, hr, _, _⟩ := sr_after I q nd own le sub fr gn mo ro hk.1
    cases o with
    | sh d => exact fin (.sh d) _ v H' G2 le2 J hr hk.2
    | fr d => obtain ⟨a, hr⟩ := hr; exact fin (.fr a d) _ v H' G2 le2 J hr (hk.2 a)
    | gx as cs t => obtain ⟨h1, h2, h3, h4⟩ := hr; exact fin (.sh t) _ v H' G2 le2 h3 h4 (hk.2 h1 h2)
theorem AgsOk.len {ρ : REnv} {G H : Hp} {σ : L2.St} : ∀ {vs : List V} {gs : List Ag}, AgsOk Z ρ G σ H vs gs → vs.length = gs.length
  | [], [], _ => rfl
  | v :: vs, g :: gs, h => by simp [AgsOk.len h.2]
  | [], _ :: _, h => h.elim
  | _ :: _, [], h => h.elim
/-- f(e, ..) -/
def eCall (np : Nat) (sp : FSpec) (aw : AgW) : EW := fun xk ρ K => aw xk ρ fun gs ρ1 => gs.length = np ∧ callK sp gs ρ1 xk K
theorem via_call {E : XK} {np : Nat} (hcc : Z.cc = C.cc) (hz : Z.xk = xk0) : Via Z (tCall (LSp0 C sp np) [] E (Tag Z aw)) (eCall np sp aw) := fun σ H Q ⟨ρ, G, K, IR, hw, q⟩ =>
  ⟨ρ, G, _, IR, hw, fun gs ρ' vs H' G' le I' qs k => by
    show LSp0 C sp np (vs ++ []) H' Q E
    rw [List.append_nil]
    exact call_lsp hcc hz (by rw [qs.len]; exact k.1) I' qs.x0 k.2 fun r ρ2 v H2 G2 le2 I2 q2 k2 => q r ρ2 v H2 G2 (le.trans le2) I2 q2 k2⟩
theorem de_call (hcc : Z.cc = C.cc) (hz : Z.xk = xk0) (F : FnOk X.prog X.w X.K X.mg X.base CX0 k f fd ps (LSp0 C sp ps.length)) (hr : Room k X.A) (hm : X.mg x = some (.ref f)) (hk : PySem.W.keepIn X.K (.ref f) = true) (hb : Binds X.K fd ps [])
    (ha : PA X (e :: es) (Tag Z aw)) (hg : Gl X x := by rfl) (hdb : (x == ("__debug__" : Str)) = false := by decide) (he : starEach (e :: es) X.env = (false, eval e X.env) :: starEach es X.env := by rfl) (hpl : (backTo pos (starEach es X.env)).any (·.1) = false := by rfl) :
    PE X (.Call (.Name x p) (e :: es) [] pos) (T Z (eCall ps.length sp aw)) := pvia (pe_call F hr hg hm hk hb .nil pass0 ha hdb he hpl) (via_call hcc hz)
end
end TL

namespace TL
open PySem PySem.Spec L2

section
variable {cc : CC}
theorem Reps.atI {G : Hp} {vs : List V} {ds : List D} {i : Int} {d : D} (r : Reps cc G vs ds) (h : L2.atI ds i = some d) : ∃ v, L2.atI vs i = some v ∧ Rep cc G v d := by
  unfold L2.atI at h ⊢
  rw [r.length]
  cases e : ixN ds.length i with
  | none => rw [e] at h; cases h
  | some j =>
    rw [e] at h
    exact r.get h
def opIx : D → D → OW
  | .lst ds, .int i => fun k => ∃ d, L2.atI ds i = some d ∧ k (.sh d)
  | .tup ds, .int i => fun k => ∃ d, L2.atI ds i = some d ∧ k (.sh d)
  | .str z, .int i => fun k => z.length ≤ sizeLine ∧ ∃ c, L2.atI z.cps.toList i = some c ∧ k (.sh (.str ⟨#[c]⟩))
  | _, _ => fun _ => False
theorem ops_ix {K : PySem.W.Frag} (hK : cc.K = K) : OpS cc opIx (rIx K) := by
  subst hK
  intro G H x y d e k Q le v1 v2 _ _ ho fin
  unfold opIx at ho
  split at ho
  · obtain ⟨a, vs, ea, ra, qa⟩ := v1
    obtain ⟨d, hd, hk⟩ := ho
    obtain ⟨v, hv, rv⟩ := qa.atI hd
    exact .inl ⟨a, vs, _, v, ea, v2, ra, hv, (fin _ hk).1 _ rv⟩
  · obtain ⟨a, vs, ea, ra, qa⟩ := v1
    obtain ⟨d, hd, hk⟩ := ho
    obtain ⟨v, hv, rv⟩ := qa.atI hd
    exact .inr (.inl ⟨a, vs, _, v, ea, v2, SqT.of ra, hv, (fin _ hk).1 _ rv⟩)
  · obtain ⟨hl, c, hc, hk⟩ := ho
    exact .inr (.inr ⟨_, _, c, v1, v2, hl, hc, (fin _ hk).1 _ rep_str⟩)
  · exact ho.elim
end
section
variable {X : Cx} {Z : Zone} {a b e : Expr} {wa wb w : EW} {pos : Pos}
theorem de_ix (hK : Z.cc.K = X.K) (ha : PE X a (T Z wa)) (hb : PE X b (T Z wb)) (hs : PlainIx b := by intro _ _; rfl) : PE X (.Subscript a b pos) (T Z (eBin opIx wa wb)) := pvia (pe_ix ix_seq ha hb hs) (via_bin (ops_ix hK))

/-! ### slices -/
abbrev PWt := Xk → REnv → (Option Int → REnv → Prop) → Prop
def pNone : PWt := fun _ ρ K => K none ρ
def pSome (w : EW) : PWt := fun xk ρ K => w xk ρ fun r ρ1 => match r.get ρ1 with | .int i => K (some i) ρ1 | _ => False
def Tp (Z : Zone) (w : PWt) : TO := fun σ H Q => ∃ ρ G K, SR Z ρ G σ H ∧ w Z.xk ρ K ∧ ∀ o ρ' H' G', LE G G' → SR Z ρ' G' σ H' → K o ρ' → Q o H'
theorem dp_none : PO X none (Tp Z pNone) := ⟨fun pins s σ H Q I ⟨ρ, G, K, IR, hw, q⟩ => po_none.run pins s σ H Q I (q none ρ H G (LE.refl G) IR hw)⟩
theorem dp_some (h : PE X e (T Z w)) : PO X (some e) (Tp Z (pSome w)) := ⟨fun pins s σ H Q I ⟨ρ, G, K, IR, hw, q⟩ => (po_some h).run pins s σ H Q I ⟨ρ, G, _, IR, hw, fun r ρ' v H' G' le I' qr k => by
  have vw := qr.view I'
  split at k
  · rename_i i hd
    rw [hd] at vw
    exact ⟨i, vw, q (some i) ρ' H' G' le I' k⟩
  · exact k.elim⟩⟩
def cutL {α : Type} (xs : List α) (lo hi : Option Int) : List α := (xs.drop (HT.sIx xs.length 0 lo)).take (HT.sIx xs.length xs.length hi - HT.sIx xs.length 0 lo)
theorem Reps.cut {cc : CC} {G : Hp} {vs : List V} {ds : List D} (r : Reps cc G vs ds) (lo hi : Option Int) : Reps cc G (cutV vs lo hi) (cutL ds lo hi) := by
  unfold cutV cutL
  rw [r.length]
  exact (r.drop _).take _
def opSl (lo hi : Option Int) : D → OW
  | .lst ds => fun k => k (.fr (.lst (cutL ds lo hi)))
  | _ => fun _ => False
def eSl (wa : EW) (pl ph : PWt) : EW := fun xk ρ K => wa xk ρ fun r ρ1 => pl xk ρ1 fun l ρ2 => ph xk ρ2 fun h ρ3 => pok r ρ3 ∧ opSl l h (r.get ρ3) fun o => out o ρ3 K
theorem pend_mono {r : Rv} {ρ ρ' : REnv} {G G' H H' : Hp} {σ : L2.St} {v : V} (le : LE G G') (q : RvOk Z r.pend ρ G σ H v) (pk : pok r ρ') : RvOk Z r.pend ρ' G' σ H' v := by
  cases r with
  | loc i => exact ⟨q.1, pk⟩
  | sh d => exact Rep.mono (d := d) le q
  | fr a d => exact Rep.mono (d := d) le q
  | gh j a => exact ⟨q.1, pk⟩
  | gx as cs t => exact Rep.mono (d := t) le q
theorem de_slice {lo hi : Option Expr} {pl ph : PWt} {p2 : Pos} (hK : Z.cc.K = X.K) (he : PE X e (T Z wa)) (hl : PO X lo (Tp Z pl)) (hu : PO X hi (Tp Z ph)) : PE X (.Subscript e (.Slice lo hi none p2) pos) (T Z (eSl wa pl ph)) :=
  ⟨fun pins s σ H Q I ⟨ρ, G, K, IR, hw, q⟩ => (pe_slice sl_list he hl hu).run pins s σ H Q I ⟨ρ, G, _, IR, hw, fun r ρ1 x H1 G1 le1 I1 q1 k1 => by
    obtain ⟨G1', le, I1', q1'⟩ := I1.freeze q1
    refine ⟨ρ1, G1', _, I1', k1, fun l ρ2 H2 G2 le2 I2 k2 => ⟨ρ2, G2, _, I2, k2, fun h ρ3 H3 G3 le3 I3 k3 => ?_⟩⟩
    have qf := pend_mono (H' := H3) (le2.trans le3) q1' k3.1
    have vw := qf.view I3
    rw [Rv.get_pend] at vw
    have k4 := k3.2
    cases hd : r.get ρ3 <;> rw [hd] at k4 vw <;> try exact (k4 : False).elim
    rename_i ds
    obtain ⟨a, vs, ea, ra, rs⟩ := vw
    refine ⟨a, vs, ea, by rw [← hK]; exact ra, fun p hp => ?_⟩
    exact (T.fin (o := .fr (.lst (cutL ds l h))) I3 (((le1.trans le).trans le2).trans le3) k4 q) p _ hp ⟨_, upd_same, rs.cut l h⟩⟩⟩
def opRev : D → OW
  | .lst ds => fun k => k (.fr (.lst ds.reverse))
  | _ => fun _ => False
theorem de_rev {k : Nat} {p1 p2 p3 : Pos} (hK : Z.cc.K = X.K) (he : PE X e (T Z w)) : PE X (.Subscript e (.Slice none none (some (.UnaryOp .USub (.Constant (.int 1) k p1) p2)) p3) pos) (T Z (eUn opRev w)) :=
  pvia (pe_revL he) (via_un (r := fun x H Q => ∃ a xs, x = .ref a ∧ SqL X.K H a xs ∧ ∀ p, H p = none → Q (.ref p) (upd H p (.lst xs.reverse))) fun G H x d k Q le v _ ho fin => by
    unfold opRev at ho
    split at ho
    · obtain ⟨a, vs, ea, ra, rs⟩ := v
      exact ⟨a, vs, ea, by rw [← hK]; exact ra, fun p hp => (fin _ ho) p _ hp ⟨_, upd_same, rs.reverse⟩⟩
    · exact ho.elim)

/-! ### built-in functions -/
variable {x : Str} {p : Pos} {id TT : String} {r : List V → Hp → VK → Prop}
theorem via_c1 {op : D → OW} (hs : OpS1 Z.cc op fun v H Q => r [v] H Q) : Via Z (tCB r (tCons (T Z w) tNil)) (eUn op w) := via_un hs
theorem de_b1 {op : D → OW} (hc : CallR X (.builtin id) r) (hs : OpS1 Z.cc op fun v H Q => r [v] H Q) (hm : X.mg x = none) (ha : PE X e (T Z w)) (hv : bootBuiltins x = some (.builtin id) := by decide +kernel) (hg : Gl X x := by rfl) (hn : x ≠ "__name__" := by decide) (hdb : (x == ("__debug__" : Str)) = false := by decide)
    (hst : starEach [e] X.env = (false, eval e X.env) :: starEach [] X.env := by rfl) (hpl : (backTo pos (starEach [] X.env)).any (·.1) = false := by rfl) : PE X (.Call (.Name x p) [e] [] pos) (T Z (eUn op w)) :=
  pvia (pe_callB hc hg hm hv (pa_cons ha pa_nil hst) hn hdb hst hpl) (via_c1 hs)
theorem de_t1 {op : D → OW} (hc : CallR X (.type TT) r) (hs : OpS1 Z.cc op fun v H Q => r [v] H Q) (hm : X.mg x = none) (ha : PE X e (T Z w)) (hv : bootBuiltins x = some (.type TT) := by decide +kernel) (hg : Gl X x := by rfl) (hn : x ≠ "__name__" := by decide) (hdb : (x == ("__debug__" : Str)) = false := by decide)
    (hst : starEach [e] X.env = (false, eval e X.env) :: starEach [] X.env := by rfl) (hpl : (backTo pos (starEach [] X.env)).any (·.1) = false := by rfl) : PE X (.Call (.Name x p) [e] [] pos) (T Z (eUn op w)) :=
  pvia (pe_callTy hc hg hm hv (pa_cons ha pa_nil hst) hn hdb hst hpl) (via_c1 hs)
end
section
variable {cc : CC} {X : Cx}
def opAbs : D → OW
  | .int i => fun k => k (.sh (.int (if i < 0 then -i else i)))
  | _ => fun _ => False
theorem ops_abs : OpS1 cc opAbs fun v H Q => (fun xs H Q => ∃ i, xs = [V.int i] ∧ Q (.int (if i < 0 then -i else i)) H) [v] H Q := by
  intro G H x d k Q le v _ ho fin
  unfold opAbs at ho
  split at ho
  · exact ⟨_, by rw [show x = _ from v], (fin _ ho).1 _ rep_int⟩
  · exact ho.elim
def opInt : D → OW
  | .int i => fun k => k (.sh (.int i))
  | .bl b => fun k => k (.sh (.int (if b then 1 else 0)))
  | _ => fun _ => False
theorem ops_int1 : OpS1 cc opInt fun v H Q => (fun xs H Q => (∃ i, xs = [V.int i] ∧ Q (.int i) H) ∨ ∃ k, xs = [.bl k] ∧ Q (.int (if k then 1 else 0)) H) [v] H Q := by
  intro G H x d k Q le v _ ho fin
  unfold opInt at ho
  split at ho
  · exact .inl ⟨_, by rw [show x = _ from v], (fin _ ho).1 _ rep_int⟩
  · exact .inr ⟨_, by rw [show x = _ from v], (fin _ ho).1 _ rep_int⟩
  · exact ho.elim
def opMax2 : D → D → OW
  | .int i, .int j => fun k => k (.sh (.int (if j > i then j else i)))
  | _, _ => fun _ => False
def opMin2 : D → D → OW
  | .int i, .int j => fun k => k (.sh (.int (if j < i then j else i)))
  | _, _ => fun _ => False
def opLen : D → OW
  | .lst ds => fun k => k (.sh (.int ds.length))
  | .tup ds => fun k => k (.sh (.int ds.length))
  | .str z => fun k => z.length ≤ sizeLine ∧ k (.sh (.int z.length))
  | _ => fun _ => False
abbrev rLen (K : PySem.W.Frag) : List V → Hp → VK → Prop := fun xs H Q => (∃ p ys, xs = [.ref p] ∧ (SqL K H p ys ∨ SqT K H p ys) ∧ Q (.int ys.length) H) ∨ (∃ z, xs = [.str z] ∧ z.length ≤ sizeLine ∧ Q (.int z.length) H)
theorem call_lenA : CallR X (.builtin "len") (rLen X.K) := call_len_seq.or call_len_str
theorem ops_len {K : PySem.W.Frag} (hK : cc.K = K) : OpS1 cc opLen fun v H Q => rLen K [v] H Q := by
  subst hK
  intro G H x d k Q le v _ ho fin
  unfold opLen at ho
  split at ho
  · obtain ⟨a, vs, ea, ra, rs⟩ := v
    exact .inl ⟨a, vs, by rw [ea], .inl (ra), by rw [rs.length]; exact (fin _ ho).1 _ rep_int⟩
  · obtain ⟨a, vs, ea, ra, rs⟩ := v
    exact .inl ⟨a, vs, by rw [ea], .inr (SqT.of ra), by rw [rs.length]; exact (fin _ ho).1 _ rep_int⟩
  · exact .inr ⟨_, by rw [show x = _ from v], ho.1, (fin _ ho.2).1 _ rep_int⟩
  · exact ho.elim
def opList : D → OW
  | .lst ds => fun k => k (.fr (.lst ds))
  | .tup ds => fun k => k (.fr (.lst ds))
  | _ => fun _ => False
theorem ops_list {K : PySem.W.Frag} (hK : cc.K = K) : OpS1 cc opList fun v H Q => (fun xs H Q => ∃ p ys, xs = [V.ref p] ∧ (SqL K H p ys ∨ SqT K H p ys) ∧ ∀ l, H l = none → Q (.ref l) (upd H l (.lst ys))) [v] H Q := by
  subst hK
  intro G H x d k Q le v _ ho fin
  unfold opList at ho
  split at ho
  · obtain ⟨a, vs, ea, ra, rs⟩ := v
    exact ⟨a, vs, by rw [ea], .inl (ra), fun l hl => (fin _ ho) l _ hl ⟨_, upd_same, rs⟩⟩
  · obtain ⟨a, vs, ea, ra, rs⟩ := v
    exact ⟨a, vs, by rw [ea], .inr (SqT.of ra), fun l hl => (fin _ ho) l _ hl ⟨_, upd_same, rs⟩⟩
  · exact ho.elim
/-! ### == and != -/
mutual
def pd : D → PyData
  | .non => .none
  | .bl b => .bool b
  | .int i => .int i
  | .str x => .str x
  | .tup ds => .tuple (pds ds)
  | .lst ds => .list (pds ds)
  | .obj _ _ => .none
  | .dct _ _ => .none
  | .dic _ _ => .none
  | .ptr _ => .none
def pds : List D → List PyData
  | [] => []
  | d :: ds => pd d :: pds ds
end
mutual
/-- plain data, at most n deep -/
def okD (n : Nat) : D → Bool
  | .non => true
  | .bl _ => true
  | .int _ => true
  | .str x => PyData.strOk x
  | .tup ds => match n with | 0 => false | m + 1 => okDs m ds
  | .lst ds => match n with | 0 => false | m + 1 => okDs m ds
  | .obj _ _ => false
  | .dct _ _ => false
  | .dic _ _ => false
  | .ptr _ => false
def okDs (n : Nat) : List D → Bool
  | [] => true
  | d :: ds => okD n d && okDs n ds
end
def eqD (d e : D) : Bool := PyData.eqv (pd d) (pd e)
def eqDs (d e : List D) : Bool := PyData.eqvAll (pds d) (pds e)
mutual
theorem okD_lay : ∀ {n : Nat} {d : D}, okD n d = true → PyData.canLay0 (pd d) = true ∧ PyData.depth (pd d) ≤ n
  | n, .non, _ => by simp [pd, PyData.canLay0, PyData.depth]
  | n, .bl _, _ => by simp [pd, PyData.canLay0, PyData.depth]
  | n, .int _, _ => by simp [pd, PyData.canLay0, PyData.depth]
  | n, .str x, h => by
    have : PyData.strOk x = true := by simpa [okD] using h
    simp [pd, PyData.canLay0, PyData.depth, this]
  | 0, .tup ds, h => by simp [okD] at h
  | n + 1, .tup ds, h => by
    have := okDs_lay (n := n) (ds := ds) (by simpa [okD] using h)
    simp only [pd, PyData.canLay0, PyData.depth]
    exact ⟨this.1, by omega⟩
  | 0, .lst ds, h => by simp [okD] at h
  | n + 1, .lst ds, h => by
    have := okDs_lay (n := n) (ds := ds) (by simpa [okD] using h)
    simp only [pd, PyData.canLay0, PyData.depth]
    exact ⟨this.1, by omega⟩
  | n, .obj _ _, h => by simp [okD] at h
  | n, .dct _ _, h => by simp [okD] at h
  | n, .dic _ _, h => by simp [okD] at h
  | n, .ptr _, h => by simp [okD] at h
theorem okDs_lay : ∀ {n : Nat} {ds : List D}, okDs n ds = true → PyData.canLayAll0 (pds ds) = true ∧ PyData.depthAll (pds ds) ≤ n
  | n, [], _ => by simp [pds, PyData.canLayAll0, PyData.depthAll]
  | n, d :: ds, h => by
    have h : okD n d = true ∧ okDs n ds = true := by simpa [okDs] using h
    have h1 := okD_lay h.1
    have h2 := okDs_lay h.2
    simp only [pds, PyData.canLayAll0, PyData.depthAll, Bool.and_eq_true]
    exact ⟨⟨h1.1, h2.1⟩, by omega⟩
end
theorem okD_shaped {d : D} (h : okD 64 d = true) : SeqAt.shaped (pd d) = true := by
  have := okD_lay h
  unfold SeqAt.shaped
  rw [this.1, Bool.true_and]
  exact decide_eq_true this.2
mutual
theorem okD_dp {H : Hp} : ∀ {n : Nat} {d : D} {v : V}, okD n d = true → Rep cc H v d → Dp cc.K H v (pd d)
  | n, .non, v, _, r => by unfold Rep at r; subst r; exact .non
  | n, .bl _, v, _, r => by unfold Rep at r; subst r; exact .bl _
  | n, .int _, v, _, r => by unfold Rep at r; subst r; exact .int _
  | n, .str x, v, _, r => by unfold Rep at r; subst r; exact .str _
  | 0, .tup ds, _, h, _ => by simp [okD] at h
  | n + 1, .tup ds, v, h, r => by
    unfold Rep at r
    obtain ⟨a, vs, rfl, ra, rs⟩ := r
    exact .tup (SqT.of ra) (okDs_dp (n := n) (by simpa [okD] using h) rs)
  | 0, .lst ds, _, h, _ => by simp [okD] at h
  | n + 1, .lst ds, v, h, r => by
    unfold Rep at r
    obtain ⟨a, vs, rfl, ra, rs⟩ := r
    exact .lst (ra) (okDs_dp (n := n) (by simpa [okD] using h) rs)
  | n, .obj _ _, _, h, _ => by simp [okD] at h
  | n, .dct _ _, _, h, _ => by simp [okD] at h
  | n, .dic _ _, _, h, _ => by simp [okD] at h
  | n, .ptr _, _, h, _ => by simp [okD] at h
theorem okDs_dp {H : Hp} : ∀ {n : Nat} {ds : List D} {vs : List V}, okDs n ds = true → Reps cc H vs ds → DpAll cc.K H vs (pds ds)
  | n, [], vs, _, r => by rw [r.inv_nil]; exact .nil
  | n, d :: ds, vs, h, r => by
    have h : okD n d = true ∧ okDs n ds = true := by simpa [okDs] using h
    obtain ⟨v, us, rfl, rv, rr⟩ := r.inv_cons
    exact .cons (okD_dp h.1 rv) (okDs_dp h.2 rr)
end
def opEq : D → D → OW := fun d e k => (okD 64 d = true ∧ okD 64 e = true) ∧ k (.sh (.bl (eqD d e)))
def opNe : D → D → OW := fun d e k => (okD 64 d = true ∧ okD 64 e = true) ∧ k (.sh (.bl (!eqD d e)))
theorem ops_eq {K : PySem.W.Frag} (hK : cc.K = K) : OpS cc opEq (rEqD K) := by
  subst hK
  intro G H x y d e k Q le _ _ r1 r2 ho fin
  exact ⟨pd d, pd e, okD_dp ho.1.1 r1, okD_dp ho.1.2 r2, okD_shaped ho.1.1, okD_shaped ho.1.2, (fin _ ho.2).1 _ rep_bl⟩
theorem ops_ne {K : PySem.W.Frag} (hK : cc.K = K) : OpS cc opNe (rNeD K) := by
  subst hK
  intro G H x y d e k Q le _ _ r1 r2 ho fin
  exact ⟨pd d, pd e, okD_dp ho.1.1 r1, okD_dp ho.1.2 r2, okD_shaped ho.1.1, okD_shaped ho.1.2, (fin _ ho.2).1 _ rep_bl⟩
/-! ### is None -/
def isNon : D → Bool
  | .non => true
  | _ => false
def opIsN : D → OW := fun d k => k (.sh (.bl (isNon d)))
def opNotN : D → OW := fun d k => k (.sh (.bl (!isNon d)))
theorem view_non {G H : Hp} {x : V} {d : D} (v : View cc G H x d) : decide (x = .non) = isNon d := by
  cases d <;> first
    | (cases (show x = _ from v); rfl)
    | (obtain ⟨a, _, rfl, _⟩ := v; rfl)
    | (obtain ⟨a, _, _, rfl, _⟩ := v; rfl)
    | (obtain ⟨_, a, _, _, _, rfl, _⟩ := v; rfl)
    | exact v.elim
end
section
variable {X : Cx} {Z : Zone} {e : Expr} {w : EW} {pos : Pos}
theorem via_isN : Via Z (tIsN (T Z w)) (eUn opIsN w) := via_un (r := fun x H Q => Q (.bl (decide (x = .non))) H) fun G H x d k Q le v _ ho fin => by
  show Q _ H
  rw [view_non v]; exact (fin _ ho).1 _ rep_bl
theorem via_notN : Via Z (tNotN (T Z w)) (eUn opNotN w) := via_un (r := fun x H Q => Q (.bl (!decide (x = .non))) H) fun G H x d k Q le v _ ho fin => by
  show Q _ H
  rw [view_non v]; exact (fin _ ho).1 _ rep_bl
theorem de_isN {j pos'} (he : PE X e (T Z w)) : PE X (.Compare e [.Is] [.Constant .none j pos'] pos) (T Z (eUn opIsN w)) := pvia (pe_cmp (pc_isN he)) via_isN
theorem dt_isN {j pos'} (he : PE X e (T Z w)) : PT X (.Compare e [.Is] [.Constant .none j pos'] pos) (Tt Z (tVal (eUn opIsN w))) := ⟨fun pins s σ H Q I q => (pt_cmp (pc_isN he)).run pins s σ H Q I (Tt.val via_isN q)⟩
theorem dt_notN {j pos'} (he : PE X e (T Z w)) : PT X (.Compare e [.IsNot] [.Constant .none j pos'] pos) (Tt Z (tVal (eUn opNotN w))) := ⟨fun pins s σ H Q I q => (pt_cmp (pc_notN he)).run pins s σ H Q I (Tt.val via_notN q)⟩
end
end TL

namespace TL
open PySem PySem.Spec L2

def setAt {α : Type} (xs : List α) (j : Nat) (x : α) : List α := if j < xs.length then xs.set j x else xs ++ [x]
/-- what a class must have to be read and stored -/
structure ClsOk (K : PySem.W.Frag) (C : Addr × List Str) : Prop where
  cl : Cls K C.1
  na : ∀ f ∈ C.2, NoAttr K C.1 f
  nd : C.2.Nodup
  few : C.2.length ≤ 900
section
variable {X : Cx} {Z : Zone} {e : Expr} {w : EW} {pos : Pos} {c j i : Nat} {f : Str}
def eFld (c j : Nat) (w : EW) : EW := fun xk ρ K => w xk ρ fun r ρ1 => match r.get ρ1 with
  | .obj c' ds => c' = c ∧ match ds[j]? with | some d => K (.sh d) ρ1 | none => False
  | _ => False
/-- self.f = e -/
def sFld (i c j : Nat) (w : EW) : SW := fun xk ρ K => w xk ρ fun r ρ1 => stl r ρ1 fun d ρ2 => match ρ2[i]? with
  | some (.own m a (.obj c' ds)) => c' = c ∧ j ≤ ds.length ∧ K.nx (ρ2.set i (.own m a (.obj c (setAt ds j d))))
  | _ => False
theorem Root.obj {cc : CC} {G H : Hp} {a dx : Addr} {c : Nat} {vs : List V} {ds : List D} (h : H a = some (.ins (cc.cl c).1 dx ((cc.cl c).2.zip vs))) (l : vs.length ≤ (cc.cl c).2.length) (r : Reps cc G vs ds) : Root cc G H a (.obj c ds) := ⟨dx, vs, h, l, r⟩
def isObj (c : Nat) : D → Prop
  | .obj c' _ => c' = c
  | _ => False
variable {C : Ccs} {k : Nat} {fa p : Addr} {fd : FuncData} {ps : List Str} {sp : FSpec} {aw : AgW} {m : Str} {es : List Expr}
/-- e.f, a property -/
def eProp (c : Nat) (sp : FSpec) (w : EW) : EW := fun xk ρ K => w xk ρ fun r ρ1 => stl r ρ1 fun d ρ2 => isObj c d ∧ callK sp [.ro d] ρ2 xk K
/-- e.m(..) -/
def eMeth (c np : Nat) (sp : FSpec) (w : EW) (aw : AgW) : EW := fun xk ρ K => w xk ρ fun r ρ1 => stl r ρ1 fun d ρ2 => isObj c d ∧ aw xk ρ2 fun gs ρ3 => gs.length + 1 = np ∧ callK sp (.ro d :: gs) ρ3 xk K
/-- e.m() -/
def eMeth0 (c : Nat) (sp : FSpec) (w : EW) : EW := eProp c sp w
/-- C(..): a new object, by __init__ -/
def eMake (c np : Nat) (sp : FSpec) (aw : AgW) : EW := fun xk ρ K => aw xk ρ fun gs ρ1 => gs.length + 1 = np ∧ (boIx gs ++ muIx gs).Nodup ∧ tms gs = 0 ∧
  argsK gs ρ1 fun args => sp (.mu (.obj c []) :: args) (fun o ds => match o, ds with
    | .sh .non, d0 :: rest => (hasBo gs = true → chFlat d0 = true ∧ noLstAll rest = true) ∧ ∀ a, K (.fr a d0) (upE gs rest ρ1)
    | _, _ => False) (fun c d => xk c d ρ1)
end

/-! ### the law -/
theorem reps_ints {cc : CC} {G : Hp} : ∀ ns : List Int, Reps cc G (ns.map V.int) (ns.map D.int)
  | [] => Reps.nil
  | n :: ns => Reps.cons rep_int (reps_ints ns)
end TL

namespace TL
open PySem PySem.Spec L2

/-! ### calls with keywords alone -/
section
variable {X : Cx} {Z : Zone} {e : Expr} {es : List Expr} {w : EW} {r : AgW} {kws : List Keyword} {nm : Option Str} {kpos : Pos}
theorem dkg_nil : PK X [] (Tag Z agNil) := ⟨fun pos pins s σ H Q I ⟨ρ, G, K, IR, hw, q⟩ => pk_nil.run pos pins s σ H Q I (q [] ρ [] H G (LE.refl G) IR trivial hw)⟩
theorem dkg_ro (ha : PE X e (T Z w)) (hr : PK X kws (Tag Z r)) : PK X (⟨nm, e, kpos⟩ :: kws) (Tag Z (agRo w r)) :=
  ⟨fun pos pins s σ H Q I ⟨ρ, G, K, IR, hw, q⟩ => (pk_cons ha hr).run pos pins s σ H Q I ⟨ρ, G, _, IR, hw, fun rv ρ1 v H1 G1 le1 I1 q1 k1 => by
    obtain ⟨d, ρ2, G2, le2, I2, rp, k2, _⟩ := I1.settle q1 k1
    exact ⟨ρ2, G2, _, I2, k2, fun gs ρ3 vs H3 G3 le3 I3 rs k3 => q (.ro d :: gs) ρ3 (v :: vs) H3 G3 ((le1.trans le2).trans le3) I3 ⟨(rp.mono le3 : Rep _ _ _ _), rs⟩ k3⟩⟩⟩
/-- the entries of xs in another order -/
def pm {α : Type} (p : List Nat) (xs : List α) : List α := p.filterMap fun i => xs[i]?
structure KBp (K : PySem.W.Frag) (fd : FuncData) (ps ks : List Str) (p : List Nat) : Prop where
  to : ∀ (s : Shared) (ws : List Value), ws.length = ks.length → BindsTo s fd ⟨[], ks.zip ws⟩ (ps.zip (pm p ws))
theorem pm_vals {p : List Nat} {vs : List V} {us : List Value} (r : Vals vs us) : Vals (pm p vs) (pm p us) := by
  induction p with
  | nil => exact .nil
  | cons i p ih =>
    unfold pm
    simp only [List.filterMap_cons]
    cases e : vs[i]? with
    | none => rw [r.none_of e]; exact ih
    | some v =>
      obtain ⟨u, h1, h2⟩ := r.get e
      rw [h1]
      exact .cons h2 ih
theorem AgsOk.get {ρ : REnv} {G H : Hp} {σ : L2.St} : ∀ {vs : List V} {gs : List Ag} {i : Nat}, AgsOk Z ρ G σ H vs gs → (vs[i]? = none ∧ gs[i]? = none) ∨ ∃ v g, vs[i]? = some v ∧ gs[i]? = some g ∧ AgOk Z ρ G σ H v g
  | [], [], _, _ => .inl ⟨by simp, by simp⟩
  | v :: vs, g :: gs, 0, h => .inr ⟨v, g, rfl, rfl, h.1⟩
  | v :: vs, g :: gs, i + 1, h => by simpa using AgsOk.get (i := i) h.2
  | [], _ :: _, _, h => h.elim
  | _ :: _, [], _, h => h.elim
theorem pm_ags {ρ : REnv} {G H : Hp} {σ : L2.St} {p : List Nat} {vs : List V} {gs : List Ag} (r : AgsOk Z ρ G σ H vs gs) : AgsOk Z ρ G σ H (pm p vs) (pm p gs) := by
  induction p with
  | nil => exact trivial
  | cons i p ih =>
    unfold pm
    simp only [List.filterMap_cons]
    rcases r.get (i := i) with ⟨h1, h2⟩ | ⟨v, g, h1, h2, h3⟩
    · rw [h1, h2]; exact ih
    · rw [h1, h2]; exact ⟨h3, ih⟩
def eCallP (np : Nat) (p : List Nat) (sp : FSpec) (aw : AgW) : EW := fun xk ρ K => aw xk ρ fun gs ρ1 => (gs.length = np ∧ (pm p gs).length = np) ∧ callK sp (pm p gs) ρ1 xk K
variable {C : Ccs} {k : Nat} {f : Addr} {fd : FuncData} {ps ks : List Str} {sp : FSpec} {aw : AgW} {x : Str} {p : Pos} {pos : Pos} {pr : List Nat}
theorem de_callP (hcc : Z.cc = C.cc) (hz : Z.xk = xk0) (F : FnOk X.prog X.w X.K X.mg X.base CX0 k f fd ps (LSp0 C sp ps.length)) (hr : Room k X.A) (hm : X.mg x = some (.ref f)) (hk : PySem.W.keepIn X.K (.ref f) = true) (hb : KBp X.K fd ps ks pr) (hl : ks.length = ps.length)
    (hkw : PK X kws (Tag Z aw)) (hg : Gl X x := by rfl) (hall : (backToKw pos (keywordEach kws X.env)).all (·.1.isSome) = true := by rfl) (hks : (backToKw pos (keywordEach kws X.env)).filterMap (·.1) = ks := by rfl) (hdb : (x == ("__debug__" : Str)) = false := by decide)
    (hpl : ((backTo pos (starEach [] X.env)).any (·.1) || (backToKw pos (keywordEach kws X.env)).any (·.1.isNone)) = false := by rfl) :
    PE X (.Call (.Name x p) [] kws pos) (T Z (eCallP ps.length pr sp aw)) := by
  refine ⟨fun pins s σ H Q I ⟨ρ, G, K, IR, hw, q⟩ => ?_⟩
  refine wpAny_Call_Name_kw (ld_glob I hg hm ?_ hdb)
  refine PySem.W.callWith_KW0 (h₀ := X.base) I.ok.mod.kin hk hall ?_ hpl
  refine thn (hkw.run pos pins s σ H (fun zs H2 => zs.length = ks.length ∧ (pm pr zs).length = ps.length ∧ LSp0 C sp ps.length (pm pr zs) H2 Q E0) I ⟨ρ, G, _, IR, hw, fun gs ρ1 vs H1 G1 le1 I1 qs ⟨⟨l1, l2⟩, k1⟩ => ?_⟩) fun ws s2 ⟨zs, H2, I2, rz, l1, l2, q2⟩ => ⟨I2.kIn, ?_⟩
  · have e1 := qs.len
    have e2 := (pm_ags (p := pr) qs).len
    refine ⟨by omega, by omega, ?_⟩
    exact call_lsp hcc hz (by omega) I1 (pm_ags qs).x0 k1 fun r ρ2 v H2 G2 le2 I2 q2 k2 => q r ρ2 v H2 G2 (le1.trans le2) I2 q2 k2
  · rw [hks]
    have rv := pm_vals (p := pr) rz
    refine wpAny_call (codeAny_mono (F.run X.A X.stack s2 H2 ⟨[], ks.zip ws⟩ (pm pr ws) (pm pr zs) Q E0 hr I2.env0 (hb.to s2 ws (by rw [← rz.length]; exact l1)) rv q2) fun r s' hq => ?_)
    cases r with
    | error e => exact hq.elim
    | ok fl =>
      cases fl with
      | ret u => exact I2.after hq
      | next => exact False.elim hq
      | brk => exact False.elim hq
      | cont => exact False.elim hq
end

/-! ### enumerate -/
section
variable {X : Cx} {Z : Zone} {e : Expr} {w : EW} {pos : Pos}
def iEnum (w : EW) : IW := fun xk ρ K => w xk ρ fun r ρ1 => match r.get ρ1 with | .lst ds => K ds.length (fun i d => ∃ d0, ds[i]? = some d0 ∧ d = .tup [.int i, d0]) (stab r ρ1) ρ1 | _ => False
/-! ### x += n; xs.extend, reverse, pop -/
def sAug (i : Nat) (w : EW) : SW := fun xk ρ K => bound ρ i ∧ w xk ρ fun r ρ1 => match getL ρ i, r.get ρ1 with
  | .int a, .int b => K.nx (ρ1.set i (.sh (.int (a + b))))
  | _, _ => False
def sRevI (j : Nat) : SW := fun _ ρ K => match ρ[j]? with
  | some (.own m a (.lst ds)) => K.nx (ρ.set j (.own m a (.lst ds.reverse)))
  | _ => False
def sPop (j : Nat) : SW := fun _ ρ K => match ρ[j]? with
  | some (.own m a (.lst ds)) => ds ≠ [] ∧ K.nx (ρ.set j (.own m a (.lst ds.dropLast)))
  | _ => False
theorem Reps.dropLast {cc : CC} {G : Hp} {vs : List V} {ds : List TL.D} (r : Reps cc G vs ds) : Reps cc G vs.dropLast ds.dropLast := by
  rw [List.dropLast_eq_take, List.dropLast_eq_take, r.length]
  exact r.take _
end
end TL

namespace TL
open PySem PySem.Spec L2

/-! ### isinstance of built-in types -/
inductive Ty where
  | int | bool | str | list | tuple | dict
def Ty.nm : Ty → String
  | .int => "int" | .bool => "bool" | .str => "str" | .list => "list" | .tuple => "tuple" | .dict => "dict"
def isTy : Ty → D → Bool
  | .int, .int _ => true
  | .int, .bl _ => true
  | .bool, .bl _ => true
  | .str, .str _ => true
  | .list, .lst _ => true
  | .tuple, .tup _ => true
  | _, _ => false
def noObj : D → Bool
  | .obj _ _ => false
  | .dct _ _ => false
  | .dic _ _ => false
  | .ptr _ => false
  | _ => true
def opIsI (t : Ty) : D → OW := fun d k => noObj d = true ∧ k (.sh (.bl (isTy t d)))
def tyN : D → String
  | .non => "NoneType" | .bl _ => "bool" | .int _ => "int" | .str _ => "str" | .tup _ => "tuple" | .lst _ => "list" | _ => "object"
theorem kit_tab (t : Ty) : ∀ n, n ∈ ["NoneType", "bool", "int", "str", "tuple", "list"] → ∃ b, kitB n t.nm = some b ∧ (b = match t, n with
  | .int, "int" => true | .int, "bool" => true | .bool, "bool" => true | .str, "str" => true | .list, "list" => true | .tuple, "tuple" => true | _, _ => false) := by
  intro n hn
  simp only [List.mem_cons, List.not_mem_nil, or_false] at hn
  rcases hn with rfl | rfl | rfl | rfl | rfl | rfl <;> cases t <;> exact ⟨_, by decide +kernel, rfl⟩
section
variable {cc : CC}
theorem view_ty {K : PySem.W.Frag} (hK : cc.K = K) {G H : Hp} {x : V} {d : D} (h : noObj d = true) (v : View cc G H x d) : TyX K H x (.type (tyN d)) := by
  subst hK
  cases d with
  | non => cases (show x = _ from v); exact .base .non
  | bl b => cases (show x = _ from v); exact .base (.bl b)
  | int b => cases (show x = _ from v); exact .base (.int b)
  | str b => cases (show x = _ from v); exact .base (.str b)
  | tup ds => obtain ⟨a, vs, rfl, ra, _⟩ := v; exact .base (.tup ra)
  | lst ds =>
    obtain ⟨a, vs, rfl, ra, _⟩ := v
    rcases ra with (ra | ⟨o, ra⟩) | ⟨o, its, n, hk, hc, _⟩
    · exact .base (.lst ra)
    · exact .base (.frz ra)
    · exact .kList hk hc
  | obj _ _ => simp [noObj] at h
  | dct _ _ => simp [noObj] at h
  | dic _ _ => simp [noObj] at h
  | ptr _ => simp [noObj] at h
theorem kit_d (t : Ty) {d : D} (h : noObj d = true) : kitB (tyN d) t.nm = some (isTy t d) := by
  have hm : tyN d ∈ ["NoneType", "bool", "int", "str", "tuple", "list"] := by cases d <;> simp [tyN] <;> simp [noObj] at h
  obtain ⟨b, h1, h2⟩ := kit_tab t _ hm
  rw [h1, h2]
  cases d <;> cases t <;> first | rfl | simp [noObj] at h
theorem boot_isi : bootBuiltins "isinstance" = some (.builtin "isinstance") := by decide +kernel
theorem boot_ty (t : Ty) : bootBuiltins (Str.ofString t.nm) = some (.type t.nm) := by cases t <;> decide +kernel
end
section
variable {X : Cx} {Z : Zone} {e : Expr} {w : EW} {pos p p2 : Pos}
theorem de_isI (t : Ty) {tn : Str} (hT : tn = Str.ofString t.nm) (hK : Z.cc.K = X.K) (hm : X.mg "isinstance" = none) (hmT : X.mg tn = none) (he : PE X e (T Z w)) (hg : Gl X "isinstance" := by rfl) (hgT : Gl X tn := by rfl) (hn : tn ≠ "__name__" := by decide) (hdb : (tn == ("__debug__" : Str)) = false := by decide)
    (hst : starEach [e, .Name tn p2] X.env = (false, eval e X.env) :: starEach [.Name tn p2] X.env := by rfl) (hst2 : starEach [.Name tn p2] X.env = (false, eval (.Name tn p2) X.env) :: starEach [] X.env := by rfl) (hpl : (backTo pos (starEach [.Name tn p2] X.env)).any (·.1) = false := by rfl) :
    PE X (.Call (.Name "isinstance" p) [e, .Name tn p2] [] pos) (T Z (eUn (opIsI t) w)) := by
  have hb : PE X (.Name tn p2) (tC (.ty t.nm)) := pe_bltn hgT hmT (by rw [hT]; exact boot_ty t) rfl hn hdb
  refine pvia (pe_callB call_isi hg hm boot_isi (pa_cons he (pa_cons hb pa_nil hst2) hst) (by decide) (by decide) hst hpl) ?_
  refine via_un (r := fun v H Q => rIsi X.K [v, .ty t.nm] H Q) fun G H x d k Q le v _ ho fin => ?_
  exact ⟨x, .ty t.nm, _, _, isTy t d, rfl, .ty t.nm, view_ty hK ho.1 v, kit_ty (kit_d t ho.1), (fin _ ho.2).1 _ rep_bl⟩
end
end TL

namespace TL
open PySem PySem.Spec L2
/-! ### an own root given up -/
def frz : Nat → REnv → REnv
  | _, [] => []
  | 0, .own false _ d :: ρ => .sh d :: ρ
  | 0, s :: ρ => s :: ρ
  | i + 1, s :: ρ => s :: frz i ρ
theorem frz_o {a : Addr} {d : D} {ρ : REnv} : frz 0 (.own false a d :: ρ) = .sh d :: ρ := rfl
theorem frz_sh {d : D} {ρ : REnv} : frz 0 (.sh d :: ρ) = .sh d :: ρ := rfl
theorem frz_s {i : Nat} {s : Sl} {ρ : REnv} : frz (i + 1) (s :: ρ) = s :: frz i ρ := by simp only [frz]
theorem frz_eq : ∀ (i : Nat) (ρ : REnv), frz i ρ = ρ ∨ ∃ a d, ρ[i]? = some (.own false a d) ∧ frz i ρ = ρ.set i (.sh d)
  | i, [] => .inl (by cases i <;> rfl)
  | 0, s :: ρ => by
    cases s with
    | no => exact .inl rfl
    | sh d => exact .inl rfl
    | own p a d =>
      cases p with
      | true => exact .inl rfl
      | false => exact .inr ⟨a, d, rfl, rfl⟩
  | i + 1, s :: ρ => by
    rcases frz_eq i ρ with h | ⟨a, d, h1, h2⟩
    · exact .inl (by rw [frz_s, h])
    · exact .inr ⟨a, d, by rw [List.getElem?_cons_succ]; exact h1, by rw [frz_s, h2, List.set_cons_succ]⟩
def sFrz (i : Nat) (s : SW) : SW := fun xk ρ K => s xk ρ { K with nx := fun ρ' => K.nx (frz i ρ') }
section
variable {X : Cx} {Z : Zone} {st : Stmt} {sa : SW}
theorem ds_frz {i : Nat} (h : PS X st (Ts Z sa)) (hi : (X.N[i]?).isSome = true := by rfl) : PS X st (Ts Z (sFrz i sa)) :=
  ⟨fun pins s σ H D I ⟨ρ, G, K, IR, hw, l⟩ => h.run pins s σ H D I ⟨ρ, G, _, IR, hw, ⟨fun ρ' σ' H' G' le I' k => by
    have k : K.nx (frz i ρ') := k
    rcases frz_eq i ρ' with e | ⟨a, d, h1, h2⟩
    · rw [e] at k; exact l.nx ρ' σ' H' G' le I' k
    · rw [h2] at k
      have hlt : i < σ'.length := by
        have h1 := I.len
        have h2 := IR.len.1
        have h3 := I'.len.1
        cases e : X.N[i]? with
        | none => rw [e] at hi; cases hi
        | some x => have := (List.getElem?_eq_some_iff.mp e).1; omega
      obtain ⟨G2, l2, I2, _⟩ := I'.leak h1 (own_at hlt (I'.slot i _ h1).1)
      exact l.nx _ σ' H' G2 (le.trans l2) I2 k, l.rt, l.bk, l.ct⟩⟩⟩
end
end TL

namespace TL
open PySem PySem.Spec L2
section
variable {X : Cx} {Z : Zone} {C : Ccs} {k c np : Nat} {f fa : Addr} {fd : FuncData} {ps ks : List Str} {sp : FSpec} {aw : AgW} {x m : Str} {p pos apos px : Pos} {pr : List Nat} {e a : Expr} {es : List Expr} {w : EW} {kws : List PySem.Keyword}
theorem de_callN (hcc : Z.cc = C.cc) (hz : Z.xk = xk0) (F : FnOk X.prog X.w X.K X.mg X.base CX0 k f fd ps (LSp0 C sp np)) (hr : Room k X.A) (hm : X.mg x = some (.ref f)) (hk : PySem.W.keepIn X.K (.ref f) = true) (hb : Binds X.K fd ps [])
    (ha : PA X (e :: es) (Tag Z aw)) (hn : np = ps.length := by rfl) (hg : Gl X x := by rfl) (hdb : (x == ("__debug__" : Str)) = false := by decide) (he : starEach (e :: es) X.env = (false, eval e X.env) :: starEach es X.env := by rfl) (hpl : (backTo pos (starEach es X.env)).any (·.1) = false := by rfl) :
    PE X (.Call (.Name x p) (e :: es) [] pos) (T Z (eCall np sp aw)) := by subst hn; exact de_call hcc hz F hr hm hk hb ha hg hdb he hpl
theorem de_callPN (hcc : Z.cc = C.cc) (hz : Z.xk = xk0) (F : FnOk X.prog X.w X.K X.mg X.base CX0 k f fd ps (LSp0 C sp np)) (hr : Room k X.A) (hm : X.mg x = some (.ref f)) (hk : PySem.W.keepIn X.K (.ref f) = true) (hb : KBp X.K fd ps ks pr) (hl : ks.length = ps.length)
    (hkw : PK X kws (Tag Z aw)) (hn : np = ps.length := by rfl) (hg : Gl X x := by rfl) (hall : (backToKw pos (keywordEach kws X.env)).all (·.1.isSome) = true := by rfl) (hks : (backToKw pos (keywordEach kws X.env)).filterMap (·.1) = ks := by rfl) (hdb : (x == ("__debug__" : Str)) = false := by decide)
    (hpl : ((backTo pos (starEach [] X.env)).any (·.1) || (backToKw pos (keywordEach kws X.env)).any (·.1.isNone)) = false := by rfl) :
    PE X (.Call (.Name x p) [] kws pos) (T Z (eCallP np pr sp aw)) := by subst hn; exact de_callP hcc hz F hr hm hk hb hl hkw hg hall hks hdb hpl
end
/-! ### the law's end -/
theorem law_spQ {C : Ccs} {sp : FSpec} {H : Hp} {a : Addr} {ns : List Int} {Q : VK} {E : XK} (hS : SqL C.cc.K H a (ns.map V.int)) (h : sp [.ro (.lst (ns.map D.int))] (fun o _ => o = .sh (.bl true)) (fun _ _ => False)) (k : ∀ H', Q (.bl true) H') :
    LSp0 C sp 1 [.ref a] H Q E := by
  have r : Rep C.cc H (.ref a) (.lst (ns.map D.int)) := by
    unfold Rep
    exact ⟨a, _, rfl, hS, reps_ints ns⟩
  refine ⟨rfl, [.ro (.lst (ns.map D.int))], H, [], _, LE.refl H, ⟨r, trivial⟩, h, fun o ds v H' G' _ _ _ _ _ ro e => ?_⟩
  have e : o = .sh (.bl true) := e
  subst e
  have ro : Rep C.cc G' v (.bl true) := ro
  unfold Rep at ro
  rw [ro]
  exact k H'
/-- the law's promise: at most 63 whole numbers come in, True goes out -/
def endSp (K : PySem.W.Frag) : Sp := fun vs H Q _ => ∃ (a : Addr) (ns : List Int), vs = [.ref a] ∧ SqL K H a (ns.map V.int) ∧ ns.length ≤ 63 ∧ (∀ z ∈ ns, Builtin.Int.intBits z ≤ 1048576) ∧ ∀ H', Q (.bl true) H'
theorem law_end {P : Program} {w : World} {K : PySem.W.Frag} {mg : Str → Option Value} {base : Heap} {C : Ccs} {k : Nat} {f : Addr} {fd : FuncData} {ps : List Str} {sp : FSpec} (F : FnOk P w K mg base CX0 k f fd ps (LSp0 C sp 1)) (hK : C.cc.K = K)
    (h : ∀ ns : List Int, ns.length ≤ 63 → (∀ z ∈ ns, z.natAbs.log2 < 2000000) → sp [.ro (.lst (ns.map D.int))] (fun o _ => o = .sh (.bl true)) (fun _ _ => False)) : FnOk P w K mg base CX0 k f fd ps (endSp K) :=
  F.imp fun vs H Q E ⟨a, ns, e, hS, hl, hb, k⟩ => by
    subst e
    refine law_spQ (by rw [hK]; exact hS) (h ns hl fun z hz => ?_) k
    have := hb z hz
    unfold Builtin.Int.intBits at this
    by_cases h0 : z = 0
    · subst h0; decide
    · rw [if_neg (by simpa using h0)] at this; omega
theorem walkT {l : PySem.W.OpenLaw} {q : Program} {loose : List Str} {XP : (Str → Option Value) → Heap → Prop} {YP : World → Heap → Prop} {d : DefRec} {K : Params → PySem.W.Frag} {k : Nat} (hn : l.most = some 63) (hdf : d.params.defaults = []) (hr : Room k callerA)
    (hY : ∀ (w : World) (h : Heap), YP w h → (K w.params).In h)
    (F : ∀ (w : World) (mg : Str → Option Value) (fa : Addr) (h : Heap), (K w.params).In h → h.Ns mainGlobals mg → mg d.name = some (.ref fa) →
      ∃ fd : FuncData, (∀ (s : Shared) (u : Value), BindsTo s fd ⟨[u], []⟩ [(("script" : Str), u)]) ∧ ∀ base : Heap, (K w.params).In base → base.Ns mainGlobals mg → FnOk l.prog w (K w.params) mg base CX0 k fa fd ["script"] (endSp (K w.params))) :
    PySem.W.WalkO q loose XP YP l.row.toRowW d [] (fun f vs => PySem.call f vs) :=
  L2.walk_ofB (n := 63) (k := k) (x := ("script" : Str)) (CX := fun _ => CX0) (sp := fun w => endSp (K w.params)) hn (by decide) hdf hr hY F (fun _ _ a ns hl hb _ hS => ⟨a, ns, rfl, hS, hl, hb, fun _ => rfl⟩) fun _ _ _ _ _ z => z
end TL

namespace TL
open PySem PySem.Spec L2
section
variable {X : Cx} {Z : Zone} {C : Ccs} {c k np : Nat} {fa : Addr} {fd : FuncData} {ps ks : List Str} {sp : FSpec} {aw : AgW} {m x : Str} {apos pos px : Pos} {pr : List Nat} {e a b : Expr} {w wa wb : EW} {kws : List PySem.Keyword}
/-- two values, both given up -/
def eTwo (wa wb : EW) (k : D → D → EW) : EW := fun xk ρ K => wa xk ρ fun r1 ρ1 => stl r1 ρ1 fun d1 ρ2 => wb xk ρ2 fun r2 ρ3 => stl r2 ρ3 fun d2 ρ4 => k d1 d2 xk ρ4 K
/-! ### len(o) -/
def okLen (K : Rv → REnv → Prop) : Rv → REnv → Prop := fun r ρ => (∃ n : Int, r = .sh (.int n) ∧ 0 ≤ n ∧ n < 2 ^ 63) ∧ K r ρ
def eLenO (c : Nat) (sp : FSpec) (w : EW) : EW := fun xk ρ K => w xk ρ fun r ρ1 => stl r ρ1 fun d ρ2 => isObj c d ∧ callK sp [.ro d] ρ2 xk (okLen K)
/-! ### a == b, a + b of own instances -/
def eOwn2 (c : Nat) (sp : FSpec) (wa wb : EW) : EW := eTwo wa wb fun d1 d2 xk ρ K => isObj c d1 ∧ isObj c d2 ∧ callK sp [.ro d1, .ro d2] ρ xk K
/-! ### isinstance(o, C) of an own instance -/
def opIsC (c : Nat) : D → OW := fun d k => isObj c d ∧ k (.sh (.bl true))
/-! ### o.m(k = v, ..), C(k = v, ..) -/
/-- how the keywords bind, behind one value -/
structure KBm (K : PySem.W.Frag) (fd : FuncData) (ps ks : List Str) (p : List Nat) : Prop where
  to : ∀ (s : Shared) (u : Value) (ws : List Value), ws.length = ks.length → BindsTo s fd ⟨[u], ks.zip ws⟩ (ps.zip (u :: pm p ws))
def eMethP (c np : Nat) (p : List Nat) (sp : FSpec) (w : EW) (aw : AgW) : EW := fun xk ρ K => w xk ρ fun r ρ1 => stl r ρ1 fun d ρ2 => isObj c d ∧ aw xk ρ2 fun gs ρ3 => (gs.length + 1 = np ∧ (pm p gs).length + 1 = np) ∧ callK sp (.ro d :: pm p gs) ρ3 xk K
end
section
variable {X : Cx} {Z : Zone} {C : Ccs} {c k np : Nat} {fa : Addr} {fd : FuncData} {ps ks : List Str} {sp : FSpec} {aw : AgW} {x : Str} {pos px : Pos} {pr : List Nat} {kws : List PySem.Keyword}
def eMakeP (c np : Nat) (p : List Nat) (sp : FSpec) (aw : AgW) : EW := fun xk ρ K => aw xk ρ fun gs ρ1 => (gs.length + 1 = np ∧ (pm p gs).length + 1 = np) ∧ (boIx (pm p gs) ++ muIx (pm p gs)).Nodup ∧ tms (pm p gs) = 0 ∧
  argsK (pm p gs) ρ1 fun args => sp (.mu (.obj c []) :: args) (fun o ds => match o, ds with
    | .sh .non, d0 :: rest => (hasBo (pm p gs) = true → chFlat d0 = true ∧ noLstAll rest = true) ∧ ∀ a, K (.fr a d0) (upE (pm p gs) rest ρ1)
    | _, _ => False) (fun c d => xk c d ρ1)
end
end TL

namespace TL
open PySem PySem.Spec L2
section
variable {X : Cx} {Z : Zone} {e a b : Expr} {w wa wb : EW} {pos : Pos} {i : Nat}
/-! ### [..] * n, n a name -/
def eRepL (i : Nat) (wa : EW) : EW := fun xk ρ K => wa xk ρ fun r ρ1 => bound ρ1 i ∧ match r, getL ρ1 i with
  | .fr _ (.lst ds), .int k => (-(2 ^ 63) ≤ k ∧ k < 2 ^ 63 ∧ ds.length * k.toNat ≤ sizeLine) ∧ ∀ p, K (.fr p (.lst (List.replicate k.toNat ds).flatten)) ρ1
  | _, _ => False
theorem Reps.rep {cc : CC} {G : Hp} {vs : List V} {ds : List D} (r : Reps cc G vs ds) : ∀ n : Nat, Reps cc G (List.replicate n vs).flatten (List.replicate n ds).flatten
  | 0 => Reps.nil
  | n + 1 => by
    rw [List.replicate_succ, List.replicate_succ, List.flatten_cons, List.flatten_cons]
    exact r.append (Reps.rep r n)
theorem de_repL {x : Str} {px : Pos} (ha : PE X a (T Z wa)) (hN : X.N[i]? = some x := by rfl) (hv : Vis X.env.scope x := by first | exact Or.inl rfl | exact Or.inr (Or.inl rfl) | exact Or.inr (Or.inr rfl)) (hd : (x == ("__debug__" : Str)) = false := by decide)
    (hcd : (x == ("__classdict__" : Str)) = false := by decide) : PE X (.BinOp a .Mult (.Name x px) pos) (T Z (eRepL i wa)) :=
  pviaI (pe_op op_rep ha (pv i hN hv hd hcd)) fun σ H Q hlen ⟨ρ, G, K, IR, hw, q⟩ => ⟨ρ, G, _, IR, hw, fun r ρ1 x H1 G1 le1 I1 q1 ⟨hb, k1⟩ => by
    obtain ⟨u, eu⟩ := bound_get I1 (lt_lenN hlen hN) hb
    have vi := RvOk.view I1 (r := .loc i) (v := u) ⟨eu, hb⟩
    split at k1
    · rename_i ad ds k hk _
      obtain ⟨⟨h1, h2, h3⟩, k1⟩ := k1
      rw [show (Rv.loc i).get ρ1 = .int k from hk] at vi
      obtain ⟨rfl, ⟨vs, ha, rs⟩, _⟩ := q1
      refine ⟨u, eu, ad, k, vs, rfl, vi, ha, h1, h2, by rw [rs.length]; exact h3, fun p hp => ?_⟩
      exact (T.fin (o := .fr (.lst (List.replicate k.toNat ds).flatten)) I1 le1 k1 q) p _ hp ⟨_, upd_same, rs.rep _⟩
    · exact k1.elim⟩
/-! ### list(range(..)) -/
def rgD (i j : Int) : List D := (List.range (j - i).toNat).map fun k => D.int (i + (k : Nat))
def opLR1 : D → OW
  | .int j => fun k => L2.RgOk 0 j ∧ k (.fr (.lst (rgD 0 j)))
  | _ => fun _ => False
def opLR2 : D → D → OW
  | .int i, .int j => fun k => L2.RgOk i j ∧ k (.fr (.lst (rgD i j)))
  | _, _ => fun _ => False
end
end TL

namespace TL
open PySem PySem.Spec L2
section
variable {X : Cx} {Z : Zone} {e : Expr} {es : List Expr} {pos : Pos} {wr : DW}
/-! ### constants in a row -/
def dLit (ds : List D) (wr : DW) : DW := fun xk ρ K => wr xk ρ fun es ρ' => K (ds ++ es) ρ'
theorem da_lit0 (hr : PA X es (Ta Z wr)) : PA X es (Ta Z (dLit [] wr)) := hr
theorem da_lit {d : D} {ds : List D} (ha : PE X e (T Z (eC d))) (hr : PA X es (Ta Z (dLit ds wr))) (hs : starEach (e :: es) X.env = (false, eval e X.env) :: starEach es X.env := by rfl) : PA X (e :: es) (Ta Z (dLit (d :: ds) wr)) := da_cons ha hr hs
theorem de_tupC {x1} {ds : List D} (h : PA X es (Ta Z (dLit ds dNil))) (hl : ds.length ≤ 1000 := by decide) : PE X (.Tuple es x1 pos) (T Z (eC (.tup ds))) := by
  have e : eTup (dLit ds dNil) = fun xk ρ K => ds.length ≤ 1000 ∧ K (.sh (.tup ds)) ρ := by
    funext xk ρ K
    unfold eTup dLit dNil
    simp only [List.append_nil]
  have h2 := de_tup (x1 := x1) (pos := pos) h
  rw [e] at h2
  exact pvia h2 fun σ H Q ⟨ρ, G, K, IR, hk, q⟩ => ⟨ρ, G, K, IR, ⟨hl, hk⟩, q⟩
end
end TL

namespace TL
open PySem PySem.Spec L2
section
variable {X : Cx} {Z : Zone} {pos : Pos}
/-- a list unpacked into names -/
def gLs (n : Nat) (gs : GWs) : GW := fun d ρ K => match d with | .lst ds => ds.length = n ∧ gs ds ρ K | _ => False
end
end TL

namespace TL
open PySem PySem.Spec L2
/-! ### what raises nothing, within what may raise -/
abbrev Zone.z0 (Z : Zone) : Zone := { Z with xk := xk0 }
theorem SR.z0 {Z : Zone} {ρ : REnv} {G : Hp} {σ : L2.St} {H : Hp} (I : SR Z ρ G σ H) : SR Z.z0 ρ G σ H := ⟨I.len, I.sub, I.slot, I.inj, I.out, I.ent, I.frs, I.gnew, I.g0, I.mout, I.mux⟩
def e0 (w : EW) : EW := fun _ ρ K => w xk0 ρ K
def t0 (w : TW) : TW := fun _ ρ K => w xk0 ρ K
def d0 (w : DW) : DW := fun _ ρ K => w xk0 ρ K
def s0 (w : SW) : SW := fun _ ρ K => w xk0 ρ K
def i0 (w : IW) : IW := fun _ ρ K => w xk0 ρ K
section
variable {X : Cx} {Z : Zone} {e tg : Expr} {es : List Expr} {st : Stmt} {w : EW} {tw : TW} {dw : DW} {sw : SW} {iw : IW}
end
end TL

namespace TL
open PySem PySem.Spec L2
/-! ### what leaves a zone -/
section
variable {P : Program} {w : World} {K : PySem.W.Frag} {mg : Str → Option Value} {base : Heap} {C : Ccs} {sp : FSpec} {np k : Nat} {f : Addr} {fd : FuncData} {ps : List Str}
end
/-! ### raise -/
section
variable {P : Program} {w : World} {K : PySem.W.Frag} {mg : Str → Option Value} {base : Heap} {C : Ccs}
def sRaise (c : Nat) (we : EW) : SW := fun xk ρ _ => we xk ρ fun r ρ1 => stl r ρ1 fun d _ => xk c d []
end
end TL

namespace TL
open PySem PySem.Spec L2
/-! ### calls that may raise -/
def roA (ds : List D) : List Arg := ds.map Arg.ro
section
variable {Z : Zone} {ρ : REnv} {G H : Hp} {σ : L2.St}
end
/-- f(e, ..) of known values -/
def callX (sp : FSpec) (ds : List D) (ρ : REnv) (xk : Xk) (K : Rv → REnv → Prop) : Prop := sp (roA ds) (fun o _ => out o ρ K) (fun c d => xk c d [])
section
variable {X : Cx} {Z : Zone} {C : Ccs} {k c np : Nat} {f fa : Addr} {fd : FuncData} {ps ks : List Str} {sp : FSpec} {dw : DW} {x m : Str} {p pos apos px : Pos} {pr : List Nat} {e a b : Expr} {es : List Expr} {w wa wb : EW} {kws : List PySem.Keyword}
def eCallX (np : Nat) (sp : FSpec) (dw : DW) : EW := fun xk ρ K => dw xk ρ fun ds ρ1 => ds.length = np ∧ callX sp ds ρ1 xk K
/-- e.m(..) -/
def eMethX (c np : Nat) (sp : FSpec) (w : EW) (dw : DW) : EW := fun xk ρ K => w xk ρ fun r ρ1 => stl r ρ1 fun d ρ2 => isObj c d ∧ dw xk ρ2 fun ds ρ3 => ds.length + 1 = np ∧ callX sp (d :: ds) ρ3 xk K
/-- e.f, a property, of what may have raised -/
def ePropX (c : Nat) (sp : FSpec) (w : EW) : EW := fun xk ρ K => w xk ρ fun r ρ1 => stl r ρ1 fun d ρ2 => isObj c d ∧ callK sp [.ro d] ρ2 xk0 K
/-- C(..), the __init__ of which may raise -/
def eMakeX (c np : Nat) (sp : FSpec) (dw : DW) : EW := fun xk ρ K => dw xk ρ fun ds ρ1 => ds.length + 1 = np ∧ sp (.mu (.obj c []) :: roA ds) (fun o es => match o, es with
    | .sh .non, [d0] => ∀ a, K (.fr a d0) ρ1
    | _, _ => False) (fun c d => xk c d [])
/-- one + other, of own instances -/
def eOwn2X (c : Nat) (sp : FSpec) (wa wb : EW) : EW := eTwo wa wb fun d1 d2 xk ρ K => isObj c d1 ∧ isObj c d2 ∧ callX sp [d1, d2] ρ xk K
/-- f(k = v, ..) -/
def eCallXP (np : Nat) (p : List Nat) (sp : FSpec) (dw : DW) : EW := fun xk ρ K => dw xk ρ fun ds ρ1 => (ds.length = np ∧ (pm p ds).length = np) ∧ callX sp (pm p ds) ρ1 xk K
theorem Reps.at_ {cc : CC} {G : Hp} : ∀ {ds : List D} {vs : List V} (i : Nat), Reps cc G vs ds → (vs[i]? = none ∧ ds[i]? = none) ∨ ∃ v d, vs[i]? = some v ∧ ds[i]? = some d ∧ Rep cc G v d
  | [], vs, i, h => by rw [h.inv_nil]; exact .inl ⟨rfl, rfl⟩
  | d :: ds, vs, 0, h => by obtain ⟨v, r, rfl, a, q⟩ := h.inv_cons; exact .inr ⟨v, d, rfl, rfl, a⟩
  | d :: ds, vs, i + 1, h => by obtain ⟨v, r, rfl, a, q⟩ := h.inv_cons; simpa using Reps.at_ i q
end
end TL

namespace TL
open PySem PySem.Spec L2 PyProof.Rows
/-! ### try -/
def exn (c : Nat) (d : D) : D := .dct [.int ((c + 50 : Nat) : Int)] [d]
section
variable {X : Cx} {pins : List (Addr × Obj)} {σ : L2.St} {H : Hp} {s : Shared}
end
def hXk (n : Nat) (K : SK) : List (List Bool × Option Nat × SW) → Nat → D → Prop
  | [], _, _ => False
  | (m, o, sw) :: r, c, d => match m[c]? with
    | none => False
    | some false => hXk n K r c d
    | some true => match o with
      | none => sw xk0 (List.replicate n .no) { nx := K.nx, rt := fun _ _ => False }
      | some i => i < n ∧ sw xk0 ((List.replicate n .no).set i (.sh (exn c d))) { nx := fun ρ => K.nx (ρ.set i .no), rt := fun _ _ => False }
def sTry (b : SW) (hs : List (List Bool × Option Nat × SW)) : SW := fun _ ρ K => b (fun c d _ => hXk ρ.length K hs c d) ρ K
inductive HdT (C : Ccs) (X : Cx) : List ExceptHandler → List (List Bool × Option Nat × SW) → Prop
  | nil : HdT C X [] []
  | plain {x : Str} {C1 : Addr} {m : List Bool} {sw : SW} {b1 : Stmt} {su : List Stmt} {np pos' : Pos} {hds : List ExceptHandler} {l : List (List Bool × Option Nat × SW)} (hc : Names X x (.ref C1)) (hm : ∀ c b, m[c]? = some b → PySem.W.exmOne X.K (.ref (C.xc c)) (.ref C1) = some b)
      (hsu : ∀ (a : Addr) (pn : List (Addr × Obj)) (Z : Zone), Z.cc = C.cc → Z.xk = xk0 → PSs (X.suite a pn) (b1 :: su) (Ts Z sw)) (r : HdT C X hds l) : HdT C X (.ExceptHandler (some (.Name x np)) none (b1 :: su) pos' :: hds) ((m, none, sw) :: l)
  | named {x y : Str} {i : Nat} {C1 : Addr} {m : List Bool} {sw : SW} {b1 : Stmt} {su : List Stmt} {np pos' : Pos} {hds : List ExceptHandler} {l : List (List Bool × Option Nat × SW)} (hi : X.N[i]? = some y) (hl : X.env.kindOf y = some .local) (hc : Names X x (.ref C1)) (hm : ∀ c b, m[c]? = some b → PySem.W.exmOne X.K (.ref (C.xc c)) (.ref C1) = some b)
      (hsu : ∀ (a : Addr) (pn : List (Addr × Obj)) (Z : Zone), Z.cc = C.cc → Z.xk = xk0 → PSs (X.suite a pn) (b1 :: su) (Ts Z sw)) (r : HdT C X hds l) : HdT C X (.ExceptHandler (some (.Name x np)) (some y) (b1 :: su) pos' :: hds) ((m, some i, sw) :: l)
end TL

namespace TL
open PySem PySem.Spec L2 PyProof.Rows
section
variable {X : Cx} {Z : Zone} {C : Ccs} {body : List Stmt} {hd0 : ExceptHandler} {hds : List ExceptHandler} {b : SW} {ls : List (List Bool × Option Nat × SW)} {pos : Pos}
end
end TL

namespace TL
open PySem PySem.Spec L2 PyProof.Rows
/-! ### what a caught error tells -/
structure XcF (K : PySem.W.Frag) (C1 : Addr) : Prop where
  ga : PySem.W.findIn K (.ref C1) "__getattribute__" = some (some (.builtin "BaseException.__getattribute__"))
  gg : PySem.W.findIn K (.ref C1) "__getattr__" = some none
  sb : PySem.W.subIn K (.ref C1) (.type "BaseException") = some true
  hd : PySem.W.hasDictIn K C1 = true
  nv : PySem.W.findIn K (.ref C1) "value" = some none
  cl : PySem.W.findIn K (.ref C1) "__class__" = some (some (.builtin "object.__class__"))
  gt : PySem.W.specialIn K (.builtin "object.__class__") "__get__" = some (some (.builtin "getset_descriptor.__get__"))
  tk : PySem.W.takesIn K (.builtin "object.__class__") = some true
  mo : PySem.W.mroIn K C1 (.type "object") = some true
def opXv (n : Nat) : D → OW
  | .dct [.int j] [d] => fun k => (50 ≤ j ∧ j.toNat - 50 < n) ∧ k (.sh d)
  | _ => fun _ => False
def opIsX (bs : List Bool) : D → OW
  | .dct [.int j] _ => fun k => 50 ≤ j ∧ match bs[j.toNat - 50]? with
    | some b => k (.sh (.bl b))
    | none => False
  | _ => fun _ => False
theorem opXv_exn {n c : Nat} {d : D} {k : Ro → Prop} : opXv n (exn c d) k = (c < n ∧ k (.sh d)) := by
  unfold opXv exn
  have e : (((c + 50 : Nat) : Int).toNat - 50) = c := by omega
  have h : (50 : Int) ≤ ((c + 50 : Nat) : Int) := by omega
  simp only [e, h, true_and]
theorem opIsX_exn {bs : List Bool} {c : Nat} {d : D} {k : Ro → Prop} : opIsX bs (exn c d) k = (match bs[c]? with
    | some b => k (.sh (.bl b))
    | none => False) := by
  unfold opIsX exn
  have e : (((c + 50 : Nat) : Int).toNat - 50) = c := by omega
  simp only [e]
  have h : (50 : Int) ≤ ((c + 50 : Nat) : Int) := by omega
  simp only [h, true_and]
section
variable {X : Cx} {pins : List (Addr × Obj)} {σ : L2.St} {H : Hp} {s : Shared}
end
section
variable {X : Cx} {Z : Zone} {e : Expr} {w : EW} {pos p p2 : Pos} {n : Nat} {bs : List Bool}
end
end TL

namespace TL
open PySem PySem.Spec L2
section
variable {X : Cx} {Z : Zone} {e : Expr} {w : EW} {wd : DW} {kws : List PySem.Keyword} {nm : Option Str} {kpos : Pos}
/-! ### the words, for simp -/
theorem e0_is {xk : Xk} {ρ : REnv} {K : Rv → REnv → Prop} : e0 w xk ρ K = w xk0 ρ K := rfl
theorem t0_is {tw : TW} {xk : Xk} {ρ : REnv} {K : Bool → REnv → Prop} : t0 tw xk ρ K = tw xk0 ρ K := rfl
theorem d0_is {xk : Xk} {ρ : REnv} {K : List D → REnv → Prop} : d0 wd xk ρ K = wd xk0 ρ K := rfl
theorem s0_is {sw : SW} {xk : Xk} {ρ : REnv} {K : SK} : s0 sw xk ρ K = sw xk0 ρ K := rfl
theorem i0_is {iw : IW} {xk : Xk} {ρ : REnv} {K : Nat → (Nat → D → Prop) → (REnv → Prop) → REnv → Prop} : i0 iw xk ρ K = iw xk0 ρ K := rfl
theorem hXk_n {n : Nat} {K : SK} {m : List Bool} {sw : SW} {r : List (List Bool × Option Nat × SW)} {c : Nat} {d : D} : hXk n K ((m, none, sw) :: r) c d = (match m[c]? with
    | none => False
    | some false => hXk n K r c d
    | some true => sw xk0 (List.replicate n .no) { nx := K.nx, rt := fun _ _ => False }) := rfl
theorem hXk_s {n i : Nat} {K : SK} {m : List Bool} {sw : SW} {r : List (List Bool × Option Nat × SW)} {c : Nat} {d : D} : hXk n K ((m, some i, sw) :: r) c d = (match m[c]? with
    | none => False
    | some false => hXk n K r c d
    | some true => i < n ∧ sw xk0 ((List.replicate n .no).set i (.sh (exn c d))) { nx := fun ρ => K.nx (ρ.set i .no), rt := fun _ _ => False }) := rfl
end
end TL

namespace TL
open PySem PySem.Spec L2
/-! ### sorted(xs), of ints -/
end TL

namespace TL
open PySem PySem.Spec L2
section
variable {X : Cx} {Z : Zone} {e : Expr} {w : EW} {pos : Pos}
/-! ### xs.extend(a new list) -/
def sExt (j : Nat) (w : EW) : SW := fun xk ρ K => (∃ m a ds, ρ[j]? = some (.own m a (.lst ds))) ∧ w xk ρ fun r ρ1 => match r, ρ1[j]? with
  | .fr _ (.lst es), some (.own m a (.lst ds)) => ds.length + es.length ≤ sizeLine ∧ K.nx (ρ1.set j (.own m a (.lst (ds ++ es))))
  | _, _ => False
end
end TL

namespace TL
open PySem PySem.Spec L2
theorem room65 {k : Nat} {A : Around} (r : Room k A) : A.units + 65 < cLine := by have := r.un; omega
theorem pds_map : ∀ ds : List D, pds ds = ds.map pd
  | [] => by unfold pds; rfl
  | d :: ds => by unfold pds; rw [pds_map ds]; rfl
theorem pd_lst {ds : List D} : pd (.lst ds) = .list (pds ds) := by simp only [pd]
/-! ### x in xs, x not in xs -/
def opNotIn : D → D → OW
  | d, .lst ds => fun k => (okD 64 d = true ∧ okD 64 (.lst ds) = true) ∧ k (.sh (.bl (!ds.any fun z => eqD z d)))
  | _, _ => fun _ => False
theorem any_pds {ds : List D} {d : D} : ((pds ds).any fun z => PyData.eqv z (pd d)) = ds.any fun z => eqD z d := by
  rw [pds_map, List.any_map]
  rfl
section
variable {cc : CC}
theorem ops_notIn {K : PySem.W.Frag} (hK : cc.K = K) : OpS cc opNotIn (rNotInD K) := by
  subst hK
  intro G H x y d e k Q le v1 v2 r1 r2 ho fin
  cases e <;> try exact (ho : False).elim
  rename_i ds
  obtain ⟨⟨o1, o2⟩, hk⟩ : (okD 64 d = true ∧ okD 64 (.lst ds) = true) ∧ _ := ho
  have dl := okD_dp o2 r2
  have sl := okD_shaped o2
  rw [pd_lst] at dl sl
  refine ⟨pd d, pds ds, okD_dp o1 r1, dl, okD_shaped o1, sl, ?_⟩
  rw [any_pds]; exact (fin _ hk).1 _ rep_bl
/-! ### any(xs), tuple(xs) -/
def opAny : D → OW
  | .lst ds => fun k => ∃ bs : List Bool, ds = bs.map D.bl ∧ k (.sh (.bl (bs.any id)))
  | _ => fun _ => False
def opTup : D → OW
  | .lst ds => fun k => k (.sh (.tup ds))
  | _ => fun _ => False
end
section
variable {X : Cx} {Z : Zone} {a b e : Expr} {wa wb w : EW} {pos : Pos}
/-! ### xs.pop(i), as a value -/
/-! ### xs.index(y) -/
end
end TL

namespace TL
open PySem PySem.Spec L2
/-! ### [elt for tg in iter for tg1 in iter1] -/
section
variable {X : Cx} {Z : Zone}
/-! ### is True, is not False -/
def opIsB (c : Bool) : D → OW
  | .bl b => fun k => k (.sh (.bl (decide (b = c))))
  | _ => fun _ => False
def opNotB (c : Bool) : D → OW
  | .bl b => fun k => k (.sh (.bl (!decide (b = c))))
  | _ => fun _ => False
theorem isB_b {c b : Bool} {k : Ro → Prop} : opIsB c (.bl b) k = k (.sh (.bl (decide (b = c)))) := rfl
theorem notB_b {c b : Bool} {k : Ro → Prop} : opNotB c (.bl b) k = k (.sh (.bl (!decide (b = c)))) := rfl
theorem notIn_l {d : D} {ds : List D} {k : Ro → Prop} : opNotIn d (.lst ds) k = ((okD 64 d = true ∧ okD 64 (.lst ds) = true) ∧ k (.sh (.bl (!ds.any fun z => eqD z d)))) := rfl
theorem any_l {ds : List D} {k : Ro → Prop} : opAny (.lst ds) k = ∃ bs : List Bool, ds = bs.map D.bl ∧ k (.sh (.bl (bs.any id))) := rfl
theorem tup_l {ds : List D} {k : Ro → Prop} : opTup (.lst ds) k = k (.sh (.tup ds)) := rfl
end
end TL

namespace TL
open PySem PySem.Spec PyProof.Rows L2
/-! ### ranges whose ends have any size -/
section
variable {X : Cx} {Z : Zone} {tg : Expr}
def iRL (wd : DW) : IW := fun xk ρ K => wd xk ρ fun ds ρ1 => match ds with
  | [.int i, .int j] => K (j - i).toNat (fun k d => d = .int (i + k)) (fun _ => True) ρ1
  | _ => False
end
end TL

namespace TL
open PySem PySem.Spec L2
/-! ### texts -/
def strI (i : Int) : Str := toString i
/-! ### str(n), {x} -/
def opStr : D → OW
  | .int i => fun k => i.natAbs.log2 < 1920 ∧ k (.sh (.str (strI i)))
  | _ => fun _ => False
def opFmt : D → OW
  | .str y => fun k => y.length ≤ sizeLine ∧ k (.sh (.str y))
  | .int i => fun k => i.natAbs.log2 < 1920 ∧ k (.sh (.str (strI i)))
  | _ => fun _ => False
section
variable {X : Cx} {Z : Zone} {e a b : Expr} {w wa wb : EW} {pos : Pos}
/-! ### f-strings -/
inductive DJ (X : Cx) (Z : Zone) : List Expr → List EW → Prop where
  | nil : DJ X Z [] []
  | cons {e : Expr} {w : EW} {es : List Expr} {ws : List EW} (h : PE X e (T Z w)) (r : DJ X Z es ws) : DJ X Z (e :: es) (w :: ws)
/-! ### sep.join(xs) -/
end
theorem str_i {i : Int} {k : Ro → Prop} : opStr (.int i) k = (i.natAbs.log2 < 1920 ∧ k (.sh (.str (strI i)))) := rfl
theorem fmt_i {i : Int} {k : Ro → Prop} : opFmt (.int i) k = (i.natAbs.log2 < 1920 ∧ k (.sh (.str (strI i)))) := rfl
theorem fmt_s {i : Str} {k : Ro → Prop} : opFmt (.str i) k = (i.length ≤ sizeLine ∧ k (.sh (.str i))) := rfl
end TL

namespace TL
open PySem PySem.Spec L2
section
variable {X : Cx} {Z : Zone} {a b : Expr} {wa wb : EW} {pos : Pos}
/-! ### xs * n, xs new or a name's own -/
end
end TL

namespace TL
open PySem PySem.Spec L2
/-! ### dicts: keys and values as trees -/
theorem eqD_key : ∀ a b : Key, eqD (keyD a) (keyD b) = decide (a = b)
  | .inl a, .inl b => by
    show PyData.eqv (.int a) (.int b) = _
    simp only [PyData.eqv]
    rw [Bool.eq_iff_iff]
    simp
  | .inr a, .inr b => by
    show PyData.eqv (.str a) (.str b) = _
    simp only [PyData.eqv]
    rw [Bool.eq_iff_iff]
    simp
  | .inl a, .inr b => by
    rw [decide_eq_false (by intro h; cases h)]
    rfl
  | .inr a, .inl b => by
    rw [decide_eq_false (by intro h; cases h)]
    rfl
theorem eqDs_keys : ∀ a b : List Key, eqDs (a.map keyD) (b.map keyD) = decide (a = b)
  | [], [] => rfl
  | [], b :: bs => by rw [decide_eq_false (by simp)]; rfl
  | a :: as, [] => by rw [decide_eq_false (by simp)]; rfl
  | a :: as, b :: bs => by
    have e : eqDs ((a :: as).map keyD) ((b :: bs).map keyD) = (eqD (keyD a) (keyD b) && eqDs (as.map keyD) (bs.map keyD)) := rfl
    rw [e, eqD_key, eqDs_keys as bs, Bool.eq_iff_iff]
    simp
theorem eqD_tkey (a b : List Key) : eqD (.tup (a.map keyD)) (.tup (b.map keyD)) = decide (a = b) := by
  have e : eqD (.tup (a.map keyD)) (.tup (b.map keyD)) = eqDs (a.map keyD) (b.map keyD) := rfl
  rw [e, eqDs_keys]
/-- what a dict holds at a key -/
def valD : List D → List D → D → Option D
  | k :: ks, d :: ds, y => if eqD k y then some d else valD ks ds y
  | _, _, _ => none
/-- the keys, the values behind d[y] = v -/
def putKD : List D → D → List D
  | [], y => [y]
  | k :: ks, y => if eqD k y then k :: ks else k :: putKD ks y
def putVD : List D → List D → D → D → List D
  | k :: ks, d :: ds, y, v => if eqD k y then v :: ds else d :: putVD ks ds y v
  | _, _, _, v => [v]
section
variable {cc : CC} {G : Hp} {κ : Type} [DecidableEq κ] {f : κ → D}
theorem val_rel (hf : ∀ a b, eqD (f a) (f b) = decide (a = b)) (y : κ) : ∀ {kk : List κ} {vs : List V} {ds : List D}, kk.length = vs.length → Reps cc G vs ds →
    (∀ d, valD (kk.map f) ds (f y) = some d → ∃ v, valV (kk.zip vs) y = some v ∧ Rep cc G v d) ∧ (valD (kk.map f) ds (f y) = none → valV (kk.zip vs) y = none)
  | [], [], ds, _, r => ⟨fun d h => (by unfold valD at h; cases h), fun _ => rfl⟩
  | [], _ :: _, _, h, _ => by simp at h
  | _ :: _, [], _, h, _ => by simp at h
  | k :: kk, v :: vs, ds, h, r => by
    cases ds with
    | nil => exact absurd r.length (by simp)
    | cons d ds =>
      obtain ⟨v', r', e, ra, rr⟩ := r.inv_cons
      cases e
      have ih := val_rel hf y (kk := kk) (vs := vs) (ds := ds) (by simpa using h) rr
      have e0 : valD ((k :: kk).map f) (d :: ds) (f y) = if decide (k = y) = true then some d else valD (kk.map f) ds (f y) := by
        show (if eqD (f k) (f y) = true then some d else valD (kk.map f) ds (f y)) = _
        rw [hf]
      rw [e0]
      show (∀ d', (if decide (k = y) = true then some d else valD (kk.map f) ds (f y)) = some d' → ∃ v', valV ((k, v) :: kk.zip vs) y = some v' ∧ Rep cc G v' d') ∧ ((if decide (k = y) = true then some d else valD (kk.map f) ds (f y)) = none → valV ((k, v) :: kk.zip vs) y = none)
      by_cases e : k = y
      · rw [valV_pos (p := (k, v)) e, decide_eq_true e]
        refine ⟨fun d' h' => ?_, fun h' => ?_⟩
        · rw [if_pos rfl] at h'
          cases h'
          exact ⟨v, rfl, ra⟩
        · rw [if_pos rfl] at h'
          cases h'
      · rw [valV_neg (p := (k, v)) e, decide_eq_false e]
        simp only [Bool.false_eq_true, if_false]
        exact ih
theorem putK_neg {p : κ × V} {r : List (κ × V)} {y : κ} {v : V} (e : ¬ p.1 = y) : putK (p :: r) y v = p :: putK r y v := by
  unfold putK
  rw [List.any_cons, decide_eq_false e, Bool.false_or]
  split
  · rw [List.map_cons, if_neg e]
  · rfl
theorem putK_pos {k : κ} {u v : V} {r : List (κ × V)} (h : ∀ p ∈ r, ¬ p.1 = k) : putK ((k, u) :: r) k v = (k, v) :: r := by
  unfold putK
  rw [List.any_cons, decide_eq_true rfl, Bool.true_or, if_pos rfl, List.map_cons, if_pos rfl]
  congr 1
  have : r.map (fun kv => if kv.1 = k then (kv.1, v) else kv) = r.map id := List.map_congr_left fun p hp => by
    rw [if_neg (h p hp)]
    rfl
  rw [this, List.map_id]
theorem zip_key {kk : List κ} {vs : List V} {k : κ} (h : ¬ k ∈ kk) : ∀ p ∈ kk.zip vs, ¬ p.1 = k := fun p hp e => h (by
  rw [← e]
  exact (List.of_mem_zip hp).1)
/-- behind d[y] = v: its pairs -/
theorem put_rel (hf : ∀ a b, eqD (f a) (f b) = decide (a = b)) (y : κ) {v : V} {d : D} (rv : Rep cc G v d) : ∀ {kk : List κ} {vs : List V} {ds : List D}, kk.length = vs.length → kk.Nodup → Reps cc G vs ds →
    ∃ (kk' : List κ) (vs' : List V), putKD (kk.map f) (f y) = kk'.map f ∧ kk'.length = vs'.length ∧ kk'.Nodup ∧ (∀ x, x ∈ kk' → x ∈ kk ∨ x = y) ∧ putK (kk.zip vs) y v = kk'.zip vs' ∧ Reps cc G vs' (putVD (kk.map f) ds (f y) d)
  | [], [], ds, _, _, r => by
    have : ds = [] := by cases ds with | nil => rfl | cons d ds => exact absurd r.length (by simp)
    subst this
    exact ⟨[y], [v], rfl, rfl, by simp, fun x hx => .inr (List.mem_singleton.mp hx), rfl, Reps.cons rv Reps.nil⟩
  | [], _ :: _, _, h, _, _ => by simp at h
  | _ :: _, [], _, h, _, _ => by simp at h
  | k :: kk, u :: vs, ds, h, hn, r => by
    cases ds with
    | nil => exact absurd r.length (by simp)
    | cons e ds =>
      obtain ⟨v', r', e1, ra, rr⟩ := r.inv_cons
      cases e1
      obtain ⟨n1, n2⟩ := List.nodup_cons.mp hn
      have ek : putKD ((k :: kk).map f) (f y) = if decide (k = y) = true then f k :: kk.map f else f k :: putKD (kk.map f) (f y) := by
        show (if eqD (f k) (f y) = true then f k :: kk.map f else f k :: putKD (kk.map f) (f y)) = _
        rw [hf]
      have ev : putVD ((k :: kk).map f) (e :: ds) (f y) d = if decide (k = y) = true then d :: ds else e :: putVD (kk.map f) ds (f y) d := by
        show (if eqD (f k) (f y) = true then d :: ds else e :: putVD (kk.map f) ds (f y) d) = _
        rw [hf]
      rw [ek, ev]
      by_cases hk : k = y
      · subst hk
        rw [decide_eq_true rfl, if_pos rfl, if_pos rfl]
        refine ⟨k :: kk, v :: vs, rfl, by simpa using h, hn, fun x hx => .inl hx, ?_, Reps.cons rv rr⟩
        exact putK_pos (zip_key n1)
      · rw [decide_eq_false hk]
        obtain ⟨kk', vs', a1, a2, a3, a4, a5, a6⟩ := put_rel hf y rv (kk := kk) (vs := vs) (ds := ds) (by simpa using h) n2 rr
        refine ⟨k :: kk', u :: vs', by simp [a1], by simp [a2], List.nodup_cons.mpr ⟨fun hm => (a4 k hm).elim n1 hk, a3⟩, fun x hx => ?_, ?_, Reps.cons ra a6⟩
        · rcases List.mem_cons.mp hx with h | h
          · exact .inl (by rw [h]; exact List.mem_cons_self)
          · exact (a4 x h).imp (List.mem_cons_of_mem _) id
        · show putK ((k, u) :: kk.zip vs) y v = (k, u) :: kk'.zip vs'
          rw [putK_neg (p := (k, u)) hk, a5]
end
theorem rep_key {cc : CC} {H : Hp} {y : V} : ∀ {k : Key}, Rep cc H y (keyD k) → y = kV k
  | .inl i, r => by unfold keyD Rep at r; exact r
  | .inr x, r => by unfold keyD Rep at r; exact r
theorem reps_keys {cc : CC} {H : Hp} : ∀ {kt : List Key} {vs : List V}, Reps cc H vs (kt.map keyD) → vs = kt.map kV
  | [], vs, r => r.inv_nil
  | k :: kt, vs, r => by
    obtain ⟨v, r', rfl, ra, rr⟩ := r.inv_cons
    rw [rep_key ra, reps_keys rr]
    rfl
/-- a key of a dict of the kind m -/
def KeyD (m : Bool) (k : D) : Prop := if m = true then ∃ kt : List Key, k = .tup (kt.map keyD) else ∃ kk : Key, k = keyD kk
theorem key_i (i : Int) : KeyD false (.int i) := ⟨.inl i, rfl⟩
/-- behind d[y] = v -/
theorem DctO.put {cc : CC} {G H : Hp} {a : Addr} {m : Bool} {ks ds : List D} {vs : List V} {y v : V} {k d : D} (r : DctO H a (.bl m :: ks) vs) (rs : Reps cc G vs ds) (ry : Rep cc H y k) (hk : KeyD m k) (rv : Rep cc G v d) (hl : ds.length < sizeLine) :
    ∃ (o : HO) (vs' : List V), DPut H a y v (upd H a o) ∧ DctO (upd H a o) a (.bl m :: putKD ks k) vs' ∧ Reps cc G vs' (putVD ks ds k d) := by
  rw [← rs.length] at hl
  rcases r with ⟨kk, e, h2, h3, h4⟩ | ⟨kt, e, h2, h3, h4⟩
  · cases e
    obtain ⟨k0, rfl⟩ : ∃ kk : Key, k = keyD kk := hk
    obtain ⟨kk', vs', a1, a2, a3, a4, a5, a6⟩ := put_rel (cc := cc) (G := G) eqD_key k0 rv h2 h3 rs
    refine ⟨.dK (kk'.zip vs'), vs', .inl ⟨_, k0, h4, rep_key ry, by rw [List.length_zip]; omega, by rw [a5]⟩, .inl ⟨kk', by rw [a1], a2, a3, upd_same⟩, a6⟩
  · cases e
    obtain ⟨kt0, rfl⟩ : ∃ kt : List Key, k = .tup (kt.map keyD) := hk
    obtain ⟨kk', vs', a1, a2, a3, a4, a5, a6⟩ := put_rel (cc := cc) (G := G) (f := fun k : List Key => D.tup (k.map keyD)) eqD_tkey kt0 rv h2 h3 rs
    unfold Rep at ry
    obtain ⟨b, ws, rfl, hb, rw'⟩ := ry
    rw [reps_keys rw'] at hb
    refine ⟨.dT (kk'.zip vs'), vs', .inr ⟨_, kt0, b, h4, rfl, hb, by rw [List.length_zip]; omega, by rw [a5]⟩, .inr ⟨kk', by rw [a1], a2, a3, upd_same⟩, a6⟩
section
variable {X : Cx} {Z : Zone} {a b e : Expr} {wa wb w : EW} {pos : Pos}
/-! ### d[k] -/
def eDGet (wd wk : EW) : EW := fun xk ρ K => wd xk ρ fun r1 ρ1 => wk xk ρ1 fun r2 ρ2 => pok r1 ρ2 ∧ match r1.get ρ2 with
  | .dic (.bl m :: ks) ds => KeyD m (r2.get ρ2) ∧ ∃ d, valD ks ds (r2.get ρ2) = some d ∧ K (.sh d) ρ2
  | _ => False
/-! ### a new dict -/
def eDNew (m : Bool) : EW := fun _ ρ K => ∀ p, K (.fr p (.dic [.bl m] [])) ρ
theorem de_dnewK : PE X (.Dict [] [] pos) (T Z (eDNew false)) :=
  ⟨fun pins s σ H Q I ⟨ρ, G, K, IR, hw, q⟩ => pe_dnewK.run pins s σ H Q I fun p hp =>
    q (.fr p (.dic [.bl false] [])) ρ _ _ G (LE.refl G) (IR.newH hp) ⟨rfl, ⟨[], .inl ⟨[], rfl, rfl, by simp, upd_same⟩, Reps.nil⟩, IR.g hp, fun i m b e h => IR.own_ne h hp, (IR.h0 hp).1, (IR.h0 hp).2⟩ (hw p)⟩
/-! ### d[k] = v -/
def sDSet (j : Nat) (wi w : EW) : SW := fun xk ρ K => w xk ρ fun r ρ1 => stl r ρ1 fun d ρ2 => bound ρ2 j ∧ wi xk ρ2 fun ri ρ3 => match ρ3[j]? with
  | some (.own m a (.dic (.bl t :: ks) ds)) => KeyD t (ri.get ρ3) ∧ ds.length < sizeLine ∧ K.nx (ρ3.set j (.own m a (.dic (.bl t :: putKD ks (ri.get ρ3)) (putVD ks ds (ri.get ρ3) d))))
  | _ => False
/-! ### d.get(k, e) -/
def isDc : D → Prop
  | .dic _ _ => True
  | _ => False
def eDGet2 (wd wk we : EW) : EW := fun xk ρ K => wd xk ρ fun r1 ρ1 => isDc (r1.get ρ1) ∧ wk xk ρ1 fun r2 ρ2 => we xk ρ2 fun r3 ρ3 => pok r1 ρ3 ∧ pok r2 ρ3 ∧ match r1.get ρ3 with
  | .dic (.bl m :: ks) ds => KeyD m (r2.get ρ3) ∧ (∀ d, valD ks ds (r2.get ρ3) = some d → K (.sh d) ρ3) ∧ (valD ks ds (r2.get ρ3) = none → K r3 ρ3)
  | _ => False
theorem DctR.isD {H : Hp} {a : Addr} {ks : List D} {vs : List V} (r : DctR H a ks vs) : IsD H a := by
  rcases r with ⟨kk, e, h2, h3, h4⟩ | ⟨kt, e, h2, h3, h4⟩
  · exact .inl ⟨_, h4⟩
  · exact .inr ⟨_, h4⟩
/-! ### a name gives its own object away -/
def eTake (j : Nat) : EW := fun _ ρ K => match ρ[j]? with
  | some (.own false a d) => K (.fr a d) (ρ.set j .no)
  | _ => False
end
end TL

namespace TL
open PySem PySem.Spec L2
/-! ### a locked dict is let go -/
section
variable {cc : CC} {G : Hp} {d : Addr} {od : Obj} {u : HO}
end
section
variable {Z : Zone} {ρ : REnv} {G H : Hp} {σ : L2.St} {d : Addr} {od : Obj} {u : HO}
end
end TL

namespace TL
open PySem PySem.Spec L2
/-! ### a loop over a dict -/
section
variable {X : Cx} {Z : Zone} {pos : Pos} {sb : SW}
end
end TL

namespace TL
open PySem PySem.Spec L2
theorem room1 {k : Nat} {A : Around} (r : Room k A) : A.units + 1 < cLine := by have := r.un; omega
/-! ### {k: v}, both constants -/
section
variable {X : Cx} {Z : Zone} {pos : Pos}
def eDisp1 (k : Key) (d : D) : EW := fun _ ρ K => ∀ p, K (.fr p (.dic [.bl false, keyD k] [d])) ρ
end
end TL

namespace TL
open PySem PySem.Spec L2
/-! ### [elt for tg in d if t], the dict a name's own -/
section
end
section
variable {X : Cx} {Z : Zone}
end
end TL

namespace TL
open PySem L2
/-! ### a table of counts: (key, count) -/
def wsum (φ : Int → Int) (m : List (Int × Int)) : Int := (m.map fun p => p.2 * φ p.1).sum
/-- the table of a list of products -/
def Tab (m : List (Int × Int)) (L : List Int) : Prop := (m.map Prod.fst).Nodup ∧ ∀ φ : Int → Int, wsum φ m = (L.map φ).sum
theorem Tab.sum {m : List (Int × Int)} {L : List Int} (h : Tab m L) : (m.map Prod.snd).sum = (L.length : Int) := by
  have h1 := h.2 (fun _ => 1)
  have e1 : wsum (fun _ => 1) m = (m.map Prod.snd).sum := by simp [wsum]
  have e2 : ∀ L : List Int, (L.map fun _ => (1 : Int)).sum = (L.length : Int) := by
    intro L
    induction L with
    | nil => rfl
    | cons a L ih => simp only [List.map_cons, List.sum_cons, ih, List.length_cons]; omega
  rw [← e1, h1, e2]
end TL

namespace TL
open PySem L2
/-! ### a table of counts as a dict -/
theorem eqD_ii (a b : Int) : eqD (.int a) (.int b) = decide (a = b) := by
  have h := eqD_key (.inl a) (.inl b)
  have e : ((.inl a : Key) = .inl b) = (a = b) := by
    apply propext
    exact ⟨fun z => by cases z; rfl, fun z => by rw [z]⟩
  simp only [e] at h
  exact h
end TL

namespace TL
open PySem PySem.Spec L2
/-! ### {k: v}, the key a tuple of ints and texts -/
section
variable {prog : Program} {w : World} {κ : Type} [DecidableEq κ] {knd : HeapKind prog w κ} {A : Around} {E : Value → Shared → Prop} {s : Shared}
end
/-! ### d.setdefault(y, z), keys of any kind -/
def SetdOk (H : Hp) (a : Addr) (y z : V) (Q : VK) : Prop :=
  (∃ (kvs : List (Key × V)) (k : Key), H a = some (.dK kvs) ∧ y = kV k ∧ kvs.length < sizeLine ∧ (∀ v, valV kvs k = some v → Q v H) ∧ (valV kvs k = none → Q z (upd H a (.dK (putK kvs k z))))) ∨
  (∃ (kvs : List (List Key × V)) (k : List Key) (b : Addr), H a = some (.dT kvs) ∧ y = .ref b ∧ H b = some (.tup (k.map kV)) ∧ kvs.length < sizeLine ∧ (∀ v, valV kvs k = some v → Q v H) ∧ (valV kvs k = none → Q z (upd H a (.dT (putK kvs k z)))))
section
variable {X : Cx} {pins : List (Addr × Obj)} {σ : L2.St} {H : Hp} {s : Shared} {a : Addr} {u r : Value} {y d : V} {A : Around} {E : Value → Shared → Prop}
theorem d_setdA {Q0 : VK} {Q : Value → Shared → Prop} (hu : A.units + 1 < cLine) (I : Inv X pins σ H s) (g : SetdOk H a y d Q0) (ry : RelV y u) (rd : RelV d r)
    (h : ∀ (v : V) (H' : Hp) (w' : Value) (s' : Shared), Q0 v H' → Inv X pins σ H' s' → RelV v w' → Q w' s') :
    wpAny (model X.prog X.w) A (call (.builtin "dict.setdefault") [.ref a, u, r]) Q E s := by
  rcases g with ⟨kvs, k, e, ey, l, q1, q2⟩ | ⟨kvs, k, b, e, ey, eb, l, q1, q2⟩
  · subst ey
    exact d_setd I e ry rd l (fun v hv w' s' I' r' => h v _ w' s' (q1 v hv) I' r') fun hn w' s' I' r' => h d _ w' s' (q2 hn) I' r'
  · subst ey
    cases (show u = Value.ref b from ry)
    obtain ⟨z, hd, xs, rel, dd⟩ := dt_of I.hok e
    have hz : xs.length ≤ sizeLine := by rw [← Paired.length rel]; exact z
    have hl : (putK kvs k d).length ≤ sizeLine := by have := length_putK kvs k d; omega
    refine call_setdefault_heap (hsz := hz) (knd := tupleKind (mixKind X.prog X.w)) (tupleKind_room_in1 hu) (key_of I.hok eb) hd dd (fun p hp => ?_) fun hn h' dd' hs => ?_
    · have q := rel.val k
      rw [hp] at q
      cases q0 : valV kvs k with
      | none => rw [q0] at q; exact (show False from q).elim
      | some v0 => rw [q0] at q; exact h v0 _ _ _ (q1 v0 q0) (I.tok _) q
    · have q := rel.val k
      rw [hn] at q
      cases q0 : valV kvs k with
      | some v0 => rw [q0] at q; exact (show False from q).elim
      | none =>
        obtain ⟨q, es, ep, hq, h2, h3, h4, _, h5⟩ := dd'
        refine h d _ _ _ (q2 q0) (d_write I (by rw [e]; exact True.intro) hs ⟨q, hq⟩ ⟨hl, hd, _, (rel.put k eb rd).keeps fun c ys ec => ?_, q, es, ep, hq, h2, h3, h4, h5⟩) rd
        rw [upd_ne (ne_of ec e (fun z => nomatch z))]
        exact ec
end
def tDSetdA (td ty tx : TE) : TE := fun σ H Q => td σ H fun x H1 => ∃ a, x = .ref a ∧ IsD H1 a ∧ ty σ H1 fun y H2 => tx σ H2 fun z H3 => SetdOk H3 a y z Q
theorem pe_dsetdA {X : Cx} {o e f : Expr} {td ty tx : TE} {apos cpos : Pos} (hu : X.A.units + 1 < cLine) (ho : PE X o td) (he : PE X e ty) (hf : PE X f tx) (m : M2 X o "setdefault" apos e f cpos) : PE X (.Call (.Attribute o "setdefault" apos) [e, f] [] cpos) (tDSetdA td ty tx) := by
  refine ⟨fun pins s σ H Q I h => ?_⟩
  refine wpAny_Call_method m.base m.few m.line PySem.F.plainAttrs_dict PySem.F.slot_dict_setdefault PySem.F.type_dict_setdefault (thn (ho.run pins s σ H _ I h) fun u s1 ⟨x, H1, I1, rx, a, ex, d, q1⟩ => ?_)
  subst ex
  obtain rfl : u = Value.ref a := rx
  obtain ⟨t1, t2, _⟩ := isD_at I1 d
  refine ⟨t1, t2, ?_⟩
  rw [m.trees]
  refine Calls.callWith_builtin rfl (Calls.evalArgs_plain (Calls.spliced_cons (thn (he.run pins s1 σ H1 _ I1 q1) fun iv s2 ⟨y, H2, I2, ry, q2⟩ =>
    Calls.spliced_cons (thn (hf.run pins s2 σ H2 _ I2 q2) fun fv s3 ⟨z, H3, I3, rz, g⟩ => Calls.spliced_nil ?_))))
  exact d_setdA hu I3 g ry rz fun v H' w' s' q I' r' => ⟨v, H', I', r', q⟩
/-! ### over trees -/
theorem DctO.setd {cc : CC} {G H : Hp} {a : Addr} {m : Bool} {ks ds : List D} {vs : List V} {y z : V} {k d : D} {Q : VK} (r : DctO H a (.bl m :: ks) vs) (rs : Reps cc G vs ds) (ry : Rep cc H y k) (hk : KeyD m k) (rv : Rep cc G z d) (hl : ds.length < sizeLine)
    (h1 : ∀ e v, valD ks ds k = some e → Rep cc G v e → Q v H) (h2 : valD ks ds k = none → ∀ (o : HO) (vs' : List V), DctO (upd H a o) a (.bl m :: putKD ks k) vs' → Reps cc G vs' (putVD ks ds k d) → Q z (upd H a o)) : SetdOk H a y z Q := by
  rw [← rs.length] at hl
  rcases r with ⟨kk, e, g2, g3, g4⟩ | ⟨kt, e, g2, g3, g4⟩
  · cases e
    obtain ⟨k0, rfl⟩ : ∃ kk : Key, k = keyD kk := hk
    have vr := val_rel (cc := cc) (G := G) eqD_key k0 g2 rs
    refine .inl ⟨_, k0, g4, rep_key ry, by rw [List.length_zip]; omega, fun v hv => ?_, fun hn => ?_⟩
    · cases hd : valD (kk.map keyD) ds (keyD k0) with
      | none => rw [vr.2 hd] at hv; cases hv
      | some e => obtain ⟨v', e1, e2⟩ := vr.1 e hd; rw [hv] at e1; cases e1; exact h1 e v hd e2
    · have hd : valD (kk.map keyD) ds (keyD k0) = none := by
        cases hd : valD (kk.map keyD) ds (keyD k0) with
        | none => rfl
        | some e => obtain ⟨v', e1, e2⟩ := vr.1 e hd; rw [hn] at e1; cases e1
      obtain ⟨kk', vs', a1, a2, a3, a4, a5, a6⟩ := put_rel (cc := cc) (G := G) eqD_key k0 rv g2 g3 rs
      rw [a5]
      exact h2 hd _ vs' (.inl ⟨kk', by rw [a1], a2, a3, upd_same⟩) a6
  · cases e
    obtain ⟨kt0, rfl⟩ : ∃ kt : List Key, k = .tup (kt.map keyD) := hk
    have vr := val_rel (cc := cc) (G := G) (f := fun k : List Key => D.tup (k.map keyD)) eqD_tkey kt0 g2 rs
    unfold Rep at ry
    obtain ⟨b, ws, rfl, hb, rw'⟩ := ry
    rw [reps_keys rw'] at hb
    refine .inr ⟨_, kt0, b, g4, rfl, hb, by rw [List.length_zip]; omega, fun v hv => ?_, fun hn => ?_⟩
    · cases hd : valD (kt.map fun k : List Key => D.tup (k.map keyD)) ds (.tup (kt0.map keyD)) with
      | none => rw [vr.2 hd] at hv; cases hv
      | some e => obtain ⟨v', e1, e2⟩ := vr.1 e hd; rw [hv] at e1; cases e1; exact h1 e v hd e2
    · have hd : valD (kt.map fun k : List Key => D.tup (k.map keyD)) ds (.tup (kt0.map keyD)) = none := by
        cases hd : valD (kt.map fun k : List Key => D.tup (k.map keyD)) ds (.tup (kt0.map keyD)) with
        | none => rfl
        | some e => obtain ⟨v', e1, e2⟩ := vr.1 e hd; rw [hn] at e1; cases e1
      obtain ⟨kk', vs', a1, a2, a3, a4, a5, a6⟩ := put_rel (cc := cc) (G := G) (f := fun k : List Key => D.tup (k.map keyD)) eqD_tkey kt0 rv g2 g3 rs
      rw [a5]
      exact h2 hd _ vs' (.inr ⟨kk', by rw [a1], a2, a3, upd_same⟩) a6
section
variable {X : Cx} {Z : Zone} {a b e : Expr} {wa wb w : EW} {pos : Pos}
/-- {x: c}, x a name of a tuple, c a constant -/
def eDispN (i : Nat) (d : D) : EW := fun _ ρ K => match ρ[i]? with
  | some (.sh (.tup ks)) => (∃ kt : List Key, ks = kt.map keyD) ∧ ∀ p, K (.fr p (.dic [.bl true, .tup ks] [d])) ρ
  | _ => False
/-! ### k in d -/
def eDIn (wk wd : EW) : EW := fun xk ρ K => wk xk ρ fun r1 ρ1 => wd xk ρ1 fun r2 ρ2 => pok r1 ρ2 ∧ match r2.get ρ2 with
  | .dic (.bl m :: ks) ds => KeyD m (r1.get ρ2) ∧ K (.sh (.bl (valD ks ds (r1.get ρ2)).isSome)) ρ2
  | _ => False
def eDNotIn (wk wd : EW) : EW := fun xk ρ K => wk xk ρ fun r1 ρ1 => wd xk ρ1 fun r2 ρ2 => pok r1 ρ2 ∧ match r2.get ρ2 with
  | .dic (.bl m :: ks) ds => KeyD m (r1.get ρ2) ∧ K (.sh (.bl (!(valD ks ds (r1.get ρ2)).isSome))) ρ2
  | _ => False
/-! ### d.setdefault(k, v), d a name's own -/
def eDSetd (j : Nat) (wk wv : EW) : EW := fun xk ρ K => isOwn ρ j ∧ isDc (getL ρ j) ∧ wk xk ρ fun r2 ρ2 => wv xk ρ2 fun r3 ρ3 => stl r3 ρ3 fun z ρ4 => pok r2 ρ4 ∧ match ρ4[j]? with
  | some (.own m a (.dic (.bl t :: ks) ds)) => KeyD t (r2.get ρ4) ∧ ds.length < sizeLine ∧ (∀ d, valD ks ds (r2.get ρ4) = some d → K (.sh d) ρ4) ∧
    (valD ks ds (r2.get ρ4) = none → K (.sh z) (ρ4.set j (.own m a (.dic (.bl t :: putKD ks (r2.get ρ4)) (putVD ks ds (r2.get ρ4) z)))))
  | _ => False
theorem de_dsetd {j : Nat} {x : Str} {px apos cpos : Pos} (hu : X.A.units + 1 < cLine) (ha : PE X a (T Z wa)) (hb : PE X b (T Z wb)) (m : M2 X (.Name x px) "setdefault" apos a b cpos)
    (hN : X.N[j]? = some x := by rfl) (hv : Vis X.env.scope x := by first | exact Or.inl rfl | exact Or.inr (Or.inl rfl) | exact Or.inr (Or.inr rfl)) (hd : (x == ("__debug__" : Str)) = false := by decide)
    (hcd : (x == ("__classdict__" : Str)) = false := by decide) : PE X (.Call (.Attribute (.Name x px) "setdefault" apos) [a, b] [] cpos) (T Z (eDSetd j wa wb)) :=
  ⟨fun pins s σ H Q I ⟨ρ, G, K, IR, ⟨ho, hdc, hw⟩, q⟩ => (pe_dsetdA hu (pv j hN hv hd hcd) ha hb m).run pins s σ H Q I (by
    have h0 : ∃ p, σ[j]? = some (some (.ref p)) ∧ IsD H p := by
      unfold isOwn at ho
      cases hs : ρ[j]? with
      | none => rw [hs] at ho; exact ho.elim
      | some t =>
        cases t with
        | no => rw [hs] at ho; exact ho.elim
        | sh d => rw [hs] at ho; exact ho.elim
        | own m p d =>
          obtain ⟨es, rt⟩ := IR.slot j _ hs
          have es := own_at (lt_len I hN) es
          unfold getL at hdc
          rw [hs] at hdc
          cases d <;> try exact (hdc : False).elim
          obtain ⟨vs, ra, rs⟩ := rt
          exact ⟨p, es, ra.rd.isD⟩
    obtain ⟨p, es, hp⟩ := h0
    refine ⟨.ref p, es, p, rfl, hp, ρ, G, _, IR, hw, fun r2 ρ2 y H2 G2 le2 I2 q2 k2 => ?_⟩
    obtain ⟨G2', le2', I2', q2'⟩ := I2.freeze q2
    refine ⟨ρ2, G2', _, I2', k2, fun r3 ρ3 z H3 G3 le3 I3 q3 k3 => ?_⟩
    obtain ⟨d, ρ4, G4, le4, I4, rz, k4, _⟩ := I3.settle q3 k3
    have qf := pend_mono (H' := H3) (le3.trans le4) q2' k4.1
    have rk := qf.repH I4
    rw [Rv.get_pend] at rk
    have k5 := k4.2
    have leA := ((le2.trans le2').trans le3).trans le4
    split at k5
    · rename_i m' a' t ks ds hs
      obtain ⟨hk, hl, k6, k7⟩ := k5
      obtain ⟨es2, vs, ra, rs⟩ := I4.slot j _ hs
      cases own_in es es2
      exact ra.setd rs rk hk rz hl (fun e v hv rv => q (.sh e) ρ4 v H3 G4 leA I4 (rv_sh rv) (k6 e hv)) fun hn o vs' r' rs' =>
        q (.sh d) _ z _ G4 leA (I4.write hs (show Root Z.cc G4 (upd H3 p o) p (.dic (.bl t :: putKD ks (r2.get ρ4)) (putVD ks ds (r2.get ρ4) d)) from ⟨vs', r', rs'⟩)) (rv_sh rz) (k7 hn)
    · exact k5.elim)⟩
end
end TL

namespace TL
open PySem PySem.Spec L2
/-! ### tuples of ints: t < u, sum(t) -/
section
variable {cc : CC}
def opSumT : D → OW
  | .tup ds => fun k => ∃ ns : List Int, ds = ns.map D.int ∧ k (.sh (.int ns.sum))
  | _ => fun _ => False
def opLtT : D → D → OW
  | .tup ds, .tup es => fun k => ∃ ns ms : List Int, ds = ns.map D.int ∧ es = ms.map D.int ∧ k (.sh (.bl (HT.lexLt ns ms)))
  | _, _ => fun _ => False
end
theorem ltT_l {ds es : List D} {k : Ro → Prop} : opLtT (.tup ds) (.tup es) k = ∃ ns ms : List Int, ds = ns.map D.int ∧ es = ms.map D.int ∧ k (.sh (.bl (HT.lexLt ns ms))) := rfl
theorem sumT_l {ds : List D} {k : Ro → Prop} : opSumT (.tup ds) k = ∃ ns : List Int, ds = ns.map D.int ∧ k (.sh (.int ns.sum)) := rfl
end TL

namespace TL
open PySem PySem.Spec L2
/-! ### sorted(xs), of tuples or lists -/
section
variable {cc : CC}
end
end TL

namespace TL
open PySem PySem.Spec L2
/-! ### xs <= ys, lists of ints -/
section
variable {cc : CC}
end
end TL

namespace PySem
open Sem (wp)
section
variable {M : Model} {A : Around} {E : Value → Shared → Prop} {s : Shared}
end
end PySem
namespace TL
open PySem PySem.Spec L2
/-! ### xs += a new list -/
section
variable {X : Cx} {Z : Zone} {e : Expr} {w : EW} {pos : Pos}
def sAugL (j : Nat) (w : EW) : SW := fun xk ρ K => (∃ m a ds, ρ[j]? = some (.own m a (.lst ds))) ∧ w xk ρ fun r ρ1 => match r, ρ1[j]? with
  | .fr _ (.lst es), some (.own m a (.lst ds)) => ds.length + es.length ≤ sizeLine ∧ K.nx (ρ1.set j (.own m a (.lst (ds ++ es))))
  | _, _ => False
end
end TL

namespace TL
open PySem PySem.Spec L2
/-! ### len(set(xs)), xs tuples of ints -/
section
variable {cc : CC}
end
section
variable {X : Cx} {Z : Zone} {a : Expr} {w : EW} {p p2 q pos : Pos}
end
end TL

/-! Ghosts: roots of no name, behind the frame. A list of lists that are changed holds `.ptr`s to them. -/
namespace TL
open PySem PySem.Spec L2

section
variable {Z : Zone} {ρ : REnv} {G H : Hp} {σ : L2.St}
theorem set_sameO {σ : L2.St} {j : Nat} {x : Option V} (h : σ[j]? = some x) : σ.set j x = σ := by
  obtain ⟨hj, e⟩ := List.getElem?_eq_some_iff.mp h
  rw [← e]
  exact List.set_getElem_self hj
theorem SR.drop (I : SR Z ρ G σ H) (j : Nat) : SR Z (ρ.set j .no) G σ H := by
  refine ⟨by simpa using I.len, I.sub, fun i s q => ?_, fun i k m n b x c y q1 q2 hn => ?_, fun i m b x q => ?_, I.ent, fun i m b x q => ?_, I.gnew, I.g0, I.mout, I.mux⟩
  · rcases get_set q with ⟨rfl, rfl⟩ | ⟨_, q⟩
    · trivial
    · exact I.slot i s q
  · rcases get_set q1 with ⟨_, q1⟩ | ⟨_, q1⟩
    · cases q1
    · rcases get_set q2 with ⟨_, q2⟩ | ⟨_, q2⟩
      · cases q2
      · exact I.inj i k m n b x c y q1 q2 hn
  · rcases get_set q with ⟨_, q⟩ | ⟨_, q⟩
    · cases q
    · exact I.out i m b x q
  · rcases get_set q with ⟨_, q⟩ | ⟨_, q⟩
    · cases q
    · exact I.frs i m b x q
/-- the roots behind are forgotten -/
theorem SR.cut (I : SR Z ρ G σ H) {n : Nat} (hn : Z.n ≤ n) : SR Z (ρ.take n) G σ H := by
  have tk : ∀ {i : Nat} {s : Sl}, (ρ.take n)[i]? = some s → ρ[i]? = some s := fun {i s} h => by
    rw [List.getElem?_take] at h
    split at h
    · exact h
    · cases h
  have len := I.len
  exact ⟨⟨len.1, by rw [List.length_take]; omega⟩, I.sub, fun i s q => I.slot i s (tk q), fun i k m n b x c y q1 q2 hn => I.inj i k m n b x c y (tk q1) (tk q2) hn, fun i m b x q => I.out i m b x (tk q), I.ent, fun i m b x q => I.frs i m b x (tk q), I.gnew, I.g0, I.mout, I.mux⟩
theorem own_fr (I : SR Z ρ G σ H) {j : Nat} {a : Addr} {d : D} (h : ρ[j]? = some (.own false a d)) : FrOk Z (ρ.set j .no) G H a d := by
  have fr := I.frs j _ a d h
  simp only [Bool.false_eq_true, if_false] at fr
  refine ⟨(I.slot j _ h).2, I.out j _ a d h, fun i m b e q => ?_, fr.1, fr.2⟩
  rcases get_set q with ⟨_, q⟩ | ⟨hi, q⟩
  · cases q
  · exact I.inj i j m false b e a d q h hi
theorem one_get {α : Type} {x y : α} {i : Nat} (h : [x][i]? = some y) : x = y ∧ i = 0 := by
  cases i with
  | zero => exact ⟨Option.some.inj h, rfl⟩
  | succ i => simp at h
theorem SR.push (I : SR Z ρ G σ H) {a : Addr} {d : D} (h : FrOk Z ρ G H a d) : SR Z (ρ ++ [.own false a d]) G σ H :=
  I.addGs (as := [a]) (ds := [d]) (by simp) fun i b e h1 h2 => by
    obtain ⟨rfl, _⟩ := one_get h1
    obtain ⟨rfl, _⟩ := one_get h2
    exact h
theorem fr_notin (h : FrOk Z ρ G H a d) : a ∉ owns ρ := fun hm => by
  obtain ⟨i, p, d, hs⟩ := owns_mem.mp hm
  exact h.2.2.1 i p a d hs rfl
end

section
variable {X : Cx} {Z : Zone} {e a b : Expr} {w wa wb wx : EW} {pos : Pos}
/-! ### a new root is kept as a ghost -/
def keepK (r : Rv) (ρ : REnv) (K : Rv → REnv → Prop) : Prop := match r with
  | .fr a d => a ∉ owns ρ → K (.sh (.ptr a)) (ρ ++ [.own false a d])
  | .loc i => match ρ[i]? with
    | some (.own false a d) => K (.sh (.ptr a)) (ρ.set i (.sh (.ptr a)) ++ [.own false a d])
    | some (.sh d) => K (.sh d) ρ
    | _ => False
  | .sh d => K (.sh d) ρ
  | .gh _ a => K (.sh (.ptr a)) ρ
  | .gx _ _ _ => False
def eKeep (w : EW) : EW := fun xk ρ K => w xk ρ fun r ρ1 => keepK r ρ1 K
theorem SR.kept {ρ : REnv} {G H : Hp} {σ : L2.St} {r : Rv} {v : V} {K : Rv → REnv → Prop} (I : SR Z ρ G σ H) (q : RvOk Z r ρ G σ H v) (h : keepK r ρ K) : ∃ d ρ', SR Z ρ' G σ H ∧ Rep Z.cc G v d ∧ K (.sh d) ρ' := by
  unfold keepK at h
  cases r with
  | sh d => exact ⟨d, ρ, I, q, h⟩
  | gh j a => exact ⟨.ptr a, ρ, I, by unfold Rep; exact q.1, h⟩
  | gx as cs t => exact h.elim
  | fr a d =>
    obtain ⟨rfl, q⟩ := q
    exact ⟨.ptr a, _, I.push q, by unfold Rep; rfl, h (fr_notin q)⟩
  | loc i =>
    obtain ⟨ev, _⟩ := q
    cases hs : ρ[i]? with
    | none => simp only [hs] at h
    | some s =>
      simp only [hs] at h
      have so := I.slot i s hs
      cases s with
      | no => exact h.elim
      | sh d =>
        obtain ⟨u, eu, r⟩ := so
        rw [ev] at eu; cases eu
        exact ⟨d, ρ, I, r, h⟩
      | own m a d =>
        cases m with
        | true => exact h.elim
        | false =>
          have e := own_in ev so.1
          subst e
          have rp : Rep Z.cc G (.ref a) (.ptr a) := by unfold Rep; rfl
          have I2 : SR Z (ρ.set i (.sh (.ptr a))) G σ H := by
            have := I.put (i := i) (v := .ref a) (List.getElem?_eq_some_iff.mp ev).1 rp
            rw [set_sameO ev] at this
            exact this
          have f := own_fr I hs
          refine ⟨.ptr a, _, I2.push ⟨f.1, f.2.1, fun j p b x q => ?_, f.2.2.2.1, f.2.2.2.2⟩, rp, h⟩
          rcases get_set q with ⟨_, q⟩ | ⟨hj, q⟩
          · cases q
          · exact I.inj j i p false b x a d q hs hj
theorem de_keep (h : PE X e (T Z w)) : PE X e (T Z (eKeep w)) :=
  ⟨fun pins s σ H Q I ⟨ρ, G, K, IR, hw, q⟩ => h.run pins s σ H Q I ⟨ρ, G, _, IR, hw, fun r ρ1 v H1 G1 le1 I1 q1 k1 => by
    obtain ⟨d, ρ2, I2, rp, k2⟩ := I1.kept q1 k1
    exact q (.sh d) ρ2 v H1 G1 le1 I2 rp k2⟩⟩
/-! ### a ghost becomes a new root again -/
def eAd (w : EW) : EW := fun xk ρ K => w xk ρ fun r ρ1 => match r with
  | .fr a d => K (.fr a d) ρ1
  | r => match r.get ρ1 with
    | .ptr a => ∃ j d, ρ1[j]? = some (.own false a d) ∧ K (.fr a d) (ρ1.set j .no)
    | _ => False
/-! ### a pointer is followed -/
def eDr (w : EW) : EW := fun xk ρ K => w xk ρ fun r ρ1 => match r.get ρ1 with
  | .ptr a => ∃ j, (∃ p d, ρ1[j]? = some (.own p a d)) ∧ K (.gh j a) ρ1
  | _ => False
theorem de_dr (h : PE X e (T Z w)) : PE X e (T Z (eDr w)) :=
  ⟨fun pins s σ H Q I ⟨ρ, G, K, IR, hw, q⟩ => h.run pins s σ H Q I ⟨ρ, G, _, IR, hw, fun r ρ1 v H1 G1 le1 I1 q1 k1 => by
    have vw := q1.view I1
    split at k1
    · rename_i a hg
      rw [hg] at vw
      obtain ⟨j, hs, k⟩ := k1
      have vw : v = .ref a := vw
      exact q (.gh j a) _ v H1 G1 le1 I1 ⟨vw, hs⟩ k
    · exact k1.elim⟩⟩
/-! ### all that is within is seen through, for a comparison -/
def eBinG (op : D → D → OW) (wa wb : EW) : EW := fun xk ρ K => wa xk ρ fun r1 ρ1 => wb xk ρ1 fun r2 ρ2 => pok r1 ρ2 ∧ ∃ d e, Vw (gP ρ2) (r1.get ρ2) d ∧ Vw (gP ρ2) (r2.get ρ2) e ∧
  op d e fun o => ∃ b, o = .sh (.bl b) ∧ K (.sh (.bl b)) ρ2
theorem gP_root {ρ : REnv} {G H : Hp} {σ : L2.St} (I : SR Z ρ G σ H) : ∀ a d, (a, d) ∈ gP ρ → Root Z.cc G H a d := fun a d h => by
  obtain ⟨i, p, hs⟩ := gP_mem.mp h
  exact (I.slot i _ hs).2
theorem Vw.repH {L : List (Addr × D)} {cc : CC} {G H : Hp} {d e : D} {v : V} (hL : ∀ a d, (a, d) ∈ L → Root cc G H a d) (le : LE G H) (h : Vw L d e) (r : Rep cc H v d) : Rep cc H v e :=
  h.sound (LE.refl H) (fun a d hm => (hL a d hm).mono le) v r
theorem T.binG {op : D → D → OW} {r : R2} (hs : OpS Z.cc op r) {σ : L2.St} {H : Hp} {Q : VK} (h : T Z (eBinG op wa wb) σ H Q) : tOp r (T Z wa) (T Z wb) σ H Q := by
  obtain ⟨ρ, G, K, I, hw, q⟩ := h
  obtain ⟨ρ', G', K', I', hw', q'⟩ := T.two (R := fun r1 r2 ρ2 => ∃ d e, Vw (gP ρ2) (r1.get ρ2) d ∧ Vw (gP ρ2) (r2.get ρ2) e ∧ op d e fun o => ∃ b, o = .sh (.bl b) ∧ K (.sh (.bl b)) ρ2) I hw
  refine ⟨ρ', G', K', I', hw', fun r1 ρ1 x H1 G1 le1 I1 q1 k1 => ?_⟩
  obtain ⟨ρ1', G1', K1', I1', hw1', q1'⟩ := q' r1 ρ1 x H1 G1 le1 I1 q1 k1
  refine ⟨ρ1', G1', K1', I1', hw1', fun r2 ρ2 y H2 G2 le2 I2 q2 k2 => ?_⟩
  obtain ⟨s1, s2, ρ3, G3, le3, I3, v1, v2, d, e, h1, h2, ho⟩ := q1' r2 ρ2 y H2 G2 le2 I2 q2 k2
  have e1 := v1.repH I3
  rw [Rv.get_pend] at e1
  have f1 := h1.repH (gP_root I3) I3.sub e1
  have f2 := h2.repH (gP_root I3) I3.sub (v2.repH I3)
  refine hs H2 H2 x y d e _ Q (LE.refl H2) (View.of_rep (LE.refl H2) f1) (View.of_rep (LE.refl H2) f2) f1 f2 ho fun o ⟨c, ho, hk⟩ => ?_
  subst ho
  refine ⟨fun v r => ?_, fun p o hp r => ?_⟩
  · have r : v = .bl c := by unfold Rep at r; exact r
    subst r
    exact q (.sh (.bl c)) ρ3 _ H2 G3 le3 I3 (rv_sh rep_bl) hk
  unfold Rep at r
  cases r
theorem dt_cmpG {o : CmpOp} {op : D → D → OW} {r : R2} (hr : OpR X (compareOp o) r) (hs : OpS Z.cc op r) (ha : PE X a (T Z wa)) (hb : PE X b (T Z wb)) (hm : behindInMarks o b = false) : PT X (.Compare a [o] [b] pos) (Tt Z (tVal (eBinG op wa wb))) :=
  ⟨fun pins s σ H Q I q => (pt_cmpR hr ha hb hm).run pins s σ H Q I (Tt.val (fun σ H Q h => T.binG hs h) q)⟩
end
end TL

/-! Ghosts: changed in place, given up, handed back, handed in. -/
namespace TL
open PySem PySem.Spec L2

section
variable {X : Cx} {Z : Zone} {e a b : Expr} {w wa wb wx : EW} {pos : Pos}
/-! ### changed in place -/
def sAppE (wx w : EW) : SW := fun xk ρ K => wx xk ρ fun r ρ1 => match r with
  | .gh j a => (∃ m ds, ρ1[j]? = some (.own m a (.lst ds))) ∧ w xk ρ1 fun r2 ρ2 => stl r2 ρ2 fun d ρ3 => match ρ3[j]? with
    | some (.own m b (.lst ds)) => b = a ∧ ds.length < sizeLine ∧ K.nx (ρ3.set j (.own m b (.lst (ds ++ [d]))))
    | _ => False
  | _ => False
theorem ds_appE {o : Expr} {apos cpos : Pos} (ho : PE X o (T Z wx)) (he : PE X e (T Z w))
    (hbase : attributeBase o "append" X.env (eval o X.env) = eval o X.env := by rfl)
    (hfew : ((backTo cpos (starEach [e] X.env)).all (fun x => !x.1) && (backToKw cpos (keywordEach [] X.env)).all (fun x => x.1.isSome)
      && decide (([e] : List Expr).length + ([] : List Keyword).length + (if ([] : List Keyword).isEmpty then 0 else 1) < 30)) = true := by rfl)
    (hline : (apos.endLine == cpos.line) = true := by rfl) (hst : starEach [e] X.env = (false, eval e X.env) :: starEach [] X.env := by rfl) (hplain : (backTo cpos (starEach [] X.env)).any (·.1) = false := by rfl)
    (hs : swapsWith (.Call (.Attribute o "append" apos) [e] [] cpos) none pos.line X.env = pure false := by rfl) :
    PS X (.Expr (.Call (.Attribute o "append" apos) [e] [] cpos) pos) (Ts Z (sAppE wx w)) :=
  ⟨fun pins s σ H D I ⟨ρ, G, K, IR, hw, l⟩ => (ps_expr (pe_bm PySem.F.plainAttrs_list PySem.F.slot_list_append PySem.F.type_list_append mt_append ho (pa_cons he pa_nil hst) hbase hfew hline hst hplain) hs).run pins s σ H D I
    ⟨ρ, G, _, IR, hw, fun r ρ1 v H1 G1 le1 I1 q1 k1 => by
      cases r <;> try exact k1.elim
      rename_i j a
      obtain ⟨rfl, _⟩ := q1
      obtain ⟨⟨m, ds, hs0⟩, k1⟩ := k1
      obtain ⟨_, vs, ha, _⟩ := I1.ownL hs0
      refine ⟨.inl ⟨rfl, vs, SqL.of ha⟩, ρ1, G1, _, I1, k1, fun r2 ρ2 u H2 G2 le2 I2 q2 k2 => ?_⟩
      obtain ⟨d, ρ3, G3, le3, I3, rp, k3, _⟩ := I2.settle q2 k2
      split at k3
      · rename_i m2 b ds2 hs2
        obtain ⟨rfl, hl, k3⟩ := k3
        obtain ⟨_, vs2, ha2, rs2⟩ := I3.ownL hs2
        refine ⟨_, vs2, u, rfl, rfl, ha2, by rw [rs2.length]; exact hl, ?_⟩
        exact l.nx _ _ _ G3 ((le1.trans le2).trans le3) (I3.write hs2 (Root.lst upd_same (rs2.append (Reps.cons rp Reps.nil)))) k3
      · exact k3.elim⟩⟩
def sRevE (wx : EW) : SW := fun xk ρ K => wx xk ρ fun r ρ1 => match r with
  | .gh j a => match ρ1[j]? with
    | some (.own m b (.lst ds)) => b = a ∧ K.nx (ρ1.set j (.own m b (.lst ds.reverse)))
    | _ => False
  | _ => False
def sPopE (wx : EW) : SW := fun xk ρ K => wx xk ρ fun r ρ1 => match r with
  | .gh j a => match ρ1[j]? with
    | some (.own m b (.lst ds)) => b = a ∧ ds ≠ [] ∧ K.nx (ρ1.set j (.own m b (.lst ds.dropLast)))
    | _ => False
  | _ => False
end

/-! ### ghosts are given up to what is known -/
/-- the roots of one's own, with their trees -/
def gF : REnv → List (Addr × D)
  | [] => []
  | .own false a d :: ρ => (a, d) :: gF ρ
  | _ :: ρ => gF ρ
theorem gF_mem {a : Addr} {d : D} : ∀ {ρ : REnv}, (a, d) ∈ gF ρ → ∃ (i : Nat), ρ[i]? = some (Sl.own false a d)
  | s :: ρ, h => by
    have tl : (a, d) ∈ gF ρ → ∃ (i : Nat), (s :: ρ)[i]? = some (Sl.own false a d) := fun h => by
      obtain ⟨i, hi⟩ := gF_mem h
      exact ⟨i + 1, by simpa using hi⟩
    cases s with
    | no => exact tl h
    | sh d => exact tl h
    | own m b e =>
      cases m with
      | true => exact tl h
      | false =>
        rcases List.mem_cons.mp h with h | h
        · cases h; exact ⟨0, rfl⟩
        · exact tl h
theorem drop_get {ρ : REnv} {n i : Nat} {s : Sl} (h : (ρ.drop n)[i]? = some s) : ρ[n + i]? = some s := by rw [List.getElem?_drop] at h; exact h
section
variable {Z : Zone} {ρ : REnv} {G H : Hp} {σ : L2.St}
theorem Vw.root {cc : CC} {L : List (Addr × D)} {G G' H : Hp} (le : LE G G') (hL : ∀ a d, (a, d) ∈ L → Root cc G G' a d) {a : Addr} {d e : D} (q : Vw L d e) (rt : Root cc G H a d) : Root cc G' H a e := by
  cases q with
  | self => exact rt.mono le
  | ptr h2 q2 => exact rt.elim
  | tup q2 => exact rt.elim
  | lst q2 =>
    obtain ⟨vs, e1, rs⟩ := rt
    exact ⟨vs, e1, Vws.sound le hL q2 vs rs⟩
  | obj q2 =>
    obtain ⟨dx, vs, e1, l, rs⟩ := rt
    exact ⟨dx, vs, e1, l, Vws.sound le hL q2 vs rs⟩
  | dic q2 =>
    obtain ⟨vs, e1, rs⟩ := rt
    exact ⟨vs, e1, Vws.sound le hL q2 vs rs⟩
/-- all roots of one's own behind n are known from now on -/
theorem SR.fz (I : SR Z ρ G σ H) {n : Nat} (hn : Z.n ≤ n) : ∃ G', LE G G' ∧ SR Z (ρ.take n) G' σ H ∧ (∀ a d, (a, d) ∈ gF (ρ.drop n) → Root Z.cc G G' a d) ∧ ∀ a, G a = none → (∀ d, (a, d) ∉ gF (ρ.drop n)) → G' a = none := by
  have at_ : ∀ {a d}, (a, d) ∈ gF (ρ.drop n) → ∃ j, n ≤ j ∧ ρ[j]? = some (.own false a d) := fun {a d} h => by
    obtain ⟨i, hi⟩ := gF_mem h
    exact ⟨n + i, by omega, drop_get hi⟩
  have hB : ∀ a ∈ (gF (ρ.drop n)).map (·.1), ∃ j d, n ≤ j ∧ ρ[j]? = some (.own false a d) := fun a h => by
    obtain ⟨p, hp, rfl⟩ := List.mem_map.mp h
    obtain ⟨j, h1, h2⟩ := at_ (a := p.1) (d := p.2) hp
    exact ⟨j, p.2, h1, h2⟩
  have tk : ∀ {i : Nat} {s : Sl}, (ρ.take n)[i]? = some s → i < n ∧ ρ[i]? = some s := fun {i s} h => by
    rw [List.getElem?_take] at h
    split at h
    · exact ⟨‹_›, h⟩
    · cases h
  generalize hBe : (gF (ρ.drop n)).map (·.1) = B at hB
  have out : ∀ a ∈ B, G a = none := fun a h => by
    obtain ⟨j, d, _, hs⟩ := hB a h
    exact I.out j _ a d hs
  have le : LE G (cutG B G H) := fun a o e => by
    unfold cutG
    rw [if_neg (fun h => by rw [out a h] at e; cases e)]
    exact e
  have no : ∀ a, a ∉ B → cutG B G H a = G a := fun a h => by unfold cutG; rw [if_neg h]
  have len := I.len
  refine ⟨cutG B G H, le, ⟨⟨len.1, by rw [List.length_take]; omega⟩, fun a u e => ?_, fun i s q => ?_, fun i k m n b x c y q1 q2 hn => I.inj i k m n b x c y (tk q1).2 (tk q2).2 hn, fun i m b x q => ?_, I.ent, fun i m b x q => I.frs i m b x (tk q).2, fun a ha => ?_, fun a u e => le _ _ (I.g0 a u e), fun a ha => ?_, I.mux⟩, fun a d h => ?_, fun a h1 h2 => ?_⟩
  · unfold cutG at e
    split at e
    · exact e
    · exact I.sub a u e
  · exact (I.slot i s (tk q).2).mono le
  · obtain ⟨hi, q⟩ := tk q
    rw [no b fun h => ?_]
    · exact I.out i m b x q
    · obtain ⟨j, d, hj, hs⟩ := hB b h
      exact I.inj i j m false b x b d q hs (by omega) rfl
  · by_cases h : a ∈ B
    · obtain ⟨j, d, _, hs⟩ := hB a h
      have fr := I.frs j _ a d hs
      simp only [Bool.false_eq_true, if_false] at fr
      exact .inr fr.1
    · rw [no a h] at ha; exact I.gnew a ha
  · rw [no a fun h => ?_]
    · exact I.mout a ha
    · obtain ⟨j, d, _, hs⟩ := hB a h
      have fr := I.frs j _ a d hs
      simp only [Bool.false_eq_true, if_false] at fr
      exact fr.2 ha
  · obtain ⟨j, _, hs⟩ := at_ h
    refine (I.slot j _ hs).2.heap fun o ho => ?_
    unfold cutG
    rw [if_pos (by rw [← hBe]; exact List.mem_map.mpr ⟨_, h, rfl⟩)]
    exact ho
  · rw [no a fun h => ?_]
    · exact h1
    · rw [← hBe] at h
      obtain ⟨p, hp, rfl⟩ := List.mem_map.mp h
      exact h2 p.2 hp
end
def fzK (n : Nat) (r : Rv) (ρ : REnv) (K : Rv → REnv → Prop) : Prop := match r with
  | .sh d => ∃ e, Vw (gF (ρ.drop n)) d e ∧ K (.sh e) (ρ.take n)
  | .fr a d => ∃ e, Vw (gF (ρ.drop n)) d e ∧ K (.fr a e) (ρ.take n)
  | .gh _ a => ∃ e, Vw (gF (ρ.drop n)) (.ptr a) e ∧ K (.sh e) (ρ.take n)
  | .loc i => match ρ[i]? with
    | some (.sh d) => ∃ e, Vw (gF (ρ.drop n)) d e ∧ K (.sh e) (ρ.take n)
    | some (.own false a d) => ∃ e, Vw (gF ((ρ.set i .no).drop n)) d e ∧ K (.fr a e) ((ρ.set i .no).take n)
    | _ => False
  | .gx _ _ _ => False
def eFz (n : Nat) (w : EW) : EW := fun xk ρ K => w xk ρ fun r ρ1 => fzK n r ρ1 K
section
variable {X : Cx} {Z : Zone} {e a b : Expr} {w wa wb wx : EW} {pos : Pos}
theorem SR.fzr {ρ : REnv} {G H : Hp} {σ : L2.St} {n : Nat} {r : Rv} {v : V} {K : Rv → REnv → Prop} (hn : Z.n ≤ n) (I : SR Z ρ G σ H) (q : RvOk Z r ρ G σ H v) (h : fzK n r ρ K) : ∃ r' ρ' G', LE G G' ∧ SR Z ρ' G' σ H ∧ RvOk Z r' ρ' G' σ H v ∧ K r' ρ' := by
  have sh : ∀ {ρ : REnv} {d : D}, SR Z ρ G σ H → Rep Z.cc G v d → (∃ e, Vw (gF (ρ.drop n)) d e ∧ K (.sh e) (ρ.take n)) → ∃ r' ρ' G', LE G G' ∧ SR Z ρ' G' σ H ∧ RvOk Z r' ρ' G' σ H v ∧ K r' ρ' := fun {ρ d} I rp ⟨e, hv, k⟩ => by
    obtain ⟨G', le, I', rt, _⟩ := I.fz hn
    exact ⟨.sh e, _, G', le, I', hv.sound le rt v rp, k⟩
  have fr : ∀ {ρ : REnv} {a : Addr} {d : D}, SR Z ρ G σ H → v = .ref a → FrOk Z ρ G H a d → (∃ e, Vw (gF (ρ.drop n)) d e ∧ K (.fr a e) (ρ.take n)) → ∃ r' ρ' G', LE G G' ∧ SR Z ρ' G' σ H ∧ RvOk Z r' ρ' G' σ H v ∧ K r' ρ' := fun {ρ a d} I ev f ⟨e, hv, k⟩ => by
    obtain ⟨G', le, I', rt, no⟩ := I.fz hn
    refine ⟨.fr a e, _, G', le, I', ⟨ev, hv.root le rt f.1, no a f.2.1 fun d h => ?_, fun i p b x q => ?_, f.2.2.2.1, f.2.2.2.2⟩, k⟩
    · obtain ⟨i, hi⟩ := gF_mem h
      exact f.2.2.1 _ _ a d (drop_get hi) rfl
    · rw [List.getElem?_take] at q
      split at q
      · exact f.2.2.1 i p b x q
      · cases q
  cases r with
  | sh d => exact sh I q h
  | fr a d => exact fr I q.1 q.2 h
  | gh j a => exact sh (d := .ptr a) I (by unfold Rep; exact q.1) h
  | gx as cs t => exact h.elim
  | loc i =>
    obtain ⟨ev, _⟩ := q
    unfold fzK at h
    cases hs : ρ[i]? with
    | none => simp only [hs] at h
    | some s =>
      simp only [hs] at h
      have so := I.slot i s hs
      cases s with
      | no => exact h.elim
      | sh d =>
        obtain ⟨u, eu, r⟩ := so
        rw [ev] at eu; cases eu
        exact sh I r h
      | own m a d =>
        cases m with
        | true => exact h.elim
        | false => exact fr (I.drop i) (own_in ev so.1) (own_fr I hs) h
theorem de_fz {n : Nat} (h : PE X e (T Z w)) (hn : X.N.length ≤ n) : PE X e (T Z (eFz n w)) :=
  ⟨fun pins s σ H Q I ⟨ρ, G, K, IR, hw, q⟩ => h.run pins s σ H Q I ⟨ρ, G, _, IR, hw, fun r ρ1 v H1 G1 le1 I1 q1 k1 => by
    have hz : Z.n ≤ n := by rw [← IR.len.1, I.len]; exact hn
    obtain ⟨r', ρ', G', le, I', q', k'⟩ := I1.fzr hz q1 k1
    exact q r' ρ' v H1 G' (le1.trans le) I' q' k'⟩⟩
/-! ### ghosts are handed back with a result -/
def ePk (n : Nat) (w : EW) : EW := fun xk ρ K => w xk ρ fun r ρ1 => match r with
  | .sh t => ∃ as cs, as.length = cs.length ∧ List.Sublist (as.zip cs) (gF (ρ1.drop n)) ∧ K (.gx as cs t) (ρ1.take n)
  | _ => False
end
/-! ### a call that is handed ghosts -/
section
variable {X : Cx} {Z : Zone} {C : Ccs} {k : Nat} {f : Addr} {fd : FuncData} {ps : List Str} {sp : FSpec} {aw : AgW} {x : Str} {p pos : Pos} {e : Expr} {es : List Expr}
def eCallG (np : Nat) (sp : FSpec) (aw : AgW) : EW := fun xk ρ K => aw xk ρ fun gs ρ1 => gs.length = np ∧ ∃ js : List Nat, callK sp (gs ++ js.map .gg) ρ1 xk K
end
end TL

namespace TL
open PySem PySem.Spec L2
/-! ### len(set(xs)), xs integers -/
section
variable {cc : CC}
end
section
variable {X : Cx} {Z : Zone} {a : Expr} {w : EW} {p p2 q pos : Pos}
end
end TL

/-! Ghosts: what the walks over trees rewrite with. -/
namespace TL
open PySem PySem.Spec L2
section
variable {ρ : REnv} {j i n : Nat} {a : Addr} {d : D} {K : Rv → REnv → Prop} {K1 : D → REnv → Prop} {as : List Addr} {cs : List D}
theorem get_gh : (Rv.gh j a).get ρ = getL ρ j := rfl
theorem stl_gh : stl (.gh j a) ρ K1 = K1 (.ptr a) ρ := rfl
theorem pok_gh : pok (.gh j a) ρ = ∃ p d, ρ[j]? = some (.own p a d) := rfl
theorem keep_fr : keepK (.fr a d) ρ K = (a ∉ owns ρ → K (.sh (.ptr a)) (ρ ++ [.own false a d])) := rfl
theorem keep_sh : keepK (.sh d) ρ K = K (.sh d) ρ := rfl
theorem keep_gh : keepK (.gh j a) ρ K = K (.sh (.ptr a)) ρ := rfl
theorem keep_loc : keepK (.loc i) ρ K = match ρ[i]? with
    | some (.own false a d) => K (.sh (.ptr a)) (ρ.set i (.sh (.ptr a)) ++ [.own false a d])
    | some (.sh d) => K (.sh d) ρ
    | _ => False := rfl
theorem fz_sh : fzK n (.sh d) ρ K = ∃ e, Vw (gF (ρ.drop n)) d e ∧ K (.sh e) (ρ.take n) := rfl
theorem fz_fr : fzK n (.fr a d) ρ K = ∃ e, Vw (gF (ρ.drop n)) d e ∧ K (.fr a e) (ρ.take n) := rfl
theorem fz_gh : fzK n (.gh j a) ρ K = ∃ e, Vw (gF (ρ.drop n)) (.ptr a) e ∧ K (.sh e) (ρ.take n) := rfl
theorem fz_loc : fzK n (.loc i) ρ K = match ρ[i]? with
    | some (.sh d) => ∃ e, Vw (gF (ρ.drop n)) d e ∧ K (.sh e) (ρ.take n)
    | some (.own false a d) => ∃ e, Vw (gF ((ρ.set i .no).drop n)) d e ∧ K (.fr a e) ((ρ.set i .no).take n)
    | _ => False := rfl
theorem ghs_nil : ghs [] cs = [] := by unfold ghs; rfl
theorem ghs_cons {c : D} : ghs (a :: as) (c :: cs) = .own false a c :: ghs as cs := by unfold ghs; rfl
theorem ghs_at {q : Nat} {c : D} (h1 : as[q]? = some a) (h2 : cs[q]? = some c) : (ghs as cs)[q]? = some (.own false a c) := by
  unfold ghs
  rw [List.getElem?_zipWith, h1, h2]
theorem ghs_snoc {c : D} : ∀ {as : List Addr} {cs : List D}, as.length = cs.length → ghs (as ++ [a]) (cs ++ [c]) = ghs as cs ++ [.own false a c]
  | [], [], _ => rfl
  | x :: as, y :: cs, h => by
    have ih := ghs_snoc (c := c) (as := as) (cs := cs) (by simpa using h)
    show Sl.own false x y :: ghs (as ++ [a]) (cs ++ [c]) = _
    rw [ih]
    rfl
  | [], _ :: _, h => by simp at h
  | _ :: _, [], h => by simp at h
theorem ghs_set {c : D} : ∀ {q : Nat} {as : List Addr} {cs : List D}, as[q]? = some a → (ghs as cs).set q (.own false a c) = ghs as (cs.set q c)
  | _, [], _, h => by simp at h
  | 0, x :: as, [], _ => rfl
  | q + 1, x :: as, [], _ => rfl
  | 0, x :: as, y :: cs, h => by
    have : x = a := by simpa using h
    subst this
    rfl
  | q + 1, x :: as, y :: cs, h => by
    have ih := ghs_set (c := c) (q := q) (as := as) (cs := cs) (by simpa using h)
    show Sl.own false x y :: (ghs as cs).set q _ = Sl.own false x y :: ghs as (cs.set q c)
    rw [ih]
theorem getL_ghs {q : Nat} {c : D} (h1 : as[q]? = some a) (h2 : cs[q]? = some c) : getL (ghs as cs) q = c := by
  unfold getL
  rw [ghs_at h1 h2]
theorem gF_ghs : ∀ {as : List Addr} {cs : List D}, as.length = cs.length → gF (ghs as cs) = as.zip cs
  | [], [], _ => rfl
  | x :: as, y :: cs, h => by
    show (x, y) :: gF (ghs as cs) = (x, y) :: as.zip cs
    rw [gF_ghs (by simpa using h)]
  | [], _ :: _, h => by simp at h
  | _ :: _, [], h => by simp at h
/-- a list of pointers reads as the list of what they point to -/
theorem vws_ptr {L : List (Addr × D)} : ∀ {as : List Addr} {cs : List D}, as.length = cs.length → (∀ p ∈ as.zip cs, p ∈ L) → Vws L (as.map .ptr) cs
  | [], [], _, _ => .nil
  | x :: as, y :: cs, h, q => .cons (.ptr (q (x, y) List.mem_cons_self) (.self y)) (vws_ptr (by simpa using h) fun p hp => q p (List.mem_cons_of_mem _ hp))
  | [], _ :: _, h, _ => by simp at h
  | _ :: _, [], h, _ => by simp at h
end
end TL

namespace TL
open PySem PySem.Spec L2
/-- behind a statement the ghosts are forgotten -/
def sCut (n : Nat) (s : SW) : SW := fun xk ρ K => s xk ρ { K with nx := fun ρ' => K.nx (ρ'.take n) }
end TL

namespace TL
open PySem PySem.Spec PySem.Calls PyProof.Rows L2
/-! ### xs[l::k], l and k constants -/
end TL

namespace TL
open PySem L2
/-! ### words of defs: how they are read -/
theorem mus0 {mus : List Addr} (h : mus.length = 0) : mus = [] := List.length_eq_zero_iff.mp h
theorem atI0 {α : Type} {x : α} {xs : List α} : L2.atI (x :: xs) 0 = some x := by
  show (ixN (xs.length + 1) 0).bind _ = _
  unfold ixN
  rw [if_pos (by omega), if_pos (by omega)]
  rfl
theorem atI1 {α : Type} {x y : α} {xs : List α} : L2.atI (x :: y :: xs) 1 = some y := by
  show (ixN (xs.length + 2) 1).bind _ = _
  unfold ixN
  rw [if_pos (by omega), if_pos (by omega)]
  rfl
theorem atI2 {α : Type} {x y z : α} {xs : List α} : L2.atI (x :: y :: z :: xs) 2 = some z := by
  show (ixN (xs.length + 3) 2).bind _ = _
  unfold ixN
  rw [if_pos (by omega), if_pos (by omega)]
  rfl
theorem atI_int {α : Type} {xs : List α} {i : Int} (h0 : 0 ≤ i) (h1 : i < xs.length) : L2.atI xs i = some (xs[i.toNat]'(by omega)) := by
  unfold L2.atI ixN
  rw [if_pos h0, if_pos h1]
  exact List.getElem?_eq_getElem (by omega)
theorem ixN0 {n : Nat} : ixN (n + 1) 0 = some 0 := by unfold ixN; rw [if_pos (by omega), if_pos (by omega)]; rfl
theorem ixN1 {n : Nat} : ixN (n + 2) 1 = some 1 := by unfold ixN; rw [if_pos (by omega), if_pos (by omega)]; rfl
theorem ixN2 {n : Nat} : ixN (n + 3) 2 = some 2 := by unfold ixN; rw [if_pos (by omega), if_pos (by omega)]; rfl
theorem some_inj_ex {α : Type} {a : α} {p : α → Prop} : (∃ d, some a = some d ∧ p d) ↔ p a := ⟨fun ⟨d, e, h⟩ => by cases e; exact h, fun h => ⟨a, rfl, h⟩⟩
theorem eqD_int {a b : Int} : eqD (.int a) (.int b) = decide (a = b) := by
  unfold eqD
  simp only [pd, PyData.eqv]
  rw [Bool.beq_eq_decide_eq]
theorem okD_int {n : Nat} {a : Int} : okD n (.int a) = true := by unfold okD; rfl
theorem setAt0 {α : Type} {x : α} : setAt [] 0 x = [x] := rfl
theorem setAt1 {α : Type} {a x : α} : setAt [a] 1 x = [a, x] := rfl
theorem setAt2 {α : Type} {a b x : α} : setAt [a, b] 2 x = [a, b, x] := rfl
theorem setAt3 {α : Type} {a b c x : α} : setAt [a, b, c] 3 x = [a, b, c, x] := rfl
/-- bits -/
def Bt (n : Nat) (x : Int) : Prop := x.natAbs.log2 < n
theorem log2_lt_of {x n : Nat} (h : x < 2 ^ n) (hn : 0 < n) : x.log2 < n := by
  by_cases h0 : x = 0
  · subst h0; simpa using hn
  · exact (Nat.log2_lt h0).mpr h
theorem Bt.of {n : Nat} {x : Int} (hn : 0 < n) (h1 : -(2 ^ n : Int) < x) (h2 : x < 2 ^ n) : Bt n x := by
  refine log2_lt_of ?_ hn
  have : ((2 ^ n : Nat) : Int) = 2 ^ n := by simp
  omega
theorem Bt.mono {n m : Nat} {x : Int} (h : Bt n x) (hm : n ≤ m) : Bt m x := Nat.lt_of_lt_of_le h hm
theorem Bt.lt {n : Nat} {x : Int} (h : Bt n x) : x.natAbs < 2 ^ n := by
  unfold Bt at h
  by_cases h0 : x.natAbs = 0
  · rw [h0]; exact Nat.two_pow_pos _
  · exact (Nat.log2_lt h0).mp h
theorem Bt.mul {n m : Nat} {x y : Int} (h : Bt n x) (k : Bt m y) : Bt (n + m) (x * y) := by
  have hn : 0 < n := Nat.zero_lt_of_lt h
  refine log2_lt_of ?_ (by omega)
  rw [Int.natAbs_mul, Nat.pow_add]
  exact Nat.mul_lt_mul'' h.lt k.lt
theorem Bt.add {n : Nat} {x y : Int} (h : Bt n x) (k : Bt n y) : Bt (n + 1) (x + y) := by
  refine log2_lt_of ?_ (by omega)
  have h1 := h.lt
  have h2 := k.lt
  rw [Nat.pow_succ]
  omega
theorem Bt.neg {n : Nat} {x : Int} (h : Bt n x) : Bt n (-x) := by unfold Bt; rw [Int.natAbs_neg]; exact h
theorem Bt.sub {n : Nat} {x y : Int} (h : Bt n x) (k : Bt n y) : Bt (n + 1) (x - y) := by rw [Int.sub_eq_add_neg]; exact h.add k.neg
theorem Bt.le {n : Nat} {x y : Int} (h : Bt n y) (k : x.natAbs ≤ y.natAbs) : Bt n x := by
  have hn : 0 < n := Nat.zero_lt_of_lt h
  exact log2_lt_of (Nat.lt_of_le_of_lt k h.lt) hn
theorem Bt.mulOk {n m : Nat} {x y : Int} (h : Bt n x) (k : Bt m y) (hm : n + m ≤ 100000000) : MulOk x y := by
  unfold MulOk
  unfold Bt at h k
  omega
theorem Bt.small {x : Int} (h1 : -(1000000000000 : Int) < x) (h2 : x < 1000000000000) : Bt 40 x := Bt.of (by omega) (by omega) (by omega)
theorem DivOk.of {n : Nat} {x : Int} (h0 : 0 < x) (h : Bt n x) (hn : n ≤ 9000) : DivOk x := ⟨h0, Nat.lt_of_lt_of_le h hn⟩

theorem out_sh {d : D} {ρ : REnv} {K : Rv → REnv → Prop} : out (.sh d) ρ K = K (.sh d) ρ := rfl
theorem out_fr {d : D} {ρ : REnv} {K : Rv → REnv → Prop} : out (.fr d) ρ K = ∀ a, K (.fr a d) ρ := rfl
theorem get_loc {i : Nat} {ρ : REnv} : Rv.get (.loc i) ρ = getL ρ i := rfl
theorem get_sh {d : D} {ρ : REnv} : Rv.get (.sh d) ρ = d := rfl
theorem get_fr {a : Addr} {d : D} {ρ : REnv} : Rv.get (.fr a d) ρ = d := rfl
theorem getL_z {d : D} {ρ : REnv} : getL (.sh d :: ρ) 0 = d := rfl
theorem getL_o {m : Bool} {a : Addr} {d : D} {ρ : REnv} : getL (.own m a d :: ρ) 0 = d := rfl
theorem getL_s {s : Sl} {i : Nat} {ρ : REnv} : getL (s :: ρ) (i + 1) = getL ρ i := by unfold getL; rw [List.getElem?_cons_succ]
theorem bound_z {d : D} {ρ : REnv} : bound (.sh d :: ρ) 0 = True := rfl
theorem bound_o {m : Bool} {a : Addr} {d : D} {ρ : REnv} : bound (.own m a d :: ρ) 0 = True := rfl
theorem bound_s {s : Sl} {i : Nat} {ρ : REnv} : bound (s :: ρ) (i + 1) = bound ρ i := by unfold bound; rw [List.getElem?_cons_succ]
theorem isOwn_o {m : Bool} {a : Addr} {d : D} {ρ : REnv} : isOwn (.own m a d :: ρ) 0 = True := rfl
theorem isOwn_s {s : Sl} {i : Nat} {ρ : REnv} : isOwn (s :: ρ) (i + 1) = isOwn ρ i := by unfold isOwn; rw [List.getElem?_cons_succ]
theorem pok_loc {i : Nat} {ρ : REnv} : pok (.loc i) ρ = bound ρ i := rfl
theorem pok_sh {d : D} {ρ : REnv} : pok (.sh d) ρ = True := rfl
theorem pok_fr {a : Addr} {d : D} {ρ : REnv} : pok (.fr a d) ρ = True := rfl
/-- what stands in a slot, for a store -/
def stlS (s : Option Sl) (i : Nat) (ρ : REnv) (K : D → REnv → Prop) : Prop := match s with
    | some (.sh d) => K d ρ
    | some (.own false _ d) => K d (ρ.set i (.sh d))
    | _ => False
theorem stl_loc {i : Nat} {ρ : REnv} {K : D → REnv → Prop} : stl (.loc i) ρ K = stlS ρ[i]? i ρ K := rfl
theorem stlS_sh {i : Nat} {d : D} {ρ : REnv} {K : D → REnv → Prop} : stlS (some (.sh d)) i ρ K = K d ρ := rfl
theorem stlS_own {i : Nat} {a : Addr} {d : D} {ρ : REnv} {K : D → REnv → Prop} : stlS (some (.own false a d)) i ρ K = K d (ρ.set i (.sh d)) := rfl
theorem stl_sh {d : D} {ρ : REnv} {K : D → REnv → Prop} : stl (.sh d) ρ K = K d ρ := rfl
theorem stl_fr {a : Addr} {d : D} {ρ : REnv} {K : D → REnv → Prop} : stl (.fr a d) ρ K = K d ρ := rfl
theorem lay_fr {i : Nat} {a : Addr} {d : D} {ρ : REnv} {K : REnv → Prop} : lay i (.fr a d) ρ K = K (ρ.set i (.own false a d)) := rfl
theorem lay_sh {i : Nat} {d : D} {ρ : REnv} {K : REnv → Prop} : lay i (.sh d) ρ K = K (ρ.set i (.sh d)) := rfl
theorem lay_loc {i j : Nat} {ρ : REnv} {K : REnv → Prop} : lay i (.loc j) ρ K = stlS ρ[j]? j ρ fun d ρ2 => K (ρ2.set i (.sh d)) := rfl
/-- a truth value -/
def tstD (d : D) (K : Bool → Prop) : Prop := match d with | .bl b => K b | _ => False
theorem tVal_eq {w : EW} : tVal w = fun xk ρ K => w xk ρ fun r ρ' => tstD (r.get ρ') fun b => K b ρ' := by
  funext xk ρ K
  unfold tVal tstD
  rfl
theorem tstD_bl {b : Bool} {K : Bool → Prop} : tstD (.bl b) K = K b := rfl
theorem add_ii {i j : Int} {k} : opAdd (.int i) (.int j) k = k (.sh (.int (i + j))) := rfl
theorem add_ss {i j : Str} {k} : opAdd (.str i) (.str j) k = (i.length + j.length ≤ sizeLine ∧ k (.sh (.str (i ++ j)))) := rfl
theorem add_ll {i j : List D} {k} : opAdd (.lst i) (.lst j) k = (i.length + j.length ≤ sizeLine ∧ k (.fr (.lst (i ++ j)))) := rfl
theorem sub_ii {i j : Int} {k} : opSub (.int i) (.int j) k = k (.sh (.int (i - j))) := rfl
theorem mul_ii {i j : Int} {k} : opMul (.int i) (.int j) k = (MulOk i j ∧ k (.sh (.int (i * j)))) := rfl
theorem fdv_ii {i j : Int} {k} : opFdv (.int i) (.int j) k = (DivOk j ∧ k (.sh (.int (i / j)))) := rfl
theorem fdvN_ii {i j : Int} {k} : opFdvN (.int i) (.int j) k = (DivOkN j ∧ k (.sh (.int (i.fdiv j)))) := rfl
theorem mod_ii {i j : Int} {k} : opMod (.int i) (.int j) k = (0 < j ∧ k (.sh (.int (i % j)))) := rfl
theorem modN_ii {i j : Int} {k} : opModN (.int i) (.int j) k = (j ≠ 0 ∧ k (.sh (.int (i.fmod j)))) := rfl
theorem pow_ii {i j : Int} {k} : opPow (.int i) (.int j) k = (CPow i j ∧ k (.sh (.int (i ^ j.toNat)))) := rfl
theorem lt_ii {i j : Int} {k} : opLt (.int i) (.int j) k = k (.sh (.bl (decide (i < j)))) := rfl
theorem le_ii {i j : Int} {k} : opLe (.int i) (.int j) k = k (.sh (.bl (decide (i ≤ j)))) := rfl
theorem gt_ii {i j : Int} {k} : opGt (.int i) (.int j) k = k (.sh (.bl (decide (j < i)))) := rfl
theorem ge_ii {i j : Int} {k} : opGe (.int i) (.int j) k = k (.sh (.bl (decide (j ≤ i)))) := rfl
theorem eq_ii {i j : Int} {k} : opEq (.int i) (.int j) k = k (.sh (.bl (decide (i = j)))) := by unfold opEq; rw [eqD_int, okD_int, okD_int]; exact propext ⟨fun h => h.2, fun h => ⟨⟨rfl, rfl⟩, h⟩⟩
theorem ne_ii {i j : Int} {k} : opNe (.int i) (.int j) k = k (.sh (.bl (!decide (i = j)))) := by unfold opNe; rw [eqD_int, okD_int, okD_int]; exact propext ⟨fun h => h.2, fun h => ⟨⟨rfl, rfl⟩, h⟩⟩
theorem ix_li {ds : List D} {i : Int} {k} : opIx (.lst ds) (.int i) k = ∃ d, L2.atI ds i = some d ∧ k (.sh d) := rfl
theorem ix_ti {ds : List D} {i : Int} {k} : opIx (.tup ds) (.int i) k = ∃ d, L2.atI ds i = some d ∧ k (.sh d) := rfl
theorem neg_i {i : Int} {k} : opNeg (.int i) k = k (.sh (.int (-i))) := rfl
theorem abs_i {i : Int} {k} : opAbs (.int i) k = k (.sh (.int (if i < 0 then -i else i))) := rfl
theorem int_i {i : Int} {k} : opInt (.int i) k = k (.sh (.int i)) := rfl
theorem int_b {i : Bool} {k} : opInt (.bl i) k = k (.sh (.int (if i then 1 else 0))) := rfl
theorem max_ii {i j : Int} {k} : opMax2 (.int i) (.int j) k = k (.sh (.int (if j > i then j else i))) := rfl
theorem min_ii {i j : Int} {k} : opMin2 (.int i) (.int j) k = k (.sh (.int (if j < i then j else i))) := rfl
theorem len_l {ds : List D} {k} : opLen (.lst ds) k = k (.sh (.int ds.length)) := rfl
theorem len_t {ds : List D} {k} : opLen (.tup ds) k = k (.sh (.int ds.length)) := rfl
theorem list_l {ds : List D} {k} : opList (.lst ds) k = k (.fr (.lst ds)) := rfl
theorem sl_l {lo hi : Option Int} {ds : List D} {k} : opSl lo hi (.lst ds) k = k (.fr (.lst (cutL ds lo hi))) := rfl
theorem list_t {ds : List D} {k} : opList (.tup ds) k = k (.fr (.lst ds)) := rfl
theorem rev_l {ds : List D} {k} : opRev (.lst ds) k = k (.fr (.lst ds.reverse)) := rfl
theorem isi_int {t : Ty} {i : Int} {k} : opIsI t (.int i) k = k (.sh (.bl (isTy t (.int i)))) := propext ⟨fun h => h.2, fun h => ⟨rfl, h⟩⟩
theorem isi_bl {t : Ty} {i : Bool} {k} : opIsI t (.bl i) k = k (.sh (.bl (isTy t (.bl i)))) := propext ⟨fun h => h.2, fun h => ⟨rfl, h⟩⟩
theorem isi_tup {t : Ty} {i : List D} {k} : opIsI t (.tup i) k = k (.sh (.bl (isTy t (.tup i)))) := propext ⟨fun h => h.2, fun h => ⟨rfl, h⟩⟩
theorem isi_lst {t : Ty} {i : List D} {k} : opIsI t (.lst i) k = k (.sh (.bl (isTy t (.lst i)))) := propext ⟨fun h => h.2, fun h => ⟨rfl, h⟩⟩
theorem isi_non {t : Ty} {k} : opIsI t .non k = k (.sh (.bl (isTy t .non))) := propext ⟨fun h => h.2, fun h => ⟨rfl, h⟩⟩
theorem isN_i {i : Int} {k} : opIsN (.int i) k = k (.sh (.bl false)) := rfl
theorem isN_n {k} : opIsN .non k = k (.sh (.bl true)) := rfl
theorem isN_t {i : List D} {k} : opIsN (.tup i) k = k (.sh (.bl false)) := rfl
theorem isN_l {i : List D} {k} : opIsN (.lst i) k = k (.sh (.bl false)) := rfl
theorem notN_i {i : Int} {k} : opNotN (.int i) k = k (.sh (.bl true)) := rfl
theorem notN_n {k} : opNotN .non k = k (.sh (.bl false)) := rfl
theorem notN_t {i : List D} {k} : opNotN (.tup i) k = k (.sh (.bl true)) := rfl
theorem notN_l {i : List D} {k} : opNotN (.lst i) k = k (.sh (.bl true)) := rfl
def eFldD (c j : Nat) (d : D) (K : D → Prop) : Prop := match d with
  | .obj c' ds => c' = c ∧ match ds[j]? with | some d => K d | none => False
  | _ => False
theorem eFld_eq {c j : Nat} {w : EW} : eFld c j w = fun xk ρ K => w xk ρ fun r ρ1 => eFldD c j (r.get ρ1) fun d => K (.sh d) ρ1 := rfl
theorem eFldD_o {c c' j : Nat} {ds : List D} {K : D → Prop} : eFldD c j (.obj c' ds) K = (c' = c ∧ match ds[j]? with | some d => K d | none => False) := rfl
local macro_rules | `(tactic| walk_at "sx") => `(tactic| simp only [sSeq, sNil, sSet, sFrz, frz_o, frz_sh, frz_s, sIf, sRet, sRetN, sPass, sBrk, sPar, sSub, sApp, sExpr, sAsg, sAug, sFld, sRevI, sPop, eLoc, eC, eUn, eBin, eAnd, eOr, eNot, eIf, eTup, eLst, dNil, dCons, tVal_eq, tstD_bl, tAndW, tOrW, tNotW, eFld_eq, eFldD_o, eProp, eMeth, eMeth0, eSl, pNone, pSome, sl_l,
  out_sh, out_fr, get_loc, get_sh, get_fr, getL_z, getL_o, getL_s, bound_z, bound_o, bound_s, isOwn_o, isOwn_s, pok_loc, pok_sh, pok_fr, stl_loc, stlS_sh, stlS_own, stl_sh, stl_fr, lay_fr, lay_sh, lay_loc, envOf, slotsOf, valN, ghOf, endK, resK, exMu, muN, List.cons_append, List.nil_append, List.append_nil, List.length_cons, List.length_nil, Nat.reduceAdd, Nat.reduceSub, List.replicate_succ, List.replicate_zero, List.replicate,
  List.getElem?_cons_zero, List.getElem?_cons_succ, List.getElem?_nil, List.set_cons_zero, List.set_cons_succ,
  add_ii, add_ss, add_ll, sub_ii, mul_ii, fdv_ii, fdvN_ii, mod_ii, modN_ii, pow_ii, lt_ii, le_ii, gt_ii, ge_ii, eq_ii, ne_ii, ix_li, ix_ti, neg_i, abs_i, int_i, int_b, max_ii, min_ii, len_l, len_t, list_l, list_t, rev_l, isi_int, isi_bl, isi_tup, isi_lst, isi_non, isN_i, isN_n, isN_t, isN_l, notN_i, notN_n, notN_t, notN_l, isTy,
  atI0, atI1, atI2, ixN0, ixN1, ixN2, some_inj_ex, isObj, setAt0, setAt1, setAt2, setAt3, restE, keepS, wipeE, ↓reduceIte, if_false, if_true,
  eCall, eCallP, eMake, pm, List.filterMap_cons, List.filterMap_nil, agNil, agRo, agBo, agMu, agTm, callK, boIx, muIx, tms, argsK, upE, reown, hasBo, noTm, List.nodup_nil, List.nodup_cons, List.not_mem_nil, not_false_eq_true, Nat.zero_le, Nat.le_refl, Nat.reduceLeDiff, List.mem_cons, or_false, reduceCtorEq,
  gN, gTp, gCn, gNl, iR1, iR2, iLst, iTpl, iEnum, stab,
  true_and, and_true, Bool.true_eq_false, Bool.false_eq_true, false_imp_iff, forall_const, true_imp_iff, and_self, decide_eq_true_eq, decide_eq_false_iff_not, Bool.not_eq_true', Bool.not_eq_false'])
theorem gcd_step {x y : Int} (hy : 0 < y) : Int.gcd y (x % y) = Int.gcd x y := by
  rw [Int.gcd_comm x y]
  have h : x % y = x + y * (-(x / y)) := by
    have := Int.emod_add_mul_ediv x y
    rw [Int.mul_neg]; omega
  rw [h]
  exact Int.gcd_add_mul_left_right y x (-(x / y))
theorem natAbs_if (z : Int) : (if z < 0 then -z else z) = (z.natAbs : Int) := by split <;> omega

def b_gcd : SW := (sSeq (sFrz 0 (sSet 0 (eUn opAbs (eLoc 0))))
  (sSeq (sFrz 1 (sSet 1 (eUn opAbs (eLoc 1))))
  (sSeq (sWhile (tVal (eBin opGt (eLoc 1) (eC (.int 0)))) (sPar 0 1 (dCons (eLoc 1) (dCons (eBin opMod (eLoc 0) (eLoc 1)) dNil))))
  (sRet (eLoc 0)))))
def sp_gcd : FSpec := fun args kr _ => ∃ a b : Int, args = [.ro (.int a), .ro (.int b)] ∧ kr (.sh (.int (Int.gcd a b))) []
theorem sat_gcd : Sat 2 sp_gcd b_gcd := by
  rintro args mus kr kx hm ⟨a, b, rfl, hk⟩
  obtain rfl := mus0 hm
  unfold b_gcd
  walk_at "sx"
  rw [natAbs_if, natAbs_if]
  refine ⟨fun m ρ => ∃ x y : Int, ρ = [.sh (.int x), .sh (.int y)] ∧ 0 ≤ x ∧ 0 ≤ y ∧ Int.gcd x y = Int.gcd a b ∧ m = y.toNat, ⟨_, _, _, rfl, by omega, by omega, by simp [Int.gcd], rfl⟩, ?_⟩
  rintro m ρ ⟨x, y, rfl, hx, hy, hg, rfl⟩
  walk_at "sx"
  refine ⟨fun h => ⟨by omega, _, ?_, _, _, rfl, hy, Int.emod_nonneg _ (by omega), ?_, rfl⟩, fun h => ?_⟩
  · have := Int.emod_lt_of_pos x h
    have := Int.emod_nonneg x (by omega : y ≠ 0)
    omega
  · rw [← hg, gcd_step h]
  · have : y = 0 := by omega
    subst this
    rw [← hg] at hk
    simp only [Int.gcd_zero_right] at hk
    rw [Int.natAbs_of_nonneg hx] at hk
    exact hk
/-- the same def with int() around the left one -/
def b_law_gcd : SW := (sSeq (sFrz 0 (sSet 0 (eUn opAbs (eLoc 0))))
  (sSeq (sFrz 1 (sSet 1 (eUn opAbs (eLoc 1))))
  (sSeq (sWhile (tVal (eBin opGt (eLoc 1) (eC (.int 0)))) (sPar 0 1 (dCons (eLoc 1) (dCons (eBin opMod (eUn opInt (eLoc 0)) (eLoc 1)) dNil))))
  (sRet (eLoc 0)))))
def sp_law_gcd : FSpec := sp_gcd
theorem sat_law_gcd : Sat 2 sp_law_gcd b_law_gcd := by
  rintro args mus kr kx hm ⟨a, b, rfl, hk⟩
  obtain rfl := mus0 hm
  unfold b_law_gcd
  walk_at "sx"
  rw [natAbs_if, natAbs_if]
  refine ⟨fun m ρ => ∃ x y : Int, ρ = [.sh (.int x), .sh (.int y)] ∧ 0 ≤ x ∧ 0 ≤ y ∧ Int.gcd x y = Int.gcd a b ∧ m = y.toNat, ⟨_, _, _, rfl, by omega, by omega, by simp [Int.gcd], rfl⟩, ?_⟩
  rintro m ρ ⟨x, y, rfl, hx, hy, hg, rfl⟩
  walk_at "sx"
  refine ⟨fun h => ⟨by omega, _, ?_, _, _, rfl, hy, Int.emod_nonneg _ (by omega), ?_, rfl⟩, fun h => ?_⟩
  · have := Int.emod_lt_of_pos x h
    have := Int.emod_nonneg x (by omega : y ≠ 0)
    omega
  · rw [← hg, gcd_step h]
  · have : y = 0 := by omega
    subst this
    rw [← hg] at hk
    simp only [Int.gcd_zero_right] at hk
    rw [Int.natAbs_of_nonneg hx] at hk
    exact hk

abbrev encR (p : Int × Int) : D := .tup [.int p.1, .int p.2]
end TL

namespace TL
open PySem L2
local macro_rules | `(tactic| walk_at "sx") => `(tactic| simp only [sSeq, sNil, sSet, sFrz, frz_o, frz_sh, frz_s, sIf, sRet, sRetN, sPass, sBrk, sPar, sSub, sApp, sExpr, sAsg, sAug, sFld, sRevI, sPop, eLoc, eC, eUn, eBin, eAnd, eOr, eNot, eIf, eTup, eLst, dNil, dCons, tVal_eq, tstD_bl, tAndW, tOrW, tNotW, eFld_eq, eFldD_o, eProp, eMeth, eMeth0, eSl, pNone, pSome, sl_l,
  out_sh, out_fr, get_loc, get_sh, get_fr, getL_z, getL_o, getL_s, bound_z, bound_o, bound_s, isOwn_o, isOwn_s, pok_loc, pok_sh, pok_fr, stl_loc, stlS_sh, stlS_own, stl_sh, stl_fr, lay_fr, lay_sh, lay_loc, envOf, slotsOf, valN, ghOf, endK, resK, exMu, muN, List.cons_append, List.nil_append, List.append_nil, List.length_cons, List.length_nil, Nat.reduceAdd, Nat.reduceSub, List.replicate_succ, List.replicate_zero, List.replicate,
  List.getElem?_cons_zero, List.getElem?_cons_succ, List.getElem?_nil, List.set_cons_zero, List.set_cons_succ,
  add_ii, add_ss, add_ll, sub_ii, mul_ii, fdv_ii, fdvN_ii, mod_ii, modN_ii, pow_ii, lt_ii, le_ii, gt_ii, ge_ii, eq_ii, ne_ii, ix_li, ix_ti, neg_i, abs_i, int_i, int_b, max_ii, min_ii, len_l, len_t, list_l, list_t, rev_l, isi_int, isi_bl, isi_tup, isi_lst, isi_non, isN_i, isN_n, isN_t, isN_l, notN_i, notN_n, notN_t, notN_l, isTy,
  atI0, atI1, atI2, ixN0, ixN1, ixN2, some_inj_ex, isObj, setAt0, setAt1, setAt2, setAt3, restE, keepS, wipeE, ↓reduceIte, if_false, if_true,
  eCall, eCallP, eMake, pm, List.filterMap_cons, List.filterMap_nil, agNil, agRo, agBo, agMu, agTm, callK, boIx, muIx, tms, argsK, upE, reown, hasBo, noTm, flatRo, noLstAll, noLst, noLsts, List.nodup_nil, List.nodup_cons, List.not_mem_nil, not_false_eq_true, Nat.zero_le, Nat.le_refl, Nat.reduceLeDiff, List.mem_cons, or_false, reduceCtorEq,
  gN, gTp, gCn, gNl, iR1, iR2, iLst, iTpl, iEnum, stab,
  true_and, and_true, Bool.true_eq_false, Bool.false_eq_true, false_imp_iff, forall_const, true_imp_iff, and_self, decide_eq_true_eq, decide_eq_false_iff_not, Bool.not_eq_true', Bool.not_eq_false'])
/-! ### numbers -/
theorem dvd_of_gcd {m b c : Int} (h : Int.gcd b m = 1) (d : m ∣ c * b) : m ∣ c := by
  have h1 : Nat.Coprime m.natAbs b.natAbs := by rw [Nat.coprime_comm]; exact h
  have h2 : m.natAbs ∣ c.natAbs * b.natAbs := by rw [← Int.natAbs_mul]; exact Int.natAbs_dvd_natAbs.mpr d
  exact Int.natAbs_dvd_natAbs.mp (h1.dvd_of_dvd_mul_right h2)
/-- the remainder of t / b by m: the first number r with r * b = t modulo m -/
def remF (m t b : Int) : Int := (((List.range m.toNat).find? fun (r : Nat) => decide (((r : Int) * b - t) % m = 0)).getD 0 : Nat)
theorem rem_uniq {m t b r s : Int} (hm : 0 < m) (hg : Int.gcd b m = 1) (r0 : 0 ≤ r) (r1 : r < m) (s0 : 0 ≤ s) (s1 : s < m) (hr : (r * b - t) % m = 0) (hs : (s * b - t) % m = 0) : r = s := by
  have h1 := Int.dvd_of_emod_eq_zero hr
  have h2 := Int.dvd_of_emod_eq_zero hs
  have h3 : m ∣ (r - s) * b := by
    have := Int.dvd_sub h1 h2
    have e : r * b - t - (s * b - t) = (r - s) * b := by rw [Int.sub_mul]; omega
    rw [e] at this; exact this
  obtain ⟨k, hk⟩ := dvd_of_gcd hg h3
  have : k = 0 := by
    rcases Int.lt_trichotomy k 0 with h | h | h
    · have : m * k ≤ m * (-1) := Int.mul_le_mul_of_nonneg_left (by omega) (by omega)
      omega
    · exact h
    · have : m * 1 ≤ m * k := Int.mul_le_mul_of_nonneg_left (by omega) (by omega)
      omega
  subst this
  omega
theorem remF_eq {m t b r : Int} (hm : 0 < m) (hg : Int.gcd b m = 1) (r0 : 0 ≤ r) (r1 : r < m) (hr : (r * b - t) % m = 0) : remF m t b = r := by
  unfold remF
  cases h : (List.range m.toNat).find? fun (r : Nat) => decide (((r : Int) * b - t) % m = 0) with
  | none =>
    have := List.find?_eq_none.mp h r.toNat (List.mem_range.mpr (by omega))
    rw [Int.toNat_of_nonneg r0] at this
    simp [hr] at this
  | some s =>
    have h1 := List.find?_some h
    have h2 := List.mem_range.mp (List.mem_of_find?_eq_some h)
    have h3 : ((s : Int) * b - t) % m = 0 := by simpa using h1
    exact rem_uniq hm hg (by omega) (by simp; omega) r0 r1 h3 hr

/-- the tuple is a fraction that is good for m -/
def Good (m : Int) (p : Int × Int) : Prop := 1 ≤ p.2 ∧ Int.gcd p.1 p.2 = 1 ∧ Int.gcd p.2 m = 1
instance (m : Int) (p : Int × Int) : Decidable (Good m p) := by unfold Good; exact inferInstance
end TL

namespace TL
open PySem L2
local macro_rules | `(tactic| walk_at "sx") => `(tactic| simp only [sSeq, sNil, sSet, sFrz, frz_o, frz_sh, frz_s, sIf, sRet, sRetN, sPass, sBrk, sPar, sSub, sApp, sExpr, sAsg, sAug, sFld, sRevI, sPop, eLoc, eC, eUn, eBin, eAnd, eOr, eNot, eIf, eTup, eLst, dNil, dCons, tVal_eq, tstD_bl, tAndW, tOrW, tNotW, eFld_eq, eFldD_o, eProp, eMeth, eMeth0, eSl, pNone, pSome, sl_l,
  out_sh, out_fr, get_loc, get_sh, get_fr, getL_z, getL_o, getL_s, bound_z, bound_o, bound_s, isOwn_o, isOwn_s, pok_loc, pok_sh, pok_fr, stl_loc, stlS_sh, stlS_own, stl_sh, stl_fr, lay_fr, lay_sh, lay_loc, envOf, slotsOf, valN, ghOf, endK, resK, exMu, muN, List.cons_append, List.nil_append, List.append_nil, List.length_cons, List.length_nil, Nat.reduceAdd, Nat.reduceSub, List.replicate_succ, List.replicate_zero, List.replicate,
  List.getElem?_cons_zero, List.getElem?_cons_succ, List.getElem?_nil, List.set_cons_zero, List.set_cons_succ,
  add_ii, add_ss, add_ll, sub_ii, mul_ii, fdv_ii, fdvN_ii, mod_ii, modN_ii, pow_ii, lt_ii, le_ii, gt_ii, ge_ii, eq_ii, ne_ii, ix_li, ix_ti, neg_i, abs_i, int_i, int_b, max_ii, min_ii, len_l, len_t, list_l, list_t, rev_l, isi_int, isi_bl, isi_tup, isi_lst, isi_non, isN_i, isN_n, isN_t, isN_l, notN_i, notN_n, notN_t, notN_l, isTy,
  atI0, atI1, atI2, ixN0, ixN1, ixN2, some_inj_ex, isObj, setAt0, setAt1, setAt2, setAt3, restE, keepS, wipeE, ↓reduceIte, if_false, if_true,
  eCall, eCallP, eMake, pm, List.filterMap_cons, List.filterMap_nil, agNil, agRo, agBo, agMu, agTm, callK, boIx, muIx, tms, argsK, upE, reown, hasBo, noTm, flatRo, noLstAll, noLst, noLsts, List.nodup_nil, List.nodup_cons, List.not_mem_nil, not_false_eq_true, Nat.zero_le, Nat.le_refl, Nat.reduceLeDiff, List.mem_cons, or_false, reduceCtorEq,
  gN, gTp, gCn, gNl, iR1, iR2, iLst, iTpl, iEnum, stab,
  true_and, and_true, Bool.true_eq_false, Bool.false_eq_true, false_imp_iff, forall_const, true_imp_iff, and_self, decide_eq_true_eq, decide_eq_false_iff_not, Bool.not_eq_true', Bool.not_eq_false'])
/-! ### maps -/
abbrev encRs (rs : List (Int × Int)) : D := .lst (rs.map encR)
abbrev mapD (rs : List (Int × Int)) : D := .obj 0 [.int rs.length, encRs rs]
/-- the rule p is one for the remainder r -/
def RuleOk (m r : Int) (p : Int × Int) : Prop := 1 ≤ p.1 ∧ Int.gcd p.1 m = 1 ∧ (p.1 * r + p.2) % m = 0
instance (m r : Int) (p : Int × Int) : Decidable (RuleOk m r p) := by unfold RuleOk; exact inferInstance
structure MapOk (rs : List (Int × Int)) : Prop where
  two : 2 ≤ rs.length
  few : rs.length ≤ 100000
  ok : ∀ (i : Nat) (p : Int × Int), rs[i]? = some p → RuleOk rs.length i p
  sz : ∀ p ∈ rs, Bt 1000000 p.1 ∧ Bt 1000000 p.2
def sp_Map_modulus : FSpec := fun args kr _ => ∃ rs, args = [.ro (mapD rs)] ∧ kr (.sh (.int rs.length)) []
def sp_Map_rules : FSpec := fun args kr _ => ∃ rs, args = [.ro (mapD rs)] ∧ kr (.fr (encRs rs)) []
theorem MapOk.bt {rs : List (Int × Int)} (h : MapOk rs) : Bt 9000 (rs.length : Int) := (Bt.small (x := rs.length) (by omega) (by have := h.few; omega)).mono (by omega)
def sp_remainder_of : FSpec := fun args kr _ => ∃ rs p, args = [.ro (mapD rs), .ro (encR p)] ∧ MapOk rs ∧ Good rs.length p ∧ Bt 90000000 p.1 ∧ kr (.sh (.int (remF rs.length p.1 p.2))) []
def sp_Map_init : FSpec := fun args kr _ => ∃ rs, args = [.mu (.obj 0 []), .ro (.int rs.length), .ro (encRs rs)] ∧ MapOk rs ∧ kr (.sh .non) [mapD rs]
theorem line_big {n : Nat} (h : n ≤ 10000000) : n < sizeLine := Nat.lt_of_le_of_lt h (by decide)
end TL

namespace TL
open PySem L2
local macro_rules | `(tactic| walk_at "sx") => `(tactic| simp only [sSeq, sNil, sSet, sFrz, frz_o, frz_sh, frz_s, sIf, sRet, sRetN, sPass, sBrk, sPar, sSub, sApp, sExpr, sAsg, sAug, sFld, sRevI, sPop, eLoc, eC, eUn, eBin, eAnd, eOr, eNot, eIf, eTup, eLst, dNil, dCons, tVal_eq, tstD_bl, tAndW, tOrW, tNotW, eFld_eq, eFldD_o, eProp, eMeth, eMeth0, eSl, pNone, pSome, sl_l,
  out_sh, out_fr, get_loc, get_sh, get_fr, getL_z, getL_o, getL_s, bound_z, bound_o, bound_s, isOwn_o, isOwn_s, pok_loc, pok_sh, pok_fr, stl_loc, stlS_sh, stlS_own, stl_sh, stl_fr, lay_fr, lay_sh, lay_loc, envOf, slotsOf, valN, ghOf, endK, resK, exMu, muN, List.cons_append, List.nil_append, List.append_nil, List.length_cons, List.length_nil, Nat.reduceAdd, Nat.reduceSub, List.replicate_succ, List.replicate_zero, List.replicate,
  List.getElem?_cons_zero, List.getElem?_cons_succ, List.getElem?_nil, List.set_cons_zero, List.set_cons_succ,
  add_ii, add_ss, add_ll, sub_ii, mul_ii, fdv_ii, fdvN_ii, mod_ii, modN_ii, pow_ii, lt_ii, le_ii, gt_ii, ge_ii, eq_ii, ne_ii, ix_li, ix_ti, neg_i, abs_i, int_i, int_b, max_ii, min_ii, len_l, len_t, list_l, list_t, rev_l, isi_int, isi_bl, isi_tup, isi_lst, isi_non, isN_i, isN_n, isN_t, isN_l, notN_i, notN_n, notN_t, notN_l, isTy,
  atI0, atI1, atI2, ixN0, ixN1, ixN2, some_inj_ex, isObj, setAt0, setAt1, setAt2, setAt3, restE, keepS, wipeE, ↓reduceIte, if_false, if_true,
  eCall, eCallP, eMake, pm, List.filterMap_cons, List.filterMap_nil, agNil, agRo, agBo, agMu, agTm, callK, boIx, muIx, tms, argsK, upE, reown, hasBo, noTm, flatRo, noLstAll, noLst, noLsts, List.nodup_nil, List.nodup_cons, List.not_mem_nil, not_false_eq_true, Nat.zero_le, Nat.le_refl, Nat.reduceLeDiff, List.mem_cons, or_false, reduceCtorEq,
  gN, gTp, gCn, gNl, iR1, iR2, iLst, iTpl, iEnum, stab,
  true_and, and_true, Bool.true_eq_false, Bool.false_eq_true, false_imp_iff, forall_const, true_imp_iff, and_self, decide_eq_true_eq, decide_eq_false_iff_not, Bool.not_eq_true', Bool.not_eq_false'])

abbrev src (x y z : Int) : D := .lst [.int x, .int y, .int z]
abbrev encZs (ns : List Int) : D := .lst (ns.map D.int)
def sp_law_source : FSpec := fun args kr _ => ∃ (ns : List Int) (k : Int), args = [.ro (encZs ns), .ro (.int k)] ∧ 0 ≤ k ∧ (∀ n ∈ ns, Bt 2000000 n) ∧ ns.length ≤ 1000 ∧ ∀ x y, kr (.fr (src x y 0)) []
theorem mulOk_small {a b : Int} (h : a.natAbs < 2 ^ 64) (hb : Bt 90000000 b) : MulOk a b := (show Bt 64 a from log2_lt_of h (by omega)).mulOk hb (by omega)
theorem bt_abs {n : Nat} {x : Int} (h : Bt n x) : Bt n (if x < 0 then -x else x) := by split; exact h.neg; exact h
/-- many draws leave the source a source -/
def sp_law_take : FSpec := fun args kr _ => ∃ x y z many N : Int, args = [.mu (src x y z), .ro (.int many)] ∧ 0 < many ∧ Bt 9000 many ∧ 0 ≤ z ∧ z ≤ N ∧ N ≤ 1000000000 ∧ ∀ t x' z', 0 ≤ t → t < many → 0 ≤ z' → z' ≤ N + 1 → kr (.sh (.int t)) [src x' y z']
end TL

namespace TL
open PySem L2
local macro_rules | `(tactic| walk_at "sx") => `(tactic| simp only [sSeq, sNil, sSet, sFrz, frz_o, frz_sh, frz_s, sIf, sRet, sRetN, sPass, sBrk, sPar, sSub, sApp, sExpr, sAsg, sAug, sFld, sRevI, sPop, eLoc, eC, eUn, eBin, eAnd, eOr, eNot, eIf, eTup, eLst, dNil, dCons, tVal_eq, tstD_bl, tAndW, tOrW, tNotW, eFld_eq, eFldD_o, eProp, eMeth, eMeth0, eSl, pNone, pSome, sl_l,
  out_sh, out_fr, get_loc, get_sh, get_fr, getL_z, getL_o, getL_s, bound_z, bound_o, bound_s, isOwn_o, isOwn_s, pok_loc, pok_sh, pok_fr, stl_loc, stlS_sh, stlS_own, stl_sh, stl_fr, lay_fr, lay_sh, lay_loc, envOf, slotsOf, valN, ghOf, endK, resK, exMu, muN, List.cons_append, List.nil_append, List.append_nil, List.length_cons, List.length_nil, Nat.reduceAdd, Nat.reduceSub, List.replicate_succ, List.replicate_zero, List.replicate,
  List.getElem?_cons_zero, List.getElem?_cons_succ, List.getElem?_nil, List.set_cons_zero, List.set_cons_succ,
  add_ii, add_ss, add_ll, sub_ii, mul_ii, fdv_ii, fdvN_ii, mod_ii, modN_ii, pow_ii, lt_ii, le_ii, gt_ii, ge_ii, eq_ii, ne_ii, ix_li, ix_ti, neg_i, abs_i, int_i, int_b, max_ii, min_ii, len_l, len_t, list_l, list_t, rev_l, isi_int, isi_bl, isi_tup, isi_lst, isi_non, isN_i, isN_n, isN_t, isN_l, notN_i, notN_n, notN_t, notN_l, isTy,
  atI0, atI1, atI2, ixN0, ixN1, ixN2, some_inj_ex, isObj, setAt0, setAt1, setAt2, setAt3, restE, keepS, wipeE, ↓reduceIte, if_false, if_true,
  eCall, eCallP, eMake, pm, List.filterMap_cons, List.filterMap_nil, agNil, agRo, agBo, agMu, agTm, callK, boIx, muIx, tms, argsK, upE, reown, hasBo, noTm, flatRo, noLstAll, noLst, noLsts, List.nodup_nil, List.nodup_cons, List.not_mem_nil, not_false_eq_true, Nat.zero_le, Nat.le_refl, Nat.reduceLeDiff, List.mem_cons, or_false, reduceCtorEq,
  gN, gTp, gCn, gNl, iR1, iR2, iLst, iTpl, iEnum, stab,
  true_and, and_true, Bool.true_eq_false, Bool.false_eq_true, false_imp_iff, forall_const, true_imp_iff, and_self, decide_eq_true_eq, decide_eq_false_iff_not, Bool.not_eq_true', Bool.not_eq_false'])

/-! ### numbers without a common divisor, a few steps down or up -/
end TL

namespace TL
open PySem L2
local macro_rules | `(tactic| walk_at "sx") => `(tactic| simp only [sSeq, sNil, sSet, sFrz, frz_o, frz_sh, frz_s, sIf, sRet, sRetN, sPass, sBrk, sPar, sSub, sApp, sExpr, sAsg, sAug, sFld, sRevI, sPop, eLoc, eC, eUn, eBin, eAnd, eOr, eNot, eIf, eTup, eLst, dNil, dCons, tVal_eq, tstD_bl, tAndW, tOrW, tNotW, eFld_eq, eFldD_o, eProp, eMeth, eMeth0, eSl, pNone, pSome, sl_l,
  out_sh, out_fr, get_loc, get_sh, get_fr, getL_z, getL_o, getL_s, bound_z, bound_o, bound_s, isOwn_o, isOwn_s, pok_loc, pok_sh, pok_fr, stl_loc, stlS_sh, stlS_own, stl_sh, stl_fr, lay_fr, lay_sh, lay_loc, envOf, slotsOf, valN, ghOf, endK, resK, exMu, muN, List.cons_append, List.nil_append, List.append_nil, List.length_cons, List.length_nil, Nat.reduceAdd, Nat.reduceSub, List.replicate_succ, List.replicate_zero, List.replicate,
  List.getElem?_cons_zero, List.getElem?_cons_succ, List.getElem?_nil, List.set_cons_zero, List.set_cons_succ,
  add_ii, add_ss, add_ll, sub_ii, mul_ii, fdv_ii, fdvN_ii, mod_ii, modN_ii, pow_ii, lt_ii, le_ii, gt_ii, ge_ii, eq_ii, ne_ii, ix_li, ix_ti, neg_i, abs_i, int_i, int_b, max_ii, min_ii, len_l, len_t, list_l, list_t, rev_l, isi_int, isi_bl, isi_tup, isi_lst, isi_non, isN_i, isN_n, isN_t, isN_l, notN_i, notN_n, notN_t, notN_l, isTy,
  atI0, atI1, atI2, ixN0, ixN1, ixN2, some_inj_ex, isObj, setAt0, setAt1, setAt2, setAt3, restE, keepS, wipeE, ↓reduceIte, if_false, if_true,
  eCall, eCallP, eMake, pm, List.filterMap_cons, List.filterMap_nil, agNil, agRo, agBo, agMu, agTm, callK, boIx, muIx, tms, argsK, upE, reown, hasBo, noTm, flatRo, noLstAll, noLst, noLsts, List.nodup_nil, List.nodup_cons, List.not_mem_nil, not_false_eq_true, Nat.zero_le, Nat.le_refl, Nat.reduceLeDiff, List.mem_cons, or_false, reduceCtorEq,
  gN, gTp, gCn, gNl, iR1, iR2, iLst, iTpl, iEnum, stab,
  true_and, and_true, Bool.true_eq_false, Bool.false_eq_true, false_imp_iff, forall_const, true_imp_iff, and_self, decide_eq_true_eq, decide_eq_false_iff_not, Bool.not_eq_true', Bool.not_eq_false'])

/-- rules drawn for a modulus: each fits its remainder -/
structure RulesOk (base : Nat) (rs : List (Int × Int)) : Prop where
  len : rs.length = base
  ok : ∀ (i : Nat) (p : Int × Int), rs[i]? = some p → RuleOk base i p ∧ p.1 ≤ 1000 ∧ Bt 600 p.2
theorem RulesOk.map {base : Nat} {rs : List (Int × Int)} (h : RulesOk base rs) (h2 : 2 ≤ base) (h6 : base ≤ 100000) : MapOk rs := by
  have hl := h.len
  refine ⟨by omega, by omega, fun i p e => by rw [hl]; exact (h.ok i p e).1, fun p hp => ?_⟩
  obtain ⟨i, hi⟩ := List.getElem?_of_mem hp
  have q := h.ok i p hi
  exact ⟨(Bt.small (by have := q.1.1; omega) (by omega)).mono (by omega), q.2.2.mono (by omega)⟩
theorem rule_fit {base a t r : Int} : (a * r + (base * t - a * r)) % base = 0 := by
  have : a * r + (base * t - a * r) = base * t := by omega
  rw [this, Int.mul_emod_right]
def sp_law_rules : FSpec := fun args kr _ => ∃ (x y z far N : Int) (base : Nat), args = [.mu (src x y z), .ro (.int base), .ro (.int far)] ∧ 2 ≤ base ∧ base ≤ 60 ∧ 1 ≤ far ∧ Bt 500 far ∧ 0 ≤ z ∧ z ≤ N ∧ N ≤ 10000000 ∧
  ∀ rs x' z', RulesOk base rs → 0 ≤ z' → z' ≤ N + 200 → kr (.fr (encRs rs)) [src x' y z']
theorem list3 {t a b c : Int} (h0 : 0 ≤ t) (h3 : t < 3) : ∃ l : Int, (l = a ∨ l = b ∨ l = c) ∧ L2.atI [D.int a, D.int b, D.int c] t = some (.int l) := by
  have : t = 0 ∨ t = 1 ∨ t = 2 := by omega
  rcases this with rfl | rfl | rfl
  · exact ⟨a, .inl rfl, rfl⟩
  · exact ⟨b, .inr (.inl rfl), rfl⟩
  · exact ⟨c, .inr (.inr rfl), rfl⟩
end TL

namespace TL
open PySem L2
local macro_rules | `(tactic| walk_at "sx") => `(tactic| simp only [sSeq, sNil, sSet, sFrz, frz_o, frz_sh, frz_s, sIf, sRet, sRetN, sPass, sBrk, sPar, sSub, sApp, sExpr, sAsg, sAug, sFld, sRevI, sPop, eLoc, eC, eUn, eBin, eAnd, eOr, eNot, eIf, eTup, eLst, dNil, dCons, tVal_eq, tstD_bl, tAndW, tOrW, tNotW, eFld_eq, eFldD_o, eProp, eMeth, eMeth0, eSl, pNone, pSome, sl_l,
  out_sh, out_fr, get_loc, get_sh, get_fr, getL_z, getL_o, getL_s, bound_z, bound_o, bound_s, isOwn_o, isOwn_s, pok_loc, pok_sh, pok_fr, stl_loc, stlS_sh, stlS_own, stl_sh, stl_fr, lay_fr, lay_sh, lay_loc, envOf, slotsOf, valN, ghOf, endK, resK, exMu, muN, List.cons_append, List.nil_append, List.append_nil, List.length_cons, List.length_nil, Nat.reduceAdd, Nat.reduceSub, List.replicate_succ, List.replicate_zero, List.replicate,
  List.getElem?_cons_zero, List.getElem?_cons_succ, List.getElem?_nil, List.set_cons_zero, List.set_cons_succ,
  add_ii, add_ss, add_ll, sub_ii, mul_ii, fdv_ii, fdvN_ii, mod_ii, modN_ii, pow_ii, lt_ii, le_ii, gt_ii, ge_ii, eq_ii, ne_ii, ix_li, ix_ti, neg_i, abs_i, int_i, int_b, max_ii, min_ii, len_l, len_t, list_l, list_t, rev_l, isi_int, isi_bl, isi_tup, isi_lst, isi_non, isN_i, isN_n, isN_t, isN_l, notN_i, notN_n, notN_t, notN_l, isTy,
  atI0, atI1, atI2, ixN0, ixN1, ixN2, some_inj_ex, isObj, setAt0, setAt1, setAt2, setAt3, restE, keepS, wipeE, ↓reduceIte, if_false, if_true,
  eCall, eCallP, eMake, pm, List.filterMap_cons, List.filterMap_nil, agNil, agRo, agBo, agMu, agTm, callK, boIx, muIx, tms, argsK, upE, reown, hasBo, noTm, flatRo, noLstAll, noLst, noLsts, List.nodup_nil, List.nodup_cons, List.not_mem_nil, not_false_eq_true, Nat.zero_le, Nat.le_refl, Nat.reduceLeDiff, List.mem_cons, or_false, reduceCtorEq,
  gN, gTp, gCn, gNl, iR1, iR2, iLst, iTpl, iEnum, stab,
  true_and, and_true, Bool.true_eq_false, Bool.false_eq_true, false_imp_iff, forall_const, true_imp_iff, and_self, decide_eq_true_eq, decide_eq_false_iff_not, Bool.not_eq_true', Bool.not_eq_false'])
def sp_law_good : FSpec := fun args kr _ => ∃ (x y z N : Int) (base : Nat), args = [.mu (src x y z), .ro (.int base)] ∧ 2 ≤ base ∧ base ≤ 60 ∧ 0 ≤ z ∧ z ≤ N ∧ N ≤ 10000000 ∧
  ∀ p x' z', Good base p → Bt 300 p.1 → Bt 300 p.2 → 0 ≤ z' → z' ≤ N + 20 → kr (.sh (encR p)) [src x' y z']
def sp_law_is_integer : FSpec := fun args kr _ => ∃ n : Int, args = [.ro (.int n)] ∧ kr (.sh (.bl true)) []
end TL

namespace TL
open PySem L2
local macro_rules | `(tactic| walk_at "sx") => `(tactic| simp only [sSeq, sNil, sSet, sFrz, frz_o, frz_sh, frz_s, sIf, sRet, sRetN, sPass, sBrk, sPar, sSub, sApp, sExpr, sAsg, sAug, sFld, sRevI, sPop, eLoc, eC, eUn, eBin, eAnd, eOr, eNot, eIf, eTup, eLst, dNil, dCons, tVal_eq, tstD_bl, tAndW, tOrW, tNotW, eFld_eq, eFldD_o, eProp, eMeth, eMeth0, eSl, pNone, pSome, sl_l,
  out_sh, out_fr, get_loc, get_sh, get_fr, getL_z, getL_o, getL_s, bound_z, bound_o, bound_s, isOwn_o, isOwn_s, pok_loc, pok_sh, pok_fr, stl_loc, stlS_sh, stlS_own, stl_sh, stl_fr, lay_fr, lay_sh, lay_loc, envOf, slotsOf, valN, ghOf, endK, resK, exMu, muN, List.cons_append, List.nil_append, List.append_nil, List.length_cons, List.length_nil, Nat.reduceAdd, Nat.reduceSub, List.replicate_succ, List.replicate_zero, List.replicate,
  List.getElem?_cons_zero, List.getElem?_cons_succ, List.getElem?_nil, List.set_cons_zero, List.set_cons_succ,
  add_ii, add_ss, add_ll, sub_ii, mul_ii, fdv_ii, fdvN_ii, mod_ii, modN_ii, pow_ii, lt_ii, le_ii, gt_ii, ge_ii, eq_ii, ne_ii, ix_li, ix_ti, neg_i, abs_i, int_i, int_b, max_ii, min_ii, len_l, len_t, list_l, list_t, rev_l, isi_int, isi_bl, isi_tup, isi_lst, isi_non, isN_i, isN_n, isN_t, isN_l, notN_i, notN_n, notN_t, notN_l, isTy,
  atI0, atI1, atI2, ixN0, ixN1, ixN2, some_inj_ex, isObj, setAt0, setAt1, setAt2, setAt3, restE, keepS, wipeE, ↓reduceIte, if_false, if_true,
  eCall, eCallP, eMake, pm, List.filterMap_cons, List.filterMap_nil, agNil, agRo, agBo, agMu, agTm, callK, boIx, muIx, tms, argsK, upE, reown, hasBo, noTm, flatRo, noLstAll, noLst, noLsts, List.nodup_nil, List.nodup_cons, List.not_mem_nil, not_false_eq_true, Nat.zero_le, Nat.le_refl, Nat.reduceLeDiff, List.mem_cons, or_false, reduceCtorEq,
  gN, gTp, gCn, gNl, iR1, iR2, iLst, iTpl, iEnum, stab,
  true_and, and_true, Bool.true_eq_false, Bool.false_eq_true, false_imp_iff, forall_const, true_imp_iff, and_self, decide_eq_true_eq, decide_eq_false_iff_not, Bool.not_eq_true', Bool.not_eq_false'])
def b_law : SW := (sSeq (sSet 1 (eCall 2 sp_law_source (agRo (eLoc 0) (agRo (eC (.int 0)) agNil))))
  (sSeq (sFrz 2 (sSet 2 (eBin opAdd (eC (.int 2)) (eCall 2 sp_law_take (agMu 1 (agRo (eBin opIx (eLst (dCons (eC (.int 3)) (dCons (eC (.int 11)) (dCons (eC (.int 59)) dNil)))) (eCall 2 sp_law_take (agMu 1 (agRo (eC (.int 3)) agNil)))) agNil))))))
  (sSeq (sFrz 3 (sSet 3 (eCall 3 sp_law_rules (agMu 1 (agRo (eLoc 2) (agRo (eBin opPow (eC (.int 10)) (eC (.int 27))) agNil))))))
  (sSeq (sFrz 4 (sSet 4 (eMake 0 3 sp_Map_init (agRo (eLoc 2) (agRo (eUn opList (eLoc 3)) agNil)))))
  (sSeq (sSet 5 (eLst dNil))
  (sSeq (sFor (iR2 (dCons (eC (.int 1)) (dCons (eBin opMax2 (eC (.int 2)) (eBin opMin2 (eC (.int 31)) (eUn opLen (eLoc 0)))) dNil))) (gN 6) (sSeq (sFrz 7 (sSet 7 (eCall 2 sp_law_good (agTm (eCall 2 sp_law_source (agRo (eLoc 0) (agRo (eLoc 6) agNil))) (agRo (eLoc 2) agNil)))))
  (sSeq (sFrz 8 (sSet 8 (eCall 2 sp_remainder_of (agRo (eLoc 4) (agRo (eLoc 7) agNil)))))
  (sSeq (sIf (tOrW (tNotW (tVal (eCall 1 sp_law_is_integer (agRo (eLoc 8) agNil)))) (tOrW (tVal (eBin opLt (eLoc 8) (eC (.int 0)))) (tVal (eBin opGe (eLoc 8) (eLoc 2))))) (sRet (eC (.bl false))) sNil)
  (sSeq (sIf (tVal (eBin opNe (eBin opMod (eUn opInt (eBin opSub (eBin opMul (eLoc 8) (eBin opIx (eLoc 7) (eC (.int 1)))) (eBin opIx (eLoc 7) (eC (.int 0))))) (eLoc 2)) (eC (.int 0)))) (sRet (eC (.bl false))) sNil)
  (sApp 5 (eTup (dCons (eLoc 7) (dCons (eLoc 8) dNil)))))))))
  (sSeq (sFor (iLst (eUn opRev (eLoc 5))) (gTp 2 (gCn (gN 7) (gCn (gN 8) gNl))) (sIf (tVal (eBin opNe (eCallP 2 [0, 1] sp_remainder_of (agRo (eLoc 4) (agRo (eLoc 7) agNil))) (eLoc 8))) (sRet (eC (.bl false))) sNil))
  (sRet (eAnd (eBin opEq (eProp 0 sp_Map_modulus (eLoc 4)) (eLoc 2)) (eBin opEq (eProp 0 sp_Map_rules (eLoc 4)) (eLoc 3)))))))))))

theorem bez (a b : Nat) : ∃ u v : Int, u * a + v * b = Nat.gcd a b := by
  induction a, b using Nat.gcd.induction with
  | H0 n => exact ⟨0, 1, by simp⟩
  | H1 m n h ih =>
    obtain ⟨u, v, e⟩ := ih
    refine ⟨v - u * (n / m : Nat), u, ?_⟩
    rw [Nat.gcd_rec m n, ← e]
    have : ((n % m : Nat) : Int) = n - m * (n / m : Nat) := by
      have := Nat.mod_add_div n m
      omega
    rw [this]
    grind
theorem inv_ex {n m : Int} (hm : 0 < m) (hg : Int.gcd n m = 1) : ∃ u, m ∣ u * n - 1 := by
  obtain ⟨u, v, e⟩ := bez n.natAbs m.natAbs
  have h : Nat.gcd n.natAbs m.natAbs = 1 := hg
  rw [h] at e
  have em : (m.natAbs : Int) = m := by omega
  rw [em] at e
  rcases Int.natAbs_eq n with hn | hn
  · exact ⟨u, -v, by rw [hn]; grind⟩
  · refine ⟨-u, -v, ?_⟩
    have : n = -(n.natAbs : Int) := hn
    rw [this]; grind
theorem remF_spec {m t b : Int} (hm : 0 < m) (hg : Int.gcd b m = 1) : 0 ≤ remF m t b ∧ remF m t b < m ∧ (remF m t b * b - t) % m = 0 := by
  obtain ⟨u, hu⟩ := inv_ex hm hg
  have key : remF m t b = (t * u) % m := by
    refine remF_eq hm hg (Int.emod_nonneg _ (by omega)) (Int.emod_lt_of_pos _ hm) ?_
    apply Int.emod_eq_zero_of_dvd
    have e := Int.emod_add_mul_ediv (t * u) m
    have : (t * u) % m * b - t = t * (u * b - 1) - m * (t * u / m * b) := by
      have : (t * u) % m = t * u - m * (t * u / m) := by omega
      rw [this]; grind
    rw [this]
    exact Int.dvd_sub (Int.dvd_mul_of_dvd_right hu) (Int.dvd_mul_right _ _)
  refine ⟨by rw [key]; exact Int.emod_nonneg _ (by omega), by rw [key]; exact Int.emod_lt_of_pos _ hm, ?_⟩
  rw [key]
  apply Int.emod_eq_zero_of_dvd
  have e := Int.emod_add_mul_ediv (t * u) m
  have : (t * u) % m * b - t = t * (u * b - 1) - m * (t * u / m * b) := by
    have : (t * u) % m = t * u - m * (t * u / m) := by omega
    rw [this]; grind
  rw [this]
  exact Int.dvd_sub (Int.dvd_mul_of_dvd_right hu) (Int.dvd_mul_right _ _)

theorem eqDs_map {α : Type} [DecidableEq α] {f : α → D} (hf : ∀ a b, eqD (f a) (f b) = decide (a = b)) : ∀ xs ys : List α, eqDs (xs.map f) (ys.map f) = decide (xs = ys)
  | [], [] => rfl
  | [], y :: ys => rfl
  | x :: xs, [] => rfl
  | x :: xs, y :: ys => by
    have h1 := hf x y
    have h2 := eqDs_map hf xs ys
    have : eqDs ((x :: xs).map f) ((y :: ys).map f) = (eqD (f x) (f y) && eqDs (xs.map f) (ys.map f)) := rfl
    rw [this, h1, h2]
    simp
theorem okDs_map {α : Type} {n : Nat} {f : α → D} (hf : ∀ a, okD n (f a) = true) : ∀ xs : List α, okDs n (xs.map f) = true
  | [] => rfl
  | x :: xs => by
    have h1 := hf x
    have h2 := okDs_map hf xs
    have : okDs n ((x :: xs).map f) = (okD n (f x) && okDs n (xs.map f)) := rfl
    rw [this, h1, h2]; rfl
theorem eqD_encR (p q : Int × Int) : eqD (encR p) (encR q) = decide (p = q) := by
  have : eqD (encR p) (encR q) = (eqD (.int p.1) (.int q.1) && (eqD (.int p.2) (.int q.2) && true)) := rfl
  rw [this, eqD_int, eqD_int]
  rcases p with ⟨a, b⟩; rcases q with ⟨c, d⟩
  simp
theorem eqD_encRs (p q : List (Int × Int)) : eqD (encRs p) (encRs q) = decide (p = q) := eqDs_map eqD_encR p q
theorem okD_encR {n : Nat} (p : Int × Int) : okD (n + 1) (encR p) = true := rfl
theorem okD_encRs {n : Nat} (p : List (Int × Int)) : okD (n + 2) (encRs p) = true := okDs_map okD_encR p
theorem eq_rr {p q : List (Int × Int)} {k} : opEq (encRs p) (encRs q) k = k (.sh (.bl (decide (p = q)))) := by unfold opEq; rw [eqD_encRs, okD_encRs, okD_encRs]; exact propext ⟨fun h => h.2, fun h => ⟨⟨rfl, rfl⟩, h⟩⟩
theorem ne_rr {p q : List (Int × Int)} {k} : opNe (encRs p) (encRs q) k = k (.sh (.bl (!decide (p = q)))) := by unfold opNe; rw [eqD_encRs, okD_encRs, okD_encRs]; exact propext ⟨fun h => h.2, fun h => ⟨⟨rfl, rfl⟩, h⟩⟩
theorem ne_r {p q : Int × Int} {k} : opNe (encR p) (encR q) k = k (.sh (.bl (!decide (p = q)))) := by unfold opNe; rw [eqD_encR, okD_encR, okD_encR]; exact propext ⟨fun h => h.2, fun h => ⟨⟨rfl, rfl⟩, h⟩⟩

def sp_law : FSpec := fun args kr _ => ∃ ns : List Int, args = [.ro (encZs ns)] ∧ (∀ n ∈ ns, Bt 2000000 n) ∧ ns.length ≤ 1000 ∧ kr (.sh (.bl true)) []
theorem sat_law : Sat 9 sp_law b_law := by
  rintro args mus kr kx hm ⟨ns, rfl, hns, hln, hk⟩
  obtain rfl := mus0 hm
  have cp : CPow 10 27 := by unfold CPow; decide
  have e27 : (10 : Int) ^ (Int.toNat 27) = 1000000000000000000000000000 := by decide
  unfold b_law
  walk_at "sx"
  rw [e27]
  refine ⟨ns, 0, rfl, by omega, hns, hln, fun x y c => ?_⟩
  walk_at "sx"
  refine ⟨x, y, 0, 3, 0, rfl, by omega, by unfold Bt; decide, by omega, by omega, by omega, fun t x z ht0 ht hz0 hzN => ?_⟩
  walk_at "sx"
  obtain ⟨top, htop, en⟩ := list3 (a := 3) (b := 11) (c := 59) ht0 ht
  rw [en]
  refine ⟨_, rfl, ?_⟩
  have ht : 3 ≤ top ∧ top ≤ 59 := by omega
  refine ⟨x, y, z, top, 1, rfl, by omega, (Bt.small (by omega) (by omega)).mono (by omega), hz0, by omega, by omega, fun t x z ht0 ht hz0 hzN => ?_⟩
  walk_at "sx"
  obtain ⟨base, hbase⟩ := Int.eq_ofNat_of_zero_le (show 0 ≤ 2 + t by omega)
  rw [hbase]
  refine ⟨cp, x, y, z, 1000000000000000000000000000, 2, base, rfl, by omega, by omega, by omega, (Bt.of (n := 100) (by omega) (by omega) (by omega)).mono (by omega), hz0, by omega, by omega, fun rs x z hrs hz0 hzN c2 => ?_⟩
  walk_at "sx"
  have hmap := hrs.map (by omega) (by omega)
  have hlen := hrs.len
  refine ⟨rs, by rw [hlen], hmap, fun c5 => ?_⟩
  unfold sFor
  walk_at "sx"
  simp only [List.length_map]
  refine ⟨by split <;> split <;> omega, fun i ρ => ∃ (as : List (Int × Int)) (e6 e7 e8 : Sl), ρ = [.sh (encZs ns), .own false c (src x y z), .sh (.int base), .sh (encRs rs), .sh (mapD rs), .own false c5 (.lst (as.map fun p => .tup [encR p, .int (remF base p.1 p.2)])), e6, e7, e8] ∧
    as.length = i ∧ ∀ p ∈ as, Good base p ∧ Bt 300 p.1, ⟨[], _, _, _, rfl, rfl, by simp⟩, fun _ _ _ _ => trivial, ?_, ?_⟩
  · rintro i d ρ hi hd ⟨as, e6, e7, e8, rfl, hal, has⟩
    have hi : i < 31 := by revert hi; split <;> split <;> omega
    subst hd
    walk_at "sx"
    refine ⟨ns, 1 + i, rfl, by omega, hns, hln, fun x' y' c6 => ?_⟩
    walk_at "sx"
    refine ⟨x', y', 0, 0, base, rfl, by omega, by omega, by omega, by omega, by omega, fun p x2 z2 hg hbt hbt2 _ _ => ?_⟩
    walk_at "sx"
    refine ⟨rs, p, rfl, hmap, by rw [hlen]; exact hg, hbt.mono (by omega), ?_⟩
    rw [hlen]
    walk_at "sx"
    refine ⟨_, rfl, ?_⟩
    walk_at "sx"
    obtain ⟨r0, r1, r2⟩ := remF_spec (t := p.1) (by omega) hg.2.2
    refine ⟨fun h => by omega, fun h => ⟨fun h => by omega, fun h => ?_⟩⟩
    have br : Bt 100 (remF base p.1 p.2) := (Bt.small (by omega) (by omega)).mono (by omega)
    refine ⟨br.mulOk hbt2 (by omega), by omega, fun h => absurd r2 h, fun _ => ⟨⟨_, _, _, rfl⟩, line_big (by simp; omega), as ++ [p], .sh (.int (1 + i)), .sh (encR p), .sh (.int (remF base p.1 p.2)), by simp, by simp; omega, ?_⟩⟩
    intro q hq
    rcases List.mem_append.mp hq with h | h
    · exact has q h
    · rw [List.mem_singleton.mp h]; exact ⟨hg, hbt⟩
  · rintro ρ ⟨as, e6, e7, e8, rfl, hal, has⟩
    walk_at "sx"
    refine ⟨fun i ρ => ∃ (e6 e7 e8 : Sl), ρ = [.sh (encZs ns), .own false c (src x y z), .sh (.int base), .sh (encRs rs), .sh (mapD rs), .own false c5 (.lst (as.map fun p => .tup [encR p, .int (remF base p.1 p.2)])), e6, e7, e8], ⟨_, _, _, rfl⟩, fun _ _ _ _ => trivial, ?_, ?_⟩
    · rintro i d ρ hi hd ⟨e6, e7, e8, rfl⟩
      rw [← List.map_reverse, List.getElem?_map] at hd
      cases hp : as.reverse[i]? with
      | none => rw [hp] at hd; cases hd
      | some p =>
        rw [hp] at hd
        cases hd
        have hpp := has p (List.mem_reverse.mp (List.mem_of_getElem? hp))
        walk_at "sx"
        refine ⟨rs, p, rfl, hmap, by rw [hlen]; exact hpp.1, hpp.2.mono (by omega), ?_⟩
        rw [hlen]
        walk_at "sx"
        simp
    · rintro ρ ⟨e6, e7, e8, rfl⟩
      walk_at "sx"
      refine ⟨rs, rfl, ?_⟩
      walk_at "sx"
      rw [hlen]
      simp only [decide_true, Bool.true_eq_false, forall_const, false_imp_iff, and_true]
      refine ⟨⟨rs, rfl, ?_⟩, fun h => absurd trivial h⟩
      walk_at "sx"
      rw [eq_rr, decide_eq_true rfl]
      walk_at "sx"
      exact hk
end TL

namespace TL
open PySem L2
local macro_rules | `(tactic| walk_at "sx") => `(tactic| simp only [sSeq, sNil, sSet, sFrz, frz_o, frz_sh, frz_s, sIf, sRet, sRetN, sPass, sBrk, sPar, sSub, sApp, sExpr, sAsg, sAug, sFld, sRevI, sPop, eLoc, eC, eUn, eBin, eAnd, eOr, eNot, eIf, eTup, eLst, dNil, dCons, tVal_eq, tstD_bl, tAndW, tOrW, tNotW, eFld_eq, eFldD_o, eProp, eMeth, eMeth0, eSl, pNone, pSome, sl_l,
  out_sh, out_fr, get_loc, get_sh, get_fr, getL_z, getL_o, getL_s, bound_z, bound_o, bound_s, isOwn_o, isOwn_s, pok_loc, pok_sh, pok_fr, stl_loc, stlS_sh, stlS_own, stl_sh, stl_fr, lay_fr, lay_sh, lay_loc, envOf, slotsOf, valN, ghOf, endK, resK, exMu, muN, List.cons_append, List.nil_append, List.append_nil, List.length_cons, List.length_nil, Nat.reduceAdd, Nat.reduceSub, List.replicate_succ, List.replicate_zero, List.replicate,
  List.getElem?_cons_zero, List.getElem?_cons_succ, List.getElem?_nil, List.set_cons_zero, List.set_cons_succ,
  add_ii, add_ss, add_ll, sub_ii, mul_ii, fdv_ii, fdvN_ii, mod_ii, modN_ii, pow_ii, lt_ii, le_ii, gt_ii, ge_ii, eq_ii, ne_ii, ix_li, ix_ti, neg_i, abs_i, int_i, int_b, max_ii, min_ii, len_l, len_t, list_l, list_t, rev_l, isi_int, isi_bl, isi_tup, isi_lst, isi_non, isN_i, isN_n, isN_t, isN_l, notN_i, notN_n, notN_t, notN_l, isTy,
  atI0, atI1, atI2, ixN0, ixN1, ixN2, some_inj_ex, isObj, setAt0, setAt1, setAt2, setAt3, restE, keepS, wipeE, ↓reduceIte, if_false, if_true,
  eCall, eCallP, eMake, pm, List.filterMap_cons, List.filterMap_nil, agNil, agRo, agBo, agMu, agTm, callK, boIx, muIx, tms, argsK, upE, reown, hasBo, noTm, flatRo, noLstAll, noLst, noLsts, List.nodup_nil, List.nodup_cons, List.not_mem_nil, not_false_eq_true, Nat.zero_le, Nat.le_refl, Nat.reduceLeDiff, List.mem_cons, or_false, reduceCtorEq,
  gN, gTp, gCn, gNl, iR1, iR2, iLst, iTpl, iEnum, stab,
  true_and, and_true, Bool.true_eq_false, Bool.false_eq_true, false_imp_iff, forall_const, true_imp_iff, and_self, decide_eq_true_eq, decide_eq_false_iff_not, Bool.not_eq_true', Bool.not_eq_false'])
def stepF (rs : List (Int × Int)) (p : Int × Int) : Int × Int :=
  ((((rs.getD (remF rs.length p.1 p.2).toNat (1, 0)).1 * p.1 + (rs.getD (remF rs.length p.1 p.2).toNat (1, 0)).2 * p.2) / rs.length) / (Int.gcd (((rs.getD (remF rs.length p.1 p.2).toNat (1, 0)).1 * p.1 + (rs.getD (remF rs.length p.1 p.2).toNat (1, 0)).2 * p.2) / rs.length) p.2 : Int),
   p.2 / (Int.gcd (((rs.getD (remF rs.length p.1 p.2).toNat (1, 0)).1 * p.1 + (rs.getD (remF rs.length p.1 p.2).toNat (1, 0)).2 * p.2) / rs.length) p.2 : Int))
theorem DivOk.gcd {t b : Int} (h1 : 1 ≤ b) (h : Bt 8000 b) : DivOk (Int.gcd t b : Int) := by
  have gp : 0 < Int.gcd t b := Int.gcd_pos_of_ne_zero_right _ (by omega)
  have gl : (Int.gcd t b : Int) ≤ b := Int.le_of_dvd (by omega) (Int.gcd_dvd_right _ _)
  exact DivOk.of (by omega) (h.le (by omega)) (by omega)
/- lowest: 0:top 1:bottom 2:common -/
theorem atI_map {α : Type} {f : α → D} {rs : List α} {i : Int} {x : α} (h0 : 0 ≤ i) (h1 : i < rs.length) : L2.atI (rs.map f) i = some (f (rs.getD i.toNat x)) := by
  rw [atI_int h0 (by simpa using h1)]
  simp only [List.getElem_map]
  rw [List.getD_eq_getElem?_getD, List.getElem?_eq_getElem (by omega)]
  rfl
theorem mem_getD {α : Type} {rs : List α} {i : Int} {x : α} (h0 : 0 ≤ i) (h1 : i < rs.length) : rs.getD i.toNat x ∈ rs := by
  rw [List.getD_eq_getElem?_getD, List.getElem?_eq_getElem (by omega)]
  exact List.getElem_mem _
theorem MapOk.pos {rs : List (Int × Int)} (h : MapOk rs) : 0 < (rs.length : Int) := by have := h.two; omega
theorem MapOk.div {rs : List (Int × Int)} (h : MapOk rs) : DivOk (rs.length : Int) := DivOk.of h.pos h.bt (by omega)
/- stepped: 0:modulus 1:rules 2:number 3:top 4:bottom 5:a 6:b -/
/- check_number: 0:number 1:least -/
/- walk: 0:rule_map 1:number 2:steps 3:modulus 4:rules 5:found 6:turn -/
/- after: 0:rule_map 1:number 2:steps -/
/-! ### the law's own steps -/
def sp_law_step : FSpec := fun args kr _ => ∃ rs p, args = [.ro (.int (rs.length : Nat)), .ro (encRs rs), .ro (encR p)] ∧ MapOk rs ∧ Good rs.length p ∧ Bt 80000000 p.1 ∧ Bt 8000 p.2 ∧ kr (.sh (.tup [encR (stepF rs p), .int (remF rs.length p.1 p.2)])) []
/- _law_step: 0:base 1:rules 2:value 3:top 4:bottom 5:spot 6:remainder 7:a 8:b 9:common -/
def b_law_step : SW := (sSeq (sAsg (eLoc 2) (gTp 2 (gCn (gN 3) (gCn (gN 4) gNl))))
  (sSeq (sSet 5 (eC (.int 0)))
  (sSeq (sFor (iR1 (dCons (eLoc 0) dNil)) (gN 6) (sIf (tVal (eBin opEq (eBin opMod (eUn opInt (eBin opSub (eBin opMul (eLoc 6) (eLoc 4)) (eLoc 3))) (eLoc 0)) (eC (.int 0)))) (sSeq (sSet 5 (eLoc 6))
  sBrk) sNil))
  (sSeq (sAsg (eBin opIx (eLoc 1) (eLoc 5)) (gTp 2 (gCn (gN 7) (gCn (gN 8) gNl))))
  (sSeq (sFrz 3 (sSet 3 (eBin opFdv (eBin opAdd (eBin opMul (eLoc 7) (eLoc 3)) (eBin opMul (eLoc 8) (eLoc 4))) (eLoc 0))))
  (sSeq (sFrz 9 (sSet 9 (eCall 2 sp_law_gcd (agRo (eLoc 3) (agRo (eLoc 4) agNil)))))
  (sRet (eTup (dCons (eTup (dCons (eBin opFdv (eLoc 3) (eLoc 9)) (dCons (eBin opFdv (eLoc 4) (eLoc 9)) dNil))) (dCons (eLoc 5) dNil))))))))))
theorem sat_law_step : Sat 10 sp_law_step b_law_step := by
  rintro args mus kr kx hm ⟨rs, p, rfl, ho, hg, ht, hb, hk⟩
  obtain rfl := mus0 hm
  unfold b_law_step
  unfold sFor
  walk_at "sx"
  obtain ⟨r0, r1, r2⟩ := remF_spec (t := p.1) ho.pos hg.2.2
  refine ⟨by have := ho.few; omega, fun i ρ => ∃ e6, ρ = [.sh (.int rs.length), .sh (encRs rs), .sh (encR p), .sh (.int p.1), .sh (.int p.2), .sh (.int 0), e6, .no, .no, .no] ∧ ∀ r : Nat, r < i → ¬ ((r : Int) * p.2 - p.1) % rs.length = 0, ⟨_, rfl, by simp⟩, fun _ _ _ _ => trivial, ?_, ?_⟩
  · rintro i d ρ hi rfl ⟨e6, rfl, hno⟩
    have hi : i < rs.length := by simpa using hi
    walk_at "sx"
    refine ⟨(Bt.small (x := i) (by omega) (by have := ho.few; omega)).mulOk hb (by omega), ho.pos, fun h => ?_, fun h => ?_⟩
    · have e : remF rs.length p.1 p.2 = i := remF_eq ho.pos hg.2.2 (by omega) (by omega) h
      rw [← e] at *
      rw [atI_map (x := (1, 0)) r0 r1]
      refine ⟨_, rfl, ?_⟩
      walk_at "sx"
      have hs := ho.sz _ (mem_getD (x := (1, 0)) r0 r1)
      refine ⟨hs.1.mulOk ht (by omega), hs.2.mulOk hb (by omega), ho.div, _, _, rfl, ?_⟩
      walk_at "sx"
      exact ⟨DivOk.gcd hg.1 hb, DivOk.gcd hg.1 hb, hk⟩
    · refine ⟨_, rfl, fun r hr => ?_⟩
      rcases Nat.lt_or_eq_of_le (Nat.le_of_lt_succ hr) with h2 | h2
      · exact hno r h2
      · subst h2; exact h
  · rintro ρ ⟨e6, rfl, hno⟩
    exfalso
    refine hno (remF rs.length p.1 p.2).toNat (by simp; omega) ?_
    rw [Int.toNat_of_nonneg r0]
    exact r2

/- _law_walked: 0:base 1:rules 2:value 3:count 4:places 5:path 6:turn 7:spot -/
/- _law_is_pair: 0:value -/
theorem get_map {α β : Type} {f : α → β} {rs : List α} {i : Nat} {d : β} (h : (rs.map f)[i]? = some d) : ∃ p, rs[i]? = some p ∧ d = f p := by
  rw [List.getElem?_map] at h
  cases hp : rs[i]? with
  | none => rw [hp] at h; cases h
  | some p => rw [hp] at h; cases h; exact ⟨p, rfl, rfl⟩
/- _law_are_pairs: 0:value 1:many 2:entry -/
end TL

namespace TL
open PySem L2
local macro_rules | `(tactic| walk_at "sx") => `(tactic| simp only [sSeq, sNil, sSet, sFrz, frz_o, frz_sh, frz_s, sIf, sRet, sRetN, sPass, sBrk, sPar, sSub, sApp, sExpr, sAsg, sAug, sFld, sRevI, sPop, eLoc, eC, eUn, eBin, eAnd, eOr, eNot, eIf, eTup, eLst, dNil, dCons, tVal_eq, tstD_bl, tAndW, tOrW, tNotW, eFld_eq, eFldD_o, eProp, eMeth, eMeth0, eSl, pNone, pSome, sl_l,
  out_sh, out_fr, get_loc, get_sh, get_fr, getL_z, getL_o, getL_s, bound_z, bound_o, bound_s, isOwn_o, isOwn_s, pok_loc, pok_sh, pok_fr, stl_loc, stlS_sh, stlS_own, stl_sh, stl_fr, lay_fr, lay_sh, lay_loc, envOf, slotsOf, valN, ghOf, endK, resK, exMu, muN, List.cons_append, List.nil_append, List.append_nil, List.length_cons, List.length_nil, Nat.reduceAdd, Nat.reduceSub, List.replicate_succ, List.replicate_zero, List.replicate,
  List.getElem?_cons_zero, List.getElem?_cons_succ, List.getElem?_nil, List.set_cons_zero, List.set_cons_succ,
  add_ii, add_ss, add_ll, sub_ii, mul_ii, fdv_ii, fdvN_ii, mod_ii, modN_ii, pow_ii, lt_ii, le_ii, gt_ii, ge_ii, eq_ii, ne_ii, ix_li, ix_ti, neg_i, abs_i, int_i, int_b, max_ii, min_ii, len_l, len_t, list_l, list_t, rev_l, isi_int, isi_bl, isi_tup, isi_lst, isi_non, isN_i, isN_n, isN_t, isN_l, notN_i, notN_n, notN_t, notN_l, isTy,
  atI0, atI1, atI2, ixN0, ixN1, ixN2, some_inj_ex, isObj, setAt0, setAt1, setAt2, setAt3, restE, keepS, wipeE, ↓reduceIte, if_false, if_true,
  eCall, eCallP, eMake, pm, List.filterMap_cons, List.filterMap_nil, agNil, agRo, agBo, agMu, agTm, callK, boIx, muIx, tms, argsK, upE, reown, hasBo, noTm, flatRo, noLstAll, noLst, noLsts, List.nodup_nil, List.nodup_cons, List.not_mem_nil, not_false_eq_true, Nat.zero_le, Nat.le_refl, Nat.reduceLeDiff, List.mem_cons, or_false, reduceCtorEq,
  gN, gTp, gCn, gNl, iR1, iR2, iLst, iTpl, iEnum, stab,
  true_and, and_true, Bool.true_eq_false, Bool.false_eq_true, false_imp_iff, forall_const, true_imp_iff, and_self, decide_eq_true_eq, decide_eq_false_iff_not, Bool.not_eq_true', Bool.not_eq_false'])
/-! ### sizes along a walk -/
namespace K14
/- _law_right: 0:chart 1:base 2:rules 3:value 4:count 5:found 6:last 7:kept 8:half -/
/- law: 0:script 1:source 2:base 3:rules 4:chart 5:k 6:value 7:count -/
end K14
end TL

namespace TL
open PySem L2
local macro_rules | `(tactic| walk_at "sx") => `(tactic| simp only [sSeq, sNil, sSet, sFrz, frz_o, frz_sh, frz_s, sIf, sRet, sRetN, sPass, sBrk, sPar, sSub, sApp, sExpr, sAsg, sAug, sFld, sRevI, sPop, eLoc, eC, eUn, eBin, eAnd, eOr, eNot, eIf, eTup, eLst, dNil, dCons, tVal_eq, tstD_bl, tAndW, tOrW, tNotW, eFld_eq, eFldD_o, eProp, eMeth, eMeth0, eSl, pNone, pSome, sl_l,
  out_sh, out_fr, get_loc, get_sh, get_fr, getL_z, getL_o, getL_s, bound_z, bound_o, bound_s, isOwn_o, isOwn_s, pok_loc, pok_sh, pok_fr, stl_loc, stlS_sh, stlS_own, stl_sh, stl_fr, lay_fr, lay_sh, lay_loc, envOf, slotsOf, valN, ghOf, endK, resK, exMu, muN, List.cons_append, List.nil_append, List.append_nil, List.length_cons, List.length_nil, Nat.reduceAdd, Nat.reduceSub, List.replicate_succ, List.replicate_zero, List.replicate,
  List.getElem?_cons_zero, List.getElem?_cons_succ, List.getElem?_nil, List.set_cons_zero, List.set_cons_succ,
  add_ii, add_ss, add_ll, sub_ii, mul_ii, fdv_ii, fdvN_ii, mod_ii, modN_ii, pow_ii, lt_ii, le_ii, gt_ii, ge_ii, eq_ii, ne_ii, ix_li, ix_ti, neg_i, abs_i, int_i, int_b, max_ii, min_ii, len_l, len_t, list_l, list_t, rev_l, isi_int, isi_bl, isi_tup, isi_lst, isi_non, isN_i, isN_n, isN_t, isN_l, notN_i, notN_n, notN_t, notN_l, isTy,
  atI0, atI1, atI2, ixN0, ixN1, ixN2, some_inj_ex, isObj, setAt0, setAt1, setAt2, setAt3, restE, keepS, wipeE, ↓reduceIte, if_false, if_true,
  eCall, eCallP, eMake, pm, List.filterMap_cons, List.filterMap_nil, agNil, agRo, agBo, agMu, agTm, callK, boIx, muIx, tms, argsK, upE, reown, hasBo, noTm, flatRo, noLstAll, noLst, noLsts, List.nodup_nil, List.nodup_cons, List.not_mem_nil, not_false_eq_true, Nat.zero_le, Nat.le_refl, Nat.reduceLeDiff, List.mem_cons, or_false, reduceCtorEq,
  gN, gTp, gCn, gNl, iR1, iR2, iLst, iTpl, iEnum, stab,
  true_and, and_true, Bool.true_eq_false, Bool.false_eq_true, false_imp_iff, forall_const, true_imp_iff, and_self, decide_eq_true_eq, decide_eq_false_iff_not, Bool.not_eq_true', Bool.not_eq_false'])
/-! ### lists of numbers, slices -/
theorem okD_encZs {n : Nat} (p : List Int) : okD (n + 1) (encZs p) = true := okDs_map (fun _ => okD_int) p
theorem cutL_take {α : Type} {xs : List α} {n : Nat} (h : n ≤ xs.length) : cutL xs none (some (n : Int)) = xs.take n := by
  unfold cutL
  rw [HT.sIx_none, HT.sIx_nat, Nat.min_eq_left h]
  rfl
/- word_of: 0:rule_map 1:number 2:steps 3:modulus 4:place -/
/- _law_is_word: 0:value 1:many 2:entry -/
end TL

namespace TL
open PySem L2
local macro_rules | `(tactic| walk_at "sx") => `(tactic| simp only [sSeq, sNil, sSet, sFrz, frz_o, frz_sh, frz_s, sIf, sRet, sRetN, sPass, sBrk, sPar, sSub, sApp, sExpr, sAsg, sAug, sFld, sRevI, sPop, eLoc, eC, eUn, eBin, eAnd, eOr, eNot, eIf, eTup, eLst, dNil, dCons, tVal_eq, tstD_bl, tAndW, tOrW, tNotW, eFld_eq, eFldD_o, eProp, eMeth, eMeth0, eSl, pNone, pSome, sl_l,
  out_sh, out_fr, get_loc, get_sh, get_fr, getL_z, getL_o, getL_s, bound_z, bound_o, bound_s, isOwn_o, isOwn_s, pok_loc, pok_sh, pok_fr, stl_loc, stlS_sh, stlS_own, stl_sh, stl_fr, lay_fr, lay_sh, lay_loc, envOf, slotsOf, valN, ghOf, endK, resK, exMu, muN, List.cons_append, List.nil_append, List.append_nil, List.length_cons, List.length_nil, Nat.reduceAdd, Nat.reduceSub, List.replicate_succ, List.replicate_zero, List.replicate,
  List.getElem?_cons_zero, List.getElem?_cons_succ, List.getElem?_nil, List.set_cons_zero, List.set_cons_succ,
  add_ii, add_ss, add_ll, sub_ii, mul_ii, fdv_ii, fdvN_ii, mod_ii, modN_ii, pow_ii, lt_ii, le_ii, gt_ii, ge_ii, eq_ii, ne_ii, ix_li, ix_ti, neg_i, abs_i, int_i, int_b, max_ii, min_ii, len_l, len_t, list_l, list_t, rev_l, isi_int, isi_bl, isi_tup, isi_lst, isi_non, isN_i, isN_n, isN_t, isN_l, notN_i, notN_n, notN_t, notN_l, isTy,
  atI0, atI1, atI2, ixN0, ixN1, ixN2, some_inj_ex, isObj, setAt0, setAt1, setAt2, setAt3, restE, keepS, wipeE, ↓reduceIte, if_false, if_true,
  eCall, eCallP, eMake, pm, List.filterMap_cons, List.filterMap_nil, agNil, agRo, agBo, agMu, agTm, callK, boIx, muIx, tms, argsK, upE, reown, hasBo, noTm, flatRo, noLstAll, noLst, noLsts, List.nodup_nil, List.nodup_cons, List.not_mem_nil, not_false_eq_true, Nat.zero_le, Nat.le_refl, Nat.reduceLeDiff, List.mem_cons, or_false, reduceCtorEq,
  gN, gTp, gCn, gNl, iR1, iR2, iLst, iTpl, iEnum, stab,
  true_and, and_true, Bool.true_eq_false, Bool.false_eq_true, false_imp_iff, forall_const, true_imp_iff, and_self, decide_eq_true_eq, decide_eq_false_iff_not, Bool.not_eq_true', Bool.not_eq_false'])
theorem snocRec {α : Type} {motive : List α → Prop} (nil : motive []) (append_singleton : ∀ (ws : List α) (e : α), motive ws → motive (ws ++ [e])) (ws : List α) : motive ws := by
  have h : ∀ n (xs : List α), xs.length = n → motive xs := by
    intro n
    induction n with
    | zero => intro xs h; rw [List.length_eq_zero_iff.mp h]; exact nil
    | succ n ih =>
      intro xs h
      have hne : xs ≠ [] := by intro z; subst z; simp at h
      rw [← List.dropLast_concat_getLast hne]
      exact append_singleton _ _ (ih _ (by simp; omega))
  exact h _ ws rfl
/-! ### whole numbers walk -/
def ruleAt (rs : List (Int × Int)) (e : Int) : Int × Int := rs.getD e.toNat (1, 0)
def zStep (rs : List (Int × Int)) (x : Int) : Int := ((ruleAt rs (x % rs.length)).1 * x + (ruleAt rs (x % rs.length)).2) / rs.length
/-! ### forms -/
abbrev Fm := Int × Int × Int
def joinF (f : Fm) (r : Int × Int) (m : Int) : Fm := (r.1 * f.1, r.1 * f.2.1 + r.2 * f.2.2, m * f.2.2)
def formF (rs : List (Int × Int)) (ws : List Int) : Fm := ws.foldl (fun f e => joinF f (ruleAt rs e) rs.length) (1, 0, 1)
theorem formF_snoc (rs : List (Int × Int)) (ws : List Int) (e : Int) : formF rs (ws ++ [e]) = joinF (formF rs ws) (ruleAt rs e) rs.length := by
  unfold formF
  rw [List.foldl_append]
  rfl
theorem formF_scale (rs : List (Int × Int)) (ws : List Int) : (formF rs ws).2.2 = (rs.length : Int) ^ ws.length := by
  induction ws using snocRec with
  | nil => rfl
  | append_singleton ws e ih =>
    rw [formF_snoc, List.length_append, List.length_singleton, Int.pow_succ, ← ih]
    exact Int.mul_comm _ _
/-- all entries are remainders -/
def Wd (m : Int) (ws : List Int) : Prop := ∀ e ∈ ws, 0 ≤ e ∧ e < m
theorem ruleAt_ok {rs : List (Int × Int)} (h : MapOk rs) {e : Int} (h0 : 0 ≤ e) (h1 : e < rs.length) : RuleOk rs.length e (ruleAt rs e) := by
  unfold ruleAt
  rw [List.getD_eq_getElem?_getD]
  cases hh : rs[e.toNat]? with
  | none => rw [List.getElem?_eq_none_iff] at hh; omega
  | some p =>
    have := h.ok _ _ hh
    rw [Int.toNat_of_nonneg h0] at this
    exact this
theorem gcd_mul {a b m : Int} (h1 : Int.gcd a m = 1) (h2 : Int.gcd b m = 1) : Int.gcd (a * b) m = 1 := by
  have : Nat.Coprime a.natAbs m.natAbs := h1
  have h2 : Nat.Coprime b.natAbs m.natAbs := h2
  have := Nat.Coprime.mul_left this h2
  unfold Int.gcd
  rw [Int.natAbs_mul]
  exact this
theorem gcd_pow {a m : Int} (h : Int.gcd a m = 1) : ∀ n : Nat, Int.gcd a (m ^ n) = 1
  | 0 => by simp
  | n + 1 => by
    rw [Int.pow_succ, Int.gcd_comm]
    exact gcd_mul (by rw [Int.gcd_comm]; exact gcd_pow h n) (by rw [Int.gcd_comm]; exact h)
theorem form_gcd {rs : List (Int × Int)} (h : MapOk rs) {ws : List Int} (hw : Wd rs.length ws) : Int.gcd (formF rs ws).1 rs.length = 1 := by
  induction ws using snocRec with
  | nil => simp [formF]
  | append_singleton ws e ih =>
    rw [formF_snoc]
    have := hw e (by simp)
    exact gcd_mul (ruleAt_ok h this.1 this.2).2.1 (ih fun x hx => hw x (by simp [hx]))
theorem form_gcd_scale {rs : List (Int × Int)} (h : MapOk rs) {ws : List Int} (hw : Wd rs.length ws) : Int.gcd (formF rs ws).1 (formF rs ws).2.2 = 1 := by
  rw [formF_scale]
  exact gcd_pow (form_gcd h hw) _
/-! ### defs -/
/-- sizes of a form, and of all on its way -/
def FmB (n : Nat) (f : Fm) : Prop := Bt n f.1 ∧ Bt n f.2.1 ∧ Bt n f.2.2
/- _law_power: 0:base 1:count 2:scale 3:turn -/
/- check_word: 0:modulus 1:word 2:entry -/
/- joined_form: 0:form 1:rule 2:modulus 3:a 4:b 5:scale -/
/- form_of: 0:rule_map 1:word 2:modulus 3:rules 4:form 5:entry -/
/- class_by: 0:form 1:a 2:b 3:scale -/
/- class_of: 0:rule_map 1:word -/
theorem form_pos {rs : List (Int × Int)} (h : MapOk rs) (ws : List Int) : 0 < (formF rs ws).2.2 := by rw [formF_scale]; exact Int.pow_pos h.pos
end TL

namespace TL
open PySem L2
local macro_rules | `(tactic| walk_at "sx") => `(tactic| simp only [sSeq, sNil, sSet, sFrz, frz_o, frz_sh, frz_s, sIf, sRet, sRetN, sPass, sBrk, sPar, sSub, sApp, sExpr, sAsg, sAug, sFld, sRevI, sPop, eLoc, eC, eUn, eBin, eAnd, eOr, eNot, eIf, eTup, eLst, dNil, dCons, tVal_eq, tstD_bl, tAndW, tOrW, tNotW, eFld_eq, eFldD_o, eProp, eMeth, eMeth0, eSl, pNone, pSome, sl_l,
  out_sh, out_fr, get_loc, get_sh, get_fr, getL_z, getL_o, getL_s, bound_z, bound_o, bound_s, isOwn_o, isOwn_s, pok_loc, pok_sh, pok_fr, stl_loc, stlS_sh, stlS_own, stl_sh, stl_fr, lay_fr, lay_sh, lay_loc, envOf, slotsOf, valN, ghOf, endK, resK, exMu, muN, List.cons_append, List.nil_append, List.append_nil, List.length_cons, List.length_nil, Nat.reduceAdd, Nat.reduceSub, List.replicate_succ, List.replicate_zero, List.replicate,
  List.getElem?_cons_zero, List.getElem?_cons_succ, List.getElem?_nil, List.set_cons_zero, List.set_cons_succ,
  add_ii, add_ss, add_ll, sub_ii, mul_ii, fdv_ii, fdvN_ii, mod_ii, modN_ii, pow_ii, lt_ii, le_ii, gt_ii, ge_ii, eq_ii, ne_ii, ix_li, ix_ti, neg_i, abs_i, int_i, int_b, max_ii, min_ii, len_l, len_t, list_l, list_t, rev_l, isi_int, isi_bl, isi_tup, isi_lst, isi_non, isN_i, isN_n, isN_t, isN_l, notN_i, notN_n, notN_t, notN_l, isTy,
  atI0, atI1, atI2, ixN0, ixN1, ixN2, some_inj_ex, isObj, setAt0, setAt1, setAt2, setAt3, restE, keepS, wipeE, ↓reduceIte, if_false, if_true,
  eCall, eCallP, eMake, pm, List.filterMap_cons, List.filterMap_nil, agNil, agRo, agBo, agMu, agTm, callK, boIx, muIx, tms, argsK, upE, reown, hasBo, noTm, flatRo, noLstAll, noLst, noLsts, List.nodup_nil, List.nodup_cons, List.not_mem_nil, not_false_eq_true, Nat.zero_le, Nat.le_refl, Nat.reduceLeDiff, List.mem_cons, or_false, reduceCtorEq,
  gN, gTp, gCn, gNl, iR1, iR2, iLst, iTpl, iEnum, stab,
  true_and, and_true, Bool.true_eq_false, Bool.false_eq_true, false_imp_iff, forall_const, true_imp_iff, and_self, decide_eq_true_eq, decide_eq_false_iff_not, Bool.not_eq_true', Bool.not_eq_false'])
namespace K19
/- _law_right: 0:chart 1:base 2:rules 3:start 4:count 5:times 6:places 7:path 8:scale 9:farther 10:same 11:passed 12:found 13:entry -/
/- law: 0:script 1:source 2:base 3:rules 4:chart 5:k 6:size 7:start 8:count -/
end K19
end TL

namespace TL
open PySem L2
local macro_rules | `(tactic| walk_at "sx") => `(tactic| simp only [sSeq, sNil, sSet, sFrz, frz_o, frz_sh, frz_s, sIf, sRet, sRetN, sPass, sBrk, sPar, sSub, sApp, sExpr, sAsg, sAug, sFld, sRevI, sPop, eLoc, eC, eUn, eBin, eAnd, eOr, eNot, eIf, eTup, eLst, dNil, dCons, tVal_eq, tstD_bl, tAndW, tOrW, tNotW, eFld_eq, eFldD_o, eProp, eMeth, eMeth0, eSl, pNone, pSome, sl_l,
  out_sh, out_fr, get_loc, get_sh, get_fr, getL_z, getL_o, getL_s, bound_z, bound_o, bound_s, isOwn_o, isOwn_s, pok_loc, pok_sh, pok_fr, stl_loc, stlS_sh, stlS_own, stl_sh, stl_fr, lay_fr, lay_sh, lay_loc, envOf, slotsOf, valN, ghOf, endK, resK, exMu, muN, List.cons_append, List.nil_append, List.append_nil, List.length_cons, List.length_nil, Nat.reduceAdd, Nat.reduceSub, List.replicate_succ, List.replicate_zero, List.replicate,
  List.getElem?_cons_zero, List.getElem?_cons_succ, List.getElem?_nil, List.set_cons_zero, List.set_cons_succ,
  add_ii, add_ss, add_ll, sub_ii, mul_ii, fdv_ii, fdvN_ii, mod_ii, modN_ii, pow_ii, lt_ii, le_ii, gt_ii, ge_ii, eq_ii, ne_ii, ix_li, ix_ti, neg_i, abs_i, int_i, int_b, max_ii, min_ii, len_l, len_t, list_l, list_t, rev_l, isi_int, isi_bl, isi_tup, isi_lst, isi_non, isN_i, isN_n, isN_t, isN_l, notN_i, notN_n, notN_t, notN_l, isTy,
  atI0, atI1, atI2, ixN0, ixN1, ixN2, some_inj_ex, isObj, setAt0, setAt1, setAt2, setAt3, restE, keepS, wipeE, ↓reduceIte, if_false, if_true,
  eCall, eCallP, eMake, pm, List.filterMap_cons, List.filterMap_nil, agNil, agRo, agBo, agMu, agTm, callK, boIx, muIx, tms, argsK, upE, reown, hasBo, noTm, flatRo, noLstAll, noLst, noLsts, List.nodup_nil, List.nodup_cons, List.not_mem_nil, not_false_eq_true, Nat.zero_le, Nat.le_refl, Nat.reduceLeDiff, List.mem_cons, or_false, reduceCtorEq,
  gN, gTp, gCn, gNl, iR1, iR2, iLst, iTpl, iEnum, stab,
  true_and, and_true, Bool.true_eq_false, Bool.false_eq_true, false_imp_iff, forall_const, true_imp_iff, and_self, decide_eq_true_eq, decide_eq_false_iff_not, Bool.not_eq_true', Bool.not_eq_false'])
/-! ### words drawn -/
/- _law_path: 0:source 1:base 2:count 3:turn -/
/-! ### fractions walk: over one bottom -/
/-- the fraction u / q in lowest terms -/
def low (u q : Int) : Int × Int := (u / (Int.gcd u q : Int), q / (Int.gcd u q : Int))
end TL

namespace TL
open PySem L2
local macro_rules | `(tactic| walk_at "sx") => `(tactic| simp only [sSeq, sNil, sSet, sFrz, frz_o, frz_sh, frz_s, sIf, sRet, sRetN, sPass, sBrk, sPar, sSub, sApp, sExpr, sAsg, sAug, sFld, sRevI, sPop, eLoc, eC, eUn, eBin, eAnd, eOr, eNot, eIf, eTup, eLst, dNil, dCons, tVal_eq, tstD_bl, tAndW, tOrW, tNotW, eFld_eq, eFldD_o, eProp, eMeth, eMeth0, eSl, pNone, pSome, sl_l,
  out_sh, out_fr, get_loc, get_sh, get_fr, getL_z, getL_o, getL_s, bound_z, bound_o, bound_s, isOwn_o, isOwn_s, pok_loc, pok_sh, pok_fr, stl_loc, stlS_sh, stlS_own, stl_sh, stl_fr, lay_fr, lay_sh, lay_loc, envOf, slotsOf, valN, ghOf, endK, resK, exMu, muN, List.cons_append, List.nil_append, List.append_nil, List.length_cons, List.length_nil, Nat.reduceAdd, Nat.reduceSub, List.replicate_succ, List.replicate_zero, List.replicate,
  List.getElem?_cons_zero, List.getElem?_cons_succ, List.getElem?_nil, List.set_cons_zero, List.set_cons_succ,
  add_ii, add_ss, add_ll, sub_ii, mul_ii, fdv_ii, fdvN_ii, mod_ii, modN_ii, pow_ii, lt_ii, le_ii, gt_ii, ge_ii, eq_ii, ne_ii, ix_li, ix_ti, neg_i, abs_i, int_i, int_b, max_ii, min_ii, len_l, len_t, list_l, list_t, rev_l, isi_int, isi_bl, isi_tup, isi_lst, isi_non, isN_i, isN_n, isN_t, isN_l, notN_i, notN_n, notN_t, notN_l, isTy,
  atI0, atI1, atI2, ixN0, ixN1, ixN2, some_inj_ex, isObj, setAt0, setAt1, setAt2, setAt3, restE, keepS, wipeE, ↓reduceIte, if_false, if_true,
  eCall, eCallP, eMake, pm, List.filterMap_cons, List.filterMap_nil, agNil, agRo, agBo, agMu, agTm, callK, boIx, muIx, tms, argsK, upE, reown, hasBo, noTm, flatRo, noLstAll, noLst, noLsts, List.nodup_nil, List.nodup_cons, List.not_mem_nil, not_false_eq_true, Nat.zero_le, Nat.le_refl, Nat.reduceLeDiff, List.mem_cons, or_false, reduceCtorEq,
  gN, gTp, gCn, gNl, iR1, iR2, iLst, iTpl, iEnum, stab,
  true_and, and_true, Bool.true_eq_false, Bool.false_eq_true, false_imp_iff, forall_const, true_imp_iff, and_self, decide_eq_true_eq, decide_eq_false_iff_not, Bool.not_eq_true', Bool.not_eq_false'])
/-! ### counts, least numbers -/
def FmOk (f : Fm) : Prop := 0 < f.2.2 ∧ Int.gcd f.1 f.2.2 = 1 ∧ Bt 9000 f.2.2 ∧ Bt 80000000 f.2.1
/- count_in: 0:form 1:low 2:high 3:start 4:scale -/
/-- a word whose form is told without trouble -/
structure WOk (rs : List (Int × Int)) (ws : List Int) : Prop where
  mp : MapOk rs
  wd : Wd rs.length ws
  sz : ∀ i, i ≤ ws.length → FmB 40000000 (formF rs (ws.take i))
  sc : Bt 9000 (formF rs ws).2.2
theorem WOk.ok {rs : List (Int × Int)} {ws : List Int} (h : WOk rs ws) : FmOk (formF rs ws) := by
  have := h.sz ws.length (Nat.le_refl _)
  rw [List.take_length] at this
  exact ⟨form_pos h.mp ws, form_gcd_scale h.mp h.wd, h.sc, this.2.1.mono (by omega)⟩
/- count_with: 0:rule_map 1:word 2:low 3:high -/
/- least_from: 0:start 1:scale 2:low -/
/- nth_with: 0:rule_map 1:word 2:low 3:index 4:form -/
end TL

namespace TL
open PySem L2
local macro_rules | `(tactic| walk_at "sx") => `(tactic| simp only [sSeq, sNil, sSet, sFrz, frz_o, frz_sh, frz_s, sIf, sRet, sRetN, sPass, sBrk, sPar, sSub, sApp, sExpr, sAsg, sAug, sFld, sRevI, sPop, eLoc, eC, eUn, eBin, eAnd, eOr, eNot, eIf, eTup, eLst, dNil, dCons, tVal_eq, tstD_bl, tAndW, tOrW, tNotW, eFld_eq, eFldD_o, eProp, eMeth, eMeth0, eSl, pNone, pSome, sl_l,
  out_sh, out_fr, get_loc, get_sh, get_fr, getL_z, getL_o, getL_s, bound_z, bound_o, bound_s, isOwn_o, isOwn_s, pok_loc, pok_sh, pok_fr, stl_loc, stlS_sh, stlS_own, stl_sh, stl_fr, lay_fr, lay_sh, lay_loc, envOf, slotsOf, valN, ghOf, endK, resK, exMu, muN, List.cons_append, List.nil_append, List.append_nil, List.length_cons, List.length_nil, Nat.reduceAdd, Nat.reduceSub, List.replicate_succ, List.replicate_zero, List.replicate,
  List.getElem?_cons_zero, List.getElem?_cons_succ, List.getElem?_nil, List.set_cons_zero, List.set_cons_succ,
  add_ii, add_ss, add_ll, sub_ii, mul_ii, fdv_ii, fdvN_ii, mod_ii, modN_ii, pow_ii, lt_ii, le_ii, gt_ii, ge_ii, eq_ii, ne_ii, ix_li, ix_ti, neg_i, abs_i, int_i, int_b, max_ii, min_ii, len_l, len_t, list_l, list_t, rev_l, isi_int, isi_bl, isi_tup, isi_lst, isi_non, isN_i, isN_n, isN_t, isN_l, notN_i, notN_n, notN_t, notN_l, isTy,
  atI0, atI1, atI2, ixN0, ixN1, ixN2, some_inj_ex, isObj, setAt0, setAt1, setAt2, setAt3, restE, keepS, wipeE, ↓reduceIte, if_false, if_true,
  eCall, eCallP, eMake, pm, List.filterMap_cons, List.filterMap_nil, agNil, agRo, agBo, agMu, agTm, callK, boIx, muIx, tms, argsK, upE, reown, hasBo, noTm, flatRo, noLstAll, noLst, noLsts, List.nodup_nil, List.nodup_cons, List.not_mem_nil, not_false_eq_true, Nat.zero_le, Nat.le_refl, Nat.reduceLeDiff, List.mem_cons, or_false, reduceCtorEq,
  gN, gTp, gCn, gNl, iR1, iR2, iLst, iTpl, iEnum, stab,
  true_and, and_true, Bool.true_eq_false, Bool.false_eq_true, false_imp_iff, forall_const, true_imp_iff, and_self, decide_eq_true_eq, decide_eq_false_iff_not, Bool.not_eq_true', Bool.not_eq_false'])
namespace CD
/- _law_cards: 0:script 1:k 2:cell 3:digits -/
/- _law_card: 0:cards 1:top 2:found 3:mixed -/
/- _law_gcd: 0:first 1:second -/
/- _law_large: 0:cards 1:places 2:figures 3:k -/
/- _law_integer: 0:cards 1:kind -/
/- _law_modulus: 0:cards -/
end CD
end TL

namespace TL
open PySem L2
local macro_rules | `(tactic| walk_at "sx") => `(tactic| simp only [sSeq, sNil, sSet, sFrz, frz_o, frz_sh, frz_s, sIf, sRet, sRetN, sPass, sBrk, sPar, sSub, sApp, sExpr, sAsg, sAug, sFld, sRevI, sPop, eLoc, eC, eUn, eBin, eAnd, eOr, eNot, eIf, eTup, eLst, dNil, dCons, tVal_eq, tstD_bl, tAndW, tOrW, tNotW, eFld_eq, eFldD_o, eProp, eMeth, eMeth0, eSl, pNone, pSome, sl_l,
  out_sh, out_fr, get_loc, get_sh, get_fr, getL_z, getL_o, getL_s, bound_z, bound_o, bound_s, isOwn_o, isOwn_s, pok_loc, pok_sh, pok_fr, stl_loc, stlS_sh, stlS_own, stl_sh, stl_fr, lay_fr, lay_sh, lay_loc, envOf, slotsOf, valN, ghOf, endK, resK, exMu, muN, List.cons_append, List.nil_append, List.append_nil, List.length_cons, List.length_nil, Nat.reduceAdd, Nat.reduceSub, List.replicate_succ, List.replicate_zero, List.replicate,
  List.getElem?_cons_zero, List.getElem?_cons_succ, List.getElem?_nil, List.set_cons_zero, List.set_cons_succ,
  add_ii, add_ss, add_ll, sub_ii, mul_ii, fdv_ii, fdvN_ii, mod_ii, modN_ii, pow_ii, lt_ii, le_ii, gt_ii, ge_ii, eq_ii, ne_ii, ix_li, ix_ti, neg_i, abs_i, int_i, int_b, max_ii, min_ii, len_l, len_t, list_l, list_t, rev_l, isi_int, isi_bl, isi_tup, isi_lst, isi_non, isN_i, isN_n, isN_t, isN_l, notN_i, notN_n, notN_t, notN_l, isTy,
  atI0, atI1, atI2, ixN0, ixN1, ixN2, some_inj_ex, isObj, setAt0, setAt1, setAt2, setAt3, restE, keepS, wipeE, ↓reduceIte, if_false, if_true,
  eCall, eCallP, eMake, pm, List.filterMap_cons, List.filterMap_nil, agNil, agRo, agBo, agMu, agTm, callK, boIx, muIx, tms, argsK, upE, reown, hasBo, noTm, flatRo, noLstAll, noLst, noLsts, List.nodup_nil, List.nodup_cons, List.not_mem_nil, not_false_eq_true, Nat.zero_le, Nat.le_refl, Nat.reduceLeDiff, List.mem_cons, or_false, reduceCtorEq,
  gN, gTp, gCn, gNl, iR1, iR2, iLst, iTpl, iEnum, stab,
  true_and, and_true, Bool.true_eq_false, Bool.false_eq_true, false_imp_iff, forall_const, true_imp_iff, and_self, decide_eq_true_eq, decide_eq_false_iff_not, Bool.not_eq_true', Bool.not_eq_false'])
namespace CD
/- _law_rules: 0:cards 1:modulus 2:reach 3:far 4:rules 5:k 6:a 7:step 8:b -/
end CD
end TL

namespace TL
open PySem L2
local macro_rules | `(tactic| walk_at "sx") => `(tactic| simp only [sSeq, sNil, sSet, sFrz, frz_o, frz_sh, frz_s, sIf, sRet, sRetN, sPass, sBrk, sPar, sSub, sApp, sExpr, sAsg, sAug, sFld, sRevI, sPop, eLoc, eC, eUn, eBin, eAnd, eOr, eNot, eIf, eTup, eLst, dNil, dCons, tVal_eq, tstD_bl, tAndW, tOrW, tNotW, eFld_eq, eFldD_o, eProp, eMeth, eMeth0, eSl, pNone, pSome, sl_l,
  out_sh, out_fr, get_loc, get_sh, get_fr, getL_z, getL_o, getL_s, bound_z, bound_o, bound_s, isOwn_o, isOwn_s, pok_loc, pok_sh, pok_fr, stl_loc, stlS_sh, stlS_own, stl_sh, stl_fr, lay_fr, lay_sh, lay_loc, envOf, slotsOf, valN, ghOf, endK, resK, exMu, muN, List.cons_append, List.nil_append, List.append_nil, List.length_cons, List.length_nil, Nat.reduceAdd, Nat.reduceSub, List.replicate_succ, List.replicate_zero, List.replicate,
  List.getElem?_cons_zero, List.getElem?_cons_succ, List.getElem?_nil, List.set_cons_zero, List.set_cons_succ,
  add_ii, add_ss, add_ll, sub_ii, mul_ii, fdv_ii, fdvN_ii, mod_ii, modN_ii, pow_ii, lt_ii, le_ii, gt_ii, ge_ii, eq_ii, ne_ii, ix_li, ix_ti, neg_i, abs_i, int_i, int_b, max_ii, min_ii, len_l, len_t, list_l, list_t, rev_l, isi_int, isi_bl, isi_tup, isi_lst, isi_non, isN_i, isN_n, isN_t, isN_l, notN_i, notN_n, notN_t, notN_l, isTy,
  atI0, atI1, atI2, ixN0, ixN1, ixN2, some_inj_ex, isObj, setAt0, setAt1, setAt2, setAt3, restE, keepS, wipeE, ↓reduceIte, if_false, if_true,
  eCall, eCallP, eMake, pm, List.filterMap_cons, List.filterMap_nil, agNil, agRo, agBo, agMu, agTm, callK, boIx, muIx, tms, argsK, upE, reown, hasBo, noTm, flatRo, noLstAll, noLst, noLsts, List.nodup_nil, List.nodup_cons, List.not_mem_nil, not_false_eq_true, Nat.zero_le, Nat.le_refl, Nat.reduceLeDiff, List.mem_cons, or_false, reduceCtorEq,
  gN, gTp, gCn, gNl, iR1, iR2, iLst, iTpl, iEnum, stab,
  true_and, and_true, Bool.true_eq_false, Bool.false_eq_true, false_imp_iff, forall_const, true_imp_iff, and_self, decide_eq_true_eq, decide_eq_false_iff_not, Bool.not_eq_true', Bool.not_eq_false'])
namespace CD
/- _law_lowest: 0:top 1:bottom 2:common -/
/- _law_good: 0:cards 1:modulus 2:top 3:bottom 4:k 5:common -/
end CD
end TL

namespace TL
open PySem L2
local macro_rules | `(tactic| walk_at "sx") => `(tactic| simp only [sSeq, sNil, sSet, sFrz, frz_o, frz_sh, frz_s, sIf, sRet, sRetN, sPass, sBrk, sPar, sSub, sApp, sExpr, sAsg, sAug, sFld, sRevI, sPop, eLoc, eC, eUn, eBin, eAnd, eOr, eNot, eIf, eTup, eLst, dNil, dCons, tVal_eq, tstD_bl, tAndW, tOrW, tNotW, eFld_eq, eFldD_o, eProp, eMeth, eMeth0, eSl, pNone, pSome, sl_l,
  out_sh, out_fr, get_loc, get_sh, get_fr, getL_z, getL_o, getL_s, bound_z, bound_o, bound_s, isOwn_o, isOwn_s, pok_loc, pok_sh, pok_fr, stl_loc, stlS_sh, stlS_own, stl_sh, stl_fr, lay_fr, lay_sh, lay_loc, envOf, slotsOf, valN, ghOf, endK, resK, exMu, muN, List.cons_append, List.nil_append, List.append_nil, List.length_cons, List.length_nil, Nat.reduceAdd, Nat.reduceSub, List.replicate_succ, List.replicate_zero, List.replicate,
  List.getElem?_cons_zero, List.getElem?_cons_succ, List.getElem?_nil, List.set_cons_zero, List.set_cons_succ,
  add_ii, add_ss, add_ll, sub_ii, mul_ii, fdv_ii, fdvN_ii, mod_ii, modN_ii, pow_ii, lt_ii, le_ii, gt_ii, ge_ii, eq_ii, ne_ii, ix_li, ix_ti, neg_i, abs_i, int_i, int_b, max_ii, min_ii, len_l, len_t, list_l, list_t, rev_l, isi_int, isi_bl, isi_tup, isi_lst, isi_non, isN_i, isN_n, isN_t, isN_l, notN_i, notN_n, notN_t, notN_l, isTy,
  atI0, atI1, atI2, ixN0, ixN1, ixN2, some_inj_ex, isObj, setAt0, setAt1, setAt2, setAt3, restE, keepS, wipeE, ↓reduceIte, if_false, if_true,
  eCall, eCallP, eMake, pm, List.filterMap_cons, List.filterMap_nil, agNil, agRo, agBo, agMu, agTm, callK, boIx, muIx, tms, argsK, upE, reown, hasBo, noTm, flatRo, noLstAll, noLst, noLsts, List.nodup_nil, List.nodup_cons, List.not_mem_nil, not_false_eq_true, Nat.zero_le, Nat.le_refl, Nat.reduceLeDiff, List.mem_cons, or_false, reduceCtorEq,
  gN, gTp, gCn, gNl, iR1, iR2, iLst, iTpl, iEnum, stab,
  true_and, and_true, Bool.true_eq_false, Bool.false_eq_true, false_imp_iff, forall_const, true_imp_iff, and_self, decide_eq_true_eq, decide_eq_false_iff_not, Bool.not_eq_true', Bool.not_eq_false'])
namespace CD
/- _law_whole: 0:value -/
/- _law_is_fraction: 0:value -/
/- _law_walked: 0:rules 1:top 2:bottom 3:many 4:modulus 5:unit 6:line 7:k 8:entry -/
/- before: 0:rule_map 1:number 2:top 3:bottom 4:modulus 5:a 6:b -/
/- _law_steps_to: 0:rules 1:found 2:entry 3:number 4:line 5:top -/
end CD
end TL

namespace TL
open PySem L2
local macro_rules | `(tactic| walk_at "sx") => `(tactic| simp only [sSeq, sNil, sSet, sFrz, frz_o, frz_sh, frz_s, sIf, sRet, sRetN, sPass, sBrk, sPar, sSub, sApp, sExpr, sAsg, sAug, sFld, sRevI, sPop, eLoc, eC, eUn, eBin, eAnd, eOr, eNot, eIf, eTup, eLst, dNil, dCons, tVal_eq, tstD_bl, tAndW, tOrW, tNotW, eFld_eq, eFldD_o, eProp, eMeth, eMeth0, eSl, pNone, pSome, sl_l,
  out_sh, out_fr, get_loc, get_sh, get_fr, getL_z, getL_o, getL_s, bound_z, bound_o, bound_s, isOwn_o, isOwn_s, pok_loc, pok_sh, pok_fr, stl_loc, stlS_sh, stlS_own, stl_sh, stl_fr, lay_fr, lay_sh, lay_loc, envOf, slotsOf, valN, ghOf, endK, resK, exMu, muN, List.cons_append, List.nil_append, List.append_nil, List.length_cons, List.length_nil, Nat.reduceAdd, Nat.reduceSub, List.replicate_succ, List.replicate_zero, List.replicate,
  List.getElem?_cons_zero, List.getElem?_cons_succ, List.getElem?_nil, List.set_cons_zero, List.set_cons_succ,
  add_ii, add_ss, add_ll, sub_ii, mul_ii, fdv_ii, fdvN_ii, mod_ii, modN_ii, pow_ii, lt_ii, le_ii, gt_ii, ge_ii, eq_ii, ne_ii, ix_li, ix_ti, neg_i, abs_i, int_i, int_b, max_ii, min_ii, len_l, len_t, list_l, list_t, rev_l, isi_int, isi_bl, isi_tup, isi_lst, isi_non, isN_i, isN_n, isN_t, isN_l, notN_i, notN_n, notN_t, notN_l, isTy,
  atI0, atI1, atI2, ixN0, ixN1, ixN2, some_inj_ex, isObj, setAt0, setAt1, setAt2, setAt3, restE, keepS, wipeE, ↓reduceIte, if_false, if_true,
  eCall, eCallP, eMake, pm, List.filterMap_cons, List.filterMap_nil, agNil, agRo, agBo, agMu, agTm, callK, boIx, muIx, tms, argsK, upE, reown, hasBo, noTm, flatRo, noLstAll, noLst, noLsts, List.nodup_nil, List.nodup_cons, List.not_mem_nil, not_false_eq_true, Nat.zero_le, Nat.le_refl, Nat.reduceLeDiff, List.mem_cons, or_false, reduceCtorEq,
  gN, gTp, gCn, gNl, iR1, iR2, iLst, iTpl, iEnum, stab,
  true_and, and_true, Bool.true_eq_false, Bool.false_eq_true, false_imp_iff, forall_const, true_imp_iff, and_self, decide_eq_true_eq, decide_eq_false_iff_not, Bool.not_eq_true', Bool.not_eq_false'])
namespace CD
namespace K42
/- _law_right: 0:cards 1:modulus 2:rules 3:number 4:built 5:found 6:kept 7:k -/
/- law: 0:script 1:k -/
end K42
end CD
end TL

namespace TL
open PySem L2
local macro_rules | `(tactic| walk_at "sx") => `(tactic| simp only [sSeq, sNil, sSet, sFrz, frz_o, frz_sh, frz_s, sIf, sRet, sRetN, sPass, sBrk, sPar, sSub, sApp, sExpr, sAsg, sAug, sFld, sRevI, sPop, eLoc, eC, eUn, eBin, eAnd, eOr, eNot, eIf, eTup, eLst, dNil, dCons, tVal_eq, tstD_bl, tAndW, tOrW, tNotW, eFld_eq, eFldD_o, eProp, eMeth, eMeth0, eSl, pNone, pSome, sl_l,
  out_sh, out_fr, get_loc, get_sh, get_fr, getL_z, getL_o, getL_s, bound_z, bound_o, bound_s, isOwn_o, isOwn_s, pok_loc, pok_sh, pok_fr, stl_loc, stlS_sh, stlS_own, stl_sh, stl_fr, lay_fr, lay_sh, lay_loc, envOf, slotsOf, valN, ghOf, endK, resK, exMu, muN, List.cons_append, List.nil_append, List.append_nil, List.length_cons, List.length_nil, Nat.reduceAdd, Nat.reduceSub, List.replicate_succ, List.replicate_zero, List.replicate,
  List.getElem?_cons_zero, List.getElem?_cons_succ, List.getElem?_nil, List.set_cons_zero, List.set_cons_succ,
  add_ii, add_ss, add_ll, sub_ii, mul_ii, fdv_ii, fdvN_ii, mod_ii, modN_ii, pow_ii, lt_ii, le_ii, gt_ii, ge_ii, eq_ii, ne_ii, ix_li, ix_ti, neg_i, abs_i, int_i, int_b, max_ii, min_ii, len_l, len_t, list_l, list_t, rev_l, isi_int, isi_bl, isi_tup, isi_lst, isi_non, isN_i, isN_n, isN_t, isN_l, notN_i, notN_n, notN_t, notN_l, isTy,
  atI0, atI1, atI2, ixN0, ixN1, ixN2, some_inj_ex, isObj, setAt0, setAt1, setAt2, setAt3, restE, keepS, wipeE, ↓reduceIte, if_false, if_true,
  eCall, eCallP, eMake, pm, List.filterMap_cons, List.filterMap_nil, agNil, agRo, agBo, agMu, agTm, callK, boIx, muIx, tms, argsK, upE, reown, hasBo, noTm, flatRo, noLstAll, noLst, noLsts, List.nodup_nil, List.nodup_cons, List.not_mem_nil, not_false_eq_true, Nat.zero_le, Nat.le_refl, Nat.reduceLeDiff, List.mem_cons, or_false, reduceCtorEq,
  gN, gTp, gCn, gNl, iR1, iR2, iLst, iTpl, iEnum, stab,
  true_and, and_true, Bool.true_eq_false, Bool.false_eq_true, false_imp_iff, forall_const, true_imp_iff, and_self, decide_eq_true_eq, decide_eq_false_iff_not, Bool.not_eq_true', Bool.not_eq_false'])
namespace CD
/-! ### ahead of a number by a word -/
/- back_by: 0:rule_map 1:number 2:word 3:a 4:b 5:whole 6:top 7:bottom -/
/- _law_word: 0:cards 1:modulus 2:size 3:k -/
/- _law_leads: 0:rules 1:found 2:line 3:number 4:told 5:top -/
end CD
end TL

namespace TL
open PySem L2
local macro_rules | `(tactic| walk_at "sx") => `(tactic| simp only [sSeq, sNil, sSet, sFrz, frz_o, frz_sh, frz_s, sIf, sRet, sRetN, sPass, sBrk, sPar, sSub, sApp, sExpr, sAsg, sAug, sFld, sRevI, sPop, eLoc, eC, eUn, eBin, eAnd, eOr, eNot, eIf, eTup, eLst, dNil, dCons, tVal_eq, tstD_bl, tAndW, tOrW, tNotW, eFld_eq, eFldD_o, eProp, eMeth, eMeth0, eSl, pNone, pSome, sl_l,
  out_sh, out_fr, get_loc, get_sh, get_fr, getL_z, getL_o, getL_s, bound_z, bound_o, bound_s, isOwn_o, isOwn_s, pok_loc, pok_sh, pok_fr, stl_loc, stlS_sh, stlS_own, stl_sh, stl_fr, lay_fr, lay_sh, lay_loc, envOf, slotsOf, valN, ghOf, endK, resK, exMu, muN, List.cons_append, List.nil_append, List.append_nil, List.length_cons, List.length_nil, Nat.reduceAdd, Nat.reduceSub, List.replicate_succ, List.replicate_zero, List.replicate,
  List.getElem?_cons_zero, List.getElem?_cons_succ, List.getElem?_nil, List.set_cons_zero, List.set_cons_succ,
  add_ii, add_ss, add_ll, sub_ii, mul_ii, fdv_ii, fdvN_ii, mod_ii, modN_ii, pow_ii, lt_ii, le_ii, gt_ii, ge_ii, eq_ii, ne_ii, ix_li, ix_ti, neg_i, abs_i, int_i, int_b, max_ii, min_ii, len_l, len_t, list_l, list_t, rev_l, isi_int, isi_bl, isi_tup, isi_lst, isi_non, isN_i, isN_n, isN_t, isN_l, notN_i, notN_n, notN_t, notN_l, isTy,
  atI0, atI1, atI2, ixN0, ixN1, ixN2, some_inj_ex, isObj, setAt0, setAt1, setAt2, setAt3, restE, keepS, wipeE, ↓reduceIte, if_false, if_true,
  eCall, eCallP, eMake, pm, List.filterMap_cons, List.filterMap_nil, agNil, agRo, agBo, agMu, agTm, callK, boIx, muIx, tms, argsK, upE, reown, hasBo, noTm, flatRo, noLstAll, noLst, noLsts, List.nodup_nil, List.nodup_cons, List.not_mem_nil, not_false_eq_true, Nat.zero_le, Nat.le_refl, Nat.reduceLeDiff, List.mem_cons, or_false, reduceCtorEq,
  gN, gTp, gCn, gNl, iR1, iR2, iLst, iTpl, iEnum, stab,
  true_and, and_true, Bool.true_eq_false, Bool.false_eq_true, false_imp_iff, forall_const, true_imp_iff, and_self, decide_eq_true_eq, decide_eq_false_iff_not, Bool.not_eq_true', Bool.not_eq_false'])
namespace CD
namespace K45
/- _law_right: 0:cards 1:modulus 2:rules 3:number 4:built 5:size 6:line 7:passed -/
/- law: 0:script 1:k -/
end K45
end CD
end TL

namespace TL
open PySem L2
local macro_rules | `(tactic| walk_at "sx") => `(tactic| simp only [sSeq, sNil, sSet, sFrz, frz_o, frz_sh, frz_s, sIf, sRet, sRetN, sPass, sBrk, sPar, sSub, sApp, sExpr, sAsg, sAug, sFld, sRevI, sPop, eLoc, eC, eUn, eBin, eAnd, eOr, eNot, eIf, eTup, eLst, dNil, dCons, tVal_eq, tstD_bl, tAndW, tOrW, tNotW, eFld_eq, eFldD_o, eProp, eMeth, eMeth0, eSl, pNone, pSome, sl_l,
  out_sh, out_fr, get_loc, get_sh, get_fr, getL_z, getL_o, getL_s, bound_z, bound_o, bound_s, isOwn_o, isOwn_s, pok_loc, pok_sh, pok_fr, stl_loc, stlS_sh, stlS_own, stl_sh, stl_fr, lay_fr, lay_sh, lay_loc, envOf, slotsOf, valN, ghOf, endK, resK, exMu, muN, List.cons_append, List.nil_append, List.append_nil, List.length_cons, List.length_nil, Nat.reduceAdd, Nat.reduceSub, List.replicate_succ, List.replicate_zero, List.replicate,
  List.getElem?_cons_zero, List.getElem?_cons_succ, List.getElem?_nil, List.set_cons_zero, List.set_cons_succ,
  add_ii, add_ss, add_ll, sub_ii, mul_ii, fdv_ii, fdvN_ii, mod_ii, modN_ii, pow_ii, lt_ii, le_ii, gt_ii, ge_ii, eq_ii, ne_ii, ix_li, ix_ti, neg_i, abs_i, int_i, int_b, max_ii, min_ii, len_l, len_t, list_l, list_t, rev_l, isi_int, isi_bl, isi_tup, isi_lst, isi_non, isN_i, isN_n, isN_t, isN_l, notN_i, notN_n, notN_t, notN_l, isTy,
  atI0, atI1, atI2, ixN0, ixN1, ixN2, some_inj_ex, isObj, setAt0, setAt1, setAt2, setAt3, restE, keepS, wipeE, ↓reduceIte, if_false, if_true,
  eCall, eCallP, eMake, pm, List.filterMap_cons, List.filterMap_nil, agNil, agRo, agBo, agMu, agTm, callK, boIx, muIx, tms, argsK, upE, reown, hasBo, noTm, flatRo, noLstAll, noLst, noLsts, List.nodup_nil, List.nodup_cons, List.not_mem_nil, not_false_eq_true, Nat.zero_le, Nat.le_refl, Nat.reduceLeDiff, List.mem_cons, or_false, reduceCtorEq,
  gN, gTp, gCn, gNl, iR1, iR2, iLst, iTpl, iEnum, stab,
  true_and, and_true, Bool.true_eq_false, Bool.false_eq_true, false_imp_iff, forall_const, true_imp_iff, and_self, decide_eq_true_eq, decide_eq_false_iff_not, Bool.not_eq_true', Bool.not_eq_false'])
namespace CD
/-! ### falling words -/
/- is_falling: 0:rule_map 1:word 2:rules 3:product 4:whole 5:k -/
/- _law_falls: 0:rules 1:line 2:product 3:whole 4:k -/
/- _law_standing: 0:cards 1:rules 2:size 3:great 4:high 5:line 6:product 7:whole 8:k 9:drawn 10:rule -/
/- _law_fallen: 0:rules 1:line 2:limit 3:small 4:low 5:found 6:product 7:whole 8:k 9:entry 10:rule -/
end CD
end TL

namespace TL
open PySem L2
local macro_rules | `(tactic| walk_at "sx") => `(tactic| simp only [sSeq, sNil, sSet, sFrz, frz_o, frz_sh, frz_s, sIf, sRet, sRetN, sPass, sBrk, sPar, sSub, sApp, sExpr, sAsg, sAug, sFld, sRevI, sPop, eLoc, eC, eUn, eBin, eAnd, eOr, eNot, eIf, eTup, eLst, dNil, dCons, tVal_eq, tstD_bl, tAndW, tOrW, tNotW, eFld_eq, eFldD_o, eProp, eMeth, eMeth0, eSl, pNone, pSome, sl_l,
  out_sh, out_fr, get_loc, get_sh, get_fr, getL_z, getL_o, getL_s, bound_z, bound_o, bound_s, isOwn_o, isOwn_s, pok_loc, pok_sh, pok_fr, stl_loc, stlS_sh, stlS_own, stl_sh, stl_fr, lay_fr, lay_sh, lay_loc, envOf, slotsOf, valN, ghOf, endK, resK, exMu, muN, List.cons_append, List.nil_append, List.append_nil, List.length_cons, List.length_nil, Nat.reduceAdd, Nat.reduceSub, List.replicate_succ, List.replicate_zero, List.replicate,
  List.getElem?_cons_zero, List.getElem?_cons_succ, List.getElem?_nil, List.set_cons_zero, List.set_cons_succ,
  add_ii, add_ss, add_ll, sub_ii, mul_ii, fdv_ii, fdvN_ii, mod_ii, modN_ii, pow_ii, lt_ii, le_ii, gt_ii, ge_ii, eq_ii, ne_ii, ix_li, ix_ti, neg_i, abs_i, int_i, int_b, max_ii, min_ii, len_l, len_t, list_l, list_t, rev_l, isi_int, isi_bl, isi_tup, isi_lst, isi_non, isN_i, isN_n, isN_t, isN_l, notN_i, notN_n, notN_t, notN_l, isTy,
  atI0, atI1, atI2, ixN0, ixN1, ixN2, some_inj_ex, isObj, setAt0, setAt1, setAt2, setAt3, restE, keepS, wipeE, ↓reduceIte, if_false, if_true,
  eCall, eCallP, eMake, pm, List.filterMap_cons, List.filterMap_nil, agNil, agRo, agBo, agMu, agTm, callK, boIx, muIx, tms, argsK, upE, reown, hasBo, noTm, flatRo, noLstAll, noLst, noLsts, List.nodup_nil, List.nodup_cons, List.not_mem_nil, not_false_eq_true, Nat.zero_le, Nat.le_refl, Nat.reduceLeDiff, List.mem_cons, or_false, reduceCtorEq,
  gN, gTp, gCn, gNl, iR1, iR2, iLst, iTpl, iEnum, stab,
  true_and, and_true, Bool.true_eq_false, Bool.false_eq_true, false_imp_iff, forall_const, true_imp_iff, and_self, decide_eq_true_eq, decide_eq_false_iff_not, Bool.not_eq_true', Bool.not_eq_false'])
namespace CD
namespace K35
/- _law_right: 0:cards 1:modulus 2:rules 3:built 4:start 5:low 6:lines 7:line 8:passed 9:found -/
/- law: 0:script 1:k -/
end K35
end CD
end TL

namespace TL
open PySem L2
local macro_rules | `(tactic| walk_at "sx") => `(tactic| simp only [sSeq, sNil, sSet, sFrz, frz_o, frz_sh, frz_s, sIf, sRet, sRetN, sPass, sBrk, sPar, sSub, sApp, sExpr, sAsg, sAug, sFld, sRevI, sPop, eLoc, eC, eUn, eBin, eAnd, eOr, eNot, eIf, eTup, eLst, dNil, dCons, tVal_eq, tstD_bl, tAndW, tOrW, tNotW, eFld_eq, eFldD_o, eProp, eMeth, eMeth0, eSl, pNone, pSome, sl_l,
  out_sh, out_fr, get_loc, get_sh, get_fr, getL_z, getL_o, getL_s, bound_z, bound_o, bound_s, isOwn_o, isOwn_s, pok_loc, pok_sh, pok_fr, stl_loc, stlS_sh, stlS_own, stl_sh, stl_fr, lay_fr, lay_sh, lay_loc, envOf, slotsOf, valN, ghOf, endK, resK, exMu, muN, List.cons_append, List.nil_append, List.append_nil, List.length_cons, List.length_nil, Nat.reduceAdd, Nat.reduceSub, List.replicate_succ, List.replicate_zero, List.replicate,
  List.getElem?_cons_zero, List.getElem?_cons_succ, List.getElem?_nil, List.set_cons_zero, List.set_cons_succ,
  add_ii, add_ss, add_ll, sub_ii, mul_ii, fdv_ii, fdvN_ii, mod_ii, modN_ii, pow_ii, lt_ii, le_ii, gt_ii, ge_ii, eq_ii, ne_ii, ix_li, ix_ti, neg_i, abs_i, int_i, int_b, max_ii, min_ii, len_l, len_t, list_l, list_t, rev_l, isi_int, isi_bl, isi_tup, isi_lst, isi_non, isN_i, isN_n, isN_t, isN_l, notN_i, notN_n, notN_t, notN_l, isTy,
  atI0, atI1, atI2, ixN0, ixN1, ixN2, some_inj_ex, isObj, setAt0, setAt1, setAt2, setAt3, restE, keepS, wipeE, ↓reduceIte, if_false, if_true,
  eCall, eCallP, eMake, pm, List.filterMap_cons, List.filterMap_nil, agNil, agRo, agBo, agMu, agTm, callK, boIx, muIx, tms, argsK, upE, reown, hasBo, noTm, flatRo, noLstAll, noLst, noLsts, List.nodup_nil, List.nodup_cons, List.not_mem_nil, not_false_eq_true, Nat.zero_le, Nat.le_refl, Nat.reduceLeDiff, List.mem_cons, or_false, reduceCtorEq,
  gN, gTp, gCn, gNl, iR1, iR2, iLst, iTpl, iEnum, stab,
  true_and, and_true, Bool.true_eq_false, Bool.false_eq_true, false_imp_iff, forall_const, true_imp_iff, and_self, decide_eq_true_eq, decide_eq_false_iff_not, Bool.not_eq_true', Bool.not_eq_false'])
namespace CD
/-! ### where falling begins -/
/- falls_from: 0:rule_map 1:word 2:a 3:b 4:whole 5:border -/
/- _law_step: 0:rules 1:number 2:a 3:b -/
/- _law_taken: 0:rules 1:word 2:number 3:entry -/
/- _law_falls_at: 0:rules 1:word 2:number 3:taken -/
end CD
end TL

namespace TL
open PySem L2
local macro_rules | `(tactic| walk_at "sx") => `(tactic| simp only [sSeq, sNil, sSet, sFrz, frz_o, frz_sh, frz_s, sIf, sRet, sRetN, sPass, sBrk, sPar, sSub, sApp, sExpr, sAsg, sAug, sFld, sRevI, sPop, eLoc, eC, eUn, eBin, eAnd, eOr, eNot, eIf, eTup, eLst, dNil, dCons, tVal_eq, tstD_bl, tAndW, tOrW, tNotW, eFld_eq, eFldD_o, eProp, eMeth, eMeth0, eSl, pNone, pSome, sl_l,
  out_sh, out_fr, get_loc, get_sh, get_fr, getL_z, getL_o, getL_s, bound_z, bound_o, bound_s, isOwn_o, isOwn_s, pok_loc, pok_sh, pok_fr, stl_loc, stlS_sh, stlS_own, stl_sh, stl_fr, lay_fr, lay_sh, lay_loc, envOf, slotsOf, valN, ghOf, endK, resK, exMu, muN, List.cons_append, List.nil_append, List.append_nil, List.length_cons, List.length_nil, Nat.reduceAdd, Nat.reduceSub, List.replicate_succ, List.replicate_zero, List.replicate,
  List.getElem?_cons_zero, List.getElem?_cons_succ, List.getElem?_nil, List.set_cons_zero, List.set_cons_succ,
  add_ii, add_ss, add_ll, sub_ii, mul_ii, fdv_ii, fdvN_ii, mod_ii, modN_ii, pow_ii, lt_ii, le_ii, gt_ii, ge_ii, eq_ii, ne_ii, ix_li, ix_ti, neg_i, abs_i, int_i, int_b, max_ii, min_ii, len_l, len_t, list_l, list_t, rev_l, isi_int, isi_bl, isi_tup, isi_lst, isi_non, isN_i, isN_n, isN_t, isN_l, notN_i, notN_n, notN_t, notN_l, isTy,
  atI0, atI1, atI2, ixN0, ixN1, ixN2, some_inj_ex, isObj, setAt0, setAt1, setAt2, setAt3, restE, keepS, wipeE, ↓reduceIte, if_false, if_true,
  eCall, eCallP, eMake, pm, List.filterMap_cons, List.filterMap_nil, agNil, agRo, agBo, agMu, agTm, callK, boIx, muIx, tms, argsK, upE, reown, hasBo, noTm, flatRo, noLstAll, noLst, noLsts, List.nodup_nil, List.nodup_cons, List.not_mem_nil, not_false_eq_true, Nat.zero_le, Nat.le_refl, Nat.reduceLeDiff, List.mem_cons, or_false, reduceCtorEq,
  gN, gTp, gCn, gNl, iR1, iR2, iLst, iTpl, iEnum, stab,
  true_and, and_true, Bool.true_eq_false, Bool.false_eq_true, false_imp_iff, forall_const, true_imp_iff, and_self, decide_eq_true_eq, decide_eq_false_iff_not, Bool.not_eq_true', Bool.not_eq_false'])
namespace CD
namespace K37
/- _law_right: 0:cards 1:modulus 2:rules 3:low 4:size 5:start 6:line 7:built 8:passed 9:found 10:whole 11:taken 12:far -/
/- law: 0:script 1:k -/
end K37
end CD
end TL

namespace TL
open PySem L2
local macro_rules | `(tactic| walk_at "sx") => `(tactic| simp only [sSeq, sNil, sSet, sFrz, frz_o, frz_sh, frz_s, sIf, sRet, sRetN, sPass, sBrk, sPar, sSub, sApp, sExpr, sAsg, sAug, sFld, sRevI, sPop, eLoc, eC, eUn, eBin, eAnd, eOr, eNot, eIf, eTup, eLst, dNil, dCons, tVal_eq, tstD_bl, tAndW, tOrW, tNotW, eFld_eq, eFldD_o, eProp, eMeth, eMeth0, eSl, pNone, pSome, sl_l,
  out_sh, out_fr, get_loc, get_sh, get_fr, getL_z, getL_o, getL_s, bound_z, bound_o, bound_s, isOwn_o, isOwn_s, pok_loc, pok_sh, pok_fr, stl_loc, stlS_sh, stlS_own, stl_sh, stl_fr, lay_fr, lay_sh, lay_loc, envOf, slotsOf, valN, ghOf, endK, resK, exMu, muN, List.cons_append, List.nil_append, List.append_nil, List.length_cons, List.length_nil, Nat.reduceAdd, Nat.reduceSub, List.replicate_succ, List.replicate_zero, List.replicate,
  List.getElem?_cons_zero, List.getElem?_cons_succ, List.getElem?_nil, List.set_cons_zero, List.set_cons_succ,
  add_ii, add_ss, add_ll, sub_ii, mul_ii, fdv_ii, fdvN_ii, mod_ii, modN_ii, pow_ii, lt_ii, le_ii, gt_ii, ge_ii, eq_ii, ne_ii, ix_li, ix_ti, neg_i, abs_i, int_i, int_b, max_ii, min_ii, len_l, len_t, list_l, list_t, rev_l, isi_int, isi_bl, isi_tup, isi_lst, isi_non, isN_i, isN_n, isN_t, isN_l, notN_i, notN_n, notN_t, notN_l, isTy,
  atI0, atI1, atI2, ixN0, ixN1, ixN2, some_inj_ex, isObj, setAt0, setAt1, setAt2, setAt3, restE, keepS, wipeE, ↓reduceIte, if_false, if_true,
  eCall, eCallP, eMake, pm, List.filterMap_cons, List.filterMap_nil, agNil, agRo, agBo, agMu, agTm, callK, boIx, muIx, tms, argsK, upE, reown, hasBo, noTm, flatRo, noLstAll, noLst, noLsts, List.nodup_nil, List.nodup_cons, List.not_mem_nil, not_false_eq_true, Nat.zero_le, Nat.le_refl, Nat.reduceLeDiff, List.mem_cons, or_false, reduceCtorEq,
  gN, gTp, gCn, gNl, iR1, iR2, iLst, iTpl, iEnum, stab,
  true_and, and_true, Bool.true_eq_false, Bool.false_eq_true, false_imp_iff, forall_const, true_imp_iff, and_self, decide_eq_true_eq, decide_eq_false_iff_not, Bool.not_eq_true', Bool.not_eq_false'])
namespace CD
/- _law_form: 0:rules 1:line 2:a 3:b 4:whole 5:entry -/
/- distance_of: 0:rule_map 1:one 2:other 3:a 4:b 5:whole 6:other_a 7:other_b -/
/- _law_meet: 0:rules 1:first 2:second 3:found 4:there 5:a 6:b 7:whole 8:top 9:bottom -/
end CD
end TL

namespace TL
open PySem L2
local macro_rules | `(tactic| walk_at "sx") => `(tactic| simp only [sSeq, sNil, sSet, sFrz, frz_o, frz_sh, frz_s, sIf, sRet, sRetN, sPass, sBrk, sPar, sSub, sApp, sExpr, sAsg, sAug, sFld, sRevI, sPop, eLoc, eC, eUn, eBin, eAnd, eOr, eNot, eIf, eTup, eLst, dNil, dCons, tVal_eq, tstD_bl, tAndW, tOrW, tNotW, eFld_eq, eFldD_o, eProp, eMeth, eMeth0, eSl, pNone, pSome, sl_l,
  out_sh, out_fr, get_loc, get_sh, get_fr, getL_z, getL_o, getL_s, bound_z, bound_o, bound_s, isOwn_o, isOwn_s, pok_loc, pok_sh, pok_fr, stl_loc, stlS_sh, stlS_own, stl_sh, stl_fr, lay_fr, lay_sh, lay_loc, envOf, slotsOf, valN, ghOf, endK, resK, exMu, muN, List.cons_append, List.nil_append, List.append_nil, List.length_cons, List.length_nil, Nat.reduceAdd, Nat.reduceSub, List.replicate_succ, List.replicate_zero, List.replicate,
  List.getElem?_cons_zero, List.getElem?_cons_succ, List.getElem?_nil, List.set_cons_zero, List.set_cons_succ,
  add_ii, add_ss, add_ll, sub_ii, mul_ii, fdv_ii, fdvN_ii, mod_ii, modN_ii, pow_ii, lt_ii, le_ii, gt_ii, ge_ii, eq_ii, ne_ii, ix_li, ix_ti, neg_i, abs_i, int_i, int_b, max_ii, min_ii, len_l, len_t, list_l, list_t, rev_l, isi_int, isi_bl, isi_tup, isi_lst, isi_non, isN_i, isN_n, isN_t, isN_l, notN_i, notN_n, notN_t, notN_l, isTy,
  atI0, atI1, atI2, ixN0, ixN1, ixN2, some_inj_ex, isObj, setAt0, setAt1, setAt2, setAt3, restE, keepS, wipeE, ↓reduceIte, if_false, if_true,
  eCall, eCallP, eMake, pm, List.filterMap_cons, List.filterMap_nil, agNil, agRo, agBo, agMu, agTm, callK, boIx, muIx, tms, argsK, upE, reown, hasBo, noTm, flatRo, noLstAll, noLst, noLsts, List.nodup_nil, List.nodup_cons, List.not_mem_nil, not_false_eq_true, Nat.zero_le, Nat.le_refl, Nat.reduceLeDiff, List.mem_cons, or_false, reduceCtorEq,
  gN, gTp, gCn, gNl, iR1, iR2, iLst, iTpl, iEnum, stab,
  true_and, and_true, Bool.true_eq_false, Bool.false_eq_true, false_imp_iff, forall_const, true_imp_iff, and_self, decide_eq_true_eq, decide_eq_false_iff_not, Bool.not_eq_true', Bool.not_eq_false'])
namespace CD
namespace K51
/- _law_other: 0:cards 1:modulus 2:line 3:kind 4:at -/
/- _law_right: 0:cards 1:modulus 2:rules 3:size 4:first 5:second 6:built 7:passed 8:found 9:back -/
/- law: 0:script 1:k -/
end K51
end CD
end TL

namespace TL
open PySem L2
local macro_rules | `(tactic| walk_at "sx") => `(tactic| simp only [sSeq, sNil, sSet, sFrz, frz_o, frz_sh, frz_s, sIf, sRet, sRetN, sPass, sBrk, sPar, sSub, sApp, sExpr, sAsg, sAug, sFld, sRevI, sPop, eLoc, eC, eUn, eBin, eAnd, eOr, eNot, eIf, eTup, eLst, dNil, dCons, tVal_eq, tstD_bl, tAndW, tOrW, tNotW, eFld_eq, eFldD_o, eProp, eMeth, eMeth0, eSl, pNone, pSome, sl_l,
  out_sh, out_fr, get_loc, get_sh, get_fr, getL_z, getL_o, getL_s, bound_z, bound_o, bound_s, isOwn_o, isOwn_s, pok_loc, pok_sh, pok_fr, stl_loc, stlS_sh, stlS_own, stl_sh, stl_fr, lay_fr, lay_sh, lay_loc, envOf, slotsOf, valN, ghOf, endK, resK, exMu, muN, List.cons_append, List.nil_append, List.append_nil, List.length_cons, List.length_nil, Nat.reduceAdd, Nat.reduceSub, List.replicate_succ, List.replicate_zero, List.replicate,
  List.getElem?_cons_zero, List.getElem?_cons_succ, List.getElem?_nil, List.set_cons_zero, List.set_cons_succ,
  add_ii, add_ss, add_ll, sub_ii, mul_ii, fdv_ii, fdvN_ii, mod_ii, modN_ii, pow_ii, lt_ii, le_ii, gt_ii, ge_ii, eq_ii, ne_ii, ix_li, ix_ti, neg_i, abs_i, int_i, int_b, max_ii, min_ii, len_l, len_t, list_l, list_t, rev_l, isi_int, isi_bl, isi_tup, isi_lst, isi_non, isN_i, isN_n, isN_t, isN_l, notN_i, notN_n, notN_t, notN_l, isTy,
  atI0, atI1, atI2, ixN0, ixN1, ixN2, some_inj_ex, isObj, setAt0, setAt1, setAt2, setAt3, restE, keepS, wipeE, ↓reduceIte, if_false, if_true,
  eCall, eCallP, eMake, pm, List.filterMap_cons, List.filterMap_nil, agNil, agRo, agBo, agMu, agTm, callK, boIx, muIx, tms, argsK, upE, reown, hasBo, noTm, flatRo, noLstAll, noLst, noLsts, List.nodup_nil, List.nodup_cons, List.not_mem_nil, not_false_eq_true, Nat.zero_le, Nat.le_refl, Nat.reduceLeDiff, List.mem_cons, or_false, reduceCtorEq,
  gN, gTp, gCn, gNl, iR1, iR2, iLst, iTpl, iEnum, stab,
  true_and, and_true, Bool.true_eq_false, Bool.false_eq_true, false_imp_iff, forall_const, true_imp_iff, and_self, decide_eq_true_eq, decide_eq_false_iff_not, Bool.not_eq_true', Bool.not_eq_false'])
namespace CD
/- _law_length: 0:cards 1:modulus 2:limit 3:greatest 4:whole 5:k -/
/- twin: 0:one 1:other 2:number 3:steps -/
namespace CH
/- _law_changed: 0:cards 1:rules 2:found 3:k 4:kind -/
end CH
end CD
end TL

namespace TL
open PySem L2
local macro_rules | `(tactic| walk_at "sx") => `(tactic| simp only [sSeq, sNil, sSet, sFrz, frz_o, frz_sh, frz_s, sIf, sRet, sRetN, sPass, sBrk, sPar, sSub, sApp, sExpr, sAsg, sAug, sFld, sRevI, sPop, eLoc, eC, eUn, eBin, eAnd, eOr, eNot, eIf, eTup, eLst, dNil, dCons, tVal_eq, tstD_bl, tAndW, tOrW, tNotW, eFld_eq, eFldD_o, eProp, eMeth, eMeth0, eSl, pNone, pSome, sl_l,
  out_sh, out_fr, get_loc, get_sh, get_fr, getL_z, getL_o, getL_s, bound_z, bound_o, bound_s, isOwn_o, isOwn_s, pok_loc, pok_sh, pok_fr, stl_loc, stlS_sh, stlS_own, stl_sh, stl_fr, lay_fr, lay_sh, lay_loc, envOf, slotsOf, valN, ghOf, endK, resK, exMu, muN, List.cons_append, List.nil_append, List.append_nil, List.length_cons, List.length_nil, Nat.reduceAdd, Nat.reduceSub, List.replicate_succ, List.replicate_zero, List.replicate,
  List.getElem?_cons_zero, List.getElem?_cons_succ, List.getElem?_nil, List.set_cons_zero, List.set_cons_succ,
  add_ii, add_ss, add_ll, sub_ii, mul_ii, fdv_ii, fdvN_ii, mod_ii, modN_ii, pow_ii, lt_ii, le_ii, gt_ii, ge_ii, eq_ii, ne_ii, ix_li, ix_ti, neg_i, abs_i, int_i, int_b, max_ii, min_ii, len_l, len_t, list_l, list_t, rev_l, isi_int, isi_bl, isi_tup, isi_lst, isi_non, isN_i, isN_n, isN_t, isN_l, notN_i, notN_n, notN_t, notN_l, isTy,
  atI0, atI1, atI2, ixN0, ixN1, ixN2, some_inj_ex, isObj, setAt0, setAt1, setAt2, setAt3, restE, keepS, wipeE, ↓reduceIte, if_false, if_true,
  eCall, eCallP, eMake, pm, List.filterMap_cons, List.filterMap_nil, agNil, agRo, agBo, agMu, agTm, callK, boIx, muIx, tms, argsK, upE, reown, hasBo, noTm, flatRo, noLstAll, noLst, noLsts, List.nodup_nil, List.nodup_cons, List.not_mem_nil, not_false_eq_true, Nat.zero_le, Nat.le_refl, Nat.reduceLeDiff, List.mem_cons, or_false, reduceCtorEq,
  gN, gTp, gCn, gNl, iR1, iR2, iLst, iTpl, iEnum, stab,
  true_and, and_true, Bool.true_eq_false, Bool.false_eq_true, false_imp_iff, forall_const, true_imp_iff, and_self, decide_eq_true_eq, decide_eq_false_iff_not, Bool.not_eq_true', Bool.not_eq_false'])
namespace CD
namespace CH
namespace K55
/- _law_right: 0:cards 1:modulus 2:rules 3:second 4:number 5:many 6:whole 7:built 8:line 9:turn 10:found 11:itself -/
/- law: 0:script 1:k -/
end K55
end CH
end CD
end TL

namespace TL
open PySem L2
local macro_rules | `(tactic| walk_at "sx") => `(tactic| simp only [sSeq, sNil, sSet, sFrz, frz_o, frz_sh, frz_s, sIf, sRet, sRetN, sPass, sBrk, sPar, sSub, sApp, sExpr, sAsg, sAug, sFld, sRevI, sPop, eLoc, eC, eUn, eBin, eAnd, eOr, eNot, eIf, eTup, eLst, dNil, dCons, tVal_eq, tstD_bl, tAndW, tOrW, tNotW, eFld_eq, eFldD_o, eProp, eMeth, eMeth0, eSl, pNone, pSome, sl_l,
  out_sh, out_fr, get_loc, get_sh, get_fr, getL_z, getL_o, getL_s, bound_z, bound_o, bound_s, isOwn_o, isOwn_s, pok_loc, pok_sh, pok_fr, stl_loc, stlS_sh, stlS_own, stl_sh, stl_fr, lay_fr, lay_sh, lay_loc, envOf, slotsOf, valN, ghOf, endK, resK, exMu, muN, List.cons_append, List.nil_append, List.append_nil, List.length_cons, List.length_nil, Nat.reduceAdd, Nat.reduceSub, List.replicate_succ, List.replicate_zero, List.replicate,
  List.getElem?_cons_zero, List.getElem?_cons_succ, List.getElem?_nil, List.set_cons_zero, List.set_cons_succ,
  add_ii, add_ss, add_ll, sub_ii, mul_ii, fdv_ii, fdvN_ii, mod_ii, modN_ii, pow_ii, lt_ii, le_ii, gt_ii, ge_ii, eq_ii, ne_ii, ix_li, ix_ti, neg_i, abs_i, int_i, int_b, max_ii, min_ii, len_l, len_t, list_l, list_t, rev_l, isi_int, isi_bl, isi_tup, isi_lst, isi_non, isN_i, isN_n, isN_t, isN_l, notN_i, notN_n, notN_t, notN_l, isTy,
  atI0, atI1, atI2, ixN0, ixN1, ixN2, some_inj_ex, isObj, setAt0, setAt1, setAt2, setAt3, restE, keepS, wipeE, ↓reduceIte, if_false, if_true,
  eCall, eCallP, eMake, pm, List.filterMap_cons, List.filterMap_nil, agNil, agRo, agBo, agMu, agTm, callK, boIx, muIx, tms, argsK, upE, reown, hasBo, noTm, flatRo, noLstAll, noLst, noLsts, List.nodup_nil, List.nodup_cons, List.not_mem_nil, not_false_eq_true, Nat.zero_le, Nat.le_refl, Nat.reduceLeDiff, List.mem_cons, or_false, reduceCtorEq,
  gN, gTp, gCn, gNl, iR1, iR2, iLst, iTpl, iEnum, stab,
  true_and, and_true, Bool.true_eq_false, Bool.false_eq_true, false_imp_iff, forall_const, true_imp_iff, and_self, decide_eq_true_eq, decide_eq_false_iff_not, Bool.not_eq_true', Bool.not_eq_false'])
namespace CD
/-! ### the forms of all classes -/
/- forms_by_class: 0:rule_map 1:steps 2:rules 3:modulus 4:forms 5:whole 6:step 7:longer 8:number 9:a 10:b 11:rule_a 12:rule_b -/
/- meeting_classes: 0:rule_map 1:apart 2:steps 3:forms 4:whole 5:found 6:number 7:a 8:b 9:other_a 10:other_b -/
end CD
end TL

namespace TL
open PySem L2
local macro_rules | `(tactic| walk_at "sx") => `(tactic| simp only [sSeq, sNil, sSet, sFrz, frz_o, frz_sh, frz_s, sIf, sRet, sRetN, sPass, sBrk, sPar, sSub, sApp, sExpr, sAsg, sAug, sFld, sRevI, sPop, eLoc, eC, eUn, eBin, eAnd, eOr, eNot, eIf, eTup, eLst, dNil, dCons, tVal_eq, tstD_bl, tAndW, tOrW, tNotW, eFld_eq, eFldD_o, eProp, eMeth, eMeth0, eSl, pNone, pSome, sl_l,
  out_sh, out_fr, get_loc, get_sh, get_fr, getL_z, getL_o, getL_s, bound_z, bound_o, bound_s, isOwn_o, isOwn_s, pok_loc, pok_sh, pok_fr, stl_loc, stlS_sh, stlS_own, stl_sh, stl_fr, lay_fr, lay_sh, lay_loc, envOf, slotsOf, valN, ghOf, endK, resK, exMu, muN, List.cons_append, List.nil_append, List.append_nil, List.length_cons, List.length_nil, Nat.reduceAdd, Nat.reduceSub, List.replicate_succ, List.replicate_zero, List.replicate,
  List.getElem?_cons_zero, List.getElem?_cons_succ, List.getElem?_nil, List.set_cons_zero, List.set_cons_succ,
  add_ii, add_ss, add_ll, sub_ii, mul_ii, fdv_ii, fdvN_ii, mod_ii, modN_ii, pow_ii, lt_ii, le_ii, gt_ii, ge_ii, eq_ii, ne_ii, ix_li, ix_ti, neg_i, abs_i, int_i, int_b, max_ii, min_ii, len_l, len_t, list_l, list_t, rev_l, isi_int, isi_bl, isi_tup, isi_lst, isi_non, isN_i, isN_n, isN_t, isN_l, notN_i, notN_n, notN_t, notN_l, isTy,
  atI0, atI1, atI2, ixN0, ixN1, ixN2, some_inj_ex, isObj, setAt0, setAt1, setAt2, setAt3, restE, keepS, wipeE, ↓reduceIte, if_false, if_true,
  eCall, eCallP, eMake, pm, List.filterMap_cons, List.filterMap_nil, agNil, agRo, agBo, agMu, agTm, callK, boIx, muIx, tms, argsK, upE, reown, hasBo, noTm, flatRo, noLstAll, noLst, noLsts, List.nodup_nil, List.nodup_cons, List.not_mem_nil, not_false_eq_true, Nat.zero_le, Nat.le_refl, Nat.reduceLeDiff, List.mem_cons, or_false, reduceCtorEq,
  gN, gTp, gCn, gNl, iR1, iR2, iLst, iTpl, iEnum, stab,
  true_and, and_true, Bool.true_eq_false, Bool.false_eq_true, false_imp_iff, forall_const, true_imp_iff, and_self, decide_eq_true_eq, decide_eq_false_iff_not, Bool.not_eq_true', Bool.not_eq_false'])
namespace CD
/- _law_wholes: 0:value 1:entry -/
/- _law_after: 0:rules 1:number 2:many 3:k -/
end CD
end TL

namespace TL
open PySem L2
theorem isC_o {c c' : Nat} {ds : List D} {k} : opIsC c (.obj c' ds) k = (c' = c ∧ k (.sh (.bl true))) := rfl
theorem lr1_i {j : Int} {k} : opLR1 (.int j) k = (RgOk 0 j ∧ k (.fr (.lst (rgD 0 j)))) := rfl
theorem lr2_i {i j : Int} {k} : opLR2 (.int i) (.int j) k = (RgOk i j ∧ k (.fr (.lst (rgD i j)))) := rfl
end TL

namespace TL
open PySem L2
local macro_rules | `(tactic| walk_at "sx") => `(tactic| simp only [sSeq, sNil, sSet, sFrz, frz_o, frz_sh, frz_s, sIf, sRet, sRetN, sPass, sBrk, sPar, sSub, sApp, sExpr, sAsg, sAug, sFld, sRevI, sPop, eLoc, eC, eUn, eBin, eAnd, eOr, eNot, eIf, eTup, eLst, dNil, dCons, tVal_eq, tstD_bl, tAndW, tOrW, tNotW, eFld_eq, eFldD_o, eProp, eMeth, eMeth0, eSl, pNone, pSome, sl_l,
  out_sh, out_fr, get_loc, get_sh, get_fr, getL_z, getL_o, getL_s, bound_z, bound_o, bound_s, isOwn_o, isOwn_s, pok_loc, pok_sh, pok_fr, stl_loc, stlS_sh, stlS_own, stl_sh, stl_fr, lay_fr, lay_sh, lay_loc, envOf, slotsOf, valN, ghOf, endK, resK, exMu, muN, List.cons_append, List.nil_append, List.append_nil, List.length_cons, List.length_nil, Nat.reduceAdd, Nat.reduceSub, List.replicate_succ, List.replicate_zero, List.replicate,
  List.getElem?_cons_zero, List.getElem?_cons_succ, List.getElem?_nil, List.set_cons_zero, List.set_cons_succ,
  add_ii, add_ss, add_ll, sub_ii, mul_ii, fdv_ii, fdvN_ii, mod_ii, modN_ii, pow_ii, lt_ii, le_ii, gt_ii, ge_ii, eq_ii, ne_ii, ix_li, ix_ti, neg_i, abs_i, int_i, int_b, max_ii, min_ii, len_l, len_t, list_l, list_t, rev_l, isi_int, isi_bl, isi_tup, isi_lst, isi_non, isN_i, isN_n, isN_t, isN_l, notN_i, notN_n, notN_t, notN_l, isTy,
  atI0, atI1, atI2, ixN0, ixN1, ixN2, some_inj_ex, isObj, setAt0, setAt1, setAt2, setAt3, restE, keepS, wipeE, ↓reduceIte, if_false, if_true,
  eCall, eCallP, eMake, pm, eTwo, dLit, eOwn2, eLenO, okLen, eMethP, eMakeP, isC_o, eRepL, lr1_i, lr2_i, List.filterMap_cons, List.filterMap_nil, agNil, agRo, agBo, agMu, agTm, callK, boIx, muIx, tms, argsK, upE, reown, hasBo, noTm, flatRo, noLstAll, noLst, noLsts, List.nodup_nil, List.nodup_cons, List.not_mem_nil, not_false_eq_true, Nat.zero_le, Nat.le_refl, Nat.reduceLeDiff, List.mem_cons, or_false, reduceCtorEq,
  gN, gTp, gCn, gNl, iR1, iR2, iLst, iTpl, iEnum, stab,
  true_and, and_true, Bool.true_eq_false, Bool.false_eq_true, false_imp_iff, forall_const, true_imp_iff, and_self, decide_eq_true_eq, decide_eq_false_iff_not, Bool.not_eq_true', Bool.not_eq_false'])
namespace MP
/-! ### draws -/
def sp_law_cell_at : FSpec := fun args kr _ => ∃ (ns : List Int) (k : Int), args = [.ro (encZs ns), .ro (.int k)] ∧ 0 ≤ k ∧ (∀ n ∈ ns, Bt 2000000 n) ∧ ∀ c, Bt 2000000 c → kr (.sh (.int c)) []
/- _law_cell_at: 0:script 1:k -/
def b_law_cell_at : SW := (sSeq (sIf (tVal (eBin opLt (eLoc 1) (eUn opLen (eLoc 0)))) (sRet (eBin opIx (eLoc 0) (eLoc 1))) sNil)
  (sRet (eC (.int 0))))
theorem sat_law_cell_at : Sat 2 sp_law_cell_at b_law_cell_at := by
  rintro args mus kr kx hm ⟨ns, k, rfl, hk0, hns, hk⟩
  obtain rfl := mus0 hm
  unfold b_law_cell_at
  walk_at "sx"
  simp only [List.length_map]
  refine ⟨fun h => ?_, fun h => hk 0 (by unfold Bt; decide)⟩
  rw [atI_int hk0 (by simpa using h)]
  simp only [List.getElem_map]
  exact ⟨_, rfl, hk _ (hns _ (List.getElem_mem _))⟩
def heldF (c : Int) : Int := 2 * (if c < 0 then -c else c) + (if c < 0 then 1 else 0)
def mixF (h k : Int) : Int := (((h + 1) * 86028157299999999999917 * (48271 + 977 * k * k) + 69621 * k) % 170141183460469231731687303715884105727 * (((h + 1) * 86028157299999999999917 * (48271 + 977 * k * k) + 69621 * k) % 170141183460469231731687303715884105727) + 40692 * k + 1) % 170141183460469231731687303715884105703 / 1024
def pickGo (h : Int) : Nat → Int → List Int → List Int
  | _, _, [] => []
  | k, r, s :: ss => (if 1000000000000000000 ≤ h then r else mixF h k) % s :: pickGo h (k + 1) (if 1000000000000000000 ≤ h then r / s else r) ss
def picksF (c : Int) (sizes : List Int) : List Int := pickGo (heldF c) 0 (heldF c - 1000000000000000000) sizes
theorem pickGo_len (h : Int) : ∀ (ss : List Int) (k : Nat) (r : Int), (pickGo h k r ss).length = ss.length
  | [], _, _ => rfl
  | s :: ss, k, r => by simp [pickGo, pickGo_len h ss]
theorem pickGo_at {h : Int} : ∀ {ss : List Int} {k : Nat} {r : Int} {i : Nat} {p s : Int}, (pickGo h k r ss)[i]? = some p → ss[i]? = some s → 0 < s → 0 ≤ p ∧ p < s
  | [], _, _, _, _, _, h, _, _ => by simp [pickGo] at h
  | s :: ss, k, r, 0, p, q, h1, h2, h0 => by
    simp [pickGo] at h1 h2
    subst h1; subst h2
    exact ⟨Int.emod_nonneg _ (by omega), Int.emod_lt_of_pos _ h0⟩
  | s :: ss, k, r, i + 1, p, q, h1, h2, h0 => by
    simp only [pickGo, List.getElem?_cons_succ] at h1 h2
    exact pickGo_at h1 h2 h0
theorem picksF_len (c : Int) (ss : List Int) : (picksF c ss).length = ss.length := pickGo_len _ _ _ _
/-- the i-th draw -/
def pkF (c : Int) (ss : List Int) (i : Nat) : Int := (picksF c ss).getD i 0
theorem pkF_some {c : Int} {ss : List Int} {i : Nat} (h : i < ss.length) : (picksF c ss)[i]? = some (pkF c ss i) := by
  have : i < (picksF c ss).length := by rw [picksF_len]; exact h
  unfold pkF
  rw [List.getD_eq_getElem?_getD, List.getElem?_eq_getElem this]
  rfl
theorem pkF_bd {c : Int} {ss : List Int} {i : Nat} {s : Int} (h : ss[i]? = some s) (h0 : 0 < s) : 0 ≤ pkF c ss i ∧ pkF c ss i < s :=
  pickGo_at (pkF_some (List.getElem?_eq_some_iff.mp h).1) h h0
theorem pkF_head (c s : Int) (ss tt : List Int) : pkF c (s :: ss) 0 = pkF c (s :: tt) 0 := rfl
theorem atI_pk {c : Int} {ss : List Int} {i : Int} (h0 : 0 ≤ i) (h : i.toNat < ss.length) : L2.atI ((picksF c ss).map D.int) i = some (.int (pkF c ss i.toNat)) := by
  have hl : ((picksF c ss).map D.int).length = ss.length := by rw [List.length_map, picksF_len]
  rw [atI_int h0 (by rw [hl]; omega)]
  have := pkF_some (c := c) h
  rw [List.getElem_map]
  obtain ⟨q, e⟩ := List.getElem?_eq_some_iff.mp this
  rw [e]
def sp_law_picks : FSpec := fun args kr _ => ∃ (c : Int) (ss : List Int), args = [.ro (.int c), .ro (encZs ss)] ∧ Bt 2000000 c ∧ (∀ s ∈ ss, 0 < s ∧ Bt 8000 s) ∧ ss.length ≤ 1000 ∧ kr (.fr (encZs (picksF c ss))) []
theorem heldF_bt {c : Int} (h : Bt 2000000 c) : Bt 2000100 (heldF c) := by
  unfold heldF
  have h1 := bt_abs h
  have h2 : Bt 2000002 (2 * (if c < 0 then -c else c)) := ((show Bt 2 2 by unfold Bt; decide).mul h1).mono (by omega)
  have h3 : Bt 2000002 (if c < 0 then 1 else 0 : Int) := by split <;> (refine Bt.mono (n := 40) (Bt.small ?_ ?_) (by omega)) <;> omega
  exact (h2.add h3).mono (by omega)
theorem heldF_nn (c : Int) : 0 ≤ heldF c := by unfold heldF; split <;> omega
/- _law_picks: 0:cell 1:sizes 2:held 3:rest 4:picks 5:k 6:stir -/
def b_law_picks : SW := (sSeq (sFrz 2 (sSet 2 (eBin opAdd (eBin opMul (eC (.int 2)) (eUn opAbs (eLoc 0))) (eUn opInt (eBin opLt (eLoc 0) (eC (.int 0)))))))
  (sSeq (sFrz 3 (sSet 3 (eBin opSub (eLoc 2) (eBin opPow (eC (.int 10)) (eC (.int 18))))))
  (sSeq (sSet 4 (eLst dNil))
  (sSeq (sFor (iR1 (dCons (eUn opLen (eLoc 1)) dNil)) (gN 5) (sSeq (sFrz 6 (sSet 6 (eBin opAdd (eBin opMul (eBin opMul (eBin opAdd (eLoc 2) (eC (.int 1))) (eC (.int 86028157299999999999917))) (eBin opAdd (eC (.int 48271)) (eBin opMul (eBin opMul (eC (.int 977)) (eLoc 5)) (eLoc 5)))) (eBin opMul (eC (.int 69621)) (eLoc 5)))))
  (sSeq (sFrz 6 (sSet 6 (eBin opMod (eUn opInt (eLoc 6)) (eC (.int 170141183460469231731687303715884105727)))))
  (sSeq (sFrz 6 (sSet 6 (eBin opFdv (eBin opMod (eUn opInt (eBin opAdd (eBin opAdd (eBin opMul (eLoc 6) (eLoc 6)) (eBin opMul (eC (.int 40692)) (eLoc 5))) (eC (.int 1)))) (eC (.int 170141183460469231731687303715884105703))) (eC (.int 1024)))))
  (sSeq (sIf (tVal (eBin opGe (eLoc 2) (eBin opPow (eC (.int 10)) (eC (.int 18))))) (sSeq (sSet 6 (eLoc 3))
  (sFrz 3 (sSet 3 (eBin opFdv (eLoc 3) (eBin opIx (eLoc 1) (eLoc 5)))))) sNil)
  (sApp 4 (eBin opMod (eUn opInt (eLoc 6)) (eBin opIx (eLoc 1) (eLoc 5)))))))))
  (sRet (eLoc 4))))))
theorem sat_law_picks : Sat 7 sp_law_picks b_law_picks := by
  rintro args mus kr kx hm ⟨c, ss, rfl, hc, hss, hl, hk⟩
  obtain rfl := mus0 hm
  have cp : CPow 10 18 := by unfold CPow; decide
  have e18 : (10 : Int) ^ (Int.toNat 18) = 1000000000000000000 := by decide
  have hh := heldF_bt hc
  have hh0 := heldF_nn c
  unfold b_law_picks
  walk_at "sx"
  rw [e18]
  refine ⟨mulOk_small (by decide) ((bt_abs hc).mono (by omega)), cp, fun a4 => ?_⟩
  rw [show 2 * (if c < 0 then -c else c) + (if c < 0 then (1 : Int) else 0) = heldF c from rfl]
  unfold picksF at hk
  generalize heldF c = h at *
  unfold sFor
  walk_at "sx"
  simp only [List.length_map]
  have eend : ∀ n : Nat, ((n : Int)).toNat = n := fun n => by omega
  rw [eend]
  refine ⟨by omega, fun i ρ => ∃ (acc : List Int) (r : Int) (e5 e6 : Sl), ρ = [.sh (.int c), .sh (encZs ss), .sh (.int h), .sh (.int r), .own false a4 (encZs acc), e5, e6] ∧ acc.length = i ∧ Bt 2000200 r ∧ acc ++ pickGo h i r (ss.drop i) = pickGo h 0 (h - 1000000000000000000) ss,
    ⟨[], _, _, _, rfl, rfl, ?_, by simp⟩, fun _ _ _ _ => trivial, ?_, ?_⟩
  · exact ((hh.sub (Bt.mono (n := 100) (by unfold Bt; decide) (by omega))).mono (by omega))
  · rintro i d ρ hi rfl ⟨acc, r, e5, e6, rfl, hal, hr, hgo⟩
    obtain ⟨s, hs⟩ : ∃ s, ss[i]? = some s := ⟨_, List.getElem?_eq_getElem hi⟩
    obtain ⟨s0, sb⟩ := hss s (List.mem_of_getElem? hs)
    have bi : Bt 40 (i : Int) := Bt.small (by omega) (by omega)
    have b1 : Bt 2000101 (h + 1) := hh.add (Bt.mono (n := 40) (Bt.small (by omega) (by omega)) (by omega))
    have b2 : Bt 2000201 ((h + 1) * 86028157299999999999917) := b1.mul (m := 100) (by unfold Bt; decide)
    have b3 : Bt 60 (977 * (i : Int)) := ((show Bt 20 977 by unfold Bt; decide).mul bi).mono (by omega)
    have b4 : Bt 100 (977 * (i : Int) * i) := (b3.mul bi).mono (by omega)
    have b5 : Bt 101 (48271 + 977 * (i : Int) * i) := (show Bt 100 48271 by unfold Bt; decide).add b4
    have m128 : ∀ v M : Int, 0 < M → M ≤ 170141183460469231731687303715884105727 → Bt 128 (v % M) := fun v M h1 h2 => by
      have q0 := Int.emod_nonneg v (show M ≠ 0 by omega)
      have q1 := Int.emod_lt_of_pos v h1
      exact Bt.of (by omega) (by omega) (by omega)
    have q1 := m128 ((h + 1) * 86028157299999999999917 * (48271 + 977 * (i : Int) * i) + 69621 * i) 170141183460469231731687303715884105727 (by omega) (by omega)
    have eix : L2.atI (ss.map D.int) i = some (.int s) := by
      have hi' : i < ss.length := hi
      rw [atI_int (by omega) (by simp; omega)]
      obtain ⟨q, e⟩ := List.getElem?_eq_some_iff.mp hs
      simp only [List.getElem_map, Int.toNat_natCast, e]
    have hdrop : ss.drop i = s :: ss.drop (i + 1) := by
      obtain ⟨q, e⟩ := List.getElem?_eq_some_iff.mp hs
      rw [← e, List.drop_eq_getElem_cons q]
    rw [hdrop] at hgo
    have dks : DivOk s := ⟨s0, Nat.lt_of_lt_of_le sb (by decide)⟩
    walk_at "sx"
    simp only [eix, some_inj_ex]
    walk_at "sx"
    refine ⟨b1.mulOk (m := 100) (by unfold Bt; decide) (by omega), (show Bt 20 977 by unfold Bt; decide).mulOk bi (by omega), b3.mulOk bi (by omega), b2.mulOk b5 (by omega), (show Bt 20 69621 by unfold Bt; decide).mulOk bi (by omega), by omega,
      q1.mulOk q1 (by omega), (show Bt 20 40692 by unfold Bt; decide).mulOk bi (by omega), by omega, ⟨by omega, by decide⟩, cp, ?_⟩
    refine ⟨fun hge => ⟨dks, ⟨_, _, _, rfl⟩, .int s, eix, ?_⟩,
      fun hlt => ⟨⟨_, _, _, rfl⟩, s0, line_big (by simp; omega), acc ++ [mixF h i % s], r, .sh (.int i), .sh (.int (mixF h i)), ?_, by simp; omega, hr, ?_⟩⟩
    · walk_at "sx"
      refine ⟨s0, line_big (by simp; omega), acc ++ [r % s], r / s, .sh (.int i), .sh (.int r), by simp only [encZs, List.map_append, List.map_cons, List.map_nil], by simp; omega, hr.le (Int.natAbs_ediv_le_natAbs _ _), ?_⟩
      rw [← hgo]
      simp only [pickGo, if_pos hge, List.append_assoc, List.cons_append, List.nil_append]
    · simp only [encZs, List.map_append, List.map_cons, List.map_nil]; rfl
    · rw [← hgo]
      simp only [pickGo, if_neg hlt, List.append_assoc, List.cons_append, List.nil_append]
  · rintro ρ ⟨acc, r, e5, e6, rfl, hal, hr, hgo⟩
    walk_at "sx"
    rw [List.drop_eq_nil_of_le (by omega)] at hgo
    simp only [pickGo, List.append_nil] at hgo
    rw [hgo]
    exact hk
end MP
end TL

namespace TL
open PySem L2
local macro_rules | `(tactic| walk_at "sx") => `(tactic| simp only [sSeq, sNil, sSet, sFrz, frz_o, frz_sh, frz_s, sIf, sRet, sRetN, sPass, sBrk, sPar, sSub, sApp, sExpr, sAsg, sAug, sFld, sRevI, sPop, eLoc, eC, eUn, eBin, eAnd, eOr, eNot, eIf, eTup, eLst, dNil, dCons, tVal_eq, tstD_bl, tAndW, tOrW, tNotW, eFld_eq, eFldD_o, eProp, eMeth, eMeth0, eSl, pNone, pSome, sl_l,
  out_sh, out_fr, get_loc, get_sh, get_fr, getL_z, getL_o, getL_s, bound_z, bound_o, bound_s, isOwn_o, isOwn_s, pok_loc, pok_sh, pok_fr, stl_loc, stlS_sh, stlS_own, stl_sh, stl_fr, lay_fr, lay_sh, lay_loc, envOf, slotsOf, valN, ghOf, endK, resK, exMu, muN, List.cons_append, List.nil_append, List.append_nil, List.length_cons, List.length_nil, Nat.reduceAdd, Nat.reduceSub, List.replicate_succ, List.replicate_zero, List.replicate,
  List.getElem?_cons_zero, List.getElem?_cons_succ, List.getElem?_nil, List.set_cons_zero, List.set_cons_succ,
  add_ii, add_ss, add_ll, sub_ii, mul_ii, fdv_ii, fdvN_ii, mod_ii, modN_ii, pow_ii, lt_ii, le_ii, gt_ii, ge_ii, eq_ii, ne_ii, ix_li, ix_ti, neg_i, abs_i, int_i, int_b, max_ii, min_ii, len_l, len_t, list_l, list_t, rev_l, isi_int, isi_bl, isi_tup, isi_lst, isi_non, isN_i, isN_n, isN_t, isN_l, notN_i, notN_n, notN_t, notN_l, isTy,
  atI0, atI1, atI2, ixN0, ixN1, ixN2, some_inj_ex, isObj, setAt0, setAt1, setAt2, setAt3, restE, keepS, wipeE, ↓reduceIte, if_false, if_true,
  eCall, eCallP, eMake, pm, eTwo, dLit, eOwn2, eLenO, okLen, eMethP, eMakeP, isC_o, eRepL, lr1_i, lr2_i, List.filterMap_cons, List.filterMap_nil, agNil, agRo, agBo, agMu, agTm, callK, boIx, muIx, tms, argsK, upE, reown, hasBo, noTm, flatRo, noLstAll, noLst, noLsts, List.nodup_nil, List.nodup_cons, List.not_mem_nil, not_false_eq_true, Nat.zero_le, Nat.le_refl, Nat.reduceLeDiff, List.mem_cons, or_false, reduceCtorEq,
  gN, gTp, gCn, gNl, iR1, iR2, iLst, iTpl, iEnum, stab,
  true_and, and_true, Bool.true_eq_false, Bool.false_eq_true, false_imp_iff, forall_const, true_imp_iff, and_self, decide_eq_true_eq, decide_eq_false_iff_not, Bool.not_eq_true', Bool.not_eq_false'])
namespace MP
/-! ### rules of a map -/
structure RowsOk (base : Nat) (beside : Int) (rs : List (Int × Int)) : Prop where
  len : rs.length = base
  ok : ∀ (i : Nat) (p : Int × Int), rs[i]? = some p → RuleOk base i p ∧ Int.gcd p.1 (base * beside) = 1 ∧ p.1 ≤ 1000 ∧ Bt 600 p.2
theorem RowsOk.rules {base : Nat} {beside : Int} {rs : List (Int × Int)} (h : RowsOk base beside rs) : RulesOk base rs := ⟨h.len, fun i p e => ⟨(h.ok i p e).1, (h.ok i p e).2.2⟩⟩
theorem RowsOk.map {base : Nat} {beside : Int} {rs : List (Int × Int)} (h : RowsOk base beside rs) (h2 : 2 ≤ base) (h6 : base ≤ 100000) : MapOk rs := h.rules.map h2 h6
def flat2 (x y : Int) (n : Nat) : List Int := (List.replicate n [x, y]).flatten
theorem flat2_map (x y : Int) (n : Nat) : (List.replicate n [D.int x, D.int y]).flatten = (flat2 x y n).map D.int := by
  unfold flat2
  rw [List.map_flatten, List.map_replicate]
  rfl
theorem flat2_len (x y : Int) : ∀ n, (flat2 x y n).length = 2 * n
  | 0 => rfl
  | n + 1 => by
    have := flat2_len x y n
    unfold flat2 at this ⊢
    rw [List.replicate_succ, List.flatten_cons, List.length_append, this]
    simp; omega
theorem flat2_at (x y : Int) : ∀ {n k : Nat}, k < n → (flat2 x y n)[2 * k]? = some x ∧ (flat2 x y n)[2 * k + 1]? = some y
  | 0, _, h => by omega
  | n + 1, 0, _ => by unfold flat2; rw [List.replicate_succ, List.flatten_cons]; exact ⟨rfl, rfl⟩
  | n + 1, k + 1, h => by
    have ih := flat2_at x y (n := n) (k := k) (by omega)
    have e : flat2 x y (n + 1) = x :: y :: flat2 x y n := by unfold flat2; rw [List.replicate_succ, List.flatten_cons]; rfl
    rw [e, show 2 * (k + 1) = 2 * k + 1 + 1 by omega]
    simpa using ih
theorem flat2_mem {x y z : Int} {n : Nat} (h : z ∈ flat2 x y n) : z = x ∨ z = y := by
  unfold flat2 at h
  obtain ⟨l, hl, hz⟩ := List.mem_flatten.mp h
  rw [List.eq_of_mem_replicate hl] at hz
  simpa using hz
def baseF (c most : Int) : Int := 2 + pkF c [most - 1] 0
theorem baseF_bd {c most : Int} (h : 2 ≤ most) : 2 ≤ baseF c most ∧ baseF c most ≤ most := by
  unfold baseF
  have := pkF_bd (c := c) (ss := [most - 1]) (i := 0) rfl (by omega)
  omega
def sp_law_rows : FSpec := fun args kr _ => ∃ c most beside far : Int, args = [.ro (.int c), .ro (.int most), .ro (.int beside), .ro (.int far)] ∧ Bt 2000000 c ∧ 2 ≤ most ∧ most ≤ 60 ∧ 1 ≤ beside ∧ beside ≤ 100000 ∧ 1 ≤ far ∧ Bt 500 far ∧
  ∀ rs, RowsOk (baseF c most).toNat beside rs → kr (.fr (encRs rs)) []
theorem gcd_one_of {a b : Int} (ha : 1 ≤ a) (h : ¬ (1 < (Int.gcd a b : Int))) : Int.gcd a b = 1 := by
  have := Int.gcd_pos_of_ne_zero_left b (show a ≠ 0 by omega)
  omega
/- _law_rows: 0:cell 1:most 2:beside 3:far 4:picks 5:base 6:reach 7:rows 8:k 9:a -/
def b_law_rows_t4 : SW := (sSeq (sFor (iR1 (dCons (eLoc 5) dNil)) (gN 8) (sSeq (sFrz 9 (sSet 9 (eBin opAdd (eC (.int 1)) (eBin opMod (eBin opIx (eLoc 4) (eBin opAdd (eC (.int 2)) (eBin opMul (eC (.int 2)) (eLoc 8)))) (eBin opIx (eLoc 6) (eC (.int 0)))))))
  (sSeq (sWhile (tVal (eBin opGt (eCall 2 sp_law_gcd (agRo (eLoc 9) (agRo (eBin opMul (eLoc 5) (eLoc 2)) agNil))) (eC (.int 1)))) (sFrz 9 (sSet 9 (eBin opSub (eLoc 9) (eC (.int 1))))))
  (sApp 7 (eTup (dCons (eLoc 9) (dCons (eBin opSub (eBin opMul (eLoc 5) (eBin opSub (eBin opMod (eBin opIx (eLoc 4) (eBin opAdd (eC (.int 3)) (eBin opMul (eC (.int 2)) (eLoc 8)))) (eBin opIx (eLoc 6) (eC (.int 1)))) (eBin opFdv (eBin opIx (eLoc 6) (eC (.int 1))) (eC (.int 2))))) (eBin opMul (eLoc 9) (eLoc 8))) dNil)))))))
  (sRet (eLoc 7)))
def b_law_rows_t1 : SW := (sSeq (sFrz 5 (sSet 5 (eBin opAdd (eC (.int 2)) (eBin opIx (eLoc 4) (eC (.int 0))))))
  (sSeq (sFrz 6 (sSet 6 (eBin opIx (eLst (dLit [(.tup [(.int 3), (.int 5)]), (.tup [(.int 20), (.int 9)]), (.tup [(.int 1000), (.int 41)])] (dCons (eTup (dCons (eC (.int 1000)) (dCons (eBin opAdd (eBin opMul (eC (.int 2)) (eLoc 3)) (eC (.int 1))) dNil))) dNil))) (eBin opIx (eLoc 4) (eC (.int 1))))))
  (sSeq (sSet 7 (eLst dNil))
  b_law_rows_t4)))
def b_law_rows : SW := (sSeq (sFrz 4 (sSet 4 (eCall 2 sp_law_picks (agRo (eLoc 0) (agRo (eBin opAdd (eLst (dCons (eBin opSub (eLoc 1) (eC (.int 1))) (dCons (eC (.int 4)) dNil))) (eRepL 1 (eLst (dCons (eC (.int 1000)) (dCons (eBin opAdd (eBin opMul (eC (.int 2)) (eLoc 3)) (eC (.int 1))) dNil))))) agNil)))))
  b_law_rows_t1)
theorem sat_law_rows : Sat 10 sp_law_rows b_law_rows := by
  rintro args mus kr kx hm ⟨c, most, beside, far, rfl, hc, hm2, hm6, hb1, hb2, hf1, hfb, hk⟩
  obtain rfl := mus0 hm
  have bf : Bt 502 (2 * far) := ((show Bt 2 2 by unfold Bt; decide).mul hfb)
  have bf1 : Bt 503 (2 * far + 1) := bf.add (Bt.mono (n := 40) (Bt.small (by omega) (by omega)) (by omega))
  have m2 : MulOk 2 far := (show Bt 2 2 by unfold Bt; decide).mulOk hfb (by omega)
  unfold b_law_rows
  walk_at "sx"
  refine ⟨m2, ⟨by omega, by omega, Nat.le_of_lt (line_big (by omega))⟩, ?_⟩
  rw [flat2_map]
  refine ⟨Nat.le_of_lt (line_big (by rw [List.length_map, flat2_len]; omega)), c, (most - 1) :: 4 :: flat2 1000 (2 * far + 1) most.toNat, rfl, hc, ?_, by simp only [List.length_cons, flat2_len]; omega, ?_⟩
  · intro s hs
    rcases List.mem_cons.mp hs with rfl | hs
    · exact ⟨by omega, (Bt.small (by omega) (by omega)).mono (by omega)⟩
    · rcases List.mem_cons.mp hs with rfl | hs
      · exact ⟨by omega, by unfold Bt; decide⟩
      · rcases flat2_mem hs with rfl | rfl
        · exact ⟨by omega, by unfold Bt; decide⟩
        · exact ⟨by omega, bf1.mono (by omega)⟩
  · obtain ⟨ss, hss⟩ : ∃ ss, ss = (most - 1) :: 4 :: flat2 1000 (2 * far + 1) most.toNat := ⟨_, rfl⟩
    have ssl : ss.length = 2 + 2 * most.toNat := by rw [hss]; simp only [List.length_cons, flat2_len]; omega
    have s0 : pkF c ss 0 + 2 = baseF c most := by rw [hss, pkF_head c _ _ []]; unfold baseF; omega
    have s1 := pkF_bd (c := c) (ss := ss) (i := 1) (s := 4) (by rw [hss]; rfl) (by omega)
    have sk : ∀ k : Nat, k < most.toNat → (0 ≤ pkF c ss (2 + 2 * k) ∧ pkF c ss (2 + 2 * k) < 1000) ∧ 0 ≤ pkF c ss (3 + 2 * k) ∧ pkF c ss (3 + 2 * k) < 2 * far + 1 := fun k hk => by
      have := flat2_at 1000 (2 * far + 1) hk
      refine ⟨pkF_bd (s := 1000) ?_ (by omega), pkF_bd ?_ (by omega)⟩
      · rw [hss, show 2 + 2 * k = 2 * k + 1 + 1 by omega]; simpa using this.1
      · rw [hss, show 3 + 2 * k = 2 * k + 1 + 1 + 1 by omega]; simpa using this.2
    have hbb := baseF_bd (c := c) (most := most) hm2
    rw [← hss]
    walk_at "sx"
    unfold b_law_rows_t1
    walk_at "sx"
    have e0 : L2.atI ((picksF c ss).map D.int) 0 = some (.int (pkF c ss 0)) := atI_pk (by omega) (by rw [ssl]; simp; omega)
    have e1 : L2.atI ((picksF c ss).map D.int) 1 = some (.int (pkF c ss 1)) := atI_pk (by omega) (by rw [ssl]; simp; omega)
    simp only [e0, e1, some_inj_ex]
    walk_at "sx"
    simp only [e1, some_inj_ex]
    rw [show 2 + pkF c ss 0 = baseF c most by omega]
    generalize baseF c most = bb at *
    obtain ⟨base, rfl⟩ := Int.eq_ofNat_of_zero_le (show 0 ≤ bb by omega)
    refine ⟨m2, ?_⟩
    have hre : ∃ r0 r1 : Int, (1 ≤ r0 ∧ r0 ≤ 1000) ∧ (1 ≤ r1 ∧ Bt 503 r1) ∧ L2.atI [D.tup [.int 3, .int 5], D.tup [.int 20, .int 9], D.tup [.int 1000, .int 41], D.tup [.int 1000, .int (2 * far + 1)]] (pkF c ss 1) = some (.tup [.int r0, .int r1]) := by
      have : pkF c ss 1 = 0 ∨ pkF c ss 1 = 1 ∨ pkF c ss 1 = 2 ∨ pkF c ss 1 = 3 := by omega
      rcases this with h | h | h | h <;> rw [h]
      · exact ⟨3, 5, by omega, ⟨by omega, by unfold Bt; decide⟩, rfl⟩
      · exact ⟨20, 9, by omega, ⟨by omega, by unfold Bt; decide⟩, rfl⟩
      · exact ⟨1000, 41, by omega, ⟨by omega, by unfold Bt; decide⟩, rfl⟩
      · exact ⟨1000, 2 * far + 1, by omega, ⟨by omega, bf1⟩, rfl⟩
    obtain ⟨r0, r1, hr0, hr1, ere⟩ := hre
    refine ⟨_, ere, ?_⟩
    intro a7
    unfold b_law_rows_t4
    unfold sFor
    walk_at "sx"
    refine ⟨by omega, fun i ρ => ∃ (rs : List (Int × Int)) (e8 e9 : Sl), ρ = [.sh (.int c), .sh (.int most), .sh (.int beside), .sh (.int far), .sh (encZs (picksF c ss)), .sh (.int base), .sh (.tup [.int r0, .int r1]), .own false a7 (encRs rs), e8, e9] ∧ rs.length = i ∧
      (∀ (j : Nat) (p : Int × Int), rs[j]? = some p → RuleOk base j p ∧ Int.gcd p.1 (base * beside) = 1 ∧ p.1 ≤ 1000 ∧ Bt 600 p.2), ⟨[], _, _, rfl, rfl, by simp⟩, fun _ _ _ _ => trivial, ?_, ?_⟩
    · rintro i d ρ hi rfl ⟨rs, e8, e9, rfl, hrl, hrs⟩
      have hi : i < base := by simpa using hi
      have q := sk i (by omega)
      have e2 : L2.atI ((picksF c ss).map D.int) (2 + 2 * (i : Int)) = some (.int (pkF c ss (2 + 2 * i))) := by
        rw [atI_pk (by omega) (by omega), show (2 + 2 * (i : Int)).toNat = 2 + 2 * i by omega]
      have e3 : L2.atI ((picksF c ss).map D.int) (3 + 2 * (i : Int)) = some (.int (pkF c ss (3 + 2 * i))) := by
        rw [atI_pk (by omega) (by omega), show (3 + 2 * (i : Int)).toNat = 3 + 2 * i by omega]
      have bi : Bt 40 (i : Int) := Bt.small (by omega) (by omega)
      have m2i : MulOk 2 (i : Int) := (show Bt 2 2 by unfold Bt; decide).mulOk bi (by omega)
      walk_at "sx"
      simp only [e2, some_inj_ex]
      walk_at "sx"
      have v0 := Int.emod_nonneg (pkF c ss (2 + 2 * i)) (show r0 ≠ 0 by omega)
      have v1 := Int.emod_lt_of_pos (pkF c ss (2 + 2 * i)) (show 0 < r0 by omega)
      refine ⟨m2i, by omega, fun m ρ => ∃ v : Int, ρ = [.sh (.int c), .sh (.int most), .sh (.int beside), .sh (.int far), .sh (encZs (picksF c ss)), .sh (.int base), .sh (.tup [.int r0, .int r1]), .own false a7 (encRs rs), .sh (.int i), .sh (.int v)] ∧ 1 ≤ v ∧ v ≤ 1000 ∧ m = v.toNat,
        ⟨_, 1 + pkF c ss (2 + 2 * i) % r0, rfl, by omega, by omega, rfl⟩, ?_⟩
      rintro m ρ ⟨v, rfl, hv1, hv2, rfl⟩
      walk_at "sx"
      have bb0 : Bt 40 (base : Int) := Bt.small (by omega) (by omega)
      refine ⟨bb0.mulOk (Bt.small (x := beside) (by omega) (by omega)) (by omega), v, base * beside, rfl, ?_⟩
      walk_at "sx"
      refine ⟨fun h => ?_, fun h => ?_⟩
      · have : v ≠ 1 := by rintro rfl; simp at h
        exact ⟨_, by omega, v - 1, rfl, by omega, by omega, rfl⟩
      · have hg := gcd_one_of hv1 h
        simp only [e3, some_inj_ex]
        walk_at "sx"
        have w0 := Int.emod_nonneg (pkF c ss (3 + 2 * i)) (show r1 ≠ 0 by omega)
        have w1 := Int.emod_lt_of_pos (pkF c ss (3 + 2 * i)) (show 0 < r1 by omega)
        have d0 : 0 ≤ r1 / 2 := Int.ediv_nonneg (by omega) (by omega)
        have d1 : r1 / 2 ≤ r1 := Int.ediv_le_self _ (by omega)
        have bw : Bt 504 (pkF c ss (3 + 2 * i) % r1 - r1 / 2) := (hr1.2.le (by omega)).sub (hr1.2.le (by omega))
        have bv : Bt 40 v := Bt.small (by omega) (by omega)
        have b5 : Bt 600 ((base : Int) * (pkF c ss (3 + 2 * i) % r1 - r1 / 2) - v * i) := (((bb0.mul bw).mono (by omega : _ ≤ 560)).sub ((bv.mul bi).mono (by omega))).mono (by omega)
        refine ⟨⟨_, _, _, rfl⟩, m2i, by omega, ⟨by omega, by decide⟩, bb0.mulOk bw (by omega), bv.mulOk bi (by omega), line_big (by simp; omega), rs ++ [(v, (base : Int) * (pkF c ss (3 + 2 * i) % r1 - r1 / 2) - v * i)], .sh (.int i), .sh (.int v),
          by simp only [encRs, List.map_append, List.map_cons, List.map_nil], by simp; omega, fun j p hp => ?_⟩
        rcases Nat.lt_or_ge j rs.length with h | h
        · rw [List.getElem?_append_left h] at hp
          exact hrs j p hp
        · rw [List.getElem?_append_right h] at hp
          have e : j - rs.length = 0 := by
            rcases Nat.eq_zero_or_pos (j - rs.length) with h | h
            · exact h
            · rw [List.getElem?_eq_none (by simp only [List.length_cons, List.length_nil]; omega)] at hp; cases hp
          rw [e] at hp
          cases hp
          have : j = i := by omega
          subst this
          refine ⟨⟨hv1, ?_, rule_fit⟩, hg, hv2, b5⟩
          have : Int.gcd v base ∣ Int.gcd v (base * beside) := Int.gcd_dvd_gcd_of_dvd_right _ (Int.dvd_mul_right _ _)
          rw [hg] at this
          exact Nat.dvd_one.mp this
    · rintro ρ ⟨rs, e8, e9, rfl, hrl, hrs⟩
      walk_at "sx"
      exact hk rs ⟨by simpa using hrl, by simpa using hrs⟩
/-! ### the map's methods -/
/- Map_len: 0:self -/
/- Map_eq: 0:self 1:other -/
def ruleF (rs : List (Int × Int)) (n : Int) : Int × Int := ruleAt rs (n % rs.length)
theorem ruleAt_some {rs : List (Int × Int)} {e : Int} (h0 : 0 ≤ e) (h : e < rs.length) : rs[e.toNat]? = some (ruleAt rs e) := by
  unfold ruleAt
  have : e.toNat < rs.length := by omega
  rw [List.getElem?_eq_getElem this, List.getD_eq_getElem?_getD, List.getElem?_eq_getElem this]
  rfl
theorem atI_rule {rs : List (Int × Int)} {e : Int} (h0 : 0 ≤ e) (h : e < rs.length) : L2.atI (rs.map encR) e = some (encR (ruleAt rs e)) := by
  have hl : (rs.map encR).length = rs.length := List.length_map _
  rw [atI_int h0 (by rw [hl]; exact h), List.getElem_map]
  have := ruleAt_some h0 h
  obtain ⟨q, e⟩ := List.getElem?_eq_some_iff.mp this
  rw [e]
theorem ruleF_some {rs : List (Int × Int)} {n : Int} (h : 0 < (rs.length : Int)) : rs[(n % rs.length).toNat]? = some (ruleF rs n) := ruleAt_some (Int.emod_nonneg _ (by omega)) (Int.emod_lt_of_pos _ h)
theorem atI_ruleF {rs : List (Int × Int)} {n : Int} (h : 0 < (rs.length : Int)) : L2.atI (rs.map encR) (n % rs.length) = some (encR (ruleF rs n)) := atI_rule (Int.emod_nonneg _ (by omega)) (Int.emod_lt_of_pos _ h)
/- Map_rule_of: 0:self 1:number -/
/-! ### small defs of the laws -/
def numF (c b : Int) : Int := if c < 0 then -((if c < 0 then -c else c) % b) else (if c < 0 then -c else c) % b
def sp_law_number : FSpec := fun args kr _ => ∃ c b : Int, args = [.ro (.int c), .ro (.int b)] ∧ 0 < b ∧ kr (.sh (.int (numF c b))) []
/- _law_number: 0:cell 1:bound 2:size -/
def b_law_number : SW := (sSeq (sFrz 2 (sSet 2 (eBin opMod (eUn opAbs (eLoc 0)) (eLoc 1))))
  (sSeq (sIf (tVal (eBin opLt (eLoc 0) (eC (.int 0)))) (sRet (eUn opNeg (eLoc 2))) sNil)
  (sRet (eLoc 2))))
theorem sat_law_number : Sat 3 sp_law_number b_law_number := by
  rintro args mus kr kx hm ⟨c, b, rfl, h, hk⟩
  obtain rfl := mus0 hm
  unfold b_law_number
  walk_at "sx"
  unfold numF at hk
  refine ⟨h, fun hc => ?_, fun hc => ?_⟩
  · rw [if_pos hc] at hk; exact hk
  · rw [if_neg hc] at hk; exact hk
theorem numF_bt {c b : Int} {n : Nat} (h : 0 < b) (hb : Bt n b) : Bt n (numF c b) := by
  unfold numF
  generalize (if c < 0 then -c else c) = v
  have h1 := Int.emod_nonneg v (show b ≠ 0 by omega)
  have h2 := Int.emod_lt_of_pos v h
  split
  · exact (hb.le (by omega)).neg
  · exact hb.le (by omega)
def sp_law_whole : FSpec := fun args kr _ => ∃ n : Int, args = [.ro (.int n)] ∧ kr (.sh (.bl true)) []
/- _law_whole: 0:found -/
def b_law_whole : SW := (sRet (eAnd (eUn (opIsI .int) (eLoc 0)) (eNot (eUn (opIsI .bool) (eLoc 0)))))
theorem sat_law_whole : Sat 1 sp_law_whole b_law_whole := by
  rintro args mus kr kx hm ⟨n, rfl, hk⟩
  obtain rfl := mus0 hm
  unfold b_law_whole
  walk_at "sx"
  exact hk
/- _law_pair: 0:found -/
/- _law_pairs: 0:found 1:one -/
end MP
end TL

namespace TL
open PySem L2
local macro_rules | `(tactic| walk_at "sx") => `(tactic| simp only [sSeq, sNil, sSet, sFrz, frz_o, frz_sh, frz_s, sIf, sRet, sRetN, sPass, sBrk, sPar, sSub, sApp, sExpr, sAsg, sAug, sFld, sRevI, sPop, eLoc, eC, eUn, eBin, eAnd, eOr, eNot, eIf, eTup, eLst, dNil, dCons, tVal_eq, tstD_bl, tAndW, tOrW, tNotW, eFld_eq, eFldD_o, eProp, eMeth, eMeth0, eSl, pNone, pSome, sl_l,
  out_sh, out_fr, get_loc, get_sh, get_fr, getL_z, getL_o, getL_s, bound_z, bound_o, bound_s, isOwn_o, isOwn_s, pok_loc, pok_sh, pok_fr, stl_loc, stlS_sh, stlS_own, stl_sh, stl_fr, lay_fr, lay_sh, lay_loc, envOf, slotsOf, valN, ghOf, endK, resK, exMu, muN, List.cons_append, List.nil_append, List.append_nil, List.length_cons, List.length_nil, Nat.reduceAdd, Nat.reduceSub, List.replicate_succ, List.replicate_zero, List.replicate,
  List.getElem?_cons_zero, List.getElem?_cons_succ, List.getElem?_nil, List.set_cons_zero, List.set_cons_succ,
  add_ii, add_ss, add_ll, sub_ii, mul_ii, fdv_ii, fdvN_ii, mod_ii, modN_ii, pow_ii, lt_ii, le_ii, gt_ii, ge_ii, eq_ii, ne_ii, ix_li, ix_ti, neg_i, abs_i, int_i, int_b, max_ii, min_ii, len_l, len_t, list_l, list_t, rev_l, isi_int, isi_bl, isi_tup, isi_lst, isi_non, isN_i, isN_n, isN_t, isN_l, notN_i, notN_n, notN_t, notN_l, isTy,
  atI0, atI1, atI2, ixN0, ixN1, ixN2, some_inj_ex, isObj, setAt0, setAt1, setAt2, setAt3, restE, keepS, wipeE, ↓reduceIte, if_false, if_true,
  eCall, eCallP, eMake, pm, eTwo, dLit, eOwn2, eLenO, okLen, eMethP, eMakeP, isC_o, eRepL, lr1_i, lr2_i, List.filterMap_cons, List.filterMap_nil, agNil, agRo, agBo, agMu, agTm, callK, boIx, muIx, tms, argsK, upE, reown, hasBo, noTm, flatRo, noLstAll, noLst, noLsts, List.nodup_nil, List.nodup_cons, List.not_mem_nil, not_false_eq_true, Nat.zero_le, Nat.le_refl, Nat.reduceLeDiff, List.mem_cons, or_false, reduceCtorEq,
  gN, gTp, gCn, gNl, iR1, iR2, iLst, iTpl, iEnum, stab,
  true_and, and_true, Bool.true_eq_false, Bool.false_eq_true, false_imp_iff, forall_const, true_imp_iff, and_self, decide_eq_true_eq, decide_eq_false_iff_not, Bool.not_eq_true', Bool.not_eq_false'])
namespace MP
structure Gd (rs : List (Int × Int)) : Prop where
  ok : RulesOk rs.length rs
  two : 2 ≤ rs.length
  few : rs.length ≤ 60
theorem Gd.of {base : Nat} {beside : Int} {rs : List (Int × Int)} (h : RowsOk base beside rs) (h2 : 2 ≤ base) (h6 : base ≤ 60) : Gd rs := by
  have hl := h.len
  exact ⟨by rw [hl]; exact h.rules, by omega, by omega⟩
theorem Gd.map {rs : List (Int × Int)} (h : Gd rs) : MapOk rs := h.ok.map h.two (by have := h.few; omega)
theorem take_snoc {α : Type} {xs : List α} {i : Nat} {x : α} (h : xs[i]? = some x) : xs.take (i + 1) = xs.take i ++ [x] := by rw [List.take_succ, h]; rfl
namespace K02
/- law: 0:script 1:lists 2:made 3:cell 4:x 5:far 6:k 7:found 8:rows -/
end K02
end MP
end TL

namespace TL
open PySem L2
set_option maxHeartbeats 2000000
local macro_rules | `(tactic| walk_at "sx") => `(tactic| simp only [sSeq, sNil, sSet, sFrz, frz_o, frz_sh, frz_s, sIf, sRet, sRetN, sPass, sBrk, sPar, sSub, sApp, sExpr, sAsg, sAug, sFld, sRevI, sPop, eLoc, eC, eUn, eBin, eAnd, eOr, eNot, eIf, eTup, eLst, dNil, dCons, tVal_eq, tstD_bl, tAndW, tOrW, tNotW, eFld_eq, eFldD_o, eProp, eMeth, eMeth0, eSl, pNone, pSome, sl_l,
  out_sh, out_fr, get_loc, get_sh, get_fr, getL_z, getL_o, getL_s, bound_z, bound_o, bound_s, isOwn_o, isOwn_s, pok_loc, pok_sh, pok_fr, stl_loc, stlS_sh, stlS_own, stl_sh, stl_fr, lay_fr, lay_sh, lay_loc, envOf, slotsOf, valN, ghOf, endK, resK, exMu, muN, List.cons_append, List.nil_append, List.append_nil, List.length_cons, List.length_nil, Nat.reduceAdd, Nat.reduceSub, List.replicate_succ, List.replicate_zero, List.replicate,
  List.getElem?_cons_zero, List.getElem?_cons_succ, List.getElem?_nil, List.set_cons_zero, List.set_cons_succ,
  add_ii, add_ss, add_ll, sub_ii, mul_ii, fdv_ii, fdvN_ii, mod_ii, modN_ii, pow_ii, lt_ii, le_ii, gt_ii, ge_ii, eq_ii, ne_ii, ix_li, ix_ti, neg_i, abs_i, int_i, int_b, max_ii, min_ii, len_l, len_t, list_l, list_t, rev_l, isi_int, isi_bl, isi_tup, isi_lst, isi_non, isN_i, isN_n, isN_t, isN_l, notN_i, notN_n, notN_t, notN_l, isTy,
  atI0, atI1, atI2, ixN0, ixN1, ixN2, some_inj_ex, isObj, setAt0, setAt1, setAt2, setAt3, restE, keepS, wipeE, ↓reduceIte, if_false, if_true,
  eCall, eCallP, eMake, pm, eTwo, dLit, eOwn2, eLenO, okLen, eMethP, eMakeP, isC_o, eRepL, lr1_i, lr2_i, List.filterMap_cons, List.filterMap_nil, agNil, agRo, agBo, agMu, agTm, callK, boIx, muIx, tms, argsK, upE, reown, hasBo, noTm, flatRo, noLstAll, noLst, noLsts, List.nodup_nil, List.nodup_cons, List.not_mem_nil, not_false_eq_true, Nat.zero_le, Nat.le_refl, Nat.reduceLeDiff, List.mem_cons, or_false, reduceCtorEq,
  gN, gTp, gLs, gCn, gNl, iR1, iR2, iLst, iTpl, iEnum, stab,
  true_and, and_true, eq_self, List.length_map, decide_true, decide_false, Bool.not_true, Bool.not_false, not_true_eq_false, Bool.true_eq_false, Bool.false_eq_true, false_imp_iff, forall_const, true_imp_iff, and_self, decide_eq_true_eq, decide_eq_false_iff_not, Bool.not_eq_true', Bool.not_eq_false'])
namespace MP
/-! ### sums of products -/
theorem ruleF_ok {rs : List (Int × Int)} (h : MapOk rs) (x : Int) : RuleOk rs.length (x % rs.length) (ruleF rs x) := by
  have h2 := h.two
  have e := ruleF_some (rs := rs) (n := x) (by omega)
  have := h.ok _ _ e
  rw [Int.toNat_of_nonneg (Int.emod_nonneg _ (by omega))] at this
  exact this
theorem ruleF_div {rs : List (Int × Int)} (h : MapOk rs) (x : Int) : (rs.length : Int) * zStep rs x = (ruleF rs x).1 * x + (ruleF rs x).2 := by
  have h2 := h.two
  have hr := (ruleF_ok h x).2.2
  show (rs.length : Int) * (((ruleF rs x).1 * x + (ruleF rs x).2) / rs.length) = _
  have e := Int.emod_add_mul_ediv x rs.length
  have d : (rs.length : Int) ∣ (ruleF rs x).1 * x + (ruleF rs x).2 := by
    have d1 := Int.dvd_of_emod_eq_zero hr
    have : (ruleF rs x).1 * x + (ruleF rs x).2 = (ruleF rs x).1 * (x % rs.length) + (ruleF rs x).2 + (rs.length : Int) * ((ruleF rs x).1 * (x / rs.length)) := by grind
    rw [this]
    exact Int.dvd_add d1 (Int.dvd_mul_right _ _)
  exact Int.mul_ediv_cancel' d
theorem zStep_of {m y v : Int} (hm : 0 < m) (h : m * y = v) : v / m = y := by
  rw [← h]
  exact Int.mul_ediv_cancel_left _ (by omega)
/-! ### moved maps -/
structure Mv (rs : List (Int × Int)) (u c : Int) (ts : List (Int × Int)) : Prop where
  len : ts.length = rs.length
  at_ : ∀ (r : Nat) (p : Int × Int), rs[r]? = some p → ts[((u * r + c) % rs.length).toNat]? = some (p.1, u * p.2 - p.1 * c + rs.length * c)
theorem mod_surj {m u c j : Int} (hm : 0 < m) (hg : Int.gcd u m = 1) (j0 : 0 ≤ j) (j1 : j < m) : ∃ r : Nat, (r : Int) < m ∧ (u * r + c) % m = j := by
  obtain ⟨v, hv⟩ := inv_ex hm hg
  have r0 := Int.emod_nonneg ((j - c) * v) (show m ≠ 0 by omega)
  have r1 := Int.emod_lt_of_pos ((j - c) * v) hm
  refine ⟨((j - c) * v % m).toNat, by omega, ?_⟩
  rw [Int.toNat_of_nonneg r0]
  have e := Int.emod_add_mul_ediv ((j - c) * v) m
  obtain ⟨k, hk⟩ := hv
  have : u * ((j - c) * v % m) + c = j + m * ((j - c) * k - u * ((j - c) * v / m)) := by
    have e2 : (j - c) * v % m = (j - c) * v - m * ((j - c) * v / m) := by omega
    rw [e2]
    grind
  rw [this, Int.add_mul_emod_self_left]
  exact Int.emod_eq_of_lt j0 j1
theorem Mv.inv {rs : List (Int × Int)} {u c : Int} {ts : List (Int × Int)} (h : Mv rs u c ts) (hg : Int.gcd u rs.length = 1) {j : Nat} {q : Int × Int} (hq : ts[j]? = some q) : ∃ (r : Nat) (p : Int × Int), rs[r]? = some p ∧ (u * r + c) % rs.length = j ∧ q = (p.1, u * p.2 - p.1 * c + rs.length * c) := by
  have hj : j < ts.length := (List.getElem?_eq_some_iff.mp hq).1
  rw [h.len] at hj
  obtain ⟨r, r1, e⟩ := mod_surj (c := c) (j := j) (by omega) hg (by omega) (by omega)
  have hr : r < rs.length := by omega
  refine ⟨r, rs[r], List.getElem?_eq_getElem hr, e, ?_⟩
  have := h.at_ r _ (List.getElem?_eq_getElem hr)
  rw [e, Int.toNat_natCast, hq] at this
  exact Option.some.inj this
/-- bits of all rules -/
def Sz (n : Nat) (rs : List (Int × Int)) : Prop := ∀ p ∈ rs, Bt n p.1 ∧ Bt n p.2
theorem Sz.mono {n m : Nat} {rs : List (Int × Int)} (h : Sz n rs) (k : n ≤ m) : Sz m rs := fun p hp => ⟨(h p hp).1.mono k, (h p hp).2.mono k⟩
theorem mv_bt {n : Nat} {a b u c m : Int} (hu : Bt n u) (hc : Bt n c) (ha : Bt n a) (hb : Bt n b) (hm : Bt 40 m) : Bt (2 * n + 100) (u * b - a * c + m * c) := by
  have h1 : Bt (2 * n) (u * b) := (hu.mul hb).mono (by omega)
  have h2 : Bt (2 * n) (a * c) := (ha.mul hc).mono (by omega)
  have h3 : Bt (2 * n + 50) (m * c) := (hm.mul hc).mono (by omega)
  exact (((h1.sub h2).mono (by omega)).add h3).mono (by omega)
theorem Mv.map {rs : List (Int × Int)} {u c : Int} {ts : List (Int × Int)} {n : Nat} (h : Mv rs u c ts) (ho : MapOk rs) (hg : Int.gcd u rs.length = 1) (hu : Bt n u) (hc : Bt n c) (hs : Sz n rs) (hn : n ≤ 400000) : MapOk ts ∧ Sz (2 * n + 100) ts := by
  have h2 := ho.two
  have h6 := ho.few
  have szs : Sz (2 * n + 100) ts := fun q hq => by
    obtain ⟨j, hj⟩ := List.getElem?_of_mem hq
    obtain ⟨r, p, h1, h2, h3⟩ := h.inv hg hj
    have := hs p (List.mem_of_getElem? h1)
    rw [h3]
    exact ⟨this.1.mono (by omega), mv_bt hu hc this.1 this.2 (Bt.small (by omega) (by omega))⟩
  refine ⟨⟨by rw [h.len]; omega, by rw [h.len]; omega, fun j q hq => ?_, fun q hq => ⟨(szs q hq).1.mono (by omega), (szs q hq).2.mono (by omega)⟩⟩, szs⟩
  obtain ⟨r, p, h1, h2, h3⟩ := h.inv hg hq
  have hp := ho.ok r p h1
  rw [h.len, h3]
  refine ⟨hp.1, hp.2.1, ?_⟩
  apply Int.emod_eq_zero_of_dvd
  have e := Int.emod_add_mul_ediv (u * r + c) rs.length
  have d := Int.dvd_of_emod_eq_zero hp.2.2
  have : p.1 * (j : Int) + (u * p.2 - p.1 * c + rs.length * c) = u * (p.1 * r + p.2) + rs.length * (c - p.1 * ((u * r + c) / rs.length)) := by
    have e2 : (j : Int) = u * r + c - rs.length * ((u * r + c) / rs.length) := by omega
    rw [e2]; grind
  show (rs.length : Int) ∣ p.1 * (j : Int) + (u * p.2 - p.1 * c + rs.length * c)
  rw [this]
  exact Int.dvd_add (Int.dvd_mul_of_dvd_right d) (Int.dvd_mul_right _ _)
theorem Mv.step {rs : List (Int × Int)} {u c : Int} {ts : List (Int × Int)} (h : Mv rs u c ts) (ho : MapOk rs) (x : Int) : ruleF ts (u * x + c) = ((ruleF rs x).1, u * (ruleF rs x).2 - (ruleF rs x).1 * c + rs.length * c) ∧ zStep ts (u * x + c) = u * zStep rs x + c := by
  have h2 := ho.two
  have e := ruleF_some (rs := rs) (n := x) (by omega)
  have a := h.at_ _ _ e
  have x0 := Int.emod_nonneg x (show (rs.length : Int) ≠ 0 by omega)
  rw [Int.toNat_of_nonneg x0] at a
  have ei : (u * (x % rs.length) + c) % rs.length = (u * x + c) % rs.length := by
    have e := Int.emod_add_mul_ediv x rs.length
    have : u * x + c = u * (x % rs.length) + c + rs.length * (u * (x / rs.length)) := by grind
    rw [this, Int.add_mul_emod_self_left]
  rw [ei] at a
  have b := ruleF_some (rs := ts) (n := u * x + c) (by rw [h.len]; omega)
  rw [h.len] at b
  rw [a] at b
  have eq : ruleF ts (u * x + c) = ((ruleF rs x).1, u * (ruleF rs x).2 - (ruleF rs x).1 * c + rs.length * c) := (Option.some.inj b).symm
  refine ⟨eq, ?_⟩
  show ((ruleF ts (u * x + c)).1 * (u * x + c) + (ruleF ts (u * x + c)).2) / (ts.length : Int) = _
  rw [eq, h.len]
  refine zStep_of (by omega) ?_
  have d := ruleF_div ho x
  show (rs.length : Int) * (u * zStep rs x + c) = (ruleF rs x).1 * (u * x + c) + (u * (ruleF rs x).2 - (ruleF rs x).1 * c + rs.length * c)
  have : (rs.length : Int) * (u * zStep rs x + c) = u * (rs.length * zStep rs x) + rs.length * c := by grind
  rw [this, d]; grind
/- Map_moved: 0:self 1:u 2:c 3:rows 4:remainder 5:a 6:b -/
end MP
end TL

namespace TL
open PySem L2
set_option maxHeartbeats 2000000
local macro_rules | `(tactic| walk_at "sx") => `(tactic| simp only [sSeq, sNil, sSet, sFrz, frz_o, frz_sh, frz_s, sIf, sRet, sRetN, sPass, sBrk, sPar, sSub, sApp, sExpr, sAsg, sAug, sFld, sRevI, sPop, eLoc, eC, eUn, eBin, eAnd, eOr, eNot, eIf, eTup, eLst, dNil, dCons, tVal_eq, tstD_bl, tAndW, tOrW, tNotW, eFld_eq, eFldD_o, eProp, eMeth, eMeth0, eSl, pNone, pSome, sl_l,
  out_sh, out_fr, get_loc, get_sh, get_fr, getL_z, getL_o, getL_s, bound_z, bound_o, bound_s, isOwn_o, isOwn_s, pok_loc, pok_sh, pok_fr, stl_loc, stlS_sh, stlS_own, stl_sh, stl_fr, lay_fr, lay_sh, lay_loc, envOf, slotsOf, valN, ghOf, endK, resK, exMu, muN, List.cons_append, List.nil_append, List.append_nil, List.length_cons, List.length_nil, Nat.reduceAdd, Nat.reduceSub, List.replicate_succ, List.replicate_zero, List.replicate,
  List.getElem?_cons_zero, List.getElem?_cons_succ, List.getElem?_nil, List.set_cons_zero, List.set_cons_succ,
  add_ii, add_ss, add_ll, sub_ii, mul_ii, fdv_ii, fdvN_ii, mod_ii, modN_ii, pow_ii, lt_ii, le_ii, gt_ii, ge_ii, eq_ii, ne_ii, ix_li, ix_ti, neg_i, abs_i, int_i, int_b, max_ii, min_ii, len_l, len_t, list_l, list_t, rev_l, isi_int, isi_bl, isi_tup, isi_lst, isi_non, isN_i, isN_n, isN_t, isN_l, notN_i, notN_n, notN_t, notN_l, isTy,
  atI0, atI1, atI2, ixN0, ixN1, ixN2, some_inj_ex, isObj, setAt0, setAt1, setAt2, setAt3, restE, keepS, wipeE, ↓reduceIte, if_false, if_true,
  eCall, eCallP, eMake, pm, eTwo, dLit, eOwn2, eLenO, okLen, eMethP, eMakeP, isC_o, eRepL, lr1_i, lr2_i, List.filterMap_cons, List.filterMap_nil, agNil, agRo, agBo, agMu, agTm, callK, boIx, muIx, tms, argsK, upE, reown, hasBo, noTm, flatRo, noLstAll, noLst, noLsts, List.nodup_nil, List.nodup_cons, List.not_mem_nil, not_false_eq_true, Nat.zero_le, Nat.le_refl, Nat.reduceLeDiff, List.mem_cons, or_false, reduceCtorEq,
  gN, gTp, gLs, gCn, gNl, iR1, iR2, iLst, iTpl, iEnum, stab,
  true_and, and_true, eq_self, List.length_map, decide_true, decide_false, Bool.not_true, Bool.not_false, not_true_eq_false, Bool.true_eq_false, Bool.false_eq_true, false_imp_iff, forall_const, true_imp_iff, and_self, decide_eq_true_eq, decide_eq_false_iff_not, Bool.not_eq_true', Bool.not_eq_false'])
namespace MP
theorem zStep_bt {rs : List (Int × Int)} (h : MapOk rs) {n m : Nat} {x : Int} (hs : Sz n rs) (hx : Bt m x) : Bt (n + m + 1) (zStep rs x) := by
  have h2 := h.two
  have e := ruleF_some (rs := rs) (n := x) (by omega)
  have hp := hs _ (List.mem_of_getElem? e)
  refine Bt.le (y := (ruleF rs x).1 * x + (ruleF rs x).2) ?_ (Int.natAbs_ediv_le_natAbs _ _)
  have : 0 < m := Nat.zero_lt_of_lt hx
  exact ((hp.1.mul hx).mono (by omega)).add (hp.2.mono (by omega))
def sp_law_step : FSpec := fun args kr _ => ∃ (rs : List (Int × Int)) (x : Int), args = [.ro (encRs rs), .ro (.int x)] ∧ MapOk rs ∧ Bt 10000000 x ∧ kr (.sh (.int (zStep rs x))) []
/- _law_step: 0:rows 1:number 2:a 3:b -/
def b_law_step : SW := (sSeq (sAsg (eBin opIx (eLoc 0) (eBin opMod (eUn opInt (eLoc 1)) (eUn opLen (eLoc 0)))) (gTp 2 (gCn (gN 2) (gCn (gN 3) gNl))))
  (sRet (eBin opFdv (eBin opAdd (eBin opMul (eLoc 2) (eLoc 1)) (eLoc 3)) (eUn opLen (eLoc 0)))))
theorem sat_law_step : Sat 4 sp_law_step b_law_step := by
  rintro args mus kr kx hm ⟨rs, x, rfl, ho, hx, hk⟩
  obtain rfl := mus0 hm
  have h2 := ho.two
  have h6 := ho.few
  unfold b_law_step
  walk_at "sx"
  have e := ruleF_some (rs := rs) (n := x) (by omega)
  have hp := ho.sz _ (List.mem_of_getElem? e)
  refine ⟨by omega, _, atI_ruleF (by omega), ?_⟩
  walk_at "sx"
  exact ⟨hp.1.mulOk hx (by omega), ⟨by omega, (Bt.small (x := (rs.length : Int)) (by omega) (by omega)).mono (by omega)⟩, hk⟩
theorem sz600 {rs : List (Int × Int)} (h : Gd rs) : Sz 600 rs := fun p hp => by
  obtain ⟨i, hi⟩ := List.getElem?_of_mem hp
  have q := h.ok.ok i p hi
  exact ⟨(Bt.small (by have := q.1.1; omega) (by omega)).mono (by omega), q.2.2⟩
namespace K05
/- _law_multiplier: 0:cell 1:base 2:picks 3:shift -/
/- _law_rules: 0:rows 1:base 2:k 3:a 4:b -/
end K05
end MP
end TL

namespace TL
open PySem L2
set_option maxHeartbeats 2000000
local macro_rules | `(tactic| walk_at "sx") => `(tactic| simp only [sSeq, sNil, sSet, sFrz, frz_o, frz_sh, frz_s, sIf, sRet, sRetN, sPass, sBrk, sPar, sSub, sApp, sExpr, sAsg, sAug, sFld, sRevI, sPop, eLoc, eC, eUn, eBin, eAnd, eOr, eNot, eIf, eTup, eLst, dNil, dCons, tVal_eq, tstD_bl, tAndW, tOrW, tNotW, eFld_eq, eFldD_o, eProp, eMeth, eMeth0, eSl, pNone, pSome, sl_l,
  out_sh, out_fr, get_loc, get_sh, get_fr, getL_z, getL_o, getL_s, bound_z, bound_o, bound_s, isOwn_o, isOwn_s, pok_loc, pok_sh, pok_fr, stl_loc, stlS_sh, stlS_own, stl_sh, stl_fr, lay_fr, lay_sh, lay_loc, envOf, slotsOf, valN, ghOf, endK, resK, exMu, muN, List.cons_append, List.nil_append, List.append_nil, List.length_cons, List.length_nil, Nat.reduceAdd, Nat.reduceSub, List.replicate_succ, List.replicate_zero, List.replicate,
  List.getElem?_cons_zero, List.getElem?_cons_succ, List.getElem?_nil, List.set_cons_zero, List.set_cons_succ,
  add_ii, add_ss, add_ll, sub_ii, mul_ii, fdv_ii, fdvN_ii, mod_ii, modN_ii, pow_ii, lt_ii, le_ii, gt_ii, ge_ii, eq_ii, ne_ii, ix_li, ix_ti, neg_i, abs_i, int_i, int_b, max_ii, min_ii, len_l, len_t, list_l, list_t, rev_l, isi_int, isi_bl, isi_tup, isi_lst, isi_non, isN_i, isN_n, isN_t, isN_l, notN_i, notN_n, notN_t, notN_l, isTy,
  atI0, atI1, atI2, ixN0, ixN1, ixN2, some_inj_ex, isObj, setAt0, setAt1, setAt2, setAt3, restE, keepS, wipeE, ↓reduceIte, if_false, if_true,
  eCall, eCallP, eMake, pm, eTwo, dLit, eOwn2, eLenO, okLen, eMethP, eMakeP, isC_o, eRepL, lr1_i, lr2_i, List.filterMap_cons, List.filterMap_nil, agNil, agRo, agBo, agMu, agTm, callK, boIx, muIx, tms, argsK, upE, reown, hasBo, noTm, flatRo, noLstAll, noLst, noLsts, List.nodup_nil, List.nodup_cons, List.not_mem_nil, not_false_eq_true, Nat.zero_le, Nat.le_refl, Nat.reduceLeDiff, List.mem_cons, or_false, reduceCtorEq,
  gN, gTp, gLs, gCn, gNl, iR1, iR2, iLst, iTpl, iEnum, stab,
  true_and, and_true, eq_self, List.length_map, decide_true, decide_false, Bool.not_true, Bool.not_false, not_true_eq_false, Bool.true_eq_false, Bool.false_eq_true, false_imp_iff, forall_const, true_imp_iff, and_self, decide_eq_true_eq, decide_eq_false_iff_not, Bool.not_eq_true', Bool.not_eq_false'])
namespace MP
namespace K05
/- law: 0:script 1:rows 2:base 3:shift 4:more 5:one 6:found 7:told 8:kept 9:numbers 10:x 11:k 12:cell -/
end K05
end MP
end TL

namespace TL
open PySem L2
set_option maxHeartbeats 2000000
local macro_rules | `(tactic| walk_at "sx") => `(tactic| simp only [sSeq, sNil, sSet, sFrz, frz_o, frz_sh, frz_s, sIf, sRet, sRetN, sPass, sBrk, sPar, sSub, sApp, sExpr, sAsg, sAug, sFld, sRevI, sPop, eLoc, eC, eUn, eBin, eAnd, eOr, eNot, eIf, eTup, eLst, dNil, dCons, tVal_eq, tstD_bl, tAndW, tOrW, tNotW, eFld_eq, eFldD_o, eProp, eMeth, eMeth0, eSl, pNone, pSome, sl_l,
  out_sh, out_fr, get_loc, get_sh, get_fr, getL_z, getL_o, getL_s, bound_z, bound_o, bound_s, isOwn_o, isOwn_s, pok_loc, pok_sh, pok_fr, stl_loc, stlS_sh, stlS_own, stl_sh, stl_fr, lay_fr, lay_sh, lay_loc, envOf, slotsOf, valN, ghOf, endK, resK, exMu, muN, List.cons_append, List.nil_append, List.append_nil, List.length_cons, List.length_nil, Nat.reduceAdd, Nat.reduceSub, List.replicate_succ, List.replicate_zero, List.replicate,
  List.getElem?_cons_zero, List.getElem?_cons_succ, List.getElem?_nil, List.set_cons_zero, List.set_cons_succ,
  add_ii, add_ss, add_ll, sub_ii, mul_ii, fdv_ii, fdvN_ii, mod_ii, modN_ii, pow_ii, lt_ii, le_ii, gt_ii, ge_ii, eq_ii, ne_ii, ix_li, ix_ti, neg_i, abs_i, int_i, int_b, max_ii, min_ii, len_l, len_t, list_l, list_t, rev_l, isi_int, isi_bl, isi_tup, isi_lst, isi_non, isN_i, isN_n, isN_t, isN_l, notN_i, notN_n, notN_t, notN_l, isTy,
  atI0, atI1, atI2, ixN0, ixN1, ixN2, some_inj_ex, isObj, setAt0, setAt1, setAt2, setAt3, restE, keepS, wipeE, ↓reduceIte, if_false, if_true,
  eCall, eCallP, eMake, pm, eTwo, dLit, eOwn2, eLenO, okLen, eMethP, eMakeP, isC_o, eRepL, lr1_i, lr2_i, List.filterMap_cons, List.filterMap_nil, agNil, agRo, agBo, agMu, agTm, callK, boIx, muIx, tms, argsK, upE, reown, hasBo, noTm, flatRo, noLstAll, noLst, noLsts, List.nodup_nil, List.nodup_cons, List.not_mem_nil, not_false_eq_true, Nat.zero_le, Nat.le_refl, Nat.reduceLeDiff, List.mem_cons, or_false, reduceCtorEq,
  gN, gTp, gLs, gCn, gNl, iR1, iR2, iLst, iTpl, iEnum, stab,
  true_and, and_true, eq_self, List.length_map, decide_true, decide_false, Bool.not_true, Bool.not_false, not_true_eq_false, Bool.true_eq_false, Bool.false_eq_true, false_imp_iff, forall_const, true_imp_iff, and_self, decide_eq_true_eq, decide_eq_false_iff_not, Bool.not_eq_true', Bool.not_eq_false'])
namespace MP
theorem Mv.comp {rs ts us : List (Int × Int)} {u c v d : Int} (h : Mv rs u c ts) (k : Mv ts v d us) (hm : 0 < rs.length) : Mv rs (u * v) (v * c + d) us := by
  refine ⟨by rw [k.len, h.len], fun r p hp => ?_⟩
  have a := h.at_ r p hp
  have b := k.at_ _ _ a
  have r0 := Int.emod_nonneg (u * r + c) (show (rs.length : Int) ≠ 0 by omega)
  rw [h.len, Int.toNat_of_nonneg r0] at b
  have ei : (v * ((u * r + c) % rs.length) + d) % rs.length = (u * v * r + (v * c + d)) % rs.length := by
    have e := Int.emod_add_mul_ediv (u * r + c) rs.length
    have : u * v * r + (v * c + d) = v * ((u * r + c) % rs.length) + d + rs.length * (v * ((u * r + c) / rs.length)) := by
      have e2 : (u * r + c) % rs.length = u * r + c - rs.length * ((u * r + c) / rs.length) := by omega
      rw [e2]; grind
    rw [this, Int.add_mul_emod_self_left]
  rw [ei] at b
  rw [b]
  congr 1
  have : v * (u * p.2 - p.1 * c + rs.length * c) - p.1 * d + rs.length * d = u * v * p.2 - p.1 * (v * c + d) + rs.length * (v * c + d) := by grind
  show (p.1, _) = (p.1, _)
  rw [← this]
theorem gcd_mul_one {a b m : Int} (h : Int.gcd a m = 1) (k : Int.gcd b m = 1) : Int.gcd (a * b) m = 1 := by
  have h' : Nat.Coprime a.natAbs m.natAbs := h
  have k' : Nat.Coprime b.natAbs m.natAbs := k
  show Nat.gcd (a * b).natAbs m.natAbs = 1
  rw [Int.natAbs_mul]
  exact Nat.Coprime.mul_left h' k'
namespace K10
/- _law_multiplier: 0:pick 1:sign 2:base 3:shift -/
/- law: 0:script 1:rows 2:base 3:one 4:cell 5:picks 6:u 7:v 8:c 9:d 10:once 11:kept 12:twice 13:along 14:sign -/
end K10
end MP
end TL

namespace TL
open PySem L2
set_option maxHeartbeats 2000000
local macro_rules | `(tactic| walk_at "sx") => `(tactic| simp only [sSeq, sNil, sSet, sFrz, frz_o, frz_sh, frz_s, sIf, sRet, sRetN, sPass, sBrk, sPar, sSub, sApp, sExpr, sAsg, sAug, sFld, sRevI, sPop, eLoc, eC, eUn, eBin, eAnd, eOr, eNot, eIf, eTup, eLst, dNil, dCons, tVal_eq, tstD_bl, tAndW, tOrW, tNotW, eFld_eq, eFldD_o, eProp, eMeth, eMeth0, eSl, pNone, pSome, sl_l,
  out_sh, out_fr, get_loc, get_sh, get_fr, getL_z, getL_o, getL_s, bound_z, bound_o, bound_s, isOwn_o, isOwn_s, pok_loc, pok_sh, pok_fr, stl_loc, stlS_sh, stlS_own, stl_sh, stl_fr, lay_fr, lay_sh, lay_loc, envOf, slotsOf, valN, ghOf, endK, resK, exMu, muN, List.cons_append, List.nil_append, List.append_nil, List.length_cons, List.length_nil, Nat.reduceAdd, Nat.reduceSub, List.replicate_succ, List.replicate_zero, List.replicate,
  List.getElem?_cons_zero, List.getElem?_cons_succ, List.getElem?_nil, List.set_cons_zero, List.set_cons_succ,
  add_ii, add_ss, add_ll, sub_ii, mul_ii, fdv_ii, fdvN_ii, mod_ii, modN_ii, pow_ii, lt_ii, le_ii, gt_ii, ge_ii, eq_ii, ne_ii, ix_li, ix_ti, neg_i, abs_i, int_i, int_b, max_ii, min_ii, len_l, len_t, list_l, list_t, rev_l, isi_int, isi_bl, isi_tup, isi_lst, isi_non, isN_i, isN_n, isN_t, isN_l, notN_i, notN_n, notN_t, notN_l, isTy,
  atI0, atI1, atI2, ixN0, ixN1, ixN2, some_inj_ex, isObj, setAt0, setAt1, setAt2, setAt3, restE, keepS, wipeE, ↓reduceIte, if_false, if_true,
  eCall, eCallP, eMake, pm, eTwo, dLit, eOwn2, eLenO, okLen, eMethP, eMakeP, isC_o, eRepL, lr1_i, lr2_i, List.filterMap_cons, List.filterMap_nil, agNil, agRo, agBo, agMu, agTm, callK, boIx, muIx, tms, argsK, upE, reown, hasBo, noTm, flatRo, noLstAll, noLst, noLsts, List.nodup_nil, List.nodup_cons, List.not_mem_nil, not_false_eq_true, Nat.zero_le, Nat.le_refl, Nat.reduceLeDiff, List.mem_cons, or_false, reduceCtorEq,
  gN, gTp, gLs, gCn, gNl, iR1, iR2, iLst, iTpl, iEnum, stab,
  true_and, and_true, eq_self, List.length_map, decide_true, decide_false, Bool.not_true, Bool.not_false, not_true_eq_false, Bool.true_eq_false, Bool.false_eq_true, false_imp_iff, forall_const, true_imp_iff, and_self, decide_eq_true_eq, decide_eq_false_iff_not, Bool.not_eq_true', Bool.not_eq_false'])
namespace MP
/-! ### joined maps -/
def joinAt (rs ss : List (Int × Int)) (r : Int) : Int × Int := ((ruleF ss (((ruleF rs r).1 * r + (ruleF rs r).2) / rs.length)).1 * (ruleF rs r).1, (ruleF ss (((ruleF rs r).1 * r + (ruleF rs r).2) / rs.length)).1 * (ruleF rs r).2 + rs.length * (ruleF ss (((ruleF rs r).1 * r + (ruleF rs r).2) / rs.length)).2)
def thenF (rs ss : List (Int × Int)) : List (Int × Int) := (List.range (rs.length * ss.length)).map fun r => joinAt rs ss (r : Nat)
theorem thenF_len (rs ss : List (Int × Int)) : (thenF rs ss).length = rs.length * ss.length := by unfold thenF; simp
theorem thenF_at {rs ss : List (Int × Int)} {r : Nat} (h : r < rs.length * ss.length) : (thenF rs ss)[r]? = some (joinAt rs ss r) := by
  unfold thenF
  rw [List.getElem?_map, List.getElem?_range h]
  rfl
/-- no number a of the one has a common divisor with n -/
def Cop (n : Nat) (rs : List (Int × Int)) : Prop := ∀ p ∈ rs, Int.gcd p.1 n = 1
theorem ruleF_mem {rs : List (Int × Int)} (h : 0 < rs.length) (x : Int) : ruleF rs x ∈ rs := List.mem_of_getElem? (ruleF_some (by omega))
theorem gcd_one_mul {a m n : Int} (h : Int.gcd a m = 1) (k : Int.gcd a n = 1) : Int.gcd a (m * n) = 1 := by
  have h' : Nat.Coprime a.natAbs m.natAbs := h
  have k' : Nat.Coprime a.natAbs n.natAbs := k
  show Nat.gcd a.natAbs (m * n).natAbs = 1
  rw [Int.natAbs_mul]
  exact Nat.Coprime.mul_right h' k'
theorem thenF_rule {rs ss : List (Int × Int)} (h : MapOk rs) (k : MapOk ss) (x : Int) : ruleF (thenF rs ss) x = joinAt rs ss (x % (rs.length * ss.length)) := by
  have h2 := h.two
  have k2 := k.two
  have q : 2 * 2 ≤ rs.length * ss.length := Nat.mul_le_mul h2 k2
  have e := ruleF_some (rs := thenF rs ss) (n := x) (by rw [thenF_len]; omega)
  rw [thenF_len, Int.natCast_mul] at e
  have qi : 0 < (rs.length : Int) * ss.length := by rw [← Int.natCast_mul]; omega
  have x0 := Int.emod_nonneg x (show (rs.length : Int) * ss.length ≠ 0 by omega)
  have x1 := Int.emod_lt_of_pos x qi
  have ec : ((rs.length * ss.length : Nat) : Int) = rs.length * ss.length := Int.natCast_mul _ _
  rw [thenF_at (by omega), Int.toNat_of_nonneg x0] at e
  exact (Option.some.inj e).symm
/-- a join does the two steps -/
theorem thenF_step {rs ss : List (Int × Int)} (h : MapOk rs) (k : MapOk ss) (x : Int) : zStep (thenF rs ss) x = zStep ss (zStep rs x) ∧ ruleF (thenF rs ss) x = joinAt rs ss x := by
  have h2 := h.two
  have k2 := k.two
  have hr := thenF_rule h k x
  have e := Int.emod_add_mul_ediv x ((rs.length : Int) * ss.length)
  generalize x % ((rs.length : Int) * ss.length) = r at *
  generalize x / ((rs.length : Int) * ss.length) = t at *
  have ex : x = r + rs.length * (ss.length * t) := by rw [← e]; grind
  have e1 : x % rs.length = r % rs.length := by rw [ex, Int.add_mul_emod_self_left]
  have p1 : ruleF rs x = ruleF rs r := by unfold ruleF; rw [e1]
  have dx := ruleF_div h x
  have dr := ruleF_div h r
  have ey : zStep rs x = zStep rs r + ss.length * ((ruleF rs r).1 * t) := by
    have : (rs.length : Int) * zStep rs x = rs.length * (zStep rs r + ss.length * ((ruleF rs r).1 * t)) := by
      rw [dx, p1, show (rs.length : Int) * (zStep rs r + ss.length * ((ruleF rs r).1 * t)) = rs.length * zStep rs r + (ruleF rs r).1 * (rs.length * (ss.length * t)) by grind, dr]
      rw [ex]; grind
    exact Int.eq_of_mul_eq_mul_left (by omega) this
  have p2 : ruleF ss (zStep rs x) = ruleF ss (zStep rs r) := by unfold ruleF; rw [ey, Int.add_mul_emod_self_left]
  have ej : joinAt rs ss x = joinAt rs ss r := by
    unfold joinAt
    have a1 : ((ruleF rs x).1 * x + (ruleF rs x).2) / (rs.length : Int) = zStep rs x := rfl
    have a2 : ((ruleF rs r).1 * r + (ruleF rs r).2) / (rs.length : Int) = zStep rs r := rfl
    rw [a1, a2, p2, p1]
  refine ⟨?_, by rw [hr, ej]⟩
  show ((ruleF (thenF rs ss) x).1 * x + (ruleF (thenF rs ss) x).2) / ((thenF rs ss).length : Int) = _
  rw [hr, ← ej, thenF_len, Int.natCast_mul]
  have q : 2 * 2 ≤ rs.length * ss.length := Nat.mul_le_mul h2 k2
  refine zStep_of (by rw [← Int.natCast_mul]; omega) ?_
  have dw := ruleF_div k (zStep rs x)
  unfold joinAt
  have a1 : ((ruleF rs x).1 * x + (ruleF rs x).2) / (rs.length : Int) = zStep rs x := rfl
  rw [a1, show (rs.length : Int) * ss.length * zStep ss (zStep rs x) = rs.length * (ss.length * zStep ss (zStep rs x)) by grind, dw]
  generalize ruleF ss (zStep rs x) = q at *
  rw [show (rs.length : Int) * (q.1 * zStep rs x + q.2) = q.1 * (rs.length * zStep rs x) + rs.length * q.2 by grind, dx]
  grind
/- Map_then: 0:self 1:other 2:rule 3:rows 4:remainder 5:a 6:b 7:again 8:more -/
/- Map_add: 0:self 1:other -/
/- _law_base: 0:cell 1:most -/
end MP
end TL

namespace TL
open PySem L2
set_option maxHeartbeats 2000000
local macro_rules | `(tactic| walk_at "sx") => `(tactic| simp only [sSeq, sNil, sSet, sFrz, frz_o, frz_sh, frz_s, sIf, sRet, sRetN, sPass, sBrk, sPar, sSub, sApp, sExpr, sAsg, sAug, sFld, sRevI, sPop, eLoc, eC, eUn, eBin, eAnd, eOr, eNot, eIf, eTup, eLst, dNil, dCons, tVal_eq, tstD_bl, tAndW, tOrW, tNotW, eFld_eq, eFldD_o, eProp, eMeth, eMeth0, eSl, pNone, pSome, sl_l,
  out_sh, out_fr, get_loc, get_sh, get_fr, getL_z, getL_o, getL_s, bound_z, bound_o, bound_s, isOwn_o, isOwn_s, pok_loc, pok_sh, pok_fr, stl_loc, stlS_sh, stlS_own, stl_sh, stl_fr, lay_fr, lay_sh, lay_loc, envOf, slotsOf, valN, ghOf, endK, resK, exMu, muN, List.cons_append, List.nil_append, List.append_nil, List.length_cons, List.length_nil, Nat.reduceAdd, Nat.reduceSub, List.replicate_succ, List.replicate_zero, List.replicate,
  List.getElem?_cons_zero, List.getElem?_cons_succ, List.getElem?_nil, List.set_cons_zero, List.set_cons_succ,
  add_ii, add_ss, add_ll, sub_ii, mul_ii, fdv_ii, fdvN_ii, mod_ii, modN_ii, pow_ii, lt_ii, le_ii, gt_ii, ge_ii, eq_ii, ne_ii, ix_li, ix_ti, neg_i, abs_i, int_i, int_b, max_ii, min_ii, len_l, len_t, list_l, list_t, rev_l, isi_int, isi_bl, isi_tup, isi_lst, isi_non, isN_i, isN_n, isN_t, isN_l, notN_i, notN_n, notN_t, notN_l, isTy,
  atI0, atI1, atI2, ixN0, ixN1, ixN2, some_inj_ex, isObj, setAt0, setAt1, setAt2, setAt3, restE, keepS, wipeE, ↓reduceIte, if_false, if_true,
  eCall, eCallP, eMake, pm, eTwo, dLit, eOwn2, eLenO, okLen, eMethP, eMakeP, isC_o, eRepL, lr1_i, lr2_i, List.filterMap_cons, List.filterMap_nil, agNil, agRo, agBo, agMu, agTm, callK, boIx, muIx, tms, argsK, upE, reown, hasBo, noTm, flatRo, noLstAll, noLst, noLsts, List.nodup_nil, List.nodup_cons, List.not_mem_nil, not_false_eq_true, Nat.zero_le, Nat.le_refl, Nat.reduceLeDiff, List.mem_cons, or_false, reduceCtorEq,
  gN, gTp, gLs, gCn, gNl, iR1, iR2, iLst, iTpl, iEnum, stab,
  true_and, and_true, eq_self, List.length_map, decide_true, decide_false, Bool.not_true, Bool.not_false, not_true_eq_false, Bool.true_eq_false, Bool.false_eq_true, false_imp_iff, forall_const, true_imp_iff, and_self, decide_eq_true_eq, decide_eq_false_iff_not, Bool.not_eq_true', Bool.not_eq_false'])
namespace MP
namespace K09
/- law: 0:script 1:cells 2:bases 3:beside 4:lists 5:made 6:elder 7:kept 8:cell 9:i 10:j 11:total 12:size 13:told 14:x 15:found 16:k 17:rows -/
end K09
end MP
end TL

namespace TL
open PySem L2
set_option maxHeartbeats 2000000
local macro_rules | `(tactic| walk_at "sx") => `(tactic| simp only [sSeq, sNil, sSet, sFrz, frz_o, frz_sh, frz_s, sIf, sRet, sRetN, sPass, sBrk, sPar, sSub, sApp, sExpr, sAsg, sAug, sFld, sRevI, sPop, eLoc, eC, eUn, eBin, eAnd, eOr, eNot, eIf, eTup, eLst, dNil, dCons, tVal_eq, tstD_bl, tAndW, tOrW, tNotW, eFld_eq, eFldD_o, eProp, eMeth, eMeth0, eSl, pNone, pSome, sl_l,
  out_sh, out_fr, get_loc, get_sh, get_fr, getL_z, getL_o, getL_s, bound_z, bound_o, bound_s, isOwn_o, isOwn_s, pok_loc, pok_sh, pok_fr, stl_loc, stlS_sh, stlS_own, stl_sh, stl_fr, lay_fr, lay_sh, lay_loc, envOf, slotsOf, valN, ghOf, endK, resK, exMu, muN, List.cons_append, List.nil_append, List.append_nil, List.length_cons, List.length_nil, Nat.reduceAdd, Nat.reduceSub, List.replicate_succ, List.replicate_zero, List.replicate,
  List.getElem?_cons_zero, List.getElem?_cons_succ, List.getElem?_nil, List.set_cons_zero, List.set_cons_succ,
  add_ii, add_ss, add_ll, sub_ii, mul_ii, fdv_ii, fdvN_ii, mod_ii, modN_ii, pow_ii, lt_ii, le_ii, gt_ii, ge_ii, eq_ii, ne_ii, ix_li, ix_ti, neg_i, abs_i, int_i, int_b, max_ii, min_ii, len_l, len_t, list_l, list_t, rev_l, isi_int, isi_bl, isi_tup, isi_lst, isi_non, isN_i, isN_n, isN_t, isN_l, notN_i, notN_n, notN_t, notN_l, isTy,
  atI0, atI1, atI2, ixN0, ixN1, ixN2, some_inj_ex, isObj, setAt0, setAt1, setAt2, setAt3, restE, keepS, wipeE, ↓reduceIte, if_false, if_true,
  eCall, eCallP, eMake, pm, eTwo, dLit, eOwn2, eLenO, okLen, eMethP, eMakeP, isC_o, eRepL, lr1_i, lr2_i, List.filterMap_cons, List.filterMap_nil, agNil, agRo, agBo, agMu, agTm, callK, boIx, muIx, tms, argsK, upE, reown, hasBo, noTm, flatRo, noLstAll, noLst, noLsts, List.nodup_nil, List.nodup_cons, List.not_mem_nil, not_false_eq_true, Nat.zero_le, Nat.le_refl, Nat.reduceLeDiff, List.mem_cons, or_false, reduceCtorEq,
  gN, gTp, gLs, gCn, gNl, iR1, iR2, iLst, iTpl, iEnum, stab,
  true_and, and_true, eq_self, List.length_map, decide_true, decide_false, Bool.not_true, Bool.not_false, not_true_eq_false, Bool.true_eq_false, Bool.false_eq_true, false_imp_iff, forall_const, true_imp_iff, and_self, decide_eq_true_eq, decide_eq_false_iff_not, Bool.not_eq_true', Bool.not_eq_false'])
namespace MP
namespace K07
/- _law_right: 0:found 1:first 2:second 3:numbers 4:size 5:told 6:x 7:a 8:b 9:k -/
/- law: 0:script 1:cells 2:most 3:bases 4:lists 5:numbers 6:made 7:i 8:j 9:k 10:cell 11:rows -/
end K07
end MP
end TL

namespace TL
open PySem L2
set_option maxHeartbeats 2000000
local macro_rules | `(tactic| walk_at "sx") => `(tactic| simp only [sSeq, sNil, sSet, sFrz, frz_o, frz_sh, frz_s, sIf, sRet, sRetN, sPass, sBrk, sPar, sSub, sApp, sExpr, sAsg, sAug, sFld, sRevI, sPop, eLoc, eC, eUn, eBin, eAnd, eOr, eNot, eIf, eTup, eLst, dNil, dCons, tVal_eq, tstD_bl, tAndW, tOrW, tNotW, eFld_eq, eFldD_o, eProp, eMeth, eMeth0, eSl, pNone, pSome, sl_l,
  out_sh, out_fr, get_loc, get_sh, get_fr, getL_z, getL_o, getL_s, bound_z, bound_o, bound_s, isOwn_o, isOwn_s, pok_loc, pok_sh, pok_fr, stl_loc, stlS_sh, stlS_own, stl_sh, stl_fr, lay_fr, lay_sh, lay_loc, envOf, slotsOf, valN, ghOf, endK, resK, exMu, muN, List.cons_append, List.nil_append, List.append_nil, List.length_cons, List.length_nil, Nat.reduceAdd, Nat.reduceSub, List.replicate_succ, List.replicate_zero, List.replicate,
  List.getElem?_cons_zero, List.getElem?_cons_succ, List.getElem?_nil, List.set_cons_zero, List.set_cons_succ,
  add_ii, add_ss, add_ll, sub_ii, mul_ii, fdv_ii, fdvN_ii, mod_ii, modN_ii, pow_ii, lt_ii, le_ii, gt_ii, ge_ii, eq_ii, ne_ii, ix_li, ix_ti, neg_i, abs_i, int_i, int_b, max_ii, min_ii, len_l, len_t, list_l, list_t, rev_l, isi_int, isi_bl, isi_tup, isi_lst, isi_non, isN_i, isN_n, isN_t, isN_l, notN_i, notN_n, notN_t, notN_l, isTy,
  atI0, atI1, atI2, ixN0, ixN1, ixN2, some_inj_ex, isObj, setAt0, setAt1, setAt2, setAt3, restE, keepS, wipeE, ↓reduceIte, if_false, if_true,
  eCall, eCallP, eMake, pm, eTwo, dLit, eOwn2, eLenO, okLen, eMethP, eMakeP, isC_o, eRepL, lr1_i, lr2_i, List.filterMap_cons, List.filterMap_nil, agNil, agRo, agBo, agMu, agTm, callK, boIx, muIx, tms, argsK, upE, reown, hasBo, noTm, flatRo, noLstAll, noLst, noLsts, List.nodup_nil, List.nodup_cons, List.not_mem_nil, not_false_eq_true, Nat.zero_le, Nat.le_refl, Nat.reduceLeDiff, List.mem_cons, or_false, reduceCtorEq,
  gN, gTp, gLs, gCn, gNl, iR1, iR2, iLst, iTpl, iEnum, stab,
  true_and, and_true, eq_self, List.length_map, decide_true, decide_false, Bool.not_true, Bool.not_false, not_true_eq_false, Bool.true_eq_false, Bool.false_eq_true, false_imp_iff, forall_const, true_imp_iff, and_self, decide_eq_true_eq, decide_eq_false_iff_not, Bool.not_eq_true', Bool.not_eq_false'])
namespace MP
theorem Cop.join {n : Nat} {rs ss : List (Int × Int)} (h : Cop n rs) (k : Cop n ss) (h0 : 0 < rs.length) (k0 : 0 < ss.length) : Cop n (thenF rs ss) := fun p hp => by
  unfold thenF at hp
  obtain ⟨r, _, rfl⟩ := List.mem_map.mp hp
  unfold joinAt
  exact gcd_mul_one (k _ (ruleF_mem k0 _)) (h _ (ruleF_mem h0 _))
theorem Cop.mul {n m : Nat} {rs : List (Int × Int)} (h : Cop n rs) (k : Cop m rs) : Cop (n * m) rs := fun p hp => by
  rw [Int.natCast_mul]; exact gcd_one_mul (h p hp) (k p hp)
namespace K11
/- _law_rules: 0:cell 1:most 2:beside 3:picks 4:base 5:rows 6:k 7:a 8:reach -/
end K11
end MP
end TL

namespace TL
open PySem L2
set_option maxHeartbeats 2000000
local macro_rules | `(tactic| walk_at "sx") => `(tactic| simp only [sSeq, sNil, sSet, sFrz, frz_o, frz_sh, frz_s, sIf, sRet, sRetN, sPass, sBrk, sPar, sSub, sApp, sExpr, sAsg, sAug, sFld, sRevI, sPop, eLoc, eC, eUn, eBin, eAnd, eOr, eNot, eIf, eTup, eLst, dNil, dCons, tVal_eq, tstD_bl, tAndW, tOrW, tNotW, eFld_eq, eFldD_o, eProp, eMeth, eMeth0, eSl, pNone, pSome, sl_l,
  out_sh, out_fr, get_loc, get_sh, get_fr, getL_z, getL_o, getL_s, bound_z, bound_o, bound_s, isOwn_o, isOwn_s, pok_loc, pok_sh, pok_fr, stl_loc, stlS_sh, stlS_own, stl_sh, stl_fr, lay_fr, lay_sh, lay_loc, envOf, slotsOf, valN, ghOf, endK, resK, exMu, muN, List.cons_append, List.nil_append, List.append_nil, List.length_cons, List.length_nil, Nat.reduceAdd, Nat.reduceSub, List.replicate_succ, List.replicate_zero, List.replicate,
  List.getElem?_cons_zero, List.getElem?_cons_succ, List.getElem?_nil, List.set_cons_zero, List.set_cons_succ,
  add_ii, add_ss, add_ll, sub_ii, mul_ii, fdv_ii, fdvN_ii, mod_ii, modN_ii, pow_ii, lt_ii, le_ii, gt_ii, ge_ii, eq_ii, ne_ii, ix_li, ix_ti, neg_i, abs_i, int_i, int_b, max_ii, min_ii, len_l, len_t, list_l, list_t, rev_l, isi_int, isi_bl, isi_tup, isi_lst, isi_non, isN_i, isN_n, isN_t, isN_l, notN_i, notN_n, notN_t, notN_l, isTy,
  atI0, atI1, atI2, ixN0, ixN1, ixN2, some_inj_ex, isObj, setAt0, setAt1, setAt2, setAt3, restE, keepS, wipeE, ↓reduceIte, if_false, if_true,
  eCall, eCallP, eMake, pm, eTwo, dLit, eOwn2, eLenO, okLen, eMethP, eMakeP, isC_o, eRepL, lr1_i, lr2_i, List.filterMap_cons, List.filterMap_nil, agNil, agRo, agBo, agMu, agTm, callK, boIx, muIx, tms, argsK, upE, reown, hasBo, noTm, flatRo, noLstAll, noLst, noLsts, List.nodup_nil, List.nodup_cons, List.not_mem_nil, not_false_eq_true, Nat.zero_le, Nat.le_refl, Nat.reduceLeDiff, List.mem_cons, or_false, reduceCtorEq,
  gN, gTp, gLs, gCn, gNl, iR1, iR2, iLst, iTpl, iEnum, stab,
  true_and, and_true, eq_self, List.length_map, decide_true, decide_false, Bool.not_true, Bool.not_false, not_true_eq_false, Bool.true_eq_false, Bool.false_eq_true, false_imp_iff, forall_const, true_imp_iff, and_self, decide_eq_true_eq, decide_eq_false_iff_not, Bool.not_eq_true', Bool.not_eq_false'])
namespace MP
namespace K11
/- law: 0:script 1:cells 2:bases 3:size 4:lists 5:made 6:left 7:right 8:pairs 9:found 10:other 11:again 12:x 13:a 14:b 15:due 16:rows 17:k 18:cell -/
end K11
end MP
end TL

namespace TL
open PySem L2
set_option maxHeartbeats 2000000
local macro_rules | `(tactic| walk_at "sx") => `(tactic| simp only [sSeq, sNil, sSet, sFrz, frz_o, frz_sh, frz_s, sIf, sRet, sRetN, sPass, sBrk, sPar, sSub, sApp, sExpr, sAsg, sAug, sFld, sRevI, sPop, eLoc, eC, eUn, eBin, eAnd, eOr, eNot, eIf, eTup, eLst, dNil, dCons, tVal_eq, tstD_bl, tAndW, tOrW, tNotW, eFld_eq, eFldD_o, eProp, eMeth, eMeth0, eSl, pNone, pSome, sl_l,
  out_sh, out_fr, get_loc, get_sh, get_fr, getL_z, getL_o, getL_s, bound_z, bound_o, bound_s, isOwn_o, isOwn_s, pok_loc, pok_sh, pok_fr, stl_loc, stlS_sh, stlS_own, stl_sh, stl_fr, lay_fr, lay_sh, lay_loc, envOf, slotsOf, valN, ghOf, endK, resK, exMu, muN, List.cons_append, List.nil_append, List.append_nil, List.length_cons, List.length_nil, Nat.reduceAdd, Nat.reduceSub, List.replicate_succ, List.replicate_zero, List.replicate,
  List.getElem?_cons_zero, List.getElem?_cons_succ, List.getElem?_nil, List.set_cons_zero, List.set_cons_succ,
  add_ii, add_ss, add_ll, sub_ii, mul_ii, fdv_ii, fdvN_ii, mod_ii, modN_ii, pow_ii, lt_ii, le_ii, gt_ii, ge_ii, eq_ii, ne_ii, ix_li, ix_ti, neg_i, abs_i, int_i, int_b, max_ii, min_ii, len_l, len_t, list_l, list_t, rev_l, isi_int, isi_bl, isi_tup, isi_lst, isi_non, isN_i, isN_n, isN_t, isN_l, notN_i, notN_n, notN_t, notN_l, isTy,
  atI0, atI1, atI2, ixN0, ixN1, ixN2, some_inj_ex, isObj, setAt0, setAt1, setAt2, setAt3, restE, keepS, wipeE, ↓reduceIte, if_false, if_true,
  eCall, eCallP, eMake, pm, eTwo, dLit, eOwn2, eLenO, okLen, eMethP, eMakeP, isC_o, eRepL, lr1_i, lr2_i, List.filterMap_cons, List.filterMap_nil, agNil, agRo, agBo, agMu, agTm, callK, boIx, muIx, tms, argsK, upE, reown, hasBo, noTm, flatRo, noLstAll, noLst, noLsts, List.nodup_nil, List.nodup_cons, List.not_mem_nil, not_false_eq_true, Nat.zero_le, Nat.le_refl, Nat.reduceLeDiff, List.mem_cons, or_false, reduceCtorEq,
  gN, gTp, gLs, gCn, gNl, iR1, iR2, iLst, iTpl, iEnum, stab,
  true_and, and_true, eq_self, List.length_map, decide_true, decide_false, Bool.not_true, Bool.not_false, not_true_eq_false, Bool.true_eq_false, Bool.false_eq_true, false_imp_iff, forall_const, true_imp_iff, and_self, decide_eq_true_eq, decide_eq_false_iff_not, Bool.not_eq_true', Bool.not_eq_false'])
namespace MP
theorem Mv.join {r0 r1 t0 t1 : List (Int × Int)} {u c : Int} (o0 : MapOk r0) (o1 : MapOk r1) (m0 : Mv r0 u c t0) (m1 : Mv r1 u c t1) (k0 : MapOk t0) (k1 : MapOk t1) : Mv (thenF r0 r1) u c (thenF t0 t1) := by
  refine ⟨by rw [thenF_len, thenF_len, m0.len, m1.len], fun r p hp => ?_⟩
  have h0 := o0.two
  have h1 := o1.two
  have hr : r < r0.length * r1.length := by rw [← thenF_len]; exact (List.getElem?_eq_some_iff.mp hp).1
  rw [thenF_at hr] at hp
  cases hp
  have e := ruleF_some (rs := thenF t0 t1) (n := u * r + c) (by rw [thenF_len, m0.len, m1.len]; omega)
  rw [thenF_len, m0.len, m1.len, ← thenF_len] at e
  rw [e]
  congr 1
  rw [(thenF_step k0 k1 _).2]
  have s0 := m0.step o0 r
  have s1 := m1.step o1 (zStep r0 r)
  have a1 : joinAt t0 t1 (u * r + c) = ((ruleF t1 (zStep t0 (u * r + c))).1 * (ruleF t0 (u * r + c)).1, (ruleF t1 (zStep t0 (u * r + c))).1 * (ruleF t0 (u * r + c)).2 + (t0.length : Int) * (ruleF t1 (zStep t0 (u * r + c))).2) := rfl
  have a2 : joinAt r0 r1 r = ((ruleF r1 (zStep r0 r)).1 * (ruleF r0 r).1, (ruleF r1 (zStep r0 r)).1 * (ruleF r0 r).2 + (r0.length : Int) * (ruleF r1 (zStep r0 r)).2) := rfl
  rw [a1, a2, s0.1, s0.2, s1.1, m0.len, thenF_len, Int.natCast_mul]
  generalize ruleF r1 (zStep r0 r) = q
  generalize ruleF r0 r = p
  simp only [Prod.mk.injEq]
  constructor <;> grind
namespace K12
/- _law_rules: 0:cell 1:base 2:beside 3:picks 4:reach 5:rows 6:k 7:a -/
/- _law_right: 0:total 1:lists 2:shift 3:more 4:x 5:size 6:place 7:a 8:b 9:due -/
end K12
end MP
end TL

namespace TL
open PySem L2
set_option maxHeartbeats 2000000
local macro_rules | `(tactic| walk_at "sx") => `(tactic| simp only [sSeq, sNil, sSet, sFrz, frz_o, frz_sh, frz_s, sIf, sRet, sRetN, sPass, sBrk, sPar, sSub, sApp, sExpr, sAsg, sAug, sFld, sRevI, sPop, eLoc, eC, eUn, eBin, eAnd, eOr, eNot, eIf, eTup, eLst, dNil, dCons, tVal_eq, tstD_bl, tAndW, tOrW, tNotW, eFld_eq, eFldD_o, eProp, eMeth, eMeth0, eSl, pNone, pSome, sl_l,
  out_sh, out_fr, get_loc, get_sh, get_fr, getL_z, getL_o, getL_s, bound_z, bound_o, bound_s, isOwn_o, isOwn_s, pok_loc, pok_sh, pok_fr, stl_loc, stlS_sh, stlS_own, stl_sh, stl_fr, lay_fr, lay_sh, lay_loc, envOf, slotsOf, valN, ghOf, endK, resK, exMu, muN, List.cons_append, List.nil_append, List.append_nil, List.length_cons, List.length_nil, Nat.reduceAdd, Nat.reduceSub, List.replicate_succ, List.replicate_zero, List.replicate,
  List.getElem?_cons_zero, List.getElem?_cons_succ, List.getElem?_nil, List.set_cons_zero, List.set_cons_succ,
  add_ii, add_ss, add_ll, sub_ii, mul_ii, fdv_ii, fdvN_ii, mod_ii, modN_ii, pow_ii, lt_ii, le_ii, gt_ii, ge_ii, eq_ii, ne_ii, ix_li, ix_ti, neg_i, abs_i, int_i, int_b, max_ii, min_ii, len_l, len_t, list_l, list_t, rev_l, isi_int, isi_bl, isi_tup, isi_lst, isi_non, isN_i, isN_n, isN_t, isN_l, notN_i, notN_n, notN_t, notN_l, isTy,
  atI0, atI1, atI2, ixN0, ixN1, ixN2, some_inj_ex, isObj, setAt0, setAt1, setAt2, setAt3, restE, keepS, wipeE, ↓reduceIte, if_false, if_true,
  eCall, eCallP, eMake, pm, eTwo, dLit, eOwn2, eLenO, okLen, eMethP, eMakeP, isC_o, eRepL, lr1_i, lr2_i, List.filterMap_cons, List.filterMap_nil, agNil, agRo, agBo, agMu, agTm, callK, boIx, muIx, tms, argsK, upE, reown, hasBo, noTm, flatRo, noLstAll, noLst, noLsts, List.nodup_nil, List.nodup_cons, List.not_mem_nil, not_false_eq_true, Nat.zero_le, Nat.le_refl, Nat.reduceLeDiff, List.mem_cons, or_false, reduceCtorEq,
  gN, gTp, gLs, gCn, gNl, iR1, iR2, iLst, iTpl, iEnum, stab,
  true_and, and_true, eq_self, List.length_map, decide_true, decide_false, Bool.not_true, Bool.not_false, not_true_eq_false, Bool.true_eq_false, Bool.false_eq_true, false_imp_iff, forall_const, true_imp_iff, and_self, decide_eq_true_eq, decide_eq_false_iff_not, Bool.not_eq_true', Bool.not_eq_false'])
namespace MP
namespace K12
/- law: 0:script 1:several 2:base 3:beside 4:lists 5:made 6:total 7:kept 8:cell 9:picks 10:shift 11:more 12:along 13:parts 14:again 15:found 16:mixed 17:moved_rows 18:x 19:a 20:b 21:one -/
end K12
end MP
end TL

namespace TL
open PySem L2
set_option maxHeartbeats 2000000
local macro_rules | `(tactic| walk_at "sx") => `(tactic| simp only [sSeq, sNil, sSet, sFrz, frz_o, frz_sh, frz_s, sIf, sRet, sRetN, sPass, sBrk, sPar, sSub, sApp, sExpr, sAsg, sAug, sFld, sRevI, sPop, eLoc, eC, eUn, eBin, eAnd, eOr, eNot, eIf, eTup, eLst, dNil, dCons, tVal_eq, tstD_bl, tAndW, tOrW, tNotW, eFld_eq, eFldD_o, eProp, eMeth, eMeth0, eSl, pNone, pSome, sl_l,
  out_sh, out_fr, get_loc, get_sh, get_fr, getL_z, getL_o, getL_s, bound_z, bound_o, bound_s, isOwn_o, isOwn_s, pok_loc, pok_sh, pok_fr, stl_loc, stlS_sh, stlS_own, stl_sh, stl_fr, lay_fr, lay_sh, lay_loc, envOf, slotsOf, valN, ghOf, endK, resK, exMu, muN, List.cons_append, List.nil_append, List.append_nil, List.length_cons, List.length_nil, Nat.reduceAdd, Nat.reduceSub, List.replicate_succ, List.replicate_zero, List.replicate,
  List.getElem?_cons_zero, List.getElem?_cons_succ, List.getElem?_nil, List.set_cons_zero, List.set_cons_succ,
  add_ii, add_ss, add_ll, sub_ii, mul_ii, fdv_ii, fdvN_ii, mod_ii, modN_ii, pow_ii, lt_ii, le_ii, gt_ii, ge_ii, eq_ii, ne_ii, ix_li, ix_ti, neg_i, abs_i, int_i, int_b, max_ii, min_ii, len_l, len_t, list_l, list_t, rev_l, isi_int, isi_bl, isi_tup, isi_lst, isi_non, isN_i, isN_n, isN_t, isN_l, notN_i, notN_n, notN_t, notN_l, isTy,
  atI0, atI1, atI2, ixN0, ixN1, ixN2, some_inj_ex, isObj, setAt0, setAt1, setAt2, setAt3, restE, keepS, wipeE, ↓reduceIte, if_false, if_true,
  eCall, eCallP, eMake, pm, eTwo, dLit, eOwn2, eLenO, okLen, eMethP, eMakeP, isC_o, eRepL, lr1_i, lr2_i, List.filterMap_cons, List.filterMap_nil, agNil, agRo, agBo, agMu, agTm, callK, boIx, muIx, tms, argsK, upE, reown, hasBo, noTm, flatRo, noLstAll, noLst, noLsts, List.nodup_nil, List.nodup_cons, List.not_mem_nil, not_false_eq_true, Nat.zero_le, Nat.le_refl, Nat.reduceLeDiff, List.mem_cons, or_false, reduceCtorEq,
  gN, gTp, gLs, gCn, gNl, iR1, iR2, iLst, iTpl, iEnum, stab,
  e0_is, t0_is, d0_is, s0_is, i0_is, sTry, hXk_n, hXk_s, sRaise, eCallX, eCallXP, eMethX, eMakeX, ePropX, eOwn2X, callX, roA, opXv_exn, opIsX_exn, List.map_cons, List.map_nil, Nat.lt_irrefl, Nat.zero_lt_one, Nat.reduceLT, Nat.zero_lt_succ, some_inj_ex,
  true_and, and_true, eq_self, List.length_map, decide_true, decide_false, Bool.not_true, Bool.not_false, not_true_eq_false, Bool.true_eq_false, Bool.false_eq_true, false_imp_iff, forall_const, true_imp_iff, and_self, decide_eq_true_eq, decide_eq_false_iff_not, Bool.not_eq_true', Bool.not_eq_false'])
namespace MP
namespace K06
/- Map_moved: 0:self 1:u 2:c 3:rows 4:remainder 5:a 6:b -/
/- _law_told: 0:one 1:shift 2:c 3:told 4:e -/
/- _law_apart: 0:one 1:shift 2:c 3:apart 4:e -/
/- _law_multiplier: 0:cell 1:base 2:picks 3:shift 4:divisors 5:k -/
end K06
end MP
end TL

namespace TL
open PySem L2
set_option maxHeartbeats 2000000
local macro_rules | `(tactic| walk_at "sx") => `(tactic| simp only [sSeq, sNil, sSet, sFrz, frz_o, frz_sh, frz_s, sIf, sRet, sRetN, sPass, sBrk, sPar, sSub, sApp, sExpr, sAsg, sAug, sFld, sRevI, sPop, eLoc, eC, eUn, eBin, eAnd, eOr, eNot, eIf, eTup, eLst, dNil, dCons, tVal_eq, tstD_bl, tAndW, tOrW, tNotW, eFld_eq, eFldD_o, eProp, eMeth, eMeth0, eSl, pNone, pSome, sl_l,
  out_sh, out_fr, get_loc, get_sh, get_fr, getL_z, getL_o, getL_s, bound_z, bound_o, bound_s, isOwn_o, isOwn_s, pok_loc, pok_sh, pok_fr, stl_loc, stlS_sh, stlS_own, stl_sh, stl_fr, lay_fr, lay_sh, lay_loc, envOf, slotsOf, valN, ghOf, endK, resK, exMu, muN, List.cons_append, List.nil_append, List.append_nil, List.length_cons, List.length_nil, Nat.reduceAdd, Nat.reduceSub, List.replicate_succ, List.replicate_zero, List.replicate,
  List.getElem?_cons_zero, List.getElem?_cons_succ, List.getElem?_nil, List.set_cons_zero, List.set_cons_succ,
  add_ii, add_ss, add_ll, sub_ii, mul_ii, fdv_ii, fdvN_ii, mod_ii, modN_ii, pow_ii, lt_ii, le_ii, gt_ii, ge_ii, eq_ii, ne_ii, ix_li, ix_ti, neg_i, abs_i, int_i, int_b, max_ii, min_ii, len_l, len_t, list_l, list_t, rev_l, isi_int, isi_bl, isi_tup, isi_lst, isi_non, isN_i, isN_n, isN_t, isN_l, notN_i, notN_n, notN_t, notN_l, isTy,
  atI0, atI1, atI2, ixN0, ixN1, ixN2, some_inj_ex, isObj, setAt0, setAt1, setAt2, setAt3, restE, keepS, wipeE, ↓reduceIte, if_false, if_true,
  eCall, eCallP, eMake, pm, eTwo, dLit, eOwn2, eLenO, okLen, eMethP, eMakeP, isC_o, eRepL, lr1_i, lr2_i, List.filterMap_cons, List.filterMap_nil, agNil, agRo, agBo, agMu, agTm, callK, boIx, muIx, tms, argsK, upE, reown, hasBo, noTm, flatRo, noLstAll, noLst, noLsts, List.nodup_nil, List.nodup_cons, List.not_mem_nil, not_false_eq_true, Nat.zero_le, Nat.le_refl, Nat.reduceLeDiff, List.mem_cons, or_false, reduceCtorEq,
  gN, gTp, gLs, gCn, gNl, iR1, iR2, iLst, iTpl, iEnum, stab,
  e0_is, t0_is, d0_is, s0_is, i0_is, sTry, hXk_n, hXk_s, sRaise, eCallX, eCallXP, eMethX, eMakeX, ePropX, eOwn2X, callX, roA, opXv_exn, opIsX_exn, List.map_cons, List.map_nil, Nat.lt_irrefl, Nat.zero_lt_one, Nat.reduceLT, Nat.zero_lt_succ, some_inj_ex,
  true_and, and_true, eq_self, List.length_map, decide_true, decide_false, Bool.not_true, Bool.not_false, not_true_eq_false, Bool.true_eq_false, Bool.false_eq_true, false_imp_iff, forall_const, true_imp_iff, and_self, decide_eq_true_eq, decide_eq_false_iff_not, Bool.not_eq_true', Bool.not_eq_false'])
namespace MP
mutual
theorem eqD_self : ∀ d : D, PyData.eqv (pd d) (pd d) = true ∨ ∀ n, okD n d = false
  | .non => .inl (by simp [pd, PyData.eqv])
  | .bl b => .inl (by cases b <;> simp [pd, PyData.eqv])
  | .int i => .inl (by simp [pd, PyData.eqv])
  | .str x => .inl (by simp [pd, PyData.eqv])
  | .ptr _ => .inr (by simp [okD])
  | .tup ds => by
    rcases eqDs_self ds with h | h
    · exact .inl (by simpa [pd, PyData.eqv] using h)
    · refine .inr fun n => ?_
      cases n with
      | zero => simp [okD]
      | succ n => simpa [okD] using h n
  | .lst ds => by
    rcases eqDs_self ds with h | h
    · exact .inl (by simpa [pd, PyData.eqv] using h)
    · refine .inr fun n => ?_
      cases n with
      | zero => simp [okD]
      | succ n => simpa [okD] using h n
  | .obj _ _ => .inr fun n => by simp [okD]
  | .dct _ _ => .inr fun n => by simp [okD]
  | .dic _ _ => .inr fun n => by simp [okD]
theorem eqDs_self : ∀ ds : List D, PyData.eqvAll (pds ds) (pds ds) = true ∨ ∀ n, okDs n ds = false
  | [] => .inl (by simp [pds, PyData.eqvAll])
  | d :: ds => by
    rcases eqD_self d with h | h
    · rcases eqDs_self ds with k | k
      · exact .inl (by simp [pds, PyData.eqvAll, h, k])
      · exact .inr fun n => by simp [okDs, k n]
    · exact .inr fun n => by simp [okDs, h n]
end
theorem eqD_same {d : D} (h : okD 64 d = true) : eqD d d = true := by
  rcases eqD_self d with q | q
  · exact q
  · rw [q] at h; cases h
theorem ne_same {d : D} {k} (h : okD 64 d = true) : opNe d d k = k (.sh (.bl false)) := by
  unfold opNe
  rw [eqD_same h, h]
  exact propext ⟨fun h => h.2, fun h => ⟨⟨rfl, rfl⟩, h⟩⟩
namespace K06
/- law: 0:script 1:lists 2:made 3:cell 4:shift 5:c 6:k 7:base 8:due 9:told 10:rows -/
end K06
end MP
end TL

namespace TL
open PySem L2
set_option maxHeartbeats 2000000
local macro_rules | `(tactic| walk_at "sx") => `(tactic| simp only [sSeq, sNil, sSet, sFrz, frz_o, frz_sh, frz_s, sIf, sRet, sRetN, sPass, sBrk, sPar, sSub, sApp, sExpr, sAsg, sAug, sFld, sRevI, sPop, eLoc, eC, eUn, eBin, eAnd, eOr, eNot, eIf, eTup, eLst, dNil, dCons, tVal_eq, tstD_bl, tAndW, tOrW, tNotW, eFld_eq, eFldD_o, eProp, eMeth, eMeth0, eSl, pNone, pSome, sl_l,
  out_sh, out_fr, get_loc, get_sh, get_fr, getL_z, getL_o, getL_s, bound_z, bound_o, bound_s, isOwn_o, isOwn_s, pok_loc, pok_sh, pok_fr, stl_loc, stlS_sh, stlS_own, stl_sh, stl_fr, lay_fr, lay_sh, lay_loc, envOf, slotsOf, valN, ghOf, endK, resK, exMu, muN, List.cons_append, List.nil_append, List.append_nil, List.length_cons, List.length_nil, Nat.reduceAdd, Nat.reduceSub, List.replicate_succ, List.replicate_zero, List.replicate,
  List.getElem?_cons_zero, List.getElem?_cons_succ, List.getElem?_nil, List.set_cons_zero, List.set_cons_succ,
  add_ii, add_ss, add_ll, sub_ii, mul_ii, fdv_ii, fdvN_ii, mod_ii, modN_ii, pow_ii, lt_ii, le_ii, gt_ii, ge_ii, eq_ii, ne_ii, ix_li, ix_ti, neg_i, abs_i, int_i, int_b, max_ii, min_ii, len_l, len_t, list_l, list_t, rev_l, isi_int, isi_bl, isi_tup, isi_lst, isi_non, isN_i, isN_n, isN_t, isN_l, notN_i, notN_n, notN_t, notN_l, isTy,
  atI0, atI1, atI2, ixN0, ixN1, ixN2, some_inj_ex, isObj, setAt0, setAt1, setAt2, setAt3, restE, keepS, wipeE, ↓reduceIte, if_false, if_true,
  eCall, eCallP, eMake, pm, eTwo, dLit, eOwn2, eLenO, okLen, eMethP, eMakeP, isC_o, eRepL, lr1_i, lr2_i, List.filterMap_cons, List.filterMap_nil, agNil, agRo, agBo, agMu, agTm, callK, boIx, muIx, tms, argsK, upE, reown, hasBo, noTm, flatRo, noLstAll, noLst, noLsts, List.nodup_nil, List.nodup_cons, List.not_mem_nil, not_false_eq_true, Nat.zero_le, Nat.le_refl, Nat.reduceLeDiff, List.mem_cons, or_false, reduceCtorEq,
  gN, gTp, gLs, gCn, gNl, iR1, iR2, iRL, iLst, iTpl, iEnum, stab,
  ite_self, isB_b, notB_b, any_l, tup_l, sExt, e0_is, t0_is, d0_is, s0_is, i0_is, sTry, hXk_n, hXk_s, sRaise, eCallX, eCallXP, eMethX, eMakeX, ePropX, eOwn2X, callX, roA, opXv_exn, opIsX_exn, List.map_cons, List.map_nil, Nat.lt_irrefl, Nat.zero_lt_one, Nat.reduceLT, Nat.zero_lt_succ, some_inj_ex,
  true_and, and_true, eq_self, List.length_map, decide_true, decide_false, Bool.not_true, Bool.not_false, not_true_eq_false, Bool.true_eq_false, Bool.false_eq_true, false_imp_iff, forall_const, true_imp_iff, and_self, decide_eq_true_eq, decide_eq_false_iff_not, Bool.not_eq_true', Bool.not_eq_false'])
theorem cutL_map {α β : Type} (f : α → β) (xs : List α) (lo hi : Option Int) : cutL (xs.map f) lo hi = (cutL xs lo hi).map f := by
  unfold cutL
  rw [List.length_map, List.map_take, List.map_drop]
theorem cutL_sub {α : Type} {xs : List α} {lo hi : Option Int} {x : α} (h : x ∈ cutL xs lo hi) : x ∈ xs := by
  unfold cutL at h
  exact List.mem_of_mem_drop (List.mem_of_mem_take h)
namespace MP
/- step_of: 0:rule_map 1:number 2:a 3:b -/
/- fits: 0:rule_map 1:seen 2:x 3:y -/
/- _law_seen: 0:rows 1:numbers 2:x -/
namespace K58
/- law: 0:script 1:lists 2:made 3:true 4:picks 5:place 6:x 7:y 8:wrong 9:false 10:told 11:k 12:handed 13:due 14:found 15:rows 16:cell 17:one 18:reached -/
theorem ixN_nat {n k : Nat} (h : k < n) : ixN n (k : Int) = some k := by
  unfold ixN
  rw [if_pos (by omega), if_pos (by omega)]
  simp
end K58
end MP
end TL

namespace TL
open PySem L2
set_option maxHeartbeats 2000000
local macro_rules | `(tactic| walk_at "sx") => `(tactic| try simp only [sSeq, sNil, eDisp1, eDispN, ltT_l, sumT_l, eDIn, eDNotIn, eDSetd, eDNew, eDGet, eDGet2, sDSet, eTake, sAugL, isDc, eKeep, keep_fr, keep_sh, keep_gh, keep_loc, eAd, eDr, eBinG, sAppE, sRevE, sPopE, eFz, fz_sh, fz_fr, fz_gh, fz_loc, ePk, gF, gP, agBg, agMg, agBd, pvw, eCallG, get_gh, stl_gh, pok_gh, owns, List.drop_succ_cons, List.drop_zero, List.take_succ_cons, List.take_zero, List.mem_cons, List.not_mem_nil, or_false, sSet, sFrz, frz_o, frz_sh, frz_s, sIf, sRet, sRetN, sPass, sBrk, sPar, sSub, sApp, sExpr, sAsg, sAug, sFld, sRevI, sPop, eLoc, eC, eUn, eBin, eAnd, eOr, eNot, eIf, eTup, eLst, dNil, dCons, tVal_eq, tstD_bl, tAndW, tOrW, tNotW, eFld_eq, eFldD_o, eProp, eMeth, eMeth0, eSl, pNone, pSome, sl_l,
  out_sh, out_fr, get_loc, get_sh, get_fr, getL_z, getL_o, getL_s, bound_z, bound_o, bound_s, isOwn_o, isOwn_s, pok_loc, pok_sh, pok_fr, stl_loc, stlS_sh, stlS_own, stl_sh, stl_fr, lay_fr, lay_sh, lay_loc, envOf, slotsOf, valN, ghOf, endK, resK, exMu, muN, List.cons_append, List.nil_append, List.append_nil, List.length_cons, List.length_nil, Nat.reduceAdd, Nat.reduceSub, List.replicate_succ, List.replicate_zero, List.replicate,
  List.getElem?_cons_zero, List.getElem?_cons_succ, List.getElem?_nil, List.set_cons_zero, List.set_cons_succ,
  add_ii, add_ss, add_ll, sub_ii, mul_ii, fdv_ii, fdvN_ii, mod_ii, modN_ii, pow_ii, lt_ii, le_ii, gt_ii, ge_ii, eq_ii, ne_ii, ix_li, ix_ti, neg_i, abs_i, int_i, int_b, max_ii, min_ii, len_l, len_t, list_l, list_t, rev_l, isi_int, isi_bl, isi_tup, isi_lst, isi_non, isN_i, isN_n, isN_t, isN_l, notN_i, notN_n, notN_t, notN_l, isTy,
  atI0, atI1, atI2, ixN0, ixN1, ixN2, some_inj_ex, isObj, setAt0, setAt1, setAt2, setAt3, restE, keepS, wipeE, ↓reduceIte, if_false, if_true,
  eCall, eCallP, eMake, pm, eTwo, dLit, eOwn2, eLenO, okLen, eMethP, eMakeP, isC_o, eRepL, lr1_i, lr2_i, List.filterMap_cons, List.filterMap_nil, agNil, agRo, agBo, agMu, agTm, callK, boIx, muIx, tms, argsK, upE, reown, hasBo, noTm, flatRo, noLstAll, noLst, noLsts, List.nodup_nil, List.nodup_cons, List.not_mem_nil, not_false_eq_true, Nat.zero_le, Nat.le_refl, Nat.reduceLeDiff, List.mem_cons, or_false, reduceCtorEq,
  gN, gTp, gLs, gCn, gNl, iR1, iR2, iRL, iLst, iTpl, iEnum, stab,
  ite_self, str_i, fmt_i, fmt_s, isB_b, notB_b, any_l, tup_l, sExt, e0_is, t0_is, d0_is, s0_is, i0_is, sTry, hXk_n, hXk_s, sRaise, eCallX, eCallXP, eMethX, eMakeX, ePropX, eOwn2X, callX, roA, opXv_exn, opIsX_exn, List.map_cons, List.map_nil, Nat.lt_irrefl, Nat.zero_lt_one, Nat.reduceLT, Nat.zero_lt_succ, some_inj_ex,
  Option.isSome_some, Option.isSome_none, true_and, and_true, eq_self, List.length_map, decide_true, decide_false, Bool.not_true, Bool.not_false, not_true_eq_false, Bool.true_eq_false, Bool.false_eq_true, false_imp_iff, forall_const, true_imp_iff, and_self, decide_eq_true_eq, decide_eq_false_iff_not, Bool.not_eq_true', Bool.not_eq_false'])
namespace MP
theorem any_pG {p : Int × Int} {F : List (Int × Int)} : ((F.map encR).any fun z => eqD z (encR p)) = decide (p ∈ F) := by
  rw [List.any_map]
  by_cases h : p ∈ F
  · rw [decide_eq_true h, List.any_eq_true]
    exact ⟨p, h, by show eqD (encR p) (encR p) = true; rw [eqD_encR]; simp⟩
  · rw [decide_eq_false h, List.any_eq_false]
    intro q hq e
    have e : eqD (encR q) (encR p) = true := e
    rw [eqD_encR] at e
    have : q = p := by simpa using e
    subst this
    exact h hq
theorem notIn_pG {p : Int × Int} {F : List (Int × Int)} {k : Ro → Prop} : opNotIn (.tup [.int p.1, .int p.2]) (encRs F) k = k (.sh (.bl (!decide (p ∈ F)))) := by
  rw [show encRs F = .lst (F.map encR) from rfl, notIn_l, show D.tup [.int p.1, .int p.2] = encR p from rfl, any_pG]
  exact propext ⟨fun h => h.2, fun h => ⟨⟨rfl, okD_encRs (n := 62) F⟩, h⟩⟩
namespace K59
/-- a pair more, if it is not there -/
def addG (g : List (Int × Int)) (p : Int × Int) : List (Int × Int) := if p ∈ g then g else g ++ [p]
/-- the different pairs whose first number has the remainder r -/
def grpF (m r : Int) (ps : List (Int × Int)) : List (Int × Int) := ps.foldl (fun g p => if p.1 % m = r then addG g p else g) []
theorem grpF_snoc (m r : Int) (ps : List (Int × Int)) (p : Int × Int) : grpF m r (ps ++ [p]) = if p.1 % m = r then addG (grpF m r ps) p else grpF m r ps := by
  unfold grpF
  rw [List.foldl_append]
  rfl
def groupsD (m : Nat) (ps : List (Int × Int)) : List D := (List.range m).map fun (r : Nat) => encRs (grpF m r ps)
theorem groupsD_at {m q : Nat} {ps : List (Int × Int)} (h : q < m) : (groupsD m ps)[q]? = some (encRs (grpF m q ps)) := by
  unfold groupsD
  rw [List.getElem?_map, List.getElem?_range h]
  rfl
theorem groupsD_snoc {m q : Nat} {ps : List (Int × Int)} {p : Int × Int} (hm : 0 < m) (hq : p.1 % (m : Int) = q) : groupsD m (ps ++ [p]) = (groupsD m ps).set q (encRs (addG (grpF m q ps) p)) := by
  refine List.ext_getElem? fun i => ?_
  rw [List.getElem?_set]
  by_cases hi : i < m
  · rw [groupsD_at hi, groupsD_at hi, grpF_snoc]
    by_cases h : q = i
    · subst h
      rw [if_pos hq, if_pos rfl]
      have : q < (groupsD m ps).length := by unfold groupsD; simpa using hi
      rw [if_pos this]
    · rw [if_neg h, if_neg (by rw [hq]; omega)]
  · have l1 : (groupsD m (ps ++ [p])).length = m := by unfold groupsD; simp
    have l2 : (groupsD m ps).length = m := by unfold groupsD; simp
    rw [List.getElem?_eq_none (by omega), List.getElem?_eq_none (by omega)]
    split
    · rw [if_neg (by omega)]
    · rfl
theorem grpF_len (m r : Int) (ps : List (Int × Int)) : (grpF m r ps).length ≤ ps.length := by
  have : ∀ (ps g : List (Int × Int)), (ps.foldl (fun g p => if p.1 % m = r then addG g p else g) g).length ≤ g.length + ps.length := by
    intro ps
    induction ps with
    | nil => intro g; simp
    | cons p ps ih =>
      intro g
      have := ih (if p.1 % m = r then addG g p else g)
      have h2 : (if p.1 % m = r then addG g p else g).length ≤ g.length + 1 := by
        unfold addG
        (repeat' split) <;> simp
      simp only [List.foldl_cons, List.length_cons]
      omega
  have := this ps []
  simpa [grpF] using this
theorem set_sameL {α : Type} {xs : List α} {q : Nat} {x : α} (h : xs[q]? = some x) : xs.set q x = xs := by
  obtain ⟨hj, e⟩ := List.getElem?_eq_some_iff.mp h
  rw [← e]
  exact List.set_getElem_self hj
theorem groups0 (m : Nat) : ((List.range m).map fun (r : Nat) => encRs (grpF m r [])) = List.replicate m (.lst []) := by
  rw [show (fun (r : Nat) => encRs (grpF (m : Int) (r : Int) [])) = fun _ => D.lst [] from rfl, List.map_const', List.length_range]
theorem atI_natG {xs : List D} {q : Nat} (h : q < xs.length) : L2.atI xs (q : Int) = xs[q]? := by
  unfold L2.atI ixN
  rw [if_pos (by omega), if_pos (by omega), Option.bind_some, Int.toNat_natCast]
def sp_pairs_by_remainder : FSpec := fun args kr _ => ∃ (m : Nat) (ps : List (Int × Int)), args = [.ro (.int m), .ro (encRs ps)] ∧ 1 ≤ m ∧ m ≤ 1000 ∧ ps.length ≤ 1000 ∧ kr (.sh (.lst (groupsD m ps))) []
/- pairs_by_remainder: 0:modulus 1:seen 2:groups 3:x 4:y 5:group 6:remainder -/
def b_pairs_by_remainder : SW := (sSeq (sFrz 2 (sSet 2 (eComp (iR1 (dCons (eLoc 0) dNil)) (gN 6) tYesW (eKeep (eLst dNil)) [6])))
  (sSeq (sFor (iLst (eLoc 1)) (gTp 2 (gCn (gN 3) (gCn (gN 4) gNl))) (sSeq (sSet 5 (eBin opIx (eLoc 2) (eBin opMod (eLoc 3) (eLoc 0))))
  (sIf (tVal (eBinG opNotIn (eTup (dCons (eLoc 3) (dCons (eLoc 4) dNil))) (eDr (eLoc 5)))) (sAppE (eDr (eLoc 5)) (eTup (dCons (eLoc 3) (dCons (eLoc 4) dNil)))) sNil)))
  (sRet (eFz 7 (eLoc 2)))))
theorem sat_pairs_by_remainder : Sat 7 sp_pairs_by_remainder b_pairs_by_remainder := by
  rintro args mus kr kx hm ⟨m, ps, rfl, hm1, hm2, hl, hk⟩
  obtain rfl := mus0 hm
  unfold b_pairs_by_remainder
  unfold sFor
  walk_at "sx"
  simp only [eComp, tYesW]
  walk_at "sx"
  refine ⟨by omega, fun i acc ρ => ∃ as : List Addr, as.length = i ∧ acc = as.map D.ptr ∧ ρ = [.sh (.int m), .sh (encRs ps), .no, .no, .no, .no, .no] ++ ghs as (List.replicate i (.lst [])), ⟨[], rfl, rfl, rfl⟩, fun _ _ _ _ _ => trivial, ?_, ?_⟩
  · rintro i d acc ρ hi rfl ⟨as, hla, rfl, rfl⟩
    walk_at "sx"
    intro a hna
    refine ⟨line_big (by omega), as ++ [a], by simp [hla], by simp, ?_⟩
    rw [← List.replicate_succ, List.replicate_succ', ghs_snoc (by simp [hla])]
  · rintro acc ρ ⟨as, hla, rfl, rfl⟩
    walk_at "sx"
    have hla : as.length = m := by simpa using hla
    refine ⟨fun i ρ => ∃ e3 e4 e5 : Sl, ρ = [.sh (.int m), .sh (encRs ps), .sh (.lst (as.map .ptr)), e3, e4, e5, .no] ++ ghs as (groupsD m (ps.take i)), ⟨.no, .no, .no, ?_⟩, fun _ _ _ _ => trivial, ?_, ?_⟩
    · rw [show groupsD m (ps.take 0) = List.replicate (m : Int).toNat (.lst []) by unfold groupsD; rw [List.take_zero, Int.toNat_natCast]; exact (groups0 m)]
      rfl
    · rintro i d ρ hi hd ⟨e3, e4, e5, rfl⟩
      obtain ⟨p, hp, rfl⟩ := get_map hd
      walk_at "sx"
      obtain ⟨q, hq⟩ := Int.eq_ofNat_of_zero_le (Int.emod_nonneg p.1 (show (m : Int) ≠ 0 by omega))
      have hqm : q < m := by have := Int.emod_lt_of_pos p.1 (show (0 : Int) < m by omega); omega
      rw [hq]
      obtain ⟨a, ha⟩ : ∃ a, as[q]? = some a := ⟨_, List.getElem?_eq_getElem (by omega)⟩
      have hc := groupsD_at (ps := ps.take i) hqm
      have hg := ghs_at ha hc
      refine ⟨by omega, .ptr a, ?_, ?_⟩
      · rw [atI_natG (by simpa using (by omega : q < as.length)), List.getElem?_map, ha]
        rfl
      refine ⟨q + 7, ⟨false, _, hg⟩, ?_⟩
      walk_at "sx"
      rw [getL_ghs ha hc]
      refine ⟨_, _, .self _, .self _, ?_⟩
      rw [notIn_pG]
      have next : ps.take (i + 1) = ps.take i ++ [p] := by rw [List.take_succ, hp]; rfl
      refine ⟨_, rfl, fun hb => ?_, fun hb => ?_⟩
      · refine ⟨q + 7, ⟨false, _, hg⟩, ⟨_, _, hg⟩, ?_⟩
        walk_at "sx"
        rw [hg]
        have hn : p ∉ grpF m q (ps.take i) := by simpa using hb
        have hl2 := grpF_len m q (ps.take i)
        rw [List.length_take] at hl2
        refine ⟨rfl, line_big (by simp; omega), .sh (.int p.1), .sh (.int p.2), .sh (.ptr a), ?_⟩
        rw [next, groupsD_snoc (by omega) hq, ghs_set ha]
        unfold addG
        rw [if_neg hn]
        simp [encRs, encR]
      · refine ⟨.sh (.int p.1), .sh (.int p.2), .sh (.ptr a), ?_⟩
        have hn : p ∈ grpF m q (ps.take i) := by simpa using hb
        rw [next, groupsD_snoc (by omega) hq]
        unfold addG
        rw [if_pos hn, set_sameL hc]
    · rintro ρ ⟨e3, e4, e5, rfl⟩
      walk_at "sx"
      rw [gF_ghs (by simp [groupsD, hla]), List.take_length]
      exact ⟨_, .lst (vws_ptr (by simp [groupsD, hla]) fun p hp => hp), hk⟩
end K59
end MP
end TL

namespace TL
open PySem L2
set_option maxHeartbeats 2000000
local macro_rules | `(tactic| walk_at "sx") => `(tactic| try simp only [sSeq, sNil, eDisp1, eDispN, ltT_l, sumT_l, eDIn, eDNotIn, eDSetd, eDNew, eDGet, eDGet2, sDSet, eTake, sAugL, isDc, eKeep, keep_fr, keep_sh, keep_gh, keep_loc, eAd, eDr, eBinG, sAppE, sRevE, sPopE, eFz, fz_sh, fz_fr, fz_gh, fz_loc, ePk, gF, gP, agBg, agMg, agBd, pvw, eCallG, get_gh, stl_gh, pok_gh, owns, List.drop_succ_cons, List.drop_zero, List.take_succ_cons, List.take_zero, List.mem_cons, List.not_mem_nil, or_false, sSet, sFrz, frz_o, frz_sh, frz_s, sIf, sRet, sRetN, sPass, sBrk, sPar, sSub, sApp, sExpr, sAsg, sAug, sFld, sRevI, sPop, eLoc, eC, eUn, eBin, eAnd, eOr, eNot, eIf, eTup, eLst, dNil, dCons, tVal_eq, tstD_bl, tAndW, tOrW, tNotW, eFld_eq, eFldD_o, eProp, eMeth, eMeth0, eSl, pNone, pSome, sl_l,
  out_sh, out_fr, get_loc, get_sh, get_fr, getL_z, getL_o, getL_s, bound_z, bound_o, bound_s, isOwn_o, isOwn_s, pok_loc, pok_sh, pok_fr, stl_loc, stlS_sh, stlS_own, stl_sh, stl_fr, lay_fr, lay_sh, lay_loc, envOf, slotsOf, valN, ghOf, endK, resK, exMu, muN, List.cons_append, List.nil_append, List.append_nil, List.length_cons, List.length_nil, Nat.reduceAdd, Nat.reduceSub, List.replicate_succ, List.replicate_zero, List.replicate,
  List.getElem?_cons_zero, List.getElem?_cons_succ, List.getElem?_nil, List.set_cons_zero, List.set_cons_succ,
  add_ii, add_ss, add_ll, sub_ii, mul_ii, fdv_ii, fdvN_ii, mod_ii, modN_ii, pow_ii, lt_ii, le_ii, gt_ii, ge_ii, eq_ii, ne_ii, ix_li, ix_ti, neg_i, abs_i, int_i, int_b, max_ii, min_ii, len_l, len_t, list_l, list_t, rev_l, isi_int, isi_bl, isi_tup, isi_lst, isi_non, isN_i, isN_n, isN_t, isN_l, notN_i, notN_n, notN_t, notN_l, isTy,
  atI0, atI1, atI2, ixN0, ixN1, ixN2, some_inj_ex, isObj, setAt0, setAt1, setAt2, setAt3, restE, keepS, wipeE, ↓reduceIte, if_false, if_true,
  eCall, eCallP, eMake, pm, eTwo, dLit, eOwn2, eLenO, okLen, eMethP, eMakeP, isC_o, eRepL, lr1_i, lr2_i, List.filterMap_cons, List.filterMap_nil, agNil, agRo, agBo, agMu, agTm, callK, boIx, muIx, tms, argsK, upE, reown, hasBo, noTm, flatRo, noLstAll, noLst, noLsts, List.nodup_nil, List.nodup_cons, List.not_mem_nil, not_false_eq_true, Nat.zero_le, Nat.le_refl, Nat.reduceLeDiff, List.mem_cons, or_false, reduceCtorEq,
  gN, gTp, gLs, gCn, gNl, iR1, iR2, iRL, iLst, iTpl, iEnum, stab,
  ite_self, str_i, fmt_i, fmt_s, isB_b, notB_b, any_l, tup_l, sExt, e0_is, t0_is, d0_is, s0_is, i0_is, sTry, hXk_n, hXk_s, sRaise, eCallX, eCallXP, eMethX, eMakeX, ePropX, eOwn2X, callX, roA, opXv_exn, opIsX_exn, List.map_cons, List.map_nil, Nat.lt_irrefl, Nat.zero_lt_one, Nat.reduceLT, Nat.zero_lt_succ, some_inj_ex,
  Option.isSome_some, Option.isSome_none, true_and, and_true, eq_self, List.length_map, decide_true, decide_false, Bool.not_true, Bool.not_false, not_true_eq_false, Bool.true_eq_false, Bool.false_eq_true, false_imp_iff, forall_const, true_imp_iff, and_self, decide_eq_true_eq, decide_eq_false_iff_not, Bool.not_eq_true', Bool.not_eq_false'])
namespace MP
namespace K59
theorem grpF_mem (m r : Int) : ∀ (n : Nat) (ps : List (Int × Int)), n = ps.length → ∀ p, p ∈ grpF m r ps ↔ p ∈ ps ∧ p.1 % m = r := by
  intro n
  induction n with
  | zero =>
    intro ps h
    have : ps = [] := List.length_eq_zero_iff.mp h.symm
    subst this
    exact fun x => by simp [grpF]
  | succ n ih =>
    intro ps h
    have hne : ps ≠ [] := by rintro rfl; simp at h
    obtain ⟨qs, p, rfl⟩ : ∃ qs p, ps = qs ++ [p] := ⟨_, _, (List.dropLast_concat_getLast hne).symm⟩
    have h2 := ih qs (by simp at h; omega)
    intro x
    rw [grpF_snoc, List.mem_append, List.mem_singleton]
    by_cases hp : p.1 % m = r
    · rw [if_pos hp]
      unfold addG
      by_cases hm : p ∈ grpF m r qs
      · rw [if_pos hm, h2]
        constructor
        · exact fun h => ⟨.inl h.1, h.2⟩
        · rintro ⟨h | rfl, h3⟩
          · exact ⟨h, h3⟩
          · exact (h2 _).mp hm
      · rw [if_neg hm, List.mem_append, List.mem_singleton, h2]
        constructor
        · rintro (h | rfl)
          · exact ⟨.inl h.1, h.2⟩
          · exact ⟨.inr rfl, hp⟩
        · rintro ⟨h | rfl, h3⟩
          · exact .inl ⟨h, h3⟩
          · exact .inr rfl
    · rw [if_neg hp, h2]
      constructor
      · exact fun h => ⟨.inl h.1, h.2⟩
      · rintro ⟨h | rfl, h3⟩
        · exact ⟨h, h3⟩
        · exact absurd h3 hp
/- missing: 0:modulus 1:seen 2:few 3:remainder 4:pairs 5:x 6:y -/
/- _law_modulus: 0:cell 1:picks -/
/- _law_pairs_by: 0:cells 1:base 2:told 3:cell 4:picks 5:last 6:x -/
/- _law_missing: 0:base 1:told 2:few 3:k 4:numbers 5:x 6:y -/
/- _law_wholes: 0:found 1:one -/
theorem inI {x : Int} {g : List Int} {k : Ro → Prop} : opNotIn (.int x) (encZs g) k = k (.sh (.bl (!decide (x ∈ g)))) := by
  rw [show encZs g = .lst (g.map D.int) from rfl, notIn_l]
  have : ((g.map D.int).any fun z => eqD z (.int x)) = decide (x ∈ g) := by
    rw [List.any_map]
    by_cases h : x ∈ g
    · rw [decide_eq_true h, List.any_eq_true]
      exact ⟨x, h, by show eqD (.int x) (.int x) = true; rw [eqD_int]; simp⟩
    · rw [decide_eq_false h, List.any_eq_false]
      intro q hq e
      have e : eqD (.int q) (.int x) = true := e
      rw [eqD_int] at e
      have : q = x := by simpa using e
      subst this
      exact h hq
  rw [this]
  exact propext ⟨fun h => h.2, fun h => ⟨⟨rfl, okD_encZs (n := 63) g⟩, h⟩⟩
end K59
end MP
end TL

namespace TL
open PySem L2
set_option maxHeartbeats 2000000
local macro_rules | `(tactic| walk_at "sx") => `(tactic| try simp only [sSeq, sNil, eDisp1, eDispN, ltT_l, sumT_l, eDIn, eDNotIn, eDSetd, eDNew, eDGet, eDGet2, sDSet, eTake, sAugL, isDc, sCut, ghs_cons, ghs_nil, eKeep, keep_fr, keep_sh, keep_gh, keep_loc, eAd, eDr, eBinG, sAppE, sRevE, sPopE, eFz, fz_sh, fz_fr, fz_gh, fz_loc, ePk, gF, gP, agBg, agMg, agBd, pvw, eCallG, get_gh, stl_gh, pok_gh, owns, List.drop_succ_cons, List.drop_zero, List.take_succ_cons, List.take_zero, List.mem_cons, List.not_mem_nil, or_false, sSet, sFrz, frz_o, frz_sh, frz_s, sIf, sRet, sRetN, sPass, sBrk, sPar, sSub, sApp, sExpr, sAsg, sAug, sFld, sRevI, sPop, eLoc, eC, eUn, eBin, eAnd, eOr, eNot, eIf, eTup, eLst, dNil, dCons, tVal_eq, tstD_bl, tAndW, tOrW, tNotW, eFld_eq, eFldD_o, eProp, eMeth, eMeth0, eSl, pNone, pSome, sl_l,
  out_sh, out_fr, get_loc, get_sh, get_fr, getL_z, getL_o, getL_s, bound_z, bound_o, bound_s, isOwn_o, isOwn_s, pok_loc, pok_sh, pok_fr, stl_loc, stlS_sh, stlS_own, stl_sh, stl_fr, lay_fr, lay_sh, lay_loc, envOf, slotsOf, valN, ghOf, endK, resK, exMu, muN, List.cons_append, List.nil_append, List.append_nil, List.length_cons, List.length_nil, Nat.reduceAdd, Nat.reduceSub, List.replicate_succ, List.replicate_zero, List.replicate,
  List.getElem?_cons_zero, List.getElem?_cons_succ, List.getElem?_nil, List.set_cons_zero, List.set_cons_succ,
  add_ii, add_ss, add_ll, sub_ii, mul_ii, fdv_ii, fdvN_ii, mod_ii, modN_ii, pow_ii, lt_ii, le_ii, gt_ii, ge_ii, eq_ii, ne_ii, ix_li, ix_ti, neg_i, abs_i, int_i, int_b, max_ii, min_ii, len_l, len_t, list_l, list_t, rev_l, isi_int, isi_bl, isi_tup, isi_lst, isi_non, isN_i, isN_n, isN_t, isN_l, notN_i, notN_n, notN_t, notN_l, isTy,
  atI0, atI1, atI2, ixN0, ixN1, ixN2, some_inj_ex, isObj, setAt0, setAt1, setAt2, setAt3, restE, keepS, wipeE, ↓reduceIte, if_false, if_true,
  eCall, eCallP, eMake, pm, eTwo, dLit, eOwn2, eLenO, okLen, eMethP, eMakeP, isC_o, eRepL, lr1_i, lr2_i, List.filterMap_cons, List.filterMap_nil, agNil, agRo, agBo, agMu, agTm, callK, boIx, muIx, tms, argsK, upE, reown, hasBo, noTm, flatRo, noLstAll, noLst, noLsts, List.nodup_nil, List.nodup_cons, List.not_mem_nil, not_false_eq_true, Nat.zero_le, Nat.le_refl, Nat.reduceLeDiff, List.mem_cons, or_false, reduceCtorEq,
  gN, gTp, gLs, gCn, gNl, iR1, iR2, iRL, iLst, iTpl, iEnum, stab,
  ite_self, str_i, fmt_i, fmt_s, isB_b, notB_b, any_l, tup_l, sExt, e0_is, t0_is, d0_is, s0_is, i0_is, sTry, hXk_n, hXk_s, sRaise, eCallX, eCallXP, eMethX, eMakeX, ePropX, eOwn2X, callX, roA, opXv_exn, opIsX_exn, List.map_cons, List.map_nil, Nat.lt_irrefl, Nat.zero_lt_one, Nat.reduceLT, Nat.zero_lt_succ, some_inj_ex,
  Option.isSome_some, Option.isSome_none, true_and, and_true, eq_self, List.length_map, decide_true, decide_false, Bool.not_true, Bool.not_false, not_true_eq_false, Bool.true_eq_false, Bool.false_eq_true, false_imp_iff, forall_const, true_imp_iff, and_self, decide_eq_true_eq, decide_eq_false_iff_not, Bool.not_eq_true', Bool.not_eq_false'])
namespace MP
namespace K60
open K59 (grpF groupsD groupsD_at grpF_mem grpF_len sp_pairs_by_remainder sat_pairs_by_remainder)
/-- the rule through different pairs with one remainder -/
def ruleT (m : Int) : List (Int × Int) → Option (Int × Int)
  | p :: q :: rest =>
    if p.1 - q.1 = 0 ∨ (m * (p.2 - q.2)).fmod (p.1 - q.1) ≠ 0 then none else
    if (m * (p.2 - q.2)).fdiv (p.1 - q.1) < 1 ∨ Int.gcd ((m * (p.2 - q.2)).fdiv (p.1 - q.1)) m ≠ 1 then none else
    if (p :: q :: rest).all (fun t => decide ((m * (p.2 - q.2)).fdiv (p.1 - q.1) * t.1 + (m * p.2 - (m * (p.2 - q.2)).fdiv (p.1 - q.1) * p.1) = m * t.2)) then some ((m * (p.2 - q.2)).fdiv (p.1 - q.1), m * p.2 - (m * (p.2 - q.2)).fdiv (p.1 - q.1) * p.1) else none
  | _ => none
def encO (o : Option (Int × Int)) : D := match o with
  | none => .non
  | some r => encR r
def Sz (ps : List (Int × Int)) : Prop := ∀ p ∈ ps, Bt 2000 p.1 ∧ Bt 2000 p.2
def sp_rule_through : FSpec := fun args kr _ => ∃ (m : Nat) (g : List (Int × Int)), args = [.ro (.int m), .ro (encRs g)] ∧ 2 ≤ m ∧ m ≤ 1000 ∧ 2 ≤ g.length ∧ Sz g ∧ kr (.sh (encO (ruleT m g))) []
/- rule_through: 0:modulus 1:pairs 2:x 3:y 4:across 5:rise 6:a 7:b 8:number 9:reached -/
def b_rule_through : SW := (sSeq (sAsg (eBin opIx (eLoc 1) (eC (.int 0))) (gTp 2 (gCn (gN 2) (gCn (gN 3) gNl))))
  (sSeq (sFrz 4 (sSet 4 (eBin opSub (eLoc 2) (eBin opIx (eBin opIx (eLoc 1) (eC (.int 1))) (eC (.int 0))))))
  (sSeq (sFrz 5 (sSet 5 (eBin opMul (eLoc 0) (eBin opSub (eLoc 3) (eBin opIx (eBin opIx (eLoc 1) (eC (.int 1))) (eC (.int 1)))))))
  (sSeq (sIf (tOrW (tVal (eBin opEq (eLoc 4) (eC (.int 0)))) (tVal (eBin opNe (eBin opModN (eLoc 5) (eLoc 4)) (eC (.int 0))))) (sRet (eC .non)) sNil)
  (sSeq (sFrz 6 (sSet 6 (eBin opFdvN (eLoc 5) (eLoc 4))))
  (sSeq (sIf (tOrW (tVal (eBin opLt (eLoc 6) (eC (.int 1)))) (tVal (eBin opNe (eCall 2 sp_gcd (agRo (eLoc 6) (agRo (eLoc 0) agNil))) (eC (.int 1))))) (sRet (eC .non)) sNil)
  (sSeq (sFrz 7 (sSet 7 (eBin opSub (eBin opMul (eLoc 0) (eLoc 3)) (eBin opMul (eLoc 6) (eLoc 2)))))
  (sSeq (sFor (iLst (eLoc 1)) (gTp 2 (gCn (gN 8) (gCn (gN 9) gNl))) (sIf (tVal (eBin opNe (eBin opAdd (eBin opMul (eLoc 6) (eLoc 8)) (eLoc 7)) (eBin opMul (eLoc 0) (eLoc 9)))) (sRet (eC .non)) sNil))
  (sRet (eTup (dCons (eLoc 6) (dCons (eLoc 7) dNil))))))))))))
/- told_back: 0:modulus 1:seen 2:rules 3:pairs 4:rule -/
theorem fdiv_bt {n : Nat} {x y : Int} (h : Bt n x) : Bt n (x.fdiv y) := h.le (by
  have := Int.natAbs_fdiv_le_natAbs x y
  omega)
theorem sat_rule_through : Sat 10 sp_rule_through b_rule_through := by
  rintro args mus kr kx hm ⟨m, g, rfl, hm2, hm1, hl, hs, hk⟩
  obtain rfl := mus0 hm
  match g, hl, hs, hk with
  | p :: q :: rest, hl, hs, hk =>
  have sp := hs p List.mem_cons_self
  have sq := hs q (by simp)
  have bm : Bt 40 (m : Int) := Bt.small (by omega) (by omega)
  have br : Bt 2050 ((m : Int) * (p.2 - q.2)) := (bm.mul (sp.2.sub sq.2)).mono (by omega)
  have bx : Bt 2001 (p.1 - q.1) := sp.1.sub sq.1
  unfold b_rule_through
  unfold sFor
  rw [show encRs (p :: q :: rest) = .lst (encR p :: encR q :: rest.map encR) from rfl]
  walk_at "sx"
  dsimp only [encR]
  walk_at "sx"
  simp only [ruleT] at hk
  have nx : ∀ {P : Prop} [Decidable P] {a b : Option (Int × Int)}, P → kr (.sh (encO (if P then a else b))) [] → kr (.sh (encO a)) [] := fun {P _ a b} h k => by rw [if_pos h] at k; exact k
  have ny : ∀ {P : Prop} [Decidable P] {a b : Option (Int × Int)}, ¬ P → kr (.sh (encO (if P then a else b))) [] → kr (.sh (encO b)) [] := fun {P _ a b} h k => by rw [if_neg h] at k; exact k
  refine ⟨bm.mulOk (sp.2.sub sq.2) (by omega), fun h => nx (.inl h) hk, fun h0 => ⟨h0, fun h1 => nx (.inr h1) hk, fun h1 => ⟨⟨h0, (show Bt 9000 _ from bx.mono (by omega))⟩, ?_⟩⟩⟩
  have hk := ny (fun z => z.elim h0 fun z => z h1) hk
  have ba : Bt 2050 (((m : Int) * (p.2 - q.2)).fdiv (p.1 - q.1)) := fdiv_bt br
  generalize ((m : Int) * (p.2 - q.2)).fdiv (p.1 - q.1) = a at *
  refine ⟨fun h2 => nx (.inl h2) hk, fun h2 => ⟨_, _, rfl, ?_⟩⟩
  walk_at "sx"
  refine ⟨fun h3 => nx (.inr (by omega)) hk, fun h3 => ⟨bm.mulOk sp.2 (by omega), ba.mulOk sp.1 (by omega), ?_⟩⟩
  have h3 : Int.gcd a m = 1 := by omega
  have hk := ny (fun z => z.elim h2 fun z => z h3) hk
  have bb : Bt 4200 ((m : Int) * p.2 - a * p.1) := (((bm.mul sp.2).mono (by omega : _ ≤ 4100)).sub ((ba.mul sp.1).mono (by omega))).mono (by omega)
  generalize (m : Int) * p.2 - a * p.1 = b at *
  rw [show D.tup [D.int p.1, D.int p.2] :: D.tup [D.int q.1, D.int q.2] :: List.map encR rest = (p :: q :: rest).map encR from rfl]
  have hgl : (p :: q :: rest).length = rest.length + 1 + 1 := rfl
  generalize p :: q :: rest = g at *
  refine ⟨fun i ρ => ∃ e8 e9 : Sl, ρ = [.sh (.int m), .sh (.lst (g.map encR)), .sh (.int p.1), .sh (.int p.2), .sh (.int (p.1 - q.1)), .sh (.int (m * (p.2 - q.2))), .sh (.int a), .sh (.int b), e8, e9] ∧ ∀ t ∈ g.take i, a * t.1 + b = m * t.2, ⟨_, _, rfl, by simp⟩, fun _ _ _ _ => trivial, ?_, ?_⟩
  · rintro i d ρ hi hd ⟨e8, e9, rfl, hw⟩
    obtain ⟨t, ht, rfl⟩ := get_map hd
    have st := hs t (List.mem_of_getElem? ht)
    dsimp only [encR]
    walk_at "sx"
    refine ⟨ba.mulOk st.1 (by omega), bm.mulOk st.2 (by omega), fun h => ?_, fun h => ⟨_, _, rfl, fun u hu => ?_⟩⟩
    · rw [if_neg (fun z => h (by have := List.all_eq_true.mp z t (List.mem_of_getElem? ht); simpa using this))] at hk
      exact hk
    · rw [List.take_succ, ht] at hu
      rcases List.mem_append.mp hu with hu | hu
      · exact hw u hu
      · have : u = t := by simpa using hu
        rw [this]; exact h
  · rintro ρ ⟨e8, e9, rfl, hw⟩
    walk_at "sx"
    rw [← hgl, List.take_length] at hw
    rw [if_pos (List.all_eq_true.mpr fun t ht => by simpa using hw t ht)] at hk
    exact hk
def toldR (m : Int) (g : List (Int × Int)) : Option (Int × Int) := if 1 < g.length then ruleT m g else none
/-- the rules that are told back -/
def toldF (m : Nat) (ps : List (Int × Int)) : Option (List (Int × Int)) :=
  if ∀ r, r < m → (toldR m (grpF m r ps)).isSome = true then some ((List.range m).map fun (r : Nat) => (toldR m (grpF m r ps)).getD (1, 0)) else none
theorem grp_sz {m r : Int} {ps : List (Int × Int)} (hs : Sz ps) : Sz (grpF m r ps) := fun p hp => hs p ((grpF_mem m r _ ps rfl p).mp hp).1
end K60
end MP
end TL

namespace TL
open PySem L2
set_option maxHeartbeats 2000000
local macro_rules | `(tactic| walk_at "sx") => `(tactic| try simp only [sSeq, sNil, eDisp1, eDispN, ltT_l, sumT_l, eDIn, eDNotIn, eDSetd, eDNew, eDGet, eDGet2, sDSet, eTake, sAugL, isDc, sCut, ghs_cons, ghs_nil, eKeep, keep_fr, keep_sh, keep_gh, keep_loc, eAd, eDr, eBinG, sAppE, sRevE, sPopE, eFz, fz_sh, fz_fr, fz_gh, fz_loc, ePk, gF, gP, agBg, agMg, agBd, pvw, eCallG, get_gh, stl_gh, pok_gh, owns, List.drop_succ_cons, List.drop_zero, List.take_succ_cons, List.take_zero, List.mem_cons, List.not_mem_nil, or_false, sSet, sFrz, frz_o, frz_sh, frz_s, sIf, sRet, sRetN, sPass, sBrk, sPar, sSub, sApp, sExpr, sAsg, sAug, sFld, sRevI, sPop, eLoc, eC, eUn, eBin, eAnd, eOr, eNot, eIf, eTup, eLst, dNil, dCons, tVal_eq, tstD_bl, tAndW, tOrW, tNotW, eFld_eq, eFldD_o, eProp, eMeth, eMeth0, eSl, pNone, pSome, sl_l,
  out_sh, out_fr, get_loc, get_sh, get_fr, getL_z, getL_o, getL_s, bound_z, bound_o, bound_s, isOwn_o, isOwn_s, pok_loc, pok_sh, pok_fr, stl_loc, stlS_sh, stlS_own, stl_sh, stl_fr, lay_fr, lay_sh, lay_loc, envOf, slotsOf, valN, ghOf, endK, resK, exMu, muN, List.cons_append, List.nil_append, List.append_nil, List.length_cons, List.length_nil, Nat.reduceAdd, Nat.reduceSub, List.replicate_succ, List.replicate_zero, List.replicate,
  List.getElem?_cons_zero, List.getElem?_cons_succ, List.getElem?_nil, List.set_cons_zero, List.set_cons_succ,
  add_ii, add_ss, add_ll, sub_ii, mul_ii, fdv_ii, fdvN_ii, mod_ii, modN_ii, pow_ii, lt_ii, le_ii, gt_ii, ge_ii, eq_ii, ne_ii, ix_li, ix_ti, neg_i, abs_i, int_i, int_b, max_ii, min_ii, len_l, len_t, list_l, list_t, rev_l, isi_int, isi_bl, isi_tup, isi_lst, isi_non, isN_i, isN_n, isN_t, isN_l, notN_i, notN_n, notN_t, notN_l, isTy,
  atI0, atI1, atI2, ixN0, ixN1, ixN2, some_inj_ex, isObj, setAt0, setAt1, setAt2, setAt3, restE, keepS, wipeE, ↓reduceIte, if_false, if_true,
  eCall, eCallP, eMake, pm, eTwo, dLit, eOwn2, eLenO, okLen, eMethP, eMakeP, isC_o, eRepL, lr1_i, lr2_i, List.filterMap_cons, List.filterMap_nil, agNil, agRo, agBo, agMu, agTm, callK, boIx, muIx, tms, argsK, upE, reown, hasBo, noTm, flatRo, noLstAll, noLst, noLsts, List.nodup_nil, List.nodup_cons, List.not_mem_nil, not_false_eq_true, Nat.zero_le, Nat.le_refl, Nat.reduceLeDiff, List.mem_cons, or_false, reduceCtorEq,
  gN, gTp, gLs, gCn, gNl, iR1, iR2, iRL, iLst, iTpl, iEnum, stab,
  ite_self, str_i, fmt_i, fmt_s, isB_b, notB_b, any_l, tup_l, sExt, e0_is, t0_is, d0_is, s0_is, i0_is, sTry, hXk_n, hXk_s, sRaise, eCallX, eCallXP, eMethX, eMakeX, ePropX, eOwn2X, callX, roA, opXv_exn, opIsX_exn, List.map_cons, List.map_nil, Nat.lt_irrefl, Nat.zero_lt_one, Nat.reduceLT, Nat.zero_lt_succ, some_inj_ex,
  Option.isSome_some, Option.isSome_none, true_and, and_true, eq_self, List.length_map, decide_true, decide_false, Bool.not_true, Bool.not_false, not_true_eq_false, Bool.true_eq_false, Bool.false_eq_true, false_imp_iff, forall_const, true_imp_iff, and_self, decide_eq_true_eq, decide_eq_false_iff_not, Bool.not_eq_true', Bool.not_eq_false'])
namespace MP
namespace K64
open K59 (grpF groupsD groupsD_at grpF_mem grpF_len)
open K60 (ruleT toldR toldF encO grp_sz)
abbrev sp_pairs_by_remainder : FSpec := K59.sp_pairs_by_remainder
abbrev sp_rule_through : FSpec := K60.sp_rule_through
/-- some rules fit -/
def fitsB (m : Nat) (ps : List (Int × Int)) : Bool := decide (∀ r, r < m → (grpF m r ps).length ≤ 1 ∨ (ruleT m (grpF m r ps)).isSome = true)
def sp_some_fits : FSpec := fun args kr _ => ∃ (m : Nat) (ps : List (Int × Int)), args = [.ro (.int m), .ro (encRs ps)] ∧ 2 ≤ m ∧ m ≤ 1000 ∧ ps.length ≤ 1000 ∧ K60.Sz ps ∧ kr (.sh (.bl (fitsB m ps))) []
/-- the least modulus that fits -/
def leastF (n : Nat) (ps : List (Int × Int)) : Option Nat := ((List.range n).map (· + 2)).find? fun m => fitsB m ps
def encI (o : Option Nat) : D := match o with
  | none => .non
  | some r => .int r
/- some_fits: 0:modulus 1:seen 2:pairs -/
def b_some_fits : SW := (sSeq (sFor (iLst (eCall 2 sp_pairs_by_remainder (agRo (eLoc 0) (agRo (eLoc 1) agNil)))) (gN 2) (sIf (tAndW (tVal (eBin opGt (eUn opLen (eLoc 2)) (eC (.int 1)))) (tVal (eUn opIsN (eCall 2 sp_rule_through (agRo (eLoc 0) (agRo (eLoc 2) agNil)))))) (sRet (eC (.bl false))) sNil))
  (sRet (eC (.bl true))))
/- least_modulus: 0:seen 1:most 2:modulus -/
/- told_back: 0:modulus 1:seen 2:rules 3:pairs 4:rule -/
/- missing: 0:modulus 1:seen 2:few 3:remainder 4:pairs 5:x 6:y -/
/- _law_asked: 0:way 1:number 2:told -/
/- _law_told: 0:way 1:number 2:told 3:found 4:e -/
/- _law_above: 0:way 1:number 2:told 3:above 4:e -/
theorem sat_some_fits : Sat 3 sp_some_fits b_some_fits := by
  rintro args mus kr kx hm ⟨m, ps, rfl, hm2, hm1, hl, hs, hk⟩
  obtain rfl := mus0 hm
  unfold b_some_fits
  unfold sFor
  walk_at "sx"
  refine ⟨m, ps, rfl, by omega, hm1, hl, ?_⟩
  walk_at "sx"
  have gl : (groupsD m ps).length = m := by unfold groupsD; simp
  refine ⟨fun i ρ => ∃ (e : Sl), ρ = [.sh (.int m), .sh (encRs ps), e] ∧ ∀ r, r < i → (grpF m r ps).length ≤ 1 ∨ (ruleT m (grpF m r ps)).isSome = true, ⟨.no, rfl, by intro r h; omega⟩, fun _ _ _ _ => trivial, ?_, ?_⟩
  · rintro i d ρ hi hd ⟨e, rfl, hall⟩
    have hi : i < m := by rw [← gl]; exact hi
    rw [groupsD_at hi] at hd
    cases hd
    walk_at "sx"
    have fin : (grpF m i ps).length ≤ 1 ∨ (ruleT m (grpF m i ps)).isSome = true → ∀ r, r < i + 1 → (grpF m r ps).length ≤ 1 ∨ (ruleT m (grpF m r ps)).isSome = true := fun h r hr => by
      rcases Nat.lt_or_ge r i with h2 | h2
      · exact hall r h2
      · have : r = i := by omega
        subst this
        exact h
    refine ⟨fun h => ⟨m, grpF m i ps, rfl, hm2, hm1, by omega, grp_sz hs, ?_⟩, fun h => ⟨_, rfl, fin (.inl (by omega))⟩⟩
    cases hc : ruleT m (grpF m i ps) with
    | none =>
      dsimp only [encO]
      walk_at "sx"
      have : fitsB m ps = false := by
        unfold fitsB
        refine decide_eq_false fun z => ?_
        rcases z i hi with z | z
        · omega
        · rw [hc] at z; cases z
      rw [this] at hk
      exact hk
    | some p =>
      dsimp only [encO, encR]
      walk_at "sx"
      exact ⟨_, rfl, fin (.inr (by rw [hc]; rfl))⟩
  · rintro ρ ⟨e, rfl, hall⟩
    walk_at "sx"
    rw [gl] at hall
    have : fitsB m ps = true := by unfold fitsB; exact decide_eq_true hall
    rw [this] at hk
    exact hk
theorem leastF_succ (n : Nat) (ps : List (Int × Int)) : leastF (n + 1) ps = (leastF n ps).or (if fitsB (n + 2) ps then some (n + 2) else none) := by
  unfold leastF
  rw [List.range_succ, List.map_append, List.find?_append]
  congr 1
  simp only [List.map_cons, List.map_nil, List.find?_cons, List.find?_nil]
  split <;> simp_all
theorem leastF_mono {n k : Nat} {ps : List (Int × Int)} {m : Nat} (h : leastF n ps = some m) (hk : n ≤ k) : leastF k ps = some m := by
  induction k with
  | zero => have : n = 0 := by omega
            subst this; exact h
  | succ k ih =>
    by_cases e : n = k + 1
    · subst e; exact h
    · rw [leastF_succ, ih (by omega)]; rfl
/- law: 0:script 1:told 2:true 3:k 4:low 5:way 6:sort 7:number 8:handed 9:found 10:again 11:cell -/
end K64
end MP
end TL

namespace TL
open PySem L2
set_option maxHeartbeats 2000000
local macro_rules | `(tactic| walk_at "sx") => `(tactic| try simp only [sSeq, sNil, eDisp1, eDispN, ltT_l, sumT_l, eDIn, eDNotIn, eDSetd, eDNew, eDGet, eDGet2, sDSet, eTake, sAugL, isDc, sCut, ghs_cons, ghs_nil, eKeep, keep_fr, keep_sh, keep_gh, keep_loc, eAd, eDr, eBinG, sAppE, sRevE, sPopE, eFz, fz_sh, fz_fr, fz_gh, fz_loc, ePk, gF, gP, agBg, agMg, agBd, pvw, eCallG, get_gh, stl_gh, pok_gh, owns, List.drop_succ_cons, List.drop_zero, List.take_succ_cons, List.take_zero, List.mem_cons, List.not_mem_nil, or_false, sSet, sFrz, frz_o, frz_sh, frz_s, sIf, sRet, sRetN, sPass, sBrk, sPar, sSub, sApp, sExpr, sAsg, sAug, sFld, sRevI, sPop, eLoc, eC, eUn, eBin, eAnd, eOr, eNot, eIf, eTup, eLst, dNil, dCons, tVal_eq, tstD_bl, tAndW, tOrW, tNotW, eFld_eq, eFldD_o, eProp, eMeth, eMeth0, eSl, pNone, pSome, sl_l,
  out_sh, out_fr, get_loc, get_sh, get_fr, getL_z, getL_o, getL_s, bound_z, bound_o, bound_s, isOwn_o, isOwn_s, pok_loc, pok_sh, pok_fr, stl_loc, stlS_sh, stlS_own, stl_sh, stl_fr, lay_fr, lay_sh, lay_loc, envOf, slotsOf, valN, ghOf, endK, resK, exMu, muN, List.cons_append, List.nil_append, List.append_nil, List.length_cons, List.length_nil, Nat.reduceAdd, Nat.reduceSub, List.replicate_succ, List.replicate_zero, List.replicate,
  List.getElem?_cons_zero, List.getElem?_cons_succ, List.getElem?_nil, List.set_cons_zero, List.set_cons_succ,
  add_ii, add_ss, add_ll, sub_ii, mul_ii, fdv_ii, fdvN_ii, mod_ii, modN_ii, pow_ii, lt_ii, le_ii, gt_ii, ge_ii, eq_ii, ne_ii, ix_li, ix_ti, neg_i, abs_i, int_i, int_b, max_ii, min_ii, len_l, len_t, list_l, list_t, rev_l, isi_int, isi_bl, isi_tup, isi_lst, isi_non, isN_i, isN_n, isN_t, isN_l, notN_i, notN_n, notN_t, notN_l, isTy,
  atI0, atI1, atI2, ixN0, ixN1, ixN2, some_inj_ex, isObj, setAt0, setAt1, setAt2, setAt3, restE, keepS, wipeE, ↓reduceIte, if_false, if_true,
  eCall, eCallP, eMake, pm, eTwo, dLit, eOwn2, eLenO, okLen, eMethP, eMakeP, isC_o, eRepL, lr1_i, lr2_i, List.filterMap_cons, List.filterMap_nil, agNil, agRo, agBo, agMu, agTm, callK, boIx, muIx, tms, argsK, upE, reown, hasBo, noTm, flatRo, noLstAll, noLst, noLsts, List.nodup_nil, List.nodup_cons, List.not_mem_nil, not_false_eq_true, Nat.zero_le, Nat.le_refl, Nat.reduceLeDiff, List.mem_cons, or_false, reduceCtorEq,
  gN, gTp, gLs, gCn, gNl, iR1, iR2, iRL, iLst, iTpl, iEnum, stab,
  ite_self, str_i, fmt_i, fmt_s, isB_b, notB_b, any_l, tup_l, sExt, e0_is, t0_is, d0_is, s0_is, i0_is, sTry, hXk_n, hXk_s, sRaise, eCallX, eCallXP, eMethX, eMakeX, ePropX, eOwn2X, callX, roA, opXv_exn, opIsX_exn, List.map_cons, List.map_nil, Nat.lt_irrefl, Nat.zero_lt_one, Nat.reduceLT, Nat.zero_lt_succ, some_inj_ex,
  Option.isSome_some, Option.isSome_none, true_and, and_true, eq_self, List.length_map, decide_true, decide_false, Bool.not_true, Bool.not_false, not_true_eq_false, Bool.true_eq_false, Bool.false_eq_true, false_imp_iff, forall_const, true_imp_iff, and_self, decide_eq_true_eq, decide_eq_false_iff_not, Bool.not_eq_true', Bool.not_eq_false'])
namespace MP
namespace K60
open K59 (grpF grpF_mem grpF_len grpF_snoc addG)
theorem grpF_nodup (m r : Int) : ∀ (n : Nat) (ps : List (Int × Int)), n = ps.length → (grpF m r ps).Nodup := by
  intro n
  induction n with
  | zero =>
    intro ps h
    have : ps = [] := List.length_eq_zero_iff.mp h.symm
    subst this
    exact List.nodup_nil
  | succ n ih =>
    intro ps h
    have hne : ps ≠ [] := by rintro rfl; simp at h
    obtain ⟨qs, p, rfl⟩ : ∃ qs p, ps = qs ++ [p] := ⟨_, _, (List.dropLast_concat_getLast hne).symm⟩
    have h1 := ih qs (by simp at h; omega)
    rw [grpF_snoc]
    by_cases hp : p.1 % m = r
    · rw [if_pos hp]
      unfold addG
      by_cases hm : p ∈ grpF m r qs
      · rw [if_pos hm]; exact h1
      · rw [if_neg hm]
        exact List.nodup_append.mpr ⟨h1, by simp, fun a ha b hb e => hm (by rw [List.mem_singleton] at hb; rw [← hb, ← e]; exact ha)⟩
    · rw [if_neg hp]; exact h1
end K60
end MP
end TL

namespace TL
open PySem L2
set_option maxHeartbeats 2000000
local macro_rules | `(tactic| walk_at "sx") => `(tactic| try simp only [sSeq, sNil, eDisp1, eDispN, ltT_l, sumT_l, eDIn, eDNotIn, eDSetd, eDNew, eDGet, eDGet2, sDSet, eTake, sAugL, isDc, sCut, ghs_cons, ghs_nil, eKeep, keep_fr, keep_sh, keep_gh, keep_loc, eAd, eDr, eBinG, sAppE, sRevE, sPopE, eFz, fz_sh, fz_fr, fz_gh, fz_loc, ePk, gF, gP, agBg, agMg, agBd, pvw, eCallG, get_gh, stl_gh, pok_gh, owns, List.drop_succ_cons, List.drop_zero, List.take_succ_cons, List.take_zero, List.mem_cons, List.not_mem_nil, or_false, sSet, sFrz, frz_o, frz_sh, frz_s, sIf, sRet, sRetN, sPass, sBrk, sPar, sSub, sApp, sExpr, sAsg, sAug, sFld, sRevI, sPop, eLoc, eC, eUn, eBin, eAnd, eOr, eNot, eIf, eTup, eLst, dNil, dCons, tVal_eq, tstD_bl, tAndW, tOrW, tNotW, eFld_eq, eFldD_o, eProp, eMeth, eMeth0, eSl, pNone, pSome, sl_l,
  out_sh, out_fr, get_loc, get_sh, get_fr, getL_z, getL_o, getL_s, bound_z, bound_o, bound_s, isOwn_o, isOwn_s, pok_loc, pok_sh, pok_fr, stl_loc, stlS_sh, stlS_own, stl_sh, stl_fr, lay_fr, lay_sh, lay_loc, envOf, slotsOf, valN, ghOf, endK, resK, exMu, muN, List.cons_append, List.nil_append, List.append_nil, List.length_cons, List.length_nil, Nat.reduceAdd, Nat.reduceSub, List.replicate_succ, List.replicate_zero, List.replicate,
  List.getElem?_cons_zero, List.getElem?_cons_succ, List.getElem?_nil, List.set_cons_zero, List.set_cons_succ,
  add_ii, add_ss, add_ll, sub_ii, mul_ii, fdv_ii, fdvN_ii, mod_ii, modN_ii, pow_ii, lt_ii, le_ii, gt_ii, ge_ii, eq_ii, ne_ii, ix_li, ix_ti, neg_i, abs_i, int_i, int_b, max_ii, min_ii, len_l, len_t, list_l, list_t, rev_l, isi_int, isi_bl, isi_tup, isi_lst, isi_non, isN_i, isN_n, isN_t, isN_l, notN_i, notN_n, notN_t, notN_l, isTy,
  atI0, atI1, atI2, ixN0, ixN1, ixN2, some_inj_ex, isObj, setAt0, setAt1, setAt2, setAt3, restE, keepS, wipeE, ↓reduceIte, if_false, if_true,
  eCall, eCallP, eMake, pm, eTwo, dLit, eOwn2, eLenO, okLen, eMethP, eMakeP, isC_o, eRepL, lr1_i, lr2_i, List.filterMap_cons, List.filterMap_nil, agNil, agRo, agBo, agMu, agTm, callK, boIx, muIx, tms, argsK, upE, reown, hasBo, noTm, flatRo, noLstAll, noLst, noLsts, List.nodup_nil, List.nodup_cons, List.not_mem_nil, not_false_eq_true, Nat.zero_le, Nat.le_refl, Nat.reduceLeDiff, List.mem_cons, or_false, reduceCtorEq,
  gN, gTp, gLs, gCn, gNl, iR1, iR2, iRL, iLst, iTpl, iEnum, stab,
  ite_self, str_i, fmt_i, fmt_s, isB_b, notB_b, any_l, tup_l, sExt, e0_is, t0_is, d0_is, s0_is, i0_is, sTry, hXk_n, hXk_s, sRaise, eCallX, eCallXP, eMethX, eMakeX, ePropX, eOwn2X, callX, roA, opXv_exn, opIsX_exn, List.map_cons, List.map_nil, Nat.lt_irrefl, Nat.zero_lt_one, Nat.reduceLT, Nat.zero_lt_succ, some_inj_ex,
  Option.isSome_some, Option.isSome_none, true_and, and_true, eq_self, List.length_map, decide_true, decide_false, Bool.not_true, Bool.not_false, not_true_eq_false, Bool.true_eq_false, Bool.false_eq_true, false_imp_iff, forall_const, true_imp_iff, and_self, decide_eq_true_eq, decide_eq_false_iff_not, Bool.not_eq_true', Bool.not_eq_false'])
namespace MP
namespace K61
open K60 (toldF)
/-- two different numbers of each class -/
structure Nums (m : Nat) (xs : List Int) : Prop where
  len : xs.length = 2 * m
  bt : ∀ x ∈ xs, Bt 200 x
  at_ : ∀ r : Nat, r < m → ∃ x y, xs[2 * r]? = some x ∧ xs[2 * r + 1]? = some y ∧ x % (m : Int) = r ∧ y % (m : Int) = r ∧ x < y
/- _law_numbers: 0:cell 1:base 2:picks 3:reach 4:numbers 5:k 6:t -/
/-- from these members nothing can be told back -/
structure Bad (m : Nat) (wr : List (Int × Int)) : Prop where
  sz : K60.Sz wr
  few : wr.length ≤ 500
  no : ∀ qs : List (Int × Int), (∀ p, p ∈ qs ↔ p ∈ wr) → toldF m qs = none
/- _law_faulty: 0:rows 1:sight 2:place 3:sort 4:far 5:many 6:base 7:a 8:b 9:kept 10:x 11:y 12:divisors 13:more 14:early 15:late 16:one 17:k 18:j -/
/-- where the fault lies -/
structure At (rs : List (Int × Int)) (xs : List Int) (place : Nat) (x y a b : Int) : Prop where
  gd : Gd rs
  nu : Nums rs.length xs
  hp : place < rs.length
  hx : xs[2 * place]? = some x
  hy : y = zStep rs x
  hr : rs[place]? = some (a, b)
theorem At.on {rs : List (Int × Int)} {xs : List Int} {place : Nat} {x y a b : Int} (h : At rs xs place x y a b) {z : Int} (hz : z % (rs.length : Int) = place) : (rs.length : Int) * zStep rs z = a * z + b := by
  have e := ruleF_div h.gd.map z
  have := ruleF_some (rs := rs) (n := z) (by have := h.gd.two; omega)
  rw [hz, Int.toNat_natCast, h.hr] at this
  rw [← Option.some.inj this] at e
  exact e
theorem At.two {rs : List (Int × Int)} {xs : List Int} {place : Nat} {x y a b : Int} (h : At rs xs place x y a b) : x % (rs.length : Int) = place ∧ (rs.length : Int) * y = a * x + b ∧ (x, y) ∈ (xs.map fun x => (x, zStep rs x)) ∧ ∃ x2 y2, (x2, y2) ∈ (xs.map fun x => (x, zStep rs x)) ∧ x2 % (rs.length : Int) = place ∧ x < x2 ∧ (rs.length : Int) * y2 = a * x2 + b := by
  obtain ⟨x', x2, e1, e2, e3, e4, e5⟩ := h.nu.at_ place h.hp
  rw [h.hx] at e1
  cases e1
  refine ⟨e3, ?_, List.mem_map.mpr ⟨x, List.mem_of_getElem? h.hx, by rw [h.hy]⟩, x2, zStep rs x2, List.mem_map.mpr ⟨x2, List.mem_of_getElem? e2, rfl⟩, e4, e5, h.on e4⟩
  rw [h.hy]; exact h.on e3
/- law: 0:script 1:rows 2:base 3:sight 4:cell 5:picks 6:far 7:wrong 8:turn 9:handed 10:good 11:m -/
end K61
end MP
end TL

namespace TL
open PySem L2
set_option maxHeartbeats 2000000
local macro_rules | `(tactic| walk_at "sx") => `(tactic| try simp only [sSeq, sNil, eDisp1, eDispN, ltT_l, sumT_l, eDIn, eDNotIn, eDSetd, eDNew, eDGet, eDGet2, sDSet, eTake, sAugL, isDc, sCut, ghs_cons, ghs_nil, eKeep, keep_fr, keep_sh, keep_gh, keep_loc, eAd, eDr, eBinG, sAppE, sRevE, sPopE, eFz, fz_sh, fz_fr, fz_gh, fz_loc, ePk, gF, gP, agBg, agMg, agBd, pvw, eCallG, get_gh, stl_gh, pok_gh, owns, List.drop_succ_cons, List.drop_zero, List.take_succ_cons, List.take_zero, List.mem_cons, List.not_mem_nil, or_false, sSet, sFrz, frz_o, frz_sh, frz_s, sIf, sRet, sRetN, sPass, sBrk, sPar, sSub, sApp, sExpr, sAsg, sAug, sFld, sRevI, sPop, eLoc, eC, eUn, eBin, eAnd, eOr, eNot, eIf, eTup, eLst, dNil, dCons, tVal_eq, tstD_bl, tAndW, tOrW, tNotW, eFld_eq, eFldD_o, eProp, eMeth, eMeth0, eSl, pNone, pSome, sl_l,
  out_sh, out_fr, get_loc, get_sh, get_fr, getL_z, getL_o, getL_s, bound_z, bound_o, bound_s, isOwn_o, isOwn_s, pok_loc, pok_sh, pok_fr, stl_loc, stlS_sh, stlS_own, stl_sh, stl_fr, lay_fr, lay_sh, lay_loc, envOf, slotsOf, valN, ghOf, endK, resK, exMu, muN, List.cons_append, List.nil_append, List.append_nil, List.length_cons, List.length_nil, Nat.reduceAdd, Nat.reduceSub, List.replicate_succ, List.replicate_zero, List.replicate,
  List.getElem?_cons_zero, List.getElem?_cons_succ, List.getElem?_nil, List.set_cons_zero, List.set_cons_succ,
  add_ii, add_ss, add_ll, sub_ii, mul_ii, fdv_ii, fdvN_ii, mod_ii, modN_ii, pow_ii, lt_ii, le_ii, gt_ii, ge_ii, eq_ii, ne_ii, ix_li, ix_ti, neg_i, abs_i, int_i, int_b, max_ii, min_ii, len_l, len_t, list_l, list_t, rev_l, isi_int, isi_bl, isi_tup, isi_lst, isi_non, isN_i, isN_n, isN_t, isN_l, notN_i, notN_n, notN_t, notN_l, isTy,
  atI0, atI1, atI2, ixN0, ixN1, ixN2, some_inj_ex, isObj, setAt0, setAt1, setAt2, setAt3, restE, keepS, wipeE, ↓reduceIte, if_false, if_true,
  eCall, eCallP, eMake, pm, eTwo, dLit, eOwn2, eLenO, okLen, eMethP, eMakeP, isC_o, eRepL, lr1_i, lr2_i, List.filterMap_cons, List.filterMap_nil, agNil, agRo, agBo, agMu, agTm, callK, boIx, muIx, tms, argsK, upE, reown, hasBo, noTm, flatRo, noLstAll, noLst, noLsts, List.nodup_nil, List.nodup_cons, List.not_mem_nil, not_false_eq_true, Nat.zero_le, Nat.le_refl, Nat.reduceLeDiff, List.mem_cons, or_false, reduceCtorEq,
  gN, gTp, gLs, gCn, gNl, iR1, iR2, iRL, iLst, iTpl, iEnum, stab,
  ite_self, str_i, fmt_i, fmt_s, isB_b, notB_b, any_l, tup_l, sExt, e0_is, t0_is, d0_is, s0_is, i0_is, sTry, hXk_n, hXk_s, sRaise, eCallX, eCallXP, eMethX, eMakeX, ePropX, eOwn2X, callX, roA, opXv_exn, opIsX_exn, List.map_cons, List.map_nil, Nat.lt_irrefl, Nat.zero_lt_one, Nat.reduceLT, Nat.zero_lt_succ, some_inj_ex,
  Option.isSome_some, Option.isSome_none, true_and, and_true, eq_self, List.length_map, decide_true, decide_false, Bool.not_true, Bool.not_false, not_true_eq_false, Bool.true_eq_false, Bool.false_eq_true, false_imp_iff, forall_const, true_imp_iff, and_self, decide_eq_true_eq, decide_eq_false_iff_not, Bool.not_eq_true', Bool.not_eq_false'])
namespace MP
namespace K62
open K59 (grpF grpF_mem)
open K60 (ruleT grpF_nodup)
open K64 (fitsB leastF leastF_succ leastF_mono encI)
abbrev sp_pairs_by_remainder : FSpec := K59.sp_pairs_by_remainder
theorem sat_pairs_by_remainder : Sat 7 sp_pairs_by_remainder K59.b_pairs_by_remainder := K59.sat_pairs_by_remainder
abbrev sp_rule_through : FSpec := K60.sp_rule_through
theorem sat_rule_through : Sat 10 sp_rule_through K60.b_rule_through := K60.sat_rule_through
abbrev sp_some_fits : FSpec := K64.sp_some_fits
theorem sat_some_fits : Sat 3 sp_some_fits K64.b_some_fits := K64.sat_some_fits
/-- in each class at most one point, or all on one rule -/
def FitP (m : Nat) (ps : List (Int × Int)) : Prop := ∀ r : Nat, r < m → (∀ p ∈ ps, ∀ q ∈ ps, p.1 % (m : Int) = r → q.1 % (m : Int) = r → p = q) ∨ ∃ a b : Int, 1 ≤ a ∧ Int.gcd a m = 1 ∧ ∀ p ∈ ps, p.1 % (m : Int) = r → a * p.1 + b = m * p.2
theorem fits_iff {m : Nat} (h2 : 2 ≤ m) {ps : List (Int × Int)} : fitsB m ps = true ↔ FitP m ps := by
  unfold fitsB
  rw [decide_eq_true_iff]
  refine ⟨fun h r hr => ?_, fun h r hr => ?_⟩
  · rcases h r hr with h | h
    · left
      intro p hp q hq ep eq
      have mp := (grpF_mem m r _ ps rfl p).mpr ⟨hp, ep⟩
      have mq := (grpF_mem m r _ ps rfl q).mpr ⟨hq, eq⟩
      generalize grpF m r ps = g at *
      match g, h, mp, mq with
      | [x], _, mp, mq => rw [List.mem_singleton.mp mp, List.mem_singleton.mp mq]
    · right
      have mem := fun p => grpF_mem m r _ ps rfl p
      generalize grpF (m : Int) (r : Int) ps = g at *
      match g, h with
      | [], h => cases h
      | [_], h => cases h
      | x :: y :: rest, h =>
        simp only [ruleT] at h
        generalize ((m : Int) * (x.2 - y.2)).fdiv (x.1 - y.1) = a at *
        split at h
        · cases h
        · split at h
          · cases h
          · rename_i h1 h2'
            split at h
            · rename_i h3
              refine ⟨a, (m : Int) * x.2 - a * x.1, by omega, Classical.byContradiction fun z => h2' (.inr z), fun p hp ep => ?_⟩
              have := List.all_eq_true.mp h3 p ((mem p).mpr ⟨hp, ep⟩)
              simpa using this
            · cases h
  · rcases Nat.lt_or_ge 1 (grpF m r ps).length with hl | hl
    · right
      have mem := fun p => grpF_mem m r _ ps rfl p
      have nd := grpF_nodup m r _ ps rfl
      generalize grpF (m : Int) (r : Int) ps = g at *
      match g, hl, nd with
      | x :: y :: rest, hl, nd =>
        have xm := (mem x).mp List.mem_cons_self
        have ym := (mem y).mp (by simp)
        have xy : x ≠ y := fun e => by
          subst e
          exact (List.nodup_cons.mp nd).1 List.mem_cons_self
        rcases h r hr with h | ⟨a, b, ha, hg, hall⟩
        · exact absurd (h x xm.1 y ym.1 xm.2 ym.2) xy
        · have ox := hall x xm.1 xm.2
          have oy := hall y ym.1 ym.2
          have hne2 : x.1 ≠ y.1 := fun e => by
            apply xy
            rw [e] at ox
            have h3 : (m : Int) * x.2 = m * y.2 := by rw [← ox, oy]
            exact Prod.ext e (Int.eq_of_mul_eq_mul_left (by omega) h3)
          have ri : (m : Int) * (x.2 - y.2) = a * (x.1 - y.1) := by rw [Int.mul_sub, Int.mul_sub, ← ox, ← oy]; omega
          have fm : ((m : Int) * (x.2 - y.2)).fmod (x.1 - y.1) = 0 := by rw [ri]; exact Int.mul_fmod_left _ _
          have fd : ((m : Int) * (x.2 - y.2)).fdiv (x.1 - y.1) = a := by rw [ri]; exact Int.mul_fdiv_cancel _ (by omega)
          have eb : (m : Int) * x.2 - a * x.1 = b := by omega
          simp only [ruleT]
          rw [fm, fd, eb, if_neg (by omega), if_neg (by omega), if_pos (List.all_eq_true.mpr fun t ht => decide_eq_true (hall t ((mem t).mp ht).1 ((mem t).mp ht).2))]
          rfl
    · left; exact hl
theorem FitP.congr {m : Nat} {ps qs : List (Int × Int)} (h : ∀ p, p ∈ ps ↔ p ∈ qs) : FitP m ps ↔ FitP m qs := by
  have : ∀ {ps qs : List (Int × Int)}, (∀ p, p ∈ ps ↔ p ∈ qs) → FitP m ps → FitP m qs := fun {ps qs} h f r hr => by
    rcases f r hr with f | ⟨a, b, h1, h2, h3⟩
    · exact .inl fun p hp q hq => f p ((h p).mpr hp) q ((h q).mpr hq)
    · exact .inr ⟨a, b, h1, h2, fun p hp => h3 p ((h p).mpr hp)⟩
  exact ⟨this h, this fun p => (h p).symm⟩
theorem fits_congr {m : Nat} (h2 : 2 ≤ m) {ps qs : List (Int × Int)} (h : ∀ p, p ∈ ps ↔ p ∈ qs) : fitsB m ps = fitsB m qs := by
  rw [Bool.eq_iff_iff, fits_iff h2, fits_iff h2, FitP.congr h]
theorem least_congr {n : Nat} {ps qs : List (Int × Int)} (h : ∀ p, p ∈ ps ↔ p ∈ qs) : leastF n ps = leastF n qs := by
  induction n with
  | zero => rfl
  | succ n ih => rw [leastF_succ, leastF_succ, ih, fits_congr (by omega) h]
theorem leastF_le {n m : Nat} {ps : List (Int × Int)} (h : leastF n ps = some m) : 2 ≤ m ∧ m ≤ n + 1 := by
  unfold leastF at h
  have := List.mem_of_find?_eq_some h
  obtain ⟨k, hk, rfl⟩ := List.mem_map.mp this
  have := List.mem_range.mp hk
  omega
theorem leastF_cut {n k : Nat} (hn : n ≤ k) (ps : List (Int × Int)) : leastF n ps = match leastF k ps with
    | none => none
    | some b => if b ≤ n + 1 then some b else none := by
  cases hc : leastF n ps with
  | some m => rw [leastF_mono hc hn]; exact (if_pos (leastF_le hc).2).symm
  | none =>
    induction k with
    | zero =>
      have : n = 0 := by omega
      subst this; rw [hc]
    | succ k ih =>
      by_cases e : n = k + 1
      · rw [← e, hc]
      · have ih := ih (by omega)
        rw [leastF_succ]
        cases hk : leastF k ps with
        | some b => rw [hk] at ih; exact ih
        | none =>
          by_cases hf : fitsB (k + 2) ps = true
          · rw [if_pos hf]
            show none = if k + 2 ≤ n + 1 then some (k + 2) else none
            rw [if_neg (by omega)]
          · rw [if_neg hf]; rfl
theorem leastF_fit {n m : Nat} {ps : List (Int × Int)} (h2 : 2 ≤ m) (hm : m ≤ n + 1) (hf : fitsB m ps = true) : ∃ b, leastF n ps = some b ∧ b ≤ m := by
  cases hc : leastF (m - 1) ps with
  | some b => exact ⟨b, leastF_mono hc (by omega), by have := (leastF_le hc).2; omega⟩
  | none =>
    have e := leastF_succ (m - 2) ps
    rw [show m - 2 + 1 = m - 1 by omega, show m - 2 + 2 = m by omega, hc, hf] at e
    cases hd : leastF (m - 2) ps with
    | none => rw [hd] at e; cases e
    | some b => rw [hd] at e; cases e
/-- the slope through two points, as the law counts it -/
def slopeF (m : Int) (p q : Int × Int) : Int :=
  if p.1 - q.1 = 0 then (if m * (p.2 - q.2) = 0 then 1 else -1) else
  if (m * (p.2 - q.2)) % (if p.1 - q.1 < 0 then -(p.1 - q.1) else p.1 - q.1) ≠ 0 then -1 else
  if (m * (p.2 - q.2)).fdiv (p.1 - q.1) < 1 ∨ 1 < Int.gcd ((m * (p.2 - q.2)).fdiv (p.1 - q.1)) m then -1 else (m * (p.2 - q.2)).fdiv (p.1 - q.1)
theorem slope_ok {m : Int} (hm : 0 < m) {p q : Int × Int} (h : 0 ≤ slopeF m p q) (hne : p ≠ q) : 1 ≤ slopeF m p q ∧ Int.gcd (slopeF m p q) m = 1 ∧ slopeF m p q * (p.1 - q.1) = m * (p.2 - q.2) ∧ p.1 ≠ q.1 := by
  unfold slopeF at h ⊢
  by_cases h1 : p.1 - q.1 = 0
  · rw [if_pos h1] at h
    by_cases h2 : m * (p.2 - q.2) = 0
    · exfalso
      rcases Int.mul_eq_zero.mp h2 with z | z
      · omega
      · exact hne (Prod.ext (by omega) (by omega))
    · rw [if_neg h2] at h; omega
  · rw [if_neg h1] at h ⊢
    by_cases h2 : (m * (p.2 - q.2)) % (if p.1 - q.1 < 0 then -(p.1 - q.1) else p.1 - q.1) ≠ 0
    · rw [if_pos h2] at h; omega
    · rw [if_neg h2] at h ⊢
      by_cases h3 : (m * (p.2 - q.2)).fdiv (p.1 - q.1) < 1 ∨ 1 < Int.gcd ((m * (p.2 - q.2)).fdiv (p.1 - q.1)) m
      · rw [if_pos h3] at h; omega
      · rw [if_neg h3]
        have hd : (p.1 - q.1) ∣ m * (p.2 - q.2) := by
          have := Int.dvd_of_emod_eq_zero (Classical.byContradiction h2)
          split at this
          · exact Int.neg_dvd.mp this
          · exact this
        have e : (m * (p.2 - q.2)).fdiv (p.1 - q.1) * (p.1 - q.1) = m * (p.2 - q.2) := by
          obtain ⟨c, hc⟩ := hd
          rw [hc, Int.mul_fdiv_cancel_left _ h1]
          exact Int.mul_comm _ _
        have g0 : 0 < Int.gcd ((m * (p.2 - q.2)).fdiv (p.1 - q.1)) m := Int.gcd_pos_of_ne_zero_right _ (by omega)
        exact ⟨by omega, by omega, e, by omega⟩
theorem slope_eq {m : Int} {p q : Int × Int} {a : Int} (ha : 1 ≤ a) (hg : Int.gcd a m = 1) (h : a * (p.1 - q.1) = m * (p.2 - q.2)) (hne : p.1 ≠ q.1) : slopeF m p q = a := by
  unfold slopeF
  have hz : p.1 - q.1 ≠ 0 := by omega
  have e : (m * (p.2 - q.2)).fdiv (p.1 - q.1) = a := by rw [← h]; exact Int.mul_fdiv_cancel _ hz
  rw [if_neg hz, e, if_neg, if_neg (by omega)]
  intro z
  apply z
  rw [← h]
  split
  · rw [Int.emod_neg]; exact Int.mul_emod_left _ _
  · exact Int.mul_emod_left _ _
def Bp (p : Int × Int) : Prop := Bt 2000 p.1 ∧ Bt 2000 p.2
def sp_law_slope : FSpec := fun args kr _ => ∃ (m : Nat) (p q : Int × Int), args = [.ro (.int m), .ro (encR p), .ro (encR q)] ∧ 2 ≤ m ∧ m ≤ 1000 ∧ Bp p ∧ Bp q ∧ kr (.sh (.int (slopeF m p q))) []
/- _law_slope: 0:m 1:one 2:other 3:across 4:rise 5:a -/
def b_law_slope : SW := (sSeq (sFrz 3 (sSet 3 (eBin opSub (eBin opIx (eLoc 1) (eC (.int 0))) (eBin opIx (eLoc 2) (eC (.int 0))))))
  (sSeq (sFrz 4 (sSet 4 (eBin opMul (eLoc 0) (eBin opSub (eBin opIx (eLoc 1) (eC (.int 1))) (eBin opIx (eLoc 2) (eC (.int 1)))))))
  (sSeq (sIf (tVal (eBin opEq (eLoc 3) (eC (.int 0)))) (sRet (eBin opSub (eC (.int 1)) (eBin opMul (eC (.int 2)) (eUn opInt (eBin opNe (eLoc 4) (eC (.int 0))))))) sNil)
  (sSeq (sIf (tVal (eBin opNe (eBin opMod (eLoc 4) (eUn opAbs (eLoc 3))) (eC (.int 0)))) (sRet (eUn opNeg (eC (.int 1)))) sNil)
  (sSeq (sFrz 5 (sSet 5 (eBin opFdvN (eLoc 4) (eLoc 3))))
  (sSeq (sIf (tOrW (tVal (eBin opLt (eLoc 5) (eC (.int 1)))) (tVal (eBin opGt (eCall 2 sp_law_gcd (agRo (eLoc 5) (agRo (eLoc 0) agNil))) (eC (.int 1))))) (sRet (eUn opNeg (eC (.int 1)))) sNil)
  (sRet (eLoc 5))))))))
theorem sat_law_slope : Sat 6 sp_law_slope b_law_slope := by
  rintro args mus kr kx hm ⟨m, p, q, rfl, hm2, hm1, sp, sq, hk⟩
  obtain rfl := mus0 hm
  have bm : Bt 40 (m : Int) := Bt.small (by omega) (by omega)
  have br : Bt 2050 ((m : Int) * (p.2 - q.2)) := (bm.mul (sp.2.sub sq.2)).mono (by omega)
  have bx : Bt 2001 (p.1 - q.1) := sp.1.sub sq.1
  unfold b_law_slope
  walk_at "sx"
  dsimp only [encR]
  walk_at "sx"
  unfold slopeF at hk
  refine ⟨bm.mulOk (sp.2.sub sq.2) (by omega), fun h1 => ?_, fun h1 => ⟨by split <;> omega, fun h2 => ?_, fun h2 => ⟨⟨h1, (show Bt 9000 _ from bx.mono (by omega))⟩, fun h3 => ?_, fun h3 => ⟨_, _, rfl, ?_⟩⟩⟩⟩
  · rw [if_pos h1] at hk
    by_cases h2 : (m : Int) * (p.2 - q.2) = 0
    · rw [if_pos h2] at hk
      rw [if_neg (fun z => z h2)]
      exact ⟨by unfold MulOk; decide, hk⟩
    · rw [if_neg h2] at hk
      rw [if_pos h2]
      exact ⟨by unfold MulOk; decide, hk⟩
  · rw [if_neg h1, if_pos h2] at hk; exact hk
  · rw [if_neg h1, if_neg (by simpa using h2), if_pos (.inl h3)] at hk; exact hk
  · rw [if_neg h1, if_neg (by simpa using h2)] at hk
    walk_at "sx"
    refine ⟨fun h4 => ?_, fun h4 => ?_⟩
    · rw [if_pos (.inr (by omega))] at hk; exact hk
    · rw [if_neg (by omega)] at hk; exact hk
/-- what the dict holds -/
def lookI (k : Int) : List (Int × Int) → Option Int
  | [] => none
  | p :: r => if p.1 = k then some p.2 else lookI k r
theorem eqD_ii (a b : Int) : eqD (.int a) (.int b) = decide (a = b) := by rw [eqD_int]
theorem valI (k : Int) : ∀ L : List (Int × Int), valD (L.map fun p => D.int p.1) (L.map fun p => D.int p.2) (.int k) = (lookI k L).map D.int
  | [] => rfl
  | p :: r => by
    show (if eqD (.int p.1) (.int k) = true then some (D.int p.2) else valD (r.map fun p => D.int p.1) (r.map fun p => D.int p.2) (.int k)) = (if p.1 = k then some p.2 else lookI k r).map _
    rw [eqD_ii, valI k r]
    by_cases h : p.1 = k
    · rw [if_pos (by simp [h]), if_pos h]; rfl
    · rw [if_neg (by simp [h]), if_neg h]
theorem putKI {k j : Int} : ∀ {L : List (Int × Int)}, lookI k L = none → putKD (L.map fun p => D.int p.1) (.int k) = (L ++ [(k, j)]).map fun p => D.int p.1
  | [], _ => rfl
  | p :: r, h => by
    have h : (if p.1 = k then some p.2 else lookI k r) = none := h
    split at h
    · cases h
    · rename_i e
      show (if eqD (.int p.1) (.int k) = true then _ else D.int p.1 :: putKD (r.map fun p => D.int p.1) (.int k)) = _
      rw [eqD_ii, if_neg (by simp [e]), putKI h]
      rfl
theorem putVI {k j : Int} : ∀ {L : List (Int × Int)}, lookI k L = none → putVD (L.map fun p => D.int p.1) (L.map fun p => D.int p.2) (.int k) (.int j) = (L ++ [(k, j)]).map fun p => D.int p.2
  | [], _ => rfl
  | p :: r, h => by
    have h : (if p.1 = k then some p.2 else lookI k r) = none := h
    split at h
    · cases h
    · rename_i e
      show (if eqD (.int p.1) (.int k) = true then _ else D.int p.2 :: putVD (r.map fun p => D.int p.1) (r.map fun p => D.int p.2) (.int k) (.int j)) = _
      rw [eqD_ii, if_neg (by simp [e]), putVI h]
      rfl
theorem lookI_snoc (q k j : Int) : ∀ L : List (Int × Int), lookI q (L ++ [(k, j)]) = match lookI q L with | some r => some r | none => if k = q then some j else none
  | [] => rfl
  | p :: r => by
    show (if p.1 = q then some p.2 else lookI q (r ++ [(k, j)])) = match (if p.1 = q then some p.2 else lookI q r) with | some r => some r | none => if k = q then some j else none
    rw [lookI_snoc q k j r]
    by_cases h : p.1 = q
    · rw [if_pos h, if_pos h]
    · rw [if_neg h, if_neg h]
theorem lookI_mem {k a : Int} : ∀ {L : List (Int × Int)}, lookI k L = some a → (k, a) ∈ L
  | p :: r, h => by
    have h : (if p.1 = k then some p.2 else lookI k r) = some a := h
    split at h
    · rename_i e
      cases h
      rw [← e]; exact List.mem_cons_self
    · exact List.mem_cons_of_mem _ (lookI_mem h)
/-- two different points of the class k -/
def Duo (m : Nat) (ps : List (Int × Int)) (k : Int) (p q : Int × Int) : Prop := p ∈ ps ∧ q ∈ ps ∧ p ≠ q ∧ p.1 % (m : Int) = k ∧ q.1 % (m : Int) = k
/-- the slopes noted so far: i rows whole, of the next one j points -/
structure Tab (m : Nat) (ps : List (Int × Int)) (L : List (Int × Int)) (i j : Nat) : Prop where
  from_ : ∀ e ∈ L, ∃ p q, Duo m ps e.1 p q ∧ slopeF m p q = e.2
  done : ∀ (i' j' : Nat) (p q : Int × Int) (k : Int), ps[i']? = some p → ps[j']? = some q → Duo m ps k p q → (i' < i ∧ j' < i' ∨ i' = i ∧ j' < j) → 0 ≤ slopeF m p q ∧ lookI k L = some (slopeF m p q)
/-- the same slope in a whole class -/
theorem duo_slope {m : Nat} (h2 : 2 ≤ m) {ps : List (Int × Int)} (hf : FitP m ps) {p q p' q' : Int × Int} {k : Int} (h : Duo m ps k p q) (h' : Duo m ps k p' q') : 0 ≤ slopeF m p q ∧ slopeF m p q = slopeF m p' q' := by
  obtain ⟨hp, hq, hne, ep, eq⟩ := h
  obtain ⟨hp', hq', hne', ep', eq'⟩ := h'
  have k0 := Int.emod_nonneg p.1 (show (m : Int) ≠ 0 by omega)
  have k1 := Int.emod_lt_of_pos p.1 (show (0 : Int) < m by omega)
  obtain ⟨r, hr⟩ := Int.eq_ofNat_of_zero_le k0
  rcases hf r (by omega) with f | ⟨a, b, ha, hg, hall⟩
  · exact absurd (f p hp q hq hr (by omega)) hne
  · have s : ∀ u v : Int × Int, u ∈ ps → v ∈ ps → u ≠ v → u.1 % (m : Int) = k → v.1 % (m : Int) = k → slopeF m u v = a := fun u v hu hv hne eu ev => by
      have ou := hall u hu (by omega)
      have ov := hall v hv (by omega)
      refine slope_eq ha hg (by rw [Int.mul_sub, Int.mul_sub, ← ou, ← ov]; omega) fun e => hne ?_
      rw [e] at ou
      exact Prod.ext e (Int.eq_of_mul_eq_mul_left (show (m : Int) ≠ 0 by omega) (by rw [← ou, ← ov]))
    rw [s p q hp hq hne ep eq, s p' q' hp' hq' hne' ep' eq']
    exact ⟨by omega, rfl⟩
theorem slope_swap {m : Int} (hm : 0 < m) {p q : Int × Int} (h : 0 ≤ slopeF m p q) (hne : p ≠ q) : slopeF m q p = slopeF m p q := by
  obtain ⟨h1, h2, h3, h4⟩ := slope_ok hm h hne
  refine slope_eq h1 h2 ?_ (Ne.symm h4)
  have e1 : q.1 - p.1 = -(p.1 - q.1) := by omega
  have e2 : q.2 - p.2 = -(p.2 - q.2) := by omega
  rw [e1, e2, Int.mul_neg, Int.mul_neg, h3]
/-- all slopes noted: the points fit -/
theorem Tab.fit {m : Nat} (h2 : 2 ≤ m) {ps L : List (Int × Int)} (h : Tab m ps L ps.length 0) : FitP m ps := by
  intro r hr
  by_cases hall : ∀ p ∈ ps, ∀ q ∈ ps, p.1 % (m : Int) = r → q.1 % (m : Int) = r → p = q
  · exact .inl hall
  · right
    have key : ∀ p q, Duo m ps r p q → 0 ≤ slopeF m p q ∧ lookI r L = some (slopeF m p q) := fun p q d => by
      obtain ⟨hp, hq, hne, ep, eq⟩ := d
      obtain ⟨i, hi⟩ := List.getElem?_of_mem hp
      obtain ⟨j, hj⟩ := List.getElem?_of_mem hq
      have hi2 := (List.getElem?_eq_some_iff.mp hi).1
      have hj2 := (List.getElem?_eq_some_iff.mp hj).1
      rcases Nat.lt_trichotomy i j with hij | hij | hij
      · have := h.done j i q p r hj hi ⟨hq, hp, Ne.symm hne, eq, ep⟩ (.inl ⟨hj2, hij⟩)
        rw [← slope_swap (by omega) this.1 (Ne.symm hne)] at this
        exact this
      · subst hij
        rw [hi] at hj
        exact absurd (Option.some.inj hj) hne
      · exact h.done i j p q r hi hj ⟨hp, hq, hne, ep, eq⟩ (.inl ⟨hi2, hij⟩)
    have ⟨p, hp, q, hq, ep, eq, hne⟩ : ∃ p, p ∈ ps ∧ ∃ q, q ∈ ps ∧ p.1 % (m : Int) = r ∧ q.1 % (m : Int) = r ∧ p ≠ q := Classical.byContradiction fun z => hall fun p hp q hq ep eq => Classical.byContradiction fun hne => z ⟨p, hp, q, hq, ep, eq, hne⟩
    obtain ⟨s0, s1⟩ := key p q ⟨hp, hq, hne, ep, eq⟩
    obtain ⟨h1, h3, h4, h5⟩ := slope_ok (by omega) s0 hne
    refine ⟨slopeF m p q, m * p.2 - slopeF m p q * p.1, h1, h3, fun t ht et => ?_⟩
    by_cases e : t = p
    · subst e; omega
    · obtain ⟨t0, t1⟩ := key t p ⟨ht, hp, e, et, ep⟩
      rw [s1] at t1
      have t1 := Option.some.inj t1
      obtain ⟨_, _, h6, _⟩ := slope_ok (show (0 : Int) < m by omega) t0 e
      rw [← t1, Int.mul_sub, Int.mul_sub] at h6
      omega
def sp_law_lets : FSpec := fun args kr _ => ∃ (m : Nat) (ps : List (Int × Int)), args = [.ro (.int m), .ro (encRs ps)] ∧ 2 ≤ m ∧ m ≤ 1000 ∧ ps.length ≤ 1000 ∧ (∀ p ∈ ps, Bp p) ∧ kr (.sh (.bl (fitsB m ps))) []
def sp_law_least : FSpec := fun args kr _ => ∃ (ps : List (Int × Int)), args = [.ro (encRs ps)] ∧ ps.length ≤ 1000 ∧ (∀ p ∈ ps, Bp p) ∧ kr (.sh (encI (leastF 59 ps))) []
/- _law_lets: 0:m 1:told 2:slopes 3:i 4:j 5:k 6:a -/
def b_law_lets : SW := (sSeq (sSet 2 (eDNew false))
  (sSeq (sFor (iR1 (dCons (eUn opLen (eLoc 1)) dNil)) (gN 3) (sFor (iR1 (dCons (eLoc 3) dNil)) (gN 4) (sSeq (sFrz 5 (sSet 5 (eBin opMod (eUn opInt (eBin opIx (eBin opIx (eLoc 1) (eLoc 3)) (eC (.int 0)))) (eLoc 0))))
  (sIf (tAndW (tVal (eBin opEq (eLoc 5) (eBin opMod (eUn opInt (eBin opIx (eBin opIx (eLoc 1) (eLoc 4)) (eC (.int 0)))) (eLoc 0)))) (tVal (eBin opNe (eBin opIx (eLoc 1) (eLoc 3)) (eBin opIx (eLoc 1) (eLoc 4))))) (sSeq (sFrz 6 (sSet 6 (eCall 3 sp_law_slope (agRo (eLoc 0) (agRo (eBin opIx (eLoc 1) (eLoc 3)) (agRo (eBin opIx (eLoc 1) (eLoc 4)) agNil))))))
  (sIf (tOrW (tVal (eBin opLt (eLoc 6) (eC (.int 0)))) (tVal (eBin opNe (eDSetd 2 (eLoc 5) (eLoc 6)) (eLoc 6)))) (sRet (eC (.bl false))) sNil)) sNil))))
  (sRet (eC (.bl true)))))
/- _law_least: 0:told 1:m -/
def b_law_least : SW := (sSeq (sFor (iR2 (dLit [(.int 2), (.int 61)] dNil)) (gN 1) (sIf (tVal (eCall 2 sp_law_lets (agRo (eLoc 1) (agRo (eLoc 0) agNil)))) (sRet (eLoc 1)) sNil))
  (sRet (eC .non)))
theorem sat_law_lets : Sat 7 sp_law_lets b_law_lets := by
  rintro args mus kr kx hm ⟨m, ps, rfl, hm2, hm1, hl, hb, hk⟩
  obtain rfl := mus0 hm
  unfold b_law_lets
  unfold sFor
  walk_at "sx"
  intro a2
  refine ⟨by omega, fun i ρ => ∃ (L : List (Int × Int)) (e3 e4 e5 e6 : Sl), ρ = [.sh (.int m), .sh (encRs ps), .own false a2 (.dic (.bl false :: L.map fun p => D.int p.1) (L.map fun p => D.int p.2)), e3, e4, e5, e6] ∧ Tab m ps L i 0 ∧ L.length ≤ i * 1000,
    ⟨[], _, _, _, _, rfl, ⟨by simp, fun i' j' p q k _ _ _ h => by omega⟩, by simp⟩, fun _ _ _ _ => trivial, ?_, ?_⟩
  · rintro i d ρ hi rfl ⟨L, e3, e4, e5, e6, rfl, tab, hL⟩
    have hi : i < ps.length := by simpa using hi
    obtain ⟨p, hp⟩ : ∃ p, ps[i]? = some p := ⟨_, List.getElem?_eq_getElem hi⟩
    walk_at "sx"
    refine ⟨by omega, fun j ρ => ∃ (L : List (Int × Int)) (e4 e5 e6 : Sl), ρ = [.sh (.int m), .sh (encRs ps), .own false a2 (.dic (.bl false :: L.map fun p => D.int p.1) (L.map fun p => D.int p.2)), .sh (.int i), e4, e5, e6] ∧ Tab m ps L i j ∧ L.length ≤ i * 1000 + j,
      ⟨L, _, _, _, rfl, tab, by omega⟩, fun _ _ _ _ => trivial, ?_, ?_⟩
    · rintro j d ρ hj rfl ⟨L, e4, e5, e6, rfl, tab, hL⟩
      have hj : j < i := by simpa using hj
      obtain ⟨q, hq⟩ : ∃ q, ps[j]? = some q := ⟨_, List.getElem?_eq_getElem (by omega)⟩
      have hp2 := List.mem_of_getElem? hp
      have hq2 := List.mem_of_getElem? hq
      have ap : L2.atI (ps.map encR) (i : Int) = some (encR p) := by
        rw [K59.atI_natG (by rw [List.length_map]; exact hi), List.getElem?_map, hp]; rfl
      have aq : L2.atI (ps.map encR) (j : Int) = some (encR q) := by
        rw [K59.atI_natG (by rw [List.length_map]; omega), List.getElem?_map, hq]; rfl
      rw [show encRs ps = .lst (ps.map encR) from rfl]
      walk_at "sx"
      refine ⟨_, ap, ?_⟩
      dsimp only [encR]
      walk_at "sx"
      have more : ∀ {L' : List (Int × Int)}, (∀ e ∈ L', ∃ p q, Duo m ps e.1 p q ∧ slopeF m p q = e.2) → (∀ k a, lookI k L = some a → lookI k L' = some a) → (∀ k, Duo m ps k p q → 0 ≤ slopeF m p q ∧ lookI k L' = some (slopeF m p q)) → Tab m ps L' i (j + 1) := fun {L'} hf hx hn => by
        refine ⟨hf, fun i' j' p' q' k h1 h2 h3 h4 => ?_⟩
        by_cases e : i' = i ∧ j' = j
        · obtain ⟨rfl, rfl⟩ := e
          rw [hp] at h1; rw [hq] at h2
          cases h1; cases h2
          exact hn k h3
        · have := tab.done i' j' p' q' k h1 h2 h3 (by omega)
          exact ⟨this.1, hx _ _ this.2⟩
      refine ⟨by omega, _, aq, ?_⟩
      dsimp only [encR]
      walk_at "sx"
      refine ⟨by omega, fun hc => ?_, fun hc => ⟨L, _, _, _, rfl, more tab.from_ (fun _ _ h => h) (fun k d => absurd (by rw [d.2.2.2.1, d.2.2.2.2]) hc), by omega⟩⟩
      refine ⟨_, ap, ?_⟩
      walk_at "sx"
      refine ⟨_, aq, ?_⟩
      rw [ne_r]
      walk_at "sx"
      refine ⟨fun hne => ⟨_, ap, _, aq, m, p, q, rfl, hm2, hm1, hb p hp2, hb q hq2, ?_⟩, fun he => ⟨L, _, _, _, rfl, more tab.from_ (fun _ _ h => h) (fun k d => absurd he d.2.2.1), by omega⟩⟩
      have duo : Duo m ps (p.1 % (m : Int)) p q := ⟨hp2, hq2, hne, rfl, hc.symm⟩
      have duoK : ∀ k, Duo m ps k p q → k = p.1 % (m : Int) := fun k d => d.2.2.2.1.symm
      have no : (FitP m ps → False) → kr (.sh (.bl false)) [] := fun z => by
        have : fitsB m ps = false := by
          cases hf : fitsB m ps with
          | false => rfl
          | true => exact (z ((fits_iff hm2).mp hf)).elim
        rw [this] at hk
        exact hk
      walk_at "sx"
      generalize hs : slopeF m p q = s at *
      refine ⟨fun hlt => no fun hf => by have := (duo_slope hm2 hf duo duo).1; omega, fun hge => ⟨key_i _, line_big (by omega), fun d hd => ?_, fun hd => ?_⟩⟩
      · rw [valI] at hd
        obtain ⟨a, ha, rfl⟩ := Option.map_eq_some_iff.mp hd
        walk_at "sx"
        refine ⟨fun hne2 => no fun hf => ?_, fun heq => ?_⟩
        · obtain ⟨p', q', d', e'⟩ := tab.from_ _ (lookI_mem ha)
          have := (duo_slope hm2 hf duo d').2
          rw [hs, e'] at this
          exact hne2 this.symm
        · exact ⟨L, _, _, _, rfl, more tab.from_ (fun _ _ h => h) (fun k d => by rw [duoK k d]; exact ⟨by omega, by rw [ha, heq]⟩), by omega⟩
      · rw [valI] at hd
        have hd := Option.map_eq_none_iff.mp hd
        rw [putKI (j := s) hd, putVI hd]
        refine ⟨L ++ [(p.1 % (m : Int), s)], _, _, _, rfl, more (fun e he => ?_) (fun k a ha => ?_) (fun k d => ?_), by rw [List.length_append, List.length_singleton]; omega⟩
        · rcases List.mem_append.mp he with he | he
          · exact tab.from_ e he
          · rw [List.mem_singleton.mp he]
            exact ⟨p, q, duo, hs⟩
        · rw [lookI_snoc, ha]
        · rw [duoK k d, lookI_snoc, hd]
          exact ⟨by omega, if_pos rfl⟩
    · rintro ρ ⟨L, e4, e5, e6, rfl, tab, hL⟩
      refine ⟨L, _, _, _, _, rfl, ⟨tab.from_, fun i' j' p' q' k h1 h2 h3 h4 => ?_⟩, by omega⟩
      rcases h4 with h4 | h4
      · by_cases e : i' = i
        · exact tab.done i' j' p' q' k h1 h2 h3 (.inr ⟨e, by have : (i : Int).toNat = i := by omega
                                                             omega⟩)
        · exact tab.done i' j' p' q' k h1 h2 h3 (.inl (by omega))
      · omega
  · rintro ρ ⟨L, e3, e4, e5, e6, rfl, tab, hL⟩
    walk_at "sx"
    have : fitsB m ps = true := (fits_iff hm2).mpr (Tab.fit hm2 (by simpa using tab))
    rw [this] at hk
    exact hk
theorem sat_law_least : Sat 2 sp_law_least b_law_least := by
  rintro args mus kr kx hm ⟨ps, rfl, hl, hb, hk⟩
  obtain rfl := mus0 hm
  unfold b_law_least
  unfold sFor
  walk_at "sx"
  refine ⟨by omega, fun i ρ => ∃ e, ρ = [.sh (encRs ps), e] ∧ leastF i ps = none, ⟨_, rfl, rfl⟩, fun _ _ _ _ => trivial, ?_, ?_⟩
  · rintro i d ρ hi rfl ⟨e, rfl, hno⟩
    have hi : i < 59 := by simpa using hi
    walk_at "sx"
    refine ⟨i + 2, ps, by rw [show ((i + 2 : Nat) : Int) = 2 + i by omega], by omega, by omega, hl, hb, ?_⟩
    walk_at "sx"
    have e2 := leastF_succ i ps
    rw [hno] at e2
    refine ⟨fun h => ?_, fun h => ⟨_, rfl, by rw [e2, h]; rfl⟩⟩
    rw [h] at e2
    rw [leastF_mono e2 (by omega : i + 1 ≤ 59)] at hk
    rw [show (2 + (i : Int)) = ((i + 2 : Nat) : Int) by omega]
    exact hk
  · rintro ρ ⟨e, rfl, hno⟩
    walk_at "sx"
    have hno : leastF 59 ps = none := hno
    rw [hno] at hk
    exact hk
def sp_law_numbers_by : FSpec := fun args kr _ => ∃ cs : List Int, args = [.ro (encZs cs)] ∧ (∀ c ∈ cs, Bt 2000000 c) ∧ cs.length ≤ 1000 ∧ ∀ xs : List Int, xs.length = cs.length → (∀ x ∈ xs, Bt 200 x) → kr (.fr (encZs xs)) []
def sp_least_modulus : FSpec := fun args kr _ => ∃ (n : Int) (ps : List (Int × Int)), args = [.ro (encRs ps), .ro (.int n)] ∧ 0 ≤ n ∧ n ≤ 1000 ∧ ps.length ≤ 1000 ∧ K60.Sz ps ∧ kr (.sh (encI (leastF (n - 1).toNat ps))) []
/- _law_numbers_by: 0:cells 1:numbers 2:cell 3:picks -/
def b_law_numbers_by : SW := (sSeq (sSet 1 (eLst dNil))
  (sSeq (sFor (iLst (eLoc 0)) (gN 2) (sSeq (sFrz 3 (sSet 3 (eCall 2 sp_law_picks (agRo (eLoc 2) (agRo (eLst (dLit [(.int 3), (.int 31)] dNil)) agNil)))))
  (sApp 1 (eBin opIx (eLst (dCons (eCall 2 sp_law_number (agRo (eLoc 2) (agRo (eBin opPow (eC (.int 10)) (eC (.int 25))) agNil))) (dCons (eBin opSub (eBin opIx (eLoc 3) (eC (.int 1))) (eC (.int 15))) (dCons (eBin opSub (eBin opIx (eLoc 3) (eC (.int 1))) (eC (.int 15))) dNil)))) (eBin opIx (eLoc 3) (eC (.int 0)))))))
  (sRet (eLoc 1))))
/- least_modulus: 0:seen 1:most 2:modulus -/
def b_least_modulus : SW := (sSeq (sIf (tVal (eBin opLt (eLoc 1) (eC (.int 0)))) sNever sNil)
  (sSeq (sFor (iR2 (dCons (eC (.int 2)) (dCons (eBin opAdd (eLoc 1) (eC (.int 1))) dNil))) (gN 2) (sIf (tVal (eCall 2 sp_some_fits (agRo (eLoc 2) (agRo (eLoc 0) agNil)))) (sRet (eLoc 2)) sNil))
  (sRet (eC .non))))
/- law: 0:script 1:rows 2:numbers 3:told 4:picks 5:x 6:y 7:best 8:bound 9:due 10:handed 11:found -/
def b_law_t10 : SW := (sSeq (sIf (tOrW (tVal (eBin opNe (eCall 2 sp_least_modulus (agRo (eUn opRev (eLoc 3)) (agRo (eC (.int 60)) agNil))) (eLoc 7))) (tVal (eBin opNe (eCallP 2 [1, 0] sp_least_modulus (agRo (eC (.int 60)) (agRo (eUn opList (eLoc 3)) agNil))) (eLoc 7)))) (sRet (eC (.bl false))) sNil)
  (sRet (eAnd (eBin opEq (eCall 2 sp_least_modulus (agRo (eLst dNil) (agRo (eC (.int 2)) agNil))) (eC (.int 2))) (eAnd (eBin opEq (eCall 2 sp_least_modulus (agRo (eSl (eLoc 3) pNone (pSome (eC (.int 1)))) (agRo (eC (.int 60)) agNil))) (eC (.int 2))) (eUn opIsN (eCall 2 sp_least_modulus (agRo (eLst dNil) (agRo (eC (.int 1)) agNil))))))))
def b_law_t9 : SW := (sSeq (sFor (iLst (eLst (dCons (eBin opSub (eUn opLen (eLoc 1)) (eC (.int 1))) (dCons (eUn opLen (eLoc 1)) (dCons (eC (.int 60)) (dCons (eBin opIx (eLoc 4) (eC (.int 3))) (dCons (eC (.int 60)) dNil))))))) (gN 8) (sSeq (sSet 9 (eLoc 7))
  (sSeq (sIf (tAndW (tVal (eUn opNotN (eLoc 7))) (tVal (eBin opGt (eLoc 7) (eLoc 8)))) (sSet 9 (eC .non)) sNil)
  (sSeq (sFrz 10 (sSet 10 (eUn opList (eLoc 3))))
  (sSeq (sFrz 11 (sSet 11 (eCall 2 sp_least_modulus (agRo (eLoc 10) (agRo (eLoc 8) agNil)))))
  (sIf (tOrW (tVal (eBin opNe (eLoc 11) (eLoc 9))) (tOrW (tVal (eBin opNe (eLoc 10) (eLoc 3))) (tAndW (tVal (eUn opNotN (eLoc 11))) (tNotW (tVal (eCall 1 sp_law_whole (agRo (eLoc 11) agNil))))))) (sRet (eC (.bl false))) sNil))))))
  b_law_t10)
def b_law_t7 : SW := (sSeq (sFrz 7 (sSet 7 (eCall 1 sp_law_least (agBo 3 agNil))))
  (sSeq (sIf (tAndW (tVal (eBin opNotIn (eBin opIx (eLoc 4) (eC (.int 0))) (eLst (dLit [(.int 1), (.int 2)] dNil)))) (tOrW (tVal (eUn opIsN (eLoc 7))) (tVal (eBin opGt (eLoc 7) (eUn opLen (eLoc 1)))))) (sRet (eC (.bl false))) sNil)
  b_law_t9))
def b_law_t6 : SW := (sSeq (sIf (tVal (eBin opEq (eBin opIx (eLoc 4) (eC (.int 0))) (eC (.int 2)))) (sApp 3 (eTup (dCons (eLoc 5) (dCons (eBin opSub (eBin opSub (eLoc 6) (eC (.int 1))) (eBin opIx (eLoc 4) (eC (.int 2)))) dNil)))) sNil)
  b_law_t7)
def b_law_t5 : SW := (sSeq (sIf (tVal (eBin opEq (eBin opIx (eLoc 4) (eC (.int 0))) (eC (.int 1)))) (sSub 3 (eBin opMod (eBin opIx (eLoc 4) (eC (.int 1))) (eUn opLen (eLoc 3))) (eTup (dCons (eLoc 5) (dCons (eBin opAdd (eBin opAdd (eLoc 6) (eC (.int 1))) (eBin opIx (eLoc 4) (eC (.int 2)))) dNil)))) sNil)
  b_law_t6)
def b_law_t2 : SW := (sSeq (sSet 3 (eComp (iLst (eLoc 2)) (gN 5) tYesW (eTup (dCons (eLoc 5) (dCons (eCall 2 sp_law_step (agRo (eLoc 1) (agRo (eLoc 5) agNil))) dNil))) [5]))
  (sSeq (sFrz 4 (sSet 4 (eCall 2 sp_law_picks (agRo (eCall 2 sp_law_cell_at (agRo (eLoc 0) (agRo (eC (.int 1)) agNil))) (agRo (eLst (dLit [(.int 4), (.int 40), (.int 4), (.int 61)] dNil)) agNil)))))
  (sSeq (sAsg (eBin opIx (eLoc 3) (eBin opMod (eBin opIx (eLoc 4) (eC (.int 1))) (eUn opLen (eLoc 3)))) (gTp 2 (gCn (gN 5) (gCn (gN 6) gNl))))
  b_law_t5)))
def b_law : SW := (sSeq (sFrz 1 (sSet 1 (eCall 4 sp_law_rows (agRo (eCall 2 sp_law_cell_at (agRo (eLoc 0) (agRo (eC (.int 0)) agNil))) (agRo (eC (.int 12)) (agRo (eC (.int 1)) (agRo (eBin opPow (eC (.int 10)) (eC (.int 5))) agNil)))))))
  (sSeq (sFrz 2 (sSet 2 (eCall 1 sp_law_numbers_by (agRo (eBin opAdd (eSl (eLoc 0) (pSome (eC (.int 2))) (pSome (eC (.int 40)))) (eLst (dCons (eC (.int 7)) dNil))) agNil))))
  b_law_t2))
theorem e25 : (10 : Int) ^ (Int.toNat 25) = 10000000000000000000000000 := by decide
theorem cp25 : CPow 10 25 := by unfold CPow; decide
theorem e5 : (10 : Int) ^ (Int.toNat 5) = 100000 := by decide
theorem cp5 : CPow 10 5 := by unfold CPow; decide
theorem sat_law_numbers_by : Sat 4 sp_law_numbers_by b_law_numbers_by := by
  rintro args mus kr kx hm ⟨cs, rfl, hc, hl, hk⟩
  obtain rfl := mus0 hm
  unfold b_law_numbers_by
  unfold sFor
  walk_at "sx"
  intro a1
  refine ⟨fun i ρ => ∃ (xs : List Int) (e2 e3 : Sl), ρ = [.sh (encZs cs), .own false a1 (encZs xs), e2, e3] ∧ xs.length = i ∧ ∀ x ∈ xs, Bt 200 x, ⟨[], _, _, rfl, rfl, by simp⟩, fun _ _ _ _ => trivial, ?_, ?_⟩
  · rintro i d ρ hi hd ⟨xs, e2, e3, rfl, hxl, hxb⟩
    obtain ⟨c, hc2, rfl⟩ := get_map hd
    have bc := hc c (List.mem_of_getElem? hc2)
    walk_at "sx"
    refine ⟨c, [3, 31], rfl, bc, ?_, by simp, ?_⟩
    · intro s hs
      simp only [List.mem_cons, List.not_mem_nil, or_false] at hs
      rcases hs with rfl | rfl <;> exact ⟨by omega, by unfold Bt; decide⟩
    have q0 := pkF_bd (c := c) (ss := [3, 31]) (i := 0) (s := 3) rfl (by omega)
    have q1 := pkF_bd (c := c) (ss := [3, 31]) (i := 1) (s := 31) rfl (by omega)
    have a0 : L2.atI ((picksF c [3, 31]).map D.int) 0 = some (.int (pkF c [3, 31] 0)) := atI_pk (by omega) (by decide)
    have a1' : L2.atI ((picksF c [3, 31]).map D.int) 1 = some (.int (pkF c [3, 31] 1)) := atI_pk (by omega) (by decide)
    walk_at "sx"
    rw [e25]
    refine ⟨⟨_, _, _, rfl⟩, cp25, c, _, rfl, by omega, ?_⟩
    walk_at "sx"
    refine ⟨_, a1', ?_⟩
    walk_at "sx"
    refine ⟨_, a1', ?_⟩
    walk_at "sx"
    refine ⟨_, a0, ?_⟩
    have bn : Bt 200 (numF c 10000000000000000000000000) := (numF_bt (n := 90) (by omega) (by unfold Bt; decide)).mono (by omega)
    have bp : Bt 200 (pkF c [3, 31] 1 - 15) := (Bt.small (by omega) (by omega)).mono (by omega)
    obtain ⟨z, hz, bz⟩ : ∃ z : Int, L2.atI [D.int (numF c 10000000000000000000000000), D.int (pkF c [3, 31] 1 - 15), D.int (pkF c [3, 31] 1 - 15)] (pkF c [3, 31] 0) = some (.int z) ∧ Bt 200 z := by
      have : pkF c [3, 31] 0 = 0 ∨ pkF c [3, 31] 0 = 1 ∨ pkF c [3, 31] 0 = 2 := by omega
      rcases this with h | h | h <;> rw [h]
      · exact ⟨_, rfl, bn⟩
      · exact ⟨_, rfl, bp⟩
      · exact ⟨_, rfl, bp⟩
    walk_at "sx"
    refine ⟨_, hz, ?_⟩
    walk_at "sx"
    refine ⟨line_big (by omega), xs ++ [z], .sh (.int c), .sh (encZs (picksF c [3, 31])), by simp [encZs], by simp [hxl], fun x hx => ?_⟩
    rcases List.mem_append.mp hx with h | h
    · exact hxb x h
    · rw [List.mem_singleton.mp h]; exact bz
  · rintro ρ ⟨xs, e2, e3, rfl, hxl, hxb⟩
    walk_at "sx"
    exact hk xs hxl hxb
theorem sat_least_modulus : Sat 3 sp_least_modulus b_least_modulus := by
  rintro args mus kr kx hm ⟨n, ps, rfl, h0, hn, hl, hs, hk⟩
  obtain rfl := mus0 hm
  unfold b_least_modulus
  unfold sFor
  walk_at "sx"
  refine ⟨fun h => absurd h (by omega), fun _ => ⟨by omega, ?_⟩⟩
  refine ⟨fun i ρ => ∃ e, ρ = [.sh (encRs ps), .sh (.int n), e] ∧ leastF i ps = none, ⟨_, rfl, rfl⟩, fun _ _ _ _ => trivial, ?_, ?_⟩
  · rintro i d ρ hi rfl ⟨e, rfl, hno⟩
    walk_at "sx"
    refine ⟨i + 2, ps, by rw [show ((i + 2 : Nat) : Int) = 2 + i by omega], by omega, by omega, hl, hs, ?_⟩
    walk_at "sx"
    have e2 := leastF_succ i ps
    rw [hno] at e2
    refine ⟨fun h => ?_, fun h => ⟨_, rfl, by rw [e2, h]; rfl⟩⟩
    rw [h] at e2
    rw [leastF_mono e2 (by omega : i + 1 ≤ (n - 1).toNat)] at hk
    rw [show (2 + (i : Int)) = ((i + 2 : Nat) : Int) by omega]
    exact hk
  · rintro ρ ⟨e, rfl, hno⟩
    walk_at "sx"
    rw [show (n + 1 - 2).toNat = (n - 1).toNat by omega] at hno
    rw [hno] at hk
    exact hk
theorem t9 {kx : Nat → D → Prop} {K : SK} {ns : List Int} {rs ts : List (Int × Int)} {xs : List Int} {c : Int} {a3 : Addr} {e5 e6 : Sl} (h2 : 2 ≤ rs.length) (h12 : rs.length ≤ 12) (hl1 : 1 ≤ ts.length) (hl : ts.length ≤ 1000) (hb : ∀ p ∈ ts, Bp p)
    (hK : ∀ rest, K.rt (.sh (.bl true)) (.sh (encZs ns) :: rest)) : b_law_t9 (fun c d _ => kx c d) [.sh (encZs ns), .sh (encRs rs), .sh (encZs xs), .own false a3 (encRs ts), .sh (encZs (picksF c [4, 40, 4, 61])), e5, e6, .sh (encI (leastF 59 ts)), .no, .no, .no, .no] K := by
  have q3 := pkF_bd (c := c) (ss := [4, 40, 4, 61]) (i := 3) (s := 61) rfl (by omega)
  have a3' : L2.atI ((picksF c [4, 40, 4, 61]).map D.int) 3 = some (.int (pkF c [4, 40, 4, 61] 3)) := atI_pk (by omega) (by decide)
  unfold b_law_t9
  unfold sFor
  walk_at "sx"
  refine ⟨_, a3', ?_⟩
  walk_at "sx"
  have sz : K60.Sz ts := hb
  have nrr : ∀ (rs : List (Int × Int)) (k : Ro → Prop), opNe (encRs rs) (encRs rs) k = k (.sh (.bl false)) := by
    intro rs k
    rw [ne_rr]; simp
  have nee : ∀ (o : Option Nat) (k : Ro → Prop), opNe (encI o) (encI o) k = k (.sh (.bl false)) := fun o k => ne_same (by cases o <;> rfl)
  refine ⟨fun i ρ => ∃ e8 e9 e10 e11 : Sl, ρ = [.sh (encZs ns), .sh (encRs rs), .sh (encZs xs), .own false a3 (encRs ts), .sh (encZs (picksF c [4, 40, 4, 61])), e5, e6, .sh (encI (leastF 59 ts)), e8, e9, e10, e11], ⟨_, _, _, _, rfl⟩, fun _ _ _ _ => trivial, ?_, ?_⟩
  · rintro i d ρ hi hd ⟨e8, e9, e10, e11, rfl⟩
    obtain ⟨w, rfl, w0, w60⟩ : ∃ w : Int, d = .int w ∧ 0 ≤ w ∧ w ≤ 60 := by
      have := List.mem_of_getElem? hd
      simp only [List.mem_cons, List.not_mem_nil, or_false] at this
      rcases this with rfl | rfl | rfl | rfl | rfl
      · exact ⟨_, rfl, by omega, by omega⟩
      · exact ⟨_, rfl, by omega, by omega⟩
      · exact ⟨_, rfl, by omega, by omega⟩
      · exact ⟨_, rfl, by omega, by omega⟩
      · exact ⟨_, rfl, by omega, by omega⟩
    have cut := leastF_cut (n := (w - 1).toNat) (k := 59) (by omega) ts
    cases hbest : leastF 59 ts with
    | none =>
      rw [hbest] at cut
      have cut : leastF (w - 1).toNat ts = none := cut
      dsimp only [encI]
      walk_at "sx"
      refine ⟨w, ts, rfl, w0, by omega, hl, sz, ?_⟩
      rw [cut]
      dsimp only [encI]
      walk_at "sx"
      have nnn : ∀ k : Ro → Prop, opNe .non .non k = k (.sh (.bl false)) := fun k => ne_same rfl
      rw [nnn]
      walk_at "sx"
      rw [show D.lst (ts.map encR) = encRs ts from rfl, nrr]
      walk_at "sx"
      exact ⟨_, _, _, _, rfl⟩
    | some b =>
      have b2 := (leastF_le hbest).1
      rw [hbest] at cut
      have cut : leastF (w - 1).toNat ts = if b ≤ (w - 1).toNat + 1 then some b else none := cut
      dsimp only [encI]
      walk_at "sx"
      refine ⟨fun hgt => ⟨w, ts, rfl, w0, by omega, hl, sz, ?_⟩, fun hle => ⟨w, ts, rfl, w0, by omega, hl, sz, ?_⟩⟩
      · rw [cut, if_neg (by omega)]
        dsimp only [encI]
        walk_at "sx"
        have nnn : ∀ k : Ro → Prop, opNe .non .non k = k (.sh (.bl false)) := fun k => ne_same rfl
        rw [nnn]
        walk_at "sx"
        rw [show D.lst (ts.map encR) = encRs ts from rfl, nrr]
        walk_at "sx"
        exact ⟨_, _, _, _, rfl⟩
      · rw [cut, if_pos (by omega)]
        dsimp only [encI]
        walk_at "sx"
        rw [show D.lst (ts.map encR) = encRs ts from rfl, nrr]
        walk_at "sx"
        refine ⟨_, rfl, ?_⟩
        walk_at "sx"
        exact ⟨_, _, _, _, rfl⟩
  · rintro ρ ⟨e8, e9, e10, e11, rfl⟩
    walk_at "sx"
    unfold b_law_t10
    walk_at "sx"
    refine ⟨60, ts.reverse, by rw [show encRs ts.reverse = .lst (ts.map encR).reverse by simp [encRs]], by omega, by omega, by rw [List.length_reverse]; exact hl, fun p hp => sz p (List.mem_reverse.mp hp), ?_⟩
    rw [show (60 - 1 : Int).toNat = 59 from rfl, least_congr (qs := ts) (fun p => List.mem_reverse)]
    walk_at "sx"
    rw [nee]
    walk_at "sx"
    refine ⟨60, ts, rfl, by omega, by omega, hl, sz, ?_⟩
    rw [show (60 - 1 : Int).toNat = 59 from rfl]
    walk_at "sx"
    rw [nee]
    walk_at "sx"
    refine ⟨2, [], rfl, by omega, by omega, by simp, (fun p h => by cases h), ?_⟩
    have enc2 : encI (leastF (2 - 1 : Int).toNat []) = .int 2 := by
      rw [show leastF (2 - 1 : Int).toNat [] = some 2 by decide +kernel]; rfl
    rw [enc2]
    walk_at "sx"
    obtain ⟨t0, ts', rfl⟩ : ∃ t0 ts', ts = t0 :: ts' := by
      cases ts with
      | nil => simp at hl1
      | cons a b => exact ⟨a, b, rfl⟩
    have c1 : cutL (List.map encR (t0 :: ts')) none (some 1) = [t0].map encR := by
      rw [show (1 : Int) = ((1 : Nat) : Int) from rfl, cutL_take (by simp)]
      rfl
    rw [c1]
    have f1 : leastF 59 [t0] = some 2 := by
      obtain ⟨b, h1, h3⟩ := leastF_fit (n := 59) (m := 2) (ps := [t0]) (by omega) (by omega) ((fits_iff (by omega)).mpr fun r hr => .inl fun p hp q hq _ _ => by rw [List.mem_singleton.mp hp, List.mem_singleton.mp hq])
      have := (leastF_le h1).1
      rw [h1, show b = 2 by omega]
    refine ⟨60, [t0], rfl, by omega, by omega, by simp, fun p hp => sz p (by rw [List.mem_singleton.mp hp]; exact List.mem_cons_self), ?_⟩
    have enc3 : encI (leastF (60 - 1 : Int).toNat [t0]) = .int 2 := by
      rw [show (60 - 1 : Int).toNat = 59 from rfl, f1]; rfl
    rw [enc3]
    walk_at "sx"
    refine ⟨1, [], rfl, by omega, by omega, by simp, (fun p h => by cases h), ?_⟩
    rw [show encI (leastF (1 - 1 : Int).toNat []) = .non from rfl]
    walk_at "sx"
    exact hK _
theorem t7 {kx : Nat → D → Prop} {K : SK} {ns : List Int} {rs ts : List (Int × Int)} {xs : List Int} {c : Int} {a3 : Addr} {e5 e6 : Sl} (h2 : 2 ≤ rs.length) (h12 : rs.length ≤ 12) (hl1 : 1 ≤ ts.length) (hl : ts.length ≤ 1000) (hb : ∀ p ∈ ts, Bp p)
    (hf : pkF c [4, 40, 4, 61] 0 ≠ 1 → pkF c [4, 40, 4, 61] 0 ≠ 2 → FitP rs.length ts)
    (hK : ∀ rest, K.rt (.sh (.bl true)) (.sh (encZs ns) :: rest)) : b_law_t7 (fun c d _ => kx c d) [.sh (encZs ns), .sh (encRs rs), .sh (encZs xs), .own false a3 (encRs ts), .sh (encZs (picksF c [4, 40, 4, 61])), e5, e6, .no, .no, .no, .no, .no] K := by
  have q0 := pkF_bd (c := c) (ss := [4, 40, 4, 61]) (i := 0) (s := 4) rfl (by omega)
  have q3 := pkF_bd (c := c) (ss := [4, 40, 4, 61]) (i := 3) (s := 61) rfl (by omega)
  have a0 : L2.atI ((picksF c [4, 40, 4, 61]).map D.int) 0 = some (.int (pkF c [4, 40, 4, 61] 0)) := atI_pk (by omega) (by decide)
  have a3' : L2.atI ((picksF c [4, 40, 4, 61]).map D.int) 3 = some (.int (pkF c [4, 40, 4, 61] 3)) := atI_pk (by omega) (by decide)
  unfold b_law_t7
  walk_at "sx"
  refine ⟨ts, rfl, hl, hb, ?_⟩
  have hfl : ∀ o : Option Nat, noLst (encI o) = true := fun o => by cases o <;> rfl
  walk_at "sx"
  refine ⟨hfl _, _, a0, ?_⟩
  rw [show D.lst [D.int 1, D.int 2] = encZs [1, 2] from rfl, K59.inI]
  walk_at "sx"
  have fin := t9 (kx := kx) (K := K) (ns := ns) (rs := rs) (ts := ts) (xs := xs) (c := c) (a3 := a3) (e5 := e5) (e6 := e6) h2 h12 hl1 hl hb hK
  refine ⟨fun hni => ?_, fun _ => fin⟩
  have hni : pkF c [4, 40, 4, 61] 0 ≠ 1 ∧ pkF c [4, 40, 4, 61] 0 ≠ 2 := by simpa using hni
  obtain ⟨b, hb1, hb2⟩ := leastF_fit (n := 59) (m := rs.length) h2 (by omega) ((fits_iff h2).mpr (hf hni.1 hni.2))
  rw [hb1] at fin ⊢
  dsimp only [encI] at fin ⊢
  walk_at "sx"
  exact ⟨fun h => absurd h (by omega), fun _ => fin⟩
def sp_law : FSpec := fun args kr _ => ∃ ns : List Int, args = [.ro (encZs ns)] ∧ (∀ n ∈ ns, Bt 2000000 n) ∧ ns.length ≤ 1000 ∧ kr (.sh (.bl true)) []
theorem sat_law : Sat 12 sp_law b_law := by
  rintro args mus kr kx hm ⟨ns, rfl, hns, hln, hk⟩
  obtain rfl := mus0 hm
  unfold b_law
  walk_at "sx"
  refine ⟨ns, 0, rfl, by omega, hns, fun c0 hc0 => ?_⟩
  walk_at "sx"
  rw [e5]
  refine ⟨cp5, c0, 12, 1, _, rfl, hc0, by omega, by omega, by omega, by omega, by omega, by unfold Bt; decide, fun rs hrs => ?_⟩
  have hbf := baseF_bd (c := c0) (most := 12) (by omega)
  have hlen := hrs.len
  have gd : Gd rs := Gd.of hrs (by omega) (by omega)
  have h2 : 2 ≤ rs.length := by omega
  have h12 : rs.length ≤ 12 := by omega
  clear hrs hlen hbf
  walk_at "sx"
  obtain ⟨cs, hcs, hcb, hcl, hcl1⟩ : ∃ cs : List Int, cutL (List.map D.int ns) (some 2) (some 40) ++ [D.int 7] = cs.map D.int ∧ (∀ c ∈ cs, Bt 2000000 c) ∧ cs.length ≤ 39 ∧ 1 ≤ cs.length := by
    refine ⟨cutL ns (some 2) (some 40) ++ [7], by rw [cutL_map]; simp, fun c hc => ?_, ?_, by simp⟩
    · rcases List.mem_append.mp hc with h | h
      · exact hns c (cutL_sub h)
      · rw [List.mem_singleton.mp h]; unfold Bt; decide
    · unfold cutL
      rw [show (2 : Int) = ((2 : Nat) : Int) from rfl, show (40 : Int) = ((40 : Nat) : Int) from rfl, HT.sIx_nat, HT.sIx_nat, List.length_append, List.length_take, List.length_drop, List.length_singleton]
      omega
  refine ⟨Nat.le_of_lt (line_big (by have := congrArg List.length hcs; simp at this; omega)), cs, by rw [hcs], hcb, by omega, fun xs hxl hxb => ?_⟩
  walk_at "sx"
  unfold b_law_t2
  walk_at "sx"
  simp only [eComp, tYesW]
  walk_at "sx"
  refine ⟨fun i acc ρ => acc = ((xs.take i).map fun x => (x, zStep rs x)).map encR ∧ ρ = [.sh (encZs ns), .sh (encRs rs), .sh (encZs xs), .no, .no, .no, .no, .no, .no, .no, .no, .no], ⟨rfl, rfl⟩, fun _ _ _ _ _ => trivial, ?_, ?_⟩
  · rintro i d acc ρ hi hd ⟨rfl, rfl⟩
    obtain ⟨x, hx, rfl⟩ := get_map hd
    have bx := hxb x (List.mem_of_getElem? hx)
    walk_at "sx"
    refine ⟨rs, x, rfl, gd.map, bx.mono (by omega), ?_⟩
    walk_at "sx"
    refine ⟨line_big (by rw [List.length_take]; omega), ?_⟩
    rw [take_snoc hx]
    simp [encR]
  rintro acc ρ ⟨rfl, rfl⟩
  rw [List.take_length]
  intro a3
  walk_at "sx"
  refine ⟨ns, 1, rfl, by omega, hns, fun c1 hc1 => ?_⟩
  walk_at "sx"
  refine ⟨c1, [4, 40, 4, 61], rfl, hc1, ?_, by simp, ?_⟩
  · intro s hs
    simp only [List.mem_cons, List.not_mem_nil, or_false] at hs
    rcases hs with rfl | rfl | rfl | rfl <;> exact ⟨by omega, by unfold Bt; decide⟩
  have q0 := pkF_bd (c := c1) (ss := [4, 40, 4, 61]) (i := 0) (s := 4) rfl (by omega)
  have q1 := pkF_bd (c := c1) (ss := [4, 40, 4, 61]) (i := 1) (s := 40) rfl (by omega)
  have q2 := pkF_bd (c := c1) (ss := [4, 40, 4, 61]) (i := 2) (s := 4) rfl (by omega)
  have a0 : L2.atI ((picksF c1 [4, 40, 4, 61]).map D.int) 0 = some (.int (pkF c1 [4, 40, 4, 61] 0)) := atI_pk (by omega) (by decide)
  have a1 : L2.atI ((picksF c1 [4, 40, 4, 61]).map D.int) 1 = some (.int (pkF c1 [4, 40, 4, 61] 1)) := atI_pk (by omega) (by decide)
  have a2 : L2.atI ((picksF c1 [4, 40, 4, 61]).map D.int) 2 = some (.int (pkF c1 [4, 40, 4, 61] 2)) := atI_pk (by omega) (by decide)
  walk_at "sx"
  unfold b_law_t5
  walk_at "sx"
  refine ⟨_, a1, ?_⟩
  walk_at "sx"
  have hx1 : 1 ≤ xs.length := by omega
  have z0 := Int.emod_nonneg (pkF c1 [4, 40, 4, 61] 1) (show (xs.length : Int) ≠ 0 by omega)
  have z1 := Int.emod_lt_of_pos (pkF c1 [4, 40, 4, 61] 1) (show (0 : Int) < xs.length by omega)
  obtain ⟨k, hk2⟩ := Int.eq_ofNat_of_zero_le z0
  rw [hk2]
  obtain ⟨x, hx⟩ : ∃ x, xs[k]? = some x := ⟨_, List.getElem?_eq_getElem (by omega)⟩
  have bx := hxb x (List.mem_of_getElem? hx)
  have sb : ∀ z, Bt 200 z → Bp (z, zStep rs z) := fun z hz => ⟨hz.mono (by omega), (zStep_bt gd.map (sz600 gd) hz).mono (by omega)⟩
  have sb8 : Bt 900 (zStep rs x) := (zStep_bt gd.map (sz600 gd) bx).mono (by omega)
  have ax : L2.atI ((xs.map fun x => (x, zStep rs x)).map encR) (k : Int) = some (encR (x, zStep rs x)) := by
    rw [K59.atI_natG (by rw [List.length_map, List.length_map]; omega), List.getElem?_map, List.getElem?_map, hx]; rfl
  have sm : ∀ z : Int, z.natAbs ≤ 1000000 → Bt 900 z := fun z h => (Bt.small (by omega) (by omega)).mono (by omega : 40 ≤ 900)
  have seenB : ∀ p ∈ xs.map (fun x => (x, zStep rs x)), Bp p := fun p hp => by
    obtain ⟨z, hz, rfl⟩ := List.mem_map.mp hp
    exact sb z (hxb z hz)
  have hsl : (xs.map fun x => (x, zStep rs x)).length = xs.length := List.length_map _
  refine ⟨by omega, _, ax, ?_⟩
  dsimp only [encR]
  walk_at "sx"
  refine ⟨_, a0, ?_⟩
  walk_at "sx"
  have fin : ∀ (ts : List (Int × Int)) (e5 e6 : Sl), 1 ≤ ts.length → ts.length ≤ 1000 → (∀ p ∈ ts, Bp p) → (pkF c1 [4, 40, 4, 61] 0 ≠ 1 → pkF c1 [4, 40, 4, 61] 0 ≠ 2 → FitP rs.length ts) → b_law_t7 (fun c d _ => kx c d) [.sh (encZs ns), .sh (encRs rs), .sh (encZs xs), .own false a3 (encRs ts), .sh (encZs (picksF c1 [4, 40, 4, 61])), e5, e6, .no, .no, .no, .no, .no] { nx := endK [.ro (encZs ns)] [] kr (.sh .non), rt := endK [.ro (encZs ns)] [] kr } :=
    fun ts e5 e6 h1 h3 h4 h5 => t7 h2 h12 h1 h3 h4 h5 fun rest => by
      walk_at "sx"
      exact hk
  refine ⟨fun h1 => ?_, fun h1 => ?_⟩
  · refine ⟨_, a2, ?_⟩
    walk_at "sx"
    refine ⟨_, a1, ?_⟩
    walk_at "sx"
    rw [hk2]
    refine ⟨by omega, k, by rw [K58.ixN_nat (by omega)], ?_⟩
    unfold b_law_t6
    walk_at "sx"
    refine ⟨_, a0, ?_⟩
    walk_at "sx"
    refine ⟨fun h3 => absurd h3 (by omega), fun _ => ?_⟩
    have := fin ((xs.map fun x => (x, zStep rs x)).set k (x, zStep rs x + 1 + pkF c1 [4, 40, 4, 61] 2)) (.sh (.int x)) (.sh (.int (zStep rs x))) (by rw [List.length_set]; omega) (by rw [List.length_set]; omega) (fun p hp => ?_) (fun h _ => absurd h1 h)
    · rw [show encRs ((xs.map fun x => (x, zStep rs x)).set k (x, zStep rs x + 1 + pkF c1 [4, 40, 4, 61] 2)) = .lst (((xs.map fun x => (x, zStep rs x)).map encR).set k (.tup [.int x, .int (zStep rs x + 1 + pkF c1 [4, 40, 4, 61] 2)])) by unfold encRs; rw [List.map_set]] at this
      exact this
    · rcases List.mem_or_eq_of_mem_set hp with h | h
      · exact seenB p h
      · rw [h]
        exact ⟨bx.mono (by omega), ((sb8.add (sm 1 (by decide))).add ((sm _ (by omega)).mono (by omega : 900 ≤ 901))).mono (by omega)⟩
  · unfold b_law_t6
    walk_at "sx"
    refine ⟨_, a0, ?_⟩
    walk_at "sx"
    refine ⟨fun h3 => ?_, fun h3 => ?_⟩
    · refine ⟨⟨_, _, _, rfl⟩, _, a2, ?_⟩
      walk_at "sx"
      refine ⟨line_big (by omega), ?_⟩
      have := fin ((xs.map fun x => (x, zStep rs x)) ++ [(x, zStep rs x - 1 - pkF c1 [4, 40, 4, 61] 2)]) (.sh (.int x)) (.sh (.int (zStep rs x))) (by simp) (by rw [List.length_append, List.length_singleton]; omega) (fun p hp => ?_) (fun _ h => absurd h3 h)
      · rw [show encRs ((xs.map fun x => (x, zStep rs x)) ++ [(x, zStep rs x - 1 - pkF c1 [4, 40, 4, 61] 2)]) = .lst ((xs.map fun x => (x, zStep rs x)).map encR ++ [.tup [.int x, .int (zStep rs x - 1 - pkF c1 [4, 40, 4, 61] 2)]]) by simp [encRs, encR]] at this
        exact this
      · rcases List.mem_append.mp hp with h | h
        · exact seenB p h
        · rw [List.mem_singleton.mp h]
          exact ⟨bx.mono (by omega), ((sb8.sub (sm 1 (by decide))).sub ((sm _ (by omega)).mono (by omega : 900 ≤ 901))).mono (by omega)⟩
    · refine fin _ _ _ (by omega) (by omega) seenB fun _ _ => ?_
      intro r hr
      right
      obtain ⟨p, hp⟩ : ∃ p, rs[r]? = some p := ⟨_, List.getElem?_eq_getElem hr⟩
      have ok := gd.ok.ok _ _ hp
      refine ⟨p.1, p.2, ok.1.1, ok.1.2.1, fun q hq eq => ?_⟩
      obtain ⟨z, hz, rfl⟩ := List.mem_map.mp hq
      have e := ruleF_div gd.map z
      have := ruleF_some (rs := rs) (n := z) (by omega)
      rw [eq, Int.toNat_natCast, hp] at this
      rw [← Option.some.inj this] at e
      exact e.symm
end K62
end MP
end TL

namespace TL
open PySem PySem.Spec L2
namespace MP.K62
def top (i : Nat) : Stmt := PySem.Challenge.pw_reststeps_k62_least_moduli.main.body.getD i (.Pass ⟨0, 0, 0, 0⟩)
abbrev s_pairs_by_remainder : Stmt := top 6
abbrev s_gcd : Stmt := top 4
abbrev s_rule_through : Stmt := top 7
abbrev s_some_fits : Stmt := top 8
abbrev s_least_modulus : Stmt := top 9
abbrev s_law_whole : Stmt := top 16
abbrev s_law_gcd : Stmt := top 13
abbrev s_law_slope : Stmt := top 19
abbrev s_law_lets : Stmt := top 20
abbrev s_law_least : Stmt := top 21
abbrev s_law_picks : Stmt := top 12
abbrev s_law_cell_at : Stmt := top 11
abbrev s_law_step : Stmt := top 17
abbrev s_law_number : Stmt := top 15
abbrev s_law_numbers_by : Stmt := top 18
abbrev s_law_rows : Stmt := top 14
abbrev s_law : Stmt := top 22
section
variable {P : Program} {w : World} {K : PySem.W.Frag} {mg : Str → Option Value} {base : Heap} {C : Ccs}
theorem sc_pairs_by_remainder : FnScope ["modulus", "seen", "groups", "x", "y", "group", "remainder"] ["modulus", "seen"] (defScope s_pairs_by_remainder) := ⟨rfl, rfl, rfl, by decide +kernel, rfl, by decide +kernel, by decide +kernel⟩
theorem ok_pairs_by_remainder {f_pairs_by_remainder : Addr} {d_pairs_by_remainder : FuncData} (F : Fun K "pairs_by_remainder" "pairs_by_remainder" s_pairs_by_remainder f_pairs_by_remainder d_pairs_by_remainder) (cK : C.cc.K = K) (n_range : mg "range" = none) : FnOk P w K mg base CX0 1 f_pairs_by_remainder d_pairs_by_remainder ["modulus", "seen"] (LSp0 C sp_pairs_by_remainder 2) :=
  fn_ok F sc_pairs_by_remainder sat_pairs_by_remainder (by decide) fun cdv A outer s H E Z hcc hz hr => have hK : Z.cc.K = K := by rw [hcc]; exact cK
  (ds_cons (ds_frz (i := 2) (ds_setLc (i := 2) (own := [("remainder", 6)]) rfl sc_pairs_by_remainder.nd (di_r1 rfl n_range (da_cons (de_loc 0) da_nil)) (blkOk_by (own := [("remainder", 6)]) (N := ["modulus", "seen", "groups", "x", "y", "group", "remainder"]) (sc := defScope s_pairs_by_remainder) (by decide +kernel)) (fun _ _ _ _ _ => (dgc_name (i := 6) sc_pairs_by_remainder.nd)) (fun _ _ _ _ _ _ _ => dts_nil) (fun _ _ _ _ _ _ _ => (de_keep (de_lst da_nil))) (sw_true rfl rfl rfl (by decide +kernel))))
  (ds_cons (ds_for PassesOwn.never rfl (di_lst hK (de_loc 1)) (dg_tup rfl (dgs_cons (dg_name (i := 3) sc_pairs_by_remainder.nd) (dgs_cons (dg_name (i := 4) sc_pairs_by_remainder.nd) dgs_nil))) (ds_cons (ds_set (i := 5) sc_pairs_by_remainder.nd (de_ix hK (de_loc 2) (de_bin op_mod ops_mod (de_loc 3) (de_loc 0))))
  (ds_one (ds_if (dt_cmpG (op_notInD (room65 hr)) (ops_notIn hK) (de_tup (da_cons (de_loc 3) (da_cons (de_loc 4) da_nil))) (de_dr (de_loc 5)) (by rfl)) (ds_one (ds_appE (de_dr (de_loc 5)) (de_tup (da_cons (de_loc 3) (da_cons (de_loc 4) da_nil))))) ds_nil))))
  (ds_one (ds_ret (de_fz (de_loc 2) (Nat.le_of_ble_eq_true rfl))))))
theorem sc_gcd : FnScope ["one", "other"] ["one", "other"] (defScope s_gcd) := ⟨rfl, rfl, rfl, by decide +kernel, rfl, by decide +kernel, by decide +kernel⟩
theorem ok_gcd {f_gcd : Addr} {d_gcd : FuncData} (F : Fun K "gcd" "gcd" s_gcd f_gcd d_gcd) (cK : C.cc.K = K) (n_abs : mg "abs" = none) : FnOk P w K mg base CX0 1 f_gcd d_gcd ["one", "other"] (LSp0 C sp_gcd 2) :=
  fn_ok F sc_gcd sat_gcd (by decide) fun cdv A outer s H E Z hcc hz hr => have hK : Z.cc.K = K := by rw [hcc]; exact cK
  (ds_cons (ds_frz (i := 0) (ds_set (i := 0) sc_gcd.nd (de_b1 call_abs ops_abs n_abs (de_loc 0))))
  (ds_cons (ds_frz (i := 1) (ds_set (i := 1) sc_gcd.nd (de_b1 call_abs ops_abs n_abs (de_loc 1))))
  (ds_cons (ds_while PassesOwn.never (dt_cmp op_gt ops_gt (de_loc 1) de_int (nomark _)) (ds_one (ds_par (i := 0) (j := 1) rfl sc_gcd.nd (da_cons (de_loc 1) (da_cons (de_bin op_mod ops_mod (de_loc 0) (de_loc 1)) da_nil)))))
  (ds_one (ds_ret (de_loc 0))))))
theorem sc_rule_through : FnScope ["modulus", "pairs", "x", "y", "across", "rise", "a", "b", "number", "reached"] ["modulus", "pairs"] (defScope s_rule_through) := ⟨rfl, rfl, rfl, by decide +kernel, rfl, by decide +kernel, by decide +kernel⟩
theorem ok_rule_through {f_rule_through : Addr} {d_rule_through : FuncData} (F : Fun K "rule_through" "rule_through" s_rule_through f_rule_through d_rule_through) (cK : C.cc.K = K) {f_gcd : Addr} {d_gcd : FuncData} (ok_gcd : FnOk P w K mg base CX0 1 f_gcd d_gcd ["one", "other"] (LSp0 C sp_gcd 2)) (B_gcd : Binds K d_gcd ["one", "other"] []) (M_gcd : mg "gcd" = some (.ref f_gcd)) (K_gcd : PySem.W.keepIn K (.ref f_gcd) = true) : FnOk P w K mg base CX0 2 f_rule_through d_rule_through ["modulus", "pairs"] (LSp0 C sp_rule_through 2) :=
  fn_ok F sc_rule_through sat_rule_through (by decide) fun cdv A outer s H E Z hcc hz hr => have hK : Z.cc.K = K := by rw [hcc]; exact cK
  (ds_cons (ds_asg (de_ix hK (de_loc 1) de_int) (dg_tup rfl (dgs_cons (dg_name (i := 2) sc_rule_through.nd) (dgs_cons (dg_name (i := 3) sc_rule_through.nd) dgs_nil))))
  (ds_cons (ds_frz (i := 4) (ds_set (i := 4) sc_rule_through.nd (de_bin op_sub ops_sub (de_loc 2) (de_ix hK (de_ix hK (de_loc 1) de_int) de_int))))
  (ds_cons (ds_frz (i := 5) (ds_set (i := 5) sc_rule_through.nd (de_bin op_mulX ops_mul (de_loc 0) (de_bin op_sub ops_sub (de_loc 3) (de_ix hK (de_ix hK (de_loc 1) de_int) de_int)))))
  (ds_cons (ds_if (PW.pt (dw_or (dt_cmp (op_eqD hr.units) (ops_eq hK) (de_loc 4) de_int (nomark _)) (dw_or1 (dt_cmp (op_neD hr.units) (ops_ne hK) (de_bin op_modN ops_modN (de_loc 5) (de_loc 4)) de_int (nomark _))))) (ds_one (ds_ret de_non)) ds_nil)
  (ds_cons (ds_frz (i := 6) (ds_set (i := 6) sc_rule_through.nd (de_bin op_fdvN ops_fdvN (de_loc 5) (de_loc 4))))
  (ds_cons (ds_if (PW.pt (dw_or (dt_cmp op_lt ops_lt (de_loc 6) de_int (nomark _)) (dw_or1 (dt_cmp (op_neD hr.units) (ops_ne hK) (de_callN hcc hz ok_gcd (hr.mono (by decide)) M_gcd K_gcd B_gcd (dag_ro (de_loc 6) (dag_ro (de_loc 0) dag_nil))) de_int (nomark _))))) (ds_one (ds_ret de_non)) ds_nil)
  (ds_cons (ds_frz (i := 7) (ds_set (i := 7) sc_rule_through.nd (de_bin op_sub ops_sub (de_bin op_mulX ops_mul (de_loc 0) (de_loc 3)) (de_bin op_mulX ops_mul (de_loc 6) (de_loc 2)))))
  (ds_cons (ds_for PassesOwn.never rfl (di_lst hK (de_loc 1)) (dg_tup rfl (dgs_cons (dg_name (i := 8) sc_rule_through.nd) (dgs_cons (dg_name (i := 9) sc_rule_through.nd) dgs_nil))) (ds_one (ds_if (dt_cmp (op_neD hr.units) (ops_ne hK) (de_bin op_addA (ops_add hK) (de_bin op_mulX ops_mul (de_loc 6) (de_loc 8)) (de_loc 7)) (de_bin op_mulX ops_mul (de_loc 0) (de_loc 9)) (nomark _)) (ds_one (ds_ret de_non)) ds_nil)))
  (ds_one (ds_ret (de_tup (da_cons (de_loc 6) (da_cons (de_loc 7) da_nil)))))))))))))
theorem sc_some_fits : FnScope ["modulus", "seen", "pairs"] ["modulus", "seen"] (defScope s_some_fits) := ⟨rfl, rfl, rfl, by decide +kernel, rfl, by decide +kernel, by decide +kernel⟩
theorem ok_some_fits {f_some_fits : Addr} {d_some_fits : FuncData} (F : Fun K "some_fits" "some_fits" s_some_fits f_some_fits d_some_fits) (cK : C.cc.K = K) (n_len : mg "len" = none) {f_pairs_by_remainder : Addr} {d_pairs_by_remainder : FuncData} (ok_pairs_by_remainder : FnOk P w K mg base CX0 1 f_pairs_by_remainder d_pairs_by_remainder ["modulus", "seen"] (LSp0 C sp_pairs_by_remainder 2)) (B_pairs_by_remainder : Binds K d_pairs_by_remainder ["modulus", "seen"] []) (M_pairs_by_remainder : mg "pairs_by_remainder" = some (.ref f_pairs_by_remainder)) (K_pairs_by_remainder : PySem.W.keepIn K (.ref f_pairs_by_remainder) = true) {f_rule_through : Addr} {d_rule_through : FuncData} (ok_rule_through : FnOk P w K mg base CX0 2 f_rule_through d_rule_through ["modulus", "pairs"] (LSp0 C sp_rule_through 2)) (B_rule_through : Binds K d_rule_through ["modulus", "pairs"] []) (M_rule_through : mg "rule_through" = some (.ref f_rule_through)) (K_rule_through : PySem.W.keepIn K (.ref f_rule_through) = true) : FnOk P w K mg base CX0 3 f_some_fits d_some_fits ["modulus", "seen"] (LSp0 C sp_some_fits 2) :=
  fn_ok F sc_some_fits sat_some_fits (by decide) fun cdv A outer s H E Z hcc hz hr => have hK : Z.cc.K = K := by rw [hcc]; exact cK
  (ds_cons (ds_for PassesOwn.never rfl (di_lst hK (de_callN hcc hz ok_pairs_by_remainder (hr.mono (by decide)) M_pairs_by_remainder K_pairs_by_remainder B_pairs_by_remainder (dag_ro (de_loc 0) (dag_ro (de_loc 1) dag_nil)))) (dg_name (i := 2) sc_some_fits.nd) (ds_one (ds_if (PW.pt (dw_and (dt_cmp op_gt ops_gt (de_b1 call_lenA (ops_len hK) n_len (de_loc 2)) de_int (nomark _)) (dw_and1 (dt_isN (de_callN hcc hz ok_rule_through (hr.mono (by decide)) M_rule_through K_rule_through B_rule_through (dag_ro (de_loc 0) (dag_ro (de_loc 2) dag_nil))))))) (ds_one (ds_ret de_bl)) ds_nil)))
  (ds_one (ds_ret de_bl)))
theorem sc_least_modulus : FnScope ["seen", "most", "modulus"] ["seen", "most"] (defScope s_least_modulus) := ⟨rfl, rfl, rfl, by decide +kernel, rfl, by decide +kernel, by decide +kernel⟩
theorem ok_least_modulus {f_least_modulus : Addr} {d_least_modulus : FuncData} (F : Fun K "least_modulus" "least_modulus" s_least_modulus f_least_modulus d_least_modulus) (cK : C.cc.K = K) (n_range : mg "range" = none) {f_some_fits : Addr} {d_some_fits : FuncData} (ok_some_fits : FnOk P w K mg base CX0 3 f_some_fits d_some_fits ["modulus", "seen"] (LSp0 C sp_some_fits 2)) (B_some_fits : Binds K d_some_fits ["modulus", "seen"] []) (M_some_fits : mg "some_fits" = some (.ref f_some_fits)) (K_some_fits : PySem.W.keepIn K (.ref f_some_fits) = true) : FnOk P w K mg base CX0 4 f_least_modulus d_least_modulus ["seen", "most"] (LSp0 C sp_least_modulus 2) :=
  fn_ok F sc_least_modulus sat_least_modulus (by decide) fun cdv A outer s H E Z hcc hz hr => have hK : Z.cc.K = K := by rw [hcc]; exact cK
  (ds_cons (ds_if (dt_cmp op_lt ops_lt (de_loc 1) de_int (nomark _)) (ds_one ds_never) ds_nil)
  (ds_cons (ds_for PassesOwn.never rfl (di_r2 rfl n_range (da_cons de_int (da_cons (de_bin op_addA (ops_add hK) (de_loc 1) de_int) da_nil))) (dg_name (i := 2) sc_least_modulus.nd) (ds_one (ds_if (dt_val (de_callN hcc hz ok_some_fits (hr.mono (by decide)) M_some_fits K_some_fits B_some_fits (dag_ro (de_loc 2) (dag_ro (de_loc 0) dag_nil)))) (ds_one (ds_ret (de_loc 2))) ds_nil)))
  (ds_one (ds_ret de_non))))
theorem sc_law_whole : FnScope ["found"] ["found"] (defScope s_law_whole) := ⟨rfl, rfl, rfl, by decide +kernel, rfl, by decide +kernel, by decide +kernel⟩
theorem ok_law_whole {f_law_whole : Addr} {d_law_whole : FuncData} (F : Fun K "_law_whole" "_law_whole" s_law_whole f_law_whole d_law_whole) (cK : C.cc.K = K) (n_bool : mg "bool" = none) (n_int : mg "int" = none) (n_isinstance : mg "isinstance" = none) : FnOk P w K mg base CX0 1 f_law_whole d_law_whole ["found"] (LSp0 C sp_law_whole 1) :=
  fn_ok F sc_law_whole sat_law_whole (by decide) fun cdv A outer s H E Z hcc hz hr => have hK : Z.cc.K = K := by rw [hcc]; exact cK
  (ds_one (ds_ret (de_and (de_isI .int rfl hK n_isinstance n_int (de_loc 0)) (de_one (de_not (de_isI .bool rfl hK n_isinstance n_bool (de_loc 0)))))))
theorem sc_law_gcd : FnScope ["p", "q"] ["p", "q"] (defScope s_law_gcd) := ⟨rfl, rfl, rfl, by decide +kernel, rfl, by decide +kernel, by decide +kernel⟩
theorem ok_law_gcd {f_law_gcd : Addr} {d_law_gcd : FuncData} (F : Fun K "_law_gcd" "_law_gcd" s_law_gcd f_law_gcd d_law_gcd) (cK : C.cc.K = K) (n_abs : mg "abs" = none) (n_int : mg "int" = none) : FnOk P w K mg base CX0 1 f_law_gcd d_law_gcd ["p", "q"] (LSp0 C sp_law_gcd 2) :=
  fn_ok F sc_law_gcd sat_law_gcd (by decide) fun cdv A outer s H E Z hcc hz hr => have hK : Z.cc.K = K := by rw [hcc]; exact cK
  (ds_cons (ds_frz (i := 0) (ds_set (i := 0) sc_law_gcd.nd (de_b1 call_abs ops_abs n_abs (de_loc 0))))
  (ds_cons (ds_frz (i := 1) (ds_set (i := 1) sc_law_gcd.nd (de_b1 call_abs ops_abs n_abs (de_loc 1))))
  (ds_cons (ds_while PassesOwn.never (dt_cmp op_gt ops_gt (de_loc 1) de_int (nomark _)) (ds_one (ds_par (i := 0) (j := 1) rfl sc_law_gcd.nd (da_cons (de_loc 1) (da_cons (de_bin op_mod ops_mod (de_t1 call_int1 ops_int1 n_int (de_loc 0)) (de_loc 1)) da_nil)))))
  (ds_one (ds_ret (de_loc 0))))))
theorem sc_law_slope : FnScope ["m", "one", "other", "across", "rise", "a"] ["m", "one", "other"] (defScope s_law_slope) := ⟨rfl, rfl, rfl, by decide +kernel, rfl, by decide +kernel, by decide +kernel⟩
theorem ok_law_slope {f_law_slope : Addr} {d_law_slope : FuncData} (F : Fun K "_law_slope" "_law_slope" s_law_slope f_law_slope d_law_slope) (cK : C.cc.K = K) (n_abs : mg "abs" = none) (n_int : mg "int" = none) {f_law_gcd : Addr} {d_law_gcd : FuncData} (ok_law_gcd : FnOk P w K mg base CX0 1 f_law_gcd d_law_gcd ["p", "q"] (LSp0 C sp_law_gcd 2)) (B_law_gcd : Binds K d_law_gcd ["p", "q"] []) (M_law_gcd : mg "_law_gcd" = some (.ref f_law_gcd)) (K_law_gcd : PySem.W.keepIn K (.ref f_law_gcd) = true) : FnOk P w K mg base CX0 2 f_law_slope d_law_slope ["m", "one", "other"] (LSp0 C sp_law_slope 3) :=
  fn_ok F sc_law_slope sat_law_slope (by decide) fun cdv A outer s H E Z hcc hz hr => have hK : Z.cc.K = K := by rw [hcc]; exact cK
  (ds_cons (ds_frz (i := 3) (ds_set (i := 3) sc_law_slope.nd (de_bin op_sub ops_sub (de_ix hK (de_loc 1) de_int) (de_ix hK (de_loc 2) de_int))))
  (ds_cons (ds_frz (i := 4) (ds_set (i := 4) sc_law_slope.nd (de_bin op_mulX ops_mul (de_loc 0) (de_bin op_sub ops_sub (de_ix hK (de_loc 1) de_int) (de_ix hK (de_loc 2) de_int)))))
  (ds_cons (ds_if (dt_cmp (op_eqD hr.units) (ops_eq hK) (de_loc 3) de_int (nomark _)) (ds_one (ds_ret (de_bin op_sub ops_sub de_int (de_bin op_mulX ops_mul de_int (de_t1 call_int1 ops_int1 n_int (de_cmp (op_neD hr.units) (ops_ne hK) (de_loc 4) de_int (nomark _))))))) ds_nil)
  (ds_cons (ds_if (dt_cmp (op_neD hr.units) (ops_ne hK) (de_bin op_mod ops_mod (de_loc 4) (de_b1 call_abs ops_abs n_abs (de_loc 3))) de_int (nomark _)) (ds_one (ds_ret (de_neg de_int))) ds_nil)
  (ds_cons (ds_frz (i := 5) (ds_set (i := 5) sc_law_slope.nd (de_bin op_fdvN ops_fdvN (de_loc 4) (de_loc 3))))
  (ds_cons (ds_if (PW.pt (dw_or (dt_cmp op_lt ops_lt (de_loc 5) de_int (nomark _)) (dw_or1 (dt_cmp op_gt ops_gt (de_callN hcc hz ok_law_gcd (hr.mono (by decide)) M_law_gcd K_law_gcd B_law_gcd (dag_ro (de_loc 5) (dag_ro (de_loc 0) dag_nil))) de_int (nomark _))))) (ds_one (ds_ret (de_neg de_int))) ds_nil)
  (ds_one (ds_ret (de_loc 5)))))))))
theorem sc_law_lets : FnScope ["m", "told", "slopes", "i", "j", "k", "a"] ["m", "told"] (defScope s_law_lets) := ⟨rfl, rfl, rfl, by decide +kernel, rfl, by decide +kernel, by decide +kernel⟩
theorem ok_law_lets {f_law_lets : Addr} {d_law_lets : FuncData} (F : Fun K "_law_lets" "_law_lets" s_law_lets f_law_lets d_law_lets) (cK : C.cc.K = K) (n_int : mg "int" = none) (n_len : mg "len" = none) (n_range : mg "range" = none) {f_law_slope : Addr} {d_law_slope : FuncData} (ok_law_slope : FnOk P w K mg base CX0 2 f_law_slope d_law_slope ["m", "one", "other"] (LSp0 C sp_law_slope 3)) (B_law_slope : Binds K d_law_slope ["m", "one", "other"] []) (M_law_slope : mg "_law_slope" = some (.ref f_law_slope)) (K_law_slope : PySem.W.keepIn K (.ref f_law_slope) = true) : FnOk P w K mg base CX0 3 f_law_lets d_law_lets ["m", "told"] (LSp0 C sp_law_lets 2) :=
  fn_ok F sc_law_lets sat_law_lets (by decide) fun cdv A outer s H E Z hcc hz hr => have hK : Z.cc.K = K := by rw [hcc]; exact cK
  (ds_cons (ds_set (i := 2) sc_law_lets.nd de_dnewK)
  (ds_cons (ds_for PassesOwn.never rfl (di_r1 rfl n_range (da_cons (de_b1 call_lenA (ops_len hK) n_len (de_loc 1)) da_nil)) (dg_name (i := 3) sc_law_lets.nd) (ds_one (ds_for PassesOwn.never rfl (di_r1 rfl n_range (da_cons (de_loc 3) da_nil)) (dg_name (i := 4) sc_law_lets.nd) (ds_cons (ds_frz (i := 5) (ds_set (i := 5) sc_law_lets.nd (de_bin op_mod ops_mod (de_t1 call_int1 ops_int1 n_int (de_ix hK (de_ix hK (de_loc 1) (de_loc 3)) de_int)) (de_loc 0))))
  (ds_one (ds_if (PW.pt (dw_and (dt_cmp (op_eqD hr.units) (ops_eq hK) (de_loc 5) (de_bin op_mod ops_mod (de_t1 call_int1 ops_int1 n_int (de_ix hK (de_ix hK (de_loc 1) (de_loc 4)) de_int)) (de_loc 0)) (nomark _)) (dw_and1 (dt_cmp (op_neD hr.units) (ops_ne hK) (de_ix hK (de_loc 1) (de_loc 3)) (de_ix hK (de_loc 1) (de_loc 4)) (nomark _))))) (ds_cons (ds_frz (i := 6) (ds_set (i := 6) sc_law_lets.nd (de_callN hcc hz ok_law_slope (hr.mono (by decide)) M_law_slope K_law_slope B_law_slope (dag_ro (de_loc 0) (dag_ro (de_ix hK (de_loc 1) (de_loc 3)) (dag_ro (de_ix hK (de_loc 1) (de_loc 4)) dag_nil))))))
  (ds_one (ds_if (PW.pt (dw_or (dt_cmp op_lt ops_lt (de_loc 6) de_int (nomark _)) (dw_or1 (dt_cmp (op_neD hr.units) (ops_ne hK) (de_dsetd (j := 2) (room1 hr) (de_loc 5) (de_loc 6) ⟨rfl, rfl, rfl, rfl⟩) (de_loc 6) (nomark _))))) (ds_one (ds_ret de_bl)) ds_nil))) ds_nil))))))
  (ds_one (ds_ret de_bl))))
theorem sc_law_least : FnScope ["told", "m"] ["told"] (defScope s_law_least) := ⟨rfl, rfl, rfl, by decide +kernel, rfl, by decide +kernel, by decide +kernel⟩
theorem ok_law_least {f_law_least : Addr} {d_law_least : FuncData} (F : Fun K "_law_least" "_law_least" s_law_least f_law_least d_law_least) (cK : C.cc.K = K) (n_range : mg "range" = none) {f_law_lets : Addr} {d_law_lets : FuncData} (ok_law_lets : FnOk P w K mg base CX0 3 f_law_lets d_law_lets ["m", "told"] (LSp0 C sp_law_lets 2)) (B_law_lets : Binds K d_law_lets ["m", "told"] []) (M_law_lets : mg "_law_lets" = some (.ref f_law_lets)) (K_law_lets : PySem.W.keepIn K (.ref f_law_lets) = true) : FnOk P w K mg base CX0 4 f_law_least d_law_least ["told"] (LSp0 C sp_law_least 1) :=
  fn_ok F sc_law_least sat_law_least (by decide) fun cdv A outer s H E Z hcc hz hr => have hK : Z.cc.K = K := by rw [hcc]; exact cK
  (ds_cons (ds_for PassesOwn.never rfl (di_r2 rfl n_range (da_lit de_int (da_lit de_int (da_lit0 da_nil)))) (dg_name (i := 1) sc_law_least.nd) (ds_one (ds_if (dt_val (de_callN hcc hz ok_law_lets (hr.mono (by decide)) M_law_lets K_law_lets B_law_lets (dag_ro (de_loc 1) (dag_ro (de_loc 0) dag_nil)))) (ds_one (ds_ret (de_loc 1))) ds_nil)))
  (ds_one (ds_ret de_non)))
theorem sc_law_picks : FnScope ["cell", "sizes", "held", "rest", "picks", "k", "stir"] ["cell", "sizes"] (defScope s_law_picks) := ⟨rfl, rfl, rfl, by decide +kernel, rfl, by decide +kernel, by decide +kernel⟩
theorem ok_law_picks {f_law_picks : Addr} {d_law_picks : FuncData} (F : Fun K "_law_picks" "_law_picks" s_law_picks f_law_picks d_law_picks) (cK : C.cc.K = K) (n_abs : mg "abs" = none) (n_int : mg "int" = none) (n_len : mg "len" = none) (n_range : mg "range" = none) : FnOk P w K mg base CX0 1 f_law_picks d_law_picks ["cell", "sizes"] (LSp0 C sp_law_picks 2) :=
  fn_ok F sc_law_picks sat_law_picks (by decide) fun cdv A outer s H E Z hcc hz hr => have hK : Z.cc.K = K := by rw [hcc]; exact cK
  (ds_cons (ds_frz (i := 2) (ds_set (i := 2) sc_law_picks.nd (de_bin op_addA (ops_add hK) (de_bin op_mulX ops_mul de_int (de_b1 call_abs ops_abs n_abs (de_loc 0))) (de_t1 call_int1 ops_int1 n_int (de_cmp op_lt ops_lt (de_loc 0) de_int (nomark _))))))
  (ds_cons (ds_frz (i := 3) (ds_set (i := 3) sc_law_picks.nd (de_bin op_sub ops_sub (de_loc 2) (de_bin op_pow ops_pow de_int de_int))))
  (ds_cons (ds_set (i := 4) sc_law_picks.nd (de_lst da_nil))
  (ds_cons (ds_for PassesOwn.never rfl (di_r1 rfl n_range (da_cons (de_b1 call_lenA (ops_len hK) n_len (de_loc 1)) da_nil)) (dg_name (i := 5) sc_law_picks.nd) (ds_cons (ds_frz (i := 6) (ds_set (i := 6) sc_law_picks.nd (de_bin op_addA (ops_add hK) (de_bin op_mulX ops_mul (de_bin op_mulX ops_mul (de_bin op_addA (ops_add hK) (de_loc 2) de_int) de_int) (de_bin op_addA (ops_add hK) de_int (de_bin op_mulX ops_mul (de_bin op_mulX ops_mul de_int (de_loc 5)) (de_loc 5)))) (de_bin op_mulX ops_mul de_int (de_loc 5)))))
  (ds_cons (ds_frz (i := 6) (ds_set (i := 6) sc_law_picks.nd (de_bin op_mod ops_mod (de_t1 call_int1 ops_int1 n_int (de_loc 6)) de_int)))
  (ds_cons (ds_frz (i := 6) (ds_set (i := 6) sc_law_picks.nd (de_bin op_fdvX ops_fdv (de_bin op_mod ops_mod (de_t1 call_int1 ops_int1 n_int (de_bin op_addA (ops_add hK) (de_bin op_addA (ops_add hK) (de_bin op_mulX ops_mul (de_loc 6) (de_loc 6)) (de_bin op_mulX ops_mul de_int (de_loc 5))) de_int)) de_int) de_int)))
  (ds_cons (ds_if (dt_cmp op_ge ops_ge (de_loc 2) (de_bin op_pow ops_pow de_int de_int) (nomark _)) (ds_cons (ds_set (i := 6) sc_law_picks.nd (de_loc 3))
  (ds_one (ds_frz (i := 3) (ds_set (i := 3) sc_law_picks.nd (de_bin op_fdvX ops_fdv (de_loc 3) (de_ix hK (de_loc 1) (de_loc 5))))))) ds_nil)
  (ds_one (ds_app (j := 4) (de_bin op_mod ops_mod (de_t1 call_int1 ops_int1 n_int (de_loc 6)) (de_ix hK (de_loc 1) (de_loc 5))))))))))
  (ds_one (ds_ret (de_loc 4)))))))
theorem sc_law_cell_at : FnScope ["script", "k"] ["script", "k"] (defScope s_law_cell_at) := ⟨rfl, rfl, rfl, by decide +kernel, rfl, by decide +kernel, by decide +kernel⟩
theorem ok_law_cell_at {f_law_cell_at : Addr} {d_law_cell_at : FuncData} (F : Fun K "_law_cell_at" "_law_cell_at" s_law_cell_at f_law_cell_at d_law_cell_at) (cK : C.cc.K = K) (n_len : mg "len" = none) : FnOk P w K mg base CX0 1 f_law_cell_at d_law_cell_at ["script", "k"] (LSp0 C sp_law_cell_at 2) :=
  fn_ok F sc_law_cell_at sat_law_cell_at (by decide) fun cdv A outer s H E Z hcc hz hr => have hK : Z.cc.K = K := by rw [hcc]; exact cK
  (ds_cons (ds_if (dt_cmp op_lt ops_lt (de_loc 1) (de_b1 call_lenA (ops_len hK) n_len (de_loc 0)) (nomark _)) (ds_one (ds_ret (de_ix hK (de_loc 0) (de_loc 1)))) ds_nil)
  (ds_one (ds_ret de_int)))
theorem sc_law_step : FnScope ["rows", "number", "a", "b"] ["rows", "number"] (defScope s_law_step) := ⟨rfl, rfl, rfl, by decide +kernel, rfl, by decide +kernel, by decide +kernel⟩
theorem ok_law_step {f_law_step : Addr} {d_law_step : FuncData} (F : Fun K "_law_step" "_law_step" s_law_step f_law_step d_law_step) (cK : C.cc.K = K) (n_int : mg "int" = none) (n_len : mg "len" = none) : FnOk P w K mg base CX0 1 f_law_step d_law_step ["rows", "number"] (LSp0 C sp_law_step 2) :=
  fn_ok F sc_law_step sat_law_step (by decide) fun cdv A outer s H E Z hcc hz hr => have hK : Z.cc.K = K := by rw [hcc]; exact cK
  (ds_cons (ds_asg (de_ix hK (de_loc 0) (de_bin op_mod ops_mod (de_t1 call_int1 ops_int1 n_int (de_loc 1)) (de_b1 call_lenA (ops_len hK) n_len (de_loc 0)))) (dg_tup rfl (dgs_cons (dg_name (i := 2) sc_law_step.nd) (dgs_cons (dg_name (i := 3) sc_law_step.nd) dgs_nil))))
  (ds_one (ds_ret (de_bin op_fdvX ops_fdv (de_bin op_addA (ops_add hK) (de_bin op_mulX ops_mul (de_loc 2) (de_loc 1)) (de_loc 3)) (de_b1 call_lenA (ops_len hK) n_len (de_loc 0))))))
theorem sc_law_number : FnScope ["cell", "bound", "size"] ["cell", "bound"] (defScope s_law_number) := ⟨rfl, rfl, rfl, by decide +kernel, rfl, by decide +kernel, by decide +kernel⟩
theorem ok_law_number {f_law_number : Addr} {d_law_number : FuncData} (F : Fun K "_law_number" "_law_number" s_law_number f_law_number d_law_number) (cK : C.cc.K = K) (n_abs : mg "abs" = none) : FnOk P w K mg base CX0 1 f_law_number d_law_number ["cell", "bound"] (LSp0 C sp_law_number 2) :=
  fn_ok F sc_law_number sat_law_number (by decide) fun cdv A outer s H E Z hcc hz hr => have hK : Z.cc.K = K := by rw [hcc]; exact cK
  (ds_cons (ds_frz (i := 2) (ds_set (i := 2) sc_law_number.nd (de_bin op_mod ops_mod (de_b1 call_abs ops_abs n_abs (de_loc 0)) (de_loc 1))))
  (ds_cons (ds_if (dt_cmp op_lt ops_lt (de_loc 0) de_int (nomark _)) (ds_one (ds_ret (de_neg (de_loc 2)))) ds_nil)
  (ds_one (ds_ret (de_loc 2)))))
theorem sc_law_numbers_by : FnScope ["cells", "numbers", "cell", "picks"] ["cells"] (defScope s_law_numbers_by) := ⟨rfl, rfl, rfl, by decide +kernel, rfl, by decide +kernel, by decide +kernel⟩
theorem ok_law_numbers_by {f_law_numbers_by : Addr} {d_law_numbers_by : FuncData} (F : Fun K "_law_numbers_by" "_law_numbers_by" s_law_numbers_by f_law_numbers_by d_law_numbers_by) (cK : C.cc.K = K) {f_law_number : Addr} {d_law_number : FuncData} (ok_law_number : FnOk P w K mg base CX0 1 f_law_number d_law_number ["cell", "bound"] (LSp0 C sp_law_number 2)) (B_law_number : Binds K d_law_number ["cell", "bound"] []) (M_law_number : mg "_law_number" = some (.ref f_law_number)) (K_law_number : PySem.W.keepIn K (.ref f_law_number) = true) {f_law_picks : Addr} {d_law_picks : FuncData} (ok_law_picks : FnOk P w K mg base CX0 1 f_law_picks d_law_picks ["cell", "sizes"] (LSp0 C sp_law_picks 2)) (B_law_picks : Binds K d_law_picks ["cell", "sizes"] []) (M_law_picks : mg "_law_picks" = some (.ref f_law_picks)) (K_law_picks : PySem.W.keepIn K (.ref f_law_picks) = true) : FnOk P w K mg base CX0 2 f_law_numbers_by d_law_numbers_by ["cells"] (LSp0 C sp_law_numbers_by 1) :=
  fn_ok F sc_law_numbers_by sat_law_numbers_by (by decide) fun cdv A outer s H E Z hcc hz hr => have hK : Z.cc.K = K := by rw [hcc]; exact cK
  (ds_cons (ds_set (i := 1) sc_law_numbers_by.nd (de_lst da_nil))
  (ds_cons (ds_for PassesOwn.never rfl (di_lst hK (de_loc 0)) (dg_name (i := 2) sc_law_numbers_by.nd) (ds_cons (ds_frz (i := 3) (ds_set (i := 3) sc_law_numbers_by.nd (de_callN hcc hz ok_law_picks (hr.mono (by decide)) M_law_picks K_law_picks B_law_picks (dag_ro (de_loc 2) (dag_ro (de_lst (da_lit de_int (da_lit de_int (da_lit0 da_nil)))) dag_nil)))))
  (ds_one (ds_app (j := 1) (de_ix hK (de_lst (da_cons (de_callN hcc hz ok_law_number (hr.mono (by decide)) M_law_number K_law_number B_law_number (dag_ro (de_loc 2) (dag_ro (de_bin op_pow ops_pow de_int de_int) dag_nil))) (da_cons (de_bin op_sub ops_sub (de_ix hK (de_loc 3) de_int) de_int) (da_cons (de_bin op_sub ops_sub (de_ix hK (de_loc 3) de_int) de_int) da_nil)))) (de_ix hK (de_loc 3) de_int))))))
  (ds_one (ds_ret (de_loc 1)))))
theorem sc_law_rows : FnScope ["cell", "most", "beside", "far", "picks", "base", "reach", "rows", "k", "a"] ["cell", "most", "beside", "far"] (defScope s_law_rows) := ⟨rfl, rfl, rfl, by decide +kernel, rfl, by decide +kernel, by decide +kernel⟩
theorem ok_law_rows {f_law_rows : Addr} {d_law_rows : FuncData} (F : Fun K "_law_rows" "_law_rows" s_law_rows f_law_rows d_law_rows) (cK : C.cc.K = K) (n_range : mg "range" = none) {f_law_gcd : Addr} {d_law_gcd : FuncData} (ok_law_gcd : FnOk P w K mg base CX0 1 f_law_gcd d_law_gcd ["p", "q"] (LSp0 C sp_law_gcd 2)) (B_law_gcd : Binds K d_law_gcd ["p", "q"] []) (M_law_gcd : mg "_law_gcd" = some (.ref f_law_gcd)) (K_law_gcd : PySem.W.keepIn K (.ref f_law_gcd) = true) {f_law_picks : Addr} {d_law_picks : FuncData} (ok_law_picks : FnOk P w K mg base CX0 1 f_law_picks d_law_picks ["cell", "sizes"] (LSp0 C sp_law_picks 2)) (B_law_picks : Binds K d_law_picks ["cell", "sizes"] []) (M_law_picks : mg "_law_picks" = some (.ref f_law_picks)) (K_law_picks : PySem.W.keepIn K (.ref f_law_picks) = true) : FnOk P w K mg base CX0 2 f_law_rows d_law_rows ["cell", "most", "beside", "far"] (LSp0 C sp_law_rows 4) :=
  fn_ok F sc_law_rows sat_law_rows (by decide) fun cdv A outer s H E Z hcc hz hr => have hK : Z.cc.K = K := by rw [hcc]; exact cK
  (ds_cons (ds_frz (i := 4) (ds_set (i := 4) sc_law_rows.nd (de_callN hcc hz ok_law_picks (hr.mono (by decide)) M_law_picks K_law_picks B_law_picks (dag_ro (de_loc 0) (dag_ro (de_bin op_addA (ops_add hK) (de_lst (da_cons (de_bin op_sub ops_sub (de_loc 1) de_int) (da_cons de_int da_nil))) (de_repL (i := 1) (de_lst (da_cons de_int (da_cons (de_bin op_addA (ops_add hK) (de_bin op_mulX ops_mul de_int (de_loc 3)) de_int) da_nil))))) dag_nil)))))
  (ds_cons (ds_frz (i := 5) (ds_set (i := 5) sc_law_rows.nd (de_bin op_addA (ops_add hK) de_int (de_ix hK (de_loc 4) de_int))))
  (ds_cons (ds_frz (i := 6) (ds_set (i := 6) sc_law_rows.nd (de_ix hK (de_lst (da_lit (de_tupC (da_lit de_int (da_lit de_int (da_lit0 da_nil)))) (da_lit (de_tupC (da_lit de_int (da_lit de_int (da_lit0 da_nil)))) (da_lit (de_tupC (da_lit de_int (da_lit de_int (da_lit0 da_nil)))) (da_lit0 (da_cons (de_tup (da_cons de_int (da_cons (de_bin op_addA (ops_add hK) (de_bin op_mulX ops_mul de_int (de_loc 3)) de_int) da_nil))) da_nil)))))) (de_ix hK (de_loc 4) de_int))))
  (ds_cons (ds_set (i := 7) sc_law_rows.nd (de_lst da_nil))
  (ds_cons (ds_for PassesOwn.never rfl (di_r1 rfl n_range (da_cons (de_loc 5) da_nil)) (dg_name (i := 8) sc_law_rows.nd) (ds_cons (ds_frz (i := 9) (ds_set (i := 9) sc_law_rows.nd (de_bin op_addA (ops_add hK) de_int (de_bin op_mod ops_mod (de_ix hK (de_loc 4) (de_bin op_addA (ops_add hK) de_int (de_bin op_mulX ops_mul de_int (de_loc 8)))) (de_ix hK (de_loc 6) de_int)))))
  (ds_cons (ds_while PassesOwn.never (dt_cmp op_gt ops_gt (de_callN hcc hz ok_law_gcd (hr.mono (by decide)) M_law_gcd K_law_gcd B_law_gcd (dag_ro (de_loc 9) (dag_ro (de_bin op_mulX ops_mul (de_loc 5) (de_loc 2)) dag_nil))) de_int (nomark _)) (ds_one (ds_frz (i := 9) (ds_set (i := 9) sc_law_rows.nd (de_bin op_sub ops_sub (de_loc 9) de_int)))))
  (ds_one (ds_app (j := 7) (de_tup (da_cons (de_loc 9) (da_cons (de_bin op_sub ops_sub (de_bin op_mulX ops_mul (de_loc 5) (de_bin op_sub ops_sub (de_bin op_mod ops_mod (de_ix hK (de_loc 4) (de_bin op_addA (ops_add hK) de_int (de_bin op_mulX ops_mul de_int (de_loc 8)))) (de_ix hK (de_loc 6) de_int)) (de_bin op_fdvX ops_fdv (de_ix hK (de_loc 6) de_int) de_int))) (de_bin op_mulX ops_mul (de_loc 9) (de_loc 8))) da_nil))))))))
  (ds_one (ds_ret (de_loc 7))))))))
theorem sc_law : FnScope ["script", "rows", "numbers", "told", "picks", "x", "y", "best", "bound", "due", "handed", "found"] ["script"] (defScope s_law) := ⟨rfl, rfl, rfl, by decide +kernel, rfl, by decide +kernel, by decide +kernel⟩
theorem ok_law {f_law : Addr} {d_law : FuncData} (F : Fun K "law" "law" s_law f_law d_law) (cK : C.cc.K = K) (n_len : mg "len" = none) (n_list : mg "list" = none) {f_least_modulus : Addr} {d_least_modulus : FuncData} (ok_least_modulus : FnOk P w K mg base CX0 4 f_least_modulus d_least_modulus ["seen", "most"] (LSp0 C sp_least_modulus 2)) (B_least_modulus : Binds K d_least_modulus ["seen", "most"] []) (M_least_modulus : mg "least_modulus" = some (.ref f_least_modulus)) (K_least_modulus : PySem.W.keepIn K (.ref f_least_modulus) = true) {f_law_whole : Addr} {d_law_whole : FuncData} (ok_law_whole : FnOk P w K mg base CX0 1 f_law_whole d_law_whole ["found"] (LSp0 C sp_law_whole 1)) (B_law_whole : Binds K d_law_whole ["found"] []) (M_law_whole : mg "_law_whole" = some (.ref f_law_whole)) (K_law_whole : PySem.W.keepIn K (.ref f_law_whole) = true) {f_law_least : Addr} {d_law_least : FuncData} (ok_law_least : FnOk P w K mg base CX0 4 f_law_least d_law_least ["told"] (LSp0 C sp_law_least 1)) (B_law_least : Binds K d_law_least ["told"] []) (M_law_least : mg "_law_least" = some (.ref f_law_least)) (K_law_least : PySem.W.keepIn K (.ref f_law_least) = true) {f_law_picks : Addr} {d_law_picks : FuncData} (ok_law_picks : FnOk P w K mg base CX0 1 f_law_picks d_law_picks ["cell", "sizes"] (LSp0 C sp_law_picks 2)) (B_law_picks : Binds K d_law_picks ["cell", "sizes"] []) (M_law_picks : mg "_law_picks" = some (.ref f_law_picks)) (K_law_picks : PySem.W.keepIn K (.ref f_law_picks) = true) {f_law_cell_at : Addr} {d_law_cell_at : FuncData} (ok_law_cell_at : FnOk P w K mg base CX0 1 f_law_cell_at d_law_cell_at ["script", "k"] (LSp0 C sp_law_cell_at 2)) (B_law_cell_at : Binds K d_law_cell_at ["script", "k"] []) (M_law_cell_at : mg "_law_cell_at" = some (.ref f_law_cell_at)) (K_law_cell_at : PySem.W.keepIn K (.ref f_law_cell_at) = true) {f_law_step : Addr} {d_law_step : FuncData} (ok_law_step : FnOk P w K mg base CX0 1 f_law_step d_law_step ["rows", "number"] (LSp0 C sp_law_step 2)) (B_law_step : Binds K d_law_step ["rows", "number"] []) (M_law_step : mg "_law_step" = some (.ref f_law_step)) (K_law_step : PySem.W.keepIn K (.ref f_law_step) = true) {f_law_numbers_by : Addr} {d_law_numbers_by : FuncData} (ok_law_numbers_by : FnOk P w K mg base CX0 2 f_law_numbers_by d_law_numbers_by ["cells"] (LSp0 C sp_law_numbers_by 1)) (B_law_numbers_by : Binds K d_law_numbers_by ["cells"] []) (M_law_numbers_by : mg "_law_numbers_by" = some (.ref f_law_numbers_by)) (K_law_numbers_by : PySem.W.keepIn K (.ref f_law_numbers_by) = true) {f_law_rows : Addr} {d_law_rows : FuncData} (ok_law_rows : FnOk P w K mg base CX0 2 f_law_rows d_law_rows ["cell", "most", "beside", "far"] (LSp0 C sp_law_rows 4)) (B_law_rows : Binds K d_law_rows ["cell", "most", "beside", "far"] []) (M_law_rows : mg "_law_rows" = some (.ref f_law_rows)) (K_law_rows : PySem.W.keepIn K (.ref f_law_rows) = true) (KB_least_modulus_10 : KBp K d_least_modulus ["seen", "most"] ["most", "seen"] [1, 0]) : FnOk P w K mg base CX0 5 f_law d_law ["script"] (LSp0 C sp_law 1) :=
  fn_ok F sc_law sat_law (by decide) fun cdv A outer s H E Z hcc hz hr => have hK : Z.cc.K = K := by rw [hcc]; exact cK
  (ds_cons (ds_frz (i := 1) (ds_set (i := 1) sc_law.nd (de_callN hcc hz ok_law_rows (hr.mono (by decide)) M_law_rows K_law_rows B_law_rows (dag_ro (de_callN hcc hz ok_law_cell_at (hr.mono (by decide)) M_law_cell_at K_law_cell_at B_law_cell_at (dag_ro (de_loc 0) (dag_ro de_int dag_nil))) (dag_ro de_int (dag_ro de_int (dag_ro (de_bin op_pow ops_pow de_int de_int) dag_nil)))))))
  (ds_cons (ds_frz (i := 2) (ds_set (i := 2) sc_law.nd (de_callN hcc hz ok_law_numbers_by (hr.mono (by decide)) M_law_numbers_by K_law_numbers_by B_law_numbers_by (dag_ro (de_bin op_addA (ops_add hK) (de_slice hK (de_loc 0) (dp_some de_int) (dp_some de_int)) (de_lst (da_cons de_int da_nil))) dag_nil))))
  (ds_cons (ds_setLc (i := 3) (own := [("x", 5)]) rfl sc_law.nd (di_lst hK (de_loc 2)) (blkOk_by (own := [("x", 5)]) (N := ["script", "rows", "numbers", "told", "picks", "x", "y", "best", "bound", "due", "handed", "found"]) (sc := defScope s_law) (by decide +kernel)) (fun _ _ _ _ _ => (dgc_name (i := 5) sc_law.nd)) (fun _ _ _ _ _ _ _ => dts_nil) (fun _ _ _ _ _ _ _ => (de_tup (da_cons (de_loc 5) (da_cons (de_callN hcc rfl ok_law_step (hr.mono (by decide)) M_law_step K_law_step B_law_step (dag_ro (de_loc 1) (dag_ro (de_loc 5) dag_nil))) da_nil)))) (sw_true rfl rfl rfl (by decide +kernel)))
  (ds_cons (ds_frz (i := 4) (ds_set (i := 4) sc_law.nd (de_callN hcc hz ok_law_picks (hr.mono (by decide)) M_law_picks K_law_picks B_law_picks (dag_ro (de_callN hcc hz ok_law_cell_at (hr.mono (by decide)) M_law_cell_at K_law_cell_at B_law_cell_at (dag_ro (de_loc 0) (dag_ro de_int dag_nil))) (dag_ro (de_lst (da_lit de_int (da_lit de_int (da_lit de_int (da_lit de_int (da_lit0 da_nil)))))) dag_nil)))))
  (ds_cons (ds_asg (de_ix hK (de_loc 3) (de_bin op_mod ops_mod (de_ix hK (de_loc 4) de_int) (de_b1 call_lenA (ops_len hK) n_len (de_loc 3)))) (dg_tup rfl (dgs_cons (dg_name (i := 5) sc_law.nd) (dgs_cons (dg_name (i := 6) sc_law.nd) dgs_nil))))
  (ds_cons (ds_if (dt_cmp (op_eqD hr.units) (ops_eq hK) (de_ix hK (de_loc 4) de_int) de_int (nomark _)) (ds_one (ds_sub (j := 3) (de_tup (da_cons (de_loc 5) (da_cons (de_bin op_addA (ops_add hK) (de_bin op_addA (ops_add hK) (de_loc 6) de_int) (de_ix hK (de_loc 4) de_int)) da_nil))) (de_bin op_mod ops_mod (de_ix hK (de_loc 4) de_int) (de_b1 call_lenA (ops_len hK) n_len (de_loc 3))))) ds_nil)
  (ds_cons (ds_if (dt_cmp (op_eqD hr.units) (ops_eq hK) (de_ix hK (de_loc 4) de_int) de_int (nomark _)) (ds_one (ds_app (j := 3) (de_tup (da_cons (de_loc 5) (da_cons (de_bin op_sub ops_sub (de_bin op_sub ops_sub (de_loc 6) de_int) (de_ix hK (de_loc 4) de_int)) da_nil))))) ds_nil)
  (ds_cons (ds_frz (i := 7) (ds_set (i := 7) sc_law.nd (de_callN hcc hz ok_law_least (hr.mono (by decide)) M_law_least K_law_least B_law_least (dag_bo (i := 3) dag_nil))))
  (ds_cons (ds_if (PW.pt (dw_and (dt_cmp (op_notInD (room65 hr)) (ops_notIn hK) (de_ix hK (de_loc 4) de_int) (de_lst (da_lit de_int (da_lit de_int (da_lit0 da_nil)))) (by rfl)) (dw_and1 (PW.pt (dw_or (dt_isN (de_loc 7)) (dw_or1 (dt_cmp op_gt ops_gt (de_loc 7) (de_b1 call_lenA (ops_len hK) n_len (de_loc 1)) (nomark _)))))))) (ds_one (ds_ret de_bl)) ds_nil)
  (ds_cons (ds_for PassesOwn.never rfl (di_lst hK (de_lst (da_cons (de_bin op_sub ops_sub (de_b1 call_lenA (ops_len hK) n_len (de_loc 1)) de_int) (da_cons (de_b1 call_lenA (ops_len hK) n_len (de_loc 1)) (da_cons de_int (da_cons (de_ix hK (de_loc 4) de_int) (da_cons de_int da_nil))))))) (dg_name (i := 8) sc_law.nd) (ds_cons (ds_set (i := 9) sc_law.nd (de_loc 7))
  (ds_cons (ds_if (PW.pt (dw_and (dt_notN (de_loc 7)) (dw_and1 (dt_cmp op_gt ops_gt (de_loc 7) (de_loc 8) (nomark _))))) (ds_one (ds_set (i := 9) sc_law.nd de_non)) ds_nil)
  (ds_cons (ds_frz (i := 10) (ds_set (i := 10) sc_law.nd (de_t1 call_list_of (ops_list hK) n_list (de_loc 3))))
  (ds_cons (ds_frz (i := 11) (ds_set (i := 11) sc_law.nd (de_callN hcc hz ok_least_modulus (hr.mono (by decide)) M_least_modulus K_least_modulus B_least_modulus (dag_ro (de_loc 10) (dag_ro (de_loc 8) dag_nil)))))
  (ds_one (ds_if (PW.pt (dw_or (dt_cmp (op_neD hr.units) (ops_ne hK) (de_loc 11) (de_loc 9) (nomark _)) (dw_or (dt_cmp (op_neD hr.units) (ops_ne hK) (de_loc 10) (de_loc 3) (nomark _)) (dw_or1 (PW.pt (dw_and (dt_notN (de_loc 11)) (dw_and1 (dt_not (dt_val (de_callN hcc hz ok_law_whole (hr.mono (by decide)) M_law_whole K_law_whole B_law_whole (dag_ro (de_loc 11) dag_nil))))))))))) (ds_one (ds_ret de_bl)) ds_nil)))))))
  (ds_cons (ds_if (PW.pt (dw_or (dt_cmp (op_neD hr.units) (ops_ne hK) (de_callN hcc hz ok_least_modulus (hr.mono (by decide)) M_least_modulus K_least_modulus B_least_modulus (dag_ro (de_rev hK (de_loc 3)) (dag_ro de_int dag_nil))) (de_loc 7) (nomark _)) (dw_or1 (dt_cmp (op_neD hr.units) (ops_ne hK) (de_callPN hcc hz ok_least_modulus (hr.mono (by decide)) M_least_modulus K_least_modulus KB_least_modulus_10 rfl (dkg_ro de_int (dkg_ro (de_t1 call_list_of (ops_list hK) n_list (de_loc 3)) dkg_nil))) (de_loc 7) (nomark _))))) (ds_one (ds_ret de_bl)) ds_nil)
  (ds_one (ds_ret (de_and (de_cmp (op_eqD hr.units) (ops_eq hK) (de_callN hcc hz ok_least_modulus (hr.mono (by decide)) M_least_modulus K_least_modulus B_least_modulus (dag_ro (de_lst da_nil) (dag_ro de_int dag_nil))) de_int (nomark _)) (de_and (de_cmp (op_eqD hr.units) (ops_eq hK) (de_callN hcc hz ok_least_modulus (hr.mono (by decide)) M_least_modulus K_least_modulus B_least_modulus (dag_ro (de_slice hK (de_loc 3) dp_none (dp_some de_int)) (dag_ro de_int dag_nil))) de_int (nomark _)) (de_one (de_isN (de_callN hcc hz ok_least_modulus (hr.mono (by decide)) M_least_modulus K_least_modulus B_least_modulus (dag_ro (de_lst da_nil) (dag_ro de_int dag_nil))))))))))))))))))))
end
theorem all_mk {l : PySem.W.OpenLaw} {w : World} {K : PySem.W.Frag} {h : Heap} {mg : Str → Option Value} {fa f_pairs_by_remainder f_gcd f_rule_through f_some_fits f_least_modulus f_law_whole f_law_gcd f_law_slope f_law_lets f_law_least f_law_picks f_law_cell_at f_law_step f_law_number f_law_numbers_by f_law_rows f_law : Addr} (X : K.In h) (G : h.Ns mainGlobals mg) (hfa : mg "law" = some (.ref fa))
    {od_pairs_by_remainder an_pairs_by_remainder od_gcd an_gcd od_rule_through an_rule_through od_some_fits an_some_fits od_least_modulus an_least_modulus od_law_whole an_law_whole od_law_gcd an_law_gcd od_law_slope an_law_slope od_law_lets an_law_lets od_law_least an_law_least od_law_picks an_law_picks od_law_cell_at an_law_cell_at od_law_step an_law_step od_law_number an_law_number od_law_numbers_by an_law_numbers_by od_law_rows an_law_rows od_law an_law : Option Addr} {sl_pairs_by_remainder sl_gcd sl_rule_through sl_some_fits sl_least_modulus sl_law_whole sl_law_gcd sl_law_slope sl_law_lets sl_law_least sl_law_picks sl_law_cell_at sl_law_step sl_law_number sl_law_numbers_by sl_law_rows sl_law : Array (Option Value)} {oc_pairs_by_remainder kV_pairs_by_remainder dc_pairs_by_remainder pm_pairs_by_remainder cd_pairs_by_remainder ct_pairs_by_remainder oc_gcd kV_gcd dc_gcd pm_gcd cd_gcd ct_gcd oc_rule_through kV_rule_through dc_rule_through pm_rule_through cd_rule_through ct_rule_through oc_some_fits kV_some_fits dc_some_fits pm_some_fits cd_some_fits ct_some_fits oc_least_modulus kV_least_modulus dc_least_modulus pm_least_modulus cd_least_modulus ct_least_modulus oc_law_whole kV_law_whole dc_law_whole pm_law_whole cd_law_whole ct_law_whole oc_law_gcd kV_law_gcd dc_law_gcd pm_law_gcd cd_law_gcd ct_law_gcd oc_law_slope kV_law_slope dc_law_slope pm_law_slope cd_law_slope ct_law_slope oc_law_lets kV_law_lets dc_law_lets pm_law_lets cd_law_lets ct_law_lets oc_law_least kV_law_least dc_law_least pm_law_least cd_law_least ct_law_least oc_law_picks kV_law_picks dc_law_picks pm_law_picks cd_law_picks ct_law_picks oc_law_cell_at kV_law_cell_at dc_law_cell_at pm_law_cell_at cd_law_cell_at ct_law_cell_at oc_law_step kV_law_step dc_law_step pm_law_step cd_law_step ct_law_step oc_law_number kV_law_number dc_law_number pm_law_number cd_law_number ct_law_number oc_law_numbers_by kV_law_numbers_by dc_law_numbers_by pm_law_numbers_by cd_law_numbers_by ct_law_numbers_by oc_law_rows kV_law_rows dc_law_rows pm_law_rows cd_law_rows ct_law_rows oc_law kV_law dc_law pm_law cd_law ct_law : Value}
    (at_pairs_by_remainder : PySem.W.nsIn K mainGlobals "pairs_by_remainder" = some (some (.ref f_pairs_by_remainder)))
    (lo_pairs_by_remainder : K.lookup f_pairs_by_remainder = some ⟨oc_pairs_by_remainder, od_pairs_by_remainder, .func (PySem.W.fnOf "pairs_by_remainder" "pairs_by_remainder" (defArgs s_pairs_by_remainder) (defBody s_pairs_by_remainder) (defScope s_pairs_by_remainder) .none kV_pairs_by_remainder dc_pairs_by_remainder pm_pairs_by_remainder an_pairs_by_remainder cd_pairs_by_remainder ct_pairs_by_remainder), sl_pairs_by_remainder⟩)
    (co_pairs_by_remainder : PySem.W.codeIn K cd_pairs_by_remainder "pairs_by_remainder" = true)
    (ke_pairs_by_remainder : PySem.W.keepIn K (.ref f_pairs_by_remainder) = true)
    (at_gcd : PySem.W.nsIn K mainGlobals "gcd" = some (some (.ref f_gcd)))
    (lo_gcd : K.lookup f_gcd = some ⟨oc_gcd, od_gcd, .func (PySem.W.fnOf "gcd" "gcd" (defArgs s_gcd) (defBody s_gcd) (defScope s_gcd) .none kV_gcd dc_gcd pm_gcd an_gcd cd_gcd ct_gcd), sl_gcd⟩)
    (co_gcd : PySem.W.codeIn K cd_gcd "gcd" = true)
    (ke_gcd : PySem.W.keepIn K (.ref f_gcd) = true)
    (at_rule_through : PySem.W.nsIn K mainGlobals "rule_through" = some (some (.ref f_rule_through)))
    (lo_rule_through : K.lookup f_rule_through = some ⟨oc_rule_through, od_rule_through, .func (PySem.W.fnOf "rule_through" "rule_through" (defArgs s_rule_through) (defBody s_rule_through) (defScope s_rule_through) .none kV_rule_through dc_rule_through pm_rule_through an_rule_through cd_rule_through ct_rule_through), sl_rule_through⟩)
    (co_rule_through : PySem.W.codeIn K cd_rule_through "rule_through" = true)
    (ke_rule_through : PySem.W.keepIn K (.ref f_rule_through) = true)
    (at_some_fits : PySem.W.nsIn K mainGlobals "some_fits" = some (some (.ref f_some_fits)))
    (lo_some_fits : K.lookup f_some_fits = some ⟨oc_some_fits, od_some_fits, .func (PySem.W.fnOf "some_fits" "some_fits" (defArgs s_some_fits) (defBody s_some_fits) (defScope s_some_fits) .none kV_some_fits dc_some_fits pm_some_fits an_some_fits cd_some_fits ct_some_fits), sl_some_fits⟩)
    (co_some_fits : PySem.W.codeIn K cd_some_fits "some_fits" = true)
    (ke_some_fits : PySem.W.keepIn K (.ref f_some_fits) = true)
    (at_least_modulus : PySem.W.nsIn K mainGlobals "least_modulus" = some (some (.ref f_least_modulus)))
    (lo_least_modulus : K.lookup f_least_modulus = some ⟨oc_least_modulus, od_least_modulus, .func (PySem.W.fnOf "least_modulus" "least_modulus" (defArgs s_least_modulus) (defBody s_least_modulus) (defScope s_least_modulus) .none kV_least_modulus dc_least_modulus pm_least_modulus an_least_modulus cd_least_modulus ct_least_modulus), sl_least_modulus⟩)
    (co_least_modulus : PySem.W.codeIn K cd_least_modulus "least_modulus" = true)
    (ke_least_modulus : PySem.W.keepIn K (.ref f_least_modulus) = true)
    (at_law_whole : PySem.W.nsIn K mainGlobals "_law_whole" = some (some (.ref f_law_whole)))
    (lo_law_whole : K.lookup f_law_whole = some ⟨oc_law_whole, od_law_whole, .func (PySem.W.fnOf "_law_whole" "_law_whole" (defArgs s_law_whole) (defBody s_law_whole) (defScope s_law_whole) .none kV_law_whole dc_law_whole pm_law_whole an_law_whole cd_law_whole ct_law_whole), sl_law_whole⟩)
    (co_law_whole : PySem.W.codeIn K cd_law_whole "_law_whole" = true)
    (ke_law_whole : PySem.W.keepIn K (.ref f_law_whole) = true)
    (at_law_gcd : PySem.W.nsIn K mainGlobals "_law_gcd" = some (some (.ref f_law_gcd)))
    (lo_law_gcd : K.lookup f_law_gcd = some ⟨oc_law_gcd, od_law_gcd, .func (PySem.W.fnOf "_law_gcd" "_law_gcd" (defArgs s_law_gcd) (defBody s_law_gcd) (defScope s_law_gcd) .none kV_law_gcd dc_law_gcd pm_law_gcd an_law_gcd cd_law_gcd ct_law_gcd), sl_law_gcd⟩)
    (co_law_gcd : PySem.W.codeIn K cd_law_gcd "_law_gcd" = true)
    (ke_law_gcd : PySem.W.keepIn K (.ref f_law_gcd) = true)
    (at_law_slope : PySem.W.nsIn K mainGlobals "_law_slope" = some (some (.ref f_law_slope)))
    (lo_law_slope : K.lookup f_law_slope = some ⟨oc_law_slope, od_law_slope, .func (PySem.W.fnOf "_law_slope" "_law_slope" (defArgs s_law_slope) (defBody s_law_slope) (defScope s_law_slope) .none kV_law_slope dc_law_slope pm_law_slope an_law_slope cd_law_slope ct_law_slope), sl_law_slope⟩)
    (co_law_slope : PySem.W.codeIn K cd_law_slope "_law_slope" = true)
    (ke_law_slope : PySem.W.keepIn K (.ref f_law_slope) = true)
    (at_law_lets : PySem.W.nsIn K mainGlobals "_law_lets" = some (some (.ref f_law_lets)))
    (lo_law_lets : K.lookup f_law_lets = some ⟨oc_law_lets, od_law_lets, .func (PySem.W.fnOf "_law_lets" "_law_lets" (defArgs s_law_lets) (defBody s_law_lets) (defScope s_law_lets) .none kV_law_lets dc_law_lets pm_law_lets an_law_lets cd_law_lets ct_law_lets), sl_law_lets⟩)
    (co_law_lets : PySem.W.codeIn K cd_law_lets "_law_lets" = true)
    (ke_law_lets : PySem.W.keepIn K (.ref f_law_lets) = true)
    (at_law_least : PySem.W.nsIn K mainGlobals "_law_least" = some (some (.ref f_law_least)))
    (lo_law_least : K.lookup f_law_least = some ⟨oc_law_least, od_law_least, .func (PySem.W.fnOf "_law_least" "_law_least" (defArgs s_law_least) (defBody s_law_least) (defScope s_law_least) .none kV_law_least dc_law_least pm_law_least an_law_least cd_law_least ct_law_least), sl_law_least⟩)
    (co_law_least : PySem.W.codeIn K cd_law_least "_law_least" = true)
    (ke_law_least : PySem.W.keepIn K (.ref f_law_least) = true)
    (at_law_picks : PySem.W.nsIn K mainGlobals "_law_picks" = some (some (.ref f_law_picks)))
    (lo_law_picks : K.lookup f_law_picks = some ⟨oc_law_picks, od_law_picks, .func (PySem.W.fnOf "_law_picks" "_law_picks" (defArgs s_law_picks) (defBody s_law_picks) (defScope s_law_picks) .none kV_law_picks dc_law_picks pm_law_picks an_law_picks cd_law_picks ct_law_picks), sl_law_picks⟩)
    (co_law_picks : PySem.W.codeIn K cd_law_picks "_law_picks" = true)
    (ke_law_picks : PySem.W.keepIn K (.ref f_law_picks) = true)
    (at_law_cell_at : PySem.W.nsIn K mainGlobals "_law_cell_at" = some (some (.ref f_law_cell_at)))
    (lo_law_cell_at : K.lookup f_law_cell_at = some ⟨oc_law_cell_at, od_law_cell_at, .func (PySem.W.fnOf "_law_cell_at" "_law_cell_at" (defArgs s_law_cell_at) (defBody s_law_cell_at) (defScope s_law_cell_at) .none kV_law_cell_at dc_law_cell_at pm_law_cell_at an_law_cell_at cd_law_cell_at ct_law_cell_at), sl_law_cell_at⟩)
    (co_law_cell_at : PySem.W.codeIn K cd_law_cell_at "_law_cell_at" = true)
    (ke_law_cell_at : PySem.W.keepIn K (.ref f_law_cell_at) = true)
    (at_law_step : PySem.W.nsIn K mainGlobals "_law_step" = some (some (.ref f_law_step)))
    (lo_law_step : K.lookup f_law_step = some ⟨oc_law_step, od_law_step, .func (PySem.W.fnOf "_law_step" "_law_step" (defArgs s_law_step) (defBody s_law_step) (defScope s_law_step) .none kV_law_step dc_law_step pm_law_step an_law_step cd_law_step ct_law_step), sl_law_step⟩)
    (co_law_step : PySem.W.codeIn K cd_law_step "_law_step" = true)
    (ke_law_step : PySem.W.keepIn K (.ref f_law_step) = true)
    (at_law_number : PySem.W.nsIn K mainGlobals "_law_number" = some (some (.ref f_law_number)))
    (lo_law_number : K.lookup f_law_number = some ⟨oc_law_number, od_law_number, .func (PySem.W.fnOf "_law_number" "_law_number" (defArgs s_law_number) (defBody s_law_number) (defScope s_law_number) .none kV_law_number dc_law_number pm_law_number an_law_number cd_law_number ct_law_number), sl_law_number⟩)
    (co_law_number : PySem.W.codeIn K cd_law_number "_law_number" = true)
    (ke_law_number : PySem.W.keepIn K (.ref f_law_number) = true)
    (at_law_numbers_by : PySem.W.nsIn K mainGlobals "_law_numbers_by" = some (some (.ref f_law_numbers_by)))
    (lo_law_numbers_by : K.lookup f_law_numbers_by = some ⟨oc_law_numbers_by, od_law_numbers_by, .func (PySem.W.fnOf "_law_numbers_by" "_law_numbers_by" (defArgs s_law_numbers_by) (defBody s_law_numbers_by) (defScope s_law_numbers_by) .none kV_law_numbers_by dc_law_numbers_by pm_law_numbers_by an_law_numbers_by cd_law_numbers_by ct_law_numbers_by), sl_law_numbers_by⟩)
    (co_law_numbers_by : PySem.W.codeIn K cd_law_numbers_by "_law_numbers_by" = true)
    (ke_law_numbers_by : PySem.W.keepIn K (.ref f_law_numbers_by) = true)
    (at_law_rows : PySem.W.nsIn K mainGlobals "_law_rows" = some (some (.ref f_law_rows)))
    (lo_law_rows : K.lookup f_law_rows = some ⟨oc_law_rows, od_law_rows, .func (PySem.W.fnOf "_law_rows" "_law_rows" (defArgs s_law_rows) (defBody s_law_rows) (defScope s_law_rows) .none kV_law_rows dc_law_rows pm_law_rows an_law_rows cd_law_rows ct_law_rows), sl_law_rows⟩)
    (co_law_rows : PySem.W.codeIn K cd_law_rows "_law_rows" = true)
    (ke_law_rows : PySem.W.keepIn K (.ref f_law_rows) = true)
    (at_law : PySem.W.nsIn K mainGlobals "law" = some (some (.ref f_law)))
    (lo_law : K.lookup f_law = some ⟨oc_law, od_law, .func (PySem.W.fnOf "law" "law" (defArgs s_law) (defBody s_law) (defScope s_law) .none kV_law dc_law pm_law an_law cd_law ct_law), sl_law⟩)
    (co_law : PySem.W.codeIn K cd_law "law" = true)
    (ke_law : PySem.W.keepIn K (.ref f_law) = true)
    (z_abs : PySem.W.nsIn K mainGlobals "abs" = some none)
    (z_bool : PySem.W.nsIn K mainGlobals "bool" = some none)
    (z_int : PySem.W.nsIn K mainGlobals "int" = some none)
    (z_isinstance : PySem.W.nsIn K mainGlobals "isinstance" = some none)
    (z_len : PySem.W.nsIn K mainGlobals "len" = some none)
    (z_list : PySem.W.nsIn K mainGlobals "list" = some none)
    (z_range : PySem.W.nsIn K mainGlobals "range" = some none)
    : ∃ fd : FuncData, (∀ (s : Shared) (v : Value), BindsTo s fd ⟨[v], []⟩ [("script", v)]) ∧ ∀ base : Heap, K.In base → base.Ns mainGlobals mg → FnOk l.prog w K mg base CX0 5 fa fd ["script"] (endSp K) := by
  have e := hfa.symm.trans (PySem.W.mg_of X G at_law)
  cases e
  let C : Ccs := ⟨⟨(fun i =>  (0, [])), K⟩, fun _ => fa⟩
  have n_abs := PySem.W.mg_none_of X G z_abs
  have n_bool := PySem.W.mg_none_of X G z_bool
  have n_int := PySem.W.mg_none_of X G z_int
  have n_isinstance := PySem.W.mg_none_of X G z_isinstance
  have n_len := PySem.W.mg_none_of X G z_len
  have n_list := PySem.W.mg_none_of X G z_list
  have n_range := PySem.W.mg_none_of X G z_range
  have F_pairs_by_remainder := fun_mk (st := s_pairs_by_remainder) lo_pairs_by_remainder co_pairs_by_remainder ke_pairs_by_remainder
  have B_pairs_by_remainder := F_pairs_by_remainder.binds (ps := ["modulus", "seen"]) fun _ _ _ _ _ _ us hl => match us, hl with | [_, _], _ => rfl
  have M_pairs_by_remainder := PySem.W.mg_of X G at_pairs_by_remainder
  have K_pairs_by_remainder := ke_pairs_by_remainder
  have F_gcd := fun_mk (st := s_gcd) lo_gcd co_gcd ke_gcd
  have B_gcd := F_gcd.binds (ps := ["one", "other"]) fun _ _ _ _ _ _ us hl => match us, hl with | [_, _], _ => rfl
  have M_gcd := PySem.W.mg_of X G at_gcd
  have K_gcd := ke_gcd
  have F_rule_through := fun_mk (st := s_rule_through) lo_rule_through co_rule_through ke_rule_through
  have B_rule_through := F_rule_through.binds (ps := ["modulus", "pairs"]) fun _ _ _ _ _ _ us hl => match us, hl with | [_, _], _ => rfl
  have M_rule_through := PySem.W.mg_of X G at_rule_through
  have K_rule_through := ke_rule_through
  have F_some_fits := fun_mk (st := s_some_fits) lo_some_fits co_some_fits ke_some_fits
  have B_some_fits := F_some_fits.binds (ps := ["modulus", "seen"]) fun _ _ _ _ _ _ us hl => match us, hl with | [_, _], _ => rfl
  have M_some_fits := PySem.W.mg_of X G at_some_fits
  have K_some_fits := ke_some_fits
  have F_least_modulus := fun_mk (st := s_least_modulus) lo_least_modulus co_least_modulus ke_least_modulus
  have B_least_modulus := F_least_modulus.binds (ps := ["seen", "most"]) fun _ _ _ _ _ _ us hl => match us, hl with | [_, _], _ => rfl
  have M_least_modulus := PySem.W.mg_of X G at_least_modulus
  have K_least_modulus := ke_least_modulus
  have F_law_whole := fun_mk (st := s_law_whole) lo_law_whole co_law_whole ke_law_whole
  have B_law_whole := F_law_whole.binds (ps := ["found"]) fun _ _ _ _ _ _ us hl => match us, hl with | [_], _ => rfl
  have M_law_whole := PySem.W.mg_of X G at_law_whole
  have K_law_whole := ke_law_whole
  have F_law_gcd := fun_mk (st := s_law_gcd) lo_law_gcd co_law_gcd ke_law_gcd
  have B_law_gcd := F_law_gcd.binds (ps := ["p", "q"]) fun _ _ _ _ _ _ us hl => match us, hl with | [_, _], _ => rfl
  have M_law_gcd := PySem.W.mg_of X G at_law_gcd
  have K_law_gcd := ke_law_gcd
  have F_law_slope := fun_mk (st := s_law_slope) lo_law_slope co_law_slope ke_law_slope
  have B_law_slope := F_law_slope.binds (ps := ["m", "one", "other"]) fun _ _ _ _ _ _ us hl => match us, hl with | [_, _, _], _ => rfl
  have M_law_slope := PySem.W.mg_of X G at_law_slope
  have K_law_slope := ke_law_slope
  have F_law_lets := fun_mk (st := s_law_lets) lo_law_lets co_law_lets ke_law_lets
  have B_law_lets := F_law_lets.binds (ps := ["m", "told"]) fun _ _ _ _ _ _ us hl => match us, hl with | [_, _], _ => rfl
  have M_law_lets := PySem.W.mg_of X G at_law_lets
  have K_law_lets := ke_law_lets
  have F_law_least := fun_mk (st := s_law_least) lo_law_least co_law_least ke_law_least
  have B_law_least := F_law_least.binds (ps := ["told"]) fun _ _ _ _ _ _ us hl => match us, hl with | [_], _ => rfl
  have M_law_least := PySem.W.mg_of X G at_law_least
  have K_law_least := ke_law_least
  have F_law_picks := fun_mk (st := s_law_picks) lo_law_picks co_law_picks ke_law_picks
  have B_law_picks := F_law_picks.binds (ps := ["cell", "sizes"]) fun _ _ _ _ _ _ us hl => match us, hl with | [_, _], _ => rfl
  have M_law_picks := PySem.W.mg_of X G at_law_picks
  have K_law_picks := ke_law_picks
  have F_law_cell_at := fun_mk (st := s_law_cell_at) lo_law_cell_at co_law_cell_at ke_law_cell_at
  have B_law_cell_at := F_law_cell_at.binds (ps := ["script", "k"]) fun _ _ _ _ _ _ us hl => match us, hl with | [_, _], _ => rfl
  have M_law_cell_at := PySem.W.mg_of X G at_law_cell_at
  have K_law_cell_at := ke_law_cell_at
  have F_law_step := fun_mk (st := s_law_step) lo_law_step co_law_step ke_law_step
  have B_law_step := F_law_step.binds (ps := ["rows", "number"]) fun _ _ _ _ _ _ us hl => match us, hl with | [_, _], _ => rfl
  have M_law_step := PySem.W.mg_of X G at_law_step
  have K_law_step := ke_law_step
  have F_law_number := fun_mk (st := s_law_number) lo_law_number co_law_number ke_law_number
  have B_law_number := F_law_number.binds (ps := ["cell", "bound"]) fun _ _ _ _ _ _ us hl => match us, hl with | [_, _], _ => rfl
  have M_law_number := PySem.W.mg_of X G at_law_number
  have K_law_number := ke_law_number
  have F_law_numbers_by := fun_mk (st := s_law_numbers_by) lo_law_numbers_by co_law_numbers_by ke_law_numbers_by
  have B_law_numbers_by := F_law_numbers_by.binds (ps := ["cells"]) fun _ _ _ _ _ _ us hl => match us, hl with | [_], _ => rfl
  have M_law_numbers_by := PySem.W.mg_of X G at_law_numbers_by
  have K_law_numbers_by := ke_law_numbers_by
  have F_law_rows := fun_mk (st := s_law_rows) lo_law_rows co_law_rows ke_law_rows
  have B_law_rows := F_law_rows.binds (ps := ["cell", "most", "beside", "far"]) fun _ _ _ _ _ _ us hl => match us, hl with | [_, _, _, _], _ => rfl
  have M_law_rows := PySem.W.mg_of X G at_law_rows
  have K_law_rows := ke_law_rows
  have F_law := fun_mk (st := s_law) lo_law co_law ke_law
  have B_law := F_law.binds (ps := ["script"]) fun _ _ _ _ _ _ us hl => match us, hl with | [_], _ => rfl
  have M_law := PySem.W.mg_of X G at_law
  have K_law := ke_law
  have KB_least_modulus_10 : KBp K (PySem.W.fnOf "least_modulus" "least_modulus" (defArgs s_least_modulus) (defBody s_least_modulus) (defScope s_least_modulus) .none kV_least_modulus dc_least_modulus pm_least_modulus an_least_modulus cd_least_modulus ct_least_modulus) ["seen", "most"] ["most", "seen"] [1, 0] := ⟨fun s ws hl => match ws, hl with | [_, _], _ => .of_eq rfl⟩
  refine ⟨PySem.W.fnOf "law" "law" (defArgs s_law) (defBody s_law) (defScope s_law) .none kV_law dc_law pm_law an_law cd_law ct_law, fun s v => .of_eq rfl, fun base _ _ => ?_⟩
  have ok_pairs_by_remainder := ok_pairs_by_remainder (P := l.prog) (w := w) (mg := mg) (base := base) (C := C) F_pairs_by_remainder rfl n_range
  have ok_gcd := ok_gcd (P := l.prog) (w := w) (mg := mg) (base := base) (C := C) F_gcd rfl n_abs
  have ok_rule_through := ok_rule_through (P := l.prog) (w := w) (mg := mg) (base := base) (C := C) F_rule_through rfl ok_gcd B_gcd M_gcd K_gcd
  have ok_some_fits := ok_some_fits (P := l.prog) (w := w) (mg := mg) (base := base) (C := C) F_some_fits rfl n_len ok_pairs_by_remainder B_pairs_by_remainder M_pairs_by_remainder K_pairs_by_remainder ok_rule_through B_rule_through M_rule_through K_rule_through
  have ok_least_modulus := ok_least_modulus (P := l.prog) (w := w) (mg := mg) (base := base) (C := C) F_least_modulus rfl n_range ok_some_fits B_some_fits M_some_fits K_some_fits
  have ok_law_whole := ok_law_whole (P := l.prog) (w := w) (mg := mg) (base := base) (C := C) F_law_whole rfl n_bool n_int n_isinstance
  have ok_law_gcd := ok_law_gcd (P := l.prog) (w := w) (mg := mg) (base := base) (C := C) F_law_gcd rfl n_abs n_int
  have ok_law_slope := ok_law_slope (P := l.prog) (w := w) (mg := mg) (base := base) (C := C) F_law_slope rfl n_abs n_int ok_law_gcd B_law_gcd M_law_gcd K_law_gcd
  have ok_law_lets := ok_law_lets (P := l.prog) (w := w) (mg := mg) (base := base) (C := C) F_law_lets rfl n_int n_len n_range ok_law_slope B_law_slope M_law_slope K_law_slope
  have ok_law_least := ok_law_least (P := l.prog) (w := w) (mg := mg) (base := base) (C := C) F_law_least rfl n_range ok_law_lets B_law_lets M_law_lets K_law_lets
  have ok_law_picks := ok_law_picks (P := l.prog) (w := w) (mg := mg) (base := base) (C := C) F_law_picks rfl n_abs n_int n_len n_range
  have ok_law_cell_at := ok_law_cell_at (P := l.prog) (w := w) (mg := mg) (base := base) (C := C) F_law_cell_at rfl n_len
  have ok_law_step := ok_law_step (P := l.prog) (w := w) (mg := mg) (base := base) (C := C) F_law_step rfl n_int n_len
  have ok_law_number := ok_law_number (P := l.prog) (w := w) (mg := mg) (base := base) (C := C) F_law_number rfl n_abs
  have ok_law_numbers_by := ok_law_numbers_by (P := l.prog) (w := w) (mg := mg) (base := base) (C := C) F_law_numbers_by rfl ok_law_number B_law_number M_law_number K_law_number ok_law_picks B_law_picks M_law_picks K_law_picks
  have ok_law_rows := ok_law_rows (P := l.prog) (w := w) (mg := mg) (base := base) (C := C) F_law_rows rfl n_range ok_law_gcd B_law_gcd M_law_gcd K_law_gcd ok_law_picks B_law_picks M_law_picks K_law_picks
  have ok_law := ok_law (P := l.prog) (w := w) (mg := mg) (base := base) (C := C) F_law rfl n_len n_list ok_least_modulus B_least_modulus M_least_modulus K_least_modulus ok_law_whole B_law_whole M_law_whole K_law_whole ok_law_least B_law_least M_law_least K_law_least ok_law_picks B_law_picks M_law_picks K_law_picks ok_law_cell_at B_law_cell_at M_law_cell_at K_law_cell_at ok_law_step B_law_step M_law_step K_law_step ok_law_numbers_by B_law_numbers_by M_law_numbers_by K_law_numbers_by ok_law_rows B_law_rows M_law_rows K_law_rows KB_least_modulus_10
  exact law_end ok_law rfl fun ns h1 h2 => ⟨ns, rfl, h2, by omega, rfl⟩
end MP.K62
end TL
open PySem PySem.W PyProof.Rows
set_option maxRecDepth 100000 in
set_option maxHeartbeats 0 in
theorem PySem.Challenge.cw_reststeps_k62_least_moduli_holds : PySem.Challenge.rw_reststeps_k62_least_moduli.Holds := by
  w_on; o_law; k_head; (case hw => w_witness2)
  k_fill
  refine TL.walkT (l := PySem.Challenge.rw_reststeps_k62_least_moduli) (k := 5) rfl rfl ⟨rfl, by decide, by decide⟩ (fun w h Y => PySem.W.kIn_of Y) ?F
  case F =>
    intro w mg fa h KX G hmg
    refine' TL.MP.K62.all_mk KX G hmg ?at_pairs_by_remainder ?lo_pairs_by_remainder ?co_pairs_by_remainder ?ke_pairs_by_remainder ?at_gcd ?lo_gcd ?co_gcd ?ke_gcd ?at_rule_through ?lo_rule_through ?co_rule_through ?ke_rule_through ?at_some_fits ?lo_some_fits ?co_some_fits ?ke_some_fits ?at_least_modulus ?lo_least_modulus ?co_least_modulus ?ke_least_modulus ?at_law_whole ?lo_law_whole ?co_law_whole ?ke_law_whole ?at_law_gcd ?lo_law_gcd ?co_law_gcd ?ke_law_gcd ?at_law_slope ?lo_law_slope ?co_law_slope ?ke_law_slope ?at_law_lets ?lo_law_lets ?co_law_lets ?ke_law_lets ?at_law_least ?lo_law_least ?co_law_least ?ke_law_least ?at_law_picks ?lo_law_picks ?co_law_picks ?ke_law_picks ?at_law_cell_at ?lo_law_cell_at ?co_law_cell_at ?ke_law_cell_at ?at_law_step ?lo_law_step ?co_law_step ?ke_law_step ?at_law_number ?lo_law_number ?co_law_number ?ke_law_number ?at_law_numbers_by ?lo_law_numbers_by ?co_law_numbers_by ?ke_law_numbers_by ?at_law_rows ?lo_law_rows ?co_law_rows ?ke_law_rows ?at_law ?lo_law ?co_law ?ke_law ?z_abs ?z_bool ?z_int ?z_isinstance ?z_len ?z_list ?z_range
    (case at_pairs_by_remainder => k_is)
    (case lo_pairs_by_remainder => k_is)
    (case co_pairs_by_remainder => k_is)
    (case ke_pairs_by_remainder => k_is)
    (case at_gcd => k_is)
    (case lo_gcd => k_is)
    (case co_gcd => k_is)
    (case ke_gcd => k_is)
    (case at_rule_through => k_is)
    (case lo_rule_through => k_is)
    (case co_rule_through => k_is)
    (case ke_rule_through => k_is)
    (case at_some_fits => k_is)
    (case lo_some_fits => k_is)
    (case co_some_fits => k_is)
    (case ke_some_fits => k_is)
    (case at_least_modulus => k_is)
    (case lo_least_modulus => k_is)
    (case co_least_modulus => k_is)
    (case ke_least_modulus => k_is)
    (case at_law_whole => k_is)
    (case lo_law_whole => k_is)
    (case co_law_whole => k_is)
    (case ke_law_whole => k_is)
    (case at_law_gcd => k_is)
    (case lo_law_gcd => k_is)
    (case co_law_gcd => k_is)
    (case ke_law_gcd => k_is)
    (case at_law_slope => k_is)
    (case lo_law_slope => k_is)
    (case co_law_slope => k_is)
    (case ke_law_slope => k_is)
    (case at_law_lets => k_is)
    (case lo_law_lets => k_is)
    (case co_law_lets => k_is)
    (case ke_law_lets => k_is)
    (case at_law_least => k_is)
    (case lo_law_least => k_is)
    (case co_law_least => k_is)
    (case ke_law_least => k_is)
    (case at_law_picks => k_is)
    (case lo_law_picks => k_is)
    (case co_law_picks => k_is)
    (case ke_law_picks => k_is)
    (case at_law_cell_at => k_is)
    (case lo_law_cell_at => k_is)
    (case co_law_cell_at => k_is)
    (case ke_law_cell_at => k_is)
    (case at_law_step => k_is)
    (case lo_law_step => k_is)
    (case co_law_step => k_is)
    (case ke_law_step => k_is)
    (case at_law_number => k_is)
    (case lo_law_number => k_is)
    (case co_law_number => k_is)
    (case ke_law_number => k_is)
    (case at_law_numbers_by => k_is)
    (case lo_law_numbers_by => k_is)
    (case co_law_numbers_by => k_is)
    (case ke_law_numbers_by => k_is)
    (case at_law_rows => k_is)
    (case lo_law_rows => k_is)
    (case co_law_rows => k_is)
    (case ke_law_rows => k_is)
    (case at_law => k_is)
    (case lo_law => k_is)
    (case co_law => k_is)
    (case ke_law => k_is)
    (case z_abs => k_is)
    (case z_bool => k_is)
    (case z_int => k_is)
    (case z_isinstance => k_is)
    (case z_len => k_is)
    (case z_list => k_is)
    (case z_range => k_is)

