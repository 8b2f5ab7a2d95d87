import PyProof.Rows.All
import Wide.All
import OpenK.AllK
import Wide.FinOn
import HandS.ForMost
import HandS.ForExc
import HandS.Property
import HandS.Wide
import HandS.EndBits
import HandS.Style
import HandS.WordsList
import HandS.IsInst
import HandS.Codes
import HandS.SlotsOwn
import HandS.MakeKwOnly
import HandS.Conv
import HandS.NoneIn
import HandS.Exc
import HandS.ExcInit
import HandS.WordsExc
import KE.KExcIs
import HandS.ExcField
import HandS.ExcIs
import HandS.SortInts
import HandS.Deep
import PyProof.LongRange
import HandS.FStr
import HandS.Text
import HandS.Dict
import HandS.Iter
import HandS.SetKeys
import KE.KDictDisplayH
import PyProof.DictMoreH
import KE.KTupSum
import KE.SortData
import KE.DataCmp
import HandS.TupSets
import PyProof.Rows.SetFrom
import KE.DatumOrd
import HandS.SortKw
import HandS.SetFor
import HandS.More
import HandS.TupLen
import HandS.Star
import HandS.ClsMeth
import PySem.Challenge.RW_reststeps_k80_whole_walkers_retrace
set_option Elab.async false
set_option linter.all false
set_option maxRecDepth 100000
set_option maxHeartbeats 2000000
/-! The tree layer: values as trees, defs as predicate transformers over environments of trees. -/
namespace TL
open PySem L2

/-- at a: an exception of the class at C, its dict at dx -/
def exC (a C dx : Addr) : HO := .ext fun h => ∃ (oe : Obj) (vs : Array Value), h.get? a = some oe ∧ oe.cls = .ref C ∧ oe.dict = some dx ∧ oe.data = .fields vs
/-- a value as a tree (dct: an exception, [its class] [its value]) -/
inductive D where
  | non | bl (b : Bool) | int (i : Int) | str (x : Str)
  | tup (xs : List D) | lst (xs : List D) | obj (c : Nat) (xs : List D) | dct (ks xs : List D) | dic (ks xs : List D) | ptr (a : Addr)

/-- the classes: where each stands, the names of its fields in order; what the top has written -/
structure CC where
  cl : Nat → Addr × List Str
  K : PySem.W.Frag
/-- a key of a dict as a tree -/
def keyD : Key → D
  | .inl i => .int i
  | .inr x => .str x
/-- a dict stands at a: the kind of its keys (tuples or not) and its keys, its values -/
def DctO (H : Hp) (a : Addr) (ks : List D) (vs : List V) : Prop :=
  (∃ kk : List Key, ks = .bl false :: kk.map keyD ∧ kk.length = vs.length ∧ kk.Nodup ∧ H a = some (.dK (kk.zip vs))) ∨
  (∃ kt : List (List Key), ks = .bl true :: kt.map (fun k => .tup (k.map keyD)) ∧ kt.length = vs.length ∧ kt.Nodup ∧ H a = some (.dT (kt.zip vs)))
/-- the same, or the dict is locked: read alone -/
def DctR (H : Hp) (a : Addr) (ks : List D) (vs : List V) : Prop :=
  (∃ kk : List Key, ks = .bl false :: kk.map keyD ∧ kk.length = vs.length ∧ kk.Nodup ∧ Rd H a (.dK (kk.zip vs))) ∨
  (∃ kt : List (List Key), ks = .bl true :: kt.map (fun k => .tup (k.map keyD)) ∧ kt.length = vs.length ∧ kt.Nodup ∧ Rd H a (.dT (kt.zip vs)))
theorem DctO.rd {H : Hp} {a : Addr} {ks : List D} {vs : List V} (r : DctO H a ks vs) : DctR H a ks vs := by
  rcases r with ⟨kk, h1, h2, h3, h4⟩ | ⟨kk, h1, h2, h3, h4⟩
  · exact .inl ⟨kk, h1, h2, h3, .inl h4⟩
  · exact .inr ⟨kk, h1, h2, h3, .inl h4⟩
theorem DctR.heap {H H' : Hp} {a : Addr} {ks : List D} {vs : List V} (r : DctR H a ks vs) (e : ∀ o, H a = some o → H' a = some o) : DctR H' a ks vs := by
  rcases r with ⟨kk, h1, h2, h3, h4⟩ | ⟨kk, h1, h2, h3, h4⟩
  · exact .inl ⟨kk, h1, h2, h3, h4.imp (e _) fun ⟨o, q⟩ => ⟨o, e _ q⟩⟩
  · exact .inr ⟨kk, h1, h2, h3, h4.imp (e _) fun ⟨o, q⟩ => ⟨o, e _ q⟩⟩
theorem DctO.heap {H H' : Hp} {a : Addr} {ks : List D} {vs : List V} (r : DctO H a ks vs) (e : ∀ o, H a = some o → H' a = some o) : DctO H' a ks vs := by
  rcases r with ⟨kk, h1, h2, h3, h4⟩ | ⟨kk, h1, h2, h3, h4⟩
  · exact .inl ⟨kk, h1, h2, h3, e _ h4⟩
  · exact .inr ⟨kk, h1, h2, h3, e _ h4⟩
theorem DctO.ob {H : Hp} {a : Addr} {ks : List D} {vs : List V} (r : DctO H a ks vs) : ∃ o, H a = some o ∧ Mut (some o) := by
  rcases r with ⟨kk, h1, h2, h3, h4⟩ | ⟨kk, h1, h2, h3, h4⟩
  · exact ⟨_, h4, trivial⟩
  · exact ⟨_, h4, trivial⟩
mutual
/-- the value v stands for the tree d, all its objects within G -/
def Rep (cc : CC) (G : Hp) : V → D → Prop
  | v, .non => v = .non
  | v, .bl b => v = .bl b
  | v, .int i => v = .int i
  | v, .str x => v = .str x
  | v, .ptr a => v = .ref a
  | v, .tup ds => ∃ a vs, v = .ref a ∧ G a = some (.tup vs) ∧ Reps cc G vs ds
  | v, .lst ds => ∃ a vs, v = .ref a ∧ SqL cc.K G a vs ∧ Reps cc G vs ds
  | v, .obj c ds => ∃ a dx vs, v = .ref a ∧ G a = some (.ins (cc.cl c).1 dx ((cc.cl c).2.zip vs)) ∧ vs.length ≤ (cc.cl c).2.length ∧ Reps cc G vs ds
  | v, .dct ks ds => ∃ (c : Nat) (a dx : Addr) (u : V), ks = [.int c] ∧ v = .ref a ∧ G a = some (exC a (cc.cl c).1 dx) ∧ G dx = some (.xd [("value", u)]) ∧ Reps cc G [u] ds
  | v, .dic ks ds => ∃ a vs, v = .ref a ∧ DctR G a ks vs ∧ Reps cc G vs ds
def Reps (cc : CC) (G : Hp) : List V → List D → Prop
  | vs, [] => vs = []
  | vs, d :: ds => ∃ v r, vs = v :: r ∧ Rep cc G v d ∧ Reps cc G r ds
end

def LE (G G' : Hp) : Prop := ∀ a o, G a = some o → G' a = some o
theorem LE.refl (G : Hp) : LE G G := fun _ _ h => h
theorem LE.trans {A B C : Hp} (h : LE A B) (k : LE B C) : LE A C := fun a o e => k a o (h a o e)
theorem LE.rd {G G' : Hp} (h : LE G G') {a : Addr} {o : HO} (r : Rd G a o) : Rd G' a o := by
  rcases r with r | ⟨u, r⟩
  · exact .inl (h _ _ r)
  · exact .inr ⟨u, h _ _ r⟩
theorem LE.sql {K : PySem.W.Frag} {G G' : Hp} (h : LE G G') {a : Addr} {xs : List V} (r : SqL K G a xs) : SqL K G' a xs := by
  rcases r with r | r
  · exact .inl (h.rd r)
  · exact .inr r
theorem LE.upd {G : Hp} {a : Addr} {o : HO} (h : G a = none) : LE G (upd G a o) := fun b u e => by
  rw [upd_ne (ne_of_none e h)]; exact e
mutual
theorem Rep.mono {cc : CC} {G G' : Hp} (h : LE G G') : ∀ {d : D} {v : V}, Rep cc G v d → Rep cc G' v d
  | .non, _, r => by unfold Rep at r ⊢; exact r
  | .bl _, _, r => by unfold Rep at r ⊢; exact r
  | .int _, _, r => by unfold Rep at r ⊢; exact r
  | .str _, _, r => by unfold Rep at r ⊢; exact r
  | .ptr _, _, r => by unfold Rep at r ⊢; exact r
  | .tup ds, _, r => by
    unfold Rep at r ⊢
    obtain ⟨a, vs, e, g, q⟩ := r
    exact ⟨a, vs, e, h _ _ g, Reps.mono h q⟩
  | .lst ds, _, r => by
    unfold Rep at r ⊢
    obtain ⟨a, vs, e, g, q⟩ := r
    exact ⟨a, vs, e, h.sql g, Reps.mono h q⟩
  | .obj c ds, _, r => by
    unfold Rep at r ⊢
    obtain ⟨a, dx, vs, e, g, l, q⟩ := r
    exact ⟨a, dx, vs, e, h _ _ g, l, Reps.mono h q⟩
  | .dct _ ds, _, r => by
    unfold Rep at r ⊢
    obtain ⟨c, a, dx, u, e1, e2, g1, g2, q⟩ := r
    exact ⟨c, a, dx, u, e1, e2, h _ _ g1, h _ _ g2, Reps.mono h q⟩
  | .dic _ ds, _, r => by
    unfold Rep at r ⊢
    obtain ⟨a, vs, e, g, q⟩ := r
    exact ⟨a, vs, e, g.heap fun o ho => h _ _ ho, Reps.mono h q⟩
theorem Reps.mono {cc : CC} {G G' : Hp} (h : LE G G') : ∀ {ds : List D} {vs : List V}, Reps cc G vs ds → Reps cc G' vs ds
  | [], _, r => by unfold Reps at r ⊢; exact r
  | d :: ds, _, r => by
    unfold Reps at r ⊢
    obtain ⟨v, q, e, a, b⟩ := r
    exact ⟨v, q, e, Rep.mono h a, Reps.mono h b⟩
end

section
variable {cc : CC} {G : Hp}
theorem Reps.nil : Reps cc G [] [] := by unfold Reps; rfl
theorem Reps.cons {v : V} {d : D} {vs : List V} {ds : List D} (a : Rep cc G v d) (b : Reps cc G vs ds) : Reps cc G (v :: vs) (d :: ds) := by
  unfold Reps; exact ⟨v, vs, rfl, a, b⟩
theorem Reps.inv_cons {vs : List V} {d : D} {ds : List D} (h : Reps cc G vs (d :: ds)) : ∃ v r, vs = v :: r ∧ Rep cc G v d ∧ Reps cc G r ds := by
  unfold Reps at h; exact h
theorem Reps.inv_nil {vs : List V} (h : Reps cc G vs []) : vs = [] := by unfold Reps at h; exact h
theorem Reps.length : ∀ {ds : List D} {vs : List V}, Reps cc G vs ds → vs.length = ds.length
  | [], _, h => by rw [h.inv_nil]; rfl
  | d :: ds, _, h => by obtain ⟨v, r, rfl, _, q⟩ := h.inv_cons; simp [Reps.length q]
theorem Reps.append : ∀ {ds es : List D} {vs us : List V}, Reps cc G vs ds → Reps cc G us es → Reps cc G (vs ++ us) (ds ++ es)
  | [], _, _, _, h, k => by rw [h.inv_nil]; exact k
  | d :: ds, _, _, _, h, k => by obtain ⟨v, r, rfl, a, q⟩ := h.inv_cons; exact Reps.cons a (Reps.append q k)
theorem Reps.get : ∀ {ds : List D} {vs : List V} {i : Nat} {d : D}, Reps cc G vs ds → ds[i]? = some d → ∃ v, vs[i]? = some v ∧ Rep cc G v d
  | [], _, _, _, _, e => by simp at e
  | _ :: _, _, 0, _, h, e => by
    obtain ⟨v, r, rfl, a, q⟩ := h.inv_cons
    simp at e; subst e
    exact ⟨v, rfl, a⟩
  | _ :: _, _, i + 1, _, h, e => by
    obtain ⟨v, r, rfl, a, q⟩ := h.inv_cons
    simp at e
    obtain ⟨u, e1, e2⟩ := Reps.get q e
    exact ⟨u, by simpa using e1, e2⟩
theorem Reps.get' : ∀ {ds : List D} {vs : List V} {i : Nat} {v : V}, Reps cc G vs ds → vs[i]? = some v → ∃ d, ds[i]? = some d ∧ Rep cc G v d
  | [], _, _, _, h, e => by rw [h.inv_nil] at e; simp at e
  | _ :: _, _, 0, _, h, e => by
    obtain ⟨v, r, rfl, a, q⟩ := h.inv_cons
    simp at e; subst e
    exact ⟨_, rfl, a⟩
  | _ :: _, _, i + 1, _, h, e => by
    obtain ⟨v, r, rfl, a, q⟩ := h.inv_cons
    simp at e
    obtain ⟨u, e1, e2⟩ := Reps.get' q e
    exact ⟨u, by simpa using e1, e2⟩
theorem Reps.set : ∀ {ds : List D} {vs : List V} (i : Nat) {v : V} {d : D}, Reps cc G vs ds → Rep cc G v d → Reps cc G (vs.set i v) (ds.set i d)
  | [], _, _, _, _, h, _ => by rw [h.inv_nil]; exact Reps.nil
  | _ :: _, _, 0, _, _, h, k => by
    obtain ⟨v, r, rfl, a, q⟩ := h.inv_cons
    exact Reps.cons k q
  | _ :: _, _, i + 1, _, _, h, k => by
    obtain ⟨v, r, rfl, a, q⟩ := h.inv_cons
    exact Reps.cons a (Reps.set i q k)
theorem Reps.take : ∀ {ds : List D} {vs : List V} (n : Nat), Reps cc G vs ds → Reps cc G (vs.take n) (ds.take n)
  | _, _, 0, _ => by simp; exact Reps.nil
  | [], _, _ + 1, h => by rw [h.inv_nil]; exact Reps.nil
  | _ :: _, _, n + 1, h => by
    obtain ⟨v, r, rfl, a, q⟩ := h.inv_cons
    exact Reps.cons a (Reps.take n q)
theorem Reps.drop : ∀ {ds : List D} {vs : List V} (n : Nat), Reps cc G vs ds → Reps cc G (vs.drop n) (ds.drop n)
  | _, _, 0, h => by simpa using h
  | [], _, _ + 1, h => by rw [h.inv_nil]; exact Reps.nil
  | _ :: _, _, n + 1, h => by
    obtain ⟨v, r, rfl, a, q⟩ := h.inv_cons
    exact Reps.drop n q
theorem Reps.reverse : ∀ {ds : List D} {vs : List V}, Reps cc G vs ds → Reps cc G vs.reverse ds.reverse
  | [], _, h => by rw [h.inv_nil]; exact Reps.nil
  | _ :: _, _, h => by
    obtain ⟨v, r, rfl, a, q⟩ := h.inv_cons
    rw [List.reverse_cons, List.reverse_cons]
    exact (Reps.reverse q).append (Reps.cons a Reps.nil)
theorem Reps.mem : ∀ {ds : List D} {vs : List V} {v : V}, Reps cc G vs ds → v ∈ vs → ∃ d, d ∈ ds ∧ Rep cc G v d
  | [], _, _, h, e => by rw [h.inv_nil] at e; simp at e
  | d :: _, _, u, h, e => by
    obtain ⟨v, r, rfl, a, q⟩ := h.inv_cons
    rcases List.mem_cons.mp e with rfl | e
    · exact ⟨d, List.mem_cons_self, a⟩
    · obtain ⟨x, y, z⟩ := Reps.mem q e; exact ⟨x, List.mem_cons_of_mem _ y, z⟩
end

/-- a slot of a def: nothing known; a value that may stand elsewhere too; a root that stands nowhere else (p: it is the caller's, handed in to be changed) -/
inductive Sl where
  | no | sh (d : D) | own (p : Bool) (a : Addr) (d : D)
abbrev REnv := List Sl
/-- what an expression gives: the value of a name; a value; a new root; a ghost (a root of no name, behind the frame); a value with new roots within -/
inductive Rv where
  | loc (i : Nat) | sh (d : D) | fr (a : Addr) (d : D) | gh (j : Nat) (a : Addr) | gx (as : List Addr) (cs : List D) (t : D)
def getL (ρ : REnv) (i : Nat) : D := match ρ[i]? with | some (.sh d) => d | some (.own _ _ d) => d | _ => .non
/-- the addresses of the roots that are known -/
def owns : REnv → List Addr
  | [] => []
  | .own _ a _ :: ρ => a :: owns ρ
  | _ :: ρ => owns ρ
def Rv.get (r : Rv) (ρ : REnv) : D := match r with | .loc i => getL ρ i | .sh d => d | .fr _ d => d | .gh j _ => getL ρ j | .gx _ _ t => t
def Rv.pend (r : Rv) : Rv := match r with | .fr _ d => .sh d | .gx _ _ t => .sh t | r => r
theorem Rv.get_pend (r : Rv) (ρ : REnv) : r.pend.get ρ = r.get ρ := by cases r <;> rfl
def bound (ρ : REnv) (i : Nat) : Prop := match ρ[i]? with | some (.sh _) => True | some (.own _ _ _) => True | _ => False

/-- what is wanted of an exception: its class, its value, the names -/
abbrev Xk := Nat → D → REnv → Prop
abbrev EW := Xk → REnv → (Rv → REnv → Prop) → Prop
abbrev TW := Xk → REnv → (Bool → REnv → Prop) → Prop
structure SK where
  nx : REnv → Prop
  rt : Rv → REnv → Prop
  bk : REnv → Prop := fun _ => False
  ct : REnv → Prop := fun _ => False
abbrev SW := Xk → REnv → SK → Prop
abbrev GW := D → REnv → (REnv → Prop) → Prop

/-- fixed through a def's run: where the classes stand, the heap and the known part of it at the entry, the arguments that may be changed -/
structure Zone where
  cc : CC
  H0 : Hp
  G0 : Hp
  mu : List Addr
  xk : Xk
  n : Nat

/-- the object at a is the root of d, its parts within G -/
def Root (cc : CC) (G H : Hp) (a : Addr) : D → Prop
  | .lst ds => ∃ vs, H a = some (.lst vs) ∧ Reps cc G vs ds
  | .obj c ds => ∃ dx vs, H a = some (.ins (cc.cl c).1 dx ((cc.cl c).2.zip vs)) ∧ vs.length ≤ (cc.cl c).2.length ∧ Reps cc G vs ds
  | .dic ks ds => ∃ vs, DctO H a ks vs ∧ Reps cc G vs ds
  | _ => False
def SlOk (cc : CC) (G H : Hp) (i : Nat) (σ : St) : Sl → Prop
  | .no => True
  | .sh d => ∃ v, σ[i]? = some (some v) ∧ Rep cc G v d
  | .own _ a d => (σ[i]? = some (some (.ref a)) ∨ σ.length ≤ i) ∧ Root cc G H a d
structure SR (Z : Zone) (ρ : REnv) (G : Hp) (σ : St) (H : Hp) : Prop where
  len : σ.length = Z.n ∧ Z.n ≤ ρ.length
  sub : LE G H
  slot : ∀ (i : Nat) (s : Sl), ρ[i]? = some s → SlOk Z.cc G H i σ s
  inj : ∀ (i j : Nat) (p q : Bool) (a : Addr) (d : D) (b : Addr) (e : D), ρ[i]? = some (.own p a d) → ρ[j]? = some (.own q b e) → i ≠ j → a ≠ b
  out : ∀ (i : Nat) (p : Bool) (a : Addr) (d : D), ρ[i]? = some (.own p a d) → G a = none
  ent : ∀ a o, Z.H0 a = some o → a ∉ Z.mu → H a = some o
  frs : ∀ (i : Nat) (p : Bool) (a : Addr) (d : D), ρ[i]? = some (.own p a d) → if p then a ∈ Z.mu else (Z.H0 a = none ∧ a ∉ Z.mu)
  gnew : ∀ a, G a ≠ none → Z.G0 a ≠ none ∨ Z.H0 a = none
  g0 : LE Z.G0 G
  mout : ∀ a ∈ Z.mu, G a = none
  mux : ∀ a ∈ Z.mu, H a ≠ none
/-- a new root at a -/
def FrOk (Z : Zone) (ρ : REnv) (G H : Hp) (a : Addr) (d : D) : Prop := Root Z.cc G H a d ∧ G a = none ∧ (∀ (i : Nat) (p : Bool) (b : Addr) (e : D), ρ[i]? = some (.own p b e) → b ≠ a) ∧ Z.H0 a = none ∧ a ∉ Z.mu
def RvOk (Z : Zone) (r : Rv) (ρ : REnv) (G : Hp) (σ : St) (H : Hp) (v : V) : Prop :=
  match r with
  | .loc i => σ[i]? = some (some v) ∧ bound ρ i
  | .sh d => Rep Z.cc G v d
  | .gh j a => v = .ref a ∧ ∃ p d, ρ[j]? = some (.own p a d)
  | .gx as cs t => as.Nodup ∧ as.length = cs.length ∧ Rep Z.cc G v t ∧ ∀ (i : Nat) (a : Addr) (d : D), as[i]? = some a → cs[i]? = some d → FrOk Z ρ G H a d
  | .fr a d => v = .ref a ∧ Root Z.cc G H a d ∧ G a = none ∧ (∀ (i : Nat) (p : Bool) (b : Addr) (e : D), ρ[i]? = some (.own p b e) → b ≠ a) ∧ Z.H0 a = none ∧ a ∉ Z.mu

theorem Root.mono {cc : CC} {G G' H : Hp} {a : Addr} {d : D} (h : LE G G') (r : Root cc G H a d) : Root cc G' H a d := by
  cases d <;> try exact r
  · obtain ⟨vs, e, q⟩ := r; exact ⟨vs, e, q.mono h⟩
  · obtain ⟨dx, vs, e, l, q⟩ := r; exact ⟨dx, vs, e, l, q.mono h⟩
  · obtain ⟨vs, e, q⟩ := r; exact ⟨vs, e, q.mono h⟩
/-- the root's object -/
theorem Root.ob {cc : CC} {G H : Hp} {a : Addr} {d : D} (r : Root cc G H a d) : ∃ o, H a = some o ∧ Mut (some o) := by
  cases d <;> try exact r.elim
  · obtain ⟨vs, e, q⟩ := r; exact ⟨_, e, trivial⟩
  · obtain ⟨dx, vs, e, l, q⟩ := r; exact ⟨_, e, trivial⟩
  · obtain ⟨vs, e, q⟩ := r; exact e.ob
theorem Root.heap {cc : CC} {G H H' : Hp} {a : Addr} {d : D} (r : Root cc G H a d) (e : ∀ o, H a = some o → H' a = some o) : Root cc G H' a d := by
  cases d <;> try exact r.elim
  · obtain ⟨vs, h, q⟩ := r; exact ⟨vs, e _ h, q⟩
  · obtain ⟨dx, vs, h, l, q⟩ := r; exact ⟨dx, vs, e _ h, l, q⟩
  · obtain ⟨vs, h, q⟩ := r; exact ⟨vs, h.heap e, q⟩
theorem Root.rep {cc : CC} {G H : Hp} {a : Addr} {d : D} (r : Root cc G H a d) (h : LE G H) : Rep cc H (.ref a) d := by
  cases d <;> try exact r.elim
  · obtain ⟨vs, e, q⟩ := r; unfold Rep; exact ⟨a, vs, rfl, SqL.of e, q.mono h⟩
  · obtain ⟨dx, vs, e, l, q⟩ := r; unfold Rep; exact ⟨a, dx, vs, rfl, e, l, q.mono h⟩
  · obtain ⟨vs, e, q⟩ := r; unfold Rep; exact ⟨a, vs, rfl, e.rd, q.mono h⟩
theorem Root.rep' {cc : CC} {G H : Hp} {a : Addr} {d : D} (r : Root cc G H a d) {o : HO} (ho : H a = some o) (n : G a = none) : Rep cc (upd G a o) (.ref a) d := by
  cases d <;> try exact r.elim
  · obtain ⟨vs, e, q⟩ := r; rw [ho] at e; cases e; unfold Rep; exact ⟨a, vs, rfl, SqL.of upd_same, q.mono (LE.upd n)⟩
  · obtain ⟨dx, vs, e, l, q⟩ := r; rw [ho] at e; cases e; unfold Rep; exact ⟨a, dx, vs, rfl, upd_same, l, q.mono (LE.upd n)⟩
  · obtain ⟨vs, e, q⟩ := r; unfold Rep; exact ⟨a, vs, rfl, e.rd.heap fun u hu => by rw [ho] at hu; cases hu; exact upd_same, q.mono (LE.upd n)⟩

theorem SlOk.mono {cc : CC} {G G' H : Hp} {i : Nat} {σ : St} {s : Sl} (h : LE G G') (r : SlOk cc G H i σ s) : SlOk cc G' H i σ s := by
  cases s with
  | no => trivial
  | sh d => obtain ⟨v, e, q⟩ := r; exact ⟨v, e, q.mono h⟩
  | own p a d => exact ⟨r.1, r.2.mono h⟩
end TL

namespace TL
open PySem L2

/-- v shows the tree d: its own object as it stands in H, its parts within G -/
def View (cc : CC) (G H : Hp) (v : V) : D → Prop
  | .non => v = .non
  | .bl b => v = .bl b
  | .int i => v = .int i
  | .str x => v = .str x
  | .ptr a => v = .ref a
  | .tup ds => ∃ a vs, v = .ref a ∧ H a = some (.tup vs) ∧ Reps cc G vs ds
  | .lst ds => ∃ a vs, v = .ref a ∧ SqL cc.K H a vs ∧ Reps cc G vs ds
  | .obj c ds => ∃ a dx vs, v = .ref a ∧ H a = some (.ins (cc.cl c).1 dx ((cc.cl c).2.zip vs)) ∧ vs.length ≤ (cc.cl c).2.length ∧ Reps cc G vs ds
  | .dct ks ds => ∃ (c : Nat) (a dx : Addr) (u : V), ks = [.int c] ∧ v = .ref a ∧ H a = some (exC a (cc.cl c).1 dx) ∧ H dx = some (.xd [("value", u)]) ∧ Reps cc G [u] ds
  | .dic ks ds => ∃ a vs, v = .ref a ∧ DctR H a ks vs ∧ Reps cc G vs ds
theorem View.of_rep {cc : CC} {G H : Hp} (h : LE G H) {v : V} {d : D} (r : Rep cc G v d) : View cc G H v d := by
  cases d <;> unfold Rep at r <;> try exact r
  · obtain ⟨a, vs, e, g, q⟩ := r; exact ⟨a, vs, e, h _ _ g, q⟩
  · obtain ⟨a, vs, e, g, q⟩ := r; exact ⟨a, vs, e, h.sql g, q⟩
  · obtain ⟨a, dx, vs, e, g, l, q⟩ := r; exact ⟨a, dx, vs, e, h _ _ g, l, q⟩
  · obtain ⟨c, a, dx, u, e1, e2, g1, g2, q⟩ := r; exact ⟨c, a, dx, u, e1, e2, h _ _ g1, h _ _ g2, q⟩
  · obtain ⟨a, vs, e, g, q⟩ := r; exact ⟨a, vs, e, g.heap fun o ho => h _ _ ho, q⟩
theorem View.of_root {cc : CC} {G H : Hp} {a : Addr} {d : D} (r : Root cc G H a d) : View cc G H (.ref a) d := by
  cases d <;> try exact r.elim
  · obtain ⟨vs, e, q⟩ := r; exact ⟨a, vs, rfl, SqL.of e, q⟩
  · obtain ⟨dx, vs, e, l, q⟩ := r; exact ⟨a, dx, vs, rfl, e, l, q⟩
  · obtain ⟨vs, e, q⟩ := r; exact ⟨a, vs, rfl, e.rd, q⟩

theorem own_in {σ : St} {i : Nat} {a : Addr} {v : V} (e : σ[i]? = some (some v)) (h : σ[i]? = some (some (.ref a)) ∨ σ.length ≤ i) : v = .ref a := by
  rcases h with h | h
  · rw [e] at h; cases h; rfl
  · rw [List.getElem?_eq_none h] at e; cases e
theorem own_at {σ : St} {i : Nat} {a : Addr} (hi : i < σ.length) (h : σ[i]? = some (some (.ref a)) ∨ σ.length ≤ i) : σ[i]? = some (some (.ref a)) := h.resolve_right (by omega)
theorem owns_set {σ : St} {i j : Nat} {x : Option V} {a : Addr} (hj : i ≠ j) (h : σ[i]? = some (some (.ref a)) ∨ σ.length ≤ i) : (σ.set j x)[i]? = some (some (.ref a)) ∨ (σ.set j x).length ≤ i := by
  rw [List.getElem?_set_ne (Ne.symm hj), List.length_set]; exact h
theorem owns_unset {σ : St} {i j : Nat} {x : Option V} {a : Addr} (hj : i ≠ j) (h : (σ.set j x)[i]? = some (some (.ref a)) ∨ (σ.set j x).length ≤ i) : σ[i]? = some (some (.ref a)) ∨ σ.length ≤ i := by
  rw [List.getElem?_set_ne (Ne.symm hj), List.length_set] at h; exact h
section
variable {Z : Zone} {ρ : REnv} {G H : Hp} {σ : St}
theorem FrOk.mono {ρ ρ' : REnv} {G G' H : Hp} {a : Addr} {d : D} (h : LE G G') (q : FrOk Z ρ G H a d) (ga : G' a = none) (hr : ∀ (i : Nat) (p : Bool) (b : Addr) (e : D), ρ'[i]? = some (.own p b e) → b ≠ a) : FrOk Z ρ' G' H a d :=
  ⟨q.1.mono h, ga, hr, q.2.2.2.1, q.2.2.2.2⟩
theorem SR.h0 (I : SR Z ρ G σ H) {p : Addr} (h : H p = none) : Z.H0 p = none ∧ p ∉ Z.mu := by
  have h2 : p ∉ Z.mu := fun m => I.mux p m h
  refine ⟨?_, h2⟩
  cases e : Z.H0 p with
  | none => rfl
  | some o => have := I.ent p o e h2; rw [h] at this; cases this
theorem SR.g (I : SR Z ρ G σ H) {p : Addr} (h : H p = none) : G p = none := by
  cases e : G p with
  | none => rfl
  | some o => have := I.sub p o e; rw [h] at this; cases this
theorem SR.own_ob (I : SR Z ρ G σ H) {i : Nat} {p : Bool} {a : Addr} {d : D} (h : ρ[i]? = some (.own p a d)) : Root Z.cc G H a d := (I.slot i _ h).2
theorem SR.own_ne (I : SR Z ρ G σ H) {i : Nat} {m : Bool} {a p : Addr} {d : D} (h : ρ[i]? = some (.own m a d)) (hp : H p = none) : a ≠ p := by
  obtain ⟨o, e, _⟩ := (I.own_ob h).ob
  exact ne_of_none e hp

/-- a new object, known -/
theorem SR.newG (I : SR Z ρ G σ H) {p : Addr} {o : HO} (hp : H p = none) : SR Z ρ (upd G p o) σ (upd H p o) := by
  have gp := I.g hp
  obtain ⟨z0, zm⟩ := I.h0 hp
  have hle : LE H (upd H p o) := LE.upd hp
  refine ⟨I.len, fun a u e => ?_, fun i s e => ?_, I.inj, fun i m a d e => ?_, fun a u e hm => hle _ _ (I.ent a u e hm), I.frs, fun a ha => ?_, fun a u e => ?_, fun a ha => ?_, fun a ha => ?_⟩
  · by_cases h : a = p
    · subst h; rw [upd_same] at e ⊢; exact e
    · rw [upd_ne h] at e ⊢; exact I.sub a u e
  · have q := I.slot i s e
    cases s with
    | no => trivial
    | sh d => obtain ⟨v, e1, r⟩ := q; exact ⟨v, e1, r.mono (LE.upd gp)⟩
    | own m a d => exact ⟨q.1, (q.2.mono (LE.upd gp)).heap fun u hu => hle _ _ hu⟩
  · rw [upd_ne (I.own_ne e hp)]; exact I.out i m a d e
  · by_cases h : a = p
    · subst h; exact .inr z0
    · rw [upd_ne h] at ha; exact I.gnew a ha
  · exact (LE.upd gp) _ _ (I.g0 a u e)
  · have : a ≠ p := fun h => zm (h ▸ ha)
    rw [upd_ne this]; exact I.mout a ha
  · have : a ≠ p := fun h => zm (h ▸ ha)
    rw [upd_ne this]; exact I.mux a ha
/-- a new object, not known -/
theorem SR.newH (I : SR Z ρ G σ H) {p : Addr} {o : HO} (hp : H p = none) : SR Z ρ G σ (upd H p o) := by
  have gp := I.g hp
  obtain ⟨z0, zm⟩ := I.h0 hp
  have hle : LE H (upd H p o) := LE.upd hp
  refine ⟨I.len, fun a u e => hle _ _ (I.sub a u e), fun i s e => ?_, I.inj, I.out, fun a u e hm => hle _ _ (I.ent a u e hm), I.frs, I.gnew, I.g0, I.mout, fun a ha => ?_⟩
  · have q := I.slot i s e
    cases s with
    | no => trivial
    | sh d => exact q
    | own m a d => exact ⟨q.1, q.2.heap fun u hu => hle _ _ hu⟩
  · have : a ≠ p := fun h => zm (h ▸ ha)
    rw [upd_ne this]; exact I.mux a ha
/-- an object that stands, not an own one: known from now on -/
theorem SR.know (I : SR Z ρ G σ H) {p : Addr} {o : HO} (hp : H p = some o) (hg : G p = none) (ho : ∀ (i : Nat) (m : Bool) (b : Addr) (e : D), ρ[i]? = some (.own m b e) → b ≠ p) (h0 : Z.H0 p = none) (hm : p ∉ Z.mu) : SR Z ρ (upd G p o) σ H := by
  refine ⟨I.len, fun a u e => ?_, fun i s e => (I.slot i s e).mono (LE.upd hg), I.inj, fun i m a d e => ?_, I.ent, I.frs, fun a ha => ?_, fun a u e => (LE.upd hg) _ _ (I.g0 a u e), fun a ha => ?_, I.mux⟩
  · by_cases h : a = p
    · subst h; rw [upd_same] at e; cases e; exact hp
    · rw [upd_ne h] at e; exact I.sub a u e
  · rw [upd_ne (ho i m a d e)]; exact I.out i m a d e
  · by_cases h : a = p
    · subst h; exact .inr h0
    · rw [upd_ne h] at ha; exact I.gnew a ha
  · have : a ≠ p := fun h => hm (h ▸ ha)
    rw [upd_ne this]; exact I.mout a ha
/-- a new root is given up to what is known -/
theorem SR.freeze (I : SR Z ρ G σ H) {r : Rv} {v : V} (q : RvOk Z r ρ G σ H v) : ∃ G', LE G G' ∧ SR Z ρ G' σ H ∧ RvOk Z r.pend ρ G' σ H v := by
  cases r with
  | loc i => exact ⟨G, LE.refl G, I, q⟩
  | sh d => exact ⟨G, LE.refl G, I, q⟩
  | gh j a => exact ⟨G, LE.refl G, I, q⟩
  | gx as cs t => exact ⟨G, LE.refl G, I, q.2.2.1⟩
  | fr a d =>
    obtain ⟨rfl, rt, ga, ho, z0, zm⟩ := q
    obtain ⟨o, e, _⟩ := rt.ob
    exact ⟨upd G a o, LE.upd ga, I.know e ga ho z0 zm, rt.rep' e ga⟩
theorem RvOk.view (I : SR Z ρ G σ H) {r : Rv} {v : V} (q : RvOk Z r ρ G σ H v) : View Z.cc G H v (r.get ρ) := by
  cases r with
  | loc i =>
    obtain ⟨e, hb⟩ := q
    unfold bound at hb
    show View _ _ _ _ (getL ρ i)
    unfold getL
    cases hs : ρ[i]? with
    | none => rw [hs] at hb; exact hb.elim
    | some s =>
      have so := I.slot i s hs
      cases s with
      | no => rw [hs] at hb; exact hb.elim
      | sh d =>
        obtain ⟨u, eu, r⟩ := so
        rw [e] at eu; cases eu
        exact View.of_rep I.sub r
      | own m a d =>
        obtain ⟨eu, r⟩ := so
        cases own_in e eu
        exact View.of_root r
  | sh d => exact View.of_rep (d := d) I.sub q
  | gh j a =>
    obtain ⟨rfl, p, d, hs⟩ := q
    show View _ _ _ _ (getL ρ j)
    unfold getL
    rw [hs]
    exact View.of_root (I.slot j _ hs).2
  | gx as cs t => exact View.of_rep (d := t) I.sub q.2.2.1
  | fr a d => obtain ⟨rfl, rt, _⟩ := q; exact View.of_root rt
theorem RvOk.repH (I : SR Z ρ G σ H) {r : Rv} {v : V} (q : RvOk Z r ρ G σ H v) : Rep Z.cc H v (r.get ρ) := by
  cases r with
  | loc i =>
    obtain ⟨e, hb⟩ := q
    unfold bound at hb
    show Rep _ _ _ (getL ρ i)
    unfold getL
    cases hs : ρ[i]? with
    | none => rw [hs] at hb; exact hb.elim
    | some s =>
      have so := I.slot i s hs
      cases s with
      | no => rw [hs] at hb; exact hb.elim
      | sh d =>
        obtain ⟨u, eu, r⟩ := so
        rw [e] at eu; cases eu
        exact r.mono I.sub
      | own m a d =>
        obtain ⟨eu, r⟩ := so
        cases own_in e eu
        exact r.rep I.sub
  | sh d => exact Rep.mono (d := d) I.sub q
  | gh j a =>
    obtain ⟨rfl, p, d, hs⟩ := q
    show Rep _ _ _ (getL ρ j)
    unfold getL
    rw [hs]
    exact (I.slot j _ hs).2.rep I.sub
  | gx as cs t => exact Rep.mono (d := t) I.sub q.2.2.1
  | fr a d => obtain ⟨rfl, rt, _⟩ := q; exact rt.rep I.sub

theorem get_set {ρ : REnv} {i j : Nat} {s t : Sl} (h : (ρ.set i s)[j]? = some t) : (j = i ∧ t = s) ∨ (j ≠ i ∧ ρ[j]? = some t) := by
  by_cases e : i = j
  · subst e
    rw [List.getElem?_set] at h
    simp only [if_true] at h
    split at h
    · exact .inl ⟨rfl, (Option.some.inj h).symm⟩
    · cases h
  · rw [List.getElem?_set_ne e] at h
    exact .inr ⟨fun z => e z.symm, h⟩
/-- an own root becomes a value that is known -/
theorem SR.leak (I : SR Z ρ G σ H) {i : Nat} {a : Addr} {d : D} (h : ρ[i]? = some (.own false a d)) (es : σ[i]? = some (some (.ref a))) : ∃ G', LE G G' ∧ SR Z (ρ.set i (.sh d)) G' σ H ∧ Rep Z.cc G' (.ref a) d := by
  obtain ⟨_, rt⟩ := I.slot i _ h
  obtain ⟨o, e, _⟩ := rt.ob
  have ga := I.out i false a d h
  obtain ⟨z0, hm⟩ : Z.H0 a = none ∧ a ∉ Z.mu := I.frs i false a d h
  have rp := rt.rep' e ga
  refine ⟨upd G a o, LE.upd ga, ⟨by simpa using I.len, fun b u q => ?_, fun j s q => ?_, fun j k m n b x c y q1 q2 hn => ?_, fun j m b x q => ?_, I.ent, fun j m b x q => ?_, fun b hb => ?_, fun b u q => (LE.upd ga) _ _ (I.g0 b u q), fun b hb => ?_, I.mux⟩, rp⟩
  · by_cases hh : b = a
    · subst hh; rw [upd_same] at q; cases q; exact e
    · rw [upd_ne hh] at q; exact I.sub b u q
  · rcases get_set q with ⟨rfl, rfl⟩ | ⟨hj, q⟩
    · exact ⟨_, es, rp⟩
    · exact (I.slot j s q).mono (LE.upd ga)
  · rcases get_set q1 with ⟨_, q1⟩ | ⟨_, q1⟩
    · cases q1
    · rcases get_set q2 with ⟨_, q2⟩ | ⟨_, q2⟩
      · cases q2
      · exact I.inj j k m n b x c y q1 q2 hn
  · rcases get_set q with ⟨_, q⟩ | ⟨hj, q⟩
    · cases q
    · rw [upd_ne (I.inj j i m false b x a d q h hj)]; exact I.out j m b x q
  · rcases get_set q with ⟨_, q⟩ | ⟨hj, q⟩
    · cases q
    · exact I.frs j m b x q
  · by_cases hh : b = a
    · subst hh; exact .inr z0
    · rw [upd_ne hh] at hb; exact I.gnew b hb
  · have : b ≠ a := fun h => hm (h ▸ hb)
    rw [upd_ne this]; exact I.mout b hb

/-- a value that is stored somewhere: a root of a name's own is given up -/
def stl (r : Rv) (ρ : REnv) (K : D → REnv → Prop) : Prop :=
  match r with
  | .loc i => match ρ[i]? with
    | some (.sh d) => K d ρ
    | some (.own false _ d) => K d (ρ.set i (.sh d))
    | _ => False
  | .sh d => K d ρ
  | .fr _ d => K d ρ
  | .gh _ a => K (.ptr a) ρ
  | .gx _ _ _ => False
theorem SR.settle (I : SR Z ρ G σ H) {r : Rv} {v : V} {K : D → REnv → Prop} (q : RvOk Z r ρ G σ H v) (h : stl r ρ K) : ∃ d ρ' G', LE G G' ∧ SR Z ρ' G' σ H ∧ Rep Z.cc G' v d ∧ K d ρ' ∧ ∀ i, bound ρ i → bound ρ' i := by
  cases r with
  | loc i =>
    obtain ⟨e, hb⟩ := q
    unfold stl at h
    cases hs : ρ[i]? with
    | none => simp only [hs] at h
    | some s =>
      simp only [hs] at h
      cases s with
      | no => exact h.elim
      | sh d =>
        obtain ⟨u, eu, r⟩ := I.slot i _ hs
        rw [e] at eu; cases eu
        exact ⟨d, ρ, G, LE.refl G, I, r, h, fun _ z => z⟩
      | own m a d =>
        cases m with
        | true => exact h.elim
        | false =>
          obtain ⟨eu, _⟩ := I.slot i _ hs
          cases own_in e eu
          obtain ⟨G', l, I', r⟩ := I.leak hs e
          refine ⟨d, _, G', l, I', r, h, fun j hj => ?_⟩
          unfold bound at hj ⊢
          by_cases hji : i = j
          · subst hji
            obtain ⟨hlt, _⟩ := List.getElem?_eq_some_iff.mp hs
            rw [List.getElem?_set_self hlt]
            trivial
          · rw [List.getElem?_set_ne hji]; exact hj
  | sh d => exact ⟨d, ρ, G, LE.refl G, I, q, h, fun _ z => z⟩
  | gh j a => exact ⟨.ptr a, ρ, G, LE.refl G, I, by unfold Rep; exact q.1, h, fun _ z => z⟩
  | gx as cs t => exact h.elim
  | fr a d =>
    obtain ⟨G', l, I', r⟩ := I.freeze q
    exact ⟨d, ρ, G', l, I', r, h, fun _ z => z⟩

/-- a slot is stored -/
theorem SR.put (I : SR Z ρ G σ H) {i : Nat} {v : V} {d : D} (hi : i < σ.length) (r : Rep Z.cc G v d) : SR Z (ρ.set i (.sh d)) G (σ.set i (some v)) H := by
  refine ⟨by simpa using I.len, I.sub, fun j s q => ?_, fun j k m n b x c y q1 q2 hn => ?_, fun j m b x q => ?_, I.ent, fun j m b x q => ?_, I.gnew, I.g0, I.mout, I.mux⟩
  · rcases get_set q with ⟨rfl, rfl⟩ | ⟨hj, q⟩
    · exact ⟨v, by rw [List.getElem?_set_self hi], r⟩
    · have so := I.slot j s q
      cases s with
      | no => trivial
      | sh d => obtain ⟨u, eu, ru⟩ := so; exact ⟨u, by rw [List.getElem?_set_ne (Ne.symm hj)]; exact eu, ru⟩
      | own m a d => exact ⟨owns_set hj so.1, so.2⟩
  · rcases get_set q1 with ⟨_, q1⟩ | ⟨_, q1⟩
    · cases q1
    · rcases get_set q2 with ⟨_, q2⟩ | ⟨_, q2⟩
      · cases q2
      · exact I.inj j k m n b x c y q1 q2 hn
  · rcases get_set q with ⟨_, q⟩ | ⟨hj, q⟩
    · cases q
    · exact I.out j m b x q
  · rcases get_set q with ⟨_, q⟩ | ⟨hj, q⟩
    · cases q
    · exact I.frs j m b x q
theorem SR.putNo (I : SR Z ρ G σ H) {i : Nat} {v : Option V} : SR Z (ρ.set i .no) G (σ.set i v) H := by
  refine ⟨by simpa using I.len, I.sub, fun j s q => ?_, fun j k m n b x c y q1 q2 hn => ?_, fun j m b x q => ?_, I.ent, fun j m b x q => ?_, I.gnew, I.g0, I.mout, I.mux⟩
  · rcases get_set q with ⟨rfl, rfl⟩ | ⟨hj, q⟩
    · trivial
    · have so := I.slot j s q
      cases s with
      | no => trivial
      | sh d => obtain ⟨u, eu, ru⟩ := so; exact ⟨u, by rw [List.getElem?_set_ne (Ne.symm hj)]; exact eu, ru⟩
      | own m a d => exact ⟨owns_set hj so.1, so.2⟩
  · rcases get_set q1 with ⟨_, q1⟩ | ⟨_, q1⟩
    · cases q1
    · rcases get_set q2 with ⟨_, q2⟩ | ⟨_, q2⟩
      · cases q2
      · exact I.inj j k m n b x c y q1 q2 hn
  · rcases get_set q with ⟨_, q⟩ | ⟨hj, q⟩
    · cases q
    · exact I.out j m b x q
  · rcases get_set q with ⟨_, q⟩ | ⟨hj, q⟩
    · cases q
    · exact I.frs j m b x q
/-- a slot gets a new root -/
theorem SR.putFr (I : SR Z ρ G σ H) {i : Nat} {a : Addr} {d : D} (hi : i < σ.length) (r : RvOk Z (.fr a d) ρ G σ H (.ref a)) : SR Z (ρ.set i (.own false a d)) G (σ.set i (some (.ref a))) H := by
  obtain ⟨_, rt, ga, ho, z0, zm⟩ := r
  refine ⟨by simpa using I.len, I.sub, fun j s q => ?_, fun j k m n b x c y q1 q2 hn => ?_, fun j m b x q => ?_, I.ent, fun j m b x q => ?_, I.gnew, I.g0, I.mout, I.mux⟩
  · rcases get_set q with ⟨rfl, rfl⟩ | ⟨hj, q⟩
    · exact ⟨Or.inl (by rw [List.getElem?_set_self hi]), rt⟩
    · have so := I.slot j s q
      cases s with
      | no => trivial
      | sh d => obtain ⟨u, eu, ru⟩ := so; exact ⟨u, by rw [List.getElem?_set_ne (Ne.symm hj)]; exact eu, ru⟩
      | own m a d => exact ⟨owns_set hj so.1, so.2⟩
  · rcases get_set q1 with ⟨e1, q1⟩ | ⟨_, q1⟩
    · cases q1
      rcases get_set q2 with ⟨e2, q2⟩ | ⟨_, q2⟩
      · exact absurd (e1.trans e2.symm) hn
      · exact (ho k n c y q2).symm
    · rcases get_set q2 with ⟨_, q2⟩ | ⟨_, q2⟩
      · cases q2; exact ho j m b x q1
      · exact I.inj j k m n b x c y q1 q2 hn
  · rcases get_set q with ⟨_, q⟩ | ⟨hj, q⟩
    · cases q; exact ga
    · exact I.out j m b x q
  · rcases get_set q with ⟨_, q⟩ | ⟨hj, q⟩
    · cases q; exact ⟨z0, zm⟩
    · exact I.frs j m b x q
/-- the object of a root of a name's own is changed -/
theorem SR.write (I : SR Z ρ G σ H) {i : Nat} {m : Bool} {a : Addr} {d d' : D} {o : HO} (h : ρ[i]? = some (.own m a d)) (rt : Root Z.cc G (upd H a o) a d') : SR Z (ρ.set i (.own m a d')) G σ (upd H a o) := by
  have ga := I.out i m a d h
  obtain ⟨es, r0⟩ := I.slot i _ h
  refine ⟨by simpa using I.len, fun b u q => ?_, fun j s q => ?_, fun j k m1 n b x c y q1 q2 hn => ?_, fun j m1 b x q => ?_, fun b u q hm => ?_, fun j m1 b x q => ?_, I.gnew, I.g0, I.mout, fun b hb => ?_⟩
  · rw [upd_ne (ne_of_none q ga)]; exact I.sub b u q
  · rcases get_set q with ⟨rfl, rfl⟩ | ⟨hj, q⟩
    · exact ⟨es, rt⟩
    · have so := I.slot j s q
      cases s with
      | no => trivial
      | sh d => exact so
      | own m1 b x => exact ⟨so.1, so.2.heap fun u hu => by rw [upd_ne (I.inj j i m1 m b x a d q h hj)]; exact hu⟩
  · rcases get_set q1 with ⟨e1, q1⟩ | ⟨h1, q1⟩
    · cases q1
      rcases get_set q2 with ⟨e2, q2⟩ | ⟨h2, q2⟩
      · exact absurd (e1.trans e2.symm) hn
      · exact I.inj i k _ n a d c y h q2 (Ne.symm h2)
    · rcases get_set q2 with ⟨_, q2⟩ | ⟨_, q2⟩
      · cases q2; exact I.inj j i m1 _ b x a d q1 h h1
      · exact I.inj j k m1 n b x c y q1 q2 hn
  · rcases get_set q with ⟨_, q⟩ | ⟨hj, q⟩
    · cases q; exact ga
    · exact I.out j m1 b x q
  · have := I.frs i m a d h
    have : b ≠ a := by
      rintro rfl
      cases m with
      | true => exact hm this
      | false => rw [this.1] at q; cases q
    rw [upd_ne this]; exact I.ent b u q hm
  · rcases get_set q with ⟨e1, q⟩ | ⟨hj, q⟩
    · cases q; exact I.frs i m a d h
    · exact I.frs j m1 b x q
  · by_cases hh : b = a
    · subst hh; rw [upd_same]; simp
    · rw [upd_ne hh]; exact I.mux b hb
/-- the roots that are known, with their trees -/
def gP : REnv → List (Addr × D)
  | [] => []
  | .own _ a d :: ρ => (a, d) :: gP ρ
  | _ :: ρ => gP ρ
mutual
/-- with the roots of L seen through, d reads e -/
inductive Vw (L : List (Addr × D)) : D → D → Prop
  | self (d : D) : Vw L d d
  | ptr {a : Addr} {d e : D} : (a, d) ∈ L → Vw L d e → Vw L (.ptr a) e
  | tup {ds es : List D} : Vws L ds es → Vw L (.tup ds) (.tup es)
  | lst {ds es : List D} : Vws L ds es → Vw L (.lst ds) (.lst es)
  | obj {c : Nat} {ds es : List D} : Vws L ds es → Vw L (.obj c ds) (.obj c es)
  | dic {ks ds es : List D} : Vws L ds es → Vw L (.dic ks ds) (.dic ks es)
inductive Vws (L : List (Addr × D)) : List D → List D → Prop
  | nil : Vws L [] []
  | cons {d e : D} {ds es : List D} : Vw L d e → Vws L ds es → Vws L (d :: ds) (e :: es)
end
mutual
theorem Vw.sound {cc : CC} {L : List (Addr × D)} {G H : Hp} (le : LE G H) (hL : ∀ a d, (a, d) ∈ L → Root cc G H a d) : ∀ {d e : D}, Vw L d e → ∀ v : V, Rep cc G v d → Rep cc H v e
  | _, _, .self d, v, r => r.mono le
  | _, _, .ptr (a := a) (d := d) (e := e) hm q, v, r => by
    unfold Rep at r
    subst r
    have rt := hL _ _ hm
    cases q with
    | self => exact rt.rep le
    | ptr h2 q2 => exact rt.elim
    | tup q2 => exact rt.elim
    | lst q2 =>
      obtain ⟨vs, e1, rs⟩ := rt
      unfold Rep
      exact ⟨a, vs, rfl, SqL.of e1, Vws.sound le hL q2 vs rs⟩
    | obj q2 =>
      obtain ⟨dx, vs, e1, l, rs⟩ := rt
      unfold Rep
      exact ⟨a, dx, vs, rfl, e1, l, Vws.sound le hL q2 vs rs⟩
    | dic q2 =>
      obtain ⟨vs, e1, rs⟩ := rt
      unfold Rep
      exact ⟨a, vs, rfl, e1.rd, Vws.sound le hL q2 vs rs⟩
  | _, _, .tup q, v, r => by
    unfold Rep at r ⊢
    obtain ⟨a, vs, e, g, rs⟩ := r
    exact ⟨a, vs, e, le _ _ g, Vws.sound le hL q vs rs⟩
  | _, _, .lst q, v, r => by
    unfold Rep at r ⊢
    obtain ⟨a, vs, e, g, rs⟩ := r
    exact ⟨a, vs, e, le.sql g, Vws.sound le hL q vs rs⟩
  | _, _, .obj q, v, r => by
    unfold Rep at r ⊢
    obtain ⟨a, dx, vs, e, g, l, rs⟩ := r
    exact ⟨a, dx, vs, e, le _ _ g, l, Vws.sound le hL q vs rs⟩
  | _, _, .dic q, v, r => by
    unfold Rep at r ⊢
    obtain ⟨a, vs, e, g, rs⟩ := r
    exact ⟨a, vs, e, g.heap fun o ho => le _ _ ho, Vws.sound le hL q vs rs⟩
theorem Vws.sound {cc : CC} {L : List (Addr × D)} {G H : Hp} (le : LE G H) (hL : ∀ a d, (a, d) ∈ L → Root cc G H a d) : ∀ {ds es : List D}, Vws L ds es → ∀ vs : List V, Reps cc G vs ds → Reps cc H vs es
  | _, _, .nil, vs, r => by rw [r.inv_nil]; exact Reps.nil
  | _, _, .cons h q, vs, r => by
    obtain ⟨v, us, rfl, rv, rr⟩ := r.inv_cons
    exact Reps.cons (Vw.sound le hL h v rv) (Vws.sound le hL q us rr)
end
/-- new roots behind the slots -/
def ghs (as : List Addr) (ds : List D) : REnv := List.zipWith (Sl.own false) as ds
theorem owns_mem {a : Addr} : ∀ {ρ : REnv}, a ∈ owns ρ ↔ ∃ (i : Nat) (p : Bool) (d : D), ρ[i]? = some (Sl.own p a d)
  | [] => by simp [owns]
  | s :: ρ => by
    have ih := owns_mem (a := a) (ρ := ρ)
    have tl : (∃ (i : Nat) (p : Bool) (d : D), ρ[i]? = some (Sl.own p a d)) → ∃ (i : Nat) (p : Bool) (d : D), (s :: ρ)[i]? = some (Sl.own p a d) := fun ⟨i, p, d, h⟩ => ⟨i + 1, p, d, by simpa using h⟩
    have un : ∀ {P : Prop}, (∀ (p : Bool) (d : D), s = Sl.own p a d → P) → ((∃ (i : Nat) (p : Bool) (d : D), ρ[i]? = some (Sl.own p a d)) → P) → (∃ (i : Nat) (p : Bool) (d : D), (s :: ρ)[i]? = some (Sl.own p a d)) → P := fun {P} h1 h2 ⟨i, p, d, h⟩ => by
      cases i with
      | zero => exact h1 p d (by simpa using h)
      | succ i => exact h2 ⟨i, p, d, by simpa using h⟩
    cases s with
    | no => exact ⟨fun h => tl (ih.mp h), un (fun _ _ h => by cases h) ih.mpr⟩
    | sh d => exact ⟨fun h => tl (ih.mp h), un (fun _ _ h => by cases h) ih.mpr⟩
    | own m b e =>
      constructor
      · intro h
        rcases List.mem_cons.mp h with rfl | h
        · exact ⟨0, m, e, rfl⟩
        · exact tl (ih.mp h)
      · exact un (fun _ _ h => by cases h; exact List.mem_cons_self) fun h => List.mem_cons_of_mem _ (ih.mpr h)
theorem ghs_get {as : List Addr} {ds : List D} {k : Nat} {s : Sl} (h : (ghs as ds)[k]? = some s) : ∃ a d, as[k]? = some a ∧ ds[k]? = some d ∧ s = .own false a d := by
  unfold ghs at h
  rw [List.getElem?_zipWith] at h
  cases ha : as[k]? with
  | none => simp [ha] at h
  | some a =>
    cases hd : ds[k]? with
    | none => simp [ha, hd] at h
    | some d => simp [ha, hd] at h; exact ⟨a, d, rfl, rfl, h.symm⟩
theorem app_get {ρ τ : REnv} {i : Nat} {s : Sl} (h : (ρ ++ τ)[i]? = some s) : (i < ρ.length ∧ ρ[i]? = some s) ∨ ∃ k, i = ρ.length + k ∧ τ[k]? = some s := by
  by_cases hi : i < ρ.length
  · rw [List.getElem?_append_left hi] at h; exact .inl ⟨hi, h⟩
  · rw [List.getElem?_append_right (by omega)] at h; exact .inr ⟨_, by omega, h⟩
theorem nodup_ne {as : List Addr} (h : as.Nodup) {i j : Nat} {a b : Addr} (hi : as[i]? = some a) (hj : as[j]? = some b) (hn : i ≠ j) : a ≠ b := by
  rintro rfl
  obtain ⟨hi1, hi2⟩ := List.getElem?_eq_some_iff.mp hi
  obtain ⟨hj1, hj2⟩ := List.getElem?_eq_some_iff.mp hj
  have p := List.pairwise_iff_getElem.mp h
  rcases Nat.lt_or_gt_of_ne hn with z | z
  · exact p i j hi1 hj1 z (hi2.trans hj2.symm)
  · exact p j i hj1 hi1 z (hj2.trans hi2.symm)
/-- new roots stand behind the slots from now on -/
theorem SR.addGs (I : SR Z ρ G σ H) {as : List Addr} {ds : List D} (nd : as.Nodup) (h : ∀ (i : Nat) (a : Addr) (d : D), as[i]? = some a → ds[i]? = some d → FrOk Z ρ G H a d) : SR Z (ρ ++ ghs as ds) G σ H := by
  have len := I.len
  refine ⟨⟨len.1, by rw [List.length_append]; omega⟩, I.sub, fun j s q => ?_, fun j k m n b x c y q1 q2 hn => ?_, fun j m b x q => ?_, I.ent, fun j m b x q => ?_, I.gnew, I.g0, I.mout, I.mux⟩
  · rcases app_get q with ⟨_, q⟩ | ⟨k, ek, q'⟩
    · exact I.slot j s q
    · obtain ⟨a, d, ha, hd, rfl⟩ := ghs_get q'
      exact ⟨.inr (by omega), (h k _ _ ha hd).1⟩
  · rcases app_get q1 with ⟨_, q1⟩ | ⟨k1, ek1, q1'⟩
    · rcases app_get q2 with ⟨_, q2⟩ | ⟨k2, ek2, q2'⟩
      · exact I.inj j k m n b x c y q1 q2 hn
      · obtain ⟨a, d, ha, hd, e⟩ := ghs_get q2'
        cases e
        exact (h k2 _ _ ha hd).2.2.1 j m b x q1
    · obtain ⟨a, d, ha, hd, e⟩ := ghs_get q1'
      cases e
      rcases app_get q2 with ⟨_, q2⟩ | ⟨k2, ek2, q2'⟩
      · exact ((h k1 _ _ ha hd).2.2.1 k n c y q2).symm
      · obtain ⟨a2, d2, ha2, hd2, e⟩ := ghs_get q2'
        cases e
        exact nodup_ne nd ha ha2 (by omega)
  · rcases app_get q with ⟨_, q⟩ | ⟨k, ek, q'⟩
    · exact I.out j m b x q
    · obtain ⟨a, d, ha, hd, e⟩ := ghs_get q'
      cases e
      exact (h k _ _ ha hd).2.1
  · rcases app_get q with ⟨_, q⟩ | ⟨k, ek, q'⟩
    · exact I.frs j m b x q
    · obtain ⟨a, d, ha, hd, e⟩ := ghs_get q'
      cases e
      exact (h k _ _ ha hd).2.2.2
end
end TL

namespace TL
open PySem L2

/-- an expression's reading over trees, as a reading of the layer below -/
def T (Z : Zone) (w : EW) : TE := fun σ H Q => ∃ ρ G K, SR Z ρ G σ H ∧ w Z.xk ρ K ∧
  ∀ r ρ' v H' G', LE G G' → SR Z ρ' G' σ H' → RvOk Z r ρ' G' σ H' v → K r ρ' → Q v H'
def Tt (Z : Zone) (w : TW) : TT := fun σ H Q => ∃ ρ G K, SR Z ρ G σ H ∧ w Z.xk ρ K ∧
  ∀ b ρ' H' G', LE G G' → SR Z ρ' G' σ H' → K b ρ' → Q b H'
abbrev DW := Xk → REnv → (List D → REnv → Prop) → Prop
def Ta (Z : Zone) (w : DW) : TA := fun σ H Q => ∃ ρ G K, SR Z ρ G σ H ∧ w Z.xk ρ K ∧
  ∀ ds ρ' vs H' G', LE G G' → SR Z ρ' G' σ H' → Reps Z.cc G' vs ds → K ds ρ' → Q vs H'

section
variable {X : Cx} {Z : Zone} {a b e : Expr} {wa wb : EW} {pos : Pos}

/-! ### names, constants -/
def eLoc (i : Nat) : EW := fun _ ρ K => bound ρ i ∧ K (.loc i) ρ
def eC (d : D) : EW := fun _ ρ K => K (.sh d) ρ
theorem bound_get {ρ : REnv} {G H : Hp} {σ : St} (I : SR Z ρ G σ H) {i : Nat} (hi : i < σ.length) (h : bound ρ i) : ∃ v, σ[i]? = some (some v) := by
  unfold bound at h
  cases hs : ρ[i]? with
  | none => rw [hs] at h; exact h.elim
  | some s =>
    have so := I.slot i s hs
    cases s with
    | no => rw [hs] at h; exact h.elim
    | sh d => exact ⟨_, so.choose_spec.1⟩
    | own m p d => exact ⟨_, own_at hi so.1⟩
theorem lt_len {X : Cx} {pins : List (Addr × Obj)} {σ : L2.St} {H : Hp} {s : Shared} {i : Nat} {x : Str} (I : L2.Inv X pins σ H s) (hi : X.N[i]? = some x) : i < σ.length := by
  rw [I.len]; exact (List.getElem?_eq_some_iff.mp hi).1
theorem de_loc (i : Nat) {x : Str} {pos : Pos} (hN : X.N[i]? = some x := by rfl) (hv : Vis X.env.scope x := by first | exact Or.inl rfl | exact Or.inr (Or.inl rfl) | exact Or.inr (Or.inr rfl)) (hd : (x == ("__debug__" : Str)) = false := by decide)
    (hcd : (x == ("__classdict__" : Str)) = false := by decide) : PE X (.Name x pos) (T Z (eLoc i)) :=
  ⟨fun pins s σ H Q I ⟨ρ, G, K, IR, ⟨hb, hk⟩, q⟩ => by
    obtain ⟨v, e⟩ := bound_get IR (lt_len I hN) hb
    exact (pv i hN hv hd hcd).run pins s σ H Q I ⟨v, e, q (.loc i) _ v H G (LE.refl G) IR ⟨e, hb⟩ hk⟩⟩
theorem T.const {v : V} {d : D} (hr : ∀ G, Rep Z.cc G v d) (h : PE X e (tC v)) : PE X e (T Z (eC d)) :=
  ⟨fun pins s σ H Q I ⟨ρ, G, K, IR, hk, q⟩ => h.run pins s σ H Q I (q (.sh d) _ v H G (LE.refl G) IR (hr G) hk)⟩
theorem de_int {i j pos} : PE X (.Constant (.int i) j pos) (T Z (eC (.int i))) := T.const (v := .int i) (fun _ => by unfold Rep; rfl) pe_int
theorem de_bl {b j pos} : PE X (.Constant (.bool b) j pos) (T Z (eC (.bl b))) := T.const (v := .bl b) (fun _ => by unfold Rep; rfl) pe_bl
/-! ### two operands -/
/-- a first operand that is a name is still known -/
def pok (r : Rv) (ρ : REnv) : Prop := match r with | .loc i => bound ρ i | .gh j a => ∃ p d, ρ[j]? = some (.own p a d) | _ => True
theorem T.two {ρ : REnv} {G H : Hp} {σ : L2.St} {R : Rv → Rv → REnv → Prop} (I : SR Z ρ G σ H) (hw : wa Z.xk ρ fun r1 ρ1 => wb Z.xk ρ1 fun r2 ρ2 => pok r1 ρ2 ∧ R r1 r2 ρ2) :
    T Z wa σ H fun x H1 => T Z wb σ H1 fun y H2 => ∃ r1 r2 ρ2 G2, LE G G2 ∧ SR Z ρ2 G2 σ H2 ∧ RvOk Z r1.pend ρ2 G2 σ H2 x ∧ RvOk Z r2 ρ2 G2 σ H2 y ∧ R r1 r2 ρ2 := by
  refine ⟨ρ, G, _, I, hw, fun r1 ρ1 x H1 G1 le1 I1 q1 k1 => ?_⟩
  obtain ⟨G1', le, I1', q1'⟩ := I1.freeze q1
  refine ⟨ρ1, G1', _, I1', k1, fun r2 ρ2 y H2 G2 le2 I2 q2 k2 => ⟨r1, r2, ρ2, G2, (le1.trans le).trans le2, I2, ?_, q2, k2.2⟩⟩
  have pk := k2.1
  cases r1 with
  | loc i => exact ⟨q1'.1, pk⟩
  | sh d => exact Rep.mono (d := d) le2 q1'
  | fr a d => exact Rep.mono (d := d) le2 q1'
  | gh j a => exact ⟨q1'.1, pk⟩
  | gx as cs t => exact Rep.mono (d := t) le2 q1'

/-- what an operation gives: a value, or a new root -/
inductive Ro where
  | sh (d : D) | fr (d : D) | gx (as : List Addr) (cs : List D) (t : D)
/-- how the result of an operation lies -/
def Fin (cc : CC) (G H : Hp) (Q : VK) : Ro → Prop
  | .sh d => (∀ v, Rep cc G v d → Q v H) ∧ ∀ p o, H p = none → Rep cc (upd G p o) (.ref p) d → Q (.ref p) (upd H p o)
  | .fr d => ∀ p o, H p = none → Root cc G (upd H p o) p d → Q (.ref p) (upd H p o)
  | .gx _ _ _ => True
/-- a result is handed on -/
def out (o : Ro) (ρ : REnv) (K : Rv → REnv → Prop) : Prop := match o with
  | .sh d => K (.sh d) ρ
  | .fr d => ∀ a, K (.fr a d) ρ
  | .gx as cs t => as.Nodup → (∀ a ∈ as, a ∉ owns ρ) → K (.sh t) (ρ ++ ghs as cs)
theorem out_gx {as : List Addr} {cs : List D} {t : D} {ρ : REnv} {K : Rv → REnv → Prop} : out (.gx as cs t) ρ K = (as.Nodup → (∀ a ∈ as, a ∉ owns ρ) → K (.sh t) (ρ ++ ghs as cs)) := rfl
abbrev OW := (Ro → Prop) → Prop
theorem T.fin {ρ : REnv} {G G0 H : Hp} {σ : L2.St} {K : Rv → REnv → Prop} {Q : VK} {o : Ro} (I : SR Z ρ G σ H) (le : LE G0 G) (hk : out o ρ K)
    (q : ∀ r ρ' v H' G', LE G0 G' → SR Z ρ' G' σ H' → RvOk Z r ρ' G' σ H' v → K r ρ' → Q v H') : Fin Z.cc G H Q o := by
  cases o with
  | sh d => exact ⟨fun v r => q (.sh d) ρ v H G le I r hk, fun p o hp r => q (.sh d) ρ _ _ _ (le.trans (LE.upd (I.g hp))) (I.newG hp) r hk⟩
  | fr d =>
    refine fun p o hp r => q (.fr p d) ρ _ _ G le (I.newH hp) ⟨rfl, r, I.g hp, fun i m b e h => I.own_ne h hp, (I.h0 hp).1, (I.h0 hp).2⟩ (hk p)
  | gx n t cs => exact trivial

/-- a binary operation over trees, told by one over values -/
def OpS (cc : CC) (op : D → D → OW) (r : R2) : Prop := ∀ (G H : Hp) (x y : V) (d e : D) (k : Ro → Prop) (Q : VK), LE G H → View cc G H x d → View cc G H y e → Rep cc H x d → Rep cc H y e →
  op d e k → (∀ o, k o → Fin cc G H Q o) → r x y H Q
def eBin (op : D → D → OW) (wa wb : EW) : EW := fun xk ρ K => wa xk ρ fun r1 ρ1 => wb xk ρ1 fun r2 ρ2 => pok r1 ρ2 ∧ op (r1.get ρ2) (r2.get ρ2) fun o => out o ρ2 K
theorem T.bin {op : D → D → OW} {r : R2} (hs : OpS Z.cc op r) {σ : L2.St} {H : Hp} {Q : VK} (h : T Z (eBin op wa wb) σ H Q) : tOp r (T Z wa) (T Z wb) σ H Q := by
  obtain ⟨ρ, G, K, I, hw, q⟩ := h
  obtain ⟨ρ', G', K', I', hw', q'⟩ := T.two (R := fun r1 r2 ρ2 => op (r1.get ρ2) (r2.get ρ2) fun o => out o ρ2 K) I hw
  refine ⟨ρ', G', K', I', hw', fun r1 ρ1 x H1 G1 le1 I1 q1 k1 => ?_⟩
  obtain ⟨ρ1', G1', K1', I1', hw1', q1'⟩ := q' r1 ρ1 x H1 G1 le1 I1 q1 k1
  refine ⟨ρ1', G1', K1', I1', hw1', fun r2 ρ2 y H2 G2 le2 I2 q2 k2 => ?_⟩
  obtain ⟨s1, s2, ρ3, G3, le3, I3, v1, v2, ho⟩ := q1' r2 ρ2 y H2 G2 le2 I2 q2 k2
  have e1 := v1.view I3
  have e1' := v1.repH I3
  rw [Rv.get_pend] at e1 e1'
  exact hs G3 H2 x y _ _ _ Q I3.sub e1 (v2.view I3) e1' (v2.repH I3) ho fun o ho => T.fin I3 le3 ho q
end
end TL

namespace TL
open PySem L2

/-- t is a reading of what w says -/
def Via (Z : Zone) (t : TE) (w : EW) : Prop := ∀ σ H Q, T Z w σ H Q → t σ H Q
theorem pvia {X : Cx} {Z : Zone} {e : Expr} {t : TE} {w : EW} (h : PE X e t) (v : Via Z t w) : PE X e (T Z w) :=
  ⟨fun pins s σ H Q I q => h.run pins s σ H Q I (v σ H Q q)⟩

theorem pviaI {X : Cx} {Z : Zone} {e : Expr} {t : TE} {w : EW} (h : PE X e t) (v : ∀ σ H Q, σ.length = X.N.length → T Z w σ H Q → t σ H Q) : PE X e (T Z w) :=
  ⟨fun pins s σ H Q I q => h.run pins s σ H Q I (v σ H Q I.len q)⟩
theorem lt_lenN {X : Cx} {σ : L2.St} {i : Nat} {x : Str} (h : σ.length = X.N.length) (hi : X.N[i]? = some x) : i < σ.length := by
  rw [h]; exact (List.getElem?_eq_some_iff.mp hi).1

/-! ### operations by the trees' forms -/
def MulOk (i j : Int) : Prop := i.natAbs.log2 + j.natAbs.log2 < 100000000
theorem MulOk.ok {i j : Int} (h : MulOk i j) : IntMulOk i j := by
  have b : ∀ x : Int, Builtin.Int.intBits x ≤ x.natAbs.log2 + 1 := fun x => by
    unfold Builtin.Int.intBits
    split <;> omega
  have h1 := b i
  have h2 := b j
  have h3 : i.natAbs.log2 + j.natAbs.log2 < 100000000 := h
  have e : bitsLine = 134217728 := by decide
  unfold IntMulOk
  intro z
  rw [Bool.and_eq_true] at z
  have z2 := z.2
  unfold Builtin.Int.intTooBig at z2
  have z3 := of_decide_eq_true z2
  rw [e] at z3
  omega
def DivOk (j : Int) : Prop := 0 < j ∧ j.natAbs.log2 < 9000
def DivOkN (j : Int) : Prop := j ≠ 0 ∧ j.natAbs.log2 < 9000
section
variable {X : Cx}
theorem op_mulX : OpR X (binaryOp .Mult) (rI MulOk fun i j => .int (i * j)) := opI fun _ _ _ _ _ _ _ hc q => PyProof.Rows.mul_int q hc.ok
theorem op_fdvX : OpR X (binaryOp .FloorDiv) (rI (fun _ j => DivOk j) fun i j => .int (i / j)) := op_fdivW
def rCatR (K : PySem.W.Frag) : R2 := fun x y H Q => ∃ l b xs zs, x = .ref l ∧ y = .ref b ∧ SqL K H l xs ∧ SqL K H b zs ∧ xs.length + zs.length ≤ sizeLine ∧ ∀ p, H p = none → Q (.ref p) (upd H p (.lst (xs ++ zs)))
theorem op_catR : OpR X (binaryOp .Add) (rCatR X.K) := by
  intro pins s σ H x y v u Q I rx ry h
  obtain ⟨l, b, xs, zs, rfl, rfl, hH, hB, hz, q⟩ := h
  cases rx
  cases ry
  obtain ⟨its, r, ⟨⟨cls, dd, data, sl⟩, n, ho, hc, hd0, hd⟩, z⟩ := I.list hH
  obtain ⟨its2, r2, ⟨⟨cls2, dd2, data2, sl2⟩, n2, ho2, hc2, hd20, hd2⟩, z2⟩ := I.list hB
  simp only at hc hd hc2 hd2
  subst hc hd hc2 hd2
  have hl := r.length
  have hl2 := r2.length
  have ea : its.toArray ++ its2.toArray = (its ++ its2).toArray := by simp
  refine PySem.concat_meets ⟨_, ho, rfl⟩ ⟨_, ho2, rfl⟩ noFill_list_add seq_list_add PySem.F.slot_list_add PySem.F.entry_list_add (PySem.F.args_list_add_2 _ _) (PyProof.Rows.list_addW l b its.toArray its2.toArray n n2 dd dd2 sl sl2 (by rw [List.size_toArray, List.size_toArray]; omega)) ⟨ho, ho2, ?_⟩
  rw [ea]
  exact ⟨.ref _, _, I.lnew (t' := s.toks) (r.append r2) (by rw [List.length_append]; omega), rfl, q _ I.fresh⟩
end

def opAdd : D → D → OW
  | .int i, .int j => fun k => k (.sh (.int (i + j)))
  | .str i, .str j => fun k => i.length + j.length ≤ sizeLine ∧ k (.sh (.str (i ++ j)))
  | .lst i, .lst j => fun k => i.length + j.length ≤ sizeLine ∧ k (.fr (.lst (i ++ j)))
  | _, _ => fun _ => False
def opSub : D → D → OW
  | .int i, .int j => fun k => k (.sh (.int (i - j)))
  | _, _ => fun _ => False
def opMul : D → D → OW
  | .int i, .int j => fun k => MulOk i j ∧ k (.sh (.int (i * j)))
  | _, _ => fun _ => False
def opFdv : D → D → OW
  | .int i, .int j => fun k => DivOk j ∧ k (.sh (.int (i / j)))
  | _, _ => fun _ => False
def opFdvN : D → D → OW
  | .int i, .int j => fun k => DivOkN j ∧ k (.sh (.int (i.fdiv j)))
  | _, _ => fun _ => False
def opMod : D → D → OW
  | .int i, .int j => fun k => 0 < j ∧ k (.sh (.int (i % j)))
  | _, _ => fun _ => False
def opModN : D → D → OW
  | .int i, .int j => fun k => j ≠ 0 ∧ k (.sh (.int (i.fmod j)))
  | _, _ => fun _ => False
def opPow : D → D → OW
  | .int i, .int j => fun k => CPow i j ∧ k (.sh (.int (i ^ j.toNat)))
  | _, _ => fun _ => False
def opLt : D → D → OW
  | .int i, .int j => fun k => k (.sh (.bl (decide (i < j))))
  | _, _ => fun _ => False
def opLe : D → D → OW
  | .int i, .int j => fun k => k (.sh (.bl (decide (i ≤ j))))
  | _, _ => fun _ => False
def opGt : D → D → OW
  | .int i, .int j => fun k => k (.sh (.bl (decide (j < i))))
  | _, _ => fun _ => False
def opGe : D → D → OW
  | .int i, .int j => fun k => k (.sh (.bl (decide (j ≤ i))))
  | _, _ => fun _ => False

section
variable {cc : CC}
theorem rep_int {G : Hp} {i : Int} : Rep cc G (.int i) (.int i) := by unfold Rep; rfl
theorem rep_bl {G : Hp} {i : Bool} : Rep cc G (.bl i) (.bl i) := by unfold Rep; rfl
theorem rep_str {G : Hp} {i : Str} : Rep cc G (.str i) (.str i) := by unfold Rep; rfl
theorem rv_sh {Z : Zone} {ρ : REnv} {G H : Hp} {σ : L2.St} {v : V} {d : D} (h : Rep Z.cc G v d) : RvOk Z (.sh d) ρ G σ H v := h
theorem rep_non {G : Hp} : Rep cc G .non .non := by unfold Rep; rfl
theorem ops_int {op : D → D → OW} {C : Int → Int → Prop} {g : Int → Int → V} {f : Int → Int → D} (h : ∀ d e k, op d e k → ∃ i j, d = .int i ∧ e = .int j ∧ C i j ∧ k (.sh (f i j))) (hr : ∀ G i j, Rep cc G (g i j) (f i j)) : OpS cc op (rI C g) := by
  intro G H x y d e k Q le v1 v2 _ _ ho fin
  obtain ⟨i, j, rfl, rfl, c, hk⟩ := h d e k ho
  exact ⟨i, j, v1, v2, c, (fin _ hk).1 _ (hr G i j)⟩
theorem ops_int0 {op : D → D → OW} {g : Int → Int → V} {f : Int → Int → D} (h : ∀ d e k, op d e k → ∃ i j, d = .int i ∧ e = .int j ∧ k (.sh (f i j))) (hr : ∀ G i j, Rep cc G (g i j) (f i j)) : OpS cc op (rI0 g) := by
  intro G H x y d e k Q le v1 v2 _ _ ho fin
  obtain ⟨i, j, rfl, rfl, hk⟩ := h d e k ho
  exact ⟨i, j, v1, v2, (fin _ hk).1 _ (hr G i j)⟩
theorem ops_sub : OpS cc opSub (rI0 fun i j => .int (i - j)) := ops_int0 (f := fun i j => .int (i - j)) (fun d e k h => by unfold opSub at h; split at h <;> first | exact h.elim | exact ⟨_, _, rfl, rfl, h⟩) fun _ _ _ => rep_int
theorem ops_lt : OpS cc opLt (rI0 fun i j => .bl (decide (i < j))) := ops_int0 (f := fun i j => .bl (decide (i < j))) (fun d e k h => by unfold opLt at h; split at h <;> first | exact h.elim | exact ⟨_, _, rfl, rfl, h⟩) fun _ _ _ => rep_bl
theorem ops_gt : OpS cc opGt (rI0 fun i j => .bl (decide (j < i))) := ops_int0 (f := fun i j => .bl (decide (j < i))) (fun d e k h => by unfold opGt at h; split at h <;> first | exact h.elim | exact ⟨_, _, rfl, rfl, h⟩) fun _ _ _ => rep_bl
theorem ops_ge : OpS cc opGe (rI0 fun i j => .bl (decide (j ≤ i))) := ops_int0 (f := fun i j => .bl (decide (j ≤ i))) (fun d e k h => by unfold opGe at h; split at h <;> first | exact h.elim | exact ⟨_, _, rfl, rfl, h⟩) fun _ _ _ => rep_bl
theorem ops_mul : OpS cc opMul (rI MulOk fun i j => .int (i * j)) := ops_int (f := fun i j => .int (i * j)) (fun d e k h => by unfold opMul at h; split at h <;> first | exact h.elim | exact ⟨_, _, rfl, rfl, h⟩) fun _ _ _ => rep_int
theorem ops_fdv : OpS cc opFdv (rI (fun _ j => DivOk j) fun i j => .int (i / j)) := ops_int (f := fun i j => .int (i / j)) (fun d e k h => by unfold opFdv at h; split at h <;> first | exact h.elim | exact ⟨_, _, rfl, rfl, h⟩) fun _ _ _ => rep_int
theorem ops_mod : OpS cc opMod (rI (fun _ j => 0 < j) fun i j => .int (i % j)) := ops_int (f := fun i j => .int (i % j)) (fun d e k h => by unfold opMod at h; split at h <;> first | exact h.elim | exact ⟨_, _, rfl, rfl, h⟩) fun _ _ _ => rep_int
theorem ops_pow : OpS cc opPow (rI CPow fun i j => .int (i ^ j.toNat)) := ops_int (f := fun i j => .int (i ^ j.toNat)) (fun d e k h => by unfold opPow at h; split at h <;> first | exact h.elim | exact ⟨_, _, rfl, rfl, h⟩) fun _ _ _ => rep_int
abbrev rAddS : R2 := fun x y H Q => ∃ i j, x = .str i ∧ y = .str j ∧ i.length + j.length ≤ sizeLine ∧ Q (.str (i ++ j)) H
def rAddA (K : PySem.W.Frag) : R2 := fun x y H Q => rI0 (fun i j => .int (i + j)) x y H Q ∨ rAddS x y H Q ∨ rCatR K x y H Q
theorem op_addA {X : Cx} : OpR X (binaryOp .Add) (rAddA X.K) := op_add.or (op_add_str.or op_catR)
theorem ops_add {K : PySem.W.Frag} (hK : cc.K = K) : OpS cc opAdd (rAddA K) := by
  subst hK
  intro G H x y d e k Q le v1 v2 _ _ ho fin
  unfold opAdd at ho
  split at ho
  · exact .inl ⟨_, _, v1, v2, (fin _ ho).1 _ rep_int⟩
  · exact .inr (.inl ⟨_, _, v1, v2, ho.1, (fin _ ho.2).1 _ rep_str⟩)
  · obtain ⟨a, vs, ea, ra, qa⟩ := v1
    obtain ⟨b, us, eb, rb, qb⟩ := v2
    refine .inr (.inr ⟨a, b, vs, us, ea, eb, ra, rb, ?_, fun p hp => ?_⟩)
    · rw [qa.length, qb.length]; exact ho.1
    · exact (fin _ ho.2) p _ hp ⟨_, upd_same, qa.append qb⟩
  · exact ho.elim
end

section
variable {X : Cx} {Z : Zone} {a b e : Expr} {wa wb w : EW} {pos : Pos}
theorem via_bin {op : D → D → OW} {r : R2} (hs : OpS Z.cc op r) : Via Z (tOp r (T Z wa) (T Z wb)) (eBin op wa wb) := fun σ H Q h => T.bin hs h
theorem de_bin {o : Operator} {op : D → D → OW} {r : R2} (hr : OpR X (binaryOp o) r) (hs : OpS Z.cc op r) (ha : PE X a (T Z wa)) (hb : PE X b (T Z wb)) : PE X (.BinOp a o b pos) (T Z (eBin op wa wb)) := pvia (pe_op hr ha hb) (via_bin hs)
theorem de_cmp {o : CmpOp} {op : D → D → OW} {r : R2} (hr : OpR X (compareOp o) r) (hs : OpS Z.cc op r) (ha : PE X a (T Z wa)) (hb : PE X b (T Z wb)) (hm : behindInMarks o b = false) : PE X (.Compare a [o] [b] pos) (T Z (eBin op wa wb)) := pvia (pe_cmpR hr ha hb hm) (via_bin hs)

/-! ### one operand -/
def OpS1 (cc : CC) (op : D → OW) (r : V → Hp → VK → Prop) : Prop := ∀ (G H : Hp) (x : V) (d : D) (k : Ro → Prop) (Q : VK), LE G H → View cc G H x d → Rep cc H x d → op d k → (∀ o, k o → Fin cc G H Q o) → r x H Q
def eUn (op : D → OW) (wa : EW) : EW := fun xk ρ K => wa xk ρ fun r ρ1 => op (r.get ρ1) fun o => out o ρ1 K
theorem via_un {op : D → OW} {r : V → Hp → VK → Prop} (hs : OpS1 Z.cc op r) : Via Z (fun σ H Q => T Z wa σ H fun x H1 => r x H1 Q) (eUn op wa) := fun σ H Q ⟨ρ, G, K, I, hw, q⟩ =>
  ⟨ρ, G, _, I, hw, fun r1 ρ1 x H1 G1 le1 I1 q1 k1 => hs G1 H1 x _ _ Q I1.sub (q1.view I1) (q1.repH I1) k1 fun o ho => T.fin I1 le1 ho q⟩
theorem de_un {o : UnaryOp} {op : D → OW} {r : V → Hp → VK → Prop} (hr : UnR X (unaryOp o) r) (hs : OpS1 Z.cc op r) (ha : PE X a (T Z wa)) : PE X (.UnaryOp o a pos) (T Z (eUn op wa)) := pvia (pe_un hr ha) (via_un hs)
def opNeg : D → OW
  | .int i => fun k => k (.sh (.int (-i)))
  | _ => fun _ => False
theorem ops_neg {cc : CC} : OpS1 cc opNeg (rU fun i => .int (-i)) := by
  intro G H x d k Q le v1 _ ho fin
  unfold opNeg at ho
  split at ho
  · exact ⟨_, v1, (fin _ ho).1 _ rep_int⟩
  · exact ho.elim
theorem de_neg (ha : PE X a (T Z wa)) : PE X (.UnaryOp .USub a pos) (T Z (eUn opNeg wa)) := de_un un_neg ops_neg ha

/-! ### tests -/
def tVal (w : EW) : TW := fun xk ρ K => w xk ρ fun r ρ' => match r.get ρ' with | .bl b => K b ρ' | _ => False
theorem Tt.val {t : TE} (v : Via Z t w) {σ : L2.St} {H : Hp} {Q : Bool → Hp → Prop} (h : Tt Z (tVal w) σ H Q) : t σ H fun x H' => ∃ k, x = .bl k ∧ Q k H' := by
  obtain ⟨ρ, G, K, I, hw, q⟩ := h
  refine v σ H _ ⟨ρ, G, _, I, hw, fun r ρ' x H' G' le I' q' k => ?_⟩
  have vw := q'.view I'
  cases hd : r.get ρ' <;> simp only [hd] at k
  all_goals try exact k.elim
  rename_i c
  rw [hd] at vw
  exact ⟨c, vw, q c ρ' H' G' le I' k⟩
theorem dt_val (h : PE X e (T Z w)) (he : ∀ whole, isTrue e X.env whole = (do let v ← whole; standAt e.pos; holding [v] (truthy v)) := by intro _; rfl) : PT X e (Tt Z (tVal w)) :=
  ⟨fun pins s σ H Q I q => (pt_val h he).run pins s σ H Q I (Tt.val (t := T Z w) (fun _ _ _ z => z) q)⟩
theorem dt_cmp {o : CmpOp} {op : D → D → OW} {r : R2} (hr : OpR X (compareOp o) r) (hs : OpS Z.cc op r) (ha : PE X a (T Z wa)) (hb : PE X b (T Z wb)) (hm : behindInMarks o b = false) : PT X (.Compare a [o] [b] pos) (Tt Z (tVal (eBin op wa wb))) :=
  ⟨fun pins s σ H Q I q => (pt_cmpR hr ha hb hm).run pins s σ H Q I (Tt.val (via_bin hs) q)⟩
def tAndW (ta tb : TW) : TW := fun xk ρ K => ta xk ρ fun c ρ1 => (c = true → tb xk ρ1 K) ∧ (c = false → K false ρ1)
def tOrW (ta tb : TW) : TW := fun xk ρ K => ta xk ρ fun c ρ1 => (c = true → K true ρ1) ∧ (c = false → tb xk ρ1 K)
def tNotW (ta : TW) : TW := fun xk ρ K => ta xk ρ fun c ρ1 => K (!c) ρ1
variable {ta tb : TW} {rest : List Expr}
theorem dw_or1 (ha : PT X a (Tt Z ta)) : PW X (.BoolOp .Or [a] pos) (Tt Z ta) := pw_or1 ha
theorem dw_or (ha : PT X a (Tt Z ta)) (hb : PW X (.BoolOp .Or (b :: rest) pos) (Tt Z tb)) : PW X (.BoolOp .Or (a :: b :: rest) pos) (Tt Z (tOrW ta tb)) :=
  ⟨fun wh pins s σ H Q I ⟨ρ, G, K, IR, hw, q⟩ => (pw_or ha hb).run wh pins s σ H Q I ⟨ρ, G, _, IR, hw, fun c ρ1 H1 G1 le1 I1 k1 => by
    cases c with
    | false => rw [if_neg Bool.false_ne_true]; exact ⟨ρ1, G1, _, I1, k1.2 rfl, fun c2 ρ2 H2 G2 le2 I2 k2 => q c2 ρ2 H2 G2 (le1.trans le2) I2 k2⟩
    | true => rw [if_pos rfl]; exact q true ρ1 H1 G1 le1 I1 (k1.1 rfl)⟩⟩
theorem dt_not (ha : PT X a (Tt Z ta)) : PT X (.UnaryOp .Not a pos) (Tt Z (tNotW ta)) :=
  ⟨fun pins s σ H Q I ⟨ρ, G, K, IR, hw, q⟩ => (pt_not ha).run pins s σ H Q I ⟨ρ, G, _, IR, hw, fun c ρ1 H1 G1 le1 I1 k1 => q (!c) ρ1 H1 G1 le1 I1 k1⟩⟩
/-! .. as values -/
def eAnd (wa wb : EW) : EW := fun xk ρ K => tVal wa xk ρ fun c ρ1 => (c = true → wb xk ρ1 K) ∧ (c = false → K (.sh (.bl false)) ρ1)
def eOr (wa wb : EW) : EW := fun xk ρ K => tVal wa xk ρ fun c ρ1 => (c = true → K (.sh (.bl true)) ρ1) ∧ (c = false → wb xk ρ1 K)
def eNot (wa : EW) : EW := fun xk ρ K => tVal wa xk ρ fun c ρ1 => K (.sh (.bl !c)) ρ1
theorem de_one {o} (h : PE X a (T Z wa)) : PE X (.BoolOp o [a] pos) (T Z wa) := pe_one h
theorem de_and (ha : PE X a (T Z wa)) (hb : PE X (.BoolOp .And (b :: rest) pos) (T Z wb)) : PE X (.BoolOp .And (a :: b :: rest) pos) (T Z (eAnd wa wb)) :=
  ⟨fun pins s σ H Q I ⟨ρ, G, K, IR, hw, q⟩ => (pe_and ha hb).run pins s σ H Q I (by
    have h : Tt Z (tVal wa) σ H fun c H1 => if c = true then T Z wb σ H1 Q else Q (.bl false) H1 := ⟨ρ, G, _, IR, hw, fun c ρ1 H1 G1 le1 I1 k1 => by
      cases c with
      | true => rw [if_pos rfl]; exact ⟨ρ1, G1, _, I1, k1.1 rfl, fun r2 ρ2 v H2 G2 le2 I2 q2 k2 => q r2 ρ2 v H2 G2 (le1.trans le2) I2 q2 k2⟩
      | false => rw [if_neg Bool.false_ne_true]; exact q (.sh (.bl false)) ρ1 _ H1 G1 le1 I1 (rv_sh rep_bl) (k1.2 rfl)⟩
    exact Tt.val (t := T Z wa) (fun _ _ _ z => z) h)⟩
theorem de_not (ha : PE X a (T Z wa)) : PE X (.UnaryOp .Not a pos) (T Z (eNot wa)) :=
  ⟨fun pins s σ H Q I ⟨ρ, G, K, IR, hw, q⟩ => (pe_not ha).run pins s σ H Q I (by
    have h : Tt Z (tVal wa) σ H fun c H1 => Q (.bl !c) H1 := ⟨ρ, G, _, IR, hw, fun c ρ1 H1 G1 le1 I1 k1 => q (.sh (.bl !c)) ρ1 _ H1 G1 le1 I1 (rv_sh rep_bl) k1⟩
    exact Tt.val (t := T Z wa) (fun _ _ _ z => z) h)⟩
def eIf (t : TW) (wa wb : EW) : EW := fun xk ρ K => t xk ρ fun c ρ1 => (c = true → wa xk ρ1 K) ∧ (c = false → wb xk ρ1 K)
/-! ### displays, argument lists -/
def dNil : DW := fun _ ρ K => K [] ρ
def dCons (wa : EW) (wr : DW) : DW := fun xk ρ K => wa xk ρ fun r ρ1 => stl r ρ1 fun d ρ2 => wr xk ρ2 fun ds ρ3 => K (d :: ds) ρ3
variable {es : List Expr} {wd : DW}
theorem da_nil : PA X [] (Ta Z dNil) := ⟨fun pos pins s σ H Q I ⟨ρ, G, K, IR, hw, q⟩ => pa_nil.run pos pins s σ H Q I (q [] ρ [] H G (LE.refl G) IR Reps.nil hw)⟩
theorem ta_cons {σ : L2.St} {H : Hp} {Q : List V → Hp → Prop} (h : Ta Z (dCons wa wd) σ H Q) : tCons (T Z wa) (Ta Z wd) σ H Q := by
  obtain ⟨ρ, G, K, IR, hw, q⟩ := h
  refine ⟨ρ, G, _, IR, hw, fun r ρ1 v H1 G1 le1 I1 q1 k1 => ?_⟩
  obtain ⟨d, ρ2, G2, le2, I2, rp, k2, _⟩ := I1.settle q1 k1
  exact ⟨ρ2, G2, _, I2, k2, fun ds ρ3 vs H3 G3 le3 I3 rs k3 => q (d :: ds) ρ3 (v :: vs) H3 G3 ((le1.trans le2).trans le3) I3 ((rp.mono le3) |> fun z => Reps.cons z rs) k3⟩
theorem da_cons (ha : PE X e (T Z wa)) (hr : PA X es (Ta Z wd)) (hs : starEach (e :: es) X.env = (false, eval e X.env) :: starEach es X.env := by rfl) : PA X (e :: es) (Ta Z (dCons wa wd)) :=
  ⟨fun pos pins s σ H Q I q => (pa_cons ha hr hs).run pos pins s σ H Q I (ta_cons q)⟩
def eTup (wd : DW) : EW := fun xk ρ K => wd xk ρ fun ds ρ1 => ds.length ≤ 1000 ∧ K (.sh (.tup ds)) ρ1
def eLst (wd : DW) : EW := fun xk ρ K => wd xk ρ fun ds ρ1 => ds.length ≤ 1000 ∧ ∀ a, K (.fr a (.lst ds)) ρ1
theorem le_line {n : Nat} (h : n ≤ 1000) : n ≤ sizeLine := Nat.le_of_lt (small1000 h)
theorem de_tup {x1} (h : PA X es (Ta Z wd)) : PE X (.Tuple es x1 pos) (T Z (eTup wd)) :=
  ⟨fun pins s σ H Q I ⟨ρ, G, K, IR, hw, q⟩ => (pe_tup h).run pins s σ H Q I ⟨ρ, G, _, IR, hw, fun ds ρ1 vs H1 G1 le1 I1 rs k1 => ⟨by rw [rs.length]; exact le_line k1.1, fun p hp =>
    q (.sh (.tup ds)) ρ1 _ _ _ (le1.trans (LE.upd (I1.g hp))) (I1.newG hp) (by show Rep _ _ _ _; unfold Rep; exact ⟨p, vs, rfl, upd_same, rs.mono (LE.upd (I1.g hp))⟩) k1.2⟩⟩⟩
theorem de_lst (h : PA X es (Ta Z wd)) : PE X (.List es pos) (T Z (eLst wd)) :=
  ⟨fun pins s σ H Q I ⟨ρ, G, K, IR, hw, q⟩ => (pe_lst h).run pins s σ H Q I ⟨ρ, G, _, IR, hw, fun ds ρ1 vs H1 G1 le1 I1 rs k1 => ⟨by rw [rs.length]; exact le_line k1.1, fun p hp =>
    q (.fr p (.lst ds)) ρ1 _ _ G1 le1 (I1.newH hp) ⟨rfl, ⟨vs, upd_same, rs⟩, I1.g hp, fun i m b e h => I1.own_ne h hp, (I1.h0 hp).1, (I1.h0 hp).2⟩ (k1.2 p)⟩⟩⟩
end
end TL

namespace TL
open PySem L2

/-- the ends of a statement: over trees, and below -/
structure Lk (Z : Zone) (G : Hp) (K : SK) (D : Ends) : Prop where
  nx : ∀ ρ' σ' H' G', LE G G' → SR Z ρ' G' σ' H' → K.nx ρ' → D.nx σ' H'
  rt : ∀ r ρ' v σ' H' G', LE G G' → SR Z ρ' G' σ' H' → RvOk Z r ρ' G' σ' H' v → K.rt r ρ' → D.rt v H'
  bk : ∀ ρ' σ' H' G', LE G G' → SR Z ρ' G' σ' H' → K.bk ρ' → D.bk σ' H'
  ct : ∀ ρ' σ' H' G', LE G G' → SR Z ρ' G' σ' H' → K.ct ρ' → D.ct σ' H'
theorem Lk.mono {Z : Zone} {G G1 : Hp} {K : SK} {D : Ends} (l : Lk Z G K D) (h : LE G G1) : Lk Z G1 K D :=
  ⟨fun a b c d e => l.nx a b c d (h.trans e), fun a b c d e f g => l.rt a b c d e f (h.trans g), fun a b c d e => l.bk a b c d (h.trans e), fun a b c d e => l.ct a b c d (h.trans e)⟩
def Ts (Z : Zone) (w : SW) : TS := fun D σ H => ∃ ρ G K, SR Z ρ G σ H ∧ w Z.xk ρ K ∧ Lk Z G K D

section
variable {X : Cx} {Z : Zone} {e : Expr} {w wa wb : EW} {pos : Pos} {st : Stmt} {rest : List Stmt} {sa sb : SW} {tw : TW}
def sNil : SW := fun _ ρ K => K.nx ρ
def sSeq (a b : SW) : SW := fun xk ρ K => a xk ρ { K with nx := fun ρ' => b xk ρ' K }
theorem ds_nil : PSs X [] (Ts Z sNil) := ⟨fun pins s σ H D I ⟨ρ, G, K, IR, hw, l⟩ => pss_nil.run pins s σ H D I (l.nx ρ σ H G (LE.refl G) IR hw)⟩
theorem ts_seq {D : Ends} {σ : L2.St} {H : Hp} (h : Ts Z (sSeq sa sb) D σ H) : tSeq (Ts Z sa) (Ts Z sb) D σ H := by
  obtain ⟨ρ, G, K, IR, hw, l⟩ := h
  exact ⟨ρ, G, _, IR, hw, ⟨fun ρ' σ' H' G' le I' k => ⟨ρ', G', K, I', k, l.mono le⟩, l.rt, l.bk, l.ct⟩⟩
theorem ds_cons (h1 : PS X st (Ts Z sa)) (h2 : PSs X rest (Ts Z sb)) : PSs X (st :: rest) (Ts Z (sSeq sa sb)) := ⟨fun pins s σ H D I h => (pss_cons h1 h2).run pins s σ H D I (ts_seq h)⟩
theorem ds_one (h1 : PS X st (Ts Z sa)) : PSs X [st] (Ts Z sa) := pss_one h1
def sPass : SW := fun _ ρ K => K.nx ρ
def sBrk : SW := fun _ ρ K => K.bk ρ
def sNever : SW := fun _ _ _ => False
theorem ds_never : PS X st (Ts Z sNever) := ⟨fun _ _ _ _ _ _ ⟨_, _, _, _, h, _⟩ => h.elim⟩
def sExpr (w : EW) : SW := fun xk ρ K => w xk ρ fun _ ρ1 => K.nx ρ1
theorem ds_expr (he : PE X e (T Z w)) (hs : swapsWith e none pos.line X.env = pure false := by rfl) : PS X (.Expr e pos) (Ts Z (sExpr w)) :=
  ⟨fun pins s σ H D I ⟨ρ, G, K, IR, hw, l⟩ => (ps_expr he hs).run pins s σ H D I ⟨ρ, G, _, IR, hw, fun r ρ' v H' G' le I' _ k => l.nx ρ' σ H' G' le I' k⟩⟩
def sRet (w : EW) : SW := fun xk ρ K => w xk ρ K.rt
theorem ds_ret (he : PE X e (T Z w)) : PS X (.Return (some e) pos) (Ts Z (sRet w)) :=
  ⟨fun pins s σ H D I ⟨ρ, G, K, IR, hw, l⟩ => (ps_ret he).run pins s σ H D I ⟨ρ, G, _, IR, hw, fun r ρ' v H' G' le I' q k => l.rt r ρ' v σ H' G' le I' q k⟩⟩
def sRetN : SW := fun _ ρ K => K.rt (.sh .non) ρ
def sIf (t : TW) (a b : SW) : SW := fun xk ρ K => t xk ρ fun c ρ1 => (c = true → a xk ρ1 K) ∧ (c = false → b xk ρ1 K)
theorem ds_if {c : Expr} {a b : List Stmt} (hc : PT X c (Tt Z tw)) (ha : PSs X a (Ts Z sa)) (hb : PSs X b (Ts Z sb)) : PS X (.If c a b pos) (Ts Z (sIf tw sa sb)) :=
  ⟨fun pins s σ H D I ⟨ρ, G, K, IR, hw, l⟩ => (ps_if hc ha hb).run pins s σ H D I ⟨ρ, G, _, IR, hw, fun c ρ' H' G' le I' k => by
    cases c with
    | true => rw [if_pos rfl]; exact ⟨ρ', G', K, I', k.1 rfl, l.mono le⟩
    | false => rw [if_neg Bool.false_ne_true]; exact ⟨ρ', G', K, I', k.2 rfl, l.mono le⟩⟩⟩

/-! ### stores -/
def lay (i : Nat) (r : Rv) (ρ : REnv) (K : REnv → Prop) : Prop := match r with
  | .fr a d => K (ρ.set i (.own false a d))
  | r => stl r ρ fun d ρ2 => K (ρ2.set i (.sh d))
theorem SR.place {ρ : REnv} {G H : Hp} {σ : L2.St} {i : Nat} {r : Rv} {v : V} {K : REnv → Prop} (I : SR Z ρ G σ H) (hi : i < σ.length) (q : RvOk Z r ρ G σ H v) (h : lay i r ρ K) : ∃ ρ' G', LE G G' ∧ SR Z ρ' G' (σ.set i (some v)) H ∧ K ρ' := by
  have other : ∀ {r : Rv}, RvOk Z r ρ G σ H v → (stl r ρ fun d ρ2 => K (ρ2.set i (.sh d))) → ∃ ρ' G', LE G G' ∧ SR Z ρ' G' (σ.set i (some v)) H ∧ K ρ' := fun {r} q h => by
    obtain ⟨d, ρ', G', le, I', rp, k, _⟩ := I.settle q h
    exact ⟨_, G', le, I'.put hi rp, k⟩
  cases r with
  | loc j => exact other q h
  | sh d => exact other q h
  | gh j a => exact other q h
  | gx as cs t => exact other q h
  | fr a d =>
    have e := q.1
    subst e
    exact ⟨_, G, LE.refl G, I.putFr hi q, h⟩
def sSet (i : Nat) (w : EW) : SW := fun xk ρ K => w xk ρ fun r ρ1 => lay i r ρ1 K.nx
theorem ds_set {i : Nat} {x : Str} {pos' : Pos} (hN : X.N.Nodup) (he : PE X e (T Z w)) (hi : X.N[i]? = some x := by rfl) (hx : Loc X.env.scope x := by first | exact Or.inl rfl | exact Or.inr rfl) (hs : swapsWith e (some (.Name x pos')) pos.line X.env = pure false := by rfl) (hf : X.fn x = true ∨ X.env.scope.names.lookup x = some .local := by first | exact .inl rfl | exact .inr rfl | assumption) :
    PS X (.Assign [.Name x pos'] e pos) (Ts Z (sSet i w)) :=
  ⟨fun pins s σ H D I ⟨ρ, G, K, IR, hw, l⟩ => (ps_set hN hi hx he hs hf).run pins s σ H D I ⟨ρ, G, _, IR, hw, fun r ρ' v H' G' le I' q k => by
    obtain ⟨ρ2, G2, le2, I2, k2⟩ := I'.place (lt_len I hi) q k
    exact l.nx ρ2 _ H' G2 (le.trans le2) I2 k2⟩⟩
/-- a, b = x, y -/
def sPar (i j : Nat) (wd : DW) : SW := fun xk ρ K => wd xk ρ fun ds ρ1 => match ds with | [d, e] => K.nx ((ρ1.set i (.sh d)).set j (.sh e)) | _ => False
theorem ds_par {i j : Nat} {x y : Str} {a b : Expr} {px py pt : Pos} {kt k2 pt2} {wd : DW} (hc : X.calm = true) (hN : X.N.Nodup) (ha : PA X [a, b] (Ta Z wd)) (hi : X.N[i]? = some x := by rfl) (hj : X.N[j]? = some y := by rfl) (hij : i ≠ j := by decide)
    (hx : X.env.scope.names.lookup x = some .local := by rfl) (hy : X.env.scope.names.lookup y = some .local := by rfl)
    (hw : swappedStores [.Tuple [.Name x px, .Name y py] kt pt] (.Tuple [a, b] k2 pt2) X.env = pure (some [x, y]) := by rfl)
    (hs : swapsWithSole [.Tuple [.Name x px, .Name y py] kt pt] (.Tuple [a, b] k2 pt2) pos.line X.env = pure false := by rfl) :
    PS X (.Assign [.Tuple [.Name x px, .Name y py] kt pt] (.Tuple [a, b] k2 pt2) pos) (Ts Z (sPar i j wd)) :=
  ⟨fun pins s σ H D I ⟨ρ, G, K, IR, h, l⟩ => (ps_par hc hN hi hj hij hx hy ha hw hs).run pins s σ H D I ⟨ρ, G, _, IR, h, fun ds ρ' vs H' G' le I' rs k => by
    match ds, k with
    | [d, e], k =>
      obtain ⟨v, r1, rfl, rv, rs⟩ := rs.inv_cons
      obtain ⟨u, r2, rfl, ru, rs⟩ := rs.inv_cons
      have := rs.inv_nil
      subst this
      refine ⟨v, u, rfl, l.nx _ _ H' G' le ((I'.put (lt_len I hi) rv).put ?_ ru) k⟩
      rw [List.length_set]; exact lt_len I hj⟩⟩

/-! ### targets -/
def Tg (Z : Zone) (g : GW) : TG := fun v σ H Q => ∃ ρ G d K, SR Z ρ G σ H ∧ Rep Z.cc G v d ∧ g d ρ K ∧ ∀ ρ' σ' G', LE G G' → SR Z ρ' G' σ' H → K ρ' → Q σ' H
abbrev GWs := List D → REnv → (REnv → Prop) → Prop
def Tgs (Z : Zone) (g : GWs) : TGs := fun vs σ H Q => ∃ ρ G ds K, SR Z ρ G σ H ∧ Reps Z.cc G vs ds ∧ g ds ρ K ∧ ∀ ρ' σ' G', LE G G' → SR Z ρ' G' σ' H → K ρ' → Q σ' H
def gN (i : Nat) : GW := fun d ρ K => K (ρ.set i (.sh d))
def gNl : GWs := fun ds ρ K => ds = [] ∧ K ρ
def gCn (g : GW) (gs : GWs) : GWs := fun ds ρ K => match ds with | d :: r => g d ρ fun ρ' => gs r ρ' K | [] => False
def gTp (n : Nat) (gs : GWs) : GW := fun d ρ K => match d with | .tup ds => ds.length = n ∧ gs ds ρ K | _ => False
theorem dg_name {i : Nat} {x : Str} (hN : X.N.Nodup) (hi : X.N[i]? = some x := by rfl) (hx : Loc X.env.scope x := by first | exact Or.inl rfl | exact Or.inr rfl) (hf : X.fn x = true ∨ X.env.scope.names.lookup x = some .local := by first | exact .inl rfl | exact .inr rfl | assumption) : PG X (.Name x pos) (Tg Z (gN i)) :=
  ⟨fun pins s σ H v u Q I r ⟨ρ, G, d, K, IR, rp, k, q⟩ => (pg_name hN hi hx hf).run pins s σ H v u Q I r (q _ _ G (LE.refl G) (IR.put (lt_len I hi) rp) k)⟩
theorem dgs_nil : PGs X [] (Tgs Z gNl) := ⟨fun pins s σ H vs us Q I r ⟨ρ, G, ds, K, IR, rp, k, q⟩ => pgs_nil.run pins s σ H vs us Q I r (by
  obtain ⟨e, k⟩ := k
  subst e
  exact ⟨rp.inv_nil, q ρ σ G (LE.refl G) IR k⟩)⟩
theorem dgs_cons {es : List Expr} {g : GW} {gs : GWs} (h1 : PG X e (Tg Z g)) (h2 : PGs X es (Tgs Z gs))
    (hs : (assignEach (e :: es) X.env).map (·.2) = assign e X.env :: (assignEach es X.env).map (·.2) := by rfl) : PGs X (e :: es) (Tgs Z (gCn g gs)) :=
  ⟨fun pins s σ H vs us Q I r ⟨ρ, G, ds, K, IR, rp, k, q⟩ => (pgs_cons h1 h2 hs).run pins s σ H vs us Q I r (by
    match ds, k with
    | d :: dr, k =>
      obtain ⟨v, vr, rfl, rv, rs⟩ := rp.inv_cons
      exact ⟨v, vr, rfl, ρ, G, d, _, IR, rv, k, fun ρ' σ' G' le I' k' => ⟨ρ', G', dr, K, I', rs.mono le, k', fun ρ2 σ2 G2 le2 I2 k2 => q ρ2 σ2 G2 (le.trans le2) I2 k2⟩⟩)⟩
theorem dg_tup {es : List Expr} {k : Nat} {gs : GWs} {n : Nat} (hc : X.calm = true) (h : PGs X es (Tgs Z gs))
    (hn : (assignEach es X.env).length = n := by rfl) (hst : (assignEach es X.env).findIdx? (·.1) = none := by rfl) : PG X (.Tuple es k pos) (Tg Z (gTp n gs)) :=
  ⟨fun pins s σ H v u Q I r ⟨ρ, G, d, K, IR, rp, k, q⟩ => (pg_tup (n := n) hc h hn hst).run pins s σ H v u Q I r (by
    cases d <;> try exact (k : False).elim
    rename_i ds
    unfold Rep at rp
    obtain ⟨a, vs, e, ga, rs⟩ := rp
    exact ⟨a, vs, e, SqT.of (IR.sub _ _ ga), by rw [rs.length]; exact k.1, ρ, G, ds, K, IR, rs, k.2, q⟩)⟩
/-- target = value -/
def sAsg (w : EW) (g : GW) : SW := fun xk ρ K => w xk ρ fun r ρ1 => stl r ρ1 fun d ρ2 => g d ρ2 K.nx
theorem ds_asg {tg : Expr} {g : GW} (he : PE X e (T Z w)) (hg : PG X tg (Tg Z g)) (hs : swapsWithSole [tg] e pos.line X.env = pure false := by rfl) (hw : swappedStores [tg] e X.env = pure none := by rfl)
    (h1 : (assignEach [tg] X.env).map (·.2) = [assign tg X.env] := by rfl) : PS X (.Assign [tg] e pos) (Ts Z (sAsg w g)) :=
  ⟨fun pins s σ H D I ⟨ρ, G, K, IR, hk, l⟩ => (ps_asg he hg hs hw h1).run pins s σ H D I ⟨ρ, G, _, IR, hk, fun r ρ' v H' G' le I' q k => by
    obtain ⟨d, ρ2, G2, le2, I2, rp, k2, _⟩ := I'.settle q k
    exact ⟨ρ2, G2, d, _, I2, rp, k2, fun ρ3 σ3 G3 le3 I3 k3 => l.nx ρ3 σ3 H' G3 ((le.trans le2).trans le3) I3 k3⟩⟩⟩

/-! ### a root of a name's own, changed -/
theorem Root.lst {cc : CC} {G H : Hp} {a : Addr} {vs : List V} {ds : List D} (h : H a = some (.lst vs)) (r : Reps cc G vs ds) : Root cc G H a (.lst ds) := ⟨vs, h, r⟩
theorem SR.ownL {ρ : REnv} {G H : Hp} {σ : L2.St} (I : SR Z ρ G σ H) {j : Nat} {m : Bool} {a : Addr} {ds : List D} (h : ρ[j]? = some (.own m a (.lst ds))) : (σ[j]? = some (some (.ref a)) ∨ σ.length ≤ j) ∧ ∃ vs, H a = some (.lst vs) ∧ Reps Z.cc G vs ds := I.slot j _ h
def sSub (j : Nat) (wi w : EW) : SW := fun xk ρ K => w xk ρ fun r ρ1 => stl r ρ1 fun d ρ2 => bound ρ2 j ∧ wi xk ρ2 fun ri ρ3 => match ρ3[j]?, ri.get ρ3 with
  | some (.own m a (.lst ds)), .int k => ∃ n, ixN ds.length k = some n ∧ K.nx (ρ3.set j (.own m a (.lst (ds.set n d))))
  | _, _ => False
def sApp (j : Nat) (w : EW) : SW := fun xk ρ K => (∃ m a ds, ρ[j]? = some (.own m a (.lst ds))) ∧ w xk ρ fun r ρ1 => stl r ρ1 fun d ρ2 => match ρ2[j]? with
  | some (.own m a (.lst ds)) => ds.length < sizeLine ∧ K.nx (ρ2.set j (.own m a (.lst (ds ++ [d]))))
  | _ => False
theorem ds_app {j : Nat} {x : Str} {px apos cpos : Pos} (he : PE X e (T Z w)) (hN : X.N[j]? = some x := by rfl) (hv : Vis X.env.scope x := by first | exact Or.inl rfl | exact Or.inr (Or.inl rfl) | exact Or.inr (Or.inr rfl)) (hd : (x == ("__debug__" : Str)) = false := by decide)
    (hcd : (x == ("__classdict__" : Str)) = false := by decide)
    (hbase : attributeBase (.Name x px) "append" X.env (eval (.Name x px) X.env) = eval (.Name x px) X.env := by rfl)
    (hfew : ((backTo cpos (starEach [e] X.env)).all (fun x => !x.1) && (backToKw cpos (keywordEach [] X.env)).all (fun x => x.1.isSome)
      && decide (([e] : List Expr).length + ([] : List Keyword).length + (if ([] : List Keyword).isEmpty then 0 else 1) < 30)) = true := by rfl)
    (hline : (apos.endLine == cpos.line) = true := by rfl) (hst : starEach [e] X.env = (false, eval e X.env) :: starEach [] X.env := by rfl) (hplain : (backTo cpos (starEach [] X.env)).any (·.1) = false := by rfl)
    (hs : swapsWith (.Call (.Attribute (.Name x px) "append" apos) [e] [] cpos) none pos.line X.env = pure false := by rfl) :
    PS X (.Expr (.Call (.Attribute (.Name x px) "append" apos) [e] [] cpos) pos) (Ts Z (sApp j w)) :=
  ⟨fun pins s σ H D I ⟨ρ, G, K, IR, ⟨⟨m, a, ds, hs0⟩, hk⟩, l⟩ => (ps_expr (pe_bm PySem.F.plainAttrs_list PySem.F.slot_list_append PySem.F.type_list_append mt_append (pv j hN hv hd hcd) (pa_cons he pa_nil hst) hbase hfew hline hst hplain) hs).run pins s σ H D I (by
    obtain ⟨es, vs, ha, rs⟩ := IR.ownL hs0
    have es := own_at (lt_len I hN) es
    refine ⟨.ref a, es, .inl ⟨rfl, vs, SqL.of ha⟩, ρ, G, _, IR, hk, fun r ρ' v H' G' le I' q k => ?_⟩
    obtain ⟨d, ρ2, G2, le2, I2, rp, k2, _⟩ := I'.settle q k
    split at k2
    · rename_i m2 a2 ds2 hs2
      obtain ⟨es2, vs2, ha2, rs2⟩ := I2.ownL hs2
      cases own_in es es2
      refine ⟨a, vs2, v, rfl, rfl, ha2, by rw [rs2.length]; exact k2.1, ?_⟩
      exact l.nx _ _ _ G2 (le.trans le2) (I2.write hs2 (Root.lst upd_same (rs2.append (Reps.cons rp Reps.nil)))) k2.2
    · exact k2.elim)⟩

/-! ### while -/
def sWhile (t : TW) (b : SW) : SW := fun xk ρ K => ∃ W : Nat → REnv → Prop, (∃ m, W m ρ) ∧ ∀ m ρ, W m ρ → t xk ρ fun c ρ1 =>
  (c = true → b xk ρ1 { K with nx := fun ρ2 => ∃ m', m' < m ∧ W m' ρ2, ct := fun ρ2 => ∃ m', m' < m ∧ W m' ρ2, bk := K.nx }) ∧ (c = false → K.nx ρ1)
theorem ds_while {c : Expr} {body : List Stmt} (hp : PassesOwn (model X.prog X.w) X.A X.env X.xe) (hc : PT X c (Tt Z tw)) (hb : PSs X body (Ts Z sb)) : PS X (.While c body [] pos) (Ts Z (sWhile tw sb)) :=
  ⟨fun pins s σ H D I ⟨ρ, G, K, IR, ⟨W, ⟨m0, w0⟩, turn⟩, l⟩ => (ps_while hp hc hb).run pins s σ H D I (by
    refine ⟨fun m σ' H' => ∃ ρ' G', LE G G' ∧ SR Z ρ' G' σ' H' ∧ W m ρ', ⟨m0, ρ, G, LE.refl G, IR, w0⟩, ?_⟩
    rintro m σ' H' ⟨ρ', G', le, I', w'⟩
    refine ⟨ρ', G', _, I', turn m ρ' w', fun c ρ1 H1 G1 le1 I1 k => ?_⟩
    cases c with
    | true =>
      rw [if_pos rfl]
      refine ⟨fun σ2 H2 => ∃ ρ2 G2 m', LE G G2 ∧ SR Z ρ2 G2 σ2 H2 ∧ m' < m ∧ W m' ρ2, fun σ2 H2 ⟨ρ2, G2, m', le2, I2, hm, w2⟩ => ⟨m', hm, ρ2, G2, le2, I2, w2⟩, ρ1, G1, _, I1, k.1 rfl, ?_⟩
      have lG := le.trans le1
      exact ⟨fun ρ2 σ2 H2 G2 le2 I2 ⟨m', hm, w2⟩ => ⟨ρ2, G2, m', lG.trans le2, I2, hm, w2⟩, fun r ρ2 v σ2 H2 G2 le2 I2 q k => l.rt r ρ2 v σ2 H2 G2 (lG.trans le2) I2 q k, fun ρ2 σ2 H2 G2 le2 I2 k => l.nx ρ2 σ2 H2 G2 (lG.trans le2) I2 k,
        fun ρ2 σ2 H2 G2 le2 I2 ⟨m', hm, w2⟩ => ⟨ρ2, G2, m', lG.trans le2, I2, hm, w2⟩⟩
    | false =>
      rw [if_neg Bool.false_ne_true]
      exact l.nx ρ1 σ' H1 G1 (le.trans le1) I1 (k.2 rfl))⟩

/-! ### for -/
/-- what a loop walks: how many turns, what comes at a turn, what must stand as it is meanwhile -/
abbrev IW := Xk → REnv → (Nat → (Nat → D → Prop) → (REnv → Prop) → REnv → Prop) → Prop
def ItOk (Z : Zone) (J : It) (n : Nat) (f : Nat → D → Prop) (st : REnv → Prop) (G : Hp) : Prop := ∀ (H0 : Hp) (xk : Xk) i ρ G1 σ H, LE G G1 → SR { Z with H0 := H0, xk := xk } ρ G1 σ H → st ρ →
  (n ≤ i → J.stop i H) ∧ (i < n → J.go i H ∧ ∀ x H', J.yld i H x H' → ∃ d G2, f i d ∧ LE G1 G2 ∧ SR { Z with H0 := H0, xk := xk } ρ G2 σ H' ∧ Rep Z.cc G2 x d)
def Ti (Z : Zone) (iw : IW) : TI := fun σ H R => ∃ ρ G K, SR Z ρ G σ H ∧ iw Z.xk ρ K ∧
  ∀ n f st ρ' H' G' J, LE G G' → SR Z ρ' G' σ H' → ItOk Z J n f st G' → K n f st ρ' → R J H'
def sFor (iw : IW) (g : GW) (b : SW) : SW := fun xk ρ K => iw xk ρ fun n f st ρ1 => ∃ W : Nat → REnv → Prop, W 0 ρ1 ∧ (∀ i ρ, i ≤ n → W i ρ → st ρ) ∧
  (∀ i d ρ, i < n → f i d → W i ρ → g d ρ fun ρ2 => b xk ρ2 { K with nx := W (i + 1), ct := W (i + 1), bk := K.nx }) ∧ ∀ ρ, W n ρ → K.nx ρ
theorem ds_for {tg iter : Expr} {body : List Stmt} {iw : IW} {g : GW} (hp : PassesOwn (model X.prog X.w) X.A X.env X.xe) (hc : X.calm = true) (hi : PI X tg iter (Ti Z iw)) (hg : PG X tg (Tg Z g)) (hb : PSs X body (Ts Z sb))
    (hs : ∀ x, foldedSetIterable iter X.env x = pure x := by intro _; rfl) : PS X (.For tg iter body [] pos) (Ts Z (sFor iw g sb)) :=
  ⟨fun pins s σ H D I ⟨ρ, G, K, IR, hw, l⟩ => (ps_for hp hc hi hg hb hs).run pins s σ H D I ⟨ρ, G, _, IR, hw, fun n f st ρ1 H1 G1 J le1 I1 io ⟨W, w0, stb, turn, fin⟩ => by
    refine ⟨fun i m σ' H' => m = n - i ∧ i ≤ n ∧ ∃ ρ' G', LE G1 G' ∧ SR Z ρ' G' σ' H' ∧ W i ρ', ⟨n, by simp, Nat.zero_le _, ρ1, G1, LE.refl G1, I1, w0⟩, ?_⟩
    rintro i m σ' H' ⟨rfl, hin, ρ', G', le', I', w'⟩
    obtain ⟨s1, s2⟩ := io Z.H0 Z.xk i ρ' G' σ' H' le' I' (stb i ρ' hin w')
    by_cases hlt : i < n
    · obtain ⟨go, yl⟩ := s2 hlt
      refine .inr ⟨go, fun σ2 H2 => ∃ ρ2 G2, LE G1 G2 ∧ SR Z ρ2 G2 σ2 H2 ∧ W (i + 1) ρ2, fun σ2 H2 h => ⟨n - (i + 1), by omega, rfl, hlt, h⟩, fun x H2 y => ?_⟩
      obtain ⟨d, G2, fd, le2, I2, rp⟩ := yl x H2 y
      refine ⟨ρ', G2, d, _, I2, rp, turn i d ρ' hlt fd w', fun ρ3 σ3 G3 le3 I3 k3 => ⟨ρ3, G3, _, I3, k3, ?_⟩⟩
      have l3 := (le'.trans le2).trans le3
      have lG := le1.trans l3
      exact ⟨fun ρ4 σ4 H4 G4 le4 I4 k => ⟨ρ4, G4, l3.trans le4, I4, k⟩, fun r ρ4 v σ4 H4 G4 le4 I4 q k => l.rt r ρ4 v σ4 H4 G4 (lG.trans le4) I4 q k, fun ρ4 σ4 H4 G4 le4 I4 k => l.nx ρ4 σ4 H4 G4 (lG.trans le4) I4 k,
        fun ρ4 σ4 H4 G4 le4 I4 k => ⟨ρ4, G4, l3.trans le4, I4, k⟩⟩
    · have e : i = n := by omega
      subst e
      exact .inl ⟨s1 (Nat.le_refl _), l.nx ρ' σ' H' G' (le1.trans le') I' (fin ρ' w')⟩⟩⟩

/-- the source of a loop stands still -/
def stab (r : Rv) (ρ1 : REnv) (ρ : REnv) : Prop := match r with
  | .loc i => match ρ1[i]? with
    | some (.own m a d) => ρ[i]? = some (.own m a d)
    | _ => True
  | .gh j _ => match ρ1[j]? with
    | some (.own m a d) => ρ[j]? = some (.own m a d)
    | _ => True
  | _ => True
def iLst (w : EW) : IW := fun xk ρ K => w xk ρ fun r ρ1 => match r.get ρ1 with | .lst ds => K ds.length (fun i d => ds[i]? = some d) (stab r ρ1) ρ1 | _ => False
def iTpl (w : EW) : IW := fun xk ρ K => w xk ρ fun r ρ1 => match r.get ρ1 with | .tup ds => K ds.length (fun i d => ds[i]? = some d) (fun _ => True) ρ1 | _ => False
theorem SqL.rd {K : PySem.W.Frag} {H : Hp} {a : Addr} {xs : List V} (h : Rd H a (.lst xs)) : SqL K H a xs := .inl h
theorem SqT.rd {K : PySem.W.Frag} {H : Hp} {a : Addr} {xs : List V} (h : Rd H a (.tup xs)) : SqT K H a xs := .inl h
/-- a source that stands in what is known -/
theorem itl_known {K : PySem.W.Frag} {a : Addr} {vs : List V} {ds : List D} {G : Hp} {st : REnv → Prop} (hK : Z.cc.K = K) (ra : SqL Z.cc.K G a vs) (rs : Reps Z.cc G vs ds) :
    ItOk Z (Itl K a) ds.length (fun i d => ds[i]? = some d) st G := by
  intro H0 xk i ρ G1 σ H le I _
  have rH : SqL K H a vs := by rw [← hK]; exact (le.trans I.sub).sql ra
  refine ⟨fun h => ⟨vs, rH, by rw [rs.length]; exact h⟩, fun h => ?_⟩
  obtain ⟨v, hv, _⟩ := rs.get (List.getElem?_eq_getElem h)
  refine ⟨⟨vs, v, rH, hv⟩, fun x H' y => ?_⟩
  obtain ⟨e, y⟩ := y
  subst e
  obtain ⟨d, hd, rp⟩ := rs.get' (y vs rH)
  exact ⟨d, G1, hd, LE.refl _, I, rp.mono le⟩
end
end TL

namespace TL
open PySem L2

section
variable {X : Cx} {Z : Zone} {e : Expr} {w wa wb : EW} {pos : Pos}

/-! ### what a loop walks -/
theorem it_list {K : PySem.W.Frag} (hK : Z.cc.K = K) {ρ : REnv} {G H : Hp} {σ : L2.St} {r : Rv} {x : V} {ds : List D} (I : SR Z ρ G σ H) (q : RvOk Z r ρ G σ H x) (hd : r.get ρ = .lst ds) :
    ∃ a G', x = .ref a ∧ LE G G' ∧ SR Z ρ G' σ H ∧ (∃ xs, SqL K H a xs) ∧ ItOk Z (Itl K a) ds.length (fun i d => ds[i]? = some d) (stab r ρ) G' := by
  have known : ∀ {G'}, LE G G' → SR Z ρ G' σ H → Rep Z.cc G' x (.lst ds) → ∃ a G', x = .ref a ∧ LE G G' ∧ SR Z ρ G' σ H ∧ (∃ xs, SqL K H a xs) ∧ ItOk Z (Itl K a) ds.length (fun i d => ds[i]? = some d) (stab r ρ) G' := fun {G'} le I' rp => by
    unfold Rep at rp
    obtain ⟨a, vs, ea, ra, rs⟩ := rp
    exact ⟨a, G', ea, le, I', ⟨vs, by rw [← hK]; exact I'.sub.sql ra⟩, itl_known hK ra rs⟩
  cases r with
  | sh d => exact known (LE.refl G) I (by have : d = .lst ds := hd; rw [← this]; exact q)
  | fr a d =>
    have : d = .lst ds := hd
    subst this
    obtain ⟨G', le, I', q'⟩ := I.freeze q
    exact known le I' q'
  | loc i =>
    obtain ⟨ex, hb⟩ := q
    have hd : getL ρ i = .lst ds := hd
    unfold getL at hd
    unfold bound at hb
    cases hs : ρ[i]? with
    | none => rw [hs] at hb; exact hb.elim
    | some s =>
      have so := I.slot i s hs
      simp only [hs] at hd
      cases s with
      | no => rw [hs] at hb; exact hb.elim
      | sh d =>
        obtain ⟨u, eu, ru⟩ := so
        rw [ex] at eu; cases eu
        subst hd
        exact known (LE.refl G) I ru
      | own m a d =>
        obtain ⟨eu, rt⟩ := so
        cases own_in ex eu
        have hd : d = .lst ds := hd
        subst hd
        obtain ⟨vs, ha, rs⟩ := rt
        refine ⟨a, G, rfl, LE.refl G, I, ⟨vs, SqL.of ha⟩, fun H0 xk j ρ' G1 σ' H' le I' hst => ?_⟩
        have hst : ρ'[i]? = some (.own m a (.lst ds)) := by
          unfold stab at hst
          simp only [hs] at hst
          exact hst
        obtain ⟨es, us, ha', rs'⟩ := I'.ownL hst
        refine ⟨fun h => ⟨us, SqL.of ha', by rw [rs'.length]; exact h⟩, fun h => ?_⟩
        obtain ⟨v, hv, _⟩ := rs'.get (List.getElem?_eq_getElem h)
        refine ⟨⟨us, v, SqL.of ha', hv⟩, fun x H2 y => ?_⟩
        obtain ⟨e, y⟩ := y
        subst e
        obtain ⟨d, hd, rp⟩ := rs'.get' (y us (SqL.of ha'))
        exact ⟨d, G1, hd, LE.refl _, I', rp⟩
  | gh j a =>
    obtain ⟨rfl, m, d, hs⟩ := q
    have hd : getL ρ j = .lst ds := hd
    unfold getL at hd
    rw [hs] at hd
    have hd : d = .lst ds := hd
    subst hd
    have rt := (I.slot j _ hs).2
    obtain ⟨vs, ha, rs⟩ := rt
    refine ⟨a, G, rfl, LE.refl G, I, ⟨vs, SqL.of ha⟩, fun H0 xk k ρ' G1 σ' H' le I' hst => ?_⟩
    have hst : ρ'[j]? = some (.own m a (.lst ds)) := by
      unfold stab at hst
      simp only [hs] at hst
      exact hst
    obtain ⟨es, us, ha', rs'⟩ := I'.ownL hst
    refine ⟨fun h => ⟨us, SqL.of ha', by rw [rs'.length]; exact h⟩, fun h => ?_⟩
    obtain ⟨v, hv, _⟩ := rs'.get (List.getElem?_eq_getElem h)
    refine ⟨⟨us, v, SqL.of ha', hv⟩, fun x H2 y => ?_⟩
    obtain ⟨e, y⟩ := y
    subst e
    obtain ⟨d, hd, rp⟩ := rs'.get' (y us (SqL.of ha'))
    exact ⟨d, G1, hd, LE.refl _, I', rp⟩
  | gx as cs t => exact known (LE.refl G) I (by have : t = .lst ds := hd; rw [← this]; exact q.2.2.1)
theorem di_lst {tg : Expr} (hK : Z.cc.K = X.K) (he : PE X e (T Z w)) : PI X tg e (Ti Z (iLst w)) :=
  ⟨fun pins s σ H R I ⟨ρ, G, K, IR, hw, q⟩ => (pi_list he).run pins s σ H R I ⟨ρ, G, _, IR, hw, fun r ρ' v H' G' le I' qr k => by
    split at k
    · rename_i ds hd
      obtain ⟨a, G2, ea, le2, I2, hx, io⟩ := it_list (K := X.K) hK I' qr hd
      exact ⟨a, ea, hx, q _ _ _ ρ' H' G2 _ (le.trans le2) I2 io k⟩
    · exact k.elim⟩⟩
def iR1 (wd : DW) : IW := fun xk ρ K => wd xk ρ fun ds ρ1 => match ds with
  | [.int j] => (-(2 ^ 62) ≤ j ∧ j < 2 ^ 62) ∧ K j.toNat (fun i d => d = .int i) (fun _ => True) ρ1
  | _ => False
def iR2 (wd : DW) : IW := fun xk ρ K => wd xk ρ fun ds ρ1 => match ds with
  | [.int i, .int j] => (-(2 ^ 62) ≤ i ∧ i < 2 ^ 62 ∧ -(2 ^ 62) ≤ j ∧ j < 2 ^ 62) ∧ K (j - i).toNat (fun k d => d = .int (i + k)) (fun _ => True) ρ1
  | _ => False
theorem itr_ok0 {n : Nat} {G : Hp} : ItOk Z (Itr 0 n) n (fun k d => d = .int k) (fun _ => True) G := by
  intro H0 xk i ρ G1 σ' H le I _
  refine ⟨fun h => h, fun h => ⟨h, fun x H' y => ?_⟩⟩
  obtain ⟨rfl, rfl⟩ := y
  exact ⟨.int i, G1, rfl, LE.refl _, I, by rw [Int.zero_add]; exact rep_int⟩
theorem di_r1 {tg a : Expr} {wd : DW} {p : Pos} (hg : Gl X "range") (hm : X.mg "range" = none) (ha : PA X [a] (Ta Z wd)) (hs : starEach [a] X.env = [(false, eval a X.env)] := by rfl) : PI X tg (.Call (.Name "range" p) [a] [] pos) (Ti Z (iR1 wd)) :=
  ⟨fun pins s σ H R I ⟨ρ, G, K, IR, hw, q⟩ => (pi_range1 hg hm ha hs).run pins s σ H R I ⟨ρ, G, _, IR, hw, fun ds ρ' vs H' G' le I' rs k => by
    split at k
    · rename_i j
      obtain ⟨v, r, rfl, rv, rr⟩ := rs.inv_cons
      have := rr.inv_nil
      subst this
      unfold Rep at rv
      subst rv
      exact ⟨j, rfl, k.1.1, k.1.2, q _ _ _ ρ' H' G' _ le I' itr_ok0 k.2⟩
    · exact k.elim⟩⟩
/-! ### a comprehension -/
abbrev xk0 : Xk := fun _ _ _ => False
abbrev Zone.ext (Z : Zone) (D : Addr) (o : HO) : Zone := { Z with H0 := upd Z.H0 D o, xk := xk0 }
theorem SR.ext {ρ : REnv} {G H : Hp} {σ : L2.St} {D : Addr} {o : HO} (I : SR Z ρ G σ H) (hD : H D = some o) (gD : G D = none) (ho : ∀ (i : Nat) (m : Bool) (b : Addr) (e : TL.D), ρ[i]? = some (.own m b e) → b ≠ D) (hm : D ∉ Z.mu) : SR (Z.ext D o) ρ G σ H := by
  refine ⟨I.len, I.sub, I.slot, I.inj, I.out, fun a u e hn => ?_, fun i m a d e => ?_, fun a ha => ?_, I.g0, I.mout, I.mux⟩
  · by_cases h : a = D
    · subst h
      have e : upd Z.H0 a o a = some u := e
      rw [upd_same] at e; cases e; exact hD
    · have e : upd Z.H0 D o a = some u := e
      rw [upd_ne h] at e; exact I.ent a u e hn
  · have := I.frs i m a d e
    cases m with
    | true => exact this
    | false => exact ⟨by show upd Z.H0 D o a = none; rw [upd_ne (ho i _ a d e)]; exact this.1, this.2⟩
  · have : a ≠ D := fun h => ha (h ▸ gD)
    rcases I.gnew a ha with z | z
    · exact .inl z
    · exact .inr (by show upd Z.H0 D o a = none; rw [upd_ne this]; exact z)
theorem SR.unext {ρ : REnv} {G H : Hp} {σ : L2.St} {D : Addr} {o : HO} (I : SR (Z.ext D o) ρ G σ H) (h0 : Z.H0 D = none) (g0 : Z.G0 D = none) (hm : D ∉ Z.mu) : SR Z ρ G σ H ∧ H D = some o ∧ G D = none ∧ ∀ (i : Nat) (m : Bool) (b : Addr) (e : TL.D), ρ[i]? = some (.own m b e) → b ≠ D := by
  have hD : H D = some o := I.ent D o (by show upd Z.H0 D o D = some o; exact upd_same) hm
  have gD : G D = none := by
    cases e : G D with
    | none => rfl
    | some u =>
      rcases I.gnew D (by rw [e]; simp) with z | z
      · exact absurd g0 z
      · have z : upd Z.H0 D o D = none := z
        rw [upd_same] at z; cases z
  refine ⟨⟨I.len, I.sub, I.slot, I.inj, I.out, fun a u e hn => ?_, fun i m a d e => ?_, fun a ha => ?_, I.g0, I.mout, I.mux⟩, hD, gD, fun i m b e h => ?_⟩
  · refine I.ent a u ?_ hn
    show upd Z.H0 D o a = some u
    rw [upd_ne (ne_of_none e h0)]; exact e
  · have := I.frs i m a d e
    cases m with
    | true => exact this
    | false =>
      have h := this.1
      have h : upd Z.H0 D o a = none := h
      by_cases z : a = D
      · subst z; rw [upd_same] at h; cases h
      · rw [upd_ne z] at h; exact ⟨h, this.2⟩
  · rcases I.gnew a ha with z | z
    · exact .inl z
    · have z : upd Z.H0 D o a = none := z
      have : a ≠ D := fun h => by subst h; rw [upd_same] at z; cases z
      rw [upd_ne this] at z; exact .inr z
  · have := I.frs i m b e h
    cases m with
    | true => exact fun z => hm (z ▸ this)
    | false =>
      rintro rfl
      have h := this.1
      have h : upd Z.H0 b o b = none := h
      rw [upd_same] at h; cases h

def wipeE (ρ : REnv) : List Nat → REnv
  | [] => ρ
  | v :: vs => (wipeE ρ vs).set v .no
def keepS (ρ1 : REnv) (v : Nat) : Sl := match ρ1[v]? with | some (.sh d) => .sh d | _ => .no
def restE (ρ1 : REnv) : List Nat → REnv → REnv
  | [], ρ => ρ
  | v :: vs, ρ => restE ρ1 vs (ρ.set v (if v ∈ vs then .no else keepS ρ1 v))
theorem SR.wipe {ρ : REnv} {G H : Hp} {σ : L2.St} (I : SR Z ρ G σ H) : ∀ vs, SR Z (wipeE ρ vs) G (L2.wipe σ vs) H
  | [] => I
  | v :: vs => (SR.wipe I vs).putNo
theorem SR.back {ρ : REnv} {G H : Hp} {σ : L2.St} {v : Nat} {x : Option V} {s : Sl} (I : SR Z ρ G (σ.set v x) H) (so : SlOk Z.cc G H v σ s) (hn : ∀ m a d, s ≠ .own m a d) : SR Z (ρ.set v s) G σ H := by
  refine ⟨by simpa using I.len, I.sub, fun j t q => ?_, fun j k m n b y c z q1 q2 hj => ?_, fun j m b y q => ?_, I.ent, fun j m b y q => ?_, I.gnew, I.g0, I.mout, I.mux⟩
  · rcases get_set q with ⟨rfl, rfl⟩ | ⟨hj, q⟩
    · exact so
    · have := I.slot j t q
      cases t with
      | no => trivial
      | sh d => obtain ⟨u, eu, ru⟩ := this; rw [List.getElem?_set_ne (Ne.symm hj)] at eu; exact ⟨u, eu, ru⟩
      | own m a d => obtain ⟨eu, ru⟩ := this; exact ⟨owns_unset hj eu, ru⟩
  · rcases get_set q1 with ⟨_, q1⟩ | ⟨_, q1⟩
    · exact absurd q1.symm (hn _ _ _)
    · rcases get_set q2 with ⟨_, q2⟩ | ⟨_, q2⟩
      · exact absurd q2.symm (hn _ _ _)
      · exact I.inj j k m n b y c z q1 q2 hj
  · rcases get_set q with ⟨_, q⟩ | ⟨_, q⟩
    · exact absurd q.symm (hn _ _ _)
    · exact I.out j m b y q
  · rcases get_set q with ⟨_, q⟩ | ⟨_, q⟩
    · exact absurd q.symm (hn _ _ _)
    · exact I.frs j m b y q
theorem wipe_get {σ : L2.St} {v : Nat} : ∀ {vs : List Nat}, v ∉ vs → (L2.wipe σ vs)[v]? = σ[v]?
  | [], _ => rfl
  | u :: vs, h => by
    have h1 : u ≠ v := by rintro rfl; exact h List.mem_cons_self
    show ((L2.wipe σ vs).set u none)[v]? = σ[v]?
    rw [List.getElem?_set_ne h1]
    exact wipe_get fun z => h (List.mem_cons_of_mem _ z)
theorem SR.unwipe {ρ1 : REnv} {G1 H1 : Hp} {σ : L2.St} (I1 : SR Z ρ1 G1 σ H1) {G H : Hp} (le : LE G1 G) : ∀ (vs : List Nat) {ρ : REnv}, SR Z ρ G (L2.wipe σ vs) H → SR Z (restE ρ1 vs ρ) G σ H
  | [], _, I => I
  | v :: vs, ρ, I => by
    unfold restE
    by_cases hv : v ∈ vs
    · rw [if_pos hv]
      exact SR.unwipe I1 le vs (SR.back (x := none) (s := .no) I trivial fun _ _ _ => by simp)
    · rw [if_neg hv]
      refine SR.unwipe I1 le vs (SR.back (x := none) I ?_ ?_)
      · unfold keepS
        cases hs : ρ1[v]? with
        | none => exact trivial
        | some s =>
          cases s with
          | no => exact trivial
          | own m a d => exact trivial
          | sh d =>
            obtain ⟨u, eu, ru⟩ := I1.slot v _ hs
            exact ⟨u, by rw [wipe_get hv]; exact eu, ru.mono le⟩
      · intro m a d
        unfold keepS
        split <;> simp

def tYesW : TW := fun _ ρ K => K true ρ
theorem dts_nil {X : Cx} {Z : Zone} : PTs X [] (Tt Z tYesW) := ⟨fun pins s σ H Q I ⟨ρ, G, K, IR, hw, q⟩ => pts_nil.run pins s σ H Q I (q true ρ H G (LE.refl G) IR hw)⟩
theorem dts_one {X : Cx} {Z : Zone} {c : Expr} {t : TW} (h : PT X c (Tt Z t)) : PTs X [c] (Tt Z t) := pts_one h
/-- [elt for tg in iter if t] -/
def eComp (iw : IW) (g : GW) (t : TW) (we : EW) (vs : List Nat) : EW := fun xk ρ K => iw xk ρ fun n f st ρ1 => ∃ W : Nat → List D → REnv → Prop, W 0 [] (wipeE ρ1 vs) ∧ (∀ i acc ρ, i ≤ n → W i acc ρ → st ρ) ∧
  (∀ i d acc ρ, i < n → f i d → W i acc ρ → g d ρ fun ρ2 => t xk0 ρ2 fun c ρ3 => (c = true → we xk0 ρ3 fun r ρ4 => stl r ρ4 fun e ρ5 => acc.length < sizeLine ∧ W (i + 1) (acc ++ [e]) (wipeE ρ5 vs)) ∧ (c = false → W (i + 1) acc (wipeE ρ3 vs))) ∧
  ∀ acc ρ, W n acc ρ → ∀ a, K (.fr a (.lst acc)) (restE ρ1 vs ρ)

theorem wipe_set {σ : L2.St} {i : Nat} {x : Option V} : ∀ {vs : List Nat}, i ∈ vs → L2.wipe (σ.set i x) vs = L2.wipe σ vs
  | [], h => by simp at h
  | u :: vs, h => by
    show (L2.wipe (σ.set i x) vs).set u none = (L2.wipe σ vs).set u none
    by_cases hi : i ∈ vs
    · rw [wipe_set hi]
    · have : i = u := (List.mem_cons.mp h).resolve_right hi
      subst this
      have sw : ∀ {ws : List Nat}, i ∉ ws → L2.wipe (σ.set i x) ws = (L2.wipe σ ws).set i x := by
        intro ws
        induction ws with
        | nil => intro _; rfl
        | cons w ws ih =>
          intro hw
          show (L2.wipe (σ.set i x) ws).set w none = ((L2.wipe σ ws).set w none).set i x
          rw [ih fun z => hw (List.mem_cons_of_mem _ z)]
          exact List.set_comm _ _ (by rintro rfl; exact hw List.mem_cons_self)
      rw [sw hi, List.set_set]
theorem wipe_wipe {σ : L2.St} : ∀ {vs : List Nat}, L2.wipe (L2.wipe σ vs) vs = L2.wipe σ vs := by
  intro vs
  have : ∀ ws, (∀ i ∈ ws, i ∈ vs) → L2.wipe (L2.wipe σ ws) vs = L2.wipe σ vs := by
    intro ws
    induction ws with
    | nil => intro _; rfl
    | cons w ws ih =>
      intro h
      show L2.wipe ((L2.wipe σ ws).set w none) vs = _
      rw [wipe_set (h w List.mem_cons_self)]
      exact ih fun i hi => h i (List.mem_cons_of_mem _ hi)
  exact this vs fun _ h => h
/-- a target within a comprehension: only the comprehension's own slots vs are stored -/
def Tgc (Z : Zone) (vs : List Nat) (g : GW) : TG := fun v σ H Q => ∃ D o ρ G d K, SR (Z.ext D o) ρ G σ H ∧ Rep Z.cc G v d ∧ g d ρ K ∧ ∀ ρ' σ' G', LE G G' → SR (Z.ext D o) ρ' G' σ' H → L2.wipe σ' vs = L2.wipe σ vs → K ρ' → Q σ' H
def Tgcs (Z : Zone) (vs : List Nat) (g : GWs) : TGs := fun us σ H Q => ∃ D o ρ G ds K, SR (Z.ext D o) ρ G σ H ∧ Reps Z.cc G us ds ∧ g ds ρ K ∧ ∀ ρ' σ' G', LE G G' → SR (Z.ext D o) ρ' G' σ' H → L2.wipe σ' vs = L2.wipe σ vs → K ρ' → Q σ' H
theorem dgc_name {X : Cx} {Z : Zone} {pos : Pos} {i : Nat} {x : Str} {vs : List Nat} (hN : X.N.Nodup) (hm : i ∈ vs := by decide) (hi : X.N[i]? = some x := by rfl) (hx : Loc X.env.scope x := by first | exact Or.inl rfl | exact Or.inr rfl) (hf : X.fn x = true ∨ X.env.scope.names.lookup x = some .local := by first | exact .inl rfl | exact .inr rfl | assumption) : PG X (.Name x pos) (Tgc Z vs (gN i)) :=
  ⟨fun pins s σ H v u Q I r ⟨D, o, ρ, G, d, K, IR, rp, k, q⟩ => (pg_name hN hi hx hf).run pins s σ H v u Q I r (q _ _ G (LE.refl G) (IR.put (lt_len I hi) rp) (wipe_set hm) k)⟩
theorem dgcs_nil {X : Cx} {Z : Zone} {vs : List Nat} : PGs X [] (Tgcs Z vs gNl) := ⟨fun pins s σ H us vv Q I r ⟨D, o, ρ, G, ds, K, IR, rp, k, q⟩ => pgs_nil.run pins s σ H us vv Q I r (by
  obtain ⟨e, k⟩ := k
  subst e
  exact ⟨rp.inv_nil, q ρ σ G (LE.refl G) IR rfl k⟩)⟩
theorem dgcs_cons {X : Cx} {Z : Zone} {vs : List Nat} {e : Expr} {es : List Expr} {g : GW} {gs : GWs} (h1 : PG X e (Tgc Z vs g)) (h2 : PGs X es (Tgcs Z vs gs))
    (hs : (assignEach (e :: es) X.env).map (·.2) = assign e X.env :: (assignEach es X.env).map (·.2) := by rfl) : PGs X (e :: es) (Tgcs Z vs (gCn g gs)) :=
  ⟨fun pins s σ H us uu Q I r ⟨D, o, ρ, G, ds, K, IR, rp, k, q⟩ => (pgs_cons h1 h2 hs).run pins s σ H us uu Q I r (by
    match ds, k with
    | d :: dr, k =>
      obtain ⟨v, vr, rfl, rv, rs⟩ := rp.inv_cons
      exact ⟨v, vr, rfl, D, o, ρ, G, d, _, IR, rv, k, fun ρ' σ' G' le I' w1 k' => ⟨D, o, ρ', G', dr, K, I', rs.mono le, k', fun ρ2 σ2 G2 le2 I2 w2 k2 => q ρ2 σ2 G2 (le.trans le2) I2 (w2.trans w1) k2⟩⟩)⟩
theorem dgc_tup {X : Cx} {Z : Zone} {pos : Pos} {vs : List Nat} {es : List Expr} {k : Nat} {gs : GWs} {n : Nat} (hc : X.calm = true) (h : PGs X es (Tgcs Z vs gs))
    (hn : (assignEach es X.env).length = n := by rfl) (hst : (assignEach es X.env).findIdx? (·.1) = none := by rfl) : PG X (.Tuple es k pos) (Tgc Z vs (gTp n gs)) :=
  ⟨fun pins s σ H v u Q I r ⟨D, o, ρ, G, d, K, IR, rp, k, q⟩ => (pg_tup (n := n) hc h hn hst).run pins s σ H v u Q I r (by
    cases d <;> try exact (k : False).elim
    rename_i ds
    unfold Rep at rp
    obtain ⟨a, us, e, ga, rs⟩ := rp
    exact ⟨a, us, e, SqT.of (IR.sub _ _ ga), by rw [rs.length]; exact k.1, D, o, ρ, G, ds, K, IR, rs, k.2, q⟩)⟩
def TX (Z : Zone) (w : EW) : TE := fun σ H Q => ∃ D o, T (Z.ext D o) w σ H Q
def TtX (Z : Zone) (w : TW) : TT := fun σ H Q => ∃ D o, Tt (Z.ext D o) w σ H Q
/-- another object, that no slot and no known part speaks of, is changed -/
theorem SR.other {Z : Zone} {ρ : REnv} {G H : Hp} {σ : L2.St} {p : Addr} {o : HO} (I : SR Z ρ G σ H) (gp : G p = none) (ow : ∀ (i : Nat) (m : Bool) (b : Addr) (e : D), ρ[i]? = some (.own m b e) → b ≠ p) (h0 : Z.H0 p = none) (hm : p ∉ Z.mu) : SR Z ρ G σ (upd H p o) := by
  refine ⟨I.len, fun a u e => ?_, fun i s e => ?_, I.inj, I.out, fun a u e hn => ?_, I.frs, I.gnew, I.g0, I.mout, fun a ha => ?_⟩
  · rw [upd_ne (ne_of_none e gp)]; exact I.sub a u e
  · have q := I.slot i s e
    cases s with
    | no => trivial
    | sh d => exact q
    | own m a d => exact ⟨q.1, q.2.heap fun u hu => by rw [upd_ne (ow i m a d e)]; exact hu⟩
  · rw [upd_ne (ne_of_none e h0)]; exact I.ent a u e hn
  · have : a ≠ p := fun h => hm (h ▸ ha)
    rw [upd_ne this]; exact I.mux a ha
theorem restE_own {ρ1 : REnv} : ∀ {vs : List Nat} {ρ : REnv} {i : Nat} {m : Bool} {b : Addr} {e : D}, (restE ρ1 vs ρ)[i]? = some (.own m b e) → ρ[i]? = some (.own m b e)
  | [], _, _, _, _, _, h => h
  | v :: vs, ρ, i, m, b, e, h => by
    unfold restE at h
    have h := restE_own h
    rcases get_set h with ⟨_, h⟩ | ⟨_, h⟩
    · exfalso
      revert h
      split
      · intro h; cases h
      · unfold keepS
        split <;> (intro h; cases h)
    · exact h
theorem wipeE_own : ∀ {vs : List Nat} {ρ : REnv} {i : Nat} {m : Bool} {b : Addr} {e : D}, (wipeE ρ vs)[i]? = some (.own m b e) → ρ[i]? = some (.own m b e)
  | [], _, _, _, _, _, h => h
  | v :: vs, ρ, i, m, b, e, h => by
    unfold wipeE at h
    rcases get_set h with ⟨_, h⟩ | ⟨_, h⟩
    · cases h
    · exact wipeE_own h

theorem T.comp {Z : Zone} {iw : IW} {g : GW} {t : TW} {we : EW} {vs : List Nat} {σ : L2.St} {H : Hp} {Q : VK}
    (h : T Z (eComp iw g t we vs) σ H Q) : tLc (Ti Z iw) (Tgc Z vs g) (TtX Z t) (TX Z we) vs σ H Q := by
  obtain ⟨ρ, G, K, IR, hw, q⟩ := h
  refine ⟨ρ, G, _, IR, hw, fun n f st ρ1 H1 G1 J le1 I1 io ⟨W, w0, stb, turn, fin⟩ Dd hD => ?_⟩
  obtain ⟨h0, hm⟩ := I1.h0 hD
  have gD1 := I1.g hD
  have g0 : Z.G0 Dd = none := by
    cases e : Z.G0 Dd with
    | none => rfl
    | some u => have := I1.g0 _ _ e; rw [gD1] at this; cases this
  refine ⟨fun i m H' => m = n - i ∧ i ≤ n ∧ ∃ acc ρ' G' va, LE G1 G' ∧ SR Z ρ' G' (L2.wipe σ vs) H' ∧ H' Dd = some (.lst va) ∧ Reps Z.cc G' va acc ∧ G' Dd = none ∧ (∀ (i : Nat) (m : Bool) (b : Addr) (e : D), ρ'[i]? = some (.own m b e) → b ≠ Dd) ∧ W i acc ρ',
    ⟨n, by simp, Nat.zero_le _, [], wipeE ρ1 vs, G1, [], LE.refl G1, (I1.newH hD).wipe vs, upd_same, Reps.nil, gD1, fun i m b e h => I1.own_ne (wipeE_own h) hD, w0⟩, ?_⟩
  rintro i m H' ⟨rfl, hin, acc, ρ', G', va, le', I', hDl, rs, gD, ow, w'⟩
  have Ix := I'.ext hDl gD ow hm
  obtain ⟨s1, s2⟩ := io _ _ i ρ' G' (L2.wipe σ vs) H' le' Ix (stb i acc ρ' hin w')
  by_cases hlt : i < n
  · obtain ⟨go, yl⟩ := s2 hlt
    refine .inr ⟨go, fun H2 => ∃ acc ρ' G' va, LE G1 G' ∧ SR Z ρ' G' (L2.wipe σ vs) H2 ∧ H2 Dd = some (.lst va) ∧ Reps Z.cc G' va acc ∧ G' Dd = none ∧ (∀ (i : Nat) (m : Bool) (b : Addr) (e : D), ρ'[i]? = some (.own m b e) → b ≠ Dd) ∧ W (i + 1) acc ρ',
      fun H2 h => ⟨n - (i + 1), by omega, rfl, hlt, h⟩, fun x H2 y => ?_⟩
    obtain ⟨d, G2, fd, le2, I2, rp⟩ := yl x H2 y
    refine ⟨Dd, .lst va, ρ', G2, d, _, I2, rp, turn i d acc ρ' hlt fd w', fun ρ3 σ3 G3 le3 I3 hw3 k3 => ?_⟩
    rw [wipe_wipe] at hw3
    refine ⟨hw3, Dd, .lst va, ρ3, G3, _, I3, k3, fun c ρ4 H4 G4 le4 I4 k4 => ?_⟩
    have l4 := ((le'.trans le2).trans le3).trans le4
    cases c with
    | true =>
      refine iteT ?_
      refine ⟨Dd, .lst va, ρ4, G4, _, I4, k4.1 rfl, fun r ρ5 yv H5 G5 le5 I5 q5 k5 => ?_⟩
      obtain ⟨e, ρ6, G6, le6, I6, rpe, ⟨hl, k6⟩, _⟩ := I5.settle q5 k5
      obtain ⟨J6, hD6, gD6, ow6⟩ := I6.unext h0 g0 hm
      refine ⟨va, hD6, by rw [rs.length]; exact hl, acc ++ [e], wipeE ρ6 vs, G6, va ++ [yv], (l4.trans le5).trans le6, ?_, upd_same, ?_, gD6, fun i m b e h => ow6 i m b e (wipeE_own h), k6⟩
      · have := J6.wipe vs
        rw [hw3] at this
        exact this.other gD6 (fun i m b e h => ow6 i m b e (wipeE_own h)) h0 hm
      · exact (rs.mono ((((le2.trans le3).trans le4).trans le5).trans le6)).append (Reps.cons rpe Reps.nil)
    | false =>
      refine iteF ?_
      obtain ⟨J4, hD4, gD4, ow4⟩ := I4.unext h0 g0 hm
      refine ⟨acc, wipeE ρ4 vs, G4, va, l4, ?_, hD4, rs.mono ((le2.trans le3).trans le4), gD4, fun i m b e h => ow4 i m b e (wipeE_own h), k4.2 rfl⟩
      have := J4.wipe vs
      rw [hw3] at this
      exact this
  · have e : i = n := by omega
    subst e
    refine .inl ⟨s1 (Nat.le_refl _), q (.fr Dd (.lst acc)) (restE ρ1 vs ρ') _ H' G' (le1.trans le') (I1.unwipe le' vs I') ?_ (fin acc ρ' w' Dd)⟩
    exact ⟨rfl, ⟨va, hDl, rs⟩, gD, fun i m b e h => ow i m b e (restE_own h), h0, hm⟩
end
section
variable {X : Cx} {Z : Zone}
theorem de_comp {elt tg iter : Expr} {ifs : List Expr} {scope : Scope} {own : List (Str × Nat)} {pos : Pos} {iw : IW} {g : GW} {t : TW} {we : EW} (hc : X.calm = true) (hN : X.N.Nodup) (hi : PI X tg iter (Ti Z iw)) (ok : BlkOk X.N X.env.scope scope own)
    (hg : ∀ (s : Shared) (H : Hp) (C : Addr) (cl : List (Str × Addr)) (fp : List Addr), PG (X.blk s H scope (compEnvC scope cl C X.env) fp) tg (Tgc Z (own.map (·.2)) g))
    (ht : ∀ (D : Addr) (o : HO) (s : Shared) (H : Hp) (C : Addr) (cl : List (Str × Addr)) (fp : List Addr), PTs (X.blk s H scope (compEnvC scope cl C X.env) fp) ifs (Tt (Z.ext D o) t))
    (he : ∀ (D : Addr) (o : HO) (s : Shared) (H : Hp) (C : Addr) (cl : List (Str × Addr)) (fp : List Addr), PE (X.blk s H scope (compEnvC scope cl C X.env) fp) elt (T (Z.ext D o) we)) (hs : ∀ x, foldedSetIterable iter X.env x = pure x := by intro _; rfl) :
    PE X (.ListComp elt [⟨tg, iter, ifs, 0⟩] scope pos) (T Z (eComp iw g t we (own.map (·.2)))) :=
  ⟨fun pins s σ H Q I h => (pe_lc hc hN hi ok hg (tt := TtX Z t) (te := TX Z we)
    (fun s H C cl fp => ⟨fun pins s' σ H Q I ⟨D, o, h⟩ => (ht D o s _ C cl fp).run pins s' σ H Q I h⟩) (fun s H C cl fp => ⟨fun pins s' σ H Q I ⟨D, o, h⟩ => (he D o s _ C cl fp).run pins s' σ H Q I h⟩) hs).run pins s σ H Q I (T.comp h)⟩
/-- x = [..] on one line -/
theorem ds_setLc {i : Nat} {y : Str} {py : Pos} {elt tg iter : Expr} {ifs : List Expr} {scope : Scope} {own : List (Str × Nat)} {pos spos : Pos} {iw : IW} {g : GW} {t : TW} {we : EW} (hc : X.calm = true) (hN : X.N.Nodup) 
    (hi : PI X tg iter (Ti Z iw)) (ok : BlkOk X.N X.env.scope scope own)
    (hg : ∀ (s : Shared) (H : Hp) (C : Addr) (cl : List (Str × Addr)) (fp : List Addr), PG (X.blk s H scope (compEnvC scope cl C X.env) fp) tg (Tgc Z (own.map (·.2)) g))
    (ht : ∀ (D : Addr) (o : HO) (s : Shared) (H : Hp) (C : Addr) (cl : List (Str × Addr)) (fp : List Addr), PTs (X.blk s H scope (compEnvC scope cl C X.env) fp) ifs (Tt (Z.ext D o) t))
    (he : ∀ (D : Addr) (o : HO) (s : Shared) (H : Hp) (C : Addr) (cl : List (Str × Addr)) (fp : List Addr), PE (X.blk s H scope (compEnvC scope cl C X.env) fp) elt (T (Z.ext D o) we))
    (hsw : swapsWith (.ListComp elt [⟨tg, iter, ifs, 0⟩] scope pos) (some (.Name y py)) spos.line X.env = pure true)
    (hy : X.N[i]? = some y := by rfl) (hyl : X.env.scope.names.lookup y = some .local := by rfl) (hs : ∀ x, foldedSetIterable iter X.env x = pure x := by intro _; rfl) :
    PS X (.Assign [.Name y py] (.ListComp elt [⟨tg, iter, ifs, 0⟩] scope pos) spos) (Ts Z (sSet i (eComp iw g t we (own.map (·.2))))) :=
  ⟨fun pins s σ H D I ⟨ρ, G, K, IR, hw, l⟩ => (ps_setLc hc hN hy hyl hsw hi ok hg (tt := TtX Z t) (te := TX Z we)
    (fun s H C cl fp => ⟨fun pins s' σ H Q I ⟨D, o, h⟩ => (ht D o s _ C cl fp).run pins s' σ H Q I h⟩) (fun s H C cl fp => ⟨fun pins s' σ H Q I ⟨D, o, h⟩ => (he D o s _ C cl fp).run pins s' σ H Q I h⟩) hs).run pins s σ H D I
    (T.comp ⟨ρ, G, _, IR, hw, fun r ρ' v H' G' le I' q k => by
      obtain ⟨ρ2, G2, le2, I2, k2⟩ := I'.place (lt_len I hy) q k
      exact l.nx ρ2 _ H' G2 (le.trans le2) I2 k2⟩)⟩
end
end TL

namespace TL
open PySem PySem.Spec L2

/-! ### a def's promise over trees -/
inductive Arg where
  | ro (d : D) | mu (d : D) | gh (b : Addr) (d : D)
abbrev FSpec := List Arg → (Ro → List D → Prop) → (Nat → D → Prop) → Prop
def ArgsOk (cc : CC) (G0 H : Hp) : List V → List Arg → List Addr → Prop
  | [], [], [] => True
  | v :: vs, .ro d :: r, mus => Rep cc G0 v d ∧ ArgsOk cc G0 H vs r mus
  | v :: vs, .mu d :: r, a :: mus => v = .ref a ∧ G0 a = none ∧ Root cc G0 H a d ∧ a ∉ mus ∧ ArgsOk cc G0 H vs r mus
  | vs, .gh b d :: r, a :: mus => b = a ∧ G0 a = none ∧ Root cc G0 H a d ∧ a ∉ mus ∧ ArgsOk cc G0 H vs r mus
  | _, _, _ => False
def MusOk (cc : CC) (G H : Hp) : List Addr → List D → Prop
  | [], [] => True
  | a :: mus, d :: ds => Root cc G H a d ∧ G a = none ∧ MusOk cc G H mus ds
  | _, _ => False
def ResOk (cc : CC) (G H H' : Hp) (v : V) : Ro → Prop
  | .sh d => Rep cc G v d
  | .fr d => ∃ a, v = .ref a ∧ Root cc G H' a d ∧ G a = none ∧ H a = none
  | .gx as cs t => as.Nodup ∧ as.length = cs.length ∧ Rep cc G v t ∧ ∀ (i : Nat) (a : Addr) (d : D), as[i]? = some a → cs[i]? = some d → Root cc G H' a d ∧ G a = none ∧ H a = none
/-- the classes: of objects, of errors -/
structure Ccs where
  cc : CC
  xc : Nat → Addr
/-- .. of a def that raises nothing -/
def LSp0 (C : Ccs) (sp : FSpec) (np : Nat) : Sp := fun vs H Q _ => vs.length = np ∧ ∃ args G0 mus kr, LE G0 H ∧ ArgsOk C.cc G0 H vs args mus ∧ sp args kr (fun _ _ => False) ∧
  (∀ o ds v H' G', LE G0 G' → LE G' H' → (∀ a u, H a = some u → a ∉ mus → H' a = some u) → (∀ a, G' a ≠ none → G0 a ≠ none ∨ H a = none) → MusOk C.cc G' H' mus ds → ResOk C.cc G' H H' v o → kr o ds → Q v H')

def slotsOf : List Arg → List Addr → REnv
  | [], _ => []
  | .ro d :: r, mus => .sh d :: slotsOf r mus
  | .mu d :: r, a :: mus => .own true a d :: slotsOf r mus
  | .mu _ :: r, [] => .no :: slotsOf r []
  | .gh _ _ :: r, _ :: mus => slotsOf r mus
  | .gh _ _ :: r, [] => slotsOf r []
/-- the ghosts that are handed in to be changed -/
def ghOf : List Arg → List Addr → REnv
  | [], _ => []
  | .ro _ :: r, mus => ghOf r mus
  | .mu _ :: r, _ :: mus => ghOf r mus
  | .mu _ :: r, [] => ghOf r []
  | .gh _ d :: r, a :: mus => .own true a d :: ghOf r mus
  | .gh _ _ :: r, [] => ghOf r []
def valN : List Arg → Nat
  | [] => 0
  | .ro _ :: r => valN r + 1
  | .mu _ :: r => valN r + 1
  | .gh _ _ :: r => valN r
def envOf (args : List Arg) (mus : List Addr) (n : Nat) : REnv := slotsOf args mus ++ (List.replicate (n - valN args) .no ++ ghOf args mus)
/-- the arguments that may be changed, at the end -/
def exMu : List Arg → List Addr → REnv → (List D → Prop) → Prop
  | [], [], _, k => k []
  | .ro _ :: r, mus, _ :: ρ, k => exMu r mus ρ k
  | .mu _ :: r, a :: mus, s :: ρ, k => match s with
    | .own true b d => b = a ∧ exMu r mus ρ fun ds => k (d :: ds)
    | _ => False
  | .gh _ _ :: r, a :: mus, ρ, k => ∃ d, .own true a d ∈ ρ ∧ exMu r mus ρ fun ds => k (d :: ds)
  | _, _, _, _ => False
def resK (r : Rv) (ρ : REnv) (k : Ro → Prop) : Prop := match r with
  | .loc i => match ρ[i]? with
    | some (.sh d) => k (.sh d)
    | some (.own false _ d) => k (.fr d)
    | _ => False
  | .sh d => k (.sh d)
  | .fr _ d => k (.fr d)
  | .gh j _ => match ρ[j]? with
    | some (.own false _ d) => k (.fr d)
    | _ => False
  | .gx as cs t => k (.gx as cs t)
def endK (args : List Arg) (mus : List Addr) (kr : Ro → List D → Prop) (r : Rv) (ρ : REnv) : Prop := resK r ρ fun o => exMu args mus ρ fun ds => kr o ds
def muN : List Arg → Nat
  | [] => 0
  | .ro _ :: r => muN r
  | .mu _ :: r => muN r + 1
  | .gh _ _ :: r => muN r + 1
/-- the body b keeps the promise sp, with n names -/
def Sat (n : Nat) (sp : FSpec) (b : SW) : Prop := ∀ (args : List Arg) (mus : List Addr) (kr : Ro → List D → Prop) (kx : Nat → D → Prop), mus.length = muN args → sp args kr kx →
  b (fun c d _ => kx c d) (envOf args mus n) { nx := endK args mus kr (.sh .non), rt := endK args mus kr }

theorem ArgsOk.muN {cc : CC} {G0 H : Hp} : ∀ {vs : List V} {args : List Arg} {mus : List Addr}, ArgsOk cc G0 H vs args mus → mus.length = TL.muN args
  | [], [], [], _ => rfl
  | v :: vs, .ro d :: r, mus, h => ArgsOk.muN (args := r) h.2
  | v :: vs, .mu d :: r, a :: mus, h => by simp [TL.muN, ArgsOk.muN (args := r) h.2.2.2.2]
  | [], .gh b d :: r, a :: mus, h => by simp [TL.muN, ArgsOk.muN (args := r) h.2.2.2.2]
  | v :: vs, .gh b d :: r, a :: mus, h => by simp [TL.muN, ArgsOk.muN (args := r) h.2.2.2.2]
  | [], .gh _ _ :: _, [], h => by unfold ArgsOk at h; exact h.elim
  | _ :: _, .gh _ _ :: _, [], h => by unfold ArgsOk at h; exact h.elim
  | [], [], _ :: _, h => h.elim
  | [], .ro _ :: _, _, h => by unfold ArgsOk at h; exact h.elim
  | [], .mu _ :: _, _, h => by unfold ArgsOk at h; exact h.elim
  | _ :: _, [], _, h => by unfold ArgsOk at h; exact h.elim
  | _ :: _, .mu _ :: _, [], h => by unfold ArgsOk at h; exact h.elim
theorem slots_len : ∀ (args : List Arg) (mus : List Addr), (slotsOf args mus).length = valN args
  | [], _ => rfl
  | .ro d :: r, mus => by simp [slotsOf, valN, slots_len r mus]
  | .mu d :: r, a :: mus => by simp [slotsOf, valN, slots_len r mus]
  | .mu d :: r, [] => by simp [slotsOf, valN, slots_len r []]
  | .gh b d :: r, a :: mus => by simp [slotsOf, valN, slots_len r mus]
  | .gh b d :: r, [] => by simp [slotsOf, valN, slots_len r []]
theorem ArgsOk.len {cc : CC} {G0 H : Hp} : ∀ {vs : List V} {args : List Arg} {mus : List Addr}, ArgsOk cc G0 H vs args mus → vs.length = valN args
  | [], [], [], _ => rfl
  | v :: vs, .ro d :: r, mus, h => by simp [valN, ArgsOk.len (args := r) h.2]
  | v :: vs, .mu d :: r, a :: mus, h => by simp [valN, ArgsOk.len (args := r) h.2.2.2.2]
  | [], .gh b d :: r, a :: mus, h => by simp [valN, ← ArgsOk.len (args := r) h.2.2.2.2]
  | v :: vs, .gh b d :: r, a :: mus, h => by simp [valN, ← ArgsOk.len (args := r) h.2.2.2.2]
  | [], .gh _ _ :: _, [], h => by unfold ArgsOk at h; exact h.elim
  | _ :: _, .gh _ _ :: _, [], h => by unfold ArgsOk at h; exact h.elim
  | [], [], _ :: _, h => h.elim
  | [], .ro _ :: _, _, h => by unfold ArgsOk at h; exact h.elim
  | [], .mu _ :: _, _, h => by unfold ArgsOk at h; exact h.elim
  | _ :: _, [], _, h => by unfold ArgsOk at h; exact h.elim
  | _ :: _, .mu _ :: _, [], h => by unfold ArgsOk at h; exact h.elim
theorem ArgsOk.slot {cc : CC} {G0 H : Hp} : ∀ {vs : List V} {args : List Arg} {mus : List Addr}, ArgsOk cc G0 H vs args mus → ∀ (i : Nat) (s : Sl), (slotsOf args mus)[i]? = some s →
    ∃ v, vs[i]? = some v ∧ ((∃ d, s = .sh d ∧ Rep cc G0 v d) ∨ ∃ a d, s = .own true a d ∧ v = .ref a ∧ G0 a = none ∧ Root cc G0 H a d ∧ a ∈ mus)
  | [], [], [], _, i, s, e => by simp [slotsOf] at e
  | v :: vs, .ro d :: r, mus, h, 0, s, e => by
    simp [slotsOf] at e; subst e
    exact ⟨v, rfl, .inl ⟨d, rfl, h.1⟩⟩
  | v :: vs, .ro d :: r, mus, h, i + 1, s, e => by
    simp [slotsOf] at e
    obtain ⟨u, e1, e2⟩ := ArgsOk.slot h.2 i s e
    exact ⟨u, by simpa using e1, e2⟩
  | v :: vs, .mu d :: r, a :: mus, h, 0, s, e => by
    simp [slotsOf] at e; subst e
    exact ⟨v, rfl, .inr ⟨a, d, rfl, h.1, h.2.1, h.2.2.1, List.mem_cons_self⟩⟩
  | v :: vs, .mu d :: r, a :: mus, h, i + 1, s, e => by
    simp [slotsOf] at e
    obtain ⟨u, e1, e2⟩ := ArgsOk.slot h.2.2.2.2 i s e
    refine ⟨u, by simpa using e1, ?_⟩
    rcases e2 with q | ⟨b, x, q1, q2, q3, q4, q5⟩
    · exact .inl q
    · exact .inr ⟨b, x, q1, q2, q3, q4, List.mem_cons_of_mem _ q5⟩
  | [], .gh b d :: r, c :: mus, h, i, s, e => by
    obtain ⟨u, e1, e2⟩ := ArgsOk.slot (args := r) h.2.2.2.2 i s e
    simp at e1
  | v :: vs, .gh b d :: r, c :: mus, h, i, s, e => by
    obtain ⟨u, e1, e2⟩ := ArgsOk.slot (args := r) h.2.2.2.2 i s e
    refine ⟨u, e1, ?_⟩
    rcases e2 with q | ⟨b, x, q1, q2, q3, q4, q5⟩
    · exact .inl q
    · exact .inr ⟨b, x, q1, q2, q3, q4, List.mem_cons_of_mem _ q5⟩
  | [], .gh _ _ :: _, [], h, _, _, _ => by unfold ArgsOk at h; exact h.elim
  | _ :: _, .gh _ _ :: _, [], h, _, _, _ => by unfold ArgsOk at h; exact h.elim
  | [], [], _ :: _, h, _, _, _ => h.elim
  | [], .ro _ :: _, _, h, _, _, _ => by unfold ArgsOk at h; exact h.elim
  | [], .mu _ :: _, _, h, _, _, _ => by unfold ArgsOk at h; exact h.elim
  | _ :: _, [], _, h, _, _, _ => by unfold ArgsOk at h; exact h.elim
  | _ :: _, .mu _ :: _, [], h, _, _, _ => by unfold ArgsOk at h; exact h.elim
theorem ArgsOk.inj {cc : CC} {G0 H : Hp} : ∀ {vs : List V} {args : List Arg} {mus : List Addr}, ArgsOk cc G0 H vs args mus → ∀ (i j : Nat) (p q : Bool) (a : Addr) (d : D) (b : Addr) (e : D), (slotsOf args mus)[i]? = some (.own p a d) → (slotsOf args mus)[j]? = some (.own q b e) → i ≠ j → a ≠ b
  | [], [], [], _, i, j, _, _, _, _, _, _, e, _, _ => by simp [slotsOf] at e
  | v :: vs, .ro d :: r, mus, h, 0, _, _, _, _, _, _, _, e, _, _ => by simp [slotsOf] at e
  | v :: vs, .ro d :: r, mus, h, _ + 1, 0, _, _, _, _, _, _, _, e, _ => by simp [slotsOf] at e
  | v :: vs, .ro d :: r, mus, h, i + 1, j + 1, p, q, a, x, b, y, e1, e2, hn => by
    simp [slotsOf] at e1 e2
    exact ArgsOk.inj h.2 i j p q a x b y e1 e2 (by omega)
  | v :: vs, .mu d :: r, c :: mus, h, 0, 0, _, _, _, _, _, _, _, _, hn => absurd rfl hn
  | v :: vs, .mu d :: r, c :: mus, h, 0, j + 1, p, q, a, x, b, y, e1, e2, _ => by
    simp [slotsOf] at e1 e2
    obtain ⟨u, _, hq⟩ := ArgsOk.slot h.2.2.2.2 j _ e2
    rcases hq with ⟨_, hq, _⟩ | ⟨_, _, hq, _, _, _, hm⟩
    · cases hq
    · cases hq
      rintro rfl
      exact h.2.2.2.1 (e1.2.1 ▸ hm)
  | v :: vs, .mu d :: r, c :: mus, h, i + 1, 0, p, q, a, x, b, y, e1, e2, _ => by
    simp [slotsOf] at e1 e2
    obtain ⟨u, _, hq⟩ := ArgsOk.slot h.2.2.2.2 i _ e1
    rcases hq with ⟨_, hq, _⟩ | ⟨_, _, hq, _, _, _, hm⟩
    · cases hq
    · cases hq
      rintro rfl
      exact h.2.2.2.1 (e2.2.1 ▸ hm)
  | v :: vs, .mu d :: r, c :: mus, h, i + 1, j + 1, p, q, a, x, b, y, e1, e2, hn => by
    simp [slotsOf] at e1 e2
    exact ArgsOk.inj h.2.2.2.2 i j p q a x b y e1 e2 (by omega)
  | [], .gh _ _ :: r, c :: mus, h, i, j, p, q, a, x, b, y, e1, e2, hn => ArgsOk.inj (args := r) h.2.2.2.2 i j p q a x b y e1 e2 hn
  | v :: vs, .gh _ _ :: r, c :: mus, h, i, j, p, q, a, x, b, y, e1, e2, hn => ArgsOk.inj (args := r) h.2.2.2.2 i j p q a x b y e1 e2 hn
  | [], .gh _ _ :: _, [], h, _, _, _, _, _, _, _, _, _, _, _ => by unfold ArgsOk at h; exact h.elim
  | _ :: _, .gh _ _ :: _, [], h, _, _, _, _, _, _, _, _, _, _, _ => by unfold ArgsOk at h; exact h.elim
  | [], [], _ :: _, h, _, _, _, _, _, _, _, _, _, _, _ => h.elim
  | [], .ro _ :: _, _, h, _, _, _, _, _, _, _, _, _, _, _ => by unfold ArgsOk at h; exact h.elim
  | [], .mu _ :: _, _, h, _, _, _, _, _, _, _, _, _, _, _ => by unfold ArgsOk at h; exact h.elim
  | _ :: _, [], _, h, _, _, _, _, _, _, _, _, _, _, _ => by unfold ArgsOk at h; exact h.elim
  | _ :: _, .mu _ :: _, [], h, _, _, _, _, _, _, _, _, _, _, _ => by unfold ArgsOk at h; exact h.elim
theorem ArgsOk.mus {cc : CC} {G0 H : Hp} : ∀ {vs : List V} {args : List Arg} {mus : List Addr}, ArgsOk cc G0 H vs args mus → ∀ a ∈ mus, G0 a = none ∧ H a ≠ none
  | [], [], [], _, a, h => by simp at h
  | v :: vs, .ro d :: r, mus, h, a, hm => ArgsOk.mus h.2 a hm
  | v :: vs, .mu d :: r, c :: mus, h, a, hm => by
    rcases List.mem_cons.mp hm with rfl | hm
    · obtain ⟨o, e, _⟩ := h.2.2.1.ob
      exact ⟨h.2.1, by rw [e]; simp⟩
    · exact ArgsOk.mus h.2.2.2.2 a hm
  | [], .gh b d :: r, c :: mus, h, a, hm => by
    rcases List.mem_cons.mp hm with rfl | hm
    · obtain ⟨o, e, _⟩ := h.2.2.1.ob
      exact ⟨h.2.1, by rw [e]; simp⟩
    · exact ArgsOk.mus (args := r) h.2.2.2.2 a hm
  | v :: vs, .gh b d :: r, c :: mus, h, a, hm => by
    rcases List.mem_cons.mp hm with rfl | hm
    · obtain ⟨o, e, _⟩ := h.2.2.1.ob
      exact ⟨h.2.1, by rw [e]; simp⟩
    · exact ArgsOk.mus (args := r) h.2.2.2.2 a hm
  | [], .gh _ _ :: _, [], h, _, _ => by unfold ArgsOk at h; exact h.elim
  | _ :: _, .gh _ _ :: _, [], h, _, _ => by unfold ArgsOk at h; exact h.elim
  | [], [], _ :: _, h, _, _ => h.elim
  | [], .ro _ :: _, _, h, _, _ => by unfold ArgsOk at h; exact h.elim
  | [], .mu _ :: _, _, h, _, _ => by unfold ArgsOk at h; exact h.elim
  | _ :: _, [], _, h, _, _ => by unfold ArgsOk at h; exact h.elim
  | _ :: _, .mu _ :: _, [], h, _, _ => by unfold ArgsOk at h; exact h.elim
theorem ArgsOk.gho {cc : CC} {G0 H : Hp} : ∀ {vs : List V} {args : List Arg} {mus : List Addr}, ArgsOk cc G0 H vs args mus → ∀ (i : Nat) (s : Sl), (ghOf args mus)[i]? = some s →
    ∃ a d, s = .own true a d ∧ G0 a = none ∧ Root cc G0 H a d ∧ a ∈ mus
  | [], [], [], _, i, s, e => by simp [ghOf] at e
  | v :: vs, .ro d :: r, mus, h, i, s, e => ArgsOk.gho (args := r) h.2 i s e
  | v :: vs, .mu d :: r, a :: mus, h, i, s, e => by
    obtain ⟨b, x, q1, q2, q3, q4⟩ := ArgsOk.gho (args := r) h.2.2.2.2 i s e
    exact ⟨b, x, q1, q2, q3, List.mem_cons_of_mem _ q4⟩
  | [], .gh b d :: r, a :: mus, h, 0, s, e => by
    simp [ghOf] at e; subst e
    exact ⟨a, d, rfl, h.2.1, h.2.2.1, List.mem_cons_self⟩
  | v :: vs, .gh b d :: r, a :: mus, h, 0, s, e => by
    simp [ghOf] at e; subst e
    exact ⟨a, d, rfl, h.2.1, h.2.2.1, List.mem_cons_self⟩
  | [], .gh b d :: r, a :: mus, h, i + 1, s, e => by
    obtain ⟨b, x, q1, q2, q3, q4⟩ := ArgsOk.gho (args := r) h.2.2.2.2 i s (by simpa [ghOf] using e)
    exact ⟨b, x, q1, q2, q3, List.mem_cons_of_mem _ q4⟩
  | v :: vs, .gh b d :: r, a :: mus, h, i + 1, s, e => by
    obtain ⟨b, x, q1, q2, q3, q4⟩ := ArgsOk.gho (args := r) h.2.2.2.2 i s (by simpa [ghOf] using e)
    exact ⟨b, x, q1, q2, q3, List.mem_cons_of_mem _ q4⟩
  | [], .gh _ _ :: _, [], h, _, _, _ => by unfold ArgsOk at h; exact h.elim
  | _ :: _, .gh _ _ :: _, [], h, _, _, _ => by unfold ArgsOk at h; exact h.elim
  | [], [], _ :: _, h, _, _, _ => h.elim
  | [], .ro _ :: _, _, h, _, _, _ => by unfold ArgsOk at h; exact h.elim
  | [], .mu _ :: _, _, h, _, _, _ => by unfold ArgsOk at h; exact h.elim
  | _ :: _, [], _, h, _, _, _ => by unfold ArgsOk at h; exact h.elim
  | _ :: _, .mu _ :: _, [], h, _, _, _ => by unfold ArgsOk at h; exact h.elim
theorem ArgsOk.gh_inj {cc : CC} {G0 H : Hp} : ∀ {vs : List V} {args : List Arg} {mus : List Addr}, ArgsOk cc G0 H vs args mus → ∀ (i j : Nat) (p q : Bool) (a : Addr) (d : D) (b : Addr) (e : D), (ghOf args mus)[i]? = some (.own p a d) → (ghOf args mus)[j]? = some (.own q b e) → i ≠ j → a ≠ b
  | [], [], [], _, i, j, _, _, _, _, _, _, e, _, _ => by simp [ghOf] at e
  | v :: vs, .ro d :: r, mus, h, i, j, p, q, a, x, b, y, e1, e2, hn => ArgsOk.gh_inj (args := r) h.2 i j p q a x b y e1 e2 hn
  | v :: vs, .mu d :: r, c :: mus, h, i, j, p, q, a, x, b, y, e1, e2, hn => ArgsOk.gh_inj (args := r) h.2.2.2.2 i j p q a x b y e1 e2 hn
  | vs, .gh z d :: r, c :: mus, h, i, j, p, q, a, x, b, y, e1, e2, hn => by
    have h' : c ∉ mus ∧ ArgsOk cc G0 H vs r mus := by cases vs <;> exact h.2.2.2
    have tl : ∀ {k : Nat} {m : Bool} {t : Addr} {u : D}, (ghOf r mus)[k]? = some (.own m t u) → t ∈ mus := fun {k m t u} e => by
      obtain ⟨_, _, q1, _, _, q4⟩ := h'.2.gho k _ e
      cases q1; exact q4
    cases i with
    | zero =>
      cases j with
      | zero => exact absurd rfl hn
      | succ j =>
        simp [ghOf] at e1 e2
        rintro rfl
        exact h'.1 (e1.2.1 ▸ tl e2)
    | succ i =>
      cases j with
      | zero =>
        simp [ghOf] at e1 e2
        rintro rfl
        exact h'.1 (e2.2.1 ▸ tl e1)
      | succ j =>
        simp [ghOf] at e1 e2
        exact ArgsOk.gh_inj (args := r) h'.2 i j p q a x b y e1 e2 (by omega)
  | [], .gh _ _ :: _, [], h, _, _, _, _, _, _, _, _, _, _, _ => by unfold ArgsOk at h; exact h.elim
  | _ :: _, .gh _ _ :: _, [], h, _, _, _, _, _, _, _, _, _, _, _ => by unfold ArgsOk at h; exact h.elim
  | [], [], _ :: _, h, _, _, _, _, _, _, _, _, _, _, _ => h.elim
  | [], .ro _ :: _, _, h, _, _, _, _, _, _, _, _, _, _, _ => by unfold ArgsOk at h; exact h.elim
  | [], .mu _ :: _, _, h, _, _, _, _, _, _, _, _, _, _, _ => by unfold ArgsOk at h; exact h.elim
  | _ :: _, [], _, h, _, _, _, _, _, _, _, _, _, _, _ => by unfold ArgsOk at h; exact h.elim
  | _ :: _, .mu _ :: _, [], h, _, _, _, _, _, _, _, _, _, _, _ => by unfold ArgsOk at h; exact h.elim
theorem ArgsOk.cross {cc : CC} {G0 H : Hp} : ∀ {vs : List V} {args : List Arg} {mus : List Addr}, ArgsOk cc G0 H vs args mus → ∀ (i j : Nat) (p q : Bool) (a : Addr) (d : D) (b : Addr) (e : D), (slotsOf args mus)[i]? = some (.own p a d) → (ghOf args mus)[j]? = some (.own q b e) → a ≠ b
  | [], [], [], _, i, j, _, _, _, _, _, _, e, _ => by simp [slotsOf] at e
  | v :: vs, .ro d :: r, mus, h, 0, j, p, q, a, x, b, y, e1, e2 => by simp [slotsOf] at e1
  | v :: vs, .ro d :: r, mus, h, i + 1, j, p, q, a, x, b, y, e1, e2 => ArgsOk.cross (args := r) h.2 i j p q a x b y (by simpa [slotsOf] using e1) e2
  | v :: vs, .mu d :: r, c :: mus, h, 0, j, p, q, a, x, b, y, e1, e2 => by
    simp [slotsOf] at e1
    obtain ⟨_, _, q1, _, _, q4⟩ := h.2.2.2.2.gho (args := r) j _ e2
    cases q1
    rintro rfl
    exact h.2.2.2.1 (e1.2.1 ▸ q4)
  | v :: vs, .mu d :: r, c :: mus, h, i + 1, j, p, q, a, x, b, y, e1, e2 => ArgsOk.cross (args := r) h.2.2.2.2 i j p q a x b y (by simpa [slotsOf] using e1) e2
  | vs, .gh z d :: r, c :: mus, h, i, j, p, q, a, x, b, y, e1, e2 => by
    have h' : c ∉ mus ∧ ArgsOk cc G0 H vs r mus := by cases vs <;> exact h.2.2.2
    cases j with
    | zero =>
      simp [ghOf] at e2
      obtain ⟨_, _, hq⟩ := h'.2.slot i _ e1
      rcases hq with ⟨_, hq, _⟩ | ⟨_, _, hq, _, _, _, hm⟩
      · cases hq
      · cases hq
        rintro rfl
        exact h'.1 (e2.2.1 ▸ hm)
    | succ j => exact ArgsOk.cross (args := r) h'.2 i j p q a x b y e1 (by simpa [ghOf] using e2)
  | [], .gh _ _ :: _, [], h, _, _, _, _, _, _, _, _, _, _ => by unfold ArgsOk at h; exact h.elim
  | _ :: _, .gh _ _ :: _, [], h, _, _, _, _, _, _, _, _, _, _ => by unfold ArgsOk at h; exact h.elim
  | [], [], _ :: _, h, _, _, _, _, _, _, _, _, _, _ => h.elim
  | [], .ro _ :: _, _, h, _, _, _, _, _, _, _, _, _, _ => by unfold ArgsOk at h; exact h.elim
  | [], .mu _ :: _, _, h, _, _, _, _, _, _, _, _, _, _ => by unfold ArgsOk at h; exact h.elim
  | _ :: _, [], _, h, _, _, _, _, _, _, _, _, _, _ => by unfold ArgsOk at h; exact h.elim
  | _ :: _, .mu _ :: _, [], h, _, _, _, _, _, _, _, _, _, _ => by unfold ArgsOk at h; exact h.elim
theorem env_get {args : List Arg} {mus : List Addr} {n i : Nat} {s : Sl} (h : (envOf args mus n)[i]? = some s) : s = .no ∨ (slotsOf args mus)[i]? = some s ∨ ∃ k, i = valN args + (n - valN args) + k ∧ (ghOf args mus)[k]? = some s := by
  unfold envOf at h
  have sl := slots_len args mus
  by_cases hi : i < (slotsOf args mus).length
  · rw [List.getElem?_append_left hi] at h; exact .inr (.inl h)
  · rw [List.getElem?_append_right (by omega)] at h
    by_cases hj : i - (slotsOf args mus).length < (List.replicate (n - valN args) Sl.no).length
    · rw [List.getElem?_append_left hj, List.getElem?_replicate] at h
      split at h
      · cases h; exact .inl rfl
      · cases h
    · rw [List.getElem?_append_right (by omega)] at h
      simp only [List.length_replicate] at h hj
      exact .inr (.inr ⟨_, by omega, h⟩)
theorem exMu.done {cc : CC} {G H : Hp} {σ : L2.St} : ∀ {args : List Arg} {mus : List Addr} {ρ : REnv} {k : List D → Prop}, exMu args mus ρ k → (∀ (i : Nat) (m : Bool) (a : Addr) (d : D), ρ[i]? = some (.own m a d) → Root cc G H a d ∧ G a = none) →
    ∃ ds, MusOk cc G H mus ds ∧ k ds
  | [], [], _, k, h, _ => ⟨[], trivial, h⟩
  | .ro _ :: r, mus, _ :: ρ, k, h, q => exMu.done (σ := σ) (args := r) h fun i m a d e => q (i + 1) m a d (by simpa using e)
  | .mu _ :: r, a :: mus, s :: ρ, k, h, q => by
    unfold exMu at h
    split at h
    · rename_i b d
      obtain ⟨rfl, h⟩ := h
      obtain ⟨ds, h1, h2⟩ := exMu.done (σ := σ) (args := r) h fun i m a d e => q (i + 1) m a d (by simpa using e)
      obtain ⟨r1, r2⟩ := q 0 true b d rfl
      exact ⟨d :: ds, ⟨r1, r2, h1⟩, h2⟩
    · exact h.elim
  | .gh _ _ :: r, a :: mus, ρ, k, h, q => by
    unfold exMu at h
    obtain ⟨d, hm, h⟩ := h
    obtain ⟨ds, h1, h2⟩ := exMu.done (σ := σ) (args := r) h q
    obtain ⟨i, hi⟩ := List.getElem?_of_mem hm
    obtain ⟨r1, r2⟩ := q i true a d hi
    exact ⟨d :: ds, ⟨r1, r2, h1⟩, h2⟩
  | .gh _ _ :: _, [], _, _, h, _ => by unfold exMu at h; exact h.elim
  | [], _ :: _, _, _, h, _ => by unfold exMu at h; exact h.elim
  | .ro _ :: _, _, [], _, h, _ => by unfold exMu at h; exact h.elim
  | .mu _ :: _, [], _, _, h, _ => by unfold exMu at h; exact h.elim
  | .mu _ :: _, _ :: _, [], _, h, _ => by unfold exMu at h; exact h.elim

theorem sr_start {C : Ccs} {G0 H : Hp} {vs : List V} {args : List Arg} {mus : List Addr} {N : List Str} {xk : Xk} (h : ArgsOk C.cc G0 H vs args mus) (le : LE G0 H) (hl : vs.length ≤ N.length) :
    SR ⟨C.cc, H, G0, mus, xk, N.length⟩ (envOf args mus N.length) G0 (L2.start N vs) H := by
  have len := h.len
  refine ⟨?_, le, fun i s e => ?_, fun i j p q a d b e h1 h2 hn => ?_, fun i p a d e => ?_, fun _ _ e _ => e, fun i p a d e => ?_, fun _ h => .inl h, LE.refl _, fun a ha => (h.mus a ha).1, fun a ha => (h.mus a ha).2⟩
  · show (vs.map some ++ List.replicate (N.length - vs.length) none).length = N.length ∧ N.length ≤ (slotsOf args mus ++ (List.replicate (N.length - valN args) Sl.no ++ ghOf args mus)).length
    simp only [List.length_append, slots_len, List.length_replicate, List.length_map]
    omega
  · rcases env_get e with rfl | e | ⟨k, hk, e⟩
    · trivial
    · obtain ⟨v, hv, q⟩ := h.slot i s e
      have hst : (L2.start N vs)[i]? = some (some v) := by
        unfold L2.start
        have hi : i < vs.length := (List.getElem?_eq_some_iff.mp hv).1
        rw [List.getElem?_append_left (by simpa using hi), List.getElem?_map, hv]
        rfl
      rcases q with ⟨d, rfl, r⟩ | ⟨a, d, rfl, rfl, _, r, _⟩
      · exact ⟨v, hst, r⟩
      · exact ⟨.inl hst, r⟩
    · obtain ⟨a, d, rfl, _, r, _⟩ := h.gho k s e
      refine ⟨.inr ?_, r⟩
      show (vs.map some ++ List.replicate (N.length - vs.length) none).length ≤ i
      simp only [List.length_append, List.length_replicate, List.length_map]
      omega
  · rcases env_get h1 with h1 | h1 | ⟨k1, i1, h1⟩
    · cases h1
    · rcases env_get h2 with h2 | h2 | ⟨k2, i2, h2⟩
      · cases h2
      · exact h.inj i j p q a d b e h1 h2 hn
      · exact h.cross i k2 p q a d b e h1 h2
    · rcases env_get h2 with h2 | h2 | ⟨k2, i2, h2⟩
      · cases h2
      · exact (h.cross j k1 q p b e a d h2 h1).symm
      · exact h.gh_inj k1 k2 p q a d b e h1 h2 (by omega)
  · rcases env_get e with e | e | ⟨k, hk, e⟩
    · cases e
    · obtain ⟨v, hv, q⟩ := h.slot i _ e
      rcases q with ⟨_, q, _⟩ | ⟨_, _, q, _, g, _⟩
      · cases q
      · cases q; exact g
    · obtain ⟨_, _, q, g, _⟩ := h.gho k _ e
      cases q; exact g
  · rcases env_get e with e | e | ⟨k, hk, e⟩
    · cases e
    · obtain ⟨v, hv, q⟩ := h.slot i _ e
      rcases q with ⟨_, q, _⟩ | ⟨_, _, q, _, _, _, m⟩
      · cases q
      · cases q; exact m
    · obtain ⟨_, _, q, _, _, m⟩ := h.gho k _ e
      cases q; exact m

section
variable {P : Program} {w : World} {K : PySem.W.Frag} {mg : Str → Option Value} {base : Heap}
theorem resK.done {Z : Zone} {ρ : REnv} {G H : Hp} {σ : L2.St} {r : Rv} {v : V} {k : Ro → Prop} (I : SR Z ρ G σ H) (q : RvOk Z r ρ G σ H v) (h : resK r ρ k) : ∃ o, ResOk Z.cc G Z.H0 H v o ∧ k o := by
  cases r with
  | sh d => exact ⟨.sh d, q, h⟩
  | fr a d => exact ⟨.fr d, ⟨a, q.1, q.2.1, q.2.2.1, q.2.2.2.2.1⟩, h⟩
  | loc i =>
    obtain ⟨ev, hb⟩ := q
    unfold resK at h
    cases hs : ρ[i]? with
    | none => simp only [hs] at h
    | some s =>
      simp only [hs] at h
      have so := I.slot i s hs
      cases s with
      | no => exact h.elim
      | sh d =>
        obtain ⟨u, eu, r⟩ := so
        rw [ev] at eu; cases eu
        exact ⟨.sh d, r, h⟩
      | own m a d =>
        cases m with
        | true => exact h.elim
        | false =>
          obtain ⟨eu, r⟩ := so
          cases own_in ev eu
          exact ⟨.fr d, ⟨a, rfl, r, I.out i _ a d hs, (I.frs i false a d hs).1⟩, h⟩
  | gh j a =>
    obtain ⟨rfl, m, d, hs⟩ := q
    unfold resK at h
    simp only [hs] at h
    cases m with
    | true => exact h.elim
    | false => exact ⟨.fr d, ⟨a, rfl, (I.slot j _ hs).2, I.out j _ a d hs, (I.frs j false a d hs).1⟩, h⟩
  | gx as cs t =>
    obtain ⟨h1, h2, h4, h5⟩ := q
    exact ⟨.gx as cs t, ⟨h1, h2, h4, fun i a d e1 e2 => ⟨(h5 i a d e1 e2).1, (h5 i a d e1 e2).2.1, (h5 i a d e1 e2).2.2.2.1⟩⟩, h⟩
/-- THE RULE: a def that raises nothing, by its body over trees -/
theorem fn_ok {C : Ccs} {x qual : Str} {st : Stmt} {f : Addr} {fd : FuncData} {N ps : List Str} {k : Nat} {sp : FSpec} {b : SW} (F : Fun K x qual st f fd) (S : FnScope N ps (defScope st)) (hb : Sat N.length sp b) (hn : ps.length ≤ N.length)
    (hbody : ∀ (cdv : Value) (A : Around) (outer : List Env) (s : Shared) (H : Hp) (E : XK) (Z : Zone), Z.cc = C.cc → Z.xk = xk0 → Room k (A.deeper (PyProof.Rows.envOfC qual (defScope st) s.heap.objs.size f cdv)) →
      PSs (cxOf CX0 P w K mg base N qual (defScope st) f cdv A outer s H E).nox (defBody st) (Ts Z b)) : FnOk P w K mg base CX0 (k + 1) f fd ps (LSp0 C sp ps.length) := by
  refine F.ok S (fun vs H Q E h => h.1) fun cdv A outer s H vs Q E hr h => ?_
  obtain ⟨hl, args, G0, mus, kr, le, ao, hsp, ret⟩ := h
  refine ⟨_, hbody cdv A outer s H E ⟨C.cc, H, G0, mus, xk0, N.length⟩ rfl rfl hr, envOf args mus N.length, G0, _, sr_start ao le (by omega), hb args mus kr _ ao.muN hsp, ?_⟩
  have fin : ∀ {r : Rv} {ρ' : REnv} {v : V} {σ' : L2.St} {H' G' : Hp}, LE G0 G' → SR ⟨C.cc, H, G0, mus, xk0, N.length⟩ ρ' G' σ' H' → RvOk ⟨C.cc, H, G0, mus, xk0, N.length⟩ r ρ' G' σ' H' v → endK args mus kr r ρ' → Q v H' := fun {r ρ' v σ' H' G'} le' I q e => by
    obtain ⟨o, hro, e⟩ := resK.done I q e
    obtain ⟨ds, hm, e⟩ := exMu.done (σ := σ') e fun i m a d hs => ⟨(I.slot i _ hs).2, I.out i m a d hs⟩
    exact ret o ds v H' G' le' I.sub I.ent I.gnew hm hro e
  exact ⟨fun ρ' σ' H' G' le' I e => fin le' I (rv_sh rep_non) e, fun r ρ' v σ' H' G' le' I q e => fin le' I q e, fun _ _ _ _ _ _ h => h.elim, fun _ _ _ _ _ _ h => h.elim⟩
end
end TL

namespace TL
open PySem PySem.Spec L2

mutual
def noLst : D → Bool
  | .tup ds => noLsts ds
  | .lst _ => false
  | .obj _ _ => false
  | .dct _ _ => false
  | .dic _ _ => false
  | .ptr _ => false
  | _ => true
def noLsts : List D → Bool
  | [] => true
  | d :: ds => noLst d && noLsts ds
end
def chFlat : D → Bool
  | .lst ds => noLsts ds
  | .obj _ ds => noLsts ds
  | .dic _ ds => noLsts ds
  | _ => true
def flatRo : Ro → Bool
  | .sh d => noLst d
  | .fr d => chFlat d
  | .gx _ _ _ => false
mutual
theorem Rep.strip {cc : CC} {G G2 : Hp} (h : ∀ a vs, G a = some (.tup vs) → G2 a = some (.tup vs)) : ∀ {d : D} {v : V}, noLst d = true → Rep cc G v d → Rep cc G2 v d
  | .non, _, _, r => by unfold Rep at r ⊢; exact r
  | .bl _, _, _, r => by unfold Rep at r ⊢; exact r
  | .int _, _, _, r => by unfold Rep at r ⊢; exact r
  | .str _, _, _, r => by unfold Rep at r ⊢; exact r
  | .tup ds, _, n, r => by
    unfold Rep at r ⊢
    unfold noLst at n
    obtain ⟨a, vs, e, g, q⟩ := r
    exact ⟨a, vs, e, h _ _ g, Reps.strip h n q⟩
  | .lst ds, _, n, r => by simp [noLst] at n
  | .obj c ds, _, n, r => by simp [noLst] at n
  | .dct _ _, _, n, r => by simp [noLst] at n
  | .ptr _, _, n, r => by simp [noLst] at n
  | .dic _ _, _, n, r => by simp [noLst] at n
theorem Reps.strip {cc : CC} {G G2 : Hp} (h : ∀ a vs, G a = some (.tup vs) → G2 a = some (.tup vs)) : ∀ {ds : List D} {vs : List V}, noLsts ds = true → Reps cc G vs ds → Reps cc G2 vs ds
  | [], _, _, r => by unfold Reps at r ⊢; exact r
  | d :: ds, _, n, r => by
    unfold Reps at r ⊢
    unfold noLsts at n
    rw [Bool.and_eq_true] at n
    obtain ⟨v, q, e, a, b⟩ := r
    exact ⟨v, q, e, Rep.strip h n.1 a, Reps.strip h n.2 b⟩
end
theorem Root.strip {cc : CC} {G G2 H : Hp} {a : Addr} {d : D} (h : ∀ a vs, G a = some (.tup vs) → G2 a = some (.tup vs)) (n : chFlat d = true) (r : Root cc G H a d) : Root cc G2 H a d := by
  cases d <;> try exact r
  · obtain ⟨vs, e, q⟩ := r; exact ⟨vs, e, q.strip h n⟩
  · obtain ⟨dx, vs, e, l, q⟩ := r; exact ⟨dx, vs, e, l, q.strip h n⟩
  · obtain ⟨vs, e, q⟩ := r; exact ⟨vs, e, q.strip h n⟩

/-! ### the arguments of a call -/
inductive Ag where
  | ro (d : D) | bo (i : Nat) | mu (i : Nat) | tm (a : Addr) (d : D) | bg (j : Nat) (a : Addr) | mg (j : Nat) (a : Addr) | gg (j : Nat) | bd (js : List Nat) (d : D)
abbrev AgW := Xk → REnv → (List Ag → REnv → Prop) → Prop
def AgOk (Z : Zone) (ρ : REnv) (G : Hp) (σ : L2.St) (H : Hp) (v : V) : Ag → Prop
  | .ro d => Rep Z.cc G v d
  | .bo i => σ[i]? = some (some v)
  | .mu i => σ[i]? = some (some v)
  | .tm a d => RvOk Z (.fr a d) ρ G σ H v
  | .bg _ a => v = .ref a
  | .mg _ a => v = .ref a
  | .gg _ => False
  | .bd _ d => Rep Z.cc G v d
def AgsOk (Z : Zone) (ρ : REnv) (G : Hp) (σ : L2.St) (H : Hp) : List V → List Ag → Prop
  | [], [] => True
  | v :: vs, g :: gs => AgOk Z ρ G σ H v g ∧ AgsOk Z ρ G σ H vs gs
  | _, _ => False
/-- .. with ghosts behind them -/
def AgsX (Z : Zone) (ρ : REnv) (G : Hp) (σ : L2.St) (H : Hp) : List V → List Ag → Prop
  | [], [] => True
  | [], .gg _ :: gs => AgsX Z ρ G σ H [] gs
  | v :: vs, g :: gs => AgOk Z ρ G σ H v g ∧ AgsX Z ρ G σ H vs gs
  | _, _ => False
theorem AgsOk.x {Z : Zone} {ρ : REnv} {G : Hp} {σ : L2.St} {H : Hp} {js : List Nat} : ∀ {vs : List V} {gs : List Ag}, AgsOk Z ρ G σ H vs gs → AgsX Z ρ G σ H vs (gs ++ js.map .gg)
  | [], [], _ => by
    induction js with
    | nil => trivial
    | cons j js ih => exact ih
  | v :: vs, g :: gs, h => ⟨h.1, AgsOk.x (vs := vs) h.2⟩
  | [], _ :: _, h => h.elim
  | _ :: _, [], h => h.elim
theorem AgsOk.x0 {Z : Zone} {ρ : REnv} {G : Hp} {σ : L2.St} {H : Hp} {vs : List V} {gs : List Ag} (h : AgsOk Z ρ G σ H vs gs) : AgsX Z ρ G σ H vs gs := by
  have := h.x (js := [])
  simpa using this
def Tag (Z : Zone) (w : AgW) : TA := fun σ H Q => ∃ ρ G K, SR Z ρ G σ H ∧ w Z.xk ρ K ∧
  ∀ gs ρ' vs H' G', LE G G' → SR Z ρ' G' σ H' → AgsOk Z ρ' G' σ H' vs gs → K gs ρ' → Q vs H'
def isOwn (ρ : REnv) (i : Nat) : Prop := match ρ[i]? with | some (.own _ _ _) => True | _ => False
def noTm : List Ag → Bool
  | [] => true
  | .tm _ _ :: _ => false
  | _ :: r => noTm r
def agNil : AgW := fun _ ρ K => K [] ρ
def agRo (w : EW) (r : AgW) : AgW := fun xk ρ K => w xk ρ fun v ρ1 => stl v ρ1 fun d ρ2 => r xk ρ2 fun gs ρ3 => K (.ro d :: gs) ρ3
def agBo (i : Nat) (r : AgW) : AgW := fun xk ρ K => isOwn ρ i ∧ r xk ρ fun gs ρ3 => K (.bo i :: gs) ρ3
def agMu (i : Nat) (r : AgW) : AgW := fun xk ρ K => isOwn ρ i ∧ r xk ρ fun gs ρ3 => K (.mu i :: gs) ρ3
/-- a value as it may be stored -/
def pvw (v : Rv) (ρ : REnv) (K : D → Prop) : Prop := match v with
  | .sh d => K d
  | .gh _ a => K (.ptr a)
  | .loc i => match ρ[i]? with
    | some (.sh d) => K d
    | some (.own _ a _) => K (.ptr a)
    | _ => False
  | _ => False
/-- a value with all the roots at some places, lent -/
def agBd (w : EW) (r : AgW) : AgW := fun xk ρ K => w xk ρ fun v ρ1 => pvw v ρ1 fun d => r xk ρ1 fun gs ρ3 => ∃ js, K (.bd js d :: gs) ρ3
/-- a ghost, lent; handed in to be changed -/
def agBg (w : EW) (r : AgW) : AgW := fun xk ρ K => w xk ρ fun v ρ1 => match v with
  | .gh j a => r xk ρ1 fun gs ρ3 => K (.bg j a :: gs) ρ3
  | _ => False
def agMg (w : EW) (r : AgW) : AgW := fun xk ρ K => w xk ρ fun v ρ1 => match v with
  | .gh j a => r xk ρ1 fun gs ρ3 => K (.mg j a :: gs) ρ3
  | _ => False
def agTm (w : EW) (r : AgW) : AgW := fun xk ρ K => w xk ρ fun v ρ1 => match v with
  | .fr a d => r xk0 ρ1 fun gs ρ3 => noTm gs = true ∧ K (.tm a d :: gs) ρ3
  | _ => False
section
variable {X : Cx} {Z : Zone} {e : Expr} {es : List Expr} {w : EW} {r : AgW}
theorem dag_nil : PA X [] (Tag Z agNil) := ⟨fun pos pins s σ H Q I ⟨ρ, G, K, IR, hw, q⟩ => pa_nil.run pos pins s σ H Q I (q [] ρ [] H G (LE.refl G) IR trivial hw)⟩
theorem isOwn_get {ρ : REnv} {G H : Hp} {σ : L2.St} (I : SR Z ρ G σ H) {i : Nat} (hi : i < σ.length) (h : isOwn ρ i) : ∃ v, σ[i]? = some (some v) := by
  unfold isOwn at h
  cases hs : ρ[i]? with
  | none => rw [hs] at h; exact h.elim
  | some s =>
    cases s with
    | no => rw [hs] at h; exact h.elim
    | sh d => rw [hs] at h; exact h.elim
    | own m a d => exact ⟨_, own_at hi (I.slot i _ hs).1⟩
theorem dag_ro (ha : PE X e (T Z w)) (hr : PA X es (Tag Z r)) (hs : starEach (e :: es) X.env = (false, eval e X.env) :: starEach es X.env := by rfl) : PA X (e :: es) (Tag Z (agRo w r)) :=
  ⟨fun pos pins s σ H Q I ⟨ρ, G, K, IR, hw, q⟩ => (pa_cons ha hr hs).run pos pins s σ H Q I ⟨ρ, G, _, IR, hw, fun rv ρ1 v H1 G1 le1 I1 q1 k1 => by
    obtain ⟨d, ρ2, G2, le2, I2, rp, k2, _⟩ := I1.settle q1 k1
    exact ⟨ρ2, G2, _, I2, k2, fun gs ρ3 vs H3 G3 le3 I3 rs k3 => q (.ro d :: gs) ρ3 (v :: vs) H3 G3 ((le1.trans le2).trans le3) I3 ⟨(rp.mono le3 : Rep _ _ _ _), rs⟩ k3⟩⟩⟩
theorem dag_mu {i : Nat} {x : Str} {pos : Pos} (hr : PA X es (Tag Z r)) (hN : X.N[i]? = some x := by rfl) (hv : Vis X.env.scope x := by first | exact Or.inl rfl | exact Or.inr (Or.inl rfl) | exact Or.inr (Or.inr rfl)) (hd : (x == ("__debug__" : Str)) = false := by decide)
    (hcd : (x == ("__classdict__" : Str)) = false := by decide) (hs : starEach (.Name x pos :: es) X.env = (false, eval (.Name x pos) X.env) :: starEach es X.env := by rfl) : PA X (.Name x pos :: es) (Tag Z (agMu i r)) :=
  ⟨fun pos pins s σ H Q I ⟨ρ, G, K, IR, ⟨ho, hw⟩, q⟩ => (pa_cons (pv i hN hv hd hcd) hr hs).run pos pins s σ H Q I (by
    obtain ⟨v, ev⟩ := isOwn_get IR (lt_len I hN) ho
    exact ⟨v, ev, ρ, G, _, IR, hw, fun gs ρ3 vs H3 G3 le3 I3 rs k3 => q (.mu i :: gs) ρ3 (v :: vs) H3 G3 le3 I3 ⟨ev, rs⟩ k3⟩)⟩
theorem AgsOk.unext {D : Addr} {o : HO} {ρ : REnv} {G H : Hp} {σ : L2.St} : ∀ {vs : List V} {gs : List Ag}, noTm gs = true → AgsOk (Z.ext D o) ρ G σ H vs gs → AgsOk Z ρ G σ H vs gs
  | [], [], _, _ => trivial
  | v :: vs, .ro d :: gs, n, h => ⟨h.1, AgsOk.unext (gs := gs) (by simpa [noTm] using n) h.2⟩
  | v :: vs, .bo d :: gs, n, h => ⟨h.1, AgsOk.unext (gs := gs) (by simpa [noTm] using n) h.2⟩
  | v :: vs, .mu d :: gs, n, h => ⟨h.1, AgsOk.unext (gs := gs) (by simpa [noTm] using n) h.2⟩
  | v :: vs, .bg _ _ :: gs, n, h => ⟨h.1, AgsOk.unext (gs := gs) (by simpa [noTm] using n) h.2⟩
  | v :: vs, .mg _ _ :: gs, n, h => ⟨h.1, AgsOk.unext (gs := gs) (by simpa [noTm] using n) h.2⟩
  | v :: vs, .gg _ :: gs, n, h => h.1.elim
  | v :: vs, .bd _ _ :: gs, n, h => ⟨h.1, AgsOk.unext (gs := gs) (by simpa [noTm] using n) h.2⟩
  | v :: vs, .tm _ _ :: gs, n, h => by simp [noTm] at n
  | [], _ :: _, _, h => h.elim
  | _ :: _, [], _, h => h.elim
theorem dag_tm (ha : PE X e (T Z w)) (hr : ∀ D o, PA X es (Tag (Z.ext D o) r)) (hs : starEach (e :: es) X.env = (false, eval e X.env) :: starEach es X.env := by rfl) : PA X (e :: es) (Tag Z (agTm w r)) :=
  ⟨fun pos pins s σ H Q I ⟨ρ, G, K, IR, hw, q⟩ => (pa_cons (t := fun σ H Q => ∃ D o, Tag (Z.ext D o) r σ H Q) ha ⟨fun pos pins s σ H Q I ⟨D, o, h⟩ => (hr D o).run pos pins s σ H Q I h⟩ hs).run pos pins s σ H Q I ⟨ρ, G, _, IR, hw, fun rv ρ1 v H1 G1 le1 I1 q1 k1 => by
    cases rv with
    | loc i => exact k1.elim
    | sh d => exact k1.elim
    | gh j a => exact k1.elim
    | gx as cs t => exact k1.elim
    | fr a d =>
      obtain ⟨rfl, rt, ga, ow, h0, hm⟩ := id q1
      obtain ⟨o, ho, mt⟩ := rt.ob
      have g0 : Z.G0 a = none := by
        cases e : Z.G0 a with
        | none => rfl
        | some u => have := I1.g0 _ _ e; rw [ga] at this; cases this
      refine ⟨a, o, ρ1, G1, _, I1.ext ho ga ow hm, k1, fun gs ρ3 vs H3 G3 le3 I3 rs k3 => ?_⟩
      obtain ⟨J, hD, gD, ow3⟩ := I3.unext h0 g0 hm
      refine q (.tm a d :: gs) ρ3 (.ref a :: vs) H3 G3 (le1.trans le3) J ⟨⟨rfl, (rt.mono le3).heap fun u hu => by rw [ho] at hu; cases hu; exact hD, gD, ow3, h0, hm⟩, AgsOk.unext k3.1 rs⟩ k3.2⟩⟩
end

/-! ### a call -/
def pk (ρ : REnv) : List Nat → List (Addr × D)
  | [] => []
  | j :: js => match ρ[j]? with
    | some (.own _ a d) => (a, d) :: pk ρ js
    | _ => pk ρ js
theorem pk_mem {ρ : REnv} {a : Addr} {d : D} : ∀ {js : List Nat}, (a, d) ∈ pk ρ js → ∃ j m, j ∈ js ∧ ρ[j]? = some (.own m a d)
  | j :: js, h => by
    unfold pk at h
    split at h
    · rename_i m b e hs
      rcases List.mem_cons.mp h with h | h
      · cases h; exact ⟨j, m, List.mem_cons_self, hs⟩
      · obtain ⟨i, m, h1, h2⟩ := pk_mem h; exact ⟨i, m, List.mem_cons_of_mem _ h1, h2⟩
    · obtain ⟨i, m, h1, h2⟩ := pk_mem h; exact ⟨i, m, List.mem_cons_of_mem _ h1, h2⟩
def argsK : List Ag → REnv → (List Arg → Prop) → Prop
  | [], _, k => k []
  | .ro d :: r, ρ, k => argsK r ρ fun as => k (.ro d :: as)
  | .bo i :: r, ρ, k => match ρ[i]? with | some (.own _ _ d) => argsK r ρ fun as => k (.ro d :: as) | _ => False
  | .mu i :: r, ρ, k => match ρ[i]? with | some (.own _ _ d) => argsK r ρ fun as => k (.mu d :: as) | _ => False
  | .tm _ d :: r, ρ, k => argsK r ρ fun as => k (.mu d :: as)
  | .bg j a :: r, ρ, k => match ρ[j]? with | some (.own _ b d) => b = a ∧ argsK r ρ fun as => k (.ro d :: as) | _ => False
  | .mg j a :: r, ρ, k => match ρ[j]? with | some (.own _ b d) => b = a ∧ argsK r ρ fun as => k (.mu d :: as) | _ => False
  | .gg j :: r, ρ, k => match ρ[j]? with | some (.own _ b d) => argsK r ρ fun as => k (.gh b d :: as) | _ => False
  | .bd js d :: r, ρ, k => ∃ e, Vw (pk ρ js) d e ∧ argsK r ρ fun as => k (.ro e :: as)
def reown (ρ : REnv) (i : Nat) (d : D) : Sl := match ρ[i]? with | some (.own m a _) => .own m a d | _ => .no
def upE : List Ag → List D → REnv → REnv
  | [], _, ρ => ρ
  | .mu i :: r, d :: ds, ρ => (upE r ds ρ).set i (reown ρ i d)
  | .mu _ :: _, [], ρ => ρ
  | .tm _ _ :: r, _ :: ds, ρ => upE r ds ρ
  | .tm _ _ :: _, [], ρ => ρ
  | .ro _ :: r, ds, ρ => upE r ds ρ
  | .bo _ :: r, ds, ρ => upE r ds ρ
  | .bg _ _ :: r, ds, ρ => upE r ds ρ
  | .mg i _ :: r, d :: ds, ρ => (upE r ds ρ).set i (reown ρ i d)
  | .mg _ _ :: _, [], ρ => ρ
  | .gg i :: r, d :: ds, ρ => (upE r ds ρ).set i (reown ρ i d)
  | .gg _ :: _, [], ρ => ρ
  | .bd _ _ :: r, ds, ρ => upE r ds ρ
def boIx : List Ag → List Nat
  | [] => []
  | .bo i :: r => i :: boIx r
  | .ro _ :: r => boIx r
  | .mu _ :: r => boIx r
  | .tm _ _ :: r => boIx r
  | .bg i _ :: r => i :: boIx r
  | .mg _ _ :: r => boIx r
  | .gg _ :: r => boIx r
  | .bd js _ :: r => js ++ boIx r
def muIx : List Ag → List Nat
  | [] => []
  | .mu i :: r => i :: muIx r
  | .ro _ :: r => muIx r
  | .bo _ :: r => muIx r
  | .tm _ _ :: r => muIx r
  | .bg _ _ :: r => muIx r
  | .mg i _ :: r => i :: muIx r
  | .gg i :: r => i :: muIx r
  | .bd _ _ :: r => muIx r
def tms : List Ag → Nat
  | [] => 0
  | .tm _ _ :: r => tms r + 1
  | .ro _ :: r => tms r
  | .bo _ :: r => tms r
  | .mu _ :: r => tms r
  | .bg _ _ :: r => tms r
  | .mg _ _ :: r => tms r
  | .gg _ :: r => tms r
  | .bd _ _ :: r => tms r
def hasBo : List Ag → Bool
  | [] => false
  | .bo _ :: _ => true
  | .ro _ :: r => hasBo r
  | .mu _ :: r => hasBo r
  | .tm _ _ :: r => hasBo r
  | .bg _ _ :: _ => true
  | .mg _ _ :: r => hasBo r
  | .gg _ :: r => hasBo r
  | .bd _ _ :: _ => true
def noLstAll : List D → Bool
  | [] => true
  | d :: r => chFlat d && noLstAll r
def callK (sp : FSpec) (gs : List Ag) (ρ : REnv) (xk : Xk) (K : Rv → REnv → Prop) : Prop := (boIx gs ++ muIx gs).Nodup ∧ tms gs ≤ 1 ∧
  argsK gs ρ fun args => sp args (fun o ds => (hasBo gs = true → flatRo o = true ∧ noLstAll ds = true) ∧ out o (upE gs ds ρ) K) (fun c d => xk c d ρ)

def boA : List Ag → REnv → List Addr
  | [], _ => []
  | .bo i :: r, ρ => match ρ[i]? with | some (.own _ a _) => a :: boA r ρ | _ => boA r ρ
  | .ro _ :: r, ρ => boA r ρ
  | .mu _ :: r, ρ => boA r ρ
  | .tm _ _ :: r, ρ => boA r ρ
  | .bg i _ :: r, ρ => match ρ[i]? with | some (.own _ a _) => a :: boA r ρ | _ => boA r ρ
  | .mg _ _ :: r, ρ => boA r ρ
  | .gg _ :: r, ρ => boA r ρ
  | .bd js _ :: r, ρ => (pk ρ js).map (·.1) ++ boA r ρ
def muA : List Ag → REnv → List Addr
  | [], _ => []
  | .mu i :: r, ρ => match ρ[i]? with | some (.own _ a _) => a :: muA r ρ | _ => muA r ρ
  | .tm a _ :: r, ρ => a :: muA r ρ
  | .ro _ :: r, ρ => muA r ρ
  | .bo _ :: r, ρ => muA r ρ
  | .bg _ _ :: r, ρ => muA r ρ
  | .mg i _ :: r, ρ => match ρ[i]? with | some (.own _ a _) => a :: muA r ρ | _ => muA r ρ
  | .gg i :: r, ρ => match ρ[i]? with | some (.own _ a _) => a :: muA r ρ | _ => muA r ρ
  | .bd _ _ :: r, ρ => muA r ρ
section
variable {Z : Zone} {ρ : REnv} {G H : Hp} {σ : L2.St}
theorem boA_own : ∀ {gs : List Ag} {a : Addr}, a ∈ boA gs ρ → ∃ (i : Nat) (m : Bool) (d : D), i ∈ boIx gs ∧ ρ[i]? = some (.own m a d)
  | .bo i :: r, a, h => by
    unfold boA at h
    split at h
    · rename_i m b d hs
      rcases List.mem_cons.mp h with rfl | h
      · exact ⟨i, m, d, by simp [boIx], hs⟩
      · obtain ⟨j, m, d, h1, h2⟩ := boA_own h; exact ⟨j, m, d, by simp [boIx, h1], h2⟩
    · obtain ⟨j, m, d, h1, h2⟩ := boA_own h; exact ⟨j, m, d, by simp [boIx, h1], h2⟩
  | .bg i _ :: r, a, h => by
    unfold boA at h
    split at h
    · rename_i m b d hs
      rcases List.mem_cons.mp h with rfl | h
      · exact ⟨i, m, d, by simp [boIx], hs⟩
      · obtain ⟨j, m, d, h1, h2⟩ := boA_own h; exact ⟨j, m, d, by simp [boIx, h1], h2⟩
    · obtain ⟨j, m, d, h1, h2⟩ := boA_own h; exact ⟨j, m, d, by simp [boIx, h1], h2⟩
  | .mg _ _ :: r, a, h => boA_own (gs := r) h
  | .gg _ :: r, a, h => boA_own (gs := r) h
  | .bd js _ :: r, a, h => by
    rcases List.mem_append.mp h with h | h
    · obtain ⟨p, hp, rfl⟩ := List.mem_map.mp h
      obtain ⟨j, m, h1, h2⟩ := pk_mem (a := p.1) (d := p.2) hp
      exact ⟨j, m, p.2, by simp [boIx, h1], h2⟩
    · obtain ⟨j, m, d, h1, h2⟩ := boA_own (gs := r) h
      exact ⟨j, m, d, by simp [boIx, h1], h2⟩
  | .ro _ :: r, a, h => boA_own (gs := r) h
  | .mu _ :: r, a, h => boA_own (gs := r) h
  | .tm _ _ :: r, a, h => boA_own (gs := r) h
  | [], a, h => by simp [boA] at h
theorem hasBo_nil : ∀ {gs : List Ag}, hasBo gs = false → boA gs ρ = []
  | [], _ => rfl
  | .bo _ :: _, h => by simp [hasBo] at h
  | .ro _ :: r, h => hasBo_nil (gs := r) h
  | .mu _ :: r, h => hasBo_nil (gs := r) h
  | .tm _ _ :: r, h => hasBo_nil (gs := r) h
  | .bg _ _ :: _, h => by simp [hasBo] at h
  | .mg _ _ :: r, h => hasBo_nil (gs := r) h
  | .gg _ :: r, h => hasBo_nil (gs := r) h
  | .bd _ _ :: _, h => by simp [hasBo] at h
/-- the address of a root that is handed in to be changed -/
theorem muA_at : ∀ {gs : List Ag} {vs : List V} {a : Addr}, AgsX Z ρ G σ H vs gs → a ∈ muA gs ρ → (∃ (i : Nat) (m : Bool) (d : D), i ∈ muIx gs ∧ ρ[i]? = some (.own m a d)) ∨ (tms gs ≠ 0 ∧ ∃ v d, RvOk Z (.fr a d) ρ G σ H v)
  | [], _, a, _, h => by simp [muA] at h
  | .mu i :: r, v :: vs, a, q, h => by
    unfold muA at h
    split at h
    · rename_i m b d hs
      rcases List.mem_cons.mp h with rfl | h
      · exact .inl ⟨i, m, d, by simp [muIx], hs⟩
      · rcases muA_at q.2 h with ⟨j, m, d, h1, h2⟩ | z
        · exact .inl ⟨j, m, d, by simp [muIx, h1], h2⟩
        · exact .inr z
    · rcases muA_at q.2 h with ⟨j, m, d, h1, h2⟩ | z
      · exact .inl ⟨j, m, d, by simp [muIx, h1], h2⟩
      · exact .inr z
  | .mg i _ :: r, v :: vs, a, q, h => by
    unfold muA at h
    split at h
    · rename_i m b d hs
      rcases List.mem_cons.mp h with rfl | h
      · exact .inl ⟨i, m, d, by simp [muIx], hs⟩
      · rcases muA_at q.2 h with ⟨j, m, d, h1, h2⟩ | z
        · exact .inl ⟨j, m, d, by simp [muIx, h1], h2⟩
        · exact .inr z
    · rcases muA_at q.2 h with ⟨j, m, d, h1, h2⟩ | z
      · exact .inl ⟨j, m, d, by simp [muIx, h1], h2⟩
      · exact .inr z
  | .gg i :: r, [], a, q, h => by
    unfold muA at h
    split at h
    · rename_i m b d hs
      rcases List.mem_cons.mp h with rfl | h
      · exact .inl ⟨i, m, d, by simp [muIx], hs⟩
      · rcases muA_at (gs := r) (vs := []) q h with ⟨j, m, d, h1, h2⟩ | z
        · exact .inl ⟨j, m, d, by simp [muIx, h1], h2⟩
        · exact .inr z
    · rcases muA_at (gs := r) (vs := []) q h with ⟨j, m, d, h1, h2⟩ | z
      · exact .inl ⟨j, m, d, by simp [muIx, h1], h2⟩
      · exact .inr z
  | .gg i :: r, v :: vs, a, q, h => q.1.elim
  | .bg _ _ :: r, v :: vs, a, q, h => muA_at (gs := r) q.2 h
  | .bg _ _ :: r, [], a, h, _ => h.elim
  | .bd _ _ :: r, v :: vs, a, q, h => muA_at (gs := r) q.2 h
  | .bd _ _ :: r, [], a, h, _ => h.elim
  | .mg _ _ :: r, [], a, h, _ => h.elim
  | .ro _ :: r, v :: vs, a, q, h => muA_at (gs := r) q.2 h
  | .bo _ :: r, v :: vs, a, q, h => muA_at (gs := r) q.2 h
  | .tm b d :: r, v :: vs, a, q, h => by
    rcases List.mem_cons.mp h with rfl | h
    · exact .inr ⟨by simp [tms], v, d, q.1⟩
    · rcases muA_at (gs := r) q.2 h with z | ⟨z, w⟩
      · exact .inl z
      · exact .inr ⟨by simp [tms], w⟩
  | .mu i :: r, [], a, h, _ => h.elim
  | .ro i :: r, [], a, h, _ => h.elim
  | .bo i :: r, [], a, h, _ => h.elim
  | .tm i _ :: r, [], a, h, _ => h.elim
theorem muA_nd (I : SR Z ρ G σ H) : ∀ {gs : List Ag} {vs : List V}, AgsX Z ρ G σ H vs gs → (muIx gs).Nodup → tms gs ≤ 1 → (muA gs ρ).Nodup
  | [], _, _, _, _ => List.nodup_nil
  | .mu i :: r, v :: vs, q, n, t => by
    have n' := List.nodup_cons.mp n
    have ih := muA_nd I (gs := r) q.2 n'.2 t
    unfold muA
    split
    · rename_i m a d hs
      refine List.nodup_cons.mpr ⟨fun hm => ?_, ih⟩
      rcases muA_at q.2 hm with ⟨j, m', d', hj, hs'⟩ | ⟨_, v', d', f⟩
      · exact I.inj i j m m' a d a d' hs hs' (fun e => n'.1 (e ▸ hj)) rfl
      · exact f.2.2.2.1 i m a d hs rfl
    · exact ih
  | .mg i _ :: r, v :: vs, q, n, t => by
    have n' := List.nodup_cons.mp n
    have ih := muA_nd I (gs := r) q.2 n'.2 t
    unfold muA
    split
    · rename_i m a d hs
      refine List.nodup_cons.mpr ⟨fun hm => ?_, ih⟩
      rcases muA_at q.2 hm with ⟨j, m', d', hj, hs'⟩ | ⟨_, v', d', f⟩
      · exact I.inj i j m m' a d a d' hs hs' (fun e => n'.1 (e ▸ hj)) rfl
      · exact f.2.2.2.1 i m a d hs rfl
    · exact ih
  | .gg i :: r, [], q, n, t => by
    have n' := List.nodup_cons.mp n
    have ih := muA_nd I (gs := r) (vs := []) q n'.2 t
    unfold muA
    split
    · rename_i m a d hs
      refine List.nodup_cons.mpr ⟨fun hm => ?_, ih⟩
      rcases muA_at (gs := r) (vs := []) q hm with ⟨j, m', d', hj, hs'⟩ | ⟨_, v', d', f⟩
      · exact I.inj i j m m' a d a d' hs hs' (fun e => n'.1 (e ▸ hj)) rfl
      · exact f.2.2.2.1 i m a d hs rfl
    · exact ih
  | .gg i :: r, v :: vs, q, n, t => q.1.elim
  | .bg _ _ :: r, v :: vs, q, n, t => muA_nd I (gs := r) q.2 n t
  | .bg _ _ :: r, [], h, _, _ => h.elim
  | .bd _ _ :: r, v :: vs, q, n, t => muA_nd I (gs := r) q.2 n t
  | .bd _ _ :: r, [], h, _, _ => h.elim
  | .mg _ _ :: r, [], h, _, _ => h.elim
  | .ro _ :: r, v :: vs, q, n, t => muA_nd I (gs := r) q.2 n t
  | .bo _ :: r, v :: vs, q, n, t => muA_nd I (gs := r) q.2 n t
  | .tm a d :: r, v :: vs, q, n, t => by
    have t0 : tms r = 0 := by simp [tms] at t; omega
    have ih := muA_nd I (gs := r) q.2 n (by omega)
    refine List.nodup_cons.mpr ⟨fun hm => ?_, ih⟩
    rcases muA_at (gs := r) q.2 hm with ⟨j, m', d', hj, hs'⟩ | ⟨z, _⟩
    · exact q.1.2.2.2.1 j m' a d' hs' rfl
    · exact z t0
  | .mu i :: r, [], h, _, _ => h.elim
  | .ro i :: r, [], h, _, _ => h.elim
  | .bo i :: r, [], h, _, _ => h.elim
  | .tm i _ :: r, [], h, _, _ => h.elim
theorem boA_apart (I : SR Z ρ G σ H) {gs : List Ag} {vs : List V} (q : AgsX Z ρ G σ H vs gs) (n : (boIx gs ++ muIx gs).Nodup) {a : Addr} (h : a ∈ muA gs ρ) : a ∉ boA gs ρ := fun hb => by
  obtain ⟨i, m, d, hi, hs⟩ := boA_own hb
  rcases muA_at q h with ⟨j, m', d', hj, hs'⟩ | ⟨_, v, d', f⟩
  · exact I.inj i j m m' a d a d' hs hs' (fun e => (List.nodup_append.mp n).2.2 i hi j hj e) rfl
  · exact f.2.2.2.1 i m a d hs rfl
/-- the known part at a call -/
def cutG (B : List Addr) (G H : Hp) : Hp := fun a => if a ∈ B then H a else G a
theorem args_ok (I : SR Z ρ G σ H) {B : List Addr} (hB : ∀ a ∈ B, G a = none) : ∀ {gs : List Ag} {vs : List V} {k : List Arg → Prop}, AgsX Z ρ G σ H vs gs → (∀ a ∈ boA gs ρ, a ∈ B) → (∀ a ∈ muA gs ρ, a ∉ B) → (muA gs ρ).Nodup → argsK gs ρ k →
    ∃ args, ArgsOk Z.cc (cutG B G H) H vs args (muA gs ρ) ∧ k args := by
  have le : LE G (cutG B G H) := fun a o e => by
    unfold cutG
    rw [if_neg (fun h => by rw [hB a h] at e; cases e)]
    exact e
  intro gs
  induction gs with
  | nil => intro vs k q _ _ _ h; cases vs with
    | nil => exact ⟨[], trivial, h⟩
    | cons v vs => exact q.elim
  | cons g gs ih =>
    intro vs k q hb hm nd h
    cases vs with
    | nil =>
      cases g <;> try exact q.elim
      rename_i i
      unfold argsK at h
      cases hs : ρ[i]? with
      | none => simp only [hs] at h
      | some s =>
        simp only [hs] at h
        cases s with
        | no => exact h.elim
        | sh d => exact h.elim
        | own m a d =>
          obtain ⟨es, rt⟩ := I.slot i _ hs
          have em : muA (.gg i :: gs) ρ = a :: muA gs ρ := by simp only [muA, hs]
          rw [em] at hm nd ⊢
          obtain ⟨args, h1, h2⟩ := ih (vs := []) (k := fun as => k (.gh a d :: as)) q hb (fun b h => hm b (List.mem_cons_of_mem _ h)) (List.nodup_cons.mp nd).2 h
          refine ⟨.gh a d :: args, ⟨rfl, ?_, rt.mono le, (List.nodup_cons.mp nd).1, h1⟩, h2⟩
          unfold cutG
          rw [if_neg (hm a List.mem_cons_self)]
          exact I.out i m a d hs
    | cons v vs =>
      cases g with
      | ro d =>
        obtain ⟨args, h1, h2⟩ := ih (k := fun as => k (.ro d :: as)) q.2 hb hm nd h
        exact ⟨.ro d :: args, ⟨Rep.mono (d := d) le q.1, h1⟩, h2⟩
      | bo i =>
        unfold argsK at h
        cases hs : ρ[i]? with
        | none => simp only [hs] at h
        | some s =>
          simp only [hs] at h
          cases s with
          | no => exact h.elim
          | sh d => exact h.elim
          | own m a d =>
            obtain ⟨es, rt⟩ := I.slot i _ hs
            cases own_in (show σ[i]? = some (some v) from q.1) es
            have eb : boA (.bo i :: gs) ρ = a :: boA gs ρ := by simp only [boA, hs]
            have ha : a ∈ B := hb a (by rw [eb]; exact List.mem_cons_self)
            obtain ⟨args, h1, h2⟩ := ih (k := fun as => k (.ro d :: as)) q.2 (fun b h => hb b (by rw [eb]; exact List.mem_cons_of_mem _ h)) hm nd h
            refine ⟨.ro d :: args, ⟨?_, h1⟩, h2⟩
            have rt' := rt.mono le
            have e0 : cutG B G H a = H a := by unfold cutG; rw [if_pos ha]
            cases d <;> try exact rt'.elim
            · obtain ⟨vs, e, r⟩ := rt'; unfold Rep; exact ⟨a, vs, rfl, SqL.of (e0.trans e), r⟩
            · obtain ⟨dx, vs, e, l, r⟩ := rt'; unfold Rep; exact ⟨a, dx, vs, rfl, e0.trans e, l, r⟩
            · obtain ⟨vs, e, r⟩ := rt'; unfold Rep; exact ⟨a, vs, rfl, e.rd.heap fun o ho => e0.trans ho, r⟩
      | bg i b =>
        unfold argsK at h
        cases hs : ρ[i]? with
        | none => simp only [hs] at h
        | some s =>
          simp only [hs] at h
          cases s with
          | no => exact h.elim
          | sh d => exact h.elim
          | own m a d =>
            obtain ⟨es, rt⟩ := I.slot i _ hs
            obtain ⟨rfl, h⟩ := h
            have ev : v = .ref a := q.1
            subst ev
            have eb : boA (.bg i a :: gs) ρ = a :: boA gs ρ := by simp only [boA, hs]
            have ha : a ∈ B := hb a (by rw [eb]; exact List.mem_cons_self)
            obtain ⟨args, h1, h2⟩ := ih (k := fun as => k (.ro d :: as)) q.2 (fun b h => hb b (by rw [eb]; exact List.mem_cons_of_mem _ h)) hm nd h
            refine ⟨.ro d :: args, ⟨?_, h1⟩, h2⟩
            have rt' := rt.mono le
            have e0 : cutG B G H a = H a := by unfold cutG; rw [if_pos ha]
            cases d <;> try exact rt'.elim
            · obtain ⟨vs, e, r⟩ := rt'; unfold Rep; exact ⟨a, vs, rfl, SqL.of (e0.trans e), r⟩
            · obtain ⟨dx, vs, e, l, r⟩ := rt'; unfold Rep; exact ⟨a, dx, vs, rfl, e0.trans e, l, r⟩
            · obtain ⟨vs, e, r⟩ := rt'; unfold Rep; exact ⟨a, vs, rfl, e.rd.heap fun o ho => e0.trans ho, r⟩
      | mu i =>
        unfold argsK at h
        cases hs : ρ[i]? with
        | none => simp only [hs] at h
        | some s =>
          simp only [hs] at h
          cases s with
          | no => exact h.elim
          | sh d => exact h.elim
          | own m a d =>
            obtain ⟨es, rt⟩ := I.slot i _ hs
            cases own_in (show σ[i]? = some (some v) from q.1) es
            have em : muA (.mu i :: gs) ρ = a :: muA gs ρ := by simp only [muA, hs]
            rw [em] at hm nd ⊢
            obtain ⟨args, h1, h2⟩ := ih (k := fun as => k (.mu d :: as)) q.2 hb (fun b h => hm b (List.mem_cons_of_mem _ h)) (List.nodup_cons.mp nd).2 h
            refine ⟨.mu d :: args, ⟨rfl, ?_, rt.mono le, (List.nodup_cons.mp nd).1, h1⟩, h2⟩
            unfold cutG
            rw [if_neg (hm a List.mem_cons_self)]
            exact I.out i m a d hs
      | mg i b =>
        unfold argsK at h
        cases hs : ρ[i]? with
        | none => simp only [hs] at h
        | some s =>
          simp only [hs] at h
          cases s with
          | no => exact h.elim
          | sh d => exact h.elim
          | own m a d =>
            obtain ⟨es, rt⟩ := I.slot i _ hs
            obtain ⟨rfl, h⟩ := h
            have ev : v = .ref a := q.1
            subst ev
            have em : muA (.mg i a :: gs) ρ = a :: muA gs ρ := by simp only [muA, hs]
            rw [em] at hm nd ⊢
            obtain ⟨args, h1, h2⟩ := ih (k := fun as => k (.mu d :: as)) q.2 hb (fun b h => hm b (List.mem_cons_of_mem _ h)) (List.nodup_cons.mp nd).2 h
            refine ⟨.mu d :: args, ⟨rfl, ?_, rt.mono le, (List.nodup_cons.mp nd).1, h1⟩, h2⟩
            unfold cutG
            rw [if_neg (hm a List.mem_cons_self)]
            exact I.out i m a d hs
      | gg i => exact q.1.elim
      | bd js d =>
        obtain ⟨e, hr, h⟩ := h
        obtain ⟨args, h1, h2⟩ := ih (k := fun as => k (.ro e :: as)) q.2 (fun b h => hb b (List.mem_append_right _ h)) hm nd h
        have hL : ∀ a d, (a, d) ∈ pk ρ js → Root Z.cc G (cutG B G H) a d := fun a d hd => by
          obtain ⟨j, m, _, hs⟩ := pk_mem hd
          have ha : a ∈ B := hb a (List.mem_append_left _ (List.mem_map.mpr ⟨_, hd, rfl⟩))
          have e0 : cutG B G H a = H a := by unfold cutG; rw [if_pos ha]
          exact (I.slot j _ hs).2.heap fun o ho => e0.trans ho
        exact ⟨.ro e :: args, ⟨hr.sound le hL v q.1, h1⟩, h2⟩
      | tm a d =>
        obtain ⟨args, h1, h2⟩ := ih (k := fun as => k (.mu d :: as)) q.2 hb (fun b h => hm b (List.mem_cons_of_mem _ h)) (List.nodup_cons.mp nd).2 h
        refine ⟨.mu d :: args, ⟨q.1.1, ?_, q.1.2.1.mono le, (List.nodup_cons.mp nd).1, h1⟩, h2⟩
        unfold cutG
        rw [if_neg (hm a List.mem_cons_self)]
        exact q.1.2.2.1
theorem upE_len : ∀ {gs : List Ag} {ds : List D}, (upE gs ds ρ).length = ρ.length
  | [], _ => rfl
  | .mu _ :: r, d :: ds => by simp [upE, upE_len (gs := r)]
  | .mu _ :: _, [] => rfl
  | .tm _ _ :: r, _ :: ds => upE_len (gs := r)
  | .tm _ _ :: _, [] => rfl
  | .ro _ :: r, ds => upE_len (gs := r)
  | .bo _ :: r, ds => upE_len (gs := r)
  | .bg _ _ :: r, ds => upE_len (gs := r)
  | .bd _ _ :: r, ds => upE_len (gs := r)
  | .mg _ _ :: r, d :: ds => by simp [upE, upE_len (gs := r)]
  | .mg _ _ :: _, [] => rfl
  | .gg _ :: r, d :: ds => by simp [upE, upE_len (gs := r)]
  | .gg _ :: _, [] => rfl
theorem upE_get {G' H' : Hp} : ∀ {gs : List Ag} {vs : List V} {ds : List D} {j : Nat} {s : Sl}, AgsX Z ρ G σ H vs gs → (∀ i ∈ muIx gs, isOwn ρ i) → MusOk Z.cc G' H' (muA gs ρ) ds → (upE gs ds ρ)[j]? = some s →
    (ρ[j]? = some s ∧ j ∉ muIx gs) ∨ ∃ m a d d', ρ[j]? = some (.own m a d) ∧ s = .own m a d' ∧ a ∈ muA gs ρ ∧ Root Z.cc G' H' a d' ∧ G' a = none ∧ d' ∈ ds
  | [], _, _, j, s, _, _, _, h => .inl ⟨h, by simp [muIx]⟩
  | .ro _ :: r, v :: vs, ds, j, s, q, o, m, h => upE_get (gs := r) q.2 o m h
  | .bo _ :: r, v :: vs, ds, j, s, q, o, m, h => upE_get (gs := r) q.2 o m h
  | .tm a d :: r, v :: vs, e :: ds, j, s, q, o, m, h => by
    rcases upE_get (gs := r) q.2 o m.2.2 h with z | ⟨m1, a1, d1, d2, h1, h2, h3, h4, h5, h6⟩
    · exact .inl z
    · exact .inr ⟨m1, a1, d1, d2, h1, h2, List.mem_cons_of_mem _ h3, h4, h5, List.mem_cons_of_mem _ h6⟩
  | .tm a d :: r, v :: vs, [], j, s, q, o, m, h => m.elim
  | .mu i :: r, v :: vs, ds, j, s, q, o, m, h => by
    have oi := o i (by simp [muIx])
    unfold isOwn at oi
    cases hs : ρ[i]? with
    | none => simp only [hs] at oi
    | some t =>
      simp only [hs] at oi
      cases t with
      | no => exact oi.elim
      | sh d => exact oi.elim
      | own m1 a d =>
        have em : muA (.mu i :: r) ρ = a :: muA r ρ := by simp only [muA, hs]
        rw [em] at m ⊢
        cases ds with
        | nil => exact m.elim
        | cons e ds =>
          have h : ((upE r ds ρ).set i (reown ρ i e))[j]? = some s := h
          have er : reown ρ i e = .own m1 a e := by simp only [reown, hs]
          rw [er] at h
          rcases get_set h with ⟨rfl, rfl⟩ | ⟨hj, h⟩
          · exact .inr ⟨m1, a, d, e, hs, rfl, List.mem_cons_self, m.1, m.2.1, List.mem_cons_self⟩
          · rcases upE_get (gs := r) q.2 (fun k hk => o k (by simp [muIx, hk])) m.2.2 h with ⟨z1, z2⟩ | ⟨m1, a1, d1, d2, h1, h2, h3, h4, h5, h6⟩
            · exact .inl ⟨z1, by simp [muIx, hj, z2]⟩
            · exact .inr ⟨m1, a1, d1, d2, h1, h2, List.mem_cons_of_mem _ h3, h4, h5, List.mem_cons_of_mem _ h6⟩
  | .mg i b :: r, v :: vs, ds, j, s, q, o, m, h => by
    have oi := o i (by simp [muIx])
    unfold isOwn at oi
    cases hs : ρ[i]? with
    | none => simp only [hs] at oi
    | some t =>
      simp only [hs] at oi
      cases t with
      | no => exact oi.elim
      | sh d => exact oi.elim
      | own m1 a d =>
        have em : muA (.mg i b :: r) ρ = a :: muA r ρ := by simp only [muA, hs]
        rw [em] at m ⊢
        cases ds with
        | nil => exact m.elim
        | cons e ds =>
          have h : ((upE r ds ρ).set i (reown ρ i e))[j]? = some s := h
          have er : reown ρ i e = .own m1 a e := by simp only [reown, hs]
          rw [er] at h
          rcases get_set h with ⟨rfl, rfl⟩ | ⟨hj, h⟩
          · exact .inr ⟨m1, a, d, e, hs, rfl, List.mem_cons_self, m.1, m.2.1, List.mem_cons_self⟩
          · rcases upE_get (gs := r) q.2 (fun k hk => o k (by simp [muIx, hk])) m.2.2 h with ⟨z1, z2⟩ | ⟨m1, a1, d1, d2, h1, h2, h3, h4, h5, h6⟩
            · exact .inl ⟨z1, by simp [muIx, hj, z2]⟩
            · exact .inr ⟨m1, a1, d1, d2, h1, h2, List.mem_cons_of_mem _ h3, h4, h5, List.mem_cons_of_mem _ h6⟩
  | .gg i :: r, [], ds, j, s, q, o, m, h => by
    have oi := o i (by simp [muIx])
    unfold isOwn at oi
    cases hs : ρ[i]? with
    | none => simp only [hs] at oi
    | some t =>
      simp only [hs] at oi
      cases t with
      | no => exact oi.elim
      | sh d => exact oi.elim
      | own m1 a d =>
        have em : muA (.gg i :: r) ρ = a :: muA r ρ := by simp only [muA, hs]
        rw [em] at m ⊢
        cases ds with
        | nil => exact m.elim
        | cons e ds =>
          have h : ((upE r ds ρ).set i (reown ρ i e))[j]? = some s := h
          have er : reown ρ i e = .own m1 a e := by simp only [reown, hs]
          rw [er] at h
          rcases get_set h with ⟨rfl, rfl⟩ | ⟨hj, h⟩
          · exact .inr ⟨m1, a, d, e, hs, rfl, List.mem_cons_self, m.1, m.2.1, List.mem_cons_self⟩
          · rcases upE_get (gs := r) (vs := []) q (fun k hk => o k (by simp [muIx, hk])) m.2.2 h with ⟨z1, z2⟩ | ⟨m1, a1, d1, d2, h1, h2, h3, h4, h5, h6⟩
            · exact .inl ⟨z1, by simp [muIx, hj, z2]⟩
            · exact .inr ⟨m1, a1, d1, d2, h1, h2, List.mem_cons_of_mem _ h3, h4, h5, List.mem_cons_of_mem _ h6⟩
  | .gg i :: r, v :: vs, _, _, _, h, _, _, _ => h.1.elim
  | .bg _ _ :: r, v :: vs, ds, j, s, q, o, m, h => upE_get (gs := r) q.2 o m h
  | .bg _ _ :: r, [], _, _, _, h, _, _, _ => h.elim
  | .bd _ _ :: r, v :: vs, ds, j, s, q, o, m, h => upE_get (gs := r) q.2 o m h
  | .bd _ _ :: r, [], _, _, _, h, _, _, _ => h.elim
  | .mg _ _ :: r, [], _, _, _, h, _, _, _ => h.elim
  | .mu i :: r, [], _, _, _, h, _, _, _ => h.elim
  | .ro i :: r, [], _, _, _, h, _, _, _ => h.elim
  | .bo i :: r, [], _, _, _, h, _, _, _ => h.elim
  | .tm i _ :: r, [], _, _, _, h, _, _, _ => h.elim
theorem argsK_own : ∀ {gs : List Ag} {k : List Arg → Prop}, argsK gs ρ k → ∀ i ∈ muIx gs, isOwn ρ i
  | [], _, _, i, h => by simp [muIx] at h
  | .ro _ :: r, k, h, i, hi => argsK_own (gs := r) h i hi
  | .tm _ _ :: r, k, h, i, hi => argsK_own (gs := r) h i hi
  | .bo j :: r, k, h, i, hi => by
    unfold argsK at h
    split at h
    · exact argsK_own (gs := r) h i hi
    · exact h.elim
  | .mu j :: r, k, h, i, hi => by
    unfold argsK at h
    split at h
    · rename_i m a d hs
      rcases List.mem_cons.mp hi with rfl | hi
      · unfold isOwn; rw [hs]; trivial
      · exact argsK_own (gs := r) h i hi
    · exact h.elim
  | .bd js d :: r, k, h, i, hi => by
    obtain ⟨e, _, h⟩ := h
    exact argsK_own (gs := r) h i hi
  | .bg j b :: r, k, h, i, hi => by
    unfold argsK at h
    split at h
    · exact argsK_own (gs := r) h.2 i hi
    · exact h.elim
  | .mg j b :: r, k, h, i, hi => by
    unfold argsK at h
    split at h
    · rename_i m a d hs
      rcases List.mem_cons.mp hi with rfl | hi
      · unfold isOwn; rw [hs]; trivial
      · exact argsK_own (gs := r) h.2 i hi
    · exact h.elim
  | .gg j :: r, k, h, i, hi => by
    unfold argsK at h
    split at h
    · rename_i m a d hs
      rcases List.mem_cons.mp hi with rfl | hi
      · unfold isOwn; rw [hs]; trivial
      · exact argsK_own (gs := r) h i hi
    · exact h.elim
theorem noLstAll_mem : ∀ {ds : List D} {d : D}, noLstAll ds = true → d ∈ ds → chFlat d = true
  | e :: ds, d, h, hm => by
    unfold noLstAll at h
    rw [Bool.and_eq_true] at h
    rcases List.mem_cons.mp hm with rfl | hm
    · exact h.1
    · exact noLstAll_mem h.2 hm

/-- behind a call -/
theorem sr_after (I : SR Z ρ G σ H) {gs : List Ag} {vs : List V} {ds : List D} {o : Ro} {v : V} {G' H' : Hp} (q : AgsX Z ρ G σ H vs gs) (nd : (boIx gs ++ muIx gs).Nodup) (own : ∀ i ∈ muIx gs, isOwn ρ i)
    (le : LE (cutG (boA gs ρ) G H) G') (sub : LE G' H') (fr : ∀ a u, H a = some u → a ∉ muA gs ρ → H' a = some u) (gn : ∀ a, G' a ≠ none → cutG (boA gs ρ) G H a ≠ none ∨ H a = none) (mo : MusOk Z.cc G' H' (muA gs ρ) ds) (ro : ResOk Z.cc G' H H' v o)
    (bk : hasBo gs = true → flatRo o = true ∧ noLstAll ds = true) : ∃ G2, LE G G2 ∧ SR Z (upE gs ds ρ) G2 σ H' ∧ (match o with | .sh d => RvOk Z (.sh d) (upE gs ds ρ) G2 σ H' v | .fr d => ∃ a, RvOk Z (.fr a d) (upE gs ds ρ) G2 σ H' v | .gx as cs t => as.Nodup ∧ (∀ a ∈ as, a ∉ owns (upE gs ds ρ)) ∧ SR Z (upE gs ds ρ ++ ghs as cs) G2 σ H' ∧ RvOk Z (.sh t) (upE gs ds ρ ++ ghs as cs) G2 σ H' v) ∧
      (∀ a d, Root Z.cc G' H' a d → chFlat d = true ∨ hasBo gs = false → Root Z.cc G2 H' a d) ∧ (∀ a, G a = none → H a ≠ none → G2 a = none) := by
  have hB : ∀ a ∈ boA gs ρ, G a = none := fun a ha => by
    obtain ⟨i, m, d, _, hs⟩ := boA_own ha
    exact I.out i m a d hs
  have hBr : ∀ a ∈ boA gs ρ, ∃ u, H a = some u ∧ Mut (some u) ∧ a ∉ muA gs ρ := fun a ha => by
    obtain ⟨i, m, d, _, hs⟩ := boA_own ha
    obtain ⟨u, e, mt⟩ := (I.own_ob hs).ob
    exact ⟨u, e, mt, fun h => boA_apart I q nd h ha⟩
  -- the known part, without the roots that were lent
  obtain ⟨G2, hG2⟩ : ∃ G2 : Hp, G2 = fun a => if a ∈ boA gs ρ then none else G' a := ⟨_, rfl⟩
  have g2in : ∀ a ∈ boA gs ρ, G2 a = none := fun a ha => by rw [hG2]; show (if a ∈ boA gs ρ then none else G' a) = none; rw [if_pos ha]
  have g2out : ∀ a, a ∉ boA gs ρ → G2 a = G' a := fun a ha => by rw [hG2]; show (if a ∈ boA gs ρ then none else G' a) = _; rw [if_neg ha]
  have leG : LE G G' := fun a u e => le a u (by unfold cutG; rw [if_neg (fun h => by rw [hB a h] at e; cases e)]; exact e)
  have le2 : LE G G2 := fun a u e => by
    rw [g2out a (fun h => by rw [hB a h] at e; cases e)]
    exact leG a u e
  have tups : ∀ a us, G' a = some (.tup us) → G2 a = some (.tup us) := fun a us e => by
    rw [g2out a ?_]
    · exact e
    · intro h
      obtain ⟨u, eu, mt, nm⟩ := hBr a h
      have := fr a u eu nm
      rw [sub a _ e] at this
      cases this
      exact mt
  have strip : ∀ {a : Addr} {d : D}, (hasBo gs = true → chFlat d = true) → Root Z.cc G' H' a d → Root Z.cc G2 H' a d := fun {a d} hf r => by
    by_cases hb : hasBo gs = true
    · exact r.strip tups (hf hb)
    · have e : boA gs ρ = [] := hasBo_nil (by simpa using hb)
      have : G2 = G' := by funext a; exact g2out a (by rw [e]; simp)
      rw [this]; exact r
  have stripR : ∀ {v : V} {d : D}, (hasBo gs = true → noLst d = true) → Rep Z.cc G' v d → Rep Z.cc G2 v d := fun {v d} hf r => by
    by_cases hb : hasBo gs = true
    · exact r.strip tups (hf hb)
    · have e : boA gs ρ = [] := hasBo_nil (by simpa using hb)
      have : G2 = G' := by funext a; exact g2out a (by rw [e]; simp)
      rw [this]; exact r
  have muOwn : ∀ a ∈ muA gs ρ, (a ∈ Z.mu ∨ Z.H0 a = none) := fun a ha => by
    rcases muA_at q ha with ⟨i, m, d, _, hs⟩ | ⟨_, w, d, f⟩
    · have := I.frs i m a d hs
      cases m with
      | true => exact .inl this
      | false => exact .inr this.1
    · exact .inr f.2.2.2.2.1
  have g2n : ∀ a, G a = none → H a ≠ none → G2 a = none := fun a h1 h2 => by
    by_cases hb : a ∈ boA gs ρ
    · exact g2in a hb
    · rw [g2out a hb]
      cases e : G' a with
      | none => rfl
      | some u =>
        rcases gn a (by rw [e]; simp) with z | z
        · unfold cutG at z; rw [if_neg hb] at z; exact absurd h1 z
        · exact absurd z h2
  have J : SR Z (upE gs ds ρ) G2 σ H' := by
    refine ⟨by rw [upE_len]; exact I.len, fun a u e => ?_, fun j s e => ?_, fun i j p r a d b x e1 e2 hn => ?_, fun j m a d e => ?_, fun a u e hn => ?_, fun j m a d e => ?_, fun a ha => ?_, fun a u e => le2 _ _ (I.g0 a u e), fun a ha => ?_, fun a ha => ?_⟩
    · by_cases hb : a ∈ boA gs ρ
      · rw [g2in a hb] at e; cases e
      · rw [g2out a hb] at e; exact sub a u e
    · rcases upE_get q own mo e with ⟨e, hj⟩ | ⟨m, a, d, d', h1, rfl, h3, h4, h5, h6⟩
      · have so := I.slot j s e
        cases s with
        | no => trivial
        | sh d => obtain ⟨u, eu, r⟩ := so; exact ⟨u, eu, r.mono le2⟩
        | own m a d =>
          refine ⟨so.1, (so.2.mono le2).heap fun u hu => fr a u hu fun hm => ?_⟩
          rcases muA_at q hm with ⟨i, m', d', hi, hs⟩ | ⟨_, w, d', f⟩
          · exact I.inj j i m m' a d a d' e hs (fun z => hj (z ▸ hi)) rfl
          · exact f.2.2.2.1 j m a d e rfl
      · exact ⟨(I.slot j _ h1).1, strip (fun hb => noLstAll_mem (bk hb).2 h6) h4⟩
    · have f : ∀ {i : Nat} {p : Bool} {a : Addr} {d : D}, (upE gs ds ρ)[i]? = some (.own p a d) → ∃ d0, ρ[i]? = some (.own p a d0) := fun {i p a d} e => by
        rcases upE_get q own mo e with ⟨e, _⟩ | ⟨m, a, d0, d', h1, h2, _⟩
        · exact ⟨_, e⟩
        · cases h2; exact ⟨_, h1⟩
      obtain ⟨_, e1⟩ := f e1
      obtain ⟨_, e2⟩ := f e2
      exact I.inj i j p r a _ b _ e1 e2 hn
    · have : ∃ d0, ρ[j]? = some (.own m a d0) := by
        rcases upE_get q own mo e with ⟨e, _⟩ | ⟨m, a, d0, d', h1, h2, _⟩
        · exact ⟨_, e⟩
        · cases h2; exact ⟨_, h1⟩
      obtain ⟨_, e⟩ := this
      obtain ⟨u, eu, _⟩ := (I.own_ob e).ob
      exact g2n a (I.out j m a _ e) (by rw [eu]; simp)
    · have h1 := I.ent a u e hn
      refine fr a u h1 fun hm => ?_
      rcases muOwn a hm with z | z
      · exact hn z
      · rw [z] at e; cases e
    · have : ∃ d0, ρ[j]? = some (.own m a d0) := by
        rcases upE_get q own mo e with ⟨e, _⟩ | ⟨m, a, d0, d', h1, h2, _⟩
        · exact ⟨_, e⟩
        · cases h2; exact ⟨_, h1⟩
      obtain ⟨_, e⟩ := this
      exact I.frs j m a _ e
    · have hb : a ∉ boA gs ρ := fun h => ha (g2in a h)
      rw [g2out a hb] at ha
      rcases gn a ha with z | z
      · unfold cutG at z; rw [if_neg hb] at z; exact I.gnew a z
      · exact .inr (I.h0 z).1
    · exact g2n a (I.mout a ha) (I.mux a ha)
    · by_cases hm : a ∈ muA gs ρ
      · -- a root that was changed still stands
        have ex : ∀ {mus : List Addr} {ds : List D}, MusOk Z.cc G' H' mus ds → a ∈ mus → H' a ≠ none := by
          intro mus
          induction mus with
          | nil => intro _ _ h; simp at h
          | cons b mus ih =>
            intro ds h hm
            cases ds with
            | nil => exact h.elim
            | cons d ds =>
              rcases List.mem_cons.mp hm with rfl | hm
              · obtain ⟨u, eu, _⟩ := h.1.ob
                rw [eu]; simp
              · exact ih h.2.2 hm
        exact ex mo hm
      · cases e : H a with
        | none => exact absurd e (I.mux a ha)
        | some u => rw [fr a u e hm]; simp
  refine ⟨G2, le2, J, ?_, fun a d r hf => strip (fun hb => hf.resolve_right (by rw [hb]; simp)) r, g2n⟩
  cases o with
  | sh d => exact stripR (fun hb => (bk hb).1) ro
  | fr d =>
    obtain ⟨a, rfl, rt, ga, ha⟩ := ro
    have hz := I.h0 ha
    refine ⟨a, rfl, strip (fun hb => (bk hb).1) rt, ?_, fun i m b e h => ?_, hz.1, hz.2⟩
    · by_cases hb : a ∈ boA gs ρ
      · exact g2in a hb
      · rw [g2out a hb]; exact ga
    · rcases upE_get q own mo h with ⟨h, _⟩ | ⟨m, a', d0, d', h1, h2, _⟩
      · exact I.own_ne h ha
      · cases h2; exact I.own_ne h1 ha
  | gx as cs t =>
    obtain ⟨h2, h3, h4, h5⟩ := ro
    have nb : hasBo gs = false := by
      cases e : hasBo gs with
      | false => rfl
      | true => have := (bk e).1; cases this
    have e : boA gs ρ = [] := hasBo_nil nb
    have eG : G2 = G' := by funext a; exact g2out a (by rw [e]; simp)
    have ap : ∀ (i : Nat) (a : Addr) (d : D), as[i]? = some a → cs[i]? = some d → ∀ (j : Nat) (m : Bool) (b : Addr) (e : D), (upE gs ds ρ)[j]? = some (.own m b e) → b ≠ a := fun i a d e1 e2 j m b e h => by
      have r3 := (h5 i a d e1 e2).2.2
      rcases upE_get q own mo h with ⟨h, _⟩ | ⟨m, a', d0, d', h1, h2, _⟩
      · exact I.own_ne h r3
      · cases h2; exact I.own_ne h1 r3
    refine ⟨h2, fun a ha ho => ?_, J.addGs h2 fun i a d e1 e2 => ?_, by rw [eG]; exact h4⟩
    · obtain ⟨i, hi⟩ := List.getElem?_of_mem ha
      obtain ⟨j, m, d, hj⟩ := owns_mem.mp ho
      have hl : i < cs.length := by rw [← h3]; exact (List.getElem?_eq_some_iff.mp hi).1
      exact ap i a _ hi (List.getElem?_eq_getElem hl) j m a d hj rfl
    · obtain ⟨r1, r2, r3⟩ := h5 i a d e1 e2
      have hz := I.h0 r3
      exact ⟨by rw [eG]; exact r1, by rw [eG]; exact r2, ap i a d e1 e2, hz.1, hz.2⟩
end
section
variable {X : Cx} {Z : Zone} {C : Ccs} {k : Nat} {f : Addr} {fd : FuncData} {ps : List Str} {sp : FSpec} {aw : AgW} {x : Str} {p pos : Pos} {e : Expr} {es : List Expr}
/-- from a call's word to the promise below -/
theorem call_lsp {np : Nat} {σ : L2.St} {H : Hp} {Q : VK} {ρ : REnv} {G : Hp} {K : Rv → REnv → Prop} {gs : List Ag} {vs : List V} {E : XK} (hcc : Z.cc = C.cc) (hz : Z.xk = xk0) (hl : vs.length = np) (I : SR Z ρ G σ H) (q : AgsX Z ρ G σ H vs gs) (h : callK sp gs ρ Z.xk K)
    (fin : ∀ r ρ' v H' G', LE G G' → SR Z ρ' G' σ H' → RvOk Z r ρ' G' σ H' v → K r ρ' → Q v H') : LSp0 C sp np vs H Q E := by
  rw [hz] at h
  obtain ⟨nd, tm, h⟩ := h
  have own := argsK_own h
  have hB : ∀ a ∈ boA gs ρ, G a = none := fun a ha => by
    obtain ⟨i, m, d, _, hs⟩ := boA_own ha
    exact I.out i m a d hs
  obtain ⟨args, ao, hs⟩ := args_ok I hB q (fun _ h => h) (fun a h => boA_apart I q nd h) (muA_nd I q (List.nodup_append.mp nd).2.1 tm) h
  refine ⟨hl, args, cutG (boA gs ρ) G H, muA gs ρ, _, fun a u e => ?_, by rw [← hcc]; exact ao, hs, fun o ds v H' G' le sub fr gn mo ro hk => ?_⟩
  · unfold cutG at e
    split at e
    · exact e
    · exact I.sub a u e
  · rw [← hcc] at mo ro
    obtain ⟨G2, le2, J, hr, _, _⟩ := sr_after I q nd own le sub fr gn mo ro hk.1
    cases o with
    | sh d => exact fin (.sh d) _ v H' G2 le2 J hr hk.2
    | fr d => obtain ⟨a, hr⟩ := hr; exact fin (.fr a d) _ v H' G2 le2 J hr (hk.2 a)
    | gx as cs t => obtain ⟨h1, h2, h3, h4⟩ := hr; exact fin (.sh t) _ v H' G2 le2 h3 h4 (hk.2 h1 h2)
theorem AgsOk.len {ρ : REnv} {G H : Hp} {σ : L2.St} : ∀ {vs : List V} {gs : List Ag}, AgsOk Z ρ G σ H vs gs → vs.length = gs.length
  | [], [], _ => rfl
  | v :: vs, g :: gs, h => by simp [AgsOk.len h.2]
  | [], _ :: _, h => h.elim
  | _ :: _, [], h => h.elim
/-- f(e, ..) -/
def eCall (np : Nat) (sp : FSpec) (aw : AgW) : EW := fun xk ρ K => aw xk ρ fun gs ρ1 => gs.length = np ∧ callK sp gs ρ1 xk K
theorem via_call {E : XK} {np : Nat} (hcc : Z.cc = C.cc) (hz : Z.xk = xk0) : Via Z (tCall (LSp0 C sp np) [] E (Tag Z aw)) (eCall np sp aw) := fun σ H Q ⟨ρ, G, K, IR, hw, q⟩ =>
  ⟨ρ, G, _, IR, hw, fun gs ρ' vs H' G' le I' qs k => by
    show LSp0 C sp np (vs ++ []) H' Q E
    rw [List.append_nil]
    exact call_lsp hcc hz (by rw [qs.len]; exact k.1) I' qs.x0 k.2 fun r ρ2 v H2 G2 le2 I2 q2 k2 => q r ρ2 v H2 G2 (le.trans le2) I2 q2 k2⟩
theorem de_call (hcc : Z.cc = C.cc) (hz : Z.xk = xk0) (F : FnOk X.prog X.w X.K X.mg X.base CX0 k f fd ps (LSp0 C sp ps.length)) (hr : Room k X.A) (hm : X.mg x = some (.ref f)) (hk : PySem.W.keepIn X.K (.ref f) = true) (hb : Binds X.K fd ps [])
    (ha : PA X (e :: es) (Tag Z aw)) (hg : Gl X x := by rfl) (hdb : (x == ("__debug__" : Str)) = false := by decide) (he : starEach (e :: es) X.env = (false, eval e X.env) :: starEach es X.env := by rfl) (hpl : (backTo pos (starEach es X.env)).any (·.1) = false := by rfl) :
    PE X (.Call (.Name x p) (e :: es) [] pos) (T Z (eCall ps.length sp aw)) := pvia (pe_call F hr hg hm hk hb .nil pass0 ha hdb he hpl) (via_call hcc hz)
end
end TL

namespace TL
open PySem PySem.Spec L2

section
variable {cc : CC}
theorem Reps.atI {G : Hp} {vs : List V} {ds : List D} {i : Int} {d : D} (r : Reps cc G vs ds) (h : L2.atI ds i = some d) : ∃ v, L2.atI vs i = some v ∧ Rep cc G v d := by
  unfold L2.atI at h ⊢
  rw [r.length]
  cases e : ixN ds.length i with
  | none => rw [e] at h; cases h
  | some j =>
    rw [e] at h
    exact r.get h
def opIx : D → D → OW
  | .lst ds, .int i => fun k => ∃ d, L2.atI ds i = some d ∧ k (.sh d)
  | .tup ds, .int i => fun k => ∃ d, L2.atI ds i = some d ∧ k (.sh d)
  | .str z, .int i => fun k => z.length ≤ sizeLine ∧ ∃ c, L2.atI z.cps.toList i = some c ∧ k (.sh (.str ⟨#[c]⟩))
  | _, _ => fun _ => False
theorem ops_ix {K : PySem.W.Frag} (hK : cc.K = K) : OpS cc opIx (rIx K) := by
  subst hK
  intro G H x y d e k Q le v1 v2 _ _ ho fin
  unfold opIx at ho
  split at ho
  · obtain ⟨a, vs, ea, ra, qa⟩ := v1
    obtain ⟨d, hd, hk⟩ := ho
    obtain ⟨v, hv, rv⟩ := qa.atI hd
    exact .inl ⟨a, vs, _, v, ea, v2, ra, hv, (fin _ hk).1 _ rv⟩
  · obtain ⟨a, vs, ea, ra, qa⟩ := v1
    obtain ⟨d, hd, hk⟩ := ho
    obtain ⟨v, hv, rv⟩ := qa.atI hd
    exact .inr (.inl ⟨a, vs, _, v, ea, v2, SqT.of ra, hv, (fin _ hk).1 _ rv⟩)
  · obtain ⟨hl, c, hc, hk⟩ := ho
    exact .inr (.inr ⟨_, _, c, v1, v2, hl, hc, (fin _ hk).1 _ rep_str⟩)
  · exact ho.elim
end
section
variable {X : Cx} {Z : Zone} {a b e : Expr} {wa wb w : EW} {pos : Pos}
theorem de_ix (hK : Z.cc.K = X.K) (ha : PE X a (T Z wa)) (hb : PE X b (T Z wb)) (hs : PlainIx b := by intro _ _; rfl) : PE X (.Subscript a b pos) (T Z (eBin opIx wa wb)) := pvia (pe_ix ix_seq ha hb hs) (via_bin (ops_ix hK))

/-! ### slices -/
abbrev PWt := Xk → REnv → (Option Int → REnv → Prop) → Prop
def pNone : PWt := fun _ ρ K => K none ρ
def pSome (w : EW) : PWt := fun xk ρ K => w xk ρ fun r ρ1 => match r.get ρ1 with | .int i => K (some i) ρ1 | _ => False
def Tp (Z : Zone) (w : PWt) : TO := fun σ H Q => ∃ ρ G K, SR Z ρ G σ H ∧ w Z.xk ρ K ∧ ∀ o ρ' H' G', LE G G' → SR Z ρ' G' σ H' → K o ρ' → Q o H'
theorem dp_none : PO X none (Tp Z pNone) := ⟨fun pins s σ H Q I ⟨ρ, G, K, IR, hw, q⟩ => po_none.run pins s σ H Q I (q none ρ H G (LE.refl G) IR hw)⟩
theorem dp_some (h : PE X e (T Z w)) : PO X (some e) (Tp Z (pSome w)) := ⟨fun pins s σ H Q I ⟨ρ, G, K, IR, hw, q⟩ => (po_some h).run pins s σ H Q I ⟨ρ, G, _, IR, hw, fun r ρ' v H' G' le I' qr k => by
  have vw := qr.view I'
  split at k
  · rename_i i hd
    rw [hd] at vw
    exact ⟨i, vw, q (some i) ρ' H' G' le I' k⟩
  · exact k.elim⟩⟩
def cutL {α : Type} (xs : List α) (lo hi : Option Int) : List α := (xs.drop (HT.sIx xs.length 0 lo)).take (HT.sIx xs.length xs.length hi - HT.sIx xs.length 0 lo)
theorem Reps.cut {cc : CC} {G : Hp} {vs : List V} {ds : List D} (r : Reps cc G vs ds) (lo hi : Option Int) : Reps cc G (cutV vs lo hi) (cutL ds lo hi) := by
  unfold cutV cutL
  rw [r.length]
  exact (r.drop _).take _
def opSl (lo hi : Option Int) : D → OW
  | .lst ds => fun k => k (.fr (.lst (cutL ds lo hi)))
  | _ => fun _ => False
def eSl (wa : EW) (pl ph : PWt) : EW := fun xk ρ K => wa xk ρ fun r ρ1 => pl xk ρ1 fun l ρ2 => ph xk ρ2 fun h ρ3 => pok r ρ3 ∧ opSl l h (r.get ρ3) fun o => out o ρ3 K
theorem pend_mono {r : Rv} {ρ ρ' : REnv} {G G' H H' : Hp} {σ : L2.St} {v : V} (le : LE G G') (q : RvOk Z r.pend ρ G σ H v) (pk : pok r ρ') : RvOk Z r.pend ρ' G' σ H' v := by
  cases r with
  | loc i => exact ⟨q.1, pk⟩
  | sh d => exact Rep.mono (d := d) le q
  | fr a d => exact Rep.mono (d := d) le q
  | gh j a => exact ⟨q.1, pk⟩
  | gx as cs t => exact Rep.mono (d := t) le q
theorem de_slice {lo hi : Option Expr} {pl ph : PWt} {p2 : Pos} (hK : Z.cc.K = X.K) (he : PE X e (T Z wa)) (hl : PO X lo (Tp Z pl)) (hu : PO X hi (Tp Z ph)) : PE X (.Subscript e (.Slice lo hi none p2) pos) (T Z (eSl wa pl ph)) :=
  ⟨fun pins s σ H Q I ⟨ρ, G, K, IR, hw, q⟩ => (pe_slice sl_list he hl hu).run pins s σ H Q I ⟨ρ, G, _, IR, hw, fun r ρ1 x H1 G1 le1 I1 q1 k1 => by
    obtain ⟨G1', le, I1', q1'⟩ := I1.freeze q1
    refine ⟨ρ1, G1', _, I1', k1, fun l ρ2 H2 G2 le2 I2 k2 => ⟨ρ2, G2, _, I2, k2, fun h ρ3 H3 G3 le3 I3 k3 => ?_⟩⟩
    have qf := pend_mono (H' := H3) (le2.trans le3) q1' k3.1
    have vw := qf.view I3
    rw [Rv.get_pend] at vw
    have k4 := k3.2
    cases hd : r.get ρ3 <;> rw [hd] at k4 vw <;> try exact (k4 : False).elim
    rename_i ds
    obtain ⟨a, vs, ea, ra, rs⟩ := vw
    refine ⟨a, vs, ea, by rw [← hK]; exact ra, fun p hp => ?_⟩
    exact (T.fin (o := .fr (.lst (cutL ds l h))) I3 (((le1.trans le).trans le2).trans le3) k4 q) p _ hp ⟨_, upd_same, rs.cut l h⟩⟩⟩
def opRev : D → OW
  | .lst ds => fun k => k (.fr (.lst ds.reverse))
  | _ => fun _ => False
theorem de_rev {k : Nat} {p1 p2 p3 : Pos} (hK : Z.cc.K = X.K) (he : PE X e (T Z w)) : PE X (.Subscript e (.Slice none none (some (.UnaryOp .USub (.Constant (.int 1) k p1) p2)) p3) pos) (T Z (eUn opRev w)) :=
  pvia (pe_revL he) (via_un (r := fun x H Q => ∃ a xs, x = .ref a ∧ SqL X.K H a xs ∧ ∀ p, H p = none → Q (.ref p) (upd H p (.lst xs.reverse))) fun G H x d k Q le v _ ho fin => by
    unfold opRev at ho
    split at ho
    · obtain ⟨a, vs, ea, ra, rs⟩ := v
      exact ⟨a, vs, ea, by rw [← hK]; exact ra, fun p hp => (fin _ ho) p _ hp ⟨_, upd_same, rs.reverse⟩⟩
    · exact ho.elim)

/-! ### built-in functions -/
variable {x : Str} {p : Pos} {id TT : String} {r : List V → Hp → VK → Prop}
theorem via_c1 {op : D → OW} (hs : OpS1 Z.cc op fun v H Q => r [v] H Q) : Via Z (tCB r (tCons (T Z w) tNil)) (eUn op w) := via_un hs
theorem de_b1 {op : D → OW} (hc : CallR X (.builtin id) r) (hs : OpS1 Z.cc op fun v H Q => r [v] H Q) (hm : X.mg x = none) (ha : PE X e (T Z w)) (hv : bootBuiltins x = some (.builtin id) := by decide +kernel) (hg : Gl X x := by rfl) (hn : x ≠ "__name__" := by decide) (hdb : (x == ("__debug__" : Str)) = false := by decide)
    (hst : starEach [e] X.env = (false, eval e X.env) :: starEach [] X.env := by rfl) (hpl : (backTo pos (starEach [] X.env)).any (·.1) = false := by rfl) : PE X (.Call (.Name x p) [e] [] pos) (T Z (eUn op w)) :=
  pvia (pe_callB hc hg hm hv (pa_cons ha pa_nil hst) hn hdb hst hpl) (via_c1 hs)
theorem de_t1 {op : D → OW} (hc : CallR X (.type TT) r) (hs : OpS1 Z.cc op fun v H Q => r [v] H Q) (hm : X.mg x = none) (ha : PE X e (T Z w)) (hv : bootBuiltins x = some (.type TT) := by decide +kernel) (hg : Gl X x := by rfl) (hn : x ≠ "__name__" := by decide) (hdb : (x == ("__debug__" : Str)) = false := by decide)
    (hst : starEach [e] X.env = (false, eval e X.env) :: starEach [] X.env := by rfl) (hpl : (backTo pos (starEach [] X.env)).any (·.1) = false := by rfl) : PE X (.Call (.Name x p) [e] [] pos) (T Z (eUn op w)) :=
  pvia (pe_callTy hc hg hm hv (pa_cons ha pa_nil hst) hn hdb hst hpl) (via_c1 hs)
end
section
variable {cc : CC} {X : Cx}
def opAbs : D → OW
  | .int i => fun k => k (.sh (.int (if i < 0 then -i else i)))
  | _ => fun _ => False
theorem ops_abs : OpS1 cc opAbs fun v H Q => (fun xs H Q => ∃ i, xs = [V.int i] ∧ Q (.int (if i < 0 then -i else i)) H) [v] H Q := by
  intro G H x d k Q le v _ ho fin
  unfold opAbs at ho
  split at ho
  · exact ⟨_, by rw [show x = _ from v], (fin _ ho).1 _ rep_int⟩
  · exact ho.elim
def opInt : D → OW
  | .int i => fun k => k (.sh (.int i))
  | .bl b => fun k => k (.sh (.int (if b then 1 else 0)))
  | _ => fun _ => False
theorem ops_int1 : OpS1 cc opInt fun v H Q => (fun xs H Q => (∃ i, xs = [V.int i] ∧ Q (.int i) H) ∨ ∃ k, xs = [.bl k] ∧ Q (.int (if k then 1 else 0)) H) [v] H Q := by
  intro G H x d k Q le v _ ho fin
  unfold opInt at ho
  split at ho
  · exact .inl ⟨_, by rw [show x = _ from v], (fin _ ho).1 _ rep_int⟩
  · exact .inr ⟨_, by rw [show x = _ from v], (fin _ ho).1 _ rep_int⟩
  · exact ho.elim
def opMax2 : D → D → OW
  | .int i, .int j => fun k => k (.sh (.int (if j > i then j else i)))
  | _, _ => fun _ => False
def opMin2 : D → D → OW
  | .int i, .int j => fun k => k (.sh (.int (if j < i then j else i)))
  | _, _ => fun _ => False
def opLen : D → OW
  | .lst ds => fun k => k (.sh (.int ds.length))
  | .tup ds => fun k => k (.sh (.int ds.length))
  | .str z => fun k => z.length ≤ sizeLine ∧ k (.sh (.int z.length))
  | _ => fun _ => False
abbrev rLen (K : PySem.W.Frag) : List V → Hp → VK → Prop := fun xs H Q => (∃ p ys, xs = [.ref p] ∧ (SqL K H p ys ∨ SqT K H p ys) ∧ Q (.int ys.length) H) ∨ (∃ z, xs = [.str z] ∧ z.length ≤ sizeLine ∧ Q (.int z.length) H)
theorem call_lenA : CallR X (.builtin "len") (rLen X.K) := call_len_seq.or call_len_str
theorem ops_len {K : PySem.W.Frag} (hK : cc.K = K) : OpS1 cc opLen fun v H Q => rLen K [v] H Q := by
  subst hK
  intro G H x d k Q le v _ ho fin
  unfold opLen at ho
  split at ho
  · obtain ⟨a, vs, ea, ra, rs⟩ := v
    exact .inl ⟨a, vs, by rw [ea], .inl (ra), by rw [rs.length]; exact (fin _ ho).1 _ rep_int⟩
  · obtain ⟨a, vs, ea, ra, rs⟩ := v
    exact .inl ⟨a, vs, by rw [ea], .inr (SqT.of ra), by rw [rs.length]; exact (fin _ ho).1 _ rep_int⟩
  · exact .inr ⟨_, by rw [show x = _ from v], ho.1, (fin _ ho.2).1 _ rep_int⟩
  · exact ho.elim
def opList : D → OW
  | .lst ds => fun k => k (.fr (.lst ds))
  | .tup ds => fun k => k (.fr (.lst ds))
  | _ => fun _ => False
theorem ops_list {K : PySem.W.Frag} (hK : cc.K = K) : OpS1 cc opList fun v H Q => (fun xs H Q => ∃ p ys, xs = [V.ref p] ∧ (SqL K H p ys ∨ SqT K H p ys) ∧ ∀ l, H l = none → Q (.ref l) (upd H l (.lst ys))) [v] H Q := by
  subst hK
  intro G H x d k Q le v _ ho fin
  unfold opList at ho
  split at ho
  · obtain ⟨a, vs, ea, ra, rs⟩ := v
    exact ⟨a, vs, by rw [ea], .inl (ra), fun l hl => (fin _ ho) l _ hl ⟨_, upd_same, rs⟩⟩
  · obtain ⟨a, vs, ea, ra, rs⟩ := v
    exact ⟨a, vs, by rw [ea], .inr (SqT.of ra), fun l hl => (fin _ ho) l _ hl ⟨_, upd_same, rs⟩⟩
  · exact ho.elim
theorem Reps.bls {G : Hp} : ∀ {ns : List Bool} {vs : List V}, Reps cc G vs (ns.map D.bl) → vs = ns.map V.bl
  | [], _, h => h.inv_nil
  | n :: ns, _, h => by
    obtain ⟨v, r, rfl, rv, rr⟩ := h.inv_cons
    unfold Rep at rv
    rw [rv, Reps.bls rr]
    rfl
def opAll : D → OW
  | .lst ds => fun k => ∃ bs : List Bool, ds = bs.map D.bl ∧ k (.sh (.bl (bs.all id)))
  | _ => fun _ => False
theorem ops_all {K : PySem.W.Frag} (hK : cc.K = K) : OpS1 cc opAll fun v H Q => rAll K [v] H Q := by
  subst hK
  intro G H x d k Q le v _ ho fin
  unfold opAll at ho
  split at ho
  · obtain ⟨a, vs, ea, ra, rs⟩ := v
    obtain ⟨ns, rfl, hk⟩ := ho
    have e := rs.bls
    subst e
    exact ⟨a, ns, by rw [ea], ra, (fin _ hk).1 _ rep_bl⟩
  · exact ho.elim
/-! ### == and != -/
mutual
def pd : D → PyData
  | .non => .none
  | .bl b => .bool b
  | .int i => .int i
  | .str x => .str x
  | .tup ds => .tuple (pds ds)
  | .lst ds => .list (pds ds)
  | .obj _ _ => .none
  | .dct _ _ => .none
  | .dic _ _ => .none
  | .ptr _ => .none
def pds : List D → List PyData
  | [] => []
  | d :: ds => pd d :: pds ds
end
mutual
/-- plain data, at most n deep -/
def okD (n : Nat) : D → Bool
  | .non => true
  | .bl _ => true
  | .int _ => true
  | .str x => PyData.strOk x
  | .tup ds => match n with | 0 => false | m + 1 => okDs m ds
  | .lst ds => match n with | 0 => false | m + 1 => okDs m ds
  | .obj _ _ => false
  | .dct _ _ => false
  | .dic _ _ => false
  | .ptr _ => false
def okDs (n : Nat) : List D → Bool
  | [] => true
  | d :: ds => okD n d && okDs n ds
end
def eqD (d e : D) : Bool := PyData.eqv (pd d) (pd e)
def eqDs (d e : List D) : Bool := PyData.eqvAll (pds d) (pds e)
mutual
theorem okD_lay : ∀ {n : Nat} {d : D}, okD n d = true → PyData.canLay0 (pd d) = true ∧ PyData.depth (pd d) ≤ n
  | n, .non, _ => by simp [pd, PyData.canLay0, PyData.depth]
  | n, .bl _, _ => by simp [pd, PyData.canLay0, PyData.depth]
  | n, .int _, _ => by simp [pd, PyData.canLay0, PyData.depth]
  | n, .str x, h => by
    have : PyData.strOk x = true := by simpa [okD] using h
    simp [pd, PyData.canLay0, PyData.depth, this]
  | 0, .tup ds, h => by simp [okD] at h
  | n + 1, .tup ds, h => by
    have := okDs_lay (n := n) (ds := ds) (by simpa [okD] using h)
    simp only [pd, PyData.canLay0, PyData.depth]
    exact ⟨this.1, by omega⟩
  | 0, .lst ds, h => by simp [okD] at h
  | n + 1, .lst ds, h => by
    have := okDs_lay (n := n) (ds := ds) (by simpa [okD] using h)
    simp only [pd, PyData.canLay0, PyData.depth]
    exact ⟨this.1, by omega⟩
  | n, .obj _ _, h => by simp [okD] at h
  | n, .dct _ _, h => by simp [okD] at h
  | n, .dic _ _, h => by simp [okD] at h
  | n, .ptr _, h => by simp [okD] at h
theorem okDs_lay : ∀ {n : Nat} {ds : List D}, okDs n ds = true → PyData.canLayAll0 (pds ds) = true ∧ PyData.depthAll (pds ds) ≤ n
  | n, [], _ => by simp [pds, PyData.canLayAll0, PyData.depthAll]
  | n, d :: ds, h => by
    have h : okD n d = true ∧ okDs n ds = true := by simpa [okDs] using h
    have h1 := okD_lay h.1
    have h2 := okDs_lay h.2
    simp only [pds, PyData.canLayAll0, PyData.depthAll, Bool.and_eq_true]
    exact ⟨⟨h1.1, h2.1⟩, by omega⟩
end
theorem okD_shaped {d : D} (h : okD 64 d = true) : SeqAt.shaped (pd d) = true := by
  have := okD_lay h
  unfold SeqAt.shaped
  rw [this.1, Bool.true_and]
  exact decide_eq_true this.2
mutual
theorem okD_dp {H : Hp} : ∀ {n : Nat} {d : D} {v : V}, okD n d = true → Rep cc H v d → Dp cc.K H v (pd d)
  | n, .non, v, _, r => by unfold Rep at r; subst r; exact .non
  | n, .bl _, v, _, r => by unfold Rep at r; subst r; exact .bl _
  | n, .int _, v, _, r => by unfold Rep at r; subst r; exact .int _
  | n, .str x, v, _, r => by unfold Rep at r; subst r; exact .str _
  | 0, .tup ds, _, h, _ => by simp [okD] at h
  | n + 1, .tup ds, v, h, r => by
    unfold Rep at r
    obtain ⟨a, vs, rfl, ra, rs⟩ := r
    exact .tup (SqT.of ra) (okDs_dp (n := n) (by simpa [okD] using h) rs)
  | 0, .lst ds, _, h, _ => by simp [okD] at h
  | n + 1, .lst ds, v, h, r => by
    unfold Rep at r
    obtain ⟨a, vs, rfl, ra, rs⟩ := r
    exact .lst (ra) (okDs_dp (n := n) (by simpa [okD] using h) rs)
  | n, .obj _ _, _, h, _ => by simp [okD] at h
  | n, .dct _ _, _, h, _ => by simp [okD] at h
  | n, .dic _ _, _, h, _ => by simp [okD] at h
  | n, .ptr _, _, h, _ => by simp [okD] at h
theorem okDs_dp {H : Hp} : ∀ {n : Nat} {ds : List D} {vs : List V}, okDs n ds = true → Reps cc H vs ds → DpAll cc.K H vs (pds ds)
  | n, [], vs, _, r => by rw [r.inv_nil]; exact .nil
  | n, d :: ds, vs, h, r => by
    have h : okD n d = true ∧ okDs n ds = true := by simpa [okDs] using h
    obtain ⟨v, us, rfl, rv, rr⟩ := r.inv_cons
    exact .cons (okD_dp h.1 rv) (okDs_dp h.2 rr)
end
def opEq : D → D → OW := fun d e k => (okD 64 d = true ∧ okD 64 e = true) ∧ k (.sh (.bl (eqD d e)))
def opNe : D → D → OW := fun d e k => (okD 64 d = true ∧ okD 64 e = true) ∧ k (.sh (.bl (!eqD d e)))
theorem ops_eq {K : PySem.W.Frag} (hK : cc.K = K) : OpS cc opEq (rEqD K) := by
  subst hK
  intro G H x y d e k Q le _ _ r1 r2 ho fin
  exact ⟨pd d, pd e, okD_dp ho.1.1 r1, okD_dp ho.1.2 r2, okD_shaped ho.1.1, okD_shaped ho.1.2, (fin _ ho.2).1 _ rep_bl⟩
theorem ops_ne {K : PySem.W.Frag} (hK : cc.K = K) : OpS cc opNe (rNeD K) := by
  subst hK
  intro G H x y d e k Q le _ _ r1 r2 ho fin
  exact ⟨pd d, pd e, okD_dp ho.1.1 r1, okD_dp ho.1.2 r2, okD_shaped ho.1.1, okD_shaped ho.1.2, (fin _ ho.2).1 _ rep_bl⟩
/-! ### is None -/
def isNon : D → Bool
  | .non => true
  | _ => false
def opIsN : D → OW := fun d k => k (.sh (.bl (isNon d)))
def opNotN : D → OW := fun d k => k (.sh (.bl (!isNon d)))
end
section
variable {X : Cx} {Z : Zone} {e : Expr} {w : EW} {pos : Pos}
end
end TL

namespace TL
open PySem PySem.Spec L2

theorem zip_lookup {f : Str} {v : V} : ∀ {ks : List Str} {vs : List V} {j : Nat}, ks.Nodup → ks[j]? = some f → vs[j]? = some v → (ks.zip vs).lookup f = some v
  | [], _, _, _, h, _ => by simp at h
  | k :: ks, [], _, _, _, h => by simp at h
  | k :: ks, v' :: vs, 0, nd, h1, h2 => by
    simp at h1 h2; subst h1; subst h2
    simp [List.lookup_cons]
  | k :: ks, v' :: vs, j + 1, nd, h1, h2 => by
    simp at h1 h2
    have : (f == k) = false := by
      have := (List.nodup_cons.mp nd).1
      simp only [beq_eq_false_iff_ne, ne_eq]
      rintro rfl
      exact this (List.mem_of_getElem? h1)
    simp only [List.zip_cons_cons, List.lookup_cons, this]
    exact zip_lookup (List.nodup_cons.mp nd).2 h1 h2
theorem zip_none {f : Str} : ∀ {ks : List Str} {vs : List V}, f ∉ ks → (ks.zip vs).lookup f = none
  | [], _, _ => by simp
  | k :: ks, [], _ => by simp
  | k :: ks, v :: vs, h => by
    have : (f == k) = false := by
      simp only [beq_eq_false_iff_ne, ne_eq]
      rintro rfl
      exact h List.mem_cons_self
    simp only [List.zip_cons_cons, List.lookup_cons, this]
    exact zip_none fun z => h (List.mem_cons_of_mem _ z)
def setAt {α : Type} (xs : List α) (j : Nat) (x : α) : List α := if j < xs.length then xs.set j x else xs ++ [x]
theorem putF_zip {f : Str} {v : V} : ∀ {ks : List Str} {vs : List V} {j : Nat}, ks.Nodup → ks[j]? = some f → j ≤ vs.length → putF f v (ks.zip vs) = ks.zip (setAt vs j v)
  | [], _, _, _, h, _ => by simp at h
  | k :: ks, [], j, nd, h1, h2 => by
    have : j = 0 := by simpa using h2
    subst this
    simp at h1; subst h1
    simp [putF, setAt]
  | k :: ks, u :: vs, 0, nd, h1, h2 => by
    simp at h1; subst h1
    show (if k = k then _ else _) = _
    rw [if_pos rfl]
    rfl
  | k :: ks, u :: vs, j + 1, nd, h1, h2 => by
    simp at h1 h2
    have hk : ¬ k = f := by
      rintro rfl
      exact (List.nodup_cons.mp nd).1 (List.mem_of_getElem? h1)
    have ih := putF_zip (v := v) (vs := vs) (List.nodup_cons.mp nd).2 h1 h2
    show (if k = f then (k, v) :: ks.zip vs else (k, u) :: putF f v (ks.zip vs)) = _
    rw [if_neg hk, ih]
    unfold setAt
    simp only [List.length_cons, Nat.succ_lt_succ_iff]
    split <;> simp
theorem Reps.setAt {cc : CC} {G : Hp} {vs : List V} {ds : List D} {j : Nat} {v : V} {d : D} (r : Reps cc G vs ds) (q : Rep cc G v d) : Reps cc G (TL.setAt vs j v) (TL.setAt ds j d) := by
  unfold TL.setAt
  rw [r.length]
  split
  · exact r.set j q
  · exact r.append (Reps.cons q Reps.nil)
theorem setAt_len {α : Type} {xs : List α} {j : Nat} {x : α} {n : Nat} (h : xs.length ≤ n) (hj : j ≤ xs.length) (hn : j < n) : (setAt xs j x).length ≤ n := by
  unfold setAt
  split
  · simpa using h
  · simp; omega

/-- what a class must have to be read and stored -/
structure ClsOk (K : PySem.W.Frag) (C : Addr × List Str) : Prop where
  cl : Cls K C.1
  na : ∀ f ∈ C.2, NoAttr K C.1 f
  nd : C.2.Nodup
  few : C.2.length ≤ 900
section
variable {X : Cx} {Z : Zone} {e : Expr} {w : EW} {pos : Pos} {c j i : Nat} {f : Str}
def eFld (c j : Nat) (w : EW) : EW := fun xk ρ K => w xk ρ fun r ρ1 => match r.get ρ1 with
  | .obj c' ds => c' = c ∧ match ds[j]? with | some d => K (.sh d) ρ1 | none => False
  | _ => False
theorem de_fld (ck : ClsOk X.K (Z.cc.cl c)) (hf : (Z.cc.cl c).2[j]? = some f) (he : PE X e (T Z w)) (hb : attributeBase e f X.env (eval e X.env) = eval e X.env := by rfl) : PE X (.Attribute e f pos) (T Z (eFld c j w)) :=
  ⟨fun pins s σ H Q I ⟨ρ, G, K, IR, hw, q⟩ => (pe_fld he hb).run pins s σ H Q I ⟨ρ, G, _, IR, hw, fun r ρ1 v H1 G1 le1 I1 q1 k1 => by
    have vw := q1.view I1
    cases hd : r.get ρ1 <;> simp only [hd] at k1
    all_goals try exact k1.elim
    rename_i c' ds
    obtain ⟨rfl, k1⟩ := k1
    rw [hd] at vw
    obtain ⟨a, dx, vs, ea, ha, hl, rs⟩ := vw
    cases he : ds[j]? with
    | none => simp only [he] at k1
    | some d =>
      simp only [he] at k1
      obtain ⟨u, hu, ru⟩ := rs.get he
      exact ⟨a, _, dx, _, u, ea, ha, ck.cl, ck.na f (List.mem_of_getElem? hf), zip_lookup ck.nd hf hu, q (.sh d) ρ1 u H1 G1 le1 I1 ru k1⟩⟩⟩
/-- self.f = e -/
def sFld (i c j : Nat) (w : EW) : SW := fun xk ρ K => w xk ρ fun r ρ1 => stl r ρ1 fun d ρ2 => match ρ2[i]? with
  | some (.own m a (.obj c' ds)) => c' = c ∧ j ≤ ds.length ∧ K.nx (ρ2.set i (.own m a (.obj c (setAt ds j d))))
  | _ => False
theorem Root.obj {cc : CC} {G H : Hp} {a dx : Addr} {c : Nat} {vs : List V} {ds : List D} (h : H a = some (.ins (cc.cl c).1 dx ((cc.cl c).2.zip vs))) (l : vs.length ≤ (cc.cl c).2.length) (r : Reps cc G vs ds) : Root cc G H a (.obj c ds) := ⟨dx, vs, h, l, r⟩
theorem ds_fld {x : Str} {px pos' : Pos} (ck : ClsOk X.K (Z.cc.cl c)) (hf : (Z.cc.cl c).2[j]? = some f) (he : PE X e (T Z w)) (hN : X.N[i]? = some x := by rfl) (hv : Vis X.env.scope x := by first | exact Or.inl rfl | exact Or.inr (Or.inl rfl) | exact Or.inr (Or.inr rfl)) (hd : (x == ("__debug__" : Str)) = false := by decide)
    (hcd : (x == ("__classdict__" : Str)) = false := by decide) (hs : swapsWith e (some (.Attribute (.Name x px) f pos')) pos.line X.env = pure false := by rfl) : PS X (.Assign [.Attribute (.Name x px) f pos'] e pos) (Ts Z (sFld i c j w)) :=
  ⟨fun pins s σ H D I ⟨ρ, G, K, IR, hw, l⟩ => (ps_fld (pv i hN hv hd hcd) he hs).run pins s σ H D I ⟨ρ, G, _, IR, hw, fun r ρ1 v H1 G1 le1 I1 q1 k1 => by
    obtain ⟨d, ρ2, G2, le2, I2, rp, k2, _⟩ := I1.settle q1 k1
    split at k2
    · rename_i m a c' ds hs
      obtain ⟨rfl, hj, k2⟩ := k2
      obtain ⟨es, dx, vs, ha, hl, rs⟩ := I2.slot i _ hs
      have hjv : j ≤ vs.length := by rw [rs.length]; exact hj
      refine ⟨.ref a, own_at (lt_len I hN) es, a, _, dx, _, rfl, ha, ck.cl, ck.na f (List.mem_of_getElem? hf), ?_, ?_⟩
      · have := ck.few
        rw [List.length_zip]; omega
      · rw [putF_zip ck.nd hf hjv]
        exact l.nx _ σ _ G2 (le1.trans le2) (I2.write hs (Root.obj upd_same (setAt_len hl hjv (List.getElem?_eq_some_iff.mp hf).1) (rs.setAt rp))) k2
    · exact k2.elim⟩⟩

def isObj (c : Nat) : D → Prop
  | .obj c' _ => c' = c
  | _ => False
variable {C : Ccs} {k : Nat} {fa p : Addr} {fd : FuncData} {ps : List Str} {sp : FSpec} {aw : AgW} {m : Str} {es : List Expr}
/-- e.f, a property -/
def eProp (c : Nat) (sp : FSpec) (w : EW) : EW := fun xk ρ K => w xk ρ fun r ρ1 => stl r ρ1 fun d ρ2 => isObj c d ∧ callK sp [.ro d] ρ2 xk K
theorem de_prop (hcc : Z.cc = C.cc) (hz : Z.xk = xk0) (ck : ClsOk X.K (Z.cc.cl c)) (hp : PropOf X.K (Z.cc.cl c).1 f p fa) (F : FnOk X.prog X.w X.K X.mg X.base CX0 k fa fd ["self"] (LSp0 C sp 1)) (hr : Room (k + 1) X.A) (hb : Binds X.K fd ["self"] [])
    (he : PE X e (T Z w)) (hab : attributeBase e f X.env (eval e X.env) = eval e X.env := by rfl) : PE X (.Attribute e f pos) (T Z (eProp c sp w)) :=
  ⟨fun pins s σ H Q I ⟨ρ, G, K, IR, hw, q⟩ => (pe_prop he ck.cl hp F hr hb .nil pass0 hab).run pins s σ H Q I ⟨ρ, G, _, IR, hw, fun r ρ1 v H1 G1 le1 I1 q1 k1 => by
    obtain ⟨d, ρ2, G2, le2, I2, rp, ⟨ho, k2⟩, _⟩ := I1.settle q1 k1
    cases d <;> try exact ho.elim
    rename_i c' ds
    cases (show c' = c from ho)
    have rp' := rp
    unfold Rep at rp
    obtain ⟨a, dx, vs, ea, ha, hl, rs⟩ := rp
    subst ea
    refine ⟨a, dx, _, rfl, I2.sub _ _ ha, ?_⟩
    exact call_lsp (gs := [.ro (.obj c ds)]) hcc hz rfl I2 ⟨rp', trivial⟩ k2 fun r ρ3 v H3 G3 le3 I3 q3 k3 => q r ρ3 v H3 G3 ((le1.trans le2).trans le3) I3 q3 k3⟩⟩
/-- e.m(..) -/
def eMeth (c np : Nat) (sp : FSpec) (w : EW) (aw : AgW) : EW := fun xk ρ K => w xk ρ fun r ρ1 => stl r ρ1 fun d ρ2 => isObj c d ∧ aw xk ρ2 fun gs ρ3 => gs.length + 1 = np ∧ callK sp (.ro d :: gs) ρ3 xk K
/-- e.m() -/
def eMeth0 (c : Nat) (sp : FSpec) (w : EW) : EW := eProp c sp w
/-- C(..): a new object, by __init__ -/
def eMake (c np : Nat) (sp : FSpec) (aw : AgW) : EW := fun xk ρ K => aw xk ρ fun gs ρ1 => gs.length + 1 = np ∧ (boIx gs ++ muIx gs).Nodup ∧ tms gs = 0 ∧
  argsK gs ρ1 fun args => sp (.mu (.obj c []) :: args) (fun o ds => match o, ds with
    | .sh .non, d0 :: rest => (hasBo gs = true → chFlat d0 = true ∧ noLstAll rest = true) ∧ ∀ a, K (.fr a d0) (upE gs rest ρ1)
    | _, _ => False) (fun c d => xk c d ρ1)
theorem de_make {a : Expr} {x : Str} {px : Pos} (hcc : Z.cc = C.cc) (hz : Z.xk = xk0) (M : Mk X.K (Z.cc.cl c).1 fa) (F : FnOk X.prog X.w X.K X.mg X.base CX0 k fa fd ps (LSp0 C sp ps.length)) (hr : Room (k + 1) X.A) (hm : X.mg x = some (.ref (Z.cc.cl c).1)) (hb : Binds X.K fd ps [])
    (ha : PA X (a :: es) (Tag Z aw)) (hg : Gl X x := by rfl) (hdb : (x == ("__debug__" : Str)) = false := by decide) (hst : starEach (a :: es) X.env = (false, eval a X.env) :: starEach es X.env := by rfl) (hpl : (backTo pos (starEach es X.env)).any (·.1) = false := by rfl) :
    PE X (.Call (.Name x px) (a :: es) [] pos) (T Z (eMake c ps.length sp aw)) :=
  ⟨fun pins s σ H Q I ⟨ρ, G, K, IR, hw, q⟩ => (pe_make M F hr hg hm hb .nil pass0 ha hdb hst hpl).run pins s σ H Q I ⟨ρ, G, _, IR, hw, fun gs ρ1 vs H1 G1 le1 I1 qs ⟨hl, nd, t0, k1⟩ => fun x0 dx hx hdx hne => by
    have nd' : (boIx (.tm x0 (.obj c []) :: gs) ++ muIx (.tm x0 (.obj c []) :: gs)).Nodup := nd
    have I2 : SR Z ρ1 G1 σ (upd (upd H1 dx (.own x0)) x0 (.ins (Z.cc.cl c).1 dx [])) := (I1.newH hdx).newH (by rw [upd_ne hne.symm]; exact hx)
    rw [hz] at k1
    have gx := I1.g hx
    obtain ⟨z0, zm⟩ := I1.h0 hx
    have own := argsK_own k1
    have qs2 : AgsOk Z ρ1 G1 σ (upd (upd H1 dx (.own x0)) x0 (.ins (Z.cc.cl c).1 dx [])) vs gs := by
      have : ∀ {vs : List V} {gs : List Ag}, tms gs = 0 → AgsOk Z ρ1 G1 σ H1 vs gs → AgsOk Z ρ1 G1 σ (upd (upd H1 dx (.own x0)) x0 (.ins (Z.cc.cl c).1 dx [])) vs gs := by
        intro vs gs
        induction gs generalizing vs with
        | nil => intro _ h; cases vs with
          | nil => trivial
          | cons _ _ => exact h.elim
        | cons g gs ih =>
          intro t h
          cases vs with
          | nil => exact h.elim
          | cons v vs =>
            cases g with
            | ro d => exact ⟨h.1, ih t h.2⟩
            | bo i => exact ⟨h.1, ih t h.2⟩
            | mu i => exact ⟨h.1, ih t h.2⟩
            | bg i a => exact ⟨h.1, ih t h.2⟩
            | mg i a => exact ⟨h.1, ih t h.2⟩
            | gg i => exact h.1.elim
            | bd js d => exact ⟨h.1, ih t h.2⟩
            | tm a d => simp [tms] at t
      exact this t0 qs
    have q0 : AgsOk Z ρ1 G1 σ (upd (upd H1 dx (.own x0)) x0 (.ins (Z.cc.cl c).1 dx [])) (.ref x0 :: vs) (.tm x0 (.obj c []) :: gs) :=
      ⟨⟨rfl, Root.obj (dx := dx) (vs := []) (by rw [upd_same, List.zip_nil_right]) (Nat.zero_le _) Reps.nil, gx, fun i m b e h => I1.own_ne h hx, z0, zm⟩, qs2⟩
    have hB : ∀ a ∈ boA (.tm x0 (.obj c []) :: gs) ρ1, G1 a = none := fun a ha => by
      obtain ⟨i, m, d, _, hs⟩ := boA_own (gs := .tm x0 (.obj c []) :: gs) ha
      exact I2.out i m a d hs
    have k2 : argsK (.tm x0 (.obj c []) :: gs) ρ1 (fun as => sp as _ _) := k1
    obtain ⟨args, ao, hs⟩ := args_ok (gs := .tm x0 (.obj c []) :: gs) I2 hB q0.x0 (fun _ h => h) (fun a h => boA_apart I2 q0.x0 nd' h) (muA_nd I2 q0.x0 (List.nodup_append.mp nd').2.1 (by simp [tms, t0])) k2
    show LSp0 C sp ps.length (.ref x0 :: (vs ++ [])) _ _ _
    rw [List.append_nil]
    refine ⟨by simp [qs.len, hl], _, cutG (boA (.tm x0 (.obj c []) :: gs) ρ1) G1 _, muA (.tm x0 (.obj c []) :: gs) ρ1, _, fun a u e => ?_, by rw [← hcc]; exact ao, hs, fun o ds v H' G' le sub fr gn mo ro hk => ?_⟩
    · unfold cutG at e
      split at e
      · exact e
      · exact I2.sub a u e
    · rw [← hcc] at mo ro
      split at hk
      · rename_i d0 rest
        have ev : v = .non := by have : Rep Z.cc G' v .non := ro; unfold Rep at this; exact this
        obtain ⟨bk, hk⟩ := hk
        obtain ⟨G2, le2, J, _, st, gn2⟩ := sr_after I2 q0.x0 nd' own le sub fr gn mo ro fun hb => ⟨rfl, by simp only [noLstAll, Bool.and_eq_true]; exact bk hb⟩
        have root := mo.1
        refine ⟨ev, q (.fr x0 d0) (upE gs rest ρ1) _ H' G2 (le1.trans le2) J ⟨rfl, st x0 d0 root ?_, gn2 x0 gx (by rw [upd_same]; simp), fun i m b e h => ?_, z0, zm⟩ (hk x0)⟩
        · cases hb : hasBo gs with
          | true => exact .inl (bk hb).1
          | false => exact .inr hb
        · rcases upE_get qs2.x0 own mo.2.2 h with ⟨h, _⟩ | ⟨m', a', d', d2, h1, h2, _⟩
          · exact I1.own_ne h hx
          · cases h2; exact I1.own_ne h1 hx
      · exact hk.elim⟩⟩
end

/-! ### the law -/
theorem reps_ints {cc : CC} {G : Hp} : ∀ ns : List Int, Reps cc G (ns.map V.int) (ns.map D.int)
  | [] => Reps.nil
  | n :: ns => Reps.cons rep_int (reps_ints ns)
end TL

namespace TL
open PySem PySem.Spec L2

/-! ### calls with keywords alone -/
section
variable {X : Cx} {Z : Zone} {e : Expr} {es : List Expr} {w : EW} {r : AgW} {kws : List Keyword} {nm : Option Str} {kpos : Pos}
/-- the entries of xs in another order -/
def pm {α : Type} (p : List Nat) (xs : List α) : List α := p.filterMap fun i => xs[i]?
structure KBp (K : PySem.W.Frag) (fd : FuncData) (ps ks : List Str) (p : List Nat) : Prop where
  to : ∀ (s : Shared) (ws : List Value), ws.length = ks.length → BindsTo s fd ⟨[], ks.zip ws⟩ (ps.zip (pm p ws))
theorem AgsOk.get {ρ : REnv} {G H : Hp} {σ : L2.St} : ∀ {vs : List V} {gs : List Ag} {i : Nat}, AgsOk Z ρ G σ H vs gs → (vs[i]? = none ∧ gs[i]? = none) ∨ ∃ v g, vs[i]? = some v ∧ gs[i]? = some g ∧ AgOk Z ρ G σ H v g
  | [], [], _, _ => .inl ⟨by simp, by simp⟩
  | v :: vs, g :: gs, 0, h => .inr ⟨v, g, rfl, rfl, h.1⟩
  | v :: vs, g :: gs, i + 1, h => by simpa using AgsOk.get (i := i) h.2
  | [], _ :: _, _, h => h.elim
  | _ :: _, [], _, h => h.elim
def eCallP (np : Nat) (p : List Nat) (sp : FSpec) (aw : AgW) : EW := fun xk ρ K => aw xk ρ fun gs ρ1 => (gs.length = np ∧ (pm p gs).length = np) ∧ callK sp (pm p gs) ρ1 xk K
variable {C : Ccs} {k : Nat} {f : Addr} {fd : FuncData} {ps ks : List Str} {sp : FSpec} {aw : AgW} {x : Str} {p : Pos} {pos : Pos} {pr : List Nat}
end

/-! ### enumerate -/
section
variable {X : Cx} {Z : Zone} {e : Expr} {w : EW} {pos : Pos}
def iEnum (w : EW) : IW := fun xk ρ K => w xk ρ fun r ρ1 => match r.get ρ1 with | .lst ds => K ds.length (fun i d => ∃ d0, ds[i]? = some d0 ∧ d = .tup [.int i, d0]) (stab r ρ1) ρ1 | _ => False
theorem ite_of {K : PySem.W.Frag} {a : Addr} {ds : List D} {st : REnv → Prop} {G : Hp} (h : ItOk Z (Itl K a) ds.length (fun i d => ds[i]? = some d) st G) : ItOk Z (Ite K a) ds.length (fun i d => ∃ d0, ds[i]? = some d0 ∧ d = .tup [.int i, d0]) st G := by
  intro H0 xk i ρ G1 σ H le I hs
  obtain ⟨s1, s2⟩ := h H0 xk i ρ G1 σ H le I hs
  refine ⟨s1, fun hlt => ?_⟩
  obtain ⟨go, yl⟩ := s2 hlt
  refine ⟨go, fun v H' y => ?_⟩
  obtain ⟨t, x, rfl, ht, rfl, hx⟩ := y
  obtain ⟨d0, G2, hd, le2, I2, rp⟩ := yl x H ⟨rfl, hx⟩
  have gt := I2.g ht
  refine ⟨_, upd G2 t (.tup [.int (i : Nat), x]), ⟨d0, hd, rfl⟩, le2.trans (LE.upd gt), I2.newG ht, ?_⟩
  unfold Rep
  exact ⟨t, _, rfl, upd_same, Reps.cons rep_int (Reps.cons (rp.mono (LE.upd gt)) Reps.nil)⟩
theorem di_enum {p tpos : Pos} {elts : List Expr} {kk : Nat} (hK : Z.cc.K = X.K) (hm : X.mg "enumerate" = none) (he : PE X e (T Z w)) (hg : Gl X "enumerate" := by rfl) (hs : starEach [e] X.env = [(false, eval e X.env)] := by rfl) (hs2 : starEach [e] X.env = (false, eval e X.env) :: starEach [] X.env := by rfl) :
    PI X (.Tuple elts kk tpos) (.Call (.Name "enumerate" p) [e] [] pos) (Ti Z (iEnum w)) :=
  ⟨fun pins s σ H R I ⟨ρ, G, K, IR, hw, q⟩ => (pi_enum hg hm (pa_cons he pa_nil hs2) hs).run pins s σ H R I ⟨ρ, G, _, IR, hw, fun r ρ' v H' G' le I' qr k => by
    split at k
    · rename_i ds hd
      obtain ⟨a, G2, ea, le2, I2, ⟨xs, hx⟩, io⟩ := it_list (K := X.K) hK I' qr hd
      exact ⟨a, xs, by rw [ea], hx, q _ _ _ ρ' H' G2 _ (le.trans le2) I2 (ite_of io) k⟩
    · exact k.elim⟩⟩
/-! ### x += n; xs.extend, reverse, pop -/
def sAug (i : Nat) (w : EW) : SW := fun xk ρ K => bound ρ i ∧ w xk ρ fun r ρ1 => match getL ρ i, r.get ρ1 with
  | .int a, .int b => K.nx (ρ1.set i (.sh (.int (a + b))))
  | _, _ => False
def sRevI (j : Nat) : SW := fun _ ρ K => match ρ[j]? with
  | some (.own m a (.lst ds)) => K.nx (ρ.set j (.own m a (.lst ds.reverse)))
  | _ => False
def sPop (j : Nat) : SW := fun _ ρ K => match ρ[j]? with
  | some (.own m a (.lst ds)) => ds ≠ [] ∧ K.nx (ρ.set j (.own m a (.lst ds.dropLast)))
  | _ => False
theorem Reps.dropLast {cc : CC} {G : Hp} {vs : List V} {ds : List TL.D} (r : Reps cc G vs ds) : Reps cc G vs.dropLast ds.dropLast := by
  rw [List.dropLast_eq_take, List.dropLast_eq_take, r.length]
  exact r.take _
end
end TL

namespace TL
open PySem PySem.Spec L2

/-! ### isinstance of built-in types -/
inductive Ty where
  | int | bool | str | list | tuple | dict
def Ty.nm : Ty → String
  | .int => "int" | .bool => "bool" | .str => "str" | .list => "list" | .tuple => "tuple" | .dict => "dict"
def isTy : Ty → D → Bool
  | .int, .int _ => true
  | .int, .bl _ => true
  | .bool, .bl _ => true
  | .str, .str _ => true
  | .list, .lst _ => true
  | .tuple, .tup _ => true
  | _, _ => false
def noObj : D → Bool
  | .obj _ _ => false
  | .dct _ _ => false
  | .dic _ _ => false
  | .ptr _ => false
  | _ => true
def opIsI (t : Ty) : D → OW := fun d k => noObj d = true ∧ k (.sh (.bl (isTy t d)))
def tyN : D → String
  | .non => "NoneType" | .bl _ => "bool" | .int _ => "int" | .str _ => "str" | .tup _ => "tuple" | .lst _ => "list" | _ => "object"
theorem kit_tab (t : Ty) : ∀ n, n ∈ ["NoneType", "bool", "int", "str", "tuple", "list"] → ∃ b, kitB n t.nm = some b ∧ (b = match t, n with
  | .int, "int" => true | .int, "bool" => true | .bool, "bool" => true | .str, "str" => true | .list, "list" => true | .tuple, "tuple" => true | _, _ => false) := by
  intro n hn
  simp only [List.mem_cons, List.not_mem_nil, or_false] at hn
  rcases hn with rfl | rfl | rfl | rfl | rfl | rfl <;> cases t <;> exact ⟨_, by decide +kernel, rfl⟩
section
variable {cc : CC}
theorem view_ty {K : PySem.W.Frag} (hK : cc.K = K) {G H : Hp} {x : V} {d : D} (h : noObj d = true) (v : View cc G H x d) : TyX K H x (.type (tyN d)) := by
  subst hK
  cases d with
  | non => cases (show x = _ from v); exact .base .non
  | bl b => cases (show x = _ from v); exact .base (.bl b)
  | int b => cases (show x = _ from v); exact .base (.int b)
  | str b => cases (show x = _ from v); exact .base (.str b)
  | tup ds => obtain ⟨a, vs, rfl, ra, _⟩ := v; exact .base (.tup ra)
  | lst ds =>
    obtain ⟨a, vs, rfl, ra, _⟩ := v
    rcases ra with (ra | ⟨o, ra⟩) | ⟨o, its, n, hk, hc, _⟩
    · exact .base (.lst ra)
    · exact .base (.frz ra)
    · exact .kList hk hc
  | obj _ _ => simp [noObj] at h
  | dct _ _ => simp [noObj] at h
  | dic _ _ => simp [noObj] at h
  | ptr _ => simp [noObj] at h
theorem kit_d (t : Ty) {d : D} (h : noObj d = true) : kitB (tyN d) t.nm = some (isTy t d) := by
  have hm : tyN d ∈ ["NoneType", "bool", "int", "str", "tuple", "list"] := by cases d <;> simp [tyN] <;> simp [noObj] at h
  obtain ⟨b, h1, h2⟩ := kit_tab t _ hm
  rw [h1, h2]
  cases d <;> cases t <;> first | rfl | simp [noObj] at h
theorem boot_isi : bootBuiltins "isinstance" = some (.builtin "isinstance") := by decide +kernel
theorem boot_ty (t : Ty) : bootBuiltins (Str.ofString t.nm) = some (.type t.nm) := by cases t <;> decide +kernel
end
section
variable {X : Cx} {Z : Zone} {e : Expr} {w : EW} {pos p p2 : Pos}
theorem de_isI (t : Ty) {tn : Str} (hT : tn = Str.ofString t.nm) (hK : Z.cc.K = X.K) (hm : X.mg "isinstance" = none) (hmT : X.mg tn = none) (he : PE X e (T Z w)) (hg : Gl X "isinstance" := by rfl) (hgT : Gl X tn := by rfl) (hn : tn ≠ "__name__" := by decide) (hdb : (tn == ("__debug__" : Str)) = false := by decide)
    (hst : starEach [e, .Name tn p2] X.env = (false, eval e X.env) :: starEach [.Name tn p2] X.env := by rfl) (hst2 : starEach [.Name tn p2] X.env = (false, eval (.Name tn p2) X.env) :: starEach [] X.env := by rfl) (hpl : (backTo pos (starEach [.Name tn p2] X.env)).any (·.1) = false := by rfl) :
    PE X (.Call (.Name "isinstance" p) [e, .Name tn p2] [] pos) (T Z (eUn (opIsI t) w)) := by
  have hb : PE X (.Name tn p2) (tC (.ty t.nm)) := pe_bltn hgT hmT (by rw [hT]; exact boot_ty t) rfl hn hdb
  refine pvia (pe_callB call_isi hg hm boot_isi (pa_cons he (pa_cons hb pa_nil hst2) hst) (by decide) (by decide) hst hpl) ?_
  refine via_un (r := fun v H Q => rIsi X.K [v, .ty t.nm] H Q) fun G H x d k Q le v _ ho fin => ?_
  exact ⟨x, .ty t.nm, _, _, isTy t d, rfl, .ty t.nm, view_ty hK ho.1 v, kit_ty (kit_d t ho.1), (fin _ ho.2).1 _ rep_bl⟩
end
end TL

namespace TL
open PySem PySem.Spec L2
/-! ### an own root given up -/
def frz : Nat → REnv → REnv
  | _, [] => []
  | 0, .own false _ d :: ρ => .sh d :: ρ
  | 0, s :: ρ => s :: ρ
  | i + 1, s :: ρ => s :: frz i ρ
theorem frz_o {a : Addr} {d : D} {ρ : REnv} : frz 0 (.own false a d :: ρ) = .sh d :: ρ := rfl
theorem frz_sh {d : D} {ρ : REnv} : frz 0 (.sh d :: ρ) = .sh d :: ρ := rfl
theorem frz_s {i : Nat} {s : Sl} {ρ : REnv} : frz (i + 1) (s :: ρ) = s :: frz i ρ := by simp only [frz]
theorem frz_eq : ∀ (i : Nat) (ρ : REnv), frz i ρ = ρ ∨ ∃ a d, ρ[i]? = some (.own false a d) ∧ frz i ρ = ρ.set i (.sh d)
  | i, [] => .inl (by cases i <;> rfl)
  | 0, s :: ρ => by
    cases s with
    | no => exact .inl rfl
    | sh d => exact .inl rfl
    | own p a d =>
      cases p with
      | true => exact .inl rfl
      | false => exact .inr ⟨a, d, rfl, rfl⟩
  | i + 1, s :: ρ => by
    rcases frz_eq i ρ with h | ⟨a, d, h1, h2⟩
    · exact .inl (by rw [frz_s, h])
    · exact .inr ⟨a, d, by rw [List.getElem?_cons_succ]; exact h1, by rw [frz_s, h2, List.set_cons_succ]⟩
def sFrz (i : Nat) (s : SW) : SW := fun xk ρ K => s xk ρ { K with nx := fun ρ' => K.nx (frz i ρ') }
section
variable {X : Cx} {Z : Zone} {st : Stmt} {sa : SW}
theorem ds_frz {i : Nat} (h : PS X st (Ts Z sa)) (hi : (X.N[i]?).isSome = true := by rfl) : PS X st (Ts Z (sFrz i sa)) :=
  ⟨fun pins s σ H D I ⟨ρ, G, K, IR, hw, l⟩ => h.run pins s σ H D I ⟨ρ, G, _, IR, hw, ⟨fun ρ' σ' H' G' le I' k => by
    have k : K.nx (frz i ρ') := k
    rcases frz_eq i ρ' with e | ⟨a, d, h1, h2⟩
    · rw [e] at k; exact l.nx ρ' σ' H' G' le I' k
    · rw [h2] at k
      have hlt : i < σ'.length := by
        have h1 := I.len
        have h2 := IR.len.1
        have h3 := I'.len.1
        cases e : X.N[i]? with
        | none => rw [e] at hi; cases hi
        | some x => have := (List.getElem?_eq_some_iff.mp e).1; omega
      obtain ⟨G2, l2, I2, _⟩ := I'.leak h1 (own_at hlt (I'.slot i _ h1).1)
      exact l.nx _ σ' H' G2 (le.trans l2) I2 k, l.rt, l.bk, l.ct⟩⟩⟩
end
end TL

namespace TL
open PySem PySem.Spec L2
section
variable {X : Cx} {Z : Zone} {C : Ccs} {k c np : Nat} {f fa : Addr} {fd : FuncData} {ps ks : List Str} {sp : FSpec} {aw : AgW} {x m : Str} {p pos apos px : Pos} {pr : List Nat} {e a : Expr} {es : List Expr} {w : EW} {kws : List PySem.Keyword}
theorem de_callN (hcc : Z.cc = C.cc) (hz : Z.xk = xk0) (F : FnOk X.prog X.w X.K X.mg X.base CX0 k f fd ps (LSp0 C sp np)) (hr : Room k X.A) (hm : X.mg x = some (.ref f)) (hk : PySem.W.keepIn X.K (.ref f) = true) (hb : Binds X.K fd ps [])
    (ha : PA X (e :: es) (Tag Z aw)) (hn : np = ps.length := by rfl) (hg : Gl X x := by rfl) (hdb : (x == ("__debug__" : Str)) = false := by decide) (he : starEach (e :: es) X.env = (false, eval e X.env) :: starEach es X.env := by rfl) (hpl : (backTo pos (starEach es X.env)).any (·.1) = false := by rfl) :
    PE X (.Call (.Name x p) (e :: es) [] pos) (T Z (eCall np sp aw)) := by subst hn; exact de_call hcc hz F hr hm hk hb ha hg hdb he hpl
theorem de_makeN (hcc : Z.cc = C.cc) (hz : Z.xk = xk0) (M : Mk X.K (Z.cc.cl c).1 fa) (F : FnOk X.prog X.w X.K X.mg X.base CX0 k fa fd ps (LSp0 C sp np)) (hr : Room (k + 1) X.A) (hm : X.mg x = some (.ref (Z.cc.cl c).1)) (hb : Binds X.K fd ps [])
    (ha : PA X (a :: es) (Tag Z aw)) (hn : np = ps.length := by rfl) (hg : Gl X x := by rfl) (hdb : (x == ("__debug__" : Str)) = false := by decide) (hst : starEach (a :: es) X.env = (false, eval a X.env) :: starEach es X.env := by rfl) (hpl : (backTo pos (starEach es X.env)).any (·.1) = false := by rfl) :
    PE X (.Call (.Name x px) (a :: es) [] pos) (T Z (eMake c np sp aw)) := by subst hn; exact de_make hcc hz M F hr hm hb ha hg hdb hst hpl
end
/-! ### the law's end -/
theorem law_spQ {C : Ccs} {sp : FSpec} {H : Hp} {a : Addr} {ns : List Int} {Q : VK} {E : XK} (hS : SqL C.cc.K H a (ns.map V.int)) (h : sp [.ro (.lst (ns.map D.int))] (fun o _ => o = .sh (.bl true)) (fun _ _ => False)) (k : ∀ H', Q (.bl true) H') :
    LSp0 C sp 1 [.ref a] H Q E := by
  have r : Rep C.cc H (.ref a) (.lst (ns.map D.int)) := by
    unfold Rep
    exact ⟨a, _, rfl, hS, reps_ints ns⟩
  refine ⟨rfl, [.ro (.lst (ns.map D.int))], H, [], _, LE.refl H, ⟨r, trivial⟩, h, fun o ds v H' G' _ _ _ _ _ ro e => ?_⟩
  have e : o = .sh (.bl true) := e
  subst e
  have ro : Rep C.cc G' v (.bl true) := ro
  unfold Rep at ro
  rw [ro]
  exact k H'
/-- the law's promise: at most 63 whole numbers come in, True goes out -/
def endSp (K : PySem.W.Frag) : Sp := fun vs H Q _ => ∃ (a : Addr) (ns : List Int), vs = [.ref a] ∧ SqL K H a (ns.map V.int) ∧ ns.length ≤ 63 ∧ (∀ z ∈ ns, Builtin.Int.intBits z ≤ 1048576) ∧ ∀ H', Q (.bl true) H'
theorem law_end {P : Program} {w : World} {K : PySem.W.Frag} {mg : Str → Option Value} {base : Heap} {C : Ccs} {k : Nat} {f : Addr} {fd : FuncData} {ps : List Str} {sp : FSpec} (F : FnOk P w K mg base CX0 k f fd ps (LSp0 C sp 1)) (hK : C.cc.K = K)
    (h : ∀ ns : List Int, ns.length ≤ 63 → (∀ z ∈ ns, z.natAbs.log2 < 2000000) → sp [.ro (.lst (ns.map D.int))] (fun o _ => o = .sh (.bl true)) (fun _ _ => False)) : FnOk P w K mg base CX0 k f fd ps (endSp K) :=
  F.imp fun vs H Q E ⟨a, ns, e, hS, hl, hb, k⟩ => by
    subst e
    refine law_spQ (by rw [hK]; exact hS) (h ns hl fun z hz => ?_) k
    have := hb z hz
    unfold Builtin.Int.intBits at this
    by_cases h0 : z = 0
    · subst h0; decide
    · rw [if_neg (by simpa using h0)] at this; omega
theorem walkT {l : PySem.W.OpenLaw} {q : Program} {loose : List Str} {XP : (Str → Option Value) → Heap → Prop} {YP : World → Heap → Prop} {d : DefRec} {K : Params → PySem.W.Frag} {k : Nat} (hn : l.most = some 63) (hdf : d.params.defaults = []) (hr : Room k callerA)
    (hY : ∀ (w : World) (h : Heap), YP w h → (K w.params).In h)
    (F : ∀ (w : World) (mg : Str → Option Value) (fa : Addr) (h : Heap), (K w.params).In h → h.Ns mainGlobals mg → mg d.name = some (.ref fa) →
      ∃ fd : FuncData, (∀ (s : Shared) (u : Value), BindsTo s fd ⟨[u], []⟩ [(("script" : Str), u)]) ∧ ∀ base : Heap, (K w.params).In base → base.Ns mainGlobals mg → FnOk l.prog w (K w.params) mg base CX0 k fa fd ["script"] (endSp (K w.params))) :
    PySem.W.WalkO q loose XP YP l.row.toRowW d [] (fun f vs => PySem.call f vs) :=
  L2.walk_ofB (n := 63) (k := k) (x := ("script" : Str)) (CX := fun _ => CX0) (sp := fun w => endSp (K w.params)) hn (by decide) hdf hr hY F (fun _ _ a ns hl hb _ hS => ⟨a, ns, rfl, hS, hl, hb, fun _ => rfl⟩) fun _ _ _ _ _ z => z
end TL

namespace TL
open PySem PySem.Spec L2
section
variable {X : Cx} {Z : Zone} {C : Ccs} {c k np : Nat} {fa : Addr} {fd : FuncData} {ps ks : List Str} {sp : FSpec} {aw : AgW} {m x : Str} {apos pos px : Pos} {pr : List Nat} {e a b : Expr} {w wa wb : EW} {kws : List PySem.Keyword}
/-- two values, both given up -/
def eTwo (wa wb : EW) (k : D → D → EW) : EW := fun xk ρ K => wa xk ρ fun r1 ρ1 => stl r1 ρ1 fun d1 ρ2 => wb xk ρ2 fun r2 ρ3 => stl r2 ρ3 fun d2 ρ4 => k d1 d2 xk ρ4 K
theorem rep_obj {cc : CC} {G : Hp} {x : V} {c : Nat} {ds : List D} (h : Rep cc G x (.obj c ds)) : ∃ a dx vs, x = .ref a ∧ G a = some (.ins (cc.cl c).1 dx ((cc.cl c).2.zip vs)) := by
  unfold Rep at h
  obtain ⟨a, dx, vs, e, g, _⟩ := h
  exact ⟨a, dx, vs, e, g⟩
/-- the callee runs around A -/
theorem run_atA {A : Around} {pins : List (Addr × Obj)} {σ : L2.St} {H : Hp} {s : Shared} {lsp : Sp} {Q : VK} {us : List Value} {vs : List V} (F : FnOk X.prog X.w X.K X.mg X.base CX0 k fa fd ps lsp) (hr : Room k A) (e0 : Env0 X.prog X.w X.K X.mg X.base A X.stack s H) (hb : Binds X.K fd ps []) (I : Inv X pins σ H s) (r : Vals vs us)
    (h : lsp vs H Q E0) : wpAny (model X.prog X.w) A (call (.ref fa) us) (EP X pins σ Q) X.xe s := by
  have hl : (us ++ []).length = ps.length := by rw [List.append_nil, ← r.length]; exact F.len _ _ _ _ h
  have hb := hb s us I.kIn hl
  rw [List.append_nil] at hb
  refine wpAny_call (codeAny_mono (F.run A X.stack s H ⟨us, []⟩ us vs Q E0 hr e0 hb r h) fun r s' hq => ?_)
  cases r with
  | error e => exact pass0 pins σ H s e s' I hq
  | ok fl =>
    cases fl with
    | ret u => exact I.after hq
    | next => exact False.elim hq
    | brk => exact False.elim hq
    | cont => exact False.elim hq

/-! ### len(o) -/
def okLen (K : Rv → REnv → Prop) : Rv → REnv → Prop := fun r ρ => (∃ n : Int, r = .sh (.int n) ∧ 0 ≤ n ∧ n < 2 ^ 63) ∧ K r ρ
def eLenO (c : Nat) (sp : FSpec) (w : EW) : EW := fun xk ρ K => w xk ρ fun r ρ1 => stl r ρ1 fun d ρ2 => isObj c d ∧ callK sp [.ro d] ρ2 xk (okLen K)
/-! ### a == b, a + b of own instances -/
def eOwn2 (c : Nat) (sp : FSpec) (wa wb : EW) : EW := eTwo wa wb fun d1 d2 xk ρ K => isObj c d1 ∧ isObj c d2 ∧ callK sp [.ro d1, .ro d2] ρ xk K
/-! ### isinstance(o, C) of an own instance -/
def opIsC (c : Nat) : D → OW := fun d k => isObj c d ∧ k (.sh (.bl true))
/-! ### o.m(k = v, ..), C(k = v, ..) -/
/-- how the keywords bind, behind one value -/
structure KBm (K : PySem.W.Frag) (fd : FuncData) (ps ks : List Str) (p : List Nat) : Prop where
  to : ∀ (s : Shared) (u : Value) (ws : List Value), ws.length = ks.length → BindsTo s fd ⟨[u], ks.zip ws⟩ (ps.zip (u :: pm p ws))
def eMethP (c np : Nat) (p : List Nat) (sp : FSpec) (w : EW) (aw : AgW) : EW := fun xk ρ K => w xk ρ fun r ρ1 => stl r ρ1 fun d ρ2 => isObj c d ∧ aw xk ρ2 fun gs ρ3 => (gs.length + 1 = np ∧ (pm p gs).length + 1 = np) ∧ callK sp (.ro d :: pm p gs) ρ3 xk K
end
section
variable {X : Cx} {Z : Zone} {C : Ccs} {c k np : Nat} {fa : Addr} {fd : FuncData} {ps ks : List Str} {sp : FSpec} {aw : AgW} {x : Str} {pos px : Pos} {pr : List Nat} {kws : List PySem.Keyword}
def eMakeP (c np : Nat) (p : List Nat) (sp : FSpec) (aw : AgW) : EW := fun xk ρ K => aw xk ρ fun gs ρ1 => (gs.length + 1 = np ∧ (pm p gs).length + 1 = np) ∧ (boIx (pm p gs) ++ muIx (pm p gs)).Nodup ∧ tms (pm p gs) = 0 ∧
  argsK (pm p gs) ρ1 fun args => sp (.mu (.obj c []) :: args) (fun o ds => match o, ds with
    | .sh .non, d0 :: rest => (hasBo (pm p gs) = true → chFlat d0 = true ∧ noLstAll rest = true) ∧ ∀ a, K (.fr a d0) (upE (pm p gs) rest ρ1)
    | _, _ => False) (fun c d => xk c d ρ1)
end
end TL

namespace TL
open PySem PySem.Spec L2
section
variable {X : Cx} {Z : Zone} {e a b : Expr} {w wa wb : EW} {pos : Pos} {i : Nat}
/-! ### [..] * n, n a name -/
def eRepL (i : Nat) (wa : EW) : EW := fun xk ρ K => wa xk ρ fun r ρ1 => bound ρ1 i ∧ match r, getL ρ1 i with
  | .fr _ (.lst ds), .int k => (-(2 ^ 63) ≤ k ∧ k < 2 ^ 63 ∧ ds.length * k.toNat ≤ sizeLine) ∧ ∀ p, K (.fr p (.lst (List.replicate k.toNat ds).flatten)) ρ1
  | _, _ => False
theorem Reps.rep {cc : CC} {G : Hp} {vs : List V} {ds : List D} (r : Reps cc G vs ds) : ∀ n : Nat, Reps cc G (List.replicate n vs).flatten (List.replicate n ds).flatten
  | 0 => Reps.nil
  | n + 1 => by
    rw [List.replicate_succ, List.replicate_succ, List.flatten_cons, List.flatten_cons]
    exact r.append (Reps.rep r n)
theorem de_repL {x : Str} {px : Pos} (ha : PE X a (T Z wa)) (hN : X.N[i]? = some x := by rfl) (hv : Vis X.env.scope x := by first | exact Or.inl rfl | exact Or.inr (Or.inl rfl) | exact Or.inr (Or.inr rfl)) (hd : (x == ("__debug__" : Str)) = false := by decide)
    (hcd : (x == ("__classdict__" : Str)) = false := by decide) : PE X (.BinOp a .Mult (.Name x px) pos) (T Z (eRepL i wa)) :=
  pviaI (pe_op op_rep ha (pv i hN hv hd hcd)) fun σ H Q hlen ⟨ρ, G, K, IR, hw, q⟩ => ⟨ρ, G, _, IR, hw, fun r ρ1 x H1 G1 le1 I1 q1 ⟨hb, k1⟩ => by
    obtain ⟨u, eu⟩ := bound_get I1 (lt_lenN hlen hN) hb
    have vi := RvOk.view I1 (r := .loc i) (v := u) ⟨eu, hb⟩
    split at k1
    · rename_i ad ds k hk _
      obtain ⟨⟨h1, h2, h3⟩, k1⟩ := k1
      rw [show (Rv.loc i).get ρ1 = .int k from hk] at vi
      obtain ⟨rfl, ⟨vs, ha, rs⟩, _⟩ := q1
      refine ⟨u, eu, ad, k, vs, rfl, vi, ha, h1, h2, by rw [rs.length]; exact h3, fun p hp => ?_⟩
      exact (T.fin (o := .fr (.lst (List.replicate k.toNat ds).flatten)) I1 le1 k1 q) p _ hp ⟨_, upd_same, rs.rep _⟩
    · exact k1.elim⟩
/-! ### list(range(..)) -/
def rgD (i j : Int) : List D := (List.range (j - i).toNat).map fun k => D.int (i + (k : Nat))
def opLR1 : D → OW
  | .int j => fun k => L2.RgOk 0 j ∧ k (.fr (.lst (rgD 0 j)))
  | _ => fun _ => False
def opLR2 : D → D → OW
  | .int i, .int j => fun k => L2.RgOk i j ∧ k (.fr (.lst (rgD i j)))
  | _, _ => fun _ => False
end
end TL

namespace TL
open PySem PySem.Spec L2
section
variable {X : Cx} {Z : Zone} {e : Expr} {es : List Expr} {pos : Pos} {wr : DW}
/-! ### constants in a row -/
def dLit (ds : List D) (wr : DW) : DW := fun xk ρ K => wr xk ρ fun es ρ' => K (ds ++ es) ρ'
theorem da_lit0 (hr : PA X es (Ta Z wr)) : PA X es (Ta Z (dLit [] wr)) := hr
theorem da_lit {d : D} {ds : List D} (ha : PE X e (T Z (eC d))) (hr : PA X es (Ta Z (dLit ds wr))) (hs : starEach (e :: es) X.env = (false, eval e X.env) :: starEach es X.env := by rfl) : PA X (e :: es) (Ta Z (dLit (d :: ds) wr)) := da_cons ha hr hs
theorem de_tupC {x1} {ds : List D} (h : PA X es (Ta Z (dLit ds dNil))) (hl : ds.length ≤ 1000 := by decide) : PE X (.Tuple es x1 pos) (T Z (eC (.tup ds))) := by
  have e : eTup (dLit ds dNil) = fun xk ρ K => ds.length ≤ 1000 ∧ K (.sh (.tup ds)) ρ := by
    funext xk ρ K
    unfold eTup dLit dNil
    simp only [List.append_nil]
  have h2 := de_tup (x1 := x1) (pos := pos) h
  rw [e] at h2
  exact pvia h2 fun σ H Q ⟨ρ, G, K, IR, hk, q⟩ => ⟨ρ, G, K, IR, ⟨hl, hk⟩, q⟩
end
end TL

namespace TL
open PySem PySem.Spec L2
section
variable {X : Cx} {Z : Zone} {pos : Pos}
/-- a list unpacked into names -/
def gLs (n : Nat) (gs : GWs) : GW := fun d ρ K => match d with | .lst ds => ds.length = n ∧ gs ds ρ K | _ => False
end
end TL

namespace TL
open PySem PySem.Spec L2
/-! ### what raises nothing, within what may raise -/
abbrev Zone.z0 (Z : Zone) : Zone := { Z with xk := xk0 }
theorem SR.z0 {Z : Zone} {ρ : REnv} {G : Hp} {σ : L2.St} {H : Hp} (I : SR Z ρ G σ H) : SR Z.z0 ρ G σ H := ⟨I.len, I.sub, I.slot, I.inj, I.out, I.ent, I.frs, I.gnew, I.g0, I.mout, I.mux⟩
def e0 (w : EW) : EW := fun _ ρ K => w xk0 ρ K
def t0 (w : TW) : TW := fun _ ρ K => w xk0 ρ K
def d0 (w : DW) : DW := fun _ ρ K => w xk0 ρ K
def s0 (w : SW) : SW := fun _ ρ K => w xk0 ρ K
def i0 (w : IW) : IW := fun _ ρ K => w xk0 ρ K
section
variable {X : Cx} {Z : Zone} {e tg : Expr} {es : List Expr} {st : Stmt} {w : EW} {tw : TW} {dw : DW} {sw : SW} {iw : IW}
end
end TL

namespace TL
open PySem PySem.Spec L2
/-! ### what leaves a zone -/
section
variable {P : Program} {w : World} {K : PySem.W.Frag} {mg : Str → Option Value} {base : Heap} {C : Ccs} {sp : FSpec} {np k : Nat} {f : Addr} {fd : FuncData} {ps : List Str}
end
/-! ### raise -/
section
variable {P : Program} {w : World} {K : PySem.W.Frag} {mg : Str → Option Value} {base : Heap} {C : Ccs}
def sRaise (c : Nat) (we : EW) : SW := fun xk ρ _ => we xk ρ fun r ρ1 => stl r ρ1 fun d _ => xk c d []
end
end TL

namespace TL
open PySem PySem.Spec L2
/-! ### calls that may raise -/
def roA (ds : List D) : List Arg := ds.map Arg.ro
section
variable {Z : Zone} {ρ : REnv} {G H : Hp} {σ : L2.St}
end
/-- f(e, ..) of known values -/
def callX (sp : FSpec) (ds : List D) (ρ : REnv) (xk : Xk) (K : Rv → REnv → Prop) : Prop := sp (roA ds) (fun o _ => out o ρ K) (fun c d => xk c d [])
section
variable {X : Cx} {Z : Zone} {C : Ccs} {k c np : Nat} {f fa : Addr} {fd : FuncData} {ps ks : List Str} {sp : FSpec} {dw : DW} {x m : Str} {p pos apos px : Pos} {pr : List Nat} {e a b : Expr} {es : List Expr} {w wa wb : EW} {kws : List PySem.Keyword}
def eCallX (np : Nat) (sp : FSpec) (dw : DW) : EW := fun xk ρ K => dw xk ρ fun ds ρ1 => ds.length = np ∧ callX sp ds ρ1 xk K
/-- e.m(..) -/
def eMethX (c np : Nat) (sp : FSpec) (w : EW) (dw : DW) : EW := fun xk ρ K => w xk ρ fun r ρ1 => stl r ρ1 fun d ρ2 => isObj c d ∧ dw xk ρ2 fun ds ρ3 => ds.length + 1 = np ∧ callX sp (d :: ds) ρ3 xk K
/-- e.f, a property, of what may have raised -/
def ePropX (c : Nat) (sp : FSpec) (w : EW) : EW := fun xk ρ K => w xk ρ fun r ρ1 => stl r ρ1 fun d ρ2 => isObj c d ∧ callK sp [.ro d] ρ2 xk0 K
/-- C(..), the __init__ of which may raise -/
def eMakeX (c np : Nat) (sp : FSpec) (dw : DW) : EW := fun xk ρ K => dw xk ρ fun ds ρ1 => ds.length + 1 = np ∧ sp (.mu (.obj c []) :: roA ds) (fun o es => match o, es with
    | .sh .non, [d0] => ∀ a, K (.fr a d0) ρ1
    | _, _ => False) (fun c d => xk c d [])
/-- one + other, of own instances -/
def eOwn2X (c : Nat) (sp : FSpec) (wa wb : EW) : EW := eTwo wa wb fun d1 d2 xk ρ K => isObj c d1 ∧ isObj c d2 ∧ callX sp [d1, d2] ρ xk K
/-- f(k = v, ..) -/
def eCallXP (np : Nat) (p : List Nat) (sp : FSpec) (dw : DW) : EW := fun xk ρ K => dw xk ρ fun ds ρ1 => (ds.length = np ∧ (pm p ds).length = np) ∧ callX sp (pm p ds) ρ1 xk K
theorem Reps.at_ {cc : CC} {G : Hp} : ∀ {ds : List D} {vs : List V} (i : Nat), Reps cc G vs ds → (vs[i]? = none ∧ ds[i]? = none) ∨ ∃ v d, vs[i]? = some v ∧ ds[i]? = some d ∧ Rep cc G v d
  | [], vs, i, h => by rw [h.inv_nil]; exact .inl ⟨rfl, rfl⟩
  | d :: ds, vs, 0, h => by obtain ⟨v, r, rfl, a, q⟩ := h.inv_cons; exact .inr ⟨v, d, rfl, rfl, a⟩
  | d :: ds, vs, i + 1, h => by obtain ⟨v, r, rfl, a, q⟩ := h.inv_cons; simpa using Reps.at_ i q
end
end TL

namespace TL
open PySem PySem.Spec L2 PyProof.Rows
/-! ### try -/
def exn (c : Nat) (d : D) : D := .dct [.int ((c + 50 : Nat) : Int)] [d]
section
variable {X : Cx} {pins : List (Addr × Obj)} {σ : L2.St} {H : Hp} {s : Shared}
end
def hXk (n : Nat) (K : SK) : List (List Bool × Option Nat × SW) → Nat → D → Prop
  | [], _, _ => False
  | (m, o, sw) :: r, c, d => match m[c]? with
    | none => False
    | some false => hXk n K r c d
    | some true => match o with
      | none => sw xk0 (List.replicate n .no) { nx := K.nx, rt := fun _ _ => False }
      | some i => i < n ∧ sw xk0 ((List.replicate n .no).set i (.sh (exn c d))) { nx := fun ρ => K.nx (ρ.set i .no), rt := fun _ _ => False }
def sTry (b : SW) (hs : List (List Bool × Option Nat × SW)) : SW := fun _ ρ K => b (fun c d _ => hXk ρ.length K hs c d) ρ K
inductive HdT (C : Ccs) (X : Cx) : List ExceptHandler → List (List Bool × Option Nat × SW) → Prop
  | nil : HdT C X [] []
  | plain {x : Str} {C1 : Addr} {m : List Bool} {sw : SW} {b1 : Stmt} {su : List Stmt} {np pos' : Pos} {hds : List ExceptHandler} {l : List (List Bool × Option Nat × SW)} (hc : Names X x (.ref C1)) (hm : ∀ c b, m[c]? = some b → PySem.W.exmOne X.K (.ref (C.xc c)) (.ref C1) = some b)
      (hsu : ∀ (a : Addr) (pn : List (Addr × Obj)) (Z : Zone), Z.cc = C.cc → Z.xk = xk0 → PSs (X.suite a pn) (b1 :: su) (Ts Z sw)) (r : HdT C X hds l) : HdT C X (.ExceptHandler (some (.Name x np)) none (b1 :: su) pos' :: hds) ((m, none, sw) :: l)
  | named {x y : Str} {i : Nat} {C1 : Addr} {m : List Bool} {sw : SW} {b1 : Stmt} {su : List Stmt} {np pos' : Pos} {hds : List ExceptHandler} {l : List (List Bool × Option Nat × SW)} (hi : X.N[i]? = some y) (hl : X.env.kindOf y = some .local) (hc : Names X x (.ref C1)) (hm : ∀ c b, m[c]? = some b → PySem.W.exmOne X.K (.ref (C.xc c)) (.ref C1) = some b)
      (hsu : ∀ (a : Addr) (pn : List (Addr × Obj)) (Z : Zone), Z.cc = C.cc → Z.xk = xk0 → PSs (X.suite a pn) (b1 :: su) (Ts Z sw)) (r : HdT C X hds l) : HdT C X (.ExceptHandler (some (.Name x np)) (some y) (b1 :: su) pos' :: hds) ((m, some i, sw) :: l)
end TL

namespace TL
open PySem PySem.Spec L2 PyProof.Rows
section
variable {X : Cx} {Z : Zone} {C : Ccs} {body : List Stmt} {hd0 : ExceptHandler} {hds : List ExceptHandler} {b : SW} {ls : List (List Bool × Option Nat × SW)} {pos : Pos}
end
end TL

namespace TL
open PySem PySem.Spec L2 PyProof.Rows
/-! ### what a caught error tells -/
structure XcF (K : PySem.W.Frag) (C1 : Addr) : Prop where
  ga : PySem.W.findIn K (.ref C1) "__getattribute__" = some (some (.builtin "BaseException.__getattribute__"))
  gg : PySem.W.findIn K (.ref C1) "__getattr__" = some none
  sb : PySem.W.subIn K (.ref C1) (.type "BaseException") = some true
  hd : PySem.W.hasDictIn K C1 = true
  nv : PySem.W.findIn K (.ref C1) "value" = some none
  cl : PySem.W.findIn K (.ref C1) "__class__" = some (some (.builtin "object.__class__"))
  gt : PySem.W.specialIn K (.builtin "object.__class__") "__get__" = some (some (.builtin "getset_descriptor.__get__"))
  tk : PySem.W.takesIn K (.builtin "object.__class__") = some true
  mo : PySem.W.mroIn K C1 (.type "object") = some true
def opXv (n : Nat) : D → OW
  | .dct [.int j] [d] => fun k => (50 ≤ j ∧ j.toNat - 50 < n) ∧ k (.sh d)
  | _ => fun _ => False
def opIsX (bs : List Bool) : D → OW
  | .dct [.int j] _ => fun k => 50 ≤ j ∧ match bs[j.toNat - 50]? with
    | some b => k (.sh (.bl b))
    | none => False
  | _ => fun _ => False
theorem opXv_exn {n c : Nat} {d : D} {k : Ro → Prop} : opXv n (exn c d) k = (c < n ∧ k (.sh d)) := by
  unfold opXv exn
  have e : (((c + 50 : Nat) : Int).toNat - 50) = c := by omega
  have h : (50 : Int) ≤ ((c + 50 : Nat) : Int) := by omega
  simp only [e, h, true_and]
theorem opIsX_exn {bs : List Bool} {c : Nat} {d : D} {k : Ro → Prop} : opIsX bs (exn c d) k = (match bs[c]? with
    | some b => k (.sh (.bl b))
    | none => False) := by
  unfold opIsX exn
  have e : (((c + 50 : Nat) : Int).toNat - 50) = c := by omega
  simp only [e]
  have h : (50 : Int) ≤ ((c + 50 : Nat) : Int) := by omega
  simp only [h, true_and]
section
variable {X : Cx} {pins : List (Addr × Obj)} {σ : L2.St} {H : Hp} {s : Shared}
end
section
variable {X : Cx} {Z : Zone} {e : Expr} {w : EW} {pos p p2 : Pos} {n : Nat} {bs : List Bool}
end
end TL

namespace TL
open PySem PySem.Spec L2
section
variable {X : Cx} {Z : Zone} {e : Expr} {w : EW} {wd : DW} {kws : List PySem.Keyword} {nm : Option Str} {kpos : Pos}
/-! ### the words, for simp -/
theorem e0_is {xk : Xk} {ρ : REnv} {K : Rv → REnv → Prop} : e0 w xk ρ K = w xk0 ρ K := rfl
theorem t0_is {tw : TW} {xk : Xk} {ρ : REnv} {K : Bool → REnv → Prop} : t0 tw xk ρ K = tw xk0 ρ K := rfl
theorem d0_is {xk : Xk} {ρ : REnv} {K : List D → REnv → Prop} : d0 wd xk ρ K = wd xk0 ρ K := rfl
theorem s0_is {sw : SW} {xk : Xk} {ρ : REnv} {K : SK} : s0 sw xk ρ K = sw xk0 ρ K := rfl
theorem i0_is {iw : IW} {xk : Xk} {ρ : REnv} {K : Nat → (Nat → D → Prop) → (REnv → Prop) → REnv → Prop} : i0 iw xk ρ K = iw xk0 ρ K := rfl
theorem hXk_n {n : Nat} {K : SK} {m : List Bool} {sw : SW} {r : List (List Bool × Option Nat × SW)} {c : Nat} {d : D} : hXk n K ((m, none, sw) :: r) c d = (match m[c]? with
    | none => False
    | some false => hXk n K r c d
    | some true => sw xk0 (List.replicate n .no) { nx := K.nx, rt := fun _ _ => False }) := rfl
theorem hXk_s {n i : Nat} {K : SK} {m : List Bool} {sw : SW} {r : List (List Bool × Option Nat × SW)} {c : Nat} {d : D} : hXk n K ((m, some i, sw) :: r) c d = (match m[c]? with
    | none => False
    | some false => hXk n K r c d
    | some true => i < n ∧ sw xk0 ((List.replicate n .no).set i (.sh (exn c d))) { nx := fun ρ => K.nx (ρ.set i .no), rt := fun _ _ => False }) := rfl
end
end TL

namespace TL
open PySem PySem.Spec L2
/-! ### sorted(xs), of ints -/
end TL

namespace TL
open PySem PySem.Spec L2
section
variable {X : Cx} {Z : Zone} {e : Expr} {w : EW} {pos : Pos}
/-! ### xs.extend(a new list) -/
def sExt (j : Nat) (w : EW) : SW := fun xk ρ K => (∃ m a ds, ρ[j]? = some (.own m a (.lst ds))) ∧ w xk ρ fun r ρ1 => match r, ρ1[j]? with
  | .fr _ (.lst es), some (.own m a (.lst ds)) => ds.length + es.length ≤ sizeLine ∧ K.nx (ρ1.set j (.own m a (.lst (ds ++ es))))
  | _, _ => False
end
end TL

namespace TL
open PySem PySem.Spec L2
/-! ### x in xs, x not in xs -/
section
variable {cc : CC}
/-! ### any(xs), tuple(xs) -/
def opAny : D → OW
  | .lst ds => fun k => ∃ bs : List Bool, ds = bs.map D.bl ∧ k (.sh (.bl (bs.any id)))
  | _ => fun _ => False
def opTup : D → OW
  | .lst ds => fun k => k (.sh (.tup ds))
  | _ => fun _ => False
end
section
variable {X : Cx} {Z : Zone} {a b e : Expr} {wa wb w : EW} {pos : Pos}
/-! ### xs.pop(i), as a value -/
/-! ### xs.index(y) -/
end
end TL

namespace TL
open PySem PySem.Spec L2
/-! ### [elt for tg in iter for tg1 in iter1] -/
section
variable {X : Cx} {Z : Zone}
/-! ### is True, is not False -/
def opIsB (c : Bool) : D → OW
  | .bl b => fun k => k (.sh (.bl (decide (b = c))))
  | _ => fun _ => False
def opNotB (c : Bool) : D → OW
  | .bl b => fun k => k (.sh (.bl (!decide (b = c))))
  | _ => fun _ => False
theorem isB_b {c b : Bool} {k : Ro → Prop} : opIsB c (.bl b) k = k (.sh (.bl (decide (b = c)))) := rfl
theorem notB_b {c b : Bool} {k : Ro → Prop} : opNotB c (.bl b) k = k (.sh (.bl (!decide (b = c)))) := rfl
theorem any_l {ds : List D} {k : Ro → Prop} : opAny (.lst ds) k = ∃ bs : List Bool, ds = bs.map D.bl ∧ k (.sh (.bl (bs.any id))) := rfl
theorem tup_l {ds : List D} {k : Ro → Prop} : opTup (.lst ds) k = k (.sh (.tup ds)) := rfl
end
end TL

namespace TL
open PySem PySem.Spec PyProof.Rows L2
/-! ### ranges whose ends have any size -/
section
variable {X : Cx} {Z : Zone} {tg : Expr}
def iRL (wd : DW) : IW := fun xk ρ K => wd xk ρ fun ds ρ1 => match ds with
  | [.int i, .int j] => K (j - i).toNat (fun k d => d = .int (i + k)) (fun _ => True) ρ1
  | _ => False
end
end TL

namespace TL
open PySem PySem.Spec L2
/-! ### texts -/
def strI (i : Int) : Str := toString i
/-! ### str(n), {x} -/
def opStr : D → OW
  | .int i => fun k => i.natAbs.log2 < 1920 ∧ k (.sh (.str (strI i)))
  | _ => fun _ => False
def opFmt : D → OW
  | .str y => fun k => y.length ≤ sizeLine ∧ k (.sh (.str y))
  | .int i => fun k => i.natAbs.log2 < 1920 ∧ k (.sh (.str (strI i)))
  | _ => fun _ => False
section
variable {X : Cx} {Z : Zone} {e a b : Expr} {w wa wb : EW} {pos : Pos}
/-! ### f-strings -/
inductive DJ (X : Cx) (Z : Zone) : List Expr → List EW → Prop where
  | nil : DJ X Z [] []
  | cons {e : Expr} {w : EW} {es : List Expr} {ws : List EW} (h : PE X e (T Z w)) (r : DJ X Z es ws) : DJ X Z (e :: es) (w :: ws)
/-! ### sep.join(xs) -/
end
theorem str_i {i : Int} {k : Ro → Prop} : opStr (.int i) k = (i.natAbs.log2 < 1920 ∧ k (.sh (.str (strI i)))) := rfl
theorem fmt_i {i : Int} {k : Ro → Prop} : opFmt (.int i) k = (i.natAbs.log2 < 1920 ∧ k (.sh (.str (strI i)))) := rfl
theorem fmt_s {i : Str} {k : Ro → Prop} : opFmt (.str i) k = (i.length ≤ sizeLine ∧ k (.sh (.str i))) := rfl
end TL

namespace TL
open PySem PySem.Spec L2
section
variable {X : Cx} {Z : Zone} {a b : Expr} {wa wb : EW} {pos : Pos}
/-! ### xs * n, xs new or a name's own -/
end
end TL

namespace TL
open PySem PySem.Spec L2
/-! ### dicts: keys and values as trees -/
theorem eqD_key : ∀ a b : Key, eqD (keyD a) (keyD b) = decide (a = b)
  | .inl a, .inl b => by
    show PyData.eqv (.int a) (.int b) = _
    simp only [PyData.eqv]
    rw [Bool.eq_iff_iff]
    simp
  | .inr a, .inr b => by
    show PyData.eqv (.str a) (.str b) = _
    simp only [PyData.eqv]
    rw [Bool.eq_iff_iff]
    simp
  | .inl a, .inr b => by
    rw [decide_eq_false (by intro h; cases h)]
    rfl
  | .inr a, .inl b => by
    rw [decide_eq_false (by intro h; cases h)]
    rfl
theorem eqDs_keys : ∀ a b : List Key, eqDs (a.map keyD) (b.map keyD) = decide (a = b)
  | [], [] => rfl
  | [], b :: bs => by rw [decide_eq_false (by simp)]; rfl
  | a :: as, [] => by rw [decide_eq_false (by simp)]; rfl
  | a :: as, b :: bs => by
    have e : eqDs ((a :: as).map keyD) ((b :: bs).map keyD) = (eqD (keyD a) (keyD b) && eqDs (as.map keyD) (bs.map keyD)) := rfl
    rw [e, eqD_key, eqDs_keys as bs, Bool.eq_iff_iff]
    simp
theorem eqD_tkey (a b : List Key) : eqD (.tup (a.map keyD)) (.tup (b.map keyD)) = decide (a = b) := by
  have e : eqD (.tup (a.map keyD)) (.tup (b.map keyD)) = eqDs (a.map keyD) (b.map keyD) := rfl
  rw [e, eqDs_keys]
/-- what a dict holds at a key -/
def valD : List D → List D → D → Option D
  | k :: ks, d :: ds, y => if eqD k y then some d else valD ks ds y
  | _, _, _ => none
/-- the keys, the values behind d[y] = v -/
def putKD : List D → D → List D
  | [], y => [y]
  | k :: ks, y => if eqD k y then k :: ks else k :: putKD ks y
def putVD : List D → List D → D → D → List D
  | k :: ks, d :: ds, y, v => if eqD k y then v :: ds else d :: putVD ks ds y v
  | _, _, _, v => [v]
section
variable {cc : CC} {G : Hp} {κ : Type} [DecidableEq κ] {f : κ → D}
theorem putK_neg {p : κ × V} {r : List (κ × V)} {y : κ} {v : V} (e : ¬ p.1 = y) : putK (p :: r) y v = p :: putK r y v := by
  unfold putK
  rw [List.any_cons, decide_eq_false e, Bool.false_or]
  split
  · rw [List.map_cons, if_neg e]
  · rfl
theorem putK_pos {k : κ} {u v : V} {r : List (κ × V)} (h : ∀ p ∈ r, ¬ p.1 = k) : putK ((k, u) :: r) k v = (k, v) :: r := by
  unfold putK
  rw [List.any_cons, decide_eq_true rfl, Bool.true_or, if_pos rfl, List.map_cons, if_pos rfl]
  congr 1
  have : r.map (fun kv => if kv.1 = k then (kv.1, v) else kv) = r.map id := List.map_congr_left fun p hp => by
    rw [if_neg (h p hp)]
    rfl
  rw [this, List.map_id]
theorem zip_key {kk : List κ} {vs : List V} {k : κ} (h : ¬ k ∈ kk) : ∀ p ∈ kk.zip vs, ¬ p.1 = k := fun p hp e => h (by
  rw [← e]
  exact (List.of_mem_zip hp).1)
/-- behind d[y] = v: its pairs -/
theorem put_rel (hf : ∀ a b, eqD (f a) (f b) = decide (a = b)) (y : κ) {v : V} {d : D} (rv : Rep cc G v d) : ∀ {kk : List κ} {vs : List V} {ds : List D}, kk.length = vs.length → kk.Nodup → Reps cc G vs ds →
    ∃ (kk' : List κ) (vs' : List V), putKD (kk.map f) (f y) = kk'.map f ∧ kk'.length = vs'.length ∧ kk'.Nodup ∧ (∀ x, x ∈ kk' → x ∈ kk ∨ x = y) ∧ putK (kk.zip vs) y v = kk'.zip vs' ∧ Reps cc G vs' (putVD (kk.map f) ds (f y) d)
  | [], [], ds, _, _, r => by
    have : ds = [] := by cases ds with | nil => rfl | cons d ds => exact absurd r.length (by simp)
    subst this
    exact ⟨[y], [v], rfl, rfl, by simp, fun x hx => .inr (List.mem_singleton.mp hx), rfl, Reps.cons rv Reps.nil⟩
  | [], _ :: _, _, h, _, _ => by simp at h
  | _ :: _, [], _, h, _, _ => by simp at h
  | k :: kk, u :: vs, ds, h, hn, r => by
    cases ds with
    | nil => exact absurd r.length (by simp)
    | cons e ds =>
      obtain ⟨v', r', e1, ra, rr⟩ := r.inv_cons
      cases e1
      obtain ⟨n1, n2⟩ := List.nodup_cons.mp hn
      have ek : putKD ((k :: kk).map f) (f y) = if decide (k = y) = true then f k :: kk.map f else f k :: putKD (kk.map f) (f y) := by
        show (if eqD (f k) (f y) = true then f k :: kk.map f else f k :: putKD (kk.map f) (f y)) = _
        rw [hf]
      have ev : putVD ((k :: kk).map f) (e :: ds) (f y) d = if decide (k = y) = true then d :: ds else e :: putVD (kk.map f) ds (f y) d := by
        show (if eqD (f k) (f y) = true then d :: ds else e :: putVD (kk.map f) ds (f y) d) = _
        rw [hf]
      rw [ek, ev]
      by_cases hk : k = y
      · subst hk
        rw [decide_eq_true rfl, if_pos rfl, if_pos rfl]
        refine ⟨k :: kk, v :: vs, rfl, by simpa using h, hn, fun x hx => .inl hx, ?_, Reps.cons rv rr⟩
        exact putK_pos (zip_key n1)
      · rw [decide_eq_false hk]
        obtain ⟨kk', vs', a1, a2, a3, a4, a5, a6⟩ := put_rel hf y rv (kk := kk) (vs := vs) (ds := ds) (by simpa using h) n2 rr
        refine ⟨k :: kk', u :: vs', by simp [a1], by simp [a2], List.nodup_cons.mpr ⟨fun hm => (a4 k hm).elim n1 hk, a3⟩, fun x hx => ?_, ?_, Reps.cons ra a6⟩
        · rcases List.mem_cons.mp hx with h | h
          · exact .inl (by rw [h]; exact List.mem_cons_self)
          · exact (a4 x h).imp (List.mem_cons_of_mem _) id
        · show putK ((k, u) :: kk.zip vs) y v = (k, u) :: kk'.zip vs'
          rw [putK_neg (p := (k, u)) hk, a5]
end
theorem rep_key {cc : CC} {H : Hp} {y : V} : ∀ {k : Key}, Rep cc H y (keyD k) → y = kV k
  | .inl i, r => by unfold keyD Rep at r; exact r
  | .inr x, r => by unfold keyD Rep at r; exact r
theorem reps_keys {cc : CC} {H : Hp} : ∀ {kt : List Key} {vs : List V}, Reps cc H vs (kt.map keyD) → vs = kt.map kV
  | [], vs, r => r.inv_nil
  | k :: kt, vs, r => by
    obtain ⟨v, r', rfl, ra, rr⟩ := r.inv_cons
    rw [rep_key ra, reps_keys rr]
    rfl
/-- a key of a dict of the kind m -/
def KeyD (m : Bool) (k : D) : Prop := if m = true then ∃ kt : List Key, k = .tup (kt.map keyD) else ∃ kk : Key, k = keyD kk
/-- behind d[y] = v -/
theorem DctO.put {cc : CC} {G H : Hp} {a : Addr} {m : Bool} {ks ds : List D} {vs : List V} {y v : V} {k d : D} (r : DctO H a (.bl m :: ks) vs) (rs : Reps cc G vs ds) (ry : Rep cc H y k) (hk : KeyD m k) (rv : Rep cc G v d) (hl : ds.length < sizeLine) :
    ∃ (o : HO) (vs' : List V), DPut H a y v (upd H a o) ∧ DctO (upd H a o) a (.bl m :: putKD ks k) vs' ∧ Reps cc G vs' (putVD ks ds k d) := by
  rw [← rs.length] at hl
  rcases r with ⟨kk, e, h2, h3, h4⟩ | ⟨kt, e, h2, h3, h4⟩
  · cases e
    obtain ⟨k0, rfl⟩ : ∃ kk : Key, k = keyD kk := hk
    obtain ⟨kk', vs', a1, a2, a3, a4, a5, a6⟩ := put_rel (cc := cc) (G := G) eqD_key k0 rv h2 h3 rs
    refine ⟨.dK (kk'.zip vs'), vs', .inl ⟨_, k0, h4, rep_key ry, by rw [List.length_zip]; omega, by rw [a5]⟩, .inl ⟨kk', by rw [a1], a2, a3, upd_same⟩, a6⟩
  · cases e
    obtain ⟨kt0, rfl⟩ : ∃ kt : List Key, k = .tup (kt.map keyD) := hk
    obtain ⟨kk', vs', a1, a2, a3, a4, a5, a6⟩ := put_rel (cc := cc) (G := G) (f := fun k : List Key => D.tup (k.map keyD)) eqD_tkey kt0 rv h2 h3 rs
    unfold Rep at ry
    obtain ⟨b, ws, rfl, hb, rw'⟩ := ry
    rw [reps_keys rw'] at hb
    refine ⟨.dT (kk'.zip vs'), vs', .inr ⟨_, kt0, b, h4, rfl, hb, by rw [List.length_zip]; omega, by rw [a5]⟩, .inr ⟨kk', by rw [a1], a2, a3, upd_same⟩, a6⟩
section
variable {X : Cx} {Z : Zone} {a b e : Expr} {wa wb w : EW} {pos : Pos}
/-! ### d[k] -/
def eDGet (wd wk : EW) : EW := fun xk ρ K => wd xk ρ fun r1 ρ1 => wk xk ρ1 fun r2 ρ2 => pok r1 ρ2 ∧ match r1.get ρ2 with
  | .dic (.bl m :: ks) ds => KeyD m (r2.get ρ2) ∧ ∃ d, valD ks ds (r2.get ρ2) = some d ∧ K (.sh d) ρ2
  | _ => False
/-! ### a new dict -/
def eDNew (m : Bool) : EW := fun _ ρ K => ∀ p, K (.fr p (.dic [.bl m] [])) ρ
/-! ### d[k] = v -/
def sDSet (j : Nat) (wi w : EW) : SW := fun xk ρ K => w xk ρ fun r ρ1 => stl r ρ1 fun d ρ2 => bound ρ2 j ∧ wi xk ρ2 fun ri ρ3 => match ρ3[j]? with
  | some (.own m a (.dic (.bl t :: ks) ds)) => KeyD t (ri.get ρ3) ∧ ds.length < sizeLine ∧ K.nx (ρ3.set j (.own m a (.dic (.bl t :: putKD ks (ri.get ρ3)) (putVD ks ds (ri.get ρ3) d))))
  | _ => False
/-! ### d.get(k, e) -/
def isDc : D → Prop
  | .dic _ _ => True
  | _ => False
def eDGet2 (wd wk we : EW) : EW := fun xk ρ K => wd xk ρ fun r1 ρ1 => isDc (r1.get ρ1) ∧ wk xk ρ1 fun r2 ρ2 => we xk ρ2 fun r3 ρ3 => pok r1 ρ3 ∧ pok r2 ρ3 ∧ match r1.get ρ3 with
  | .dic (.bl m :: ks) ds => KeyD m (r2.get ρ3) ∧ (∀ d, valD ks ds (r2.get ρ3) = some d → K (.sh d) ρ3) ∧ (valD ks ds (r2.get ρ3) = none → K r3 ρ3)
  | _ => False
/-! ### a name gives its own object away -/
def eTake (j : Nat) : EW := fun _ ρ K => match ρ[j]? with
  | some (.own false a d) => K (.fr a d) (ρ.set j .no)
  | _ => False
end
end TL

namespace TL
open PySem PySem.Spec L2
/-! ### a locked dict is let go -/
section
variable {cc : CC} {G : Hp} {d : Addr} {od : Obj} {u : HO}
end
section
variable {Z : Zone} {ρ : REnv} {G H : Hp} {σ : L2.St} {d : Addr} {od : Obj} {u : HO}
end
end TL

namespace TL
open PySem PySem.Spec L2
/-! ### a loop over a dict -/
section
variable {X : Cx} {Z : Zone} {pos : Pos} {sb : SW}
end
end TL

namespace TL
open PySem PySem.Spec L2
/-! ### {k: v}, both constants -/
section
variable {X : Cx} {Z : Zone} {pos : Pos}
def eDisp1 (k : Key) (d : D) : EW := fun _ ρ K => ∀ p, K (.fr p (.dic [.bl false, keyD k] [d])) ρ
end
end TL

namespace TL
open PySem PySem.Spec L2
/-! ### [elt for tg in d if t], the dict a name's own -/
section
end
section
variable {X : Cx} {Z : Zone}
end
end TL

namespace TL
open PySem L2
/-! ### a table of counts: (key, count) -/
def wsum (φ : Int → Int) (m : List (Int × Int)) : Int := (m.map fun p => p.2 * φ p.1).sum
/-- the table of a list of products -/
def Tab (m : List (Int × Int)) (L : List Int) : Prop := (m.map Prod.fst).Nodup ∧ ∀ φ : Int → Int, wsum φ m = (L.map φ).sum
theorem Tab.sum {m : List (Int × Int)} {L : List Int} (h : Tab m L) : (m.map Prod.snd).sum = (L.length : Int) := by
  have h1 := h.2 (fun _ => 1)
  have e1 : wsum (fun _ => 1) m = (m.map Prod.snd).sum := by simp [wsum]
  have e2 : ∀ L : List Int, (L.map fun _ => (1 : Int)).sum = (L.length : Int) := by
    intro L
    induction L with
    | nil => rfl
    | cons a L ih => simp only [List.map_cons, List.sum_cons, ih, List.length_cons]; omega
  rw [← e1, h1, e2]
end TL

namespace TL
open PySem L2
/-! ### a table of counts as a dict -/
end TL

namespace TL
open PySem PySem.Spec L2
/-! ### {k: v}, the key a tuple of ints and texts -/
section
variable {prog : Program} {w : World} {κ : Type} [DecidableEq κ] {knd : HeapKind prog w κ} {A : Around} {E : Value → Shared → Prop} {s : Shared}
end
/-! ### d.setdefault(y, z), keys of any kind -/
section
variable {X : Cx} {pins : List (Addr × Obj)} {σ : L2.St} {H : Hp} {s : Shared} {a : Addr} {u r : Value} {y d : V} {A : Around} {E : Value → Shared → Prop}
end
/-! ### over trees -/
section
variable {X : Cx} {Z : Zone} {a b e : Expr} {wa wb w : EW} {pos : Pos}
/-- {x: c}, x a name of a tuple, c a constant -/
def eDispN (i : Nat) (d : D) : EW := fun _ ρ K => match ρ[i]? with
  | some (.sh (.tup ks)) => (∃ kt : List Key, ks = kt.map keyD) ∧ ∀ p, K (.fr p (.dic [.bl true, .tup ks] [d])) ρ
  | _ => False
/-! ### k in d -/
def eDIn (wk wd : EW) : EW := fun xk ρ K => wk xk ρ fun r1 ρ1 => wd xk ρ1 fun r2 ρ2 => pok r1 ρ2 ∧ match r2.get ρ2 with
  | .dic (.bl m :: ks) ds => KeyD m (r1.get ρ2) ∧ K (.sh (.bl (valD ks ds (r1.get ρ2)).isSome)) ρ2
  | _ => False
def eDNotIn (wk wd : EW) : EW := fun xk ρ K => wk xk ρ fun r1 ρ1 => wd xk ρ1 fun r2 ρ2 => pok r1 ρ2 ∧ match r2.get ρ2 with
  | .dic (.bl m :: ks) ds => KeyD m (r1.get ρ2) ∧ K (.sh (.bl (!(valD ks ds (r1.get ρ2)).isSome))) ρ2
  | _ => False
/-! ### d.setdefault(k, v), d a name's own -/
def eDSetd (j : Nat) (wk wv : EW) : EW := fun xk ρ K => isOwn ρ j ∧ isDc (getL ρ j) ∧ wk xk ρ fun r2 ρ2 => wv xk ρ2 fun r3 ρ3 => stl r3 ρ3 fun z ρ4 => pok r2 ρ4 ∧ match ρ4[j]? with
  | some (.own m a (.dic (.bl t :: ks) ds)) => KeyD t (r2.get ρ4) ∧ ds.length < sizeLine ∧ (∀ d, valD ks ds (r2.get ρ4) = some d → K (.sh d) ρ4) ∧
    (valD ks ds (r2.get ρ4) = none → K (.sh z) (ρ4.set j (.own m a (.dic (.bl t :: putKD ks (r2.get ρ4)) (putVD ks ds (r2.get ρ4) z)))))
  | _ => False
end
end TL

namespace TL
open PySem PySem.Spec L2
/-! ### tuples of ints: t < u, sum(t) -/
section
variable {cc : CC}
def opSumT : D → OW
  | .tup ds => fun k => ∃ ns : List Int, ds = ns.map D.int ∧ k (.sh (.int ns.sum))
  | _ => fun _ => False
def opLtT : D → D → OW
  | .tup ds, .tup es => fun k => ∃ ns ms : List Int, ds = ns.map D.int ∧ es = ms.map D.int ∧ k (.sh (.bl (HT.lexLt ns ms)))
  | _, _ => fun _ => False
end
theorem ltT_l {ds es : List D} {k : Ro → Prop} : opLtT (.tup ds) (.tup es) k = ∃ ns ms : List Int, ds = ns.map D.int ∧ es = ms.map D.int ∧ k (.sh (.bl (HT.lexLt ns ms))) := rfl
theorem sumT_l {ds : List D} {k : Ro → Prop} : opSumT (.tup ds) k = ∃ ns : List Int, ds = ns.map D.int ∧ k (.sh (.int ns.sum)) := rfl
end TL

namespace TL
open PySem PySem.Spec L2
/-! ### sorted(xs), of tuples or lists -/
section
variable {cc : CC}
end
end TL

namespace TL
open PySem PySem.Spec L2
/-! ### xs <= ys, lists of ints -/
section
variable {cc : CC}
end
end TL

namespace PySem
open Sem (wp)
section
variable {M : Model} {A : Around} {E : Value → Shared → Prop} {s : Shared}
end
end PySem
namespace TL
open PySem PySem.Spec L2
/-! ### xs += a new list -/
section
variable {X : Cx} {Z : Zone} {e : Expr} {w : EW} {pos : Pos}
def sAugL (j : Nat) (w : EW) : SW := fun xk ρ K => (∃ m a ds, ρ[j]? = some (.own m a (.lst ds))) ∧ w xk ρ fun r ρ1 => match r, ρ1[j]? with
  | .fr _ (.lst es), some (.own m a (.lst ds)) => ds.length + es.length ≤ sizeLine ∧ K.nx (ρ1.set j (.own m a (.lst (ds ++ es))))
  | _, _ => False
end
end TL

namespace TL
open PySem PySem.Spec L2
/-! ### len(set(xs)), xs tuples of ints -/
section
variable {cc : CC}
end
section
variable {X : Cx} {Z : Zone} {a : Expr} {w : EW} {p p2 q pos : Pos}
end
end TL

/-! Ghosts: roots of no name, behind the frame. A list of lists that are changed holds `.ptr`s to them. -/
namespace TL
open PySem PySem.Spec L2

section
variable {Z : Zone} {ρ : REnv} {G H : Hp} {σ : L2.St}
theorem set_sameO {σ : L2.St} {j : Nat} {x : Option V} (h : σ[j]? = some x) : σ.set j x = σ := by
  obtain ⟨hj, e⟩ := List.getElem?_eq_some_iff.mp h
  rw [← e]
  exact List.set_getElem_self hj
theorem SR.drop (I : SR Z ρ G σ H) (j : Nat) : SR Z (ρ.set j .no) G σ H := by
  refine ⟨by simpa using I.len, I.sub, fun i s q => ?_, fun i k m n b x c y q1 q2 hn => ?_, fun i m b x q => ?_, I.ent, fun i m b x q => ?_, I.gnew, I.g0, I.mout, I.mux⟩
  · rcases get_set q with ⟨rfl, rfl⟩ | ⟨_, q⟩
    · trivial
    · exact I.slot i s q
  · rcases get_set q1 with ⟨_, q1⟩ | ⟨_, q1⟩
    · cases q1
    · rcases get_set q2 with ⟨_, q2⟩ | ⟨_, q2⟩
      · cases q2
      · exact I.inj i k m n b x c y q1 q2 hn
  · rcases get_set q with ⟨_, q⟩ | ⟨_, q⟩
    · cases q
    · exact I.out i m b x q
  · rcases get_set q with ⟨_, q⟩ | ⟨_, q⟩
    · cases q
    · exact I.frs i m b x q
/-- the roots behind are forgotten -/
theorem SR.cut (I : SR Z ρ G σ H) {n : Nat} (hn : Z.n ≤ n) : SR Z (ρ.take n) G σ H := by
  have tk : ∀ {i : Nat} {s : Sl}, (ρ.take n)[i]? = some s → ρ[i]? = some s := fun {i s} h => by
    rw [List.getElem?_take] at h
    split at h
    · exact h
    · cases h
  have len := I.len
  exact ⟨⟨len.1, by rw [List.length_take]; omega⟩, I.sub, fun i s q => I.slot i s (tk q), fun i k m n b x c y q1 q2 hn => I.inj i k m n b x c y (tk q1) (tk q2) hn, fun i m b x q => I.out i m b x (tk q), I.ent, fun i m b x q => I.frs i m b x (tk q), I.gnew, I.g0, I.mout, I.mux⟩
theorem own_fr (I : SR Z ρ G σ H) {j : Nat} {a : Addr} {d : D} (h : ρ[j]? = some (.own false a d)) : FrOk Z (ρ.set j .no) G H a d := by
  have fr := I.frs j _ a d h
  simp only [Bool.false_eq_true, if_false] at fr
  refine ⟨(I.slot j _ h).2, I.out j _ a d h, fun i m b e q => ?_, fr.1, fr.2⟩
  rcases get_set q with ⟨_, q⟩ | ⟨hi, q⟩
  · cases q
  · exact I.inj i j m false b e a d q h hi
theorem one_get {α : Type} {x y : α} {i : Nat} (h : [x][i]? = some y) : x = y ∧ i = 0 := by
  cases i with
  | zero => exact ⟨Option.some.inj h, rfl⟩
  | succ i => simp at h
theorem SR.push (I : SR Z ρ G σ H) {a : Addr} {d : D} (h : FrOk Z ρ G H a d) : SR Z (ρ ++ [.own false a d]) G σ H :=
  I.addGs (as := [a]) (ds := [d]) (by simp) fun i b e h1 h2 => by
    obtain ⟨rfl, _⟩ := one_get h1
    obtain ⟨rfl, _⟩ := one_get h2
    exact h
theorem fr_notin (h : FrOk Z ρ G H a d) : a ∉ owns ρ := fun hm => by
  obtain ⟨i, p, d, hs⟩ := owns_mem.mp hm
  exact h.2.2.1 i p a d hs rfl
end

section
variable {X : Cx} {Z : Zone} {e a b : Expr} {w wa wb wx : EW} {pos : Pos}
/-! ### a new root is kept as a ghost -/
def keepK (r : Rv) (ρ : REnv) (K : Rv → REnv → Prop) : Prop := match r with
  | .fr a d => a ∉ owns ρ → K (.sh (.ptr a)) (ρ ++ [.own false a d])
  | .loc i => match ρ[i]? with
    | some (.own false a d) => K (.sh (.ptr a)) (ρ.set i (.sh (.ptr a)) ++ [.own false a d])
    | some (.sh d) => K (.sh d) ρ
    | _ => False
  | .sh d => K (.sh d) ρ
  | .gh _ a => K (.sh (.ptr a)) ρ
  | .gx _ _ _ => False
def eKeep (w : EW) : EW := fun xk ρ K => w xk ρ fun r ρ1 => keepK r ρ1 K
theorem SR.kept {ρ : REnv} {G H : Hp} {σ : L2.St} {r : Rv} {v : V} {K : Rv → REnv → Prop} (I : SR Z ρ G σ H) (q : RvOk Z r ρ G σ H v) (h : keepK r ρ K) : ∃ d ρ', SR Z ρ' G σ H ∧ Rep Z.cc G v d ∧ K (.sh d) ρ' := by
  unfold keepK at h
  cases r with
  | sh d => exact ⟨d, ρ, I, q, h⟩
  | gh j a => exact ⟨.ptr a, ρ, I, by unfold Rep; exact q.1, h⟩
  | gx as cs t => exact h.elim
  | fr a d =>
    obtain ⟨rfl, q⟩ := q
    exact ⟨.ptr a, _, I.push q, by unfold Rep; rfl, h (fr_notin q)⟩
  | loc i =>
    obtain ⟨ev, _⟩ := q
    cases hs : ρ[i]? with
    | none => simp only [hs] at h
    | some s =>
      simp only [hs] at h
      have so := I.slot i s hs
      cases s with
      | no => exact h.elim
      | sh d =>
        obtain ⟨u, eu, r⟩ := so
        rw [ev] at eu; cases eu
        exact ⟨d, ρ, I, r, h⟩
      | own m a d =>
        cases m with
        | true => exact h.elim
        | false =>
          have e := own_in ev so.1
          subst e
          have rp : Rep Z.cc G (.ref a) (.ptr a) := by unfold Rep; rfl
          have I2 : SR Z (ρ.set i (.sh (.ptr a))) G σ H := by
            have := I.put (i := i) (v := .ref a) (List.getElem?_eq_some_iff.mp ev).1 rp
            rw [set_sameO ev] at this
            exact this
          have f := own_fr I hs
          refine ⟨.ptr a, _, I2.push ⟨f.1, f.2.1, fun j p b x q => ?_, f.2.2.2.1, f.2.2.2.2⟩, rp, h⟩
          rcases get_set q with ⟨_, q⟩ | ⟨hj, q⟩
          · cases q
          · exact I.inj j i p false b x a d q hs hj
theorem de_keep (h : PE X e (T Z w)) : PE X e (T Z (eKeep w)) :=
  ⟨fun pins s σ H Q I ⟨ρ, G, K, IR, hw, q⟩ => h.run pins s σ H Q I ⟨ρ, G, _, IR, hw, fun r ρ1 v H1 G1 le1 I1 q1 k1 => by
    obtain ⟨d, ρ2, I2, rp, k2⟩ := I1.kept q1 k1
    exact q (.sh d) ρ2 v H1 G1 le1 I2 rp k2⟩⟩
/-! ### a ghost becomes a new root again -/
def eAd (w : EW) : EW := fun xk ρ K => w xk ρ fun r ρ1 => match r with
  | .fr a d => K (.fr a d) ρ1
  | r => match r.get ρ1 with
    | .ptr a => ∃ j d, ρ1[j]? = some (.own false a d) ∧ K (.fr a d) (ρ1.set j .no)
    | _ => False
/-! ### a pointer is followed -/
def eDr (w : EW) : EW := fun xk ρ K => w xk ρ fun r ρ1 => match r.get ρ1 with
  | .ptr a => ∃ j, (∃ p d, ρ1[j]? = some (.own p a d)) ∧ K (.gh j a) ρ1
  | _ => False
theorem de_dr (h : PE X e (T Z w)) : PE X e (T Z (eDr w)) :=
  ⟨fun pins s σ H Q I ⟨ρ, G, K, IR, hw, q⟩ => h.run pins s σ H Q I ⟨ρ, G, _, IR, hw, fun r ρ1 v H1 G1 le1 I1 q1 k1 => by
    have vw := q1.view I1
    split at k1
    · rename_i a hg
      rw [hg] at vw
      obtain ⟨j, hs, k⟩ := k1
      have vw : v = .ref a := vw
      exact q (.gh j a) _ v H1 G1 le1 I1 ⟨vw, hs⟩ k
    · exact k1.elim⟩⟩
/-! ### all that is within is seen through, for a comparison -/
def eBinG (op : D → D → OW) (wa wb : EW) : EW := fun xk ρ K => wa xk ρ fun r1 ρ1 => wb xk ρ1 fun r2 ρ2 => pok r1 ρ2 ∧ ∃ d e, Vw (gP ρ2) (r1.get ρ2) d ∧ Vw (gP ρ2) (r2.get ρ2) e ∧
  op d e fun o => ∃ b, o = .sh (.bl b) ∧ K (.sh (.bl b)) ρ2
theorem Vw.repH {L : List (Addr × D)} {cc : CC} {G H : Hp} {d e : D} {v : V} (hL : ∀ a d, (a, d) ∈ L → Root cc G H a d) (le : LE G H) (h : Vw L d e) (r : Rep cc H v d) : Rep cc H v e :=
  h.sound (LE.refl H) (fun a d hm => (hL a d hm).mono le) v r
end
end TL

/-! Ghosts: changed in place, given up, handed back, handed in. -/
namespace TL
open PySem PySem.Spec L2

section
variable {X : Cx} {Z : Zone} {e a b : Expr} {w wa wb wx : EW} {pos : Pos}
/-! ### changed in place -/
def sAppE (wx w : EW) : SW := fun xk ρ K => wx xk ρ fun r ρ1 => match r with
  | .gh j a => (∃ m ds, ρ1[j]? = some (.own m a (.lst ds))) ∧ w xk ρ1 fun r2 ρ2 => stl r2 ρ2 fun d ρ3 => match ρ3[j]? with
    | some (.own m b (.lst ds)) => b = a ∧ ds.length < sizeLine ∧ K.nx (ρ3.set j (.own m b (.lst (ds ++ [d]))))
    | _ => False
  | _ => False
theorem ds_appE {o : Expr} {apos cpos : Pos} (ho : PE X o (T Z wx)) (he : PE X e (T Z w))
    (hbase : attributeBase o "append" X.env (eval o X.env) = eval o X.env := by rfl)
    (hfew : ((backTo cpos (starEach [e] X.env)).all (fun x => !x.1) && (backToKw cpos (keywordEach [] X.env)).all (fun x => x.1.isSome)
      && decide (([e] : List Expr).length + ([] : List Keyword).length + (if ([] : List Keyword).isEmpty then 0 else 1) < 30)) = true := by rfl)
    (hline : (apos.endLine == cpos.line) = true := by rfl) (hst : starEach [e] X.env = (false, eval e X.env) :: starEach [] X.env := by rfl) (hplain : (backTo cpos (starEach [] X.env)).any (·.1) = false := by rfl)
    (hs : swapsWith (.Call (.Attribute o "append" apos) [e] [] cpos) none pos.line X.env = pure false := by rfl) :
    PS X (.Expr (.Call (.Attribute o "append" apos) [e] [] cpos) pos) (Ts Z (sAppE wx w)) :=
  ⟨fun pins s σ H D I ⟨ρ, G, K, IR, hw, l⟩ => (ps_expr (pe_bm PySem.F.plainAttrs_list PySem.F.slot_list_append PySem.F.type_list_append mt_append ho (pa_cons he pa_nil hst) hbase hfew hline hst hplain) hs).run pins s σ H D I
    ⟨ρ, G, _, IR, hw, fun r ρ1 v H1 G1 le1 I1 q1 k1 => by
      cases r <;> try exact k1.elim
      rename_i j a
      obtain ⟨rfl, _⟩ := q1
      obtain ⟨⟨m, ds, hs0⟩, k1⟩ := k1
      obtain ⟨_, vs, ha, _⟩ := I1.ownL hs0
      refine ⟨.inl ⟨rfl, vs, SqL.of ha⟩, ρ1, G1, _, I1, k1, fun r2 ρ2 u H2 G2 le2 I2 q2 k2 => ?_⟩
      obtain ⟨d, ρ3, G3, le3, I3, rp, k3, _⟩ := I2.settle q2 k2
      split at k3
      · rename_i m2 b ds2 hs2
        obtain ⟨rfl, hl, k3⟩ := k3
        obtain ⟨_, vs2, ha2, rs2⟩ := I3.ownL hs2
        refine ⟨_, vs2, u, rfl, rfl, ha2, by rw [rs2.length]; exact hl, ?_⟩
        exact l.nx _ _ _ G3 ((le1.trans le2).trans le3) (I3.write hs2 (Root.lst upd_same (rs2.append (Reps.cons rp Reps.nil)))) k3
      · exact k3.elim⟩⟩
def sRevE (wx : EW) : SW := fun xk ρ K => wx xk ρ fun r ρ1 => match r with
  | .gh j a => match ρ1[j]? with
    | some (.own m b (.lst ds)) => b = a ∧ K.nx (ρ1.set j (.own m b (.lst ds.reverse)))
    | _ => False
  | _ => False
def sPopE (wx : EW) : SW := fun xk ρ K => wx xk ρ fun r ρ1 => match r with
  | .gh j a => match ρ1[j]? with
    | some (.own m b (.lst ds)) => b = a ∧ ds ≠ [] ∧ K.nx (ρ1.set j (.own m b (.lst ds.dropLast)))
    | _ => False
  | _ => False
end

/-! ### ghosts are given up to what is known -/
/-- the roots of one's own, with their trees -/
def gF : REnv → List (Addr × D)
  | [] => []
  | .own false a d :: ρ => (a, d) :: gF ρ
  | _ :: ρ => gF ρ
theorem gF_mem {a : Addr} {d : D} : ∀ {ρ : REnv}, (a, d) ∈ gF ρ → ∃ (i : Nat), ρ[i]? = some (Sl.own false a d)
  | s :: ρ, h => by
    have tl : (a, d) ∈ gF ρ → ∃ (i : Nat), (s :: ρ)[i]? = some (Sl.own false a d) := fun h => by
      obtain ⟨i, hi⟩ := gF_mem h
      exact ⟨i + 1, by simpa using hi⟩
    cases s with
    | no => exact tl h
    | sh d => exact tl h
    | own m b e =>
      cases m with
      | true => exact tl h
      | false =>
        rcases List.mem_cons.mp h with h | h
        · cases h; exact ⟨0, rfl⟩
        · exact tl h
theorem gF_nd : ∀ {ρ : REnv}, (∀ (i j : Nat) (a : Addr) (d : D) (b : Addr) (e : D), ρ[i]? = some (.own false a d) → ρ[j]? = some (.own false b e) → i ≠ j → a ≠ b) → ((gF ρ).map (·.1)).Nodup
  | [], _ => List.nodup_nil
  | s :: ρ, h => by
    have ih : ((gF ρ).map (·.1)).Nodup := gF_nd fun i j a d b e h1 h2 hn => h (i + 1) (j + 1) a d b e (by simpa using h1) (by simpa using h2) (by omega)
    cases s with
    | no => exact ih
    | sh d => exact ih
    | own m a d =>
      cases m with
      | true => exact ih
      | false =>
        refine List.nodup_cons.mpr ⟨fun hm => ?_, ih⟩
        obtain ⟨p, hp, e⟩ := List.mem_map.mp hm
        obtain ⟨i, hi⟩ := gF_mem (a := p.1) (d := p.2) hp
        exact h 0 (i + 1) a d p.1 p.2 rfl (by simpa using hi) (by omega) e.symm
theorem drop_get {ρ : REnv} {n i : Nat} {s : Sl} (h : (ρ.drop n)[i]? = some s) : ρ[n + i]? = some s := by rw [List.getElem?_drop] at h; exact h
section
variable {Z : Zone} {ρ : REnv} {G H : Hp} {σ : L2.St}
end
def fzK (n : Nat) (r : Rv) (ρ : REnv) (K : Rv → REnv → Prop) : Prop := match r with
  | .sh d => ∃ e, Vw (gF (ρ.drop n)) d e ∧ K (.sh e) (ρ.take n)
  | .fr a d => ∃ e, Vw (gF (ρ.drop n)) d e ∧ K (.fr a e) (ρ.take n)
  | .gh _ a => ∃ e, Vw (gF (ρ.drop n)) (.ptr a) e ∧ K (.sh e) (ρ.take n)
  | .loc i => match ρ[i]? with
    | some (.sh d) => ∃ e, Vw (gF (ρ.drop n)) d e ∧ K (.sh e) (ρ.take n)
    | some (.own false a d) => ∃ e, Vw (gF ((ρ.set i .no).drop n)) d e ∧ K (.fr a e) ((ρ.set i .no).take n)
    | _ => False
  | .gx _ _ _ => False
def eFz (n : Nat) (w : EW) : EW := fun xk ρ K => w xk ρ fun r ρ1 => fzK n r ρ1 K
section
variable {X : Cx} {Z : Zone} {e a b : Expr} {w wa wb wx : EW} {pos : Pos}
/-! ### ghosts are handed back with a result -/
def ePk (n : Nat) (w : EW) : EW := fun xk ρ K => w xk ρ fun r ρ1 => match r with
  | .sh t => ∃ as cs, as.length = cs.length ∧ List.Sublist (as.zip cs) (gF (ρ1.drop n)) ∧ K (.gx as cs t) (ρ1.take n)
  | _ => False
theorem zip_get {as : List Addr} {cs : List D} {i : Nat} {a : Addr} {d : D} (h1 : as[i]? = some a) (h2 : cs[i]? = some d) : (a, d) ∈ as.zip cs := by
  refine List.mem_of_getElem? (i := i) ?_
  rw [List.getElem?_zip_eq_some]
  exact ⟨h1, h2⟩
end
/-! ### a call that is handed ghosts -/
section
variable {X : Cx} {Z : Zone} {C : Ccs} {k : Nat} {f : Addr} {fd : FuncData} {ps : List Str} {sp : FSpec} {aw : AgW} {x : Str} {p pos : Pos} {e : Expr} {es : List Expr}
def eCallG (np : Nat) (sp : FSpec) (aw : AgW) : EW := fun xk ρ K => aw xk ρ fun gs ρ1 => gs.length = np ∧ ∃ js : List Nat, callK sp (gs ++ js.map .gg) ρ1 xk K
theorem via_callG {E : XK} {np : Nat} (hcc : Z.cc = C.cc) (hz : Z.xk = xk0) : Via Z (tCall (LSp0 C sp np) [] E (Tag Z aw)) (eCallG np sp aw) := fun σ H Q ⟨ρ, G, K, IR, hw, q⟩ =>
  ⟨ρ, G, _, IR, hw, fun gs ρ' vs H' G' le I' qs k => by
    show LSp0 C sp np (vs ++ []) H' Q E
    rw [List.append_nil]
    obtain ⟨hl, js, k⟩ := k
    exact call_lsp hcc hz (by rw [qs.len]; exact hl) I' (qs.x (js := js)) k fun r ρ2 v H2 G2 le2 I2 q2 k2 => q r ρ2 v H2 G2 (le.trans le2) I2 q2 k2⟩
theorem de_callG {np : Nat} (hcc : Z.cc = C.cc) (hz : Z.xk = xk0) (F : FnOk X.prog X.w X.K X.mg X.base CX0 k f fd ps (LSp0 C sp np)) (hr : Room k X.A) (hm : X.mg x = some (.ref f)) (hk : PySem.W.keepIn X.K (.ref f) = true) (hb : Binds X.K fd ps [])
    (ha : PA X (e :: es) (Tag Z aw)) (hg : Gl X x := by rfl) (hdb : (x == ("__debug__" : Str)) = false := by decide) (he : starEach (e :: es) X.env = (false, eval e X.env) :: starEach es X.env := by rfl) (hpl : (backTo pos (starEach es X.env)).any (·.1) = false := by rfl) :
    PE X (.Call (.Name x p) (e :: es) [] pos) (T Z (eCallG np sp aw)) := pvia (pe_call F hr hg hm hk hb .nil pass0 ha hdb he hpl) (via_callG hcc hz)
end
end TL

namespace TL
open PySem PySem.Spec L2
/-! ### len(set(xs)), xs integers -/
section
variable {cc : CC}
end
section
variable {X : Cx} {Z : Zone} {a : Expr} {w : EW} {p p2 q pos : Pos}
end
end TL

/-! Ghosts: what the walks over trees rewrite with. -/
namespace TL
open PySem PySem.Spec L2
section
variable {ρ : REnv} {j i n : Nat} {a : Addr} {d : D} {K : Rv → REnv → Prop} {K1 : D → REnv → Prop} {as : List Addr} {cs : List D}
theorem get_gh : (Rv.gh j a).get ρ = getL ρ j := rfl
theorem stl_gh : stl (.gh j a) ρ K1 = K1 (.ptr a) ρ := rfl
theorem pok_gh : pok (.gh j a) ρ = ∃ p d, ρ[j]? = some (.own p a d) := rfl
theorem keep_fr : keepK (.fr a d) ρ K = (a ∉ owns ρ → K (.sh (.ptr a)) (ρ ++ [.own false a d])) := rfl
theorem keep_sh : keepK (.sh d) ρ K = K (.sh d) ρ := rfl
theorem keep_gh : keepK (.gh j a) ρ K = K (.sh (.ptr a)) ρ := rfl
theorem keep_loc : keepK (.loc i) ρ K = match ρ[i]? with
    | some (.own false a d) => K (.sh (.ptr a)) (ρ.set i (.sh (.ptr a)) ++ [.own false a d])
    | some (.sh d) => K (.sh d) ρ
    | _ => False := rfl
theorem fz_sh : fzK n (.sh d) ρ K = ∃ e, Vw (gF (ρ.drop n)) d e ∧ K (.sh e) (ρ.take n) := rfl
theorem fz_fr : fzK n (.fr a d) ρ K = ∃ e, Vw (gF (ρ.drop n)) d e ∧ K (.fr a e) (ρ.take n) := rfl
theorem fz_gh : fzK n (.gh j a) ρ K = ∃ e, Vw (gF (ρ.drop n)) (.ptr a) e ∧ K (.sh e) (ρ.take n) := rfl
theorem fz_loc : fzK n (.loc i) ρ K = match ρ[i]? with
    | some (.sh d) => ∃ e, Vw (gF (ρ.drop n)) d e ∧ K (.sh e) (ρ.take n)
    | some (.own false a d) => ∃ e, Vw (gF ((ρ.set i .no).drop n)) d e ∧ K (.fr a e) ((ρ.set i .no).take n)
    | _ => False := rfl
theorem ghs_nil : ghs [] cs = [] := by unfold ghs; rfl
theorem ghs_cons {c : D} : ghs (a :: as) (c :: cs) = .own false a c :: ghs as cs := by unfold ghs; rfl
end
end TL

namespace TL
open PySem PySem.Spec L2
/-- behind a statement the ghosts are forgotten -/
def sCut (n : Nat) (s : SW) : SW := fun xk ρ K => s xk ρ { K with nx := fun ρ' => K.nx (ρ'.take n) }
end TL

namespace TL
open PySem PySem.Spec PySem.Calls PyProof.Rows L2
/-! ### xs[l::k], l and k constants -/
end TL

namespace TL
open PySem PySem.Spec L2
/-! ### a call that is lent an own list and gives back other lists, of other lengths -/
section
variable {Z : Zone} {ρ : REnv} {G H : Hp} {σ : L2.St}
end
section
variable {X : Cx} {Z : Zone} {C : Ccs} {k : Nat} {f : Addr} {fd : FuncData} {ps : List Str} {sp : FSpec} {aw : AgW} {x : Str} {p pos : Pos} {e : Expr} {es : List Expr}
end
end TL

namespace TL
open PySem PySem.Spec L2
/-! ### range(i, j, c) -/
section
variable {X : Cx} {Z : Zone}
end
end TL

namespace TL
open PySem PySem.Spec L2
/-! ### max(xs, default=d), xs integers -/
end TL

namespace TL
open PySem PySem.Spec L2
/-! ### xs.count(k), xs integers -/
section
variable {X : Cx} {Z : Zone} {a b : Expr} {wa wb : EW}
end
end TL

/-! a != b, where a's class has an == of its own and no !=. -/
namespace TL
open PySem PySem.Spec L2
open PySem.W (findIn isFn mroIn notFirst InstAt)
section
variable {prog : Program} {w : World} {A : Around} {E : Value → Shared → Prop} {s : Shared} {K : PySem.W.Frag} {x C L f : Addr} {h₀ : Heap} {m : Str → Option Value} {ox : Obj} {od : Option Obj} {b tb : Value}
end
section
variable {X : Cx} {Z : Zone} {C : Ccs} {c k np : Nat} {fa : Addr} {fd : FuncData} {ps ks : List Str} {sp : FSpec} {e a b : Expr} {w wa wb : EW} {pos : Pos}
def neK (K : Rv → REnv → Prop) : Rv → REnv → Prop := fun r ρ => ∃ c, r = .sh (.bl c) ∧ K (.sh (.bl (!c))) ρ
def eNe2 (c : Nat) (sp : FSpec) (wa wb : EW) : EW := eTwo wa wb fun d1 d2 xk ρ K => isObj c d1 ∧ isObj c d2 ∧ callK sp [.ro d1, .ro d2] ρ xk (neK K)
end
end TL

/-! xs * n, xs any list. -/
namespace TL
open PySem PySem.Spec L2
open MeetsSeq MeetsSeq2 MeetsSeq3 in
section
variable {X : Cx} {Z : Zone} {a b : Expr} {wa wb : EW} {pos : Pos}
/-- xs * n, a new list -/
def opRep : D → D → OW
  | .lst ds, .int k => fun K => (-(2 ^ 63) ≤ k ∧ k < 2 ^ 63 ∧ ds.length * k.toNat ≤ sizeLine) ∧ K (.fr (.lst (List.replicate k.toNat ds).flatten))
  | _, _ => fun _ => False
theorem rep_l {ds : List D} {k : Int} {K : Ro → Prop} : opRep (.lst ds) (.int k) K = ((-(2 ^ 63) ≤ k ∧ k < 2 ^ 63 ∧ ds.length * k.toNat ≤ sizeLine) ∧ K (.fr (.lst (List.replicate k.toNat ds).flatten))) := rfl
end
end TL

namespace TL
open PySem PySem.Spec L2
/-! ### min(t), t a tuple of integers -/
def opMinT : D → OW
  | .tup ds => fun k => ∃ ns : List Int, ds = ns.map D.int ∧ 0 < ns.length ∧ ∀ m, m ∈ ns → (∀ y, y ∈ ns → m ≤ y) → k (.sh (.int m))
  | _ => fun _ => False
theorem minT_t {ds : List D} {k : Ro → Prop} : opMinT (.tup ds) k = ∃ ns : List Int, ds = ns.map D.int ∧ 0 < ns.length ∧ ∀ m, m ∈ ns → (∀ y, y ∈ ns → m ≤ y) → k (.sh (.int m)) := rfl
end TL

namespace TL
open PySem PySem.Spec L2
/-! ### xs < ys, lists of ints -/
section
variable {cc : CC}
def opLtL : D → D → OW
  | .lst ds, .lst es => fun k => ∃ ns ms : List Int, ds = ns.map D.int ∧ es = ms.map D.int ∧ k (.sh (.bl (decide (ns < ms))))
  | _, _ => fun _ => False
end
theorem ltL_l {ds es : List D} {k : Ro → Prop} : opLtL (.lst ds) (.lst es) k = ∃ ns ms : List Int, ds = ns.map D.int ∧ es = ms.map D.int ∧ k (.sh (.bl (decide (ns < ms)))) := rfl
end TL

namespace TL
open PySem PySem.Spec L2
/-! ### len(d), d a dict whose keys are tuples -/
def opLenDT : D → OW
  | .dic (.bl true :: ks) ds => fun k => k (.sh (.int ds.length))
  | _ => fun _ => False
theorem lenDT_d {ks ds : List D} {k : Ro → Prop} : opLenDT (.dic (.bl true :: ks) ds) k = k (.sh (.int ds.length)) := rfl
end TL

/-! ### a def that is handed ghosts: its promise names their addresses -/
namespace TL
open PySem PySem.Spec L2
def ghEq : List Arg → List Addr → Prop
  | .ro _ :: r, mus => ghEq r mus
  | .mu _ :: r, _ :: mus => ghEq r mus
  | .gh b _ :: r, a :: mus => b = a ∧ ghEq r mus
  | _, _ => True
theorem ArgsOk.ghEq {cc : CC} {G0 H : Hp} : ∀ {vs : List V} {args : List Arg} {mus : List Addr}, ArgsOk cc G0 H vs args mus → TL.ghEq args mus
  | _, [], _, _ => trivial
  | v :: vs, .ro d :: r, mus, h => ArgsOk.ghEq (args := r) h.2
  | v :: vs, .mu d :: r, a :: mus, h => ArgsOk.ghEq (args := r) h.2.2.2.2
  | [], .gh b d :: r, a :: mus, h => ⟨h.1, ArgsOk.ghEq (args := r) h.2.2.2.2⟩
  | v :: vs, .gh b d :: r, a :: mus, h => ⟨h.1, ArgsOk.ghEq (args := r) h.2.2.2.2⟩
  | _, .mu _ :: _, [], _ => trivial
  | _, .gh _ _ :: _, [], _ => trivial
  | [], .ro _ :: _, _, h => by unfold ArgsOk at h; exact h.elim
  | [], .mu _ :: _, _ :: _, h => by unfold ArgsOk at h; exact h.elim
def SatG (n : Nat) (sp : FSpec) (b : SW) : Prop := ∀ (args : List Arg) (mus : List Addr) (kr : Ro → List D → Prop) (kx : Nat → D → Prop), mus.length = muN args → ghEq args mus → sp args kr kx →
  b (fun c d _ => kx c d) (envOf args mus n) { nx := endK args mus kr (.sh .non), rt := endK args mus kr }
section
variable {P : Program} {w : World} {K : PySem.W.Frag} {mg : Str → Option Value} {base : Heap}
theorem fn_okG {C : Ccs} {x qual : Str} {st : Stmt} {f : Addr} {fd : FuncData} {N ps : List Str} {k : Nat} {sp : FSpec} {b : SW} (F : Fun K x qual st f fd) (S : FnScope N ps (defScope st)) (hb : SatG N.length sp b) (hn : ps.length ≤ N.length)
    (hbody : ∀ (cdv : Value) (A : Around) (outer : List Env) (s : Shared) (H : Hp) (E : XK) (Z : Zone), Z.cc = C.cc → Z.xk = xk0 → Room k (A.deeper (PyProof.Rows.envOfC qual (defScope st) s.heap.objs.size f cdv)) →
      PSs (cxOf CX0 P w K mg base N qual (defScope st) f cdv A outer s H E).nox (defBody st) (Ts Z b)) : FnOk P w K mg base CX0 (k + 1) f fd ps (LSp0 C sp ps.length) := by
  refine F.ok S (fun vs H Q E h => h.1) fun cdv A outer s H vs Q E hr h => ?_
  obtain ⟨hl, args, G0, mus, kr, le, ao, hsp, ret⟩ := h
  refine ⟨_, hbody cdv A outer s H E ⟨C.cc, H, G0, mus, xk0, N.length⟩ rfl rfl hr, envOf args mus N.length, G0, _, sr_start ao le (by omega), hb args mus kr _ ao.muN ao.ghEq hsp, ?_⟩
  have fin : ∀ {r : Rv} {ρ' : REnv} {v : V} {σ' : L2.St} {H' G' : Hp}, LE G0 G' → SR ⟨C.cc, H, G0, mus, xk0, N.length⟩ ρ' G' σ' H' → RvOk ⟨C.cc, H, G0, mus, xk0, N.length⟩ r ρ' G' σ' H' v → endK args mus kr r ρ' → Q v H' := fun {r ρ' v σ' H' G'} le' I q e => by
    obtain ⟨o, hro, e⟩ := resK.done I q e
    obtain ⟨ds, hm, e⟩ := exMu.done (σ := σ') e fun i m a d hs => ⟨(I.slot i _ hs).2, I.out i m a d hs⟩
    exact ret o ds v H' G' le' I.sub I.ent I.gnew hm hro e
  exact ⟨fun ρ' σ' H' G' le' I e => fin le' I (rv_sh rep_non) e, fun r ρ' v σ' H' G' le' I q e => fin le' I q e, fun _ _ _ _ _ _ h => h.elim, fun _ _ _ _ _ _ h => h.elim⟩
end
end TL

/-! ### xs[lo:hi:st], any of the three an expression -/
namespace TL
open PySem PySem.Spec PySem.Calls PyProof.Rows L2
def stepQ {α : Type} (xs : List α) (lo hi : Option Int) (st : Int) : List α := (sliceRange (sliceBounds lo hi (some st) xs.length).1 (sliceBounds lo hi (some st) xs.length).2.1 (sliceBounds lo hi (some st) xs.length).2.2).filterMap (xs[·]?)
def opSl3 (lo hi st : Option Int) : D → OW
  | .lst ds => fun k => ∃ s, st = some s ∧ s ≠ 0 ∧ k (.fr (.lst (stepQ ds lo hi s)))
  | _ => fun _ => False
def eSl3 (wa : EW) (pl ph ps : PWt) : EW := fun xk ρ K => wa xk ρ fun r ρ1 => pl xk ρ1 fun l ρ2 => ph xk ρ2 fun h ρ3 => ps xk ρ3 fun s ρ4 => pok r ρ4 ∧ opSl3 l h s (r.get ρ4) fun o => out o ρ4 K
theorem sl3_l {lo hi : Option Int} {s : Int} {ds : List D} {k : Ro → Prop} : opSl3 lo hi (some s) (.lst ds) k = (s ≠ 0 ∧ k (.fr (.lst (stepQ ds lo hi s)))) :=
  propext ⟨fun ⟨_, e, h⟩ => by cases e; exact h, fun h => ⟨_, rfl, h⟩⟩
end TL

/-! Own objects that their methods change: receivers lent, changed, lent deep; methods by the class that stands there. -/
namespace TL
open PySem PySem.Spec L2

abbrev Kd := Rv → REnv → (Ag → Nat → Prop) → Prop
/-- the object is lent: its own fields are seen -/
def kLent : Kd := fun r ρ k => match r with
  | .loc i => match ρ[i]? with
    | some (.own _ _ (.obj c _)) => k (.bo i) c
    | some (.sh (.obj c ds)) => k (.ro (.obj c ds)) c
    | _ => False
  | .gh j a => match ρ[j]? with
    | some (.own _ _ (.obj c _)) => k (.bg j a) c
    | _ => False
  | .sh (.obj c ds) => k (.ro (.obj c ds)) c
  | _ => False
/-- the object is changed -/
def kMut : Kd := fun r ρ k => match r with
  | .loc i => match ρ[i]? with
    | some (.own _ _ (.obj c _)) => k (.mu i) c
    | _ => False
  | .gh j a => match ρ[j]? with
    | some (.own _ _ (.obj c _)) => k (.mg j a) c
    | _ => False
  | _ => False
/-- the object is lent with all roots at some places -/
def kDeep : Kd := fun r ρ k => match r with
  | .loc i => match ρ[i]? with
    | some (.own _ a (.obj c _)) => ∃ js, k (.bd js (.ptr a)) c
    | some (.sh (.obj c ds)) => k (.ro (.obj c ds)) c
    | _ => False
  | .gh j a => match ρ[j]? with
    | some (.own _ _ (.obj c _)) => ∃ js, k (.bd js (.ptr a)) c
    | _ => False
  | .sh (.obj c ds) => k (.ro (.obj c ds)) c
  | _ => False
structure RcOk (Z : Zone) (G : Hp) (σ : L2.St) (H : Hp) (v : V) (g : Ag) (c : Nat) : Prop where
  ag : ∀ ρ' G' H', LE G G' → AgOk Z ρ' G' σ H' v g
  at_ : ∃ a dx vs, v = .ref a ∧ H a = some (.ins (Z.cc.cl c).1 dx ((Z.cc.cl c).2.zip vs))
def KdOk (kd : Kd) : Prop := ∀ {Z : Zone} {ρ : REnv} {G H : Hp} {σ : L2.St} {r : Rv} {v : V} {k : Ag → Nat → Prop}, SR Z ρ G σ H → RvOk Z r ρ G σ H v → kd r ρ k → ∃ g c, RcOk Z G σ H v g c ∧ k g c
theorem rc_sh {Z : Zone} {G H : Hp} {σ : L2.St} {v : V} {c : Nat} {ds : List D} (le : LE G H) (rp : Rep Z.cc G v (.obj c ds)) : RcOk Z G σ H v (.ro (.obj c ds)) c := by
  obtain ⟨a, dx, vs, e, g⟩ := rep_obj rp
  exact ⟨fun ρ' G' H' l => (rp.mono l : Rep _ _ _ _), a, dx, vs, e, le _ _ g⟩
theorem kLent_ok : KdOk kLent := by
  intro Z ρ G H σ r v k I q h
  cases r with
  | fr a d => exact h.elim
  | gx as cs t => exact h.elim
  | sh d =>
    cases d <;> try exact h.elim
    exact ⟨_, _, rc_sh I.sub q, h⟩
  | gh j a =>
    obtain ⟨rfl, p, d, hs⟩ := q
    simp only [kLent, hs] at h
    cases d <;> try exact h.elim
    obtain ⟨dx, vs, ha, _⟩ := (I.slot j _ hs).2
    exact ⟨.bg j a, _, ⟨fun _ _ _ _ => rfl, a, dx, vs, rfl, ha⟩, h⟩
  | loc i =>
    obtain ⟨ev, _⟩ := q
    cases hs : ρ[i]? with
    | none => simp only [kLent, hs] at h
    | some s =>
      simp only [kLent, hs] at h
      have so := I.slot i s hs
      cases s with
      | no => exact h.elim
      | sh d =>
        cases d <;> try exact h.elim
        obtain ⟨u, eu, rp⟩ := so
        rw [ev] at eu; cases eu
        exact ⟨_, _, rc_sh I.sub rp, h⟩
      | own m a d =>
        cases d <;> try exact h.elim
        cases own_in ev so.1
        obtain ⟨dx, vs, ha, _⟩ := so.2
        exact ⟨.bo i, _, ⟨fun _ _ _ _ => ev, a, dx, vs, rfl, ha⟩, h⟩
theorem kMut_ok : KdOk kMut := by
  intro Z ρ G H σ r v k I q h
  cases r with
  | fr a d => exact h.elim
  | gx as cs t => exact h.elim
  | sh d => exact h.elim
  | gh j a =>
    obtain ⟨rfl, p, d, hs⟩ := q
    simp only [kMut, hs] at h
    cases d <;> try exact h.elim
    obtain ⟨dx, vs, ha, _⟩ := (I.slot j _ hs).2
    exact ⟨.mg j a, _, ⟨fun _ _ _ _ => rfl, a, dx, vs, rfl, ha⟩, h⟩
  | loc i =>
    obtain ⟨ev, _⟩ := q
    cases hs : ρ[i]? with
    | none => simp only [kMut, hs] at h
    | some s =>
      simp only [kMut, hs] at h
      have so := I.slot i s hs
      cases s with
      | no => exact h.elim
      | sh d => exact h.elim
      | own m a d =>
        cases d <;> try exact h.elim
        cases own_in ev so.1
        obtain ⟨dx, vs, ha, _⟩ := so.2
        exact ⟨.mu i, _, ⟨fun _ _ _ _ => ev, a, dx, vs, rfl, ha⟩, h⟩
theorem kDeep_ok : KdOk kDeep := by
  intro Z ρ G H σ r v k I q h
  have ptr : ∀ {G' : Hp} {a : Addr}, Rep Z.cc G' (.ref a) (.ptr a) := by intro G' a; unfold Rep; rfl
  cases r with
  | fr a d => exact h.elim
  | gx as cs t => exact h.elim
  | sh d =>
    cases d <;> try exact h.elim
    exact ⟨_, _, rc_sh I.sub q, h⟩
  | gh j a =>
    obtain ⟨rfl, p, d, hs⟩ := q
    simp only [kDeep, hs] at h
    cases d <;> try exact h.elim
    obtain ⟨js, h⟩ := h
    obtain ⟨dx, vs, ha, _⟩ := (I.slot j _ hs).2
    exact ⟨.bd js (.ptr a), _, ⟨fun _ G' _ _ => ptr (G' := G'), a, dx, vs, rfl, ha⟩, h⟩
  | loc i =>
    obtain ⟨ev, _⟩ := q
    cases hs : ρ[i]? with
    | none => simp only [kDeep, hs] at h
    | some s =>
      simp only [kDeep, hs] at h
      have so := I.slot i s hs
      cases s with
      | no => exact h.elim
      | sh d =>
        cases d <;> try exact h.elim
        obtain ⟨u, eu, rp⟩ := so
        rw [ev] at eu; cases eu
        exact ⟨_, _, rc_sh I.sub rp, h⟩
      | own m a d =>
        cases d <;> try exact h.elim
        obtain ⟨js, h⟩ := h
        cases own_in ev so.1
        obtain ⟨dx, vs, ha, _⟩ := so.2
        exact ⟨.bd js (.ptr _), _, ⟨fun _ G' _ _ => ptr (G' := G'), a, dx, vs, rfl, ha⟩, h⟩

/-! ### methods, by the class that stands there -/
structure MOk (X : Cx) (Z : Zone) (C : Ccs) (m : Str) (np c : Nat) (sp : FSpec) : Prop where
  ex : ∃ (k : Nat) (fa : Addr) (fd : FuncData) (ps : List Str), ps.length = np ∧ ClsOk X.K (Z.cc.cl c) ∧ Meth X.K (Z.cc.cl c).1 m fa ∧ m ∉ (Z.cc.cl c).2 ∧ FnOk X.prog X.w X.K X.mg X.base CX0 k fa fd ps (LSp0 C sp np) ∧ Room (k + 1) X.A ∧ Binds X.K fd ps []
def MsOk (X : Cx) (Z : Zone) (C : Ccs) (m : Str) (np : Nat) : List (Nat × FSpec) → Prop
  | [] => True
  | (c, sp) :: r => MOk X Z C m np c sp ∧ MsOk X Z C m np r
theorem MsOk.get {X : Cx} {Z : Zone} {C : Ccs} {m : Str} {np : Nat} : ∀ {ts : List (Nat × FSpec)} {c : Nat} {sp : FSpec}, MsOk X Z C m np ts → ts.lookup c = some sp → MOk X Z C m np c sp
  | (c', sp') :: r, c, sp, h, e => by
    rw [List.lookup_cons] at e
    split at e
    · rename_i hb
      cases e
      cases (beq_iff_eq.mp hb)
      exact h.1
    · exact MsOk.get h.2 e
/-- with ghosts, or without -/
def jx : Bool → (List Nat → Prop) → Prop
  | false, k => k []
  | true, k => ∃ js, k js
theorem jx_el {b : Bool} {k : List Nat → Prop} (h : jx b k) : ∃ js, k js := by
  cases b with
  | false => exact ⟨[], h⟩
  | true => exact h
def eMethW (b : Bool) (kd : Kd) (np : Nat) (ts : List (Nat × FSpec)) (w : EW) (aw : AgW) : EW := fun xk ρ K => w xk ρ fun r ρ1 => kd r ρ1 fun g c => ∃ sp, ts.lookup c = some sp ∧ aw xk ρ1 fun gs ρ2 => gs.length + 1 = np ∧ jx b fun js => callK sp (g :: (gs ++ js.map .gg)) ρ2 xk K
section
variable {bb : Bool} {X : Cx} {Z : Zone} {C : Ccs} {k np : Nat} {kd : Kd} {ts : List (Nat × FSpec)} {m f : Str} {e a : Expr} {es : List Expr} {w wa wb : EW} {aw : AgW} {apos pos : Pos} {pl : Sem Bool}
theorem de_methW (hcc : Z.cc = C.cc) (hz : Z.xk = xk0) (hk : KdOk kd) (ms : MsOk X Z C m np ts) (he : PE X e (T Z w)) (ha : PA X (a :: es) (Tag Z aw))
    (hst : starEach (a :: es) X.env = (false, eval a X.env) :: starEach es X.env := by rfl) (hpl : (backTo pos (starEach es X.env)).any (·.1) = false := by rfl)
    (ht : eval (.Call (.Attribute e m apos) (a :: es) [] pos) X.env = (do
      let ov ← eval e X.env
      standAt apos.atName
      let (f, first) ← holding [ov] (getMethod ov m pl)
      callWith pos f first (backTo pos (starEach (a :: es) X.env)) (backToKw pos (keywordEach [] X.env))) := by rfl) :
    PE X (.Call (.Attribute e m apos) (a :: es) [] pos) (T Z (eMethW bb kd np ts w aw)) := by
  refine ⟨fun pins s σ H Q I ⟨ρ, G, K, IR, hw, q⟩ => ?_⟩
  refine PySem.W.methodCall_KW (pl := pl) (thn (he.run pins s σ H (fun x H1 => ∃ b dx vs c sp, x = .ref b ∧ H1 b = some (.ins (Z.cc.cl c).1 dx ((Z.cc.cl c).2.zip vs)) ∧ MOk X Z C m np c sp ∧ Tag Z aw σ H1 fun us H2 => LSp0 C sp np (x :: us) H2 Q E0) I
    ⟨ρ, G, _, IR, hw, fun r ρ1 v H1 G1 le1 I1 q1 k1 => ?_⟩) fun u s1 ⟨x, H1, I1, rx, b, dx, vs, c, sp, ex, eb, mo, q1⟩ => ?_) ht
  · obtain ⟨g, c, rc, sp, hl, k2⟩ := hk I1 q1 k1
    obtain ⟨b, dx, vs, rfl, hb⟩ := rc.at_
    refine ⟨b, dx, vs, c, sp, rfl, hb, ms.get hl, ρ1, G1, _, I1, k2, fun gs ρ2 us H2 G2 le2 I2 qs ⟨hn, k3⟩ => ?_⟩
    obtain ⟨js, k3⟩ := jx_el k3
    exact call_lsp (gs := g :: (gs ++ js.map .gg)) hcc hz (by simp [qs.len, hn]) I2 ⟨rc.ag _ _ _ le2, qs.x⟩ k3 fun r ρ3 v H3 G3 le3 I3 q3 k4 => q r ρ3 v H3 G3 ((le1.trans le2).trans le3) I3 q3 k4
  · subst ex
    obtain rfl : u = Value.ref b := rx
    obtain ⟨k, fa, fd, ps, hnp, ck, hm, hn, F, hr, hb⟩ := mo.ex
    subst hnp
    refine getmeth_ok I1 eb ck.cl hm (zip_none hn) ?_
    refine PySem.W.callWith_K (first := [.ref b]) (h₀ := X.base) I.ok.mod.kin hm.kp (thn (ha.run pos pins s1 σ H1 _ I1 q1) fun us s2 ⟨vs, H2, I2, r, q2⟩ => ⟨I2.kIn, ?_⟩) hst hpl
    exact run_fn (us := .ref b :: us) (vs := .ref b :: vs) (dvs := []) F (hr.mono (by omega)) hb .nil pass0 I2 (.cons rfl r) (by rw [List.append_nil]; exact q2)
theorem de_methW0 (hcc : Z.cc = C.cc) (hz : Z.xk = xk0) (hk : KdOk kd) (ms : MsOk X Z C m 1 ts) (he : PE X e (T Z w))
    (ht : eval (.Call (.Attribute e m apos) [] [] pos) X.env = (do
      let ov ← eval e X.env
      standAt apos.atName
      let (f, first) ← holding [ov] (getMethod ov m pl)
      callWith pos f first (backTo pos (starEach [] X.env)) (backToKw pos (keywordEach [] X.env))) := by rfl) :
    PE X (.Call (.Attribute e m apos) [] [] pos) (T Z (eMethW bb kd 1 ts w agNil)) := by
  refine ⟨fun pins s σ H Q I ⟨ρ, G, K, IR, hw, q⟩ => ?_⟩
  refine PySem.W.methodCall_KW (pl := pl) (thn (he.run pins s σ H (fun x H1 => ∃ b dx vs c sp, x = .ref b ∧ H1 b = some (.ins (Z.cc.cl c).1 dx ((Z.cc.cl c).2.zip vs)) ∧ MOk X Z C m 1 c sp ∧ LSp0 C sp 1 [x] H1 Q E0) I
    ⟨ρ, G, _, IR, hw, fun r ρ1 v H1 G1 le1 I1 q1 k1 => ?_⟩) fun u s1 ⟨x, H1, I1, rx, b, dx, vs, c, sp, ex, eb, mo, q1⟩ => ?_) ht
  · obtain ⟨g, c, rc, sp, hl, _, k3⟩ := hk I1 q1 k1
    obtain ⟨js, k3⟩ := jx_el k3
    obtain ⟨b, dx, vs, rfl, hb⟩ := rc.at_
    refine ⟨b, dx, vs, c, sp, rfl, hb, ms.get hl, ?_⟩
    have x0 : AgsOk Z ρ1 G1 σ H1 [] [] := trivial
    exact call_lsp (gs := g :: ([] ++ js.map .gg)) hcc hz rfl I1 ⟨rc.ag _ _ _ (LE.refl _), x0.x⟩ k3 fun r ρ3 v H3 G3 le3 I3 q3 k4 => q r ρ3 v H3 G3 (le1.trans le3) I3 q3 k4
  · subst ex
    obtain rfl : u = Value.ref b := rx
    obtain ⟨k, fa, fd, ps, hnp, ck, hm, hn, F, hr, hb⟩ := mo.ex
    refine getmeth_ok I1 eb ck.cl hm (zip_none hn) ?_
    exact PySem.W.callWith_K0 (first := [.ref b]) I1.kIn hm.kp (run_fn (us := [.ref b]) (vs := [.ref b]) (dvs := []) F (hr.mono (by omega)) hb .nil pass0 I1 (.cons rfl .nil) q1)
/-! ### a property -/
structure POk (X : Cx) (Z : Zone) (C : Ccs) (f : Str) (c : Nat) (sp : FSpec) : Prop where
  ex : ∃ (k : Nat) (p fa : Addr) (fd : FuncData), ClsOk X.K (Z.cc.cl c) ∧ PropOf X.K (Z.cc.cl c).1 f p fa ∧ FnOk X.prog X.w X.K X.mg X.base CX0 k fa fd ["self"] (LSp0 C sp 1) ∧ Room (k + 1) X.A ∧ Binds X.K fd ["self"] []
def PsOk (X : Cx) (Z : Zone) (C : Ccs) (f : Str) : List (Nat × FSpec) → Prop
  | [] => True
  | (c, sp) :: r => POk X Z C f c sp ∧ PsOk X Z C f r
theorem PsOk.get {f : Str} : ∀ {ts : List (Nat × FSpec)} {c : Nat} {sp : FSpec}, PsOk X Z C f ts → ts.lookup c = some sp → POk X Z C f c sp
  | (c', sp') :: r, c, sp, h, e => by
    rw [List.lookup_cons] at e
    split at e
    · rename_i hb
      cases e
      cases (beq_iff_eq.mp hb)
      exact h.1
    · exact PsOk.get h.2 e
theorem de_propW (hcc : Z.cc = C.cc) (hz : Z.xk = xk0) (hk : KdOk kd) (ms : PsOk X Z C f ts) (he : PE X e (T Z w)) (hab : attributeBase e f X.env (eval e X.env) = eval e X.env := by rfl) :
    PE X (.Attribute e f pos) (T Z (eMethW bb kd 1 ts w agNil)) := by
  refine ⟨fun pins s σ H Q I ⟨ρ, G, K, IR, hw, q⟩ => ?_⟩
  refine attr_of hab (thn (he.run pins s σ H (fun x H1 => ∃ b dx vs c sp, x = .ref b ∧ H1 b = some (.ins (Z.cc.cl c).1 dx ((Z.cc.cl c).2.zip vs)) ∧ POk X Z C f c sp ∧ LSp0 C sp 1 [x] H1 Q E0) I
    ⟨ρ, G, _, IR, hw, fun r ρ1 v H1 G1 le1 I1 q1 k1 => ?_⟩) fun u s1 ⟨x, H1, I1, rx, b, dx, vs, c, sp, ex, eb, mo, q1⟩ => ?_)
  · obtain ⟨g, c, rc, sp, hl, _, k3⟩ := hk I1 q1 k1
    obtain ⟨js, k3⟩ := jx_el k3
    obtain ⟨b, dx, vs, rfl, hb⟩ := rc.at_
    refine ⟨b, dx, vs, c, sp, rfl, hb, ms.get hl, ?_⟩
    have x0 : AgsOk Z ρ1 G1 σ H1 [] [] := trivial
    exact call_lsp (gs := g :: ([] ++ js.map .gg)) hcc hz rfl I1 ⟨rc.ag _ _ _ (LE.refl _), x0.x⟩ k3 fun r ρ3 v H3 G3 le3 I3 q3 k4 => q r ρ3 v H3 G3 (le1.trans le3) I3 q3 k4
  · subst ex
    obtain rfl : u = Value.ref b := rx
    obtain ⟨k, p, fa, fd, ck, hp, F, hr, hb⟩ := mo.ex
    exact getprop_ok I1 eb ck.cl hp F hr hb .nil pass0 q1
/-! ### len(o) -/
def eLenW (kd : Kd) (ts : List (Nat × FSpec)) (w : EW) : EW := fun xk ρ K => eMethW false kd 1 ts w agNil xk ρ (okLen K)
def rLenW (X : Cx) (Z : Zone) (C : Ccs) : List V → Hp → VK → Prop := fun xs H Q => ∃ b dx vs c sp, xs = [V.ref b] ∧ H b = some (.ins (Z.cc.cl c).1 dx ((Z.cc.cl c).2.zip vs)) ∧ MOk X Z C "__len__" 1 c sp ∧ LSp0 C sp 1 [.ref b] H (fun v H' => ∃ n : Int, v = .int n ∧ 0 ≤ n ∧ n < 2 ^ 63 ∧ Q v H') E0
theorem call_lenW : CallR X (.builtin "len") (rLenW X Z C) := by
  intro pins s σ H xs us Q I r h
  obtain ⟨b, dx, vs, c, sp, rfl, ha, mo, q⟩ := h
  obtain ⟨u, rfl, ru⟩ := r.one
  cases (show u = Value.ref b from ru)
  obtain ⟨k, fa, fd, ps, hnp, ck, hm, hn, F, hr, hb⟩ := mo.ex
  obtain ⟨mA, J, _⟩ := ins_get I.hok ha
  obtain ⟨od, J, _⟩ := J.look
  obtain ⟨mm, hF⟩ := I.fr
  refine PySem.W.len_K hF I.ok.mod.kin J hm.at_ hm.fn (wpAny_mono (run_atA (us := [.ref b]) (vs := [.ref b]) F hr.in1 I.env0.in1 hb I (.cons rfl .nil) q) (fun w' s' z => ?_) fun _ _ x => x)
  obtain ⟨v, H', I', rv, n, rfl, h0, h1, qz⟩ := z
  obtain ⟨t, rfl⟩ := (show ∃ t, w' = Value.int n t from rv)
  exact ⟨⟨h0, h1⟩, .int n, H', I'.tok _, ⟨_, rfl⟩, qz⟩
theorem de_lenW {px : Pos} (hcc : Z.cc = C.cc) (hz : Z.xk = xk0) (hk : KdOk kd) (ms : MsOk X Z C "__len__" 1 ts) (hn : X.mg "len" = none)
    (he : PE X e (T Z w)) (hg : Gl X "len" := by rfl) (hst : starEach [e] X.env = (false, eval e X.env) :: starEach [] X.env := by rfl) (hpl : (backTo pos (starEach [] X.env)).any (·.1) = false := by rfl) :
    PE X (.Call (.Name "len" px) [e] [] pos) (T Z (eLenW kd ts w)) :=
  pvia (pe_callB (call_lenW (Z := Z) (C := C)) hg hn (by decide +kernel) (pa_cons he pa_nil hst) (by decide) (by decide) hst hpl) fun σ H Q ⟨ρ, G, K, IR, hw, q⟩ =>
  ⟨ρ, G, _, IR, hw, fun r ρ1 v H1 G1 le1 I1 q1 k1 => by
    obtain ⟨g, c, rc, sp, hl, _, k3⟩ := hk I1 q1 k1
    obtain ⟨js, k3⟩ := jx_el k3
    obtain ⟨b, dx, vs, rfl, hb⟩ := rc.at_
    refine ⟨b, dx, vs, c, sp, rfl, hb, ms.get hl, ?_⟩
    have x0 : AgsOk Z ρ1 G1 σ H1 [] [] := trivial
    refine call_lsp (gs := g :: ([] ++ js.map .gg)) hcc hz rfl I1 ⟨rc.ag _ _ _ (LE.refl _), x0.x⟩ k3 fun r ρ3 v H3 G3 le3 I3 q3 k4 => ?_
    obtain ⟨⟨n, rfl, h0, h1⟩, k4⟩ := k4
    have q3' : Rep Z.cc G3 v (.int n) := q3
    unfold Rep at q3'
    exact ⟨n, q3', h0, h1, q _ ρ3 v H3 G3 (le1.trans le3) I3 q3 k4⟩⟩
end
end TL

/-! Own objects: fields by the class, calls of objects, objects made with new roots within, an __init__ of the base. -/
namespace TL
open PySem PySem.Spec L2

section
variable {bb : Bool} {X : Cx} {Z : Zone} {C : Ccs} {i j k np : Nat} {kd : Kd} {ts : List (Nat × FSpec)} {cs : List Nat} {m f : Str} {e a : Expr} {es : List Expr} {w wa wb : EW} {aw : AgW} {apos pos : Pos} {pl : Sem Bool} {kws : List PySem.Keyword} {ks : List Str}
/-! ### fields -/
def eFldC (cs : List Nat) (j : Nat) (w : EW) : EW := fun xk ρ K => w xk ρ fun r ρ1 => match r.get ρ1 with
  | .obj c ds => c ∈ cs ∧ match ds[j]? with | some d => K (.sh d) ρ1 | none => False
  | _ => False
theorem de_fldC (ck : ∀ c ∈ cs, ClsOk X.K (Z.cc.cl c) ∧ (Z.cc.cl c).2[j]? = some f) (he : PE X e (T Z w)) (hb : attributeBase e f X.env (eval e X.env) = eval e X.env := by rfl) : PE X (.Attribute e f pos) (T Z (eFldC cs j w)) :=
  ⟨fun pins s σ H Q I ⟨ρ, G, K, IR, hw, q⟩ => (pe_fld he hb).run pins s σ H Q I ⟨ρ, G, _, IR, hw, fun r ρ1 v H1 G1 le1 I1 q1 k1 => by
    have vw := q1.view I1
    cases hd : r.get ρ1 <;> simp only [hd] at k1
    all_goals try exact k1.elim
    rename_i c ds
    obtain ⟨hc, k1⟩ := k1
    obtain ⟨ck, hf⟩ := ck c hc
    rw [hd] at vw
    obtain ⟨a, dx, vs, ea, ha, hl, rs⟩ := vw
    cases he : ds[j]? with
    | none => simp only [he] at k1
    | some d =>
      simp only [he] at k1
      obtain ⟨u, hu, ru⟩ := rs.get he
      exact ⟨a, _, dx, _, u, ea, ha, ck.cl, ck.na f (List.mem_of_getElem? hf), zip_lookup ck.nd hf hu, q (.sh d) ρ1 u H1 G1 le1 I1 ru k1⟩⟩⟩
/-- self.f = e -/
def sFldC (i : Nat) (cs : List Nat) (j : Nat) (w : EW) : SW := fun xk ρ K => w xk ρ fun r ρ1 => stl r ρ1 fun d ρ2 => match ρ2[i]? with
  | some (.own m a (.obj c ds)) => c ∈ cs ∧ j ≤ ds.length ∧ K.nx (ρ2.set i (.own m a (.obj c (setAt ds j d))))
  | _ => False
theorem ds_fldC {x : Str} {px pos' : Pos} (ck : ∀ c ∈ cs, ClsOk X.K (Z.cc.cl c) ∧ (Z.cc.cl c).2[j]? = some f) (he : PE X e (T Z w)) (hN : X.N[i]? = some x := by rfl) (hv : Vis X.env.scope x := by first | exact Or.inl rfl | exact Or.inr (Or.inl rfl) | exact Or.inr (Or.inr rfl)) (hd : (x == ("__debug__" : Str)) = false := by decide)
    (hcd : (x == ("__classdict__" : Str)) = false := by decide) (hs : swapsWith e (some (.Attribute (.Name x px) f pos')) pos.line X.env = pure false := by rfl) : PS X (.Assign [.Attribute (.Name x px) f pos'] e pos) (Ts Z (sFldC i cs j w)) :=
  ⟨fun pins s σ H D I ⟨ρ, G, K, IR, hw, l⟩ => (ps_fld (pv i hN hv hd hcd) he hs).run pins s σ H D I ⟨ρ, G, _, IR, hw, fun r ρ1 v H1 G1 le1 I1 q1 k1 => by
    obtain ⟨d, ρ2, G2, le2, I2, rp, k2, _⟩ := I1.settle q1 k1
    split at k2
    · rename_i m a c ds hs
      obtain ⟨hc, hj, k2⟩ := k2
      obtain ⟨ck, hf⟩ := ck c hc
      obtain ⟨es, dx, vs, ha, hl, rs⟩ := I2.slot i _ hs
      have hjv : j ≤ vs.length := by rw [rs.length]; exact hj
      refine ⟨.ref a, own_at (lt_len I hN) es, a, _, dx, _, rfl, ha, ck.cl, ck.na f (List.mem_of_getElem? hf), ?_, ?_⟩
      · have := ck.few
        rw [List.length_zip]; omega
      · rw [putF_zip ck.nd hf hjv]
        exact l.nx _ σ _ G2 (le1.trans le2) (I2.write hs (Root.obj upd_same (setAt_len hl hjv (List.getElem?_eq_some_iff.mp hf).1) (rs.setAt rp))) k2
    · exact k2.elim⟩⟩
/-! ### o(..) -/
structure COk (X : Cx) (Z : Zone) (C : Ccs) (np c : Nat) (sp : FSpec) : Prop where
  ex : ∃ (k : Nat) (fa : Addr) (fd : FuncData) (ps : List Str), ps.length = np ∧ StX.CallO X.K (Z.cc.cl c).1 fa ∧ FnOk X.prog X.w X.K X.mg X.base CX0 k fa fd ps (LSp0 C sp np) ∧ Room k X.A ∧ Binds X.K fd ps []
def CsOk (X : Cx) (Z : Zone) (C : Ccs) (np : Nat) : List (Nat × FSpec) → Prop
  | [] => True
  | (c, sp) :: r => COk X Z C np c sp ∧ CsOk X Z C np r
theorem CsOk.get : ∀ {ts : List (Nat × FSpec)} {c : Nat} {sp : FSpec}, CsOk X Z C np ts → ts.lookup c = some sp → COk X Z C np c sp
  | (c', sp') :: r, c, sp, h, e => by
    rw [List.lookup_cons] at e
    split at e
    · rename_i hb
      cases e
      cases (beq_iff_eq.mp hb)
      exact h.1
    · exact CsOk.get h.2 e
def eCallW (b : Bool) (kd : Kd) (np : Nat) (ts : List (Nat × FSpec)) (w : EW) (aw : AgW) : EW := fun xk ρ K => w xk ρ fun r ρ1 => kd r ρ1 (fun _ _ => True) ∧ aw xk ρ1 fun gs ρ2 => pok r ρ2 ∧ kd r.pend ρ2 fun g c => ∃ sp, ts.lookup c = some sp ∧ gs.length + 1 = np ∧ jx b fun js => callK sp (g :: (gs ++ js.map .gg)) ρ2 xk K
theorem de_callW (hcc : Z.cc = C.cc) (hz : Z.xk = xk0) (hk : KdOk kd) (ms : CsOk X Z C np ts) (he : PE X e (T Z w)) (ha : PA X (a :: es) (Tag Z aw))
    (ht : eval (.Call e (a :: es) [] pos) X.env = (do callWith pos (← eval e X.env) [] (backTo pos (starEach (a :: es) X.env)) (backToKw pos (keywordEach [] X.env))) := by rfl)
    (hst : starEach (a :: es) X.env = (false, eval a X.env) :: starEach es X.env := by rfl) (hpl : (backTo pos (starEach es X.env)).any (·.1) = false := by rfl) :
    PE X (.Call e (a :: es) [] pos) (T Z (eCallW bb kd np ts w aw)) := by
  refine ⟨fun pins s σ H Q I ⟨ρ, G, K, IR, hw, q⟩ => ?_⟩
  refine PyProof.Rows.Call_ (thn (he.run pins s σ H (fun x H1 => ∃ b, x = .ref b ∧ Tag Z aw σ H1 fun us H2 => ∃ dx vs c sp, H2 b = some (.ins (Z.cc.cl c).1 dx ((Z.cc.cl c).2.zip vs)) ∧ COk X Z C np c sp ∧ LSp0 C sp np (x :: us) H2 Q E0) I
    ⟨ρ, G, _, IR, hw, fun r ρ1 v H1 G1 le1 I1 q1 k1 => ?_⟩) fun u s1 ⟨x, H1, I1, rx, b, ex, q1⟩ => ?_) ht
  · obtain ⟨k0, k1⟩ := k1
    obtain ⟨g0, c0, rc0, _⟩ := hk I1 q1 k0
    obtain ⟨b, _, _, rfl, _⟩ := rc0.at_
    obtain ⟨G1', le, I1', q1'⟩ := I1.freeze q1
    refine ⟨b, rfl, ρ1, G1', _, I1', k1, fun gs ρ2 us H2 G2 le2 I2 qs ⟨hpok, k2⟩ => ?_⟩
    have hkp : RvOk Z r.pend ρ2 G2 σ H2 (.ref b) := pend_mono (H' := H2) le2 q1' hpok
    obtain ⟨g, c, rc, sp, hl, hn, k3⟩ := hk I2 hkp k2
    obtain ⟨js, k3⟩ := jx_el k3
    obtain ⟨b', dx, vs, eb, hb⟩ := rc.at_
    cases eb
    refine ⟨dx, vs, c, sp, hb, ms.get hl, ?_⟩
    exact call_lsp (gs := g :: (gs ++ js.map .gg)) hcc hz (by simp [qs.len, hn]) I2 ⟨rc.ag _ _ _ (LE.refl _), qs.x⟩ k3 fun r ρ3 v H3 G3 le3 I3 q3 k4 => q r ρ3 v H3 G3 (((le1.trans le).trans le2).trans le3) I3 q3 k4
  · subst ex
    obtain rfl : u = Value.ref b := rx
    refine StX.callO_with (thn (ha.run pos pins s1 σ H1 _ I1 q1) fun us s2 ⟨vs, H2, I2, r, dx, fs, c, sp, hb, mo, q2⟩ => ?_) hst hpl
    obtain ⟨k, fa, fd, ps, hnp, ck, F, hr, hbd⟩ := mo.ex
    subst hnp
    obtain ⟨ox, od, J, hd⟩ := StX.insC_at (C := (Z.cc.cl c).1) I2 (.inr ⟨dx, _, hb⟩)
    refine ⟨⟨_, ox, od, J, hd⟩, wpAny_call (PySem.W.kco_code I2.kIn J hd ck.at_ ck.fn ck.fi ?_)⟩
    have rv : Vals (V.ref b :: vs) (Value.ref b :: us) := .cons rfl r
    have hl : (Value.ref b :: us).length = ps.length := by rw [← rv.length]; exact F.len _ _ _ _ q2
    have hb' := hbd s2 (.ref b :: us) I2.kIn (by rw [List.append_nil]; exact hl)
    rw [List.append_nil] at hb'
    refine codeAny_mono (F.run X.A X.stack s2 H2 ⟨.ref b :: us, []⟩ (.ref b :: us) (.ref b :: vs) Q E0 hr I2.env0 hb' rv q2) fun r s' hq => ?_
    cases r with
    | error e => exact hq.elim
    | ok fl =>
      cases fl with
      | ret u => exact I2.after hq
      | next => exact False.elim hq
      | brk => exact False.elim hq
      | cont => exact False.elim hq
end
end TL

/-! Own objects: keywords; made with new roots within; an __init__ of the base; the same class compared. -/
namespace TL
open PySem PySem.Spec L2

section
variable {bb : Bool} {X : Cx} {Z : Zone} {C : Ccs} {i j k np : Nat} {kd : Kd} {ts : List (Nat × FSpec)} {cs : List Nat} {m f : Str} {e a b : Expr} {es : List Expr} {w wa wb : EW} {aw : AgW} {apos pos : Pos} {pl : Sem Bool} {kws : List PySem.Keyword} {ks : List Str} {pr : List Nat}
/-! ### keywords -/
structure CKOk (X : Cx) (Z : Zone) (C : Ccs) (ks : List Str) (pr : List Nat) (np c : Nat) (sp : FSpec) : Prop where
  ex : ∃ (k : Nat) (fa : Addr) (fd : FuncData) (ps : List Str), ps.length = np ∧ StX.CallO X.K (Z.cc.cl c).1 fa ∧ FnOk X.prog X.w X.K X.mg X.base CX0 k fa fd ps (LSp0 C sp np) ∧ Room k X.A ∧ KBm X.K fd ps ks pr
def CKsOk (X : Cx) (Z : Zone) (C : Ccs) (ks : List Str) (pr : List Nat) (np : Nat) : List (Nat × FSpec) → Prop
  | [] => True
  | (c, sp) :: r => CKOk X Z C ks pr np c sp ∧ CKsOk X Z C ks pr np r
theorem CKsOk.get : ∀ {ts : List (Nat × FSpec)} {c : Nat} {sp : FSpec}, CKsOk X Z C ks pr np ts → ts.lookup c = some sp → CKOk X Z C ks pr np c sp
  | (c', sp') :: r, c, sp, h, e => by
    rw [List.lookup_cons] at e
    split at e
    · rename_i hb
      cases e
      cases (beq_iff_eq.mp hb)
      exact h.1
    · exact CKsOk.get h.2 e
def eCallWP (b : Bool) (kd : Kd) (np : Nat) (pr : List Nat) (ts : List (Nat × FSpec)) (w : EW) (aw : AgW) : EW := fun xk ρ K => w xk ρ fun r ρ1 => kd r ρ1 (fun _ _ => True) ∧ aw xk ρ1 fun gs ρ2 => pok r ρ2 ∧ kd r.pend ρ2 fun g c => ∃ sp, ts.lookup c = some sp ∧ (gs.length + 1 = np ∧ (pm pr gs).length + 1 = np) ∧ jx b fun js => callK sp (g :: (pm pr gs ++ js.map .gg)) ρ2 xk K
structure MKOk (X : Cx) (Z : Zone) (C : Ccs) (m : Str) (ks : List Str) (pr : List Nat) (np c : Nat) (sp : FSpec) : Prop where
  ex : ∃ (k : Nat) (fa : Addr) (fd : FuncData) (ps : List Str), ps.length = np ∧ ClsOk X.K (Z.cc.cl c) ∧ Meth X.K (Z.cc.cl c).1 m fa ∧ m ∉ (Z.cc.cl c).2 ∧ FnOk X.prog X.w X.K X.mg X.base CX0 k fa fd ps (LSp0 C sp np) ∧ Room (k + 1) X.A ∧ KBm X.K fd ps ks pr
def MKsOk (X : Cx) (Z : Zone) (C : Ccs) (m : Str) (ks : List Str) (pr : List Nat) (np : Nat) : List (Nat × FSpec) → Prop
  | [] => True
  | (c, sp) :: r => MKOk X Z C m ks pr np c sp ∧ MKsOk X Z C m ks pr np r
theorem MKsOk.get : ∀ {ts : List (Nat × FSpec)} {c : Nat} {sp : FSpec}, MKsOk X Z C m ks pr np ts → ts.lookup c = some sp → MKOk X Z C m ks pr np c sp
  | (c', sp') :: r, c, sp, h, e => by
    rw [List.lookup_cons] at e
    split at e
    · rename_i hb
      cases e
      cases (beq_iff_eq.mp hb)
      exact h.1
    · exact MKsOk.get h.2 e
def eMethWP (b : Bool) (kd : Kd) (np : Nat) (pr : List Nat) (ts : List (Nat × FSpec)) (w : EW) (aw : AgW) : EW := fun xk ρ K => w xk ρ fun r ρ1 => kd r ρ1 fun g c => ∃ sp, ts.lookup c = some sp ∧ aw xk ρ1 fun gs ρ2 => (gs.length + 1 = np ∧ (pm pr gs).length + 1 = np) ∧ jx b fun js => callK sp (g :: (pm pr gs ++ js.map .gg)) ρ2 xk K
end
/-! ### made with new roots within -/
theorem make_lspW {Z : Zone} {C : Ccs} {c np : Nat} {sp : FSpec} {σ : L2.St} {H1 : Hp} {Q : VK} {E : XK} {ρ1 : REnv} {G1 : Hp} {K : Rv → REnv → Prop} {gs : List Ag} {vs : List V} {x0 dx : Addr} (hcc : Z.cc = C.cc) (hz : Z.xk = xk0) (I1 : SR Z ρ1 G1 σ H1) (qs : AgsOk Z ρ1 G1 σ H1 vs gs)
    (hl : gs.length + 1 = np) (nd : (boIx gs ++ muIx gs).Nodup) (t0 : tms gs = 0) (b0 : hasBo gs = false) (k1 : argsK gs ρ1 fun args => sp (.mu (.obj c []) :: args) (fun o ds => match o, ds with
    | .gx as cs .non, d0 :: rest => ∀ a, a ∉ as → as.Nodup → (∀ b ∈ a :: as, b ∉ owns (upE gs rest ρ1)) → K (.fr a d0) (upE gs rest ρ1 ++ ghs as cs)
    | _, _ => False) (fun c d => Z.xk c d ρ1)) (hx : H1 x0 = none) (hdx : H1 dx = none) (hne : dx ≠ x0)
    (q : ∀ r ρ' v H' G', LE G1 G' → SR Z ρ' G' σ H' → RvOk Z r ρ' G' σ H' v → K r ρ' → Q v H') :
    LSp0 C sp np (.ref x0 :: vs) (upd (upd H1 dx (.own x0)) x0 (.ins (Z.cc.cl c).1 dx [])) (fun v H2 => v = .non ∧ Q (.ref x0) H2) E := by
  have nd' : (boIx (.tm x0 (.obj c []) :: gs) ++ muIx (.tm x0 (.obj c []) :: gs)).Nodup := nd
  have I2 : SR Z ρ1 G1 σ (upd (upd H1 dx (.own x0)) x0 (.ins (Z.cc.cl c).1 dx [])) := (I1.newH hdx).newH (by rw [upd_ne hne.symm]; exact hx)
  rw [hz] at k1
  have gx := I1.g hx
  obtain ⟨z0, zm⟩ := I1.h0 hx
  have own := argsK_own k1
  have qs2 : AgsOk Z ρ1 G1 σ (upd (upd H1 dx (.own x0)) x0 (.ins (Z.cc.cl c).1 dx [])) vs gs := by
    have : ∀ {vs : List V} {gs : List Ag}, tms gs = 0 → AgsOk Z ρ1 G1 σ H1 vs gs → AgsOk Z ρ1 G1 σ (upd (upd H1 dx (.own x0)) x0 (.ins (Z.cc.cl c).1 dx [])) vs gs := by
      intro vs gs
      induction gs generalizing vs with
      | nil => intro _ h; cases vs with
        | nil => trivial
        | cons _ _ => exact h.elim
      | cons g gs ih =>
        intro t h
        cases vs with
        | nil => exact h.elim
        | cons v vs =>
          cases g with
          | ro d => exact ⟨h.1, ih t h.2⟩
          | bo i => exact ⟨h.1, ih t h.2⟩
          | mu i => exact ⟨h.1, ih t h.2⟩
          | bg i a => exact ⟨h.1, ih t h.2⟩
          | mg i a => exact ⟨h.1, ih t h.2⟩
          | gg i => exact h.1.elim
          | bd js d => exact ⟨h.1, ih t h.2⟩
          | tm a d => simp [tms] at t
    exact this t0 qs
  have q0 : AgsOk Z ρ1 G1 σ (upd (upd H1 dx (.own x0)) x0 (.ins (Z.cc.cl c).1 dx [])) (.ref x0 :: vs) (.tm x0 (.obj c []) :: gs) :=
    ⟨⟨rfl, Root.obj (dx := dx) (vs := []) (by rw [upd_same, List.zip_nil_right]) (Nat.zero_le _) Reps.nil, gx, fun i m b e h => I1.own_ne h hx, z0, zm⟩, qs2⟩
  have hB : ∀ a ∈ boA (.tm x0 (.obj c []) :: gs) ρ1, G1 a = none := fun a ha => by
    obtain ⟨i, m, d, _, hs⟩ := boA_own (gs := .tm x0 (.obj c []) :: gs) ha
    exact I2.out i m a d hs
  have k2 : argsK (.tm x0 (.obj c []) :: gs) ρ1 (fun as => sp as _ _) := k1
  obtain ⟨args, ao, hs⟩ := args_ok (gs := .tm x0 (.obj c []) :: gs) I2 hB q0.x0 (fun _ h => h) (fun a h => boA_apart I2 q0.x0 nd' h) (muA_nd I2 q0.x0 (List.nodup_append.mp nd').2.1 (by simp [tms, t0])) k2
  refine ⟨by simp [qs.len, hl], _, cutG (boA (.tm x0 (.obj c []) :: gs) ρ1) G1 _, muA (.tm x0 (.obj c []) :: gs) ρ1, _, fun a u e => ?_, by rw [← hcc]; exact ao, hs, fun o ds v H' G' le sub fr gn mo ro hk => ?_⟩
  · unfold cutG at e
    split at e
    · exact e
    · exact I2.sub a u e
  · rw [← hcc] at mo ro
    split at hk
    · rename_i as cs d0 rest
      have ev : v = .non := by have : Rep Z.cc G' v .non := ro.2.2.1; unfold Rep at this; exact this
      obtain ⟨G2, le2, J, hr, st, gn2⟩ := sr_after I2 q0.x0 nd' own le sub fr gn mo ro fun hb => by
        have hb : hasBo gs = true := hb
        rw [b0] at hb; cases hb
      obtain ⟨h1, h2, h3, h4⟩ := hr
      have root := mo.1
      have x0as : x0 ∉ as := fun hm => by
        obtain ⟨i, hi⟩ := List.getElem?_of_mem hm
        have hlen : i < cs.length := by rw [← ro.2.1]; exact (List.getElem?_eq_some_iff.mp hi).1
        have := (ro.2.2.2 i x0 _ hi (List.getElem?_eq_getElem hlen)).2.2
        rw [upd_same] at this
        cases this
      have x0own : ∀ (i : Nat) (m : Bool) (b : Addr) (e : D), (upE gs rest ρ1)[i]? = some (.own m b e) → b ≠ x0 := fun i m b e h => by
        rcases upE_get qs2.x0 own mo.2.2 h with ⟨h, _⟩ | ⟨m', a', d', d2, h1, h2, _⟩
        · exact I1.own_ne h hx
        · cases h2; exact I1.own_ne h1 hx
      refine ⟨ev, q (.fr x0 d0) (upE gs rest ρ1 ++ ghs as cs) _ H' G2 le2 h3 ⟨rfl, st x0 d0 root (.inr b0), gn2 x0 gx (by rw [upd_same]; simp), fun i m b e h => ?_, z0, zm⟩ (hk x0 x0as h1 fun b hb => ?_)⟩
      · rcases app_get h with ⟨_, h⟩ | ⟨k, _, h⟩
        · exact x0own i m b e h
        · obtain ⟨a, d, ha, hd, ee⟩ := ghs_get h
          cases ee
          rintro rfl
          exact x0as (List.mem_of_getElem? ha)
      · rcases List.mem_cons.mp hb with rfl | hb
        · intro hm
          obtain ⟨i, p, d, hs⟩ := owns_mem.mp hm
          exact x0own i p b d hs rfl
        · exact h2 b hb
    · exact hk.elim
section
variable {X : Cx} {Z : Zone} {C : Ccs} {c k np : Nat} {fa B : Addr} {fd : FuncData} {ps ks : List Str} {sp : FSpec} {aw : AgW} {x m : Str} {apos pos px : Pos} {pr : List Nat} {kws : List PySem.Keyword} {a : Expr} {es : List Expr} {pl : Sem Bool}
def eMakeW (c np : Nat) (p : Option (List Nat)) (sp : FSpec) (aw : AgW) : EW := fun xk ρ K => aw xk ρ fun gs0 ρ1 => match (match p with | some p => pm p gs0 | none => gs0) with
  | gs => (gs0.length + 1 = np ∧ gs.length + 1 = np) ∧ (boIx gs ++ muIx gs).Nodup ∧ tms gs = 0 ∧ hasBo gs = false ∧
  argsK gs ρ1 fun args => sp (.mu (.obj c []) :: args) (fun o ds => match o, ds with
    | .gx as cs .non, d0 :: rest => ∀ a, a ∉ as → as.Nodup → (∀ b ∈ a :: as, b ∉ owns (upE gs rest ρ1)) → K (.fr a d0) (upE gs rest ρ1 ++ ghs as cs)
    | _, _ => False) (fun c d => xk c d ρ1)
theorem de_makeW (hcc : Z.cc = C.cc) (hz : Z.xk = xk0) (M : Mk X.K (Z.cc.cl c).1 fa) (F : FnOk X.prog X.w X.K X.mg X.base CX0 k fa fd ps (LSp0 C sp np)) (hr : Room (k + 1) X.A) (hm : X.mg x = some (.ref (Z.cc.cl c).1)) (hb : Binds X.K fd ps [])
    (ha : PA X (a :: es) (Tag Z aw)) (hg : Gl X x := by rfl) (hdb : (x == ("__debug__" : Str)) = false := by decide) (hst : starEach (a :: es) X.env = (false, eval a X.env) :: starEach es X.env := by rfl) (hpl : (backTo pos (starEach es X.env)).any (·.1) = false := by rfl) :
    PE X (.Call (.Name x px) (a :: es) [] pos) (T Z (eMakeW c np none sp aw)) :=
  ⟨fun pins s σ H Q I ⟨ρ, G, K, IR, hw, q⟩ => (pe_make M F hr hg hm hb .nil pass0 ha hdb hst hpl).run pins s σ H Q I ⟨ρ, G, _, IR, hw, fun gs ρ1 vs H1 G1 le1 I1 qs ⟨⟨_, hl⟩, nd, t0, b0, k1⟩ => fun x0 dx hx hdx hne => by
    rw [List.append_nil]
    exact make_lspW hcc hz I1 qs hl nd t0 b0 k1 hx hdx hne fun r ρ' v H' G' le I' q' k' => q r ρ' v H' G' (le1.trans le) I' q' k'⟩⟩
/-! ### B.m(o, ..), B a class -/
theorem pe_base {sp : Sp} {dvs : List V} {ds : List Value} {E : XK} {t : TA} (rd : ClX.CRead X.K B (.type "type")) (at_ : PySem.W.findCls X.K (.ref B) (.type "type") m = some (.val (.ref fa))) (kp : PySem.W.keepIn X.K (.ref fa) = true)
    (F : FnOk X.prog X.w X.K X.mg X.base CX0 k fa fd ps sp) (hr : Room k X.A) (hg : Gl X x) (hm : X.mg x = some (.ref B)) (hb : Binds X.K fd ps ds) (hd : Vals dvs ds) (hx : Passes CX0 X E) (ha : PA X (a :: es) t) (hdb : (x == ("__debug__" : Str)) = false)
    (hst : starEach (a :: es) X.env = (false, eval a X.env) :: starEach es X.env) (hpl : (backTo pos (starEach es X.env)).any (·.1) = false)
    (ht : eval (.Call (.Attribute (.Name x px) m apos) (a :: es) [] pos) X.env = (do
      let ov ← eval (.Name x px) X.env
      standAt apos.atName
      let (f, first) ← holding [ov] (getMethod ov m pl)
      callWith pos f first (backTo pos (starEach (a :: es) X.env)) (backToKw pos (keywordEach [] X.env)))) :
    PE X (.Call (.Attribute (.Name x px) m apos) (a :: es) [] pos) (tCall sp dvs E t) := by
  refine ⟨fun pins s σ H Q I h => ?_⟩
  refine PySem.W.methodCall_KW (pl := pl) (ld_glob I hg hm ?_ hdb) ht
  refine PySem.W.method_cls I.kIn rd.ga (PySem.W.cls_value I.kIn rd.rd at_ (handed_of (v := .ref fa) rfl) ?_)
  have I' := I.tok (s.toks + 1)
  refine PySem.W.callWith_K (first := []) (h₀ := X.base) I.ok.mod.kin kp (thn (ha.run pos pins _ σ H _ I' h) fun us s1 ⟨vs, H1, I1, r, q⟩ => ⟨I1.kIn, ?_⟩) hst hpl
  exact run_fn F hr hb hd hx I1 r q
theorem de_baseG (hcc : Z.cc = C.cc) (hz : Z.xk = xk0) (rd : ClX.CRead X.K B (.type "type")) (at_ : PySem.W.findCls X.K (.ref B) (.type "type") m = some (.val (.ref fa))) (kp : PySem.W.keepIn X.K (.ref fa) = true)
    (F : FnOk X.prog X.w X.K X.mg X.base CX0 k fa fd ps (LSp0 C sp np)) (hr : Room k X.A) (hm : X.mg x = some (.ref B)) (hb : Binds X.K fd ps []) (ha : PA X (a :: es) (Tag Z aw)) (hg : Gl X x := by rfl) (hdb : (x == ("__debug__" : Str)) = false := by decide)
    (hst : starEach (a :: es) X.env = (false, eval a X.env) :: starEach es X.env := by rfl) (hpl : (backTo pos (starEach es X.env)).any (·.1) = false := by rfl)
    (ht : eval (.Call (.Attribute (.Name x px) m apos) (a :: es) [] pos) X.env = (do
      let ov ← eval (.Name x px) X.env
      standAt apos.atName
      let (f, first) ← holding [ov] (getMethod ov m pl)
      callWith pos f first (backTo pos (starEach (a :: es) X.env)) (backToKw pos (keywordEach [] X.env))) := by rfl) :
    PE X (.Call (.Attribute (.Name x px) m apos) (a :: es) [] pos) (T Z (eCallG np sp aw)) := pvia (pe_base rd at_ kp F hr hg hm hb .nil pass0 ha hdb hst hpl ht) (via_callG hcc hz)
end
/-! ### an __init__ that keeps new roots within the object -/
def endI (n : Nat) (args : List Arg) (mus : List Addr) (kr : Ro → List D → Prop) : REnv → Prop := fun ρ => ∃ as cs, as.length = cs.length ∧ List.Sublist (as.zip cs) (gF (ρ.drop n)) ∧ endK args mus kr (.gx as cs .non) (ρ.take n)
def SatI (n : Nat) (sp : FSpec) (b : SW) : Prop := ∀ (args : List Arg) (mus : List Addr) (kr : Ro → List D → Prop) (kx : Nat → D → Prop), mus.length = muN args → sp args kr kx →
  b (fun c d _ => kx c d) (envOf args mus n) { nx := endI n args mus kr, rt := fun _ _ => False }
section
variable {P : Program} {w : World} {K : PySem.W.Frag} {mg : Str → Option Value} {base : Heap}
theorem fn_okI {C : Ccs} {x qual : Str} {st : Stmt} {f : Addr} {fd : FuncData} {N ps : List Str} {k : Nat} {sp : FSpec} {b : SW} (F : Fun K x qual st f fd) (S : FnScope N ps (defScope st)) (hb : SatI N.length sp b) (hn : ps.length ≤ N.length)
    (hbody : ∀ (cdv : Value) (A : Around) (outer : List Env) (s : Shared) (H : Hp) (E : XK) (Z : Zone), Z.cc = C.cc → Z.xk = xk0 → Room k (A.deeper (PyProof.Rows.envOfC qual (defScope st) s.heap.objs.size f cdv)) →
      PSs (cxOf CX0 P w K mg base N qual (defScope st) f cdv A outer s H E).nox (defBody st) (Ts Z b)) : FnOk P w K mg base CX0 (k + 1) f fd ps (LSp0 C sp ps.length) := by
  refine F.ok S (fun vs H Q E h => h.1) fun cdv A outer s H vs Q E hr h => ?_
  obtain ⟨hl, args, G0, mus, kr, le, ao, hsp, ret⟩ := h
  refine ⟨_, hbody cdv A outer s H E ⟨C.cc, H, G0, mus, xk0, N.length⟩ rfl rfl hr, envOf args mus N.length, G0, _, sr_start ao le (by omega), hb args mus kr _ ao.muN hsp, ?_⟩
  refine ⟨fun ρ' σ' H' G' le' I e => ?_, fun _ _ _ _ _ _ _ _ _ h => h.elim, fun _ _ _ _ _ _ h => h.elim, fun _ _ _ _ _ _ h => h.elim⟩
  obtain ⟨as, cs, hlen, sub, e⟩ := e
  have nd : as.Nodup := by
    have h1 := gF_nd (ρ := ρ'.drop N.length) fun i j a d b e h1 h2 hn => I.inj (N.length + i) (N.length + j) _ _ a d b e (drop_get h1) (drop_get h2) (by omega)
    have h2 := (sub.map (·.1)).nodup h1
    rw [List.map_fst_zip (by omega)] at h2
    exact h2
  have Ic := I.cut (n := N.length) (Nat.le_refl _)
  have q : RvOk ⟨C.cc, H, G0, mus, xk0, N.length⟩ (.gx as cs .non) (ρ'.take N.length) G' σ' H' .non := by
    refine ⟨nd, hlen, rep_non, fun i a d h1 h2 => ?_⟩
    obtain ⟨j, hj⟩ := gF_mem (sub.mem (zip_get h1 h2))
    have hj := drop_get hj
    have f := own_fr I hj
    refine ⟨f.1, f.2.1, fun l p b x q => ?_, f.2.2.2⟩
    rw [List.getElem?_take] at q
    split at q
    · exact I.inj l (N.length + j) p false b x a d q hj (by omega)
    · cases q
  obtain ⟨o, hro, e⟩ := resK.done Ic q e
  obtain ⟨ds, hm, e⟩ := exMu.done (σ := σ') e fun i m a d hs => ⟨(Ic.slot i _ hs).2, Ic.out i m a d hs⟩
  exact ret o ds .non H' G' le' I.sub I.ent I.gnew hm hro e
end
end TL

/-! Own objects: what the printed walks give; pop through a pointer, as a value. -/
namespace TL
open PySem PySem.Spec L2
section
variable {X : Cx} {Z : Zone} {C : Ccs} {i j k np c c1 c2 : Nat} {fa p : Addr} {fd : FuncData} {ps ks : List Str} {sp : FSpec} {m f : Str} {pr : List Nat} {w wx : EW}
theorem mokW (hcc : Z.cc = C.cc) (ck : ClsOk X.K (C.cc.cl c)) (me : Meth X.K (C.cc.cl c).1 m fa) (hn : m ∉ (C.cc.cl c).2) (F : FnOk X.prog X.w X.K X.mg X.base CX0 k fa fd ps (LSp0 C sp np)) (hr : Room (k + 1) X.A) (hb : Binds X.K fd ps []) (hp : ps.length = np := by rfl) : MOk X Z C m np c sp :=
  ⟨⟨k, fa, fd, ps, hp, by rw [hcc]; exact ck, by rw [hcc]; exact me, by rw [hcc]; exact hn, F, hr, hb⟩⟩
theorem pokW (hcc : Z.cc = C.cc) (ck : ClsOk X.K (C.cc.cl c)) (pr : PropOf X.K (C.cc.cl c).1 f p fa) (F : FnOk X.prog X.w X.K X.mg X.base CX0 k fa fd ["self"] (LSp0 C sp 1)) (hr : Room (k + 1) X.A) (hb : Binds X.K fd ["self"] []) : POk X Z C f c sp :=
  ⟨⟨k, p, fa, fd, by rw [hcc]; exact ck, by rw [hcc]; exact pr, F, hr, hb⟩⟩
theorem cokW (hcc : Z.cc = C.cc) (ca : StX.CallO X.K (C.cc.cl c).1 fa) (F : FnOk X.prog X.w X.K X.mg X.base CX0 k fa fd ps (LSp0 C sp np)) (hr : Room k X.A) (hb : Binds X.K fd ps []) (hp : ps.length = np := by rfl) : COk X Z C np c sp :=
  ⟨⟨k, fa, fd, ps, hp, by rw [hcc]; exact ca, F, hr, hb⟩⟩
theorem fldc {K : PySem.W.Frag} (hcc : Z.cc = C.cc) (k1 : ClsOk K (C.cc.cl c1)) (h1 : (C.cc.cl c1).2[j]? = some f) (k2 : ClsOk K (C.cc.cl c2)) (h2 : (C.cc.cl c2).2[j]? = some f) : ∀ c ∈ [c1, c2], ClsOk K (Z.cc.cl c) ∧ (Z.cc.cl c).2[j]? = some f := by
  intro c hc
  rw [hcc]
  rcases List.mem_cons.mp hc with rfl | hc
  · exact ⟨k1, h1⟩
  · rcases List.mem_cons.mp hc with rfl | hc
    · exact ⟨k2, h2⟩
    · cases hc
theorem setU1 {a b y : D} {xs : List D} : setAt (a :: b :: xs) 1 y = a :: y :: xs := by unfold setAt; simp
theorem setU2 {a b c y : D} {xs : List D} : setAt (a :: b :: c :: xs) 2 y = a :: b :: y :: xs := by unfold setAt; simp
theorem lkA {s : FSpec} {r : List (Nat × FSpec)} : List.lookup 1 ((1, s) :: r) = some s := rfl
theorem lkB {s t : FSpec} {r : List (Nat × FSpec)} : List.lookup 2 ((1, s) :: (2, t) :: r) = some t := rfl
theorem lkC {s : FSpec} {r : List (Nat × FSpec)} : List.lookup 2 ((2, s) :: r) = some s := rfl
theorem lk_ex {s : FSpec} {P : FSpec → Prop} : (∃ sp, some s = some sp ∧ P sp) = P s := propext ⟨fun ⟨_, e, h⟩ => by cases e; exact h, fun h => ⟨_, rfl, h⟩⟩
/-- o.pop(), a value, o gives a pointer that is followed -/
def ePopE (wx : EW) : EW := fun xk ρ K => wx xk ρ fun r ρ1 => match r with
  | .gh j a => match ρ1[j]? with
    | some (.own m b (.lst ds)) => b = a ∧ ∃ d, ds.getLast? = some d ∧ K (.sh d) (ρ1.set j (.own m b (.lst ds.dropLast)))
    | _ => False
  | _ => False
end
end TL

namespace TL
open PySem L2
/-! ### words of defs: how they are read -/
theorem mus0 {mus : List Addr} (h : mus.length = 0) : mus = [] := List.length_eq_zero_iff.mp h
theorem mus1 {mus : List Addr} (h : mus.length = 1) : ∃ a, mus = [a] := List.length_eq_one_iff.mp h
theorem atI0 {α : Type} {x : α} {xs : List α} : L2.atI (x :: xs) 0 = some x := by
  show (ixN (xs.length + 1) 0).bind _ = _
  unfold ixN
  rw [if_pos (by omega), if_pos (by omega)]
  rfl
theorem atI1 {α : Type} {x y : α} {xs : List α} : L2.atI (x :: y :: xs) 1 = some y := by
  show (ixN (xs.length + 2) 1).bind _ = _
  unfold ixN
  rw [if_pos (by omega), if_pos (by omega)]
  rfl
theorem atI2 {α : Type} {x y z : α} {xs : List α} : L2.atI (x :: y :: z :: xs) 2 = some z := by
  show (ixN (xs.length + 3) 2).bind _ = _
  unfold ixN
  rw [if_pos (by omega), if_pos (by omega)]
  rfl
theorem atI_int {α : Type} {xs : List α} {i : Int} (h0 : 0 ≤ i) (h1 : i < xs.length) : L2.atI xs i = some (xs[i.toNat]'(by omega)) := by
  unfold L2.atI ixN
  rw [if_pos h0, if_pos h1]
  exact List.getElem?_eq_getElem (by omega)
theorem ixN0 {n : Nat} : ixN (n + 1) 0 = some 0 := by unfold ixN; rw [if_pos (by omega), if_pos (by omega)]; rfl
theorem ixN1 {n : Nat} : ixN (n + 2) 1 = some 1 := by unfold ixN; rw [if_pos (by omega), if_pos (by omega)]; rfl
theorem ixN2 {n : Nat} : ixN (n + 3) 2 = some 2 := by unfold ixN; rw [if_pos (by omega), if_pos (by omega)]; rfl
theorem some_inj_ex {α : Type} {a : α} {p : α → Prop} : (∃ d, some a = some d ∧ p d) ↔ p a := ⟨fun ⟨d, e, h⟩ => by cases e; exact h, fun h => ⟨a, rfl, h⟩⟩
theorem eqD_int {a b : Int} : eqD (.int a) (.int b) = decide (a = b) := by
  unfold eqD
  simp only [pd, PyData.eqv]
  rw [Bool.beq_eq_decide_eq]
theorem okD_int {n : Nat} {a : Int} : okD n (.int a) = true := by unfold okD; rfl
theorem setAt0 {α : Type} {x : α} : setAt [] 0 x = [x] := rfl
theorem setAt1 {α : Type} {a x : α} : setAt [a] 1 x = [a, x] := rfl
theorem setAt2 {α : Type} {a b x : α} : setAt [a, b] 2 x = [a, b, x] := rfl
theorem setAt3 {α : Type} {a b c x : α} : setAt [a, b, c] 3 x = [a, b, c, x] := rfl
/-- bits -/
def Bt (n : Nat) (x : Int) : Prop := x.natAbs.log2 < n
theorem log2_lt_of {x n : Nat} (h : x < 2 ^ n) (hn : 0 < n) : x.log2 < n := by
  by_cases h0 : x = 0
  · subst h0; simpa using hn
  · exact (Nat.log2_lt h0).mpr h
theorem Bt.of {n : Nat} {x : Int} (hn : 0 < n) (h1 : -(2 ^ n : Int) < x) (h2 : x < 2 ^ n) : Bt n x := by
  refine log2_lt_of ?_ hn
  have : ((2 ^ n : Nat) : Int) = 2 ^ n := by simp
  omega
theorem Bt.mono {n m : Nat} {x : Int} (h : Bt n x) (hm : n ≤ m) : Bt m x := Nat.lt_of_lt_of_le h hm
theorem Bt.lt {n : Nat} {x : Int} (h : Bt n x) : x.natAbs < 2 ^ n := by
  unfold Bt at h
  by_cases h0 : x.natAbs = 0
  · rw [h0]; exact Nat.two_pow_pos _
  · exact (Nat.log2_lt h0).mp h
theorem Bt.mul {n m : Nat} {x y : Int} (h : Bt n x) (k : Bt m y) : Bt (n + m) (x * y) := by
  have hn : 0 < n := Nat.zero_lt_of_lt h
  refine log2_lt_of ?_ (by omega)
  rw [Int.natAbs_mul, Nat.pow_add]
  exact Nat.mul_lt_mul'' h.lt k.lt
theorem Bt.add {n : Nat} {x y : Int} (h : Bt n x) (k : Bt n y) : Bt (n + 1) (x + y) := by
  refine log2_lt_of ?_ (by omega)
  have h1 := h.lt
  have h2 := k.lt
  rw [Nat.pow_succ]
  omega
theorem Bt.neg {n : Nat} {x : Int} (h : Bt n x) : Bt n (-x) := by unfold Bt; rw [Int.natAbs_neg]; exact h
theorem Bt.sub {n : Nat} {x y : Int} (h : Bt n x) (k : Bt n y) : Bt (n + 1) (x - y) := by rw [Int.sub_eq_add_neg]; exact h.add k.neg
theorem Bt.le {n : Nat} {x y : Int} (h : Bt n y) (k : x.natAbs ≤ y.natAbs) : Bt n x := by
  have hn : 0 < n := Nat.zero_lt_of_lt h
  exact log2_lt_of (Nat.lt_of_le_of_lt k h.lt) hn
theorem Bt.mulOk {n m : Nat} {x y : Int} (h : Bt n x) (k : Bt m y) (hm : n + m ≤ 100000000) : MulOk x y := by
  unfold MulOk
  unfold Bt at h k
  omega
theorem Bt.small {x : Int} (h1 : -(1000000000000 : Int) < x) (h2 : x < 1000000000000) : Bt 40 x := Bt.of (by omega) (by omega) (by omega)
theorem DivOk.of {n : Nat} {x : Int} (h0 : 0 < x) (h : Bt n x) (hn : n ≤ 9000) : DivOk x := ⟨h0, Nat.lt_of_lt_of_le h hn⟩

theorem out_sh {d : D} {ρ : REnv} {K : Rv → REnv → Prop} : out (.sh d) ρ K = K (.sh d) ρ := rfl
theorem out_fr {d : D} {ρ : REnv} {K : Rv → REnv → Prop} : out (.fr d) ρ K = ∀ a, K (.fr a d) ρ := rfl
theorem get_loc {i : Nat} {ρ : REnv} : Rv.get (.loc i) ρ = getL ρ i := rfl
theorem get_sh {d : D} {ρ : REnv} : Rv.get (.sh d) ρ = d := rfl
theorem get_fr {a : Addr} {d : D} {ρ : REnv} : Rv.get (.fr a d) ρ = d := rfl
theorem getL_z {d : D} {ρ : REnv} : getL (.sh d :: ρ) 0 = d := rfl
theorem getL_o {m : Bool} {a : Addr} {d : D} {ρ : REnv} : getL (.own m a d :: ρ) 0 = d := rfl
theorem getL_s {s : Sl} {i : Nat} {ρ : REnv} : getL (s :: ρ) (i + 1) = getL ρ i := by unfold getL; rw [List.getElem?_cons_succ]
theorem bound_z {d : D} {ρ : REnv} : bound (.sh d :: ρ) 0 = True := rfl
theorem bound_o {m : Bool} {a : Addr} {d : D} {ρ : REnv} : bound (.own m a d :: ρ) 0 = True := rfl
theorem bound_s {s : Sl} {i : Nat} {ρ : REnv} : bound (s :: ρ) (i + 1) = bound ρ i := by unfold bound; rw [List.getElem?_cons_succ]
theorem isOwn_o {m : Bool} {a : Addr} {d : D} {ρ : REnv} : isOwn (.own m a d :: ρ) 0 = True := rfl
theorem isOwn_s {s : Sl} {i : Nat} {ρ : REnv} : isOwn (s :: ρ) (i + 1) = isOwn ρ i := by unfold isOwn; rw [List.getElem?_cons_succ]
theorem pok_loc {i : Nat} {ρ : REnv} : pok (.loc i) ρ = bound ρ i := rfl
theorem pok_sh {d : D} {ρ : REnv} : pok (.sh d) ρ = True := rfl
theorem pok_fr {a : Addr} {d : D} {ρ : REnv} : pok (.fr a d) ρ = True := rfl
/-- what stands in a slot, for a store -/
def stlS (s : Option Sl) (i : Nat) (ρ : REnv) (K : D → REnv → Prop) : Prop := match s with
    | some (.sh d) => K d ρ
    | some (.own false _ d) => K d (ρ.set i (.sh d))
    | _ => False
theorem stl_loc {i : Nat} {ρ : REnv} {K : D → REnv → Prop} : stl (.loc i) ρ K = stlS ρ[i]? i ρ K := rfl
theorem stlS_sh {i : Nat} {d : D} {ρ : REnv} {K : D → REnv → Prop} : stlS (some (.sh d)) i ρ K = K d ρ := rfl
theorem stlS_own {i : Nat} {a : Addr} {d : D} {ρ : REnv} {K : D → REnv → Prop} : stlS (some (.own false a d)) i ρ K = K d (ρ.set i (.sh d)) := rfl
theorem stl_sh {d : D} {ρ : REnv} {K : D → REnv → Prop} : stl (.sh d) ρ K = K d ρ := rfl
theorem stl_fr {a : Addr} {d : D} {ρ : REnv} {K : D → REnv → Prop} : stl (.fr a d) ρ K = K d ρ := rfl
theorem lay_fr {i : Nat} {a : Addr} {d : D} {ρ : REnv} {K : REnv → Prop} : lay i (.fr a d) ρ K = K (ρ.set i (.own false a d)) := rfl
theorem lay_sh {i : Nat} {d : D} {ρ : REnv} {K : REnv → Prop} : lay i (.sh d) ρ K = K (ρ.set i (.sh d)) := rfl
theorem lay_loc {i j : Nat} {ρ : REnv} {K : REnv → Prop} : lay i (.loc j) ρ K = stlS ρ[j]? j ρ fun d ρ2 => K (ρ2.set i (.sh d)) := rfl
/-- a truth value -/
def tstD (d : D) (K : Bool → Prop) : Prop := match d with | .bl b => K b | _ => False
theorem tVal_eq {w : EW} : tVal w = fun xk ρ K => w xk ρ fun r ρ' => tstD (r.get ρ') fun b => K b ρ' := by
  funext xk ρ K
  unfold tVal tstD
  rfl
theorem tstD_bl {b : Bool} {K : Bool → Prop} : tstD (.bl b) K = K b := rfl
theorem add_ii {i j : Int} {k} : opAdd (.int i) (.int j) k = k (.sh (.int (i + j))) := rfl
theorem add_ss {i j : Str} {k} : opAdd (.str i) (.str j) k = (i.length + j.length ≤ sizeLine ∧ k (.sh (.str (i ++ j)))) := rfl
theorem add_ll {i j : List D} {k} : opAdd (.lst i) (.lst j) k = (i.length + j.length ≤ sizeLine ∧ k (.fr (.lst (i ++ j)))) := rfl
theorem sub_ii {i j : Int} {k} : opSub (.int i) (.int j) k = k (.sh (.int (i - j))) := rfl
theorem mul_ii {i j : Int} {k} : opMul (.int i) (.int j) k = (MulOk i j ∧ k (.sh (.int (i * j)))) := rfl
theorem fdv_ii {i j : Int} {k} : opFdv (.int i) (.int j) k = (DivOk j ∧ k (.sh (.int (i / j)))) := rfl
theorem fdvN_ii {i j : Int} {k} : opFdvN (.int i) (.int j) k = (DivOkN j ∧ k (.sh (.int (i.fdiv j)))) := rfl
theorem mod_ii {i j : Int} {k} : opMod (.int i) (.int j) k = (0 < j ∧ k (.sh (.int (i % j)))) := rfl
theorem modN_ii {i j : Int} {k} : opModN (.int i) (.int j) k = (j ≠ 0 ∧ k (.sh (.int (i.fmod j)))) := rfl
theorem pow_ii {i j : Int} {k} : opPow (.int i) (.int j) k = (CPow i j ∧ k (.sh (.int (i ^ j.toNat)))) := rfl
theorem lt_ii {i j : Int} {k} : opLt (.int i) (.int j) k = k (.sh (.bl (decide (i < j)))) := rfl
theorem le_ii {i j : Int} {k} : opLe (.int i) (.int j) k = k (.sh (.bl (decide (i ≤ j)))) := rfl
theorem gt_ii {i j : Int} {k} : opGt (.int i) (.int j) k = k (.sh (.bl (decide (j < i)))) := rfl
theorem ge_ii {i j : Int} {k} : opGe (.int i) (.int j) k = k (.sh (.bl (decide (j ≤ i)))) := rfl
theorem eq_ii {i j : Int} {k} : opEq (.int i) (.int j) k = k (.sh (.bl (decide (i = j)))) := by unfold opEq; rw [eqD_int, okD_int, okD_int]; exact propext ⟨fun h => h.2, fun h => ⟨⟨rfl, rfl⟩, h⟩⟩
theorem ne_ii {i j : Int} {k} : opNe (.int i) (.int j) k = k (.sh (.bl (!decide (i = j)))) := by unfold opNe; rw [eqD_int, okD_int, okD_int]; exact propext ⟨fun h => h.2, fun h => ⟨⟨rfl, rfl⟩, h⟩⟩
theorem ix_li {ds : List D} {i : Int} {k} : opIx (.lst ds) (.int i) k = ∃ d, L2.atI ds i = some d ∧ k (.sh d) := rfl
theorem ix_ti {ds : List D} {i : Int} {k} : opIx (.tup ds) (.int i) k = ∃ d, L2.atI ds i = some d ∧ k (.sh d) := rfl
theorem neg_i {i : Int} {k} : opNeg (.int i) k = k (.sh (.int (-i))) := rfl
theorem abs_i {i : Int} {k} : opAbs (.int i) k = k (.sh (.int (if i < 0 then -i else i))) := rfl
theorem int_i {i : Int} {k} : opInt (.int i) k = k (.sh (.int i)) := rfl
theorem int_b {i : Bool} {k} : opInt (.bl i) k = k (.sh (.int (if i then 1 else 0))) := rfl
theorem max_ii {i j : Int} {k} : opMax2 (.int i) (.int j) k = k (.sh (.int (if j > i then j else i))) := rfl
theorem min_ii {i j : Int} {k} : opMin2 (.int i) (.int j) k = k (.sh (.int (if j < i then j else i))) := rfl
theorem len_l {ds : List D} {k} : opLen (.lst ds) k = k (.sh (.int ds.length)) := rfl
theorem len_t {ds : List D} {k} : opLen (.tup ds) k = k (.sh (.int ds.length)) := rfl
theorem list_l {ds : List D} {k} : opList (.lst ds) k = k (.fr (.lst ds)) := rfl
theorem sl_l {lo hi : Option Int} {ds : List D} {k} : opSl lo hi (.lst ds) k = k (.fr (.lst (cutL ds lo hi))) := rfl
theorem list_t {ds : List D} {k} : opList (.tup ds) k = k (.fr (.lst ds)) := rfl
theorem rev_l {ds : List D} {k} : opRev (.lst ds) k = k (.fr (.lst ds.reverse)) := rfl
theorem isi_int {t : Ty} {i : Int} {k} : opIsI t (.int i) k = k (.sh (.bl (isTy t (.int i)))) := propext ⟨fun h => h.2, fun h => ⟨rfl, h⟩⟩
theorem isi_bl {t : Ty} {i : Bool} {k} : opIsI t (.bl i) k = k (.sh (.bl (isTy t (.bl i)))) := propext ⟨fun h => h.2, fun h => ⟨rfl, h⟩⟩
theorem isi_tup {t : Ty} {i : List D} {k} : opIsI t (.tup i) k = k (.sh (.bl (isTy t (.tup i)))) := propext ⟨fun h => h.2, fun h => ⟨rfl, h⟩⟩
theorem isi_lst {t : Ty} {i : List D} {k} : opIsI t (.lst i) k = k (.sh (.bl (isTy t (.lst i)))) := propext ⟨fun h => h.2, fun h => ⟨rfl, h⟩⟩
theorem isi_non {t : Ty} {k} : opIsI t .non k = k (.sh (.bl (isTy t .non))) := propext ⟨fun h => h.2, fun h => ⟨rfl, h⟩⟩
theorem isN_i {i : Int} {k} : opIsN (.int i) k = k (.sh (.bl false)) := rfl
theorem isN_n {k} : opIsN .non k = k (.sh (.bl true)) := rfl
theorem isN_t {i : List D} {k} : opIsN (.tup i) k = k (.sh (.bl false)) := rfl
theorem isN_l {i : List D} {k} : opIsN (.lst i) k = k (.sh (.bl false)) := rfl
theorem notN_i {i : Int} {k} : opNotN (.int i) k = k (.sh (.bl true)) := rfl
theorem notN_n {k} : opNotN .non k = k (.sh (.bl false)) := rfl
theorem notN_t {i : List D} {k} : opNotN (.tup i) k = k (.sh (.bl true)) := rfl
theorem notN_l {i : List D} {k} : opNotN (.lst i) k = k (.sh (.bl true)) := rfl
def eFldD (c j : Nat) (d : D) (K : D → Prop) : Prop := match d with
  | .obj c' ds => c' = c ∧ match ds[j]? with | some d => K d | none => False
  | _ => False
theorem eFld_eq {c j : Nat} {w : EW} : eFld c j w = fun xk ρ K => w xk ρ fun r ρ1 => eFldD c j (r.get ρ1) fun d => K (.sh d) ρ1 := rfl
theorem eFldD_o {c c' j : Nat} {ds : List D} {K : D → Prop} : eFldD c j (.obj c' ds) K = (c' = c ∧ match ds[j]? with | some d => K d | none => False) := rfl
local macro_rules | `(tactic| walk_at "sx") => `(tactic| simp only [sSeq, sNil, sSet, sFrz, frz_o, frz_sh, frz_s, sIf, sRet, sRetN, sPass, sBrk, sPar, sSub, sApp, sExpr, sAsg, sAug, sFld, sRevI, sPop, eLoc, eC, eUn, eBin, eAnd, eOr, eNot, eIf, eTup, eLst, dNil, dCons, tVal_eq, tstD_bl, tAndW, tOrW, tNotW, eFld_eq, eFldD_o, eProp, eMeth, eMeth0, eSl, pNone, pSome, sl_l,
  out_sh, out_fr, get_loc, get_sh, get_fr, getL_z, getL_o, getL_s, bound_z, bound_o, bound_s, isOwn_o, isOwn_s, pok_loc, pok_sh, pok_fr, stl_loc, stlS_sh, stlS_own, stl_sh, stl_fr, lay_fr, lay_sh, lay_loc, envOf, slotsOf, valN, ghOf, endK, resK, exMu, muN, List.cons_append, List.nil_append, List.append_nil, List.length_cons, List.length_nil, Nat.reduceAdd, Nat.reduceSub, List.replicate_succ, List.replicate_zero, List.replicate,
  List.getElem?_cons_zero, List.getElem?_cons_succ, List.getElem?_nil, List.set_cons_zero, List.set_cons_succ,
  add_ii, add_ss, add_ll, sub_ii, mul_ii, fdv_ii, fdvN_ii, mod_ii, modN_ii, pow_ii, lt_ii, le_ii, gt_ii, ge_ii, eq_ii, ne_ii, ix_li, ix_ti, neg_i, abs_i, int_i, int_b, max_ii, min_ii, len_l, len_t, list_l, list_t, rev_l, isi_int, isi_bl, isi_tup, isi_lst, isi_non, isN_i, isN_n, isN_t, isN_l, notN_i, notN_n, notN_t, notN_l, isTy,
  atI0, atI1, atI2, ixN0, ixN1, ixN2, some_inj_ex, isObj, setAt0, setAt1, setAt2, setAt3, restE, keepS, wipeE, ↓reduceIte, if_false, if_true,
  eCall, eCallP, eMake, pm, List.filterMap_cons, List.filterMap_nil, agNil, agRo, agBo, agMu, agTm, callK, boIx, muIx, tms, argsK, upE, reown, hasBo, noTm, List.nodup_nil, List.nodup_cons, List.not_mem_nil, not_false_eq_true, Nat.zero_le, Nat.le_refl, Nat.reduceLeDiff, List.mem_cons, or_false, reduceCtorEq,
  gN, gTp, gCn, gNl, iR1, iR2, iLst, iTpl, iEnum, stab,
  true_and, and_true, Bool.true_eq_false, Bool.false_eq_true, false_imp_iff, forall_const, true_imp_iff, and_self, decide_eq_true_eq, decide_eq_false_iff_not, Bool.not_eq_true', Bool.not_eq_false'])
theorem gcd_step {x y : Int} (hy : 0 < y) : Int.gcd y (x % y) = Int.gcd x y := by
  rw [Int.gcd_comm x y]
  have h : x % y = x + y * (-(x / y)) := by
    have := Int.emod_add_mul_ediv x y
    rw [Int.mul_neg]; omega
  rw [h]
  exact Int.gcd_add_mul_left_right y x (-(x / y))
theorem natAbs_if (z : Int) : (if z < 0 then -z else z) = (z.natAbs : Int) := by split <;> omega

def b_gcd : SW := (sSeq (sFrz 0 (sSet 0 (eUn opAbs (eLoc 0))))
  (sSeq (sFrz 1 (sSet 1 (eUn opAbs (eLoc 1))))
  (sSeq (sWhile (tVal (eBin opGt (eLoc 1) (eC (.int 0)))) (sPar 0 1 (dCons (eLoc 1) (dCons (eBin opMod (eLoc 0) (eLoc 1)) dNil))))
  (sRet (eLoc 0)))))
def sp_gcd : FSpec := fun args kr _ => ∃ a b : Int, args = [.ro (.int a), .ro (.int b)] ∧ kr (.sh (.int (Int.gcd a b))) []
theorem sat_gcd : Sat 2 sp_gcd b_gcd := by
  rintro args mus kr kx hm ⟨a, b, rfl, hk⟩
  obtain rfl := mus0 hm
  unfold b_gcd
  walk_at "sx"
  rw [natAbs_if, natAbs_if]
  refine ⟨fun m ρ => ∃ x y : Int, ρ = [.sh (.int x), .sh (.int y)] ∧ 0 ≤ x ∧ 0 ≤ y ∧ Int.gcd x y = Int.gcd a b ∧ m = y.toNat, ⟨_, _, _, rfl, by omega, by omega, by simp [Int.gcd], rfl⟩, ?_⟩
  rintro m ρ ⟨x, y, rfl, hx, hy, hg, rfl⟩
  walk_at "sx"
  refine ⟨fun h => ⟨by omega, _, ?_, _, _, rfl, hy, Int.emod_nonneg _ (by omega), ?_, rfl⟩, fun h => ?_⟩
  · have := Int.emod_lt_of_pos x h
    have := Int.emod_nonneg x (by omega : y ≠ 0)
    omega
  · rw [← hg, gcd_step h]
  · have : y = 0 := by omega
    subst this
    rw [← hg] at hk
    simp only [Int.gcd_zero_right] at hk
    rw [Int.natAbs_of_nonneg hx] at hk
    exact hk
/-- the same def with int() around the left one -/
def b_law_gcd : SW := (sSeq (sFrz 0 (sSet 0 (eUn opAbs (eLoc 0))))
  (sSeq (sFrz 1 (sSet 1 (eUn opAbs (eLoc 1))))
  (sSeq (sWhile (tVal (eBin opGt (eLoc 1) (eC (.int 0)))) (sPar 0 1 (dCons (eLoc 1) (dCons (eBin opMod (eUn opInt (eLoc 0)) (eLoc 1)) dNil))))
  (sRet (eLoc 0)))))
def sp_law_gcd : FSpec := sp_gcd
theorem sat_law_gcd : Sat 2 sp_law_gcd b_law_gcd := by
  rintro args mus kr kx hm ⟨a, b, rfl, hk⟩
  obtain rfl := mus0 hm
  unfold b_law_gcd
  walk_at "sx"
  rw [natAbs_if, natAbs_if]
  refine ⟨fun m ρ => ∃ x y : Int, ρ = [.sh (.int x), .sh (.int y)] ∧ 0 ≤ x ∧ 0 ≤ y ∧ Int.gcd x y = Int.gcd a b ∧ m = y.toNat, ⟨_, _, _, rfl, by omega, by omega, by simp [Int.gcd], rfl⟩, ?_⟩
  rintro m ρ ⟨x, y, rfl, hx, hy, hg, rfl⟩
  walk_at "sx"
  refine ⟨fun h => ⟨by omega, _, ?_, _, _, rfl, hy, Int.emod_nonneg _ (by omega), ?_, rfl⟩, fun h => ?_⟩
  · have := Int.emod_lt_of_pos x h
    have := Int.emod_nonneg x (by omega : y ≠ 0)
    omega
  · rw [← hg, gcd_step h]
  · have : y = 0 := by omega
    subst this
    rw [← hg] at hk
    simp only [Int.gcd_zero_right] at hk
    rw [Int.natAbs_of_nonneg hx] at hk
    exact hk

def b_is_fraction : SW := (sRet (eAnd (eBin opGe (eBin opIx (eLoc 0) (eC (.int 1))) (eC (.int 1))) (eBin opEq (eCall 2 sp_gcd (agRo (eBin opIx (eLoc 0) (eC (.int 0))) (agRo (eBin opIx (eLoc 0) (eC (.int 1))) agNil))) (eC (.int 1)))))
abbrev encR (p : Int × Int) : D := .tup [.int p.1, .int p.2]
def sp_is_fraction : FSpec := fun args kr _ => ∃ p : Int × Int, args = [.ro (encR p)] ∧ kr (.sh (.bl (decide (1 ≤ p.2 ∧ Int.gcd p.1 p.2 = 1)))) []
theorem cast1 {n : Nat} : ((n : Int) = 1) = (n = 1) := propext ⟨fun h => by omega, fun h => by omega⟩
theorem sat_is_fraction : Sat 1 sp_is_fraction b_is_fraction := by
  rintro args mus kr kx hm ⟨⟨t, b⟩, rfl, hk⟩
  obtain rfl := mus0 hm
  unfold b_is_fraction
  walk_at "sx"
  constructor
  · intro h
    refine ⟨t, b, rfl, ?_⟩
    walk_at "sx"
    simp only [cast1]
    simpa [h] using hk
  · intro h
    have : ¬ (1 ≤ b) := by omega
    simpa [this] using hk
end TL

namespace TL
open PySem L2
local macro_rules | `(tactic| walk_at "sx") => `(tactic| simp only [sSeq, sNil, sSet, sFrz, frz_o, frz_sh, frz_s, sIf, sRet, sRetN, sPass, sBrk, sPar, sSub, sApp, sExpr, sAsg, sAug, sFld, sRevI, sPop, eLoc, eC, eUn, eBin, eAnd, eOr, eNot, eIf, eTup, eLst, dNil, dCons, tVal_eq, tstD_bl, tAndW, tOrW, tNotW, eFld_eq, eFldD_o, eProp, eMeth, eMeth0, eSl, pNone, pSome, sl_l,
  out_sh, out_fr, get_loc, get_sh, get_fr, getL_z, getL_o, getL_s, bound_z, bound_o, bound_s, isOwn_o, isOwn_s, pok_loc, pok_sh, pok_fr, stl_loc, stlS_sh, stlS_own, stl_sh, stl_fr, lay_fr, lay_sh, lay_loc, envOf, slotsOf, valN, ghOf, endK, resK, exMu, muN, List.cons_append, List.nil_append, List.append_nil, List.length_cons, List.length_nil, Nat.reduceAdd, Nat.reduceSub, List.replicate_succ, List.replicate_zero, List.replicate,
  List.getElem?_cons_zero, List.getElem?_cons_succ, List.getElem?_nil, List.set_cons_zero, List.set_cons_succ,
  add_ii, add_ss, add_ll, sub_ii, mul_ii, fdv_ii, fdvN_ii, mod_ii, modN_ii, pow_ii, lt_ii, le_ii, gt_ii, ge_ii, eq_ii, ne_ii, ix_li, ix_ti, neg_i, abs_i, int_i, int_b, max_ii, min_ii, len_l, len_t, list_l, list_t, rev_l, isi_int, isi_bl, isi_tup, isi_lst, isi_non, isN_i, isN_n, isN_t, isN_l, notN_i, notN_n, notN_t, notN_l, isTy,
  atI0, atI1, atI2, ixN0, ixN1, ixN2, some_inj_ex, isObj, setAt0, setAt1, setAt2, setAt3, restE, keepS, wipeE, ↓reduceIte, if_false, if_true,
  eCall, eCallP, eMake, pm, List.filterMap_cons, List.filterMap_nil, agNil, agRo, agBo, agMu, agTm, callK, boIx, muIx, tms, argsK, upE, reown, hasBo, noTm, flatRo, noLstAll, noLst, noLsts, List.nodup_nil, List.nodup_cons, List.not_mem_nil, not_false_eq_true, Nat.zero_le, Nat.le_refl, Nat.reduceLeDiff, List.mem_cons, or_false, reduceCtorEq,
  gN, gTp, gCn, gNl, iR1, iR2, iLst, iTpl, iEnum, stab,
  true_and, and_true, Bool.true_eq_false, Bool.false_eq_true, false_imp_iff, forall_const, true_imp_iff, and_self, decide_eq_true_eq, decide_eq_false_iff_not, Bool.not_eq_true', Bool.not_eq_false'])
/-! ### numbers -/
theorem dvd_of_gcd {m b c : Int} (h : Int.gcd b m = 1) (d : m ∣ c * b) : m ∣ c := by
  have h1 : Nat.Coprime m.natAbs b.natAbs := by rw [Nat.coprime_comm]; exact h
  have h2 : m.natAbs ∣ c.natAbs * b.natAbs := by rw [← Int.natAbs_mul]; exact Int.natAbs_dvd_natAbs.mpr d
  exact Int.natAbs_dvd_natAbs.mp (h1.dvd_of_dvd_mul_right h2)
/-- the remainder of t / b by m: the first number r with r * b = t modulo m -/
def remF (m t b : Int) : Int := (((List.range m.toNat).find? fun (r : Nat) => decide (((r : Int) * b - t) % m = 0)).getD 0 : Nat)
theorem rem_uniq {m t b r s : Int} (hm : 0 < m) (hg : Int.gcd b m = 1) (r0 : 0 ≤ r) (r1 : r < m) (s0 : 0 ≤ s) (s1 : s < m) (hr : (r * b - t) % m = 0) (hs : (s * b - t) % m = 0) : r = s := by
  have h1 := Int.dvd_of_emod_eq_zero hr
  have h2 := Int.dvd_of_emod_eq_zero hs
  have h3 : m ∣ (r - s) * b := by
    have := Int.dvd_sub h1 h2
    have e : r * b - t - (s * b - t) = (r - s) * b := by rw [Int.sub_mul]; omega
    rw [e] at this; exact this
  obtain ⟨k, hk⟩ := dvd_of_gcd hg h3
  have : k = 0 := by
    rcases Int.lt_trichotomy k 0 with h | h | h
    · have : m * k ≤ m * (-1) := Int.mul_le_mul_of_nonneg_left (by omega) (by omega)
      omega
    · exact h
    · have : m * 1 ≤ m * k := Int.mul_le_mul_of_nonneg_left (by omega) (by omega)
      omega
  subst this
  omega
theorem remF_eq {m t b r : Int} (hm : 0 < m) (hg : Int.gcd b m = 1) (r0 : 0 ≤ r) (r1 : r < m) (hr : (r * b - t) % m = 0) : remF m t b = r := by
  unfold remF
  cases h : (List.range m.toNat).find? fun (r : Nat) => decide (((r : Int) * b - t) % m = 0) with
  | none =>
    have := List.find?_eq_none.mp h r.toNat (List.mem_range.mpr (by omega))
    rw [Int.toNat_of_nonneg r0] at this
    simp [hr] at this
  | some s =>
    have h1 := List.find?_some h
    have h2 := List.mem_range.mp (List.mem_of_find?_eq_some h)
    have h3 : ((s : Int) * b - t) % m = 0 := by simpa using h1
    exact rem_uniq hm hg (by omega) (by simp; omega) r0 r1 h3 hr

def b_is_good : SW := (sRet (eAnd (eCall 1 sp_is_fraction (agRo (eLoc 1) agNil)) (eBin opEq (eCall 2 sp_gcd (agRo (eBin opIx (eLoc 1) (eC (.int 1))) (agRo (eLoc 0) agNil))) (eC (.int 1)))))
/-- the tuple is a fraction that is good for m -/
def Good (m : Int) (p : Int × Int) : Prop := 1 ≤ p.2 ∧ Int.gcd p.1 p.2 = 1 ∧ Int.gcd p.2 m = 1
instance (m : Int) (p : Int × Int) : Decidable (Good m p) := by unfold Good; exact inferInstance
def sp_is_good : FSpec := fun args kr _ => ∃ (m : Int) (p : Int × Int), args = [.ro (.int m), .ro (encR p)] ∧ kr (.sh (.bl (decide (Good m p)))) []
theorem sat_is_good : Sat 2 sp_is_good b_is_good := by
  rintro args mus kr kx hm ⟨m, ⟨t, b⟩, rfl, hk⟩
  obtain rfl := mus0 hm
  unfold b_is_good
  walk_at "sx"
  refine ⟨(t, b), rfl, ?_⟩
  walk_at "sx"
  unfold Good at hk
  constructor
  · intro h
    refine ⟨b, m, rfl, ?_⟩
    walk_at "sx"
    simp only [cast1]
    have h1 : 1 ≤ b := h.1
    have h2 : Int.gcd t b = 1 := h.2
    simpa [h1, h2] using hk
  · intro h
    have h : ¬ (1 ≤ b ∧ Int.gcd t b = 1) := h
    have : ¬ (1 ≤ b ∧ Int.gcd t b = 1 ∧ Int.gcd b m = 1) := fun z => h ⟨z.1, z.2.1⟩
    simpa [this] using hk

def b_inverse : SW := (sSeq (sPar 2 3 (dCons (eBin opMod (eLoc 0) (eLoc 1)) (dCons (eLoc 1) dNil)))
  (sSeq (sAsg (eTup (dCons (eC (.int 1)) (dCons (eC (.int 0)) dNil))) (gTp 2 (gCn (gN 4) (gCn (gN 5) gNl))))
  (sSeq (sWhile (tVal (eBin opGt (eLoc 3) (eC (.int 0)))) (sSeq (sFrz 6 (sSet 6 (eBin opFdv (eLoc 2) (eLoc 3))))
  (sSeq (sPar 2 3 (dCons (eLoc 3) (dCons (eBin opSub (eLoc 2) (eBin opMul (eLoc 6) (eLoc 3))) dNil)))
  (sPar 4 5 (dCons (eLoc 5) (dCons (eBin opSub (eLoc 4) (eBin opMul (eLoc 6) (eLoc 5))) dNil))))))
  (sRet (eBin opMod (eLoc 4) (eLoc 1))))))
def sp_inverse : FSpec := fun args kr _ => ∃ n m : Int, args = [.ro (.int n), .ro (.int m)] ∧ 0 < m ∧ Int.gcd n m = 1 ∧ Bt 9000 m ∧ ∀ r, 0 ≤ r → r < m → (r * n - 1) % m = 0 → kr (.sh (.int r)) []
theorem inv_bd {u o h w m : Int} (e : u * o + h * w = m) (hu : 0 ≤ u) (ho : 0 ≤ o) (hh : 0 ≤ h) (hw : 0 < w) : h ≤ m := by
  have h1 : 0 ≤ u * o := Int.mul_nonneg hu ho
  have h2 : h * 1 ≤ h * w := Int.mul_le_mul_of_nonneg_left (by omega) hh
  omega
theorem sat_inverse : Sat 7 sp_inverse b_inverse := by
  rintro args mus kr kx hm ⟨n, m, rfl, hm0, hg, hb, hk⟩
  obtain rfl := mus0 hm
  unfold b_inverse
  walk_at "sx"
  refine ⟨hm0, fun k ρ => ∃ (x y h t s : Int) (e6 : Sl), ρ = [.sh (.int n), .sh (.int m), .sh (.int x), .sh (.int y), .sh (.int (s * h)), .sh (.int (-(s * t))), e6] ∧ 0 ≤ x ∧ 0 ≤ y ∧ x ≤ m ∧ y ≤ m ∧ 0 ≤ h ∧ 0 ≤ t ∧ t ≤ m ∧ (s = 1 ∨ s = -1) ∧
    t * x + h * y = m ∧ Int.gcd x y = 1 ∧ m ∣ s * h * n - x ∧ m ∣ -(s * t) * n - y ∧ k = y.toNat, ⟨_, n % m, m, 1, 0, 1, .no, rfl, Int.emod_nonneg _ (by omega), by omega, Int.le_of_lt (Int.emod_lt_of_pos _ hm0), Int.le_refl _, by omega, by omega, by omega, .inl rfl, by omega, ?_, ?_, ?_, rfl⟩, ?_⟩
  · rw [Int.gcd_comm, gcd_step hm0]; exact hg
  · have : (1 : Int) * 1 * n - n % m = m * (n / m) := by
      have := Int.emod_add_mul_ediv n m
      omega
    rw [this]; exact Int.dvd_mul_right _ _
  · exact ⟨-1, by omega⟩
  · rintro k ρ ⟨x, y, h, t, s, e6, rfl, hx, hy, hxm, hym, hh, ht, htm, hs, hsum, hgc, d1, d2, rfl⟩
    walk_at "sx"
    have xm := Int.emod_add_mul_ediv x y
    refine ⟨fun hy0 => ?_, fun hy0 => ?_⟩
    · have e1 : x - x / y * y = x % y := by rw [Int.mul_comm]; omega
      have q0 : 0 ≤ x / y := Int.ediv_nonneg hx hy
      have r0 : 0 ≤ x % y := Int.emod_nonneg _ (by omega)
      have r1 : x % y < y := Int.emod_lt_of_pos _ hy0
      have qx : x / y ≤ m := by
        have : x / y ≤ x := Int.ediv_le_self _ hx
        omega
      have bq : Bt 9000 (x / y) := hb.le (by omega)
      have by_ : Bt 9000 y := hb.le (by omega)
      refine ⟨⟨hy0, by_⟩, bq.mulOk by_ (by omega), ?_⟩
      have hst : s * h - x / y * -(s * t) = s * (h + x / y * t) := by grind
      have nst : -(s * t) = (-s) * t := by rw [Int.neg_mul]
      have bt : Bt 9000 (-(s * t)) := by
        refine (hb.le (x := t) (by omega)).le ?_ |> Bt.neg
        rcases hs with rfl | rfl <;> simp
      have key : (h + x / y * t) * y + t * (x % y) = m := by
        have : x % y = x - y * (x / y) := by omega
        rw [this]; grind
      have nn : 0 ≤ x / y * t := Int.mul_nonneg q0 ht
      refine ⟨bq.mulOk bt (by omega), (x % y).toNat, by omega, y, x % y, t, h + x / y * t, -s, .sh (.int (x / y)), ?_, hy, r0, hym, by omega, ht, by omega, ?_, by omega, key, ?_, ?_, ?_, rfl⟩
      · rw [e1, hst, nst]
        have : -(-s * (h + x / y * t)) = s * (h + x / y * t) := by grind
        rw [this]
      · have := inv_bd (u := t) (o := x % y) (h := h + x / y * t) (w := y) (m := m) (by omega) ht r0 (by omega) hy0
        exact this
      · rw [gcd_step hy0]; exact hgc
      · have : -s * t * n - y = -(s * t) * n - y := by grind
        rw [this]; exact d2
      · have : -(-s * (h + x / y * t)) * n - x % y = (s * h * n - x) - (x / y) * (-(s * t) * n - y) := by
          have e2 : x % y = x - y * (x / y) := by omega
          rw [e2]; grind
        rw [this]
        exact Int.dvd_sub d1 (Int.dvd_mul_of_dvd_right d2)
    · have y0 : y = 0 := by omega
      subst y0
      have x1 : x = 1 := by
        have : Int.gcd x 0 = x.natAbs := by simp
        omega
      subst x1
      refine ⟨hm0, hk _ (Int.emod_nonneg _ (by omega)) (Int.emod_lt_of_pos _ hm0) ?_⟩
      apply Int.emod_eq_zero_of_dvd
      have e := Int.emod_add_mul_ediv (s * h) m
      have : (s * h) % m * n - 1 = (s * h * n - 1) - m * (s * h / m * n) := by
        have e2 : (s * h) % m = s * h - m * (s * h / m) := by omega
        rw [e2]; grind
      rw [this]
      exact Int.dvd_sub d1 (Int.dvd_mul_right _ _)
end TL

namespace TL
open PySem L2
local macro_rules | `(tactic| walk_at "sx") => `(tactic| simp only [sSeq, sNil, sSet, sFrz, frz_o, frz_sh, frz_s, sIf, sRet, sRetN, sPass, sBrk, sPar, sSub, sApp, sExpr, sAsg, sAug, sFld, sRevI, sPop, eLoc, eC, eUn, eBin, eAnd, eOr, eNot, eIf, eTup, eLst, dNil, dCons, tVal_eq, tstD_bl, tAndW, tOrW, tNotW, eFld_eq, eFldD_o, eProp, eMeth, eMeth0, eSl, pNone, pSome, sl_l,
  out_sh, out_fr, get_loc, get_sh, get_fr, getL_z, getL_o, getL_s, bound_z, bound_o, bound_s, isOwn_o, isOwn_s, pok_loc, pok_sh, pok_fr, stl_loc, stlS_sh, stlS_own, stl_sh, stl_fr, lay_fr, lay_sh, lay_loc, envOf, slotsOf, valN, ghOf, endK, resK, exMu, muN, List.cons_append, List.nil_append, List.append_nil, List.length_cons, List.length_nil, Nat.reduceAdd, Nat.reduceSub, List.replicate_succ, List.replicate_zero, List.replicate,
  List.getElem?_cons_zero, List.getElem?_cons_succ, List.getElem?_nil, List.set_cons_zero, List.set_cons_succ,
  add_ii, add_ss, add_ll, sub_ii, mul_ii, fdv_ii, fdvN_ii, mod_ii, modN_ii, pow_ii, lt_ii, le_ii, gt_ii, ge_ii, eq_ii, ne_ii, ix_li, ix_ti, neg_i, abs_i, int_i, int_b, max_ii, min_ii, len_l, len_t, list_l, list_t, rev_l, isi_int, isi_bl, isi_tup, isi_lst, isi_non, isN_i, isN_n, isN_t, isN_l, notN_i, notN_n, notN_t, notN_l, isTy,
  atI0, atI1, atI2, ixN0, ixN1, ixN2, some_inj_ex, isObj, setAt0, setAt1, setAt2, setAt3, restE, keepS, wipeE, ↓reduceIte, if_false, if_true,
  eCall, eCallP, eMake, pm, List.filterMap_cons, List.filterMap_nil, agNil, agRo, agBo, agMu, agTm, callK, boIx, muIx, tms, argsK, upE, reown, hasBo, noTm, flatRo, noLstAll, noLst, noLsts, List.nodup_nil, List.nodup_cons, List.not_mem_nil, not_false_eq_true, Nat.zero_le, Nat.le_refl, Nat.reduceLeDiff, List.mem_cons, or_false, reduceCtorEq,
  gN, gTp, gCn, gNl, iR1, iR2, iLst, iTpl, iEnum, stab,
  true_and, and_true, Bool.true_eq_false, Bool.false_eq_true, false_imp_iff, forall_const, true_imp_iff, and_self, decide_eq_true_eq, decide_eq_false_iff_not, Bool.not_eq_true', Bool.not_eq_false'])
def b_remainder_by : SW := (sSeq (sIf (tVal (eBin opEq (eBin opIx (eLoc 1) (eC (.int 1))) (eC (.int 1)))) (sRet (eBin opMod (eBin opIx (eLoc 1) (eC (.int 0))) (eLoc 0))) sNil)
  (sRet (eBin opMod (eBin opMul (eBin opIx (eLoc 1) (eC (.int 0))) (eCall 2 sp_inverse (agRo (eBin opIx (eLoc 1) (eC (.int 1))) (agRo (eLoc 0) agNil)))) (eLoc 0))))
def sp_remainder_by : FSpec := fun args kr _ => ∃ (m : Int) (p : Int × Int), args = [.ro (.int m), .ro (encR p)] ∧ 0 < m ∧ Int.gcd p.2 m = 1 ∧ Bt 9000 m ∧ Bt 90000000 p.1 ∧ kr (.sh (.int (remF m p.1 p.2))) []
theorem sat_remainder_by : Sat 2 sp_remainder_by b_remainder_by := by
  rintro args mus kr kx hm ⟨m, ⟨t, b⟩, rfl, hm0, hg, hb, ht, hk⟩
  obtain rfl := mus0 hm
  have hg : Int.gcd b m = 1 := hg
  have ht : Bt 90000000 t := ht
  unfold b_remainder_by
  walk_at "sx"
  have key : ∀ r : Int, 0 ≤ r → r < m → (r * b - t) % m = 0 → remF m t b = r := fun r h1 h2 h3 => remF_eq hm0 hg h1 h2 h3
  refine ⟨fun hb1 => ?_, fun hb1 => ⟨b, m, rfl, hm0, hg, hb, fun r r0 r1 hr => ?_⟩⟩
  · subst hb1
    refine ⟨hm0, ?_⟩
    have e := Int.emod_add_mul_ediv t m
    have : remF m t 1 = t % m := key _ (Int.emod_nonneg _ (by omega)) (Int.emod_lt_of_pos _ hm0) (by
      apply Int.emod_eq_zero_of_dvd
      exact ⟨-(t / m), by rw [Int.mul_neg]; omega⟩)
    rw [← this]; exact hk
  · walk_at "sx"
    have br : Bt 9000 r := hb.le (by omega)
    refine ⟨ht.mulOk br (by omega), hm0, ?_⟩
    have e := Int.emod_add_mul_ediv (t * r) m
    have : remF m t b = t * r % m := key _ (Int.emod_nonneg _ (by omega)) (Int.emod_lt_of_pos _ hm0) (by
      apply Int.emod_eq_zero_of_dvd
      have e2 : t * r % m * b - t = t * (r * b - 1) - m * (t * r / m * b) := by
        have : t * r % m = t * r - m * (t * r / m) := by omega
        rw [this]; grind
      rw [e2]
      exact Int.dvd_sub (Int.dvd_mul_of_dvd_right (Int.dvd_of_emod_eq_zero hr)) (Int.dvd_mul_right _ _))
    rw [← this]; exact hk

/-! ### maps -/
abbrev encRs (rs : List (Int × Int)) : D := .lst (rs.map encR)
abbrev mapD (rs : List (Int × Int)) : D := .obj 0 [.int rs.length, encRs rs]
/-- the rule p is one for the remainder r -/
def RuleOk (m r : Int) (p : Int × Int) : Prop := 1 ≤ p.1 ∧ Int.gcd p.1 m = 1 ∧ (p.1 * r + p.2) % m = 0
instance (m r : Int) (p : Int × Int) : Decidable (RuleOk m r p) := by unfold RuleOk; exact inferInstance
structure MapOk (rs : List (Int × Int)) : Prop where
  two : 2 ≤ rs.length
  few : rs.length ≤ 100000
  ok : ∀ (i : Nat) (p : Int × Int), rs[i]? = some p → RuleOk rs.length i p
  sz : ∀ p ∈ rs, Bt 1000000 p.1 ∧ Bt 1000000 p.2
def b_Map_modulus : SW := (sRet (eFld 0 0 (eLoc 0)))
def sp_Map_modulus : FSpec := fun args kr _ => ∃ rs, args = [.ro (mapD rs)] ∧ kr (.sh (.int rs.length)) []
theorem sat_Map_modulus : Sat 1 sp_Map_modulus b_Map_modulus := by
  rintro args mus kr kx hm ⟨rs, rfl, hk⟩
  obtain rfl := mus0 hm
  unfold b_Map_modulus
  walk_at "sx"
  exact hk
def b_Map_rules : SW := (sRet (eUn opList (eFld 0 1 (eLoc 0))))
def sp_Map_rules : FSpec := fun args kr _ => ∃ rs, args = [.ro (mapD rs)] ∧ kr (.fr (encRs rs)) []
theorem sat_Map_rules : Sat 1 sp_Map_rules b_Map_rules := by
  rintro args mus kr kx hm ⟨rs, rfl, hk⟩
  obtain rfl := mus0 hm
  unfold b_Map_rules
  walk_at "sx"
  exact hk
def b_check_fraction : SW := (sIf (tNotW (tVal (eCall 2 sp_is_good (agRo (eProp 0 sp_Map_modulus (eLoc 0)) (agRo (eLoc 1) agNil))))) sNever sNil)
def sp_check_fraction : FSpec := fun args kr _ => ∃ rs p, args = [.ro (mapD rs), .ro (encR p)] ∧ Good rs.length p ∧ kr (.sh .non) []
theorem sat_check_fraction : Sat 2 sp_check_fraction b_check_fraction := by
  rintro args mus kr kx hm ⟨rs, p, rfl, hg, hk⟩
  obtain rfl := mus0 hm
  unfold b_check_fraction
  walk_at "sx"
  refine ⟨rs, rfl, ?_⟩
  walk_at "sx"
  refine ⟨rs.length, p, rfl, ?_⟩
  walk_at "sx"
  simp [hg, hk]
theorem MapOk.bt {rs : List (Int × Int)} (h : MapOk rs) : Bt 9000 (rs.length : Int) := (Bt.small (x := rs.length) (by omega) (by have := h.few; omega)).mono (by omega)
def sp_remainder_of : FSpec := fun args kr _ => ∃ rs p, args = [.ro (mapD rs), .ro (encR p)] ∧ MapOk rs ∧ Good rs.length p ∧ Bt 90000000 p.1 ∧ kr (.sh (.int (remF rs.length p.1 p.2))) []
def b_is_rule : SW := (sSeq (sIf (tOrW (tVal (eBin opLt (eBin opIx (eLoc 2) (eC (.int 0))) (eC (.int 1)))) (tVal (eBin opNe (eCall 2 sp_gcd (agRo (eBin opIx (eLoc 2) (eC (.int 0))) (agRo (eLoc 0) agNil))) (eC (.int 1))))) (sRet (eC (.bl false))) sNil)
  (sRet (eBin opEq (eBin opMod (eBin opAdd (eBin opMul (eBin opIx (eLoc 2) (eC (.int 0))) (eLoc 1)) (eBin opIx (eLoc 2) (eC (.int 1)))) (eLoc 0)) (eC (.int 0)))))
def sp_is_rule : FSpec := fun args kr _ => ∃ (m r : Int) (p : Int × Int), args = [.ro (.int m), .ro (.int r), .ro (encR p)] ∧ 0 < m ∧ MulOk p.1 r ∧ kr (.sh (.bl (decide (RuleOk m r p)))) []
theorem sat_is_rule : Sat 3 sp_is_rule b_is_rule := by
  rintro args mus kr kx hm ⟨m, r, ⟨a, b⟩, rfl, hm0, ho, hk⟩
  obtain rfl := mus0 hm
  have ho : MulOk a r := ho
  unfold b_is_rule
  walk_at "sx"
  unfold RuleOk at hk
  refine ⟨fun h => ?_, fun h => ⟨a, m, rfl, ?_⟩⟩
  · have : ¬ (1 ≤ a ∧ Int.gcd a m = 1 ∧ (a * r + b) % m = 0) := fun z => by omega
    simpa [this] using hk
  · have h1 : 1 ≤ a := by omega
    walk_at "sx"
    simp only [cast1]
    refine ⟨fun h => ?_, fun h => ⟨ho, hm0, ?_⟩⟩
    · have : ¬ (1 ≤ a ∧ Int.gcd a m = 1 ∧ (a * r + b) % m = 0) := fun z => by simp [z.2.1] at h
      simpa [this] using hk
    · have h2 : Int.gcd a m = 1 := by simpa using h
      simpa [h1, h2] using hk
def b_Map_init : SW := (sSeq (sIf (tVal (eBin opLt (eLoc 1) (eC (.int 2)))) sNever sNil)
  (sSeq (sIf (tVal (eBin opNe (eUn opLen (eLoc 2)) (eLoc 1))) sNever sNil)
  (sSeq (sFor (iEnum (eLoc 2)) (gTp 2 (gCn (gN 3) (gCn (gN 4) gNl))) (sIf (tNotW (tVal (eCall 3 sp_is_rule (agRo (eLoc 1) (agRo (eLoc 3) (agRo (eLoc 4) agNil)))))) sNever sNil))
  (sSeq (sFld 0 0 0 (eLoc 1))
  (sFld 0 0 1 (eComp (iLst (eLoc 2)) (gN 4) tYesW (eTup (dCons (eBin opIx (eLoc 4) (eC (.int 0))) (dCons (eBin opIx (eLoc 4) (eC (.int 1))) dNil))) [4]))))))
def sp_Map_init : FSpec := fun args kr _ => ∃ rs, args = [.mu (.obj 0 []), .ro (.int rs.length), .ro (encRs rs)] ∧ MapOk rs ∧ kr (.sh .non) [mapD rs]
theorem line_big {n : Nat} (h : n ≤ 10000000) : n < sizeLine := Nat.lt_of_le_of_lt h (by decide)
theorem sat_Map_init : Sat 5 sp_Map_init b_Map_init := by
  rintro args mus kr kx hm ⟨rs, rfl, ho, hk⟩
  obtain ⟨a, rfl⟩ := mus1 hm
  have h2 := ho.two
  unfold b_Map_init
  walk_at "sx"
  refine ⟨fun h => by omega, fun _ => ?_⟩
  simp only [List.length_map]
  refine ⟨fun h => by simp at h, fun _ => ?_⟩
  unfold sFor iEnum
  walk_at "sx"
  simp only [List.length_map]
  refine ⟨fun i ρ => ∃ e3 e4, ρ = [.own true a (.obj 0 []), .sh (.int rs.length), .sh (encRs rs), e3, e4], ⟨_, _, rfl⟩, fun _ _ _ _ => trivial, ?_, ?_⟩
  · rintro i d ρ hi ⟨d0, hd0, rfl⟩ ⟨e3, e4, rfl⟩
    rw [List.getElem?_map] at hd0
    cases hp : rs[i]? with
    | none => rw [hp] at hd0; cases hd0
    | some p =>
      rw [hp] at hd0
      cases hd0
      walk_at "sx"
      have hr := ho.ok i p hp
      have hsz := ho.sz p (List.mem_of_getElem? hp)
      refine ⟨rs.length, i, p, rfl, by omega, hsz.1.mulOk (Bt.small (x := i) (by omega) (by have := ho.few; omega)) (by omega), ?_⟩
      walk_at "sx"
      simp [hr]
  · rintro ρ ⟨e3, e4, rfl⟩
    walk_at "sx"
    simp only [eComp, iLst, tYesW]
    walk_at "sx"
    simp only [List.length_map]
    refine ⟨fun i acc ρ => acc = (rs.take i).map encR ∧ ρ = [.own true a (.obj 0 [.int rs.length]), .sh (.int rs.length), .sh (encRs rs), e3, .no], ⟨by simp, rfl⟩, fun _ _ _ _ _ => trivial, ?_, ?_⟩
    · rintro i d acc ρ hi hd ⟨rfl, rfl⟩
      rw [List.getElem?_map] at hd
      cases hp : rs[i]? with
      | none => rw [hp] at hd; cases hd
      | some p =>
        rw [hp] at hd
        cases hd
        walk_at "sx"
        refine ⟨line_big (by have := ho.few; simp; omega), ?_⟩
        rw [List.take_succ, hp]
        simp
    · rintro acc ρ ⟨rfl, rfl⟩
      rw [List.take_length]
      walk_at "sx"
      exact hk
end TL

namespace TL
open PySem L2
local macro_rules | `(tactic| walk_at "sx") => `(tactic| simp only [sSeq, sNil, sSet, sFrz, frz_o, frz_sh, frz_s, sIf, sRet, sRetN, sPass, sBrk, sPar, sSub, sApp, sExpr, sAsg, sAug, sFld, sRevI, sPop, eLoc, eC, eUn, eBin, eAnd, eOr, eNot, eIf, eTup, eLst, dNil, dCons, tVal_eq, tstD_bl, tAndW, tOrW, tNotW, eFld_eq, eFldD_o, eProp, eMeth, eMeth0, eSl, pNone, pSome, sl_l,
  out_sh, out_fr, get_loc, get_sh, get_fr, getL_z, getL_o, getL_s, bound_z, bound_o, bound_s, isOwn_o, isOwn_s, pok_loc, pok_sh, pok_fr, stl_loc, stlS_sh, stlS_own, stl_sh, stl_fr, lay_fr, lay_sh, lay_loc, envOf, slotsOf, valN, ghOf, endK, resK, exMu, muN, List.cons_append, List.nil_append, List.append_nil, List.length_cons, List.length_nil, Nat.reduceAdd, Nat.reduceSub, List.replicate_succ, List.replicate_zero, List.replicate,
  List.getElem?_cons_zero, List.getElem?_cons_succ, List.getElem?_nil, List.set_cons_zero, List.set_cons_succ,
  add_ii, add_ss, add_ll, sub_ii, mul_ii, fdv_ii, fdvN_ii, mod_ii, modN_ii, pow_ii, lt_ii, le_ii, gt_ii, ge_ii, eq_ii, ne_ii, ix_li, ix_ti, neg_i, abs_i, int_i, int_b, max_ii, min_ii, len_l, len_t, list_l, list_t, rev_l, isi_int, isi_bl, isi_tup, isi_lst, isi_non, isN_i, isN_n, isN_t, isN_l, notN_i, notN_n, notN_t, notN_l, isTy,
  atI0, atI1, atI2, ixN0, ixN1, ixN2, some_inj_ex, isObj, setAt0, setAt1, setAt2, setAt3, restE, keepS, wipeE, ↓reduceIte, if_false, if_true,
  eCall, eCallP, eMake, pm, List.filterMap_cons, List.filterMap_nil, agNil, agRo, agBo, agMu, agTm, callK, boIx, muIx, tms, argsK, upE, reown, hasBo, noTm, flatRo, noLstAll, noLst, noLsts, List.nodup_nil, List.nodup_cons, List.not_mem_nil, not_false_eq_true, Nat.zero_le, Nat.le_refl, Nat.reduceLeDiff, List.mem_cons, or_false, reduceCtorEq,
  gN, gTp, gCn, gNl, iR1, iR2, iLst, iTpl, iEnum, stab,
  true_and, and_true, Bool.true_eq_false, Bool.false_eq_true, false_imp_iff, forall_const, true_imp_iff, and_self, decide_eq_true_eq, decide_eq_false_iff_not, Bool.not_eq_true', Bool.not_eq_false'])

abbrev src (x y z : Int) : D := .lst [.int x, .int y, .int z]
abbrev encZs (ns : List Int) : D := .lst (ns.map D.int)
def sp_law_source : FSpec := fun args kr _ => ∃ (ns : List Int) (k : Int), args = [.ro (encZs ns), .ro (.int k)] ∧ 0 ≤ k ∧ (∀ n ∈ ns, Bt 2000000 n) ∧ ns.length ≤ 1000 ∧ ∀ x y, kr (.fr (src x y 0)) []
theorem mulOk_small {a b : Int} (h : a.natAbs < 2 ^ 64) (hb : Bt 90000000 b) : MulOk a b := (show Bt 64 a from log2_lt_of h (by omega)).mulOk hb (by omega)
theorem bt_abs {n : Nat} {x : Int} (h : Bt n x) : Bt n (if x < 0 then -x else x) := by split; exact h.neg; exact h
/-- many draws leave the source a source -/
def sp_law_take : FSpec := fun args kr _ => ∃ x y z many N : Int, args = [.mu (src x y z), .ro (.int many)] ∧ 0 < many ∧ Bt 9000 many ∧ 0 ≤ z ∧ z ≤ N ∧ N ≤ 1000000000 ∧ ∀ t x' z', 0 ≤ t → t < many → 0 ≤ z' → z' ≤ N + 1 → kr (.sh (.int t)) [src x' y z']
end TL

namespace TL
open PySem L2
local macro_rules | `(tactic| walk_at "sx") => `(tactic| simp only [sSeq, sNil, sSet, sFrz, frz_o, frz_sh, frz_s, sIf, sRet, sRetN, sPass, sBrk, sPar, sSub, sApp, sExpr, sAsg, sAug, sFld, sRevI, sPop, eLoc, eC, eUn, eBin, eAnd, eOr, eNot, eIf, eTup, eLst, dNil, dCons, tVal_eq, tstD_bl, tAndW, tOrW, tNotW, eFld_eq, eFldD_o, eProp, eMeth, eMeth0, eSl, pNone, pSome, sl_l,
  out_sh, out_fr, get_loc, get_sh, get_fr, getL_z, getL_o, getL_s, bound_z, bound_o, bound_s, isOwn_o, isOwn_s, pok_loc, pok_sh, pok_fr, stl_loc, stlS_sh, stlS_own, stl_sh, stl_fr, lay_fr, lay_sh, lay_loc, envOf, slotsOf, valN, ghOf, endK, resK, exMu, muN, List.cons_append, List.nil_append, List.append_nil, List.length_cons, List.length_nil, Nat.reduceAdd, Nat.reduceSub, List.replicate_succ, List.replicate_zero, List.replicate,
  List.getElem?_cons_zero, List.getElem?_cons_succ, List.getElem?_nil, List.set_cons_zero, List.set_cons_succ,
  add_ii, add_ss, add_ll, sub_ii, mul_ii, fdv_ii, fdvN_ii, mod_ii, modN_ii, pow_ii, lt_ii, le_ii, gt_ii, ge_ii, eq_ii, ne_ii, ix_li, ix_ti, neg_i, abs_i, int_i, int_b, max_ii, min_ii, len_l, len_t, list_l, list_t, rev_l, isi_int, isi_bl, isi_tup, isi_lst, isi_non, isN_i, isN_n, isN_t, isN_l, notN_i, notN_n, notN_t, notN_l, isTy,
  atI0, atI1, atI2, ixN0, ixN1, ixN2, some_inj_ex, isObj, setAt0, setAt1, setAt2, setAt3, restE, keepS, wipeE, ↓reduceIte, if_false, if_true,
  eCall, eCallP, eMake, pm, List.filterMap_cons, List.filterMap_nil, agNil, agRo, agBo, agMu, agTm, callK, boIx, muIx, tms, argsK, upE, reown, hasBo, noTm, flatRo, noLstAll, noLst, noLsts, List.nodup_nil, List.nodup_cons, List.not_mem_nil, not_false_eq_true, Nat.zero_le, Nat.le_refl, Nat.reduceLeDiff, List.mem_cons, or_false, reduceCtorEq,
  gN, gTp, gCn, gNl, iR1, iR2, iLst, iTpl, iEnum, stab,
  true_and, and_true, Bool.true_eq_false, Bool.false_eq_true, false_imp_iff, forall_const, true_imp_iff, and_self, decide_eq_true_eq, decide_eq_false_iff_not, Bool.not_eq_true', Bool.not_eq_false'])

/-! ### numbers without a common divisor, a few steps down or up -/
end TL

namespace TL
open PySem L2
local macro_rules | `(tactic| walk_at "sx") => `(tactic| simp only [sSeq, sNil, sSet, sFrz, frz_o, frz_sh, frz_s, sIf, sRet, sRetN, sPass, sBrk, sPar, sSub, sApp, sExpr, sAsg, sAug, sFld, sRevI, sPop, eLoc, eC, eUn, eBin, eAnd, eOr, eNot, eIf, eTup, eLst, dNil, dCons, tVal_eq, tstD_bl, tAndW, tOrW, tNotW, eFld_eq, eFldD_o, eProp, eMeth, eMeth0, eSl, pNone, pSome, sl_l,
  out_sh, out_fr, get_loc, get_sh, get_fr, getL_z, getL_o, getL_s, bound_z, bound_o, bound_s, isOwn_o, isOwn_s, pok_loc, pok_sh, pok_fr, stl_loc, stlS_sh, stlS_own, stl_sh, stl_fr, lay_fr, lay_sh, lay_loc, envOf, slotsOf, valN, ghOf, endK, resK, exMu, muN, List.cons_append, List.nil_append, List.append_nil, List.length_cons, List.length_nil, Nat.reduceAdd, Nat.reduceSub, List.replicate_succ, List.replicate_zero, List.replicate,
  List.getElem?_cons_zero, List.getElem?_cons_succ, List.getElem?_nil, List.set_cons_zero, List.set_cons_succ,
  add_ii, add_ss, add_ll, sub_ii, mul_ii, fdv_ii, fdvN_ii, mod_ii, modN_ii, pow_ii, lt_ii, le_ii, gt_ii, ge_ii, eq_ii, ne_ii, ix_li, ix_ti, neg_i, abs_i, int_i, int_b, max_ii, min_ii, len_l, len_t, list_l, list_t, rev_l, isi_int, isi_bl, isi_tup, isi_lst, isi_non, isN_i, isN_n, isN_t, isN_l, notN_i, notN_n, notN_t, notN_l, isTy,
  atI0, atI1, atI2, ixN0, ixN1, ixN2, some_inj_ex, isObj, setAt0, setAt1, setAt2, setAt3, restE, keepS, wipeE, ↓reduceIte, if_false, if_true,
  eCall, eCallP, eMake, pm, List.filterMap_cons, List.filterMap_nil, agNil, agRo, agBo, agMu, agTm, callK, boIx, muIx, tms, argsK, upE, reown, hasBo, noTm, flatRo, noLstAll, noLst, noLsts, List.nodup_nil, List.nodup_cons, List.not_mem_nil, not_false_eq_true, Nat.zero_le, Nat.le_refl, Nat.reduceLeDiff, List.mem_cons, or_false, reduceCtorEq,
  gN, gTp, gCn, gNl, iR1, iR2, iLst, iTpl, iEnum, stab,
  true_and, and_true, Bool.true_eq_false, Bool.false_eq_true, false_imp_iff, forall_const, true_imp_iff, and_self, decide_eq_true_eq, decide_eq_false_iff_not, Bool.not_eq_true', Bool.not_eq_false'])

/-- rules drawn for a modulus: each fits its remainder -/
structure RulesOk (base : Nat) (rs : List (Int × Int)) : Prop where
  len : rs.length = base
  ok : ∀ (i : Nat) (p : Int × Int), rs[i]? = some p → RuleOk base i p ∧ p.1 ≤ 1000 ∧ Bt 600 p.2
theorem RulesOk.map {base : Nat} {rs : List (Int × Int)} (h : RulesOk base rs) (h2 : 2 ≤ base) (h6 : base ≤ 100000) : MapOk rs := by
  have hl := h.len
  refine ⟨by omega, by omega, fun i p e => by rw [hl]; exact (h.ok i p e).1, fun p hp => ?_⟩
  obtain ⟨i, hi⟩ := List.getElem?_of_mem hp
  have q := h.ok i p hi
  exact ⟨(Bt.small (by have := q.1.1; omega) (by omega)).mono (by omega), q.2.2.mono (by omega)⟩
theorem rule_fit {base a t r : Int} : (a * r + (base * t - a * r)) % base = 0 := by
  have : a * r + (base * t - a * r) = base * t := by omega
  rw [this, Int.mul_emod_right]
def sp_law_rules : FSpec := fun args kr _ => ∃ (x y z far N : Int) (base : Nat), args = [.mu (src x y z), .ro (.int base), .ro (.int far)] ∧ 2 ≤ base ∧ base ≤ 60 ∧ 1 ≤ far ∧ Bt 500 far ∧ 0 ≤ z ∧ z ≤ N ∧ N ≤ 10000000 ∧
  ∀ rs x' z', RulesOk base rs → 0 ≤ z' → z' ≤ N + 200 → kr (.fr (encRs rs)) [src x' y z']
theorem list3 {t a b c : Int} (h0 : 0 ≤ t) (h3 : t < 3) : ∃ l : Int, (l = a ∨ l = b ∨ l = c) ∧ L2.atI [D.int a, D.int b, D.int c] t = some (.int l) := by
  have : t = 0 ∨ t = 1 ∨ t = 2 := by omega
  rcases this with rfl | rfl | rfl
  · exact ⟨a, .inl rfl, rfl⟩
  · exact ⟨b, .inr (.inl rfl), rfl⟩
  · exact ⟨c, .inr (.inr rfl), rfl⟩
end TL

namespace TL
open PySem L2
local macro_rules | `(tactic| walk_at "sx") => `(tactic| simp only [sSeq, sNil, sSet, sFrz, frz_o, frz_sh, frz_s, sIf, sRet, sRetN, sPass, sBrk, sPar, sSub, sApp, sExpr, sAsg, sAug, sFld, sRevI, sPop, eLoc, eC, eUn, eBin, eAnd, eOr, eNot, eIf, eTup, eLst, dNil, dCons, tVal_eq, tstD_bl, tAndW, tOrW, tNotW, eFld_eq, eFldD_o, eProp, eMeth, eMeth0, eSl, pNone, pSome, sl_l,
  out_sh, out_fr, get_loc, get_sh, get_fr, getL_z, getL_o, getL_s, bound_z, bound_o, bound_s, isOwn_o, isOwn_s, pok_loc, pok_sh, pok_fr, stl_loc, stlS_sh, stlS_own, stl_sh, stl_fr, lay_fr, lay_sh, lay_loc, envOf, slotsOf, valN, ghOf, endK, resK, exMu, muN, List.cons_append, List.nil_append, List.append_nil, List.length_cons, List.length_nil, Nat.reduceAdd, Nat.reduceSub, List.replicate_succ, List.replicate_zero, List.replicate,
  List.getElem?_cons_zero, List.getElem?_cons_succ, List.getElem?_nil, List.set_cons_zero, List.set_cons_succ,
  add_ii, add_ss, add_ll, sub_ii, mul_ii, fdv_ii, fdvN_ii, mod_ii, modN_ii, pow_ii, lt_ii, le_ii, gt_ii, ge_ii, eq_ii, ne_ii, ix_li, ix_ti, neg_i, abs_i, int_i, int_b, max_ii, min_ii, len_l, len_t, list_l, list_t, rev_l, isi_int, isi_bl, isi_tup, isi_lst, isi_non, isN_i, isN_n, isN_t, isN_l, notN_i, notN_n, notN_t, notN_l, isTy,
  atI0, atI1, atI2, ixN0, ixN1, ixN2, some_inj_ex, isObj, setAt0, setAt1, setAt2, setAt3, restE, keepS, wipeE, ↓reduceIte, if_false, if_true,
  eCall, eCallP, eMake, pm, List.filterMap_cons, List.filterMap_nil, agNil, agRo, agBo, agMu, agTm, callK, boIx, muIx, tms, argsK, upE, reown, hasBo, noTm, flatRo, noLstAll, noLst, noLsts, List.nodup_nil, List.nodup_cons, List.not_mem_nil, not_false_eq_true, Nat.zero_le, Nat.le_refl, Nat.reduceLeDiff, List.mem_cons, or_false, reduceCtorEq,
  gN, gTp, gCn, gNl, iR1, iR2, iLst, iTpl, iEnum, stab,
  true_and, and_true, Bool.true_eq_false, Bool.false_eq_true, false_imp_iff, forall_const, true_imp_iff, and_self, decide_eq_true_eq, decide_eq_false_iff_not, Bool.not_eq_true', Bool.not_eq_false'])
def sp_law_good : FSpec := fun args kr _ => ∃ (x y z N : Int) (base : Nat), args = [.mu (src x y z), .ro (.int base)] ∧ 2 ≤ base ∧ base ≤ 60 ∧ 0 ≤ z ∧ z ≤ N ∧ N ≤ 10000000 ∧
  ∀ p x' z', Good base p → Bt 300 p.1 → Bt 300 p.2 → 0 ≤ z' → z' ≤ N + 20 → kr (.sh (encR p)) [src x' y z']
theorem gcd_div {a b : Int} (hb : 1 ≤ b) : 1 ≤ b / (Int.gcd a b : Int) ∧ Int.gcd (a / (Int.gcd a b : Int)) (b / (Int.gcd a b : Int)) = 1 := by
  have hg : 0 < Int.gcd a b := Int.gcd_pos_of_ne_zero_right _ (by omega)
  obtain ⟨c, hc⟩ := Int.gcd_dvd_right a b
  refine ⟨?_, Int.gcd_ediv_gcd_ediv_gcd hg⟩
  have e : b / (Int.gcd a b : Int) = c := Int.ediv_eq_of_eq_mul_right (by omega) hc
  rw [e]
  rcases Int.lt_or_le c 1 with h | h
  · have : (Int.gcd a b : Int) * c ≤ (Int.gcd a b : Int) * 0 := Int.mul_le_mul_of_nonneg_left (by omega) (by omega)
    omega
  · exact h
theorem gcd_of_dvd {a b m : Int} (h : a ∣ b) (hg : Int.gcd b m = 1) : Int.gcd a m = 1 := by
  have : Int.gcd a m ∣ Int.gcd b m := Int.gcd_dvd_gcd_of_dvd_left _ h
  rw [hg] at this
  exact Nat.dvd_one.mp this
def sp_law_is_integer : FSpec := fun args kr _ => ∃ n : Int, args = [.ro (.int n)] ∧ kr (.sh (.bl true)) []
end TL

namespace TL
open PySem L2
local macro_rules | `(tactic| walk_at "sx") => `(tactic| simp only [sSeq, sNil, sSet, sFrz, frz_o, frz_sh, frz_s, sIf, sRet, sRetN, sPass, sBrk, sPar, sSub, sApp, sExpr, sAsg, sAug, sFld, sRevI, sPop, eLoc, eC, eUn, eBin, eAnd, eOr, eNot, eIf, eTup, eLst, dNil, dCons, tVal_eq, tstD_bl, tAndW, tOrW, tNotW, eFld_eq, eFldD_o, eProp, eMeth, eMeth0, eSl, pNone, pSome, sl_l,
  out_sh, out_fr, get_loc, get_sh, get_fr, getL_z, getL_o, getL_s, bound_z, bound_o, bound_s, isOwn_o, isOwn_s, pok_loc, pok_sh, pok_fr, stl_loc, stlS_sh, stlS_own, stl_sh, stl_fr, lay_fr, lay_sh, lay_loc, envOf, slotsOf, valN, ghOf, endK, resK, exMu, muN, List.cons_append, List.nil_append, List.append_nil, List.length_cons, List.length_nil, Nat.reduceAdd, Nat.reduceSub, List.replicate_succ, List.replicate_zero, List.replicate,
  List.getElem?_cons_zero, List.getElem?_cons_succ, List.getElem?_nil, List.set_cons_zero, List.set_cons_succ,
  add_ii, add_ss, add_ll, sub_ii, mul_ii, fdv_ii, fdvN_ii, mod_ii, modN_ii, pow_ii, lt_ii, le_ii, gt_ii, ge_ii, eq_ii, ne_ii, ix_li, ix_ti, neg_i, abs_i, int_i, int_b, max_ii, min_ii, len_l, len_t, list_l, list_t, rev_l, isi_int, isi_bl, isi_tup, isi_lst, isi_non, isN_i, isN_n, isN_t, isN_l, notN_i, notN_n, notN_t, notN_l, isTy,
  atI0, atI1, atI2, ixN0, ixN1, ixN2, some_inj_ex, isObj, setAt0, setAt1, setAt2, setAt3, restE, keepS, wipeE, ↓reduceIte, if_false, if_true,
  eCall, eCallP, eMake, pm, List.filterMap_cons, List.filterMap_nil, agNil, agRo, agBo, agMu, agTm, callK, boIx, muIx, tms, argsK, upE, reown, hasBo, noTm, flatRo, noLstAll, noLst, noLsts, List.nodup_nil, List.nodup_cons, List.not_mem_nil, not_false_eq_true, Nat.zero_le, Nat.le_refl, Nat.reduceLeDiff, List.mem_cons, or_false, reduceCtorEq,
  gN, gTp, gCn, gNl, iR1, iR2, iLst, iTpl, iEnum, stab,
  true_and, and_true, Bool.true_eq_false, Bool.false_eq_true, false_imp_iff, forall_const, true_imp_iff, and_self, decide_eq_true_eq, decide_eq_false_iff_not, Bool.not_eq_true', Bool.not_eq_false'])
def b_law : SW := (sSeq (sSet 1 (eCall 2 sp_law_source (agRo (eLoc 0) (agRo (eC (.int 0)) agNil))))
  (sSeq (sFrz 2 (sSet 2 (eBin opAdd (eC (.int 2)) (eCall 2 sp_law_take (agMu 1 (agRo (eBin opIx (eLst (dCons (eC (.int 3)) (dCons (eC (.int 11)) (dCons (eC (.int 59)) dNil)))) (eCall 2 sp_law_take (agMu 1 (agRo (eC (.int 3)) agNil)))) agNil))))))
  (sSeq (sFrz 3 (sSet 3 (eCall 3 sp_law_rules (agMu 1 (agRo (eLoc 2) (agRo (eBin opPow (eC (.int 10)) (eC (.int 27))) agNil))))))
  (sSeq (sFrz 4 (sSet 4 (eMake 0 3 sp_Map_init (agRo (eLoc 2) (agRo (eUn opList (eLoc 3)) agNil)))))
  (sSeq (sSet 5 (eLst dNil))
  (sSeq (sFor (iR2 (dCons (eC (.int 1)) (dCons (eBin opMax2 (eC (.int 2)) (eBin opMin2 (eC (.int 31)) (eUn opLen (eLoc 0)))) dNil))) (gN 6) (sSeq (sFrz 7 (sSet 7 (eCall 2 sp_law_good (agTm (eCall 2 sp_law_source (agRo (eLoc 0) (agRo (eLoc 6) agNil))) (agRo (eLoc 2) agNil)))))
  (sSeq (sFrz 8 (sSet 8 (eCall 2 sp_remainder_of (agRo (eLoc 4) (agRo (eLoc 7) agNil)))))
  (sSeq (sIf (tOrW (tNotW (tVal (eCall 1 sp_law_is_integer (agRo (eLoc 8) agNil)))) (tOrW (tVal (eBin opLt (eLoc 8) (eC (.int 0)))) (tVal (eBin opGe (eLoc 8) (eLoc 2))))) (sRet (eC (.bl false))) sNil)
  (sSeq (sIf (tVal (eBin opNe (eBin opMod (eUn opInt (eBin opSub (eBin opMul (eLoc 8) (eBin opIx (eLoc 7) (eC (.int 1)))) (eBin opIx (eLoc 7) (eC (.int 0))))) (eLoc 2)) (eC (.int 0)))) (sRet (eC (.bl false))) sNil)
  (sApp 5 (eTup (dCons (eLoc 7) (dCons (eLoc 8) dNil)))))))))
  (sSeq (sFor (iLst (eUn opRev (eLoc 5))) (gTp 2 (gCn (gN 7) (gCn (gN 8) gNl))) (sIf (tVal (eBin opNe (eCallP 2 [0, 1] sp_remainder_of (agRo (eLoc 4) (agRo (eLoc 7) agNil))) (eLoc 8))) (sRet (eC (.bl false))) sNil))
  (sRet (eAnd (eBin opEq (eProp 0 sp_Map_modulus (eLoc 4)) (eLoc 2)) (eBin opEq (eProp 0 sp_Map_rules (eLoc 4)) (eLoc 3)))))))))))

theorem bez (a b : Nat) : ∃ u v : Int, u * a + v * b = Nat.gcd a b := by
  induction a, b using Nat.gcd.induction with
  | H0 n => exact ⟨0, 1, by simp⟩
  | H1 m n h ih =>
    obtain ⟨u, v, e⟩ := ih
    refine ⟨v - u * (n / m : Nat), u, ?_⟩
    rw [Nat.gcd_rec m n, ← e]
    have : ((n % m : Nat) : Int) = n - m * (n / m : Nat) := by
      have := Nat.mod_add_div n m
      omega
    rw [this]
    grind
theorem inv_ex {n m : Int} (hm : 0 < m) (hg : Int.gcd n m = 1) : ∃ u, m ∣ u * n - 1 := by
  obtain ⟨u, v, e⟩ := bez n.natAbs m.natAbs
  have h : Nat.gcd n.natAbs m.natAbs = 1 := hg
  rw [h] at e
  have em : (m.natAbs : Int) = m := by omega
  rw [em] at e
  rcases Int.natAbs_eq n with hn | hn
  · exact ⟨u, -v, by rw [hn]; grind⟩
  · refine ⟨-u, -v, ?_⟩
    have : n = -(n.natAbs : Int) := hn
    rw [this]; grind
theorem remF_spec {m t b : Int} (hm : 0 < m) (hg : Int.gcd b m = 1) : 0 ≤ remF m t b ∧ remF m t b < m ∧ (remF m t b * b - t) % m = 0 := by
  obtain ⟨u, hu⟩ := inv_ex hm hg
  have key : remF m t b = (t * u) % m := by
    refine remF_eq hm hg (Int.emod_nonneg _ (by omega)) (Int.emod_lt_of_pos _ hm) ?_
    apply Int.emod_eq_zero_of_dvd
    have e := Int.emod_add_mul_ediv (t * u) m
    have : (t * u) % m * b - t = t * (u * b - 1) - m * (t * u / m * b) := by
      have : (t * u) % m = t * u - m * (t * u / m) := by omega
      rw [this]; grind
    rw [this]
    exact Int.dvd_sub (Int.dvd_mul_of_dvd_right hu) (Int.dvd_mul_right _ _)
  refine ⟨by rw [key]; exact Int.emod_nonneg _ (by omega), by rw [key]; exact Int.emod_lt_of_pos _ hm, ?_⟩
  rw [key]
  apply Int.emod_eq_zero_of_dvd
  have e := Int.emod_add_mul_ediv (t * u) m
  have : (t * u) % m * b - t = t * (u * b - 1) - m * (t * u / m * b) := by
    have : (t * u) % m = t * u - m * (t * u / m) := by omega
    rw [this]; grind
  rw [this]
  exact Int.dvd_sub (Int.dvd_mul_of_dvd_right hu) (Int.dvd_mul_right _ _)

theorem eqDs_map {α : Type} [DecidableEq α] {f : α → D} (hf : ∀ a b, eqD (f a) (f b) = decide (a = b)) : ∀ xs ys : List α, eqDs (xs.map f) (ys.map f) = decide (xs = ys)
  | [], [] => rfl
  | [], y :: ys => rfl
  | x :: xs, [] => rfl
  | x :: xs, y :: ys => by
    have h1 := hf x y
    have h2 := eqDs_map hf xs ys
    have : eqDs ((x :: xs).map f) ((y :: ys).map f) = (eqD (f x) (f y) && eqDs (xs.map f) (ys.map f)) := rfl
    rw [this, h1, h2]
    simp
theorem okDs_map {α : Type} {n : Nat} {f : α → D} (hf : ∀ a, okD n (f a) = true) : ∀ xs : List α, okDs n (xs.map f) = true
  | [] => rfl
  | x :: xs => by
    have h1 := hf x
    have h2 := okDs_map hf xs
    have : okDs n ((x :: xs).map f) = (okD n (f x) && okDs n (xs.map f)) := rfl
    rw [this, h1, h2]; rfl
theorem eqD_encR (p q : Int × Int) : eqD (encR p) (encR q) = decide (p = q) := by
  have : eqD (encR p) (encR q) = (eqD (.int p.1) (.int q.1) && (eqD (.int p.2) (.int q.2) && true)) := rfl
  rw [this, eqD_int, eqD_int]
  rcases p with ⟨a, b⟩; rcases q with ⟨c, d⟩
  simp
theorem eqD_encRs (p q : List (Int × Int)) : eqD (encRs p) (encRs q) = decide (p = q) := eqDs_map eqD_encR p q
theorem okD_encR {n : Nat} (p : Int × Int) : okD (n + 1) (encR p) = true := rfl
theorem okD_encRs {n : Nat} (p : List (Int × Int)) : okD (n + 2) (encRs p) = true := okDs_map okD_encR p
theorem eq_rr {p q : List (Int × Int)} {k} : opEq (encRs p) (encRs q) k = k (.sh (.bl (decide (p = q)))) := by unfold opEq; rw [eqD_encRs, okD_encRs, okD_encRs]; exact propext ⟨fun h => h.2, fun h => ⟨⟨rfl, rfl⟩, h⟩⟩
theorem ne_rr {p q : List (Int × Int)} {k} : opNe (encRs p) (encRs q) k = k (.sh (.bl (!decide (p = q)))) := by unfold opNe; rw [eqD_encRs, okD_encRs, okD_encRs]; exact propext ⟨fun h => h.2, fun h => ⟨⟨rfl, rfl⟩, h⟩⟩
theorem ne_r {p q : Int × Int} {k} : opNe (encR p) (encR q) k = k (.sh (.bl (!decide (p = q)))) := by unfold opNe; rw [eqD_encR, okD_encR, okD_encR]; exact propext ⟨fun h => h.2, fun h => ⟨⟨rfl, rfl⟩, h⟩⟩

def sp_law : FSpec := fun args kr _ => ∃ ns : List Int, args = [.ro (encZs ns)] ∧ (∀ n ∈ ns, Bt 2000000 n) ∧ ns.length ≤ 1000 ∧ kr (.sh (.bl true)) []
theorem sat_law : Sat 9 sp_law b_law := by
  rintro args mus kr kx hm ⟨ns, rfl, hns, hln, hk⟩
  obtain rfl := mus0 hm
  have cp : CPow 10 27 := by unfold CPow; decide
  have e27 : (10 : Int) ^ (Int.toNat 27) = 1000000000000000000000000000 := by decide
  unfold b_law
  walk_at "sx"
  rw [e27]
  refine ⟨ns, 0, rfl, by omega, hns, hln, fun x y c => ?_⟩
  walk_at "sx"
  refine ⟨x, y, 0, 3, 0, rfl, by omega, by unfold Bt; decide, by omega, by omega, by omega, fun t x z ht0 ht hz0 hzN => ?_⟩
  walk_at "sx"
  obtain ⟨top, htop, en⟩ := list3 (a := 3) (b := 11) (c := 59) ht0 ht
  rw [en]
  refine ⟨_, rfl, ?_⟩
  have ht : 3 ≤ top ∧ top ≤ 59 := by omega
  refine ⟨x, y, z, top, 1, rfl, by omega, (Bt.small (by omega) (by omega)).mono (by omega), hz0, by omega, by omega, fun t x z ht0 ht hz0 hzN => ?_⟩
  walk_at "sx"
  obtain ⟨base, hbase⟩ := Int.eq_ofNat_of_zero_le (show 0 ≤ 2 + t by omega)
  rw [hbase]
  refine ⟨cp, x, y, z, 1000000000000000000000000000, 2, base, rfl, by omega, by omega, by omega, (Bt.of (n := 100) (by omega) (by omega) (by omega)).mono (by omega), hz0, by omega, by omega, fun rs x z hrs hz0 hzN c2 => ?_⟩
  walk_at "sx"
  have hmap := hrs.map (by omega) (by omega)
  have hlen := hrs.len
  refine ⟨rs, by rw [hlen], hmap, fun c5 => ?_⟩
  unfold sFor
  walk_at "sx"
  simp only [List.length_map]
  refine ⟨by split <;> split <;> omega, fun i ρ => ∃ (as : List (Int × Int)) (e6 e7 e8 : Sl), ρ = [.sh (encZs ns), .own false c (src x y z), .sh (.int base), .sh (encRs rs), .sh (mapD rs), .own false c5 (.lst (as.map fun p => .tup [encR p, .int (remF base p.1 p.2)])), e6, e7, e8] ∧
    as.length = i ∧ ∀ p ∈ as, Good base p ∧ Bt 300 p.1, ⟨[], _, _, _, rfl, rfl, by simp⟩, fun _ _ _ _ => trivial, ?_, ?_⟩
  · rintro i d ρ hi hd ⟨as, e6, e7, e8, rfl, hal, has⟩
    have hi : i < 31 := by revert hi; split <;> split <;> omega
    subst hd
    walk_at "sx"
    refine ⟨ns, 1 + i, rfl, by omega, hns, hln, fun x' y' c6 => ?_⟩
    walk_at "sx"
    refine ⟨x', y', 0, 0, base, rfl, by omega, by omega, by omega, by omega, by omega, fun p x2 z2 hg hbt hbt2 _ _ => ?_⟩
    walk_at "sx"
    refine ⟨rs, p, rfl, hmap, by rw [hlen]; exact hg, hbt.mono (by omega), ?_⟩
    rw [hlen]
    walk_at "sx"
    refine ⟨_, rfl, ?_⟩
    walk_at "sx"
    obtain ⟨r0, r1, r2⟩ := remF_spec (t := p.1) (by omega) hg.2.2
    refine ⟨fun h => by omega, fun h => ⟨fun h => by omega, fun h => ?_⟩⟩
    have br : Bt 100 (remF base p.1 p.2) := (Bt.small (by omega) (by omega)).mono (by omega)
    refine ⟨br.mulOk hbt2 (by omega), by omega, fun h => absurd r2 h, fun _ => ⟨⟨_, _, _, rfl⟩, line_big (by simp; omega), as ++ [p], .sh (.int (1 + i)), .sh (encR p), .sh (.int (remF base p.1 p.2)), by simp, by simp; omega, ?_⟩⟩
    intro q hq
    rcases List.mem_append.mp hq with h | h
    · exact has q h
    · rw [List.mem_singleton.mp h]; exact ⟨hg, hbt⟩
  · rintro ρ ⟨as, e6, e7, e8, rfl, hal, has⟩
    walk_at "sx"
    refine ⟨fun i ρ => ∃ (e6 e7 e8 : Sl), ρ = [.sh (encZs ns), .own false c (src x y z), .sh (.int base), .sh (encRs rs), .sh (mapD rs), .own false c5 (.lst (as.map fun p => .tup [encR p, .int (remF base p.1 p.2)])), e6, e7, e8], ⟨_, _, _, rfl⟩, fun _ _ _ _ => trivial, ?_, ?_⟩
    · rintro i d ρ hi hd ⟨e6, e7, e8, rfl⟩
      rw [← List.map_reverse, List.getElem?_map] at hd
      cases hp : as.reverse[i]? with
      | none => rw [hp] at hd; cases hd
      | some p =>
        rw [hp] at hd
        cases hd
        have hpp := has p (List.mem_reverse.mp (List.mem_of_getElem? hp))
        walk_at "sx"
        refine ⟨rs, p, rfl, hmap, by rw [hlen]; exact hpp.1, hpp.2.mono (by omega), ?_⟩
        rw [hlen]
        walk_at "sx"
        simp
    · rintro ρ ⟨e6, e7, e8, rfl⟩
      walk_at "sx"
      refine ⟨rs, rfl, ?_⟩
      walk_at "sx"
      rw [hlen]
      simp only [decide_true, Bool.true_eq_false, forall_const, false_imp_iff, and_true]
      refine ⟨⟨rs, rfl, ?_⟩, fun h => absurd trivial h⟩
      walk_at "sx"
      rw [eq_rr, decide_eq_true rfl]
      walk_at "sx"
      exact hk
end TL

namespace TL
open PySem L2
local macro_rules | `(tactic| walk_at "sx") => `(tactic| simp only [sSeq, sNil, sSet, sFrz, frz_o, frz_sh, frz_s, sIf, sRet, sRetN, sPass, sBrk, sPar, sSub, sApp, sExpr, sAsg, sAug, sFld, sRevI, sPop, eLoc, eC, eUn, eBin, eAnd, eOr, eNot, eIf, eTup, eLst, dNil, dCons, tVal_eq, tstD_bl, tAndW, tOrW, tNotW, eFld_eq, eFldD_o, eProp, eMeth, eMeth0, eSl, pNone, pSome, sl_l,
  out_sh, out_fr, get_loc, get_sh, get_fr, getL_z, getL_o, getL_s, bound_z, bound_o, bound_s, isOwn_o, isOwn_s, pok_loc, pok_sh, pok_fr, stl_loc, stlS_sh, stlS_own, stl_sh, stl_fr, lay_fr, lay_sh, lay_loc, envOf, slotsOf, valN, ghOf, endK, resK, exMu, muN, List.cons_append, List.nil_append, List.append_nil, List.length_cons, List.length_nil, Nat.reduceAdd, Nat.reduceSub, List.replicate_succ, List.replicate_zero, List.replicate,
  List.getElem?_cons_zero, List.getElem?_cons_succ, List.getElem?_nil, List.set_cons_zero, List.set_cons_succ,
  add_ii, add_ss, add_ll, sub_ii, mul_ii, fdv_ii, fdvN_ii, mod_ii, modN_ii, pow_ii, lt_ii, le_ii, gt_ii, ge_ii, eq_ii, ne_ii, ix_li, ix_ti, neg_i, abs_i, int_i, int_b, max_ii, min_ii, len_l, len_t, list_l, list_t, rev_l, isi_int, isi_bl, isi_tup, isi_lst, isi_non, isN_i, isN_n, isN_t, isN_l, notN_i, notN_n, notN_t, notN_l, isTy,
  atI0, atI1, atI2, ixN0, ixN1, ixN2, some_inj_ex, isObj, setAt0, setAt1, setAt2, setAt3, restE, keepS, wipeE, ↓reduceIte, if_false, if_true,
  eCall, eCallP, eMake, pm, List.filterMap_cons, List.filterMap_nil, agNil, agRo, agBo, agMu, agTm, callK, boIx, muIx, tms, argsK, upE, reown, hasBo, noTm, flatRo, noLstAll, noLst, noLsts, List.nodup_nil, List.nodup_cons, List.not_mem_nil, not_false_eq_true, Nat.zero_le, Nat.le_refl, Nat.reduceLeDiff, List.mem_cons, or_false, reduceCtorEq,
  gN, gTp, gCn, gNl, iR1, iR2, iLst, iTpl, iEnum, stab,
  true_and, and_true, Bool.true_eq_false, Bool.false_eq_true, false_imp_iff, forall_const, true_imp_iff, and_self, decide_eq_true_eq, decide_eq_false_iff_not, Bool.not_eq_true', Bool.not_eq_false'])
def stepF (rs : List (Int × Int)) (p : Int × Int) : Int × Int :=
  ((((rs.getD (remF rs.length p.1 p.2).toNat (1, 0)).1 * p.1 + (rs.getD (remF rs.length p.1 p.2).toNat (1, 0)).2 * p.2) / rs.length) / (Int.gcd (((rs.getD (remF rs.length p.1 p.2).toNat (1, 0)).1 * p.1 + (rs.getD (remF rs.length p.1 p.2).toNat (1, 0)).2 * p.2) / rs.length) p.2 : Int),
   p.2 / (Int.gcd (((rs.getD (remF rs.length p.1 p.2).toNat (1, 0)).1 * p.1 + (rs.getD (remF rs.length p.1 p.2).toNat (1, 0)).2 * p.2) / rs.length) p.2 : Int))
def walkF (rs : List (Int × Int)) : Nat → Int × Int → Int × Int
  | 0, p => p
  | n + 1, p => stepF rs (walkF rs n p)
theorem walkF_add (rs : List (Int × Int)) (m : Nat) (p : Int × Int) : ∀ n, walkF rs n (walkF rs m p) = walkF rs (m + n) p
  | 0 => rfl
  | n + 1 => by
    show stepF rs (walkF rs n (walkF rs m p)) = stepF rs (walkF rs (m + n) p)
    rw [walkF_add rs m p n]
theorem stepF_good {rs : List (Int × Int)} {p : Int × Int} {m : Int} (h : Good m p) : Good m (stepF rs p) := by
  obtain ⟨h1, h2, h3⟩ := h
  have g := gcd_div (a := ((rs.getD (remF rs.length p.1 p.2).toNat (1, 0)).1 * p.1 + (rs.getD (remF rs.length p.1 p.2).toNat (1, 0)).2 * p.2) / rs.length) h1
  exact ⟨g.1, g.2, gcd_of_dvd (Int.ediv_dvd_of_dvd (Int.gcd_dvd_right _ _)) h3⟩
theorem walkF_good {rs : List (Int × Int)} {p : Int × Int} {m : Int} (h : Good m p) : ∀ n, Good m (walkF rs n p)
  | 0 => h
  | n + 1 => stepF_good (walkF_good h n)
theorem stepF_bot {rs : List (Int × Int)} {p : Int × Int} {n : Nat} (h : Bt n p.2) : Bt n (stepF rs p).2 := h.le (Int.natAbs_ediv_le_natAbs _ _)
theorem walkF_bot {rs : List (Int × Int)} {p : Int × Int} {n : Nat} (h : Bt n p.2) : ∀ k, Bt n (walkF rs k p).2
  | 0 => h
  | k + 1 => stepF_bot (walkF_bot h k)
def sp_lowest : FSpec := fun args kr _ => ∃ t b : Int, args = [.ro (.int t), .ro (.int b)] ∧ ((1 ≤ b ∧ Bt 8000 b ∧ kr (.sh (encR (t / (Int.gcd t b : Int), b / (Int.gcd t b : Int)))) []) ∨ (b < 0 ∧ Bt 8000 b ∧ kr (.sh (encR (-t / (Int.gcd (-t) (-b) : Int), -b / (Int.gcd (-t) (-b) : Int)))) []))
theorem DivOk.gcd {t b : Int} (h1 : 1 ≤ b) (h : Bt 8000 b) : DivOk (Int.gcd t b : Int) := by
  have gp : 0 < Int.gcd t b := Int.gcd_pos_of_ne_zero_right _ (by omega)
  have gl : (Int.gcd t b : Int) ≤ b := Int.le_of_dvd (by omega) (Int.gcd_dvd_right _ _)
  exact DivOk.of (by omega) (h.le (by omega)) (by omega)
/- lowest: 0:top 1:bottom 2:common -/
def b_lowest : SW := (sSeq (sIf (tVal (eBin opLt (eLoc 1) (eC (.int 0)))) (sSeq (sSet 0 (eUn opNeg (eLoc 0)))
  (sSet 1 (eUn opNeg (eLoc 1)))) sNil)
  (sSeq (sFrz 2 (sSet 2 (eCall 2 sp_gcd (agRo (eLoc 0) (agRo (eLoc 1) agNil)))))
  (sRet (eTup (dCons (eBin opFdv (eLoc 0) (eLoc 2)) (dCons (eBin opFdv (eLoc 1) (eLoc 2)) dNil))))))
theorem sat_lowest : Sat 3 sp_lowest b_lowest := by
  rintro args mus kr kx hm ⟨t, b, rfl, ⟨h1, hb, hk⟩ | ⟨h1, hb, hk⟩⟩
  · obtain rfl := mus0 hm
    unfold b_lowest
    walk_at "sx"
    refine ⟨fun h => absurd h (by omega), fun _ => ⟨t, b, rfl, ?_⟩⟩
    walk_at "sx"
    exact ⟨DivOk.gcd h1 hb, DivOk.gcd h1 hb, hk⟩
  · obtain rfl := mus0 hm
    have h2 : 1 ≤ -b := by omega
    have hb2 : Bt 8000 (-b) := hb.le (by omega)
    unfold b_lowest
    walk_at "sx"
    refine ⟨fun _ => ⟨-t, -b, rfl, ?_⟩, fun h => absurd h1 h⟩
    walk_at "sx"
    exact ⟨DivOk.gcd h2 hb2, DivOk.gcd h2 hb2, hk⟩
def sp_stepped : FSpec := fun args kr _ => ∃ rs p, args = [.ro (.int (rs.length : Nat)), .ro (encRs rs), .ro (encR p)] ∧ MapOk rs ∧ Good rs.length p ∧ Bt 80000000 p.1 ∧ Bt 8000 p.2 ∧ kr (.sh (encR (stepF rs p))) []
theorem atI_map {α : Type} {f : α → D} {rs : List α} {i : Int} {x : α} (h0 : 0 ≤ i) (h1 : i < rs.length) : L2.atI (rs.map f) i = some (f (rs.getD i.toNat x)) := by
  rw [atI_int h0 (by simpa using h1)]
  simp only [List.getElem_map]
  rw [List.getD_eq_getElem?_getD, List.getElem?_eq_getElem (by omega)]
  rfl
theorem mem_getD {α : Type} {rs : List α} {i : Int} {x : α} (h0 : 0 ≤ i) (h1 : i < rs.length) : rs.getD i.toNat x ∈ rs := by
  rw [List.getD_eq_getElem?_getD, List.getElem?_eq_getElem (by omega)]
  exact List.getElem_mem _
theorem MapOk.pos {rs : List (Int × Int)} (h : MapOk rs) : 0 < (rs.length : Int) := by have := h.two; omega
theorem MapOk.div {rs : List (Int × Int)} (h : MapOk rs) : DivOk (rs.length : Int) := DivOk.of h.pos h.bt (by omega)
/- stepped: 0:modulus 1:rules 2:number 3:top 4:bottom 5:a 6:b -/
def b_stepped : SW := (sSeq (sAsg (eLoc 2) (gTp 2 (gCn (gN 3) (gCn (gN 4) gNl))))
  (sSeq (sAsg (eBin opIx (eLoc 1) (eCall 2 sp_remainder_by (agRo (eLoc 0) (agRo (eLoc 2) agNil)))) (gTp 2 (gCn (gN 5) (gCn (gN 6) gNl))))
  (sRet (eCall 2 sp_lowest (agRo (eBin opFdv (eBin opAdd (eBin opMul (eLoc 5) (eLoc 3)) (eBin opMul (eLoc 6) (eLoc 4))) (eLoc 0)) (agRo (eLoc 4) agNil))))))
theorem sat_stepped : Sat 7 sp_stepped b_stepped := by
  rintro args mus kr kx hm ⟨rs, p, rfl, ho, hg, ht, hb, hk⟩
  obtain rfl := mus0 hm
  unfold b_stepped
  walk_at "sx"
  refine ⟨rs.length, p, rfl, ho.pos, hg.2.2, ho.bt, ht.mono (by omega), ?_⟩
  walk_at "sx"
  obtain ⟨r0, r1, _⟩ := remF_spec (t := p.1) ho.pos hg.2.2
  rw [atI_map (x := (1, 0)) r0 r1]
  refine ⟨_, rfl, ?_⟩
  walk_at "sx"
  have hs := ho.sz _ (mem_getD (x := (1, 0)) r0 r1)
  exact ⟨hs.1.mulOk ht (by omega), hs.2.mulOk hb (by omega), ho.div, _, _, rfl, .inl ⟨hg.1, hb, hk⟩⟩
def sp_check_number : FSpec := fun args kr _ => ∃ a b : Int, args = [.ro (.int a), .ro (.int b)] ∧ b ≤ a ∧ kr (.sh .non) []
/- check_number: 0:number 1:least -/
def b_check_number : SW := (sIf (tVal (eBin opLt (eLoc 0) (eLoc 1))) sNever sNil)
theorem sat_check_number : Sat 2 sp_check_number b_check_number := by
  rintro args mus kr kx hm ⟨a, b, rfl, h, hk⟩
  obtain rfl := mus0 hm
  unfold b_check_number
  walk_at "sx"
  exact ⟨fun z => absurd z (by omega), fun _ => hk⟩
abbrev trk (rs : List (Int × Int)) (p : Int × Int) (n : Nat) : List (Int × Int) := (List.range n).map fun i => walkF rs i p
theorem trk_succ (rs : List (Int × Int)) (p : Int × Int) (n : Nat) : encRs (trk rs p (n + 1)) = .lst ((trk rs p n).map encR ++ [encR (walkF rs n p)]) := by
  unfold encRs trk
  rw [List.range_succ, List.map_append, List.map_append]
  rfl
theorem atI_last {α : Type} {xs : List α} {x : α} : L2.atI (xs ++ [x]) (-1) = some x := by
  unfold L2.atI ixN
  rw [if_neg (by omega), if_pos (by simp; omega)]
  show (xs ++ [x])[(-1 + ((xs ++ [x]).length : Int)).toNat]? = _
  have : (-1 + ((xs ++ [x]).length : Int)).toNat = xs.length := by simp; omega
  rw [this, List.getElem?_append_right (Nat.le_refl _)]
  simp
theorem trk_last (rs : List (Int × Int)) (p : Int × Int) (i : Nat) : L2.atI ((trk rs p (i + 1)).map encR) (-1) = some (encR (walkF rs i p)) := by
  have h := trk_succ rs p i
  injection h with h
  rw [h]
  exact atI_last
def sp_walk : FSpec := fun args kr _ => ∃ rs p, ∃ n : Nat, args = [.ro (mapD rs), .ro (encR p), .ro (.int n)] ∧ MapOk rs ∧ Good rs.length p ∧ (∀ i, i ≤ n → Bt 80000000 (walkF rs i p).1) ∧ Bt 8000 p.2 ∧ n ≤ 100000 ∧ kr (.fr (encRs (trk rs p (n + 1)))) []
/- walk: 0:rule_map 1:number 2:steps 3:modulus 4:rules 5:found 6:turn -/
def b_walk : SW := (sSeq (sExpr (eCall 2 sp_check_fraction (agRo (eLoc 0) (agRo (eLoc 1) agNil))))
  (sSeq (sExpr (eCall 2 sp_check_number (agRo (eLoc 2) (agRo (eC (.int 0)) agNil))))
  (sSeq (sFrz 3 (sSet 3 (eProp 0 sp_Map_modulus (eLoc 0))))
  (sSeq (sFrz 4 (sSet 4 (eProp 0 sp_Map_rules (eLoc 0))))
  (sSeq (sSet 5 (eLst (dCons (eLoc 1) dNil)))
  (sSeq (sFor (iR1 (dCons (eLoc 2) dNil)) (gN 6) (sApp 5 (eCall 3 sp_stepped (agRo (eLoc 3) (agRo (eLoc 4) (agRo (eBin opIx (eLoc 5) (eUn opNeg (eC (.int 1)))) agNil))))))
  (sRet (eLoc 5))))))))
theorem sat_walk : Sat 7 sp_walk b_walk := by
  rintro args mus kr kx hm ⟨rs, p, n, rfl, ho, hg, ht, hb, hn, hk⟩
  obtain rfl := mus0 hm
  unfold b_walk
  walk_at "sx"
  refine ⟨rs, p, rfl, hg, ?_⟩
  walk_at "sx"
  refine ⟨n, 0, rfl, by omega, ?_⟩
  walk_at "sx"
  refine ⟨rs, rfl, ?_⟩
  walk_at "sx"
  refine ⟨rs, rfl, ?_⟩
  walk_at "sx"
  intro c
  unfold sFor
  walk_at "sx"
  refine ⟨by omega, fun i ρ => ∃ e6, ρ = [.sh (mapD rs), .sh (encR p), .sh (.int n), .sh (.int rs.length), .sh (encRs rs), .own false c (encRs (trk rs p (i + 1))), e6], ⟨_, rfl⟩, fun _ _ _ _ => trivial, ?_, ?_⟩
  · rintro i d ρ hi rfl ⟨e6, rfl⟩
    have hi : i < n := by simpa using hi
    walk_at "sx"
    refine ⟨⟨_, _, _, rfl⟩, _, trk_last rs p i, rs, walkF rs i p, rfl, ho, walkF_good hg i, ht i (by omega), walkF_bot hb i, ?_⟩
    walk_at "sx"
    refine ⟨line_big (by simp; omega), .sh (.int i), ?_⟩
    rw [trk_succ rs p (i + 1)]
    rfl
  · rintro ρ ⟨e6, rfl⟩
    walk_at "sx"
    exact hk
/- after: 0:rule_map 1:number 2:steps -/
/-! ### the law's own steps -/
def sp_law_step : FSpec := fun args kr _ => ∃ rs p, args = [.ro (.int (rs.length : Nat)), .ro (encRs rs), .ro (encR p)] ∧ MapOk rs ∧ Good rs.length p ∧ Bt 80000000 p.1 ∧ Bt 8000 p.2 ∧ kr (.sh (.tup [encR (stepF rs p), .int (remF rs.length p.1 p.2)])) []
/- _law_step: 0:base 1:rules 2:value 3:top 4:bottom 5:spot 6:remainder 7:a 8:b 9:common -/
abbrev trkP (rs : List (Int × Int)) (p : Int × Int) (n : Nat) : List D := (List.range n).map fun i => .int (remF rs.length (walkF rs i p).1 (walkF rs i p).2)
theorem trkP_succ (rs : List (Int × Int)) (p : Int × Int) (n : Nat) : trkP rs p (n + 1) = trkP rs p n ++ [.int (remF rs.length (walkF rs n p).1 (walkF rs n p).2)] := by
  unfold trkP
  rw [List.range_succ, List.map_append]
  rfl
def sp_law_walked : FSpec := fun args kr _ => ∃ rs p, ∃ n : Nat, args = [.ro (.int (rs.length : Nat)), .ro (encRs rs), .ro (encR p), .ro (.int n)] ∧ MapOk rs ∧ Good rs.length p ∧ (∀ i, i ≤ n → Bt 80000000 (walkF rs i p).1) ∧ Bt 8000 p.2 ∧ n ≤ 100000 ∧ kr (.sh (.tup [encRs (trk rs p (n + 1)), .lst (trkP rs p n)])) []
/- _law_walked: 0:base 1:rules 2:value 3:count 4:places 5:path 6:turn 7:spot -/
def b_law_walked : SW := (sSeq (sSet 4 (eLst (dCons (eLoc 2) dNil)))
  (sSeq (sSet 5 (eLst dNil))
  (sSeq (sFor (iR1 (dCons (eLoc 3) dNil)) (gN 6) (sSeq (sAsg (eCall 3 sp_law_step (agRo (eLoc 0) (agRo (eLoc 1) (agRo (eLoc 2) agNil)))) (gTp 2 (gCn (gN 2) (gCn (gN 7) gNl))))
  (sSeq (sApp 4 (eLoc 2))
  (sApp 5 (eLoc 7)))))
  (sRet (eTup (dCons (eLoc 4) (dCons (eLoc 5) dNil)))))))
theorem sat_law_walked : Sat 8 sp_law_walked b_law_walked := by
  rintro args mus kr kx hm ⟨rs, p, n, rfl, ho, hg, ht, hb, hn, hk⟩
  obtain rfl := mus0 hm
  unfold b_law_walked
  unfold sFor
  walk_at "sx"
  intro c1 c2
  refine ⟨by omega, fun i ρ => ∃ e6 e7, ρ = [.sh (.int rs.length), .sh (encRs rs), .sh (encR (walkF rs i p)), .sh (.int n), .own false c1 (encRs (trk rs p (i + 1))), .own false c2 (.lst (trkP rs p i)), e6, e7], ⟨_, _, rfl⟩, fun _ _ _ _ => trivial, ?_, ?_⟩
  · rintro i d ρ hi rfl ⟨e6, e7, rfl⟩
    have hi : i < n := by simpa using hi
    walk_at "sx"
    refine ⟨rs, walkF rs i p, rfl, ho, walkF_good hg i, ht i (by omega), walkF_bot hb i, ?_⟩
    walk_at "sx"
    refine ⟨⟨_, _, _, rfl⟩, line_big (by simp; omega), ⟨_, _, _, rfl⟩, line_big (by simp; omega), .sh (.int i), .sh (.int (remF rs.length (walkF rs i p).1 (walkF rs i p).2)), ?_⟩
    rw [trk_succ rs p (i + 1), trkP_succ]
    rfl
  · rintro ρ ⟨e6, e7, rfl⟩
    walk_at "sx"
    exact hk
/- _law_is_pair: 0:value -/
theorem get_map {α β : Type} {f : α → β} {rs : List α} {i : Nat} {d : β} (h : (rs.map f)[i]? = some d) : ∃ p, rs[i]? = some p ∧ d = f p := by
  rw [List.getElem?_map] at h
  cases hp : rs[i]? with
  | none => rw [hp] at h; cases h
  | some p => rw [hp] at h; cases h; exact ⟨p, rfl, rfl⟩
/- _law_are_pairs: 0:value 1:many 2:entry -/
end TL

namespace TL
open PySem L2
local macro_rules | `(tactic| walk_at "sx") => `(tactic| simp only [sSeq, sNil, sSet, sFrz, frz_o, frz_sh, frz_s, sIf, sRet, sRetN, sPass, sBrk, sPar, sSub, sApp, sExpr, sAsg, sAug, sFld, sRevI, sPop, eLoc, eC, eUn, eBin, eAnd, eOr, eNot, eIf, eTup, eLst, dNil, dCons, tVal_eq, tstD_bl, tAndW, tOrW, tNotW, eFld_eq, eFldD_o, eProp, eMeth, eMeth0, eSl, pNone, pSome, sl_l,
  out_sh, out_fr, get_loc, get_sh, get_fr, getL_z, getL_o, getL_s, bound_z, bound_o, bound_s, isOwn_o, isOwn_s, pok_loc, pok_sh, pok_fr, stl_loc, stlS_sh, stlS_own, stl_sh, stl_fr, lay_fr, lay_sh, lay_loc, envOf, slotsOf, valN, ghOf, endK, resK, exMu, muN, List.cons_append, List.nil_append, List.append_nil, List.length_cons, List.length_nil, Nat.reduceAdd, Nat.reduceSub, List.replicate_succ, List.replicate_zero, List.replicate,
  List.getElem?_cons_zero, List.getElem?_cons_succ, List.getElem?_nil, List.set_cons_zero, List.set_cons_succ,
  add_ii, add_ss, add_ll, sub_ii, mul_ii, fdv_ii, fdvN_ii, mod_ii, modN_ii, pow_ii, lt_ii, le_ii, gt_ii, ge_ii, eq_ii, ne_ii, ix_li, ix_ti, neg_i, abs_i, int_i, int_b, max_ii, min_ii, len_l, len_t, list_l, list_t, rev_l, isi_int, isi_bl, isi_tup, isi_lst, isi_non, isN_i, isN_n, isN_t, isN_l, notN_i, notN_n, notN_t, notN_l, isTy,
  atI0, atI1, atI2, ixN0, ixN1, ixN2, some_inj_ex, isObj, setAt0, setAt1, setAt2, setAt3, restE, keepS, wipeE, ↓reduceIte, if_false, if_true,
  eCall, eCallP, eMake, pm, List.filterMap_cons, List.filterMap_nil, agNil, agRo, agBo, agMu, agTm, callK, boIx, muIx, tms, argsK, upE, reown, hasBo, noTm, flatRo, noLstAll, noLst, noLsts, List.nodup_nil, List.nodup_cons, List.not_mem_nil, not_false_eq_true, Nat.zero_le, Nat.le_refl, Nat.reduceLeDiff, List.mem_cons, or_false, reduceCtorEq,
  gN, gTp, gCn, gNl, iR1, iR2, iLst, iTpl, iEnum, stab,
  true_and, and_true, Bool.true_eq_false, Bool.false_eq_true, false_imp_iff, forall_const, true_imp_iff, and_self, decide_eq_true_eq, decide_eq_false_iff_not, Bool.not_eq_true', Bool.not_eq_false'])
/-! ### sizes along a walk -/
theorem step_size {base : Nat} {rs : List (Int × Int)} {p : Int × Int} {n : Nat} (hr : RulesOk base rs) (h2 : 2 ≤ base) (hg : Good rs.length p) (h1 : Bt n p.1) (hb : Bt 300 p.2) (hn : 1000 ≤ n) : Bt (n + 50) (stepF rs p).1 := by
  obtain ⟨r0, r1, _⟩ := remF_spec (t := p.1) (m := rs.length) (by rw [hr.len]; omega) hg.2.2
  have hm := List.getElem?_of_mem (mem_getD (x := ((1 : Int), (0 : Int))) r0 r1)
  obtain ⟨i, hi⟩ := hm
  have q := hr.ok i _ hi
  have ba : Bt 40 (rs.getD (remF rs.length p.1 p.2).toNat (1, 0)).1 := Bt.small (by have := q.1.1; omega) (by omega)
  have b1 := (ba.mul h1).mono (show 40 + n ≤ 40 + n from Nat.le_refl _)
  have b2 := (q.2.2.mul hb).mono (show 600 + 300 ≤ 40 + n by omega)
  have b3 := b1.add b2
  exact ((b3.le (Int.natAbs_ediv_le_natAbs _ _)).le (Int.natAbs_ediv_le_natAbs _ _)).mono (by omega)
namespace K14
/- _law_right: 0:chart 1:base 2:rules 3:value 4:count 5:found 6:last 7:kept 8:half -/
/- law: 0:script 1:source 2:base 3:rules 4:chart 5:k 6:value 7:count -/
end K14
end TL

namespace TL
open PySem L2
local macro_rules | `(tactic| walk_at "sx") => `(tactic| simp only [sSeq, sNil, sSet, sFrz, frz_o, frz_sh, frz_s, sIf, sRet, sRetN, sPass, sBrk, sPar, sSub, sApp, sExpr, sAsg, sAug, sFld, sRevI, sPop, eLoc, eC, eUn, eBin, eAnd, eOr, eNot, eIf, eTup, eLst, dNil, dCons, tVal_eq, tstD_bl, tAndW, tOrW, tNotW, eFld_eq, eFldD_o, eProp, eMeth, eMeth0, eSl, pNone, pSome, sl_l,
  out_sh, out_fr, get_loc, get_sh, get_fr, getL_z, getL_o, getL_s, bound_z, bound_o, bound_s, isOwn_o, isOwn_s, pok_loc, pok_sh, pok_fr, stl_loc, stlS_sh, stlS_own, stl_sh, stl_fr, lay_fr, lay_sh, lay_loc, envOf, slotsOf, valN, ghOf, endK, resK, exMu, muN, List.cons_append, List.nil_append, List.append_nil, List.length_cons, List.length_nil, Nat.reduceAdd, Nat.reduceSub, List.replicate_succ, List.replicate_zero, List.replicate,
  List.getElem?_cons_zero, List.getElem?_cons_succ, List.getElem?_nil, List.set_cons_zero, List.set_cons_succ,
  add_ii, add_ss, add_ll, sub_ii, mul_ii, fdv_ii, fdvN_ii, mod_ii, modN_ii, pow_ii, lt_ii, le_ii, gt_ii, ge_ii, eq_ii, ne_ii, ix_li, ix_ti, neg_i, abs_i, int_i, int_b, max_ii, min_ii, len_l, len_t, list_l, list_t, rev_l, isi_int, isi_bl, isi_tup, isi_lst, isi_non, isN_i, isN_n, isN_t, isN_l, notN_i, notN_n, notN_t, notN_l, isTy,
  atI0, atI1, atI2, ixN0, ixN1, ixN2, some_inj_ex, isObj, setAt0, setAt1, setAt2, setAt3, restE, keepS, wipeE, ↓reduceIte, if_false, if_true,
  eCall, eCallP, eMake, pm, List.filterMap_cons, List.filterMap_nil, agNil, agRo, agBo, agMu, agTm, callK, boIx, muIx, tms, argsK, upE, reown, hasBo, noTm, flatRo, noLstAll, noLst, noLsts, List.nodup_nil, List.nodup_cons, List.not_mem_nil, not_false_eq_true, Nat.zero_le, Nat.le_refl, Nat.reduceLeDiff, List.mem_cons, or_false, reduceCtorEq,
  gN, gTp, gCn, gNl, iR1, iR2, iLst, iTpl, iEnum, stab,
  true_and, and_true, Bool.true_eq_false, Bool.false_eq_true, false_imp_iff, forall_const, true_imp_iff, and_self, decide_eq_true_eq, decide_eq_false_iff_not, Bool.not_eq_true', Bool.not_eq_false'])
/-! ### lists of numbers, slices -/
theorem eqD_encZs (p q : List Int) : eqD (encZs p) (encZs q) = decide (p = q) := eqDs_map (fun _ _ => eqD_int) p q
theorem okD_encZs {n : Nat} (p : List Int) : okD (n + 1) (encZs p) = true := okDs_map (fun _ => okD_int) p
theorem eq_zz {p q : List Int} {k} : opEq (encZs p) (encZs q) k = k (.sh (.bl (decide (p = q)))) := by unfold opEq; rw [eqD_encZs, okD_encZs, okD_encZs]; exact propext ⟨fun h => h.2, fun h => ⟨⟨rfl, rfl⟩, h⟩⟩
theorem ne_zz {p q : List Int} {k} : opNe (encZs p) (encZs q) k = k (.sh (.bl (!decide (p = q)))) := by unfold opNe; rw [eqD_encZs, okD_encZs, okD_encZs]; exact propext ⟨fun h => h.2, fun h => ⟨⟨rfl, rfl⟩, h⟩⟩
theorem cutL_drop {α : Type} {xs : List α} {n : Nat} (h : n ≤ xs.length) : cutL xs (some (n : Int)) none = xs.drop n := by
  unfold cutL
  rw [HT.sIx_none, HT.sIx_nat, Nat.min_eq_left h]
  exact List.take_of_length_le (by simp)
theorem cutL_init {α : Type} {xs : List α} {x : α} : cutL (xs ++ [x]) none (some (-1)) = xs := by
  unfold cutL
  rw [HT.sIx_none]
  have : HT.sIx (xs ++ [x]).length (xs ++ [x]).length (some (-1)) = xs.length := by
    show (if (-1 : Int) < 0 then ((-1 : Int) + ((xs ++ [x]).length : Int)).toNat else min (-1 : Int).toNat (xs ++ [x]).length) = _
    rw [if_pos (by omega)]
    simp
    omega
  rw [this]
  exact List.take_left' rfl
def wordF (rs : List (Int × Int)) (p : Int × Int) (n : Nat) : List Int := (List.range n).map fun i => remF rs.length (walkF rs i p).1 (walkF rs i p).2
theorem wordF_succ (rs : List (Int × Int)) (p : Int × Int) (n : Nat) : wordF rs p (n + 1) = wordF rs p n ++ [remF rs.length (walkF rs n p).1 (walkF rs n p).2] := by
  unfold wordF
  rw [List.range_succ, List.map_append]
  rfl
theorem wordF_len (rs : List (Int × Int)) (p : Int × Int) (n : Nat) : (wordF rs p n).length = n := by unfold wordF; simp
theorem wordF_add (rs : List (Int × Int)) (p : Int × Int) (a : Nat) : ∀ b, wordF rs p (a + b) = wordF rs p a ++ wordF rs (walkF rs a p) b
  | 0 => by simp [wordF]
  | b + 1 => by
    rw [← Nat.add_assoc, wordF_succ, wordF_succ, wordF_add rs p a b, walkF_add, List.append_assoc]
def sp_word_of : FSpec := fun args kr _ => ∃ rs p, ∃ n : Nat, args = [.ro (mapD rs), .ro (encR p), .ro (.int n)] ∧ MapOk rs ∧ Good rs.length p ∧ (∀ i, i ≤ n → Bt 80000000 (walkF rs i p).1) ∧ Bt 8000 p.2 ∧ n ≤ 100000 ∧ kr (.fr (encZs (wordF rs p n))) []
/- word_of: 0:rule_map 1:number 2:steps 3:modulus 4:place -/
def b_word_of : SW := (sSeq (sFrz 3 (sSet 3 (eProp 0 sp_Map_modulus (eLoc 0))))
  (sRet (eComp (iLst (eSl (eCall 3 sp_walk (agRo (eLoc 0) (agRo (eLoc 1) (agRo (eLoc 2) agNil)))) pNone (pSome (eUn opNeg (eC (.int 1)))))) (gN 4) tYesW (eCall 2 sp_remainder_by (agRo (eLoc 3) (agRo (eLoc 4) agNil))) [4])))
theorem sat_word_of : Sat 5 sp_word_of b_word_of := by
  rintro args mus kr kx hm ⟨rs, p, n, rfl, ho, hg, ht, hb, hn, hk⟩
  obtain rfl := mus0 hm
  unfold b_word_of
  walk_at "sx"
  refine ⟨rs, rfl, ?_⟩
  walk_at "sx"
  simp only [eComp, iLst, tYesW]
  walk_at "sx"
  refine ⟨rs, p, n, rfl, ho, hg, ht, hb, hn, fun c => ?_⟩
  walk_at "sx"
  have e : cutL ((trk rs p (n + 1)).map encR) none (some (-1)) = (trk rs p n).map encR := by
    have h := trk_succ rs p n
    injection h with h
    rw [h]
    exact cutL_init
  rw [e]
  refine ⟨fun i acc ρ => acc = (wordF rs p i).map D.int ∧ ρ = [.sh (mapD rs), .sh (encR p), .sh (.int n), .sh (.int rs.length), .no], ⟨rfl, rfl⟩, fun _ _ _ _ _ => trivial, ?_, ?_⟩
  · rintro i d acc ρ hi hd ⟨rfl, rfl⟩
    obtain ⟨q, hq, rfl⟩ := get_map hd
    obtain ⟨i2, hi2, rfl⟩ := get_map hq
    have hi : i < n := by simpa using hi
    rw [List.getElem?_range hi] at hi2
    cases hi2
    walk_at "sx"
    refine ⟨rs.length, walkF rs i p, rfl, ho.pos, (walkF_good hg i).2.2, ho.bt, (ht i (by omega)).mono (by omega), ?_⟩
    walk_at "sx"
    refine ⟨line_big (by simp [wordF_len]; omega), ?_⟩
    rw [wordF_succ, List.map_append]
    rfl
  · rintro acc ρ ⟨rfl, rfl⟩
    walk_at "sx"
    have e2 : ((trk rs p n).map encR).length = n := by simp
    rw [e2]
    exact hk
/- _law_is_word: 0:value 1:many 2:entry -/
end TL

namespace TL
open PySem L2
local macro_rules | `(tactic| walk_at "sx") => `(tactic| simp only [sSeq, sNil, sSet, sFrz, frz_o, frz_sh, frz_s, sIf, sRet, sRetN, sPass, sBrk, sPar, sSub, sApp, sExpr, sAsg, sAug, sFld, sRevI, sPop, eLoc, eC, eUn, eBin, eAnd, eOr, eNot, eIf, eTup, eLst, dNil, dCons, tVal_eq, tstD_bl, tAndW, tOrW, tNotW, eFld_eq, eFldD_o, eProp, eMeth, eMeth0, eSl, pNone, pSome, sl_l,
  out_sh, out_fr, get_loc, get_sh, get_fr, getL_z, getL_o, getL_s, bound_z, bound_o, bound_s, isOwn_o, isOwn_s, pok_loc, pok_sh, pok_fr, stl_loc, stlS_sh, stlS_own, stl_sh, stl_fr, lay_fr, lay_sh, lay_loc, envOf, slotsOf, valN, ghOf, endK, resK, exMu, muN, List.cons_append, List.nil_append, List.append_nil, List.length_cons, List.length_nil, Nat.reduceAdd, Nat.reduceSub, List.replicate_succ, List.replicate_zero, List.replicate,
  List.getElem?_cons_zero, List.getElem?_cons_succ, List.getElem?_nil, List.set_cons_zero, List.set_cons_succ,
  add_ii, add_ss, add_ll, sub_ii, mul_ii, fdv_ii, fdvN_ii, mod_ii, modN_ii, pow_ii, lt_ii, le_ii, gt_ii, ge_ii, eq_ii, ne_ii, ix_li, ix_ti, neg_i, abs_i, int_i, int_b, max_ii, min_ii, len_l, len_t, list_l, list_t, rev_l, isi_int, isi_bl, isi_tup, isi_lst, isi_non, isN_i, isN_n, isN_t, isN_l, notN_i, notN_n, notN_t, notN_l, isTy,
  atI0, atI1, atI2, ixN0, ixN1, ixN2, some_inj_ex, isObj, setAt0, setAt1, setAt2, setAt3, restE, keepS, wipeE, ↓reduceIte, if_false, if_true,
  eCall, eCallP, eMake, pm, List.filterMap_cons, List.filterMap_nil, agNil, agRo, agBo, agMu, agTm, callK, boIx, muIx, tms, argsK, upE, reown, hasBo, noTm, flatRo, noLstAll, noLst, noLsts, List.nodup_nil, List.nodup_cons, List.not_mem_nil, not_false_eq_true, Nat.zero_le, Nat.le_refl, Nat.reduceLeDiff, List.mem_cons, or_false, reduceCtorEq,
  gN, gTp, gCn, gNl, iR1, iR2, iLst, iTpl, iEnum, stab,
  true_and, and_true, Bool.true_eq_false, Bool.false_eq_true, false_imp_iff, forall_const, true_imp_iff, and_self, decide_eq_true_eq, decide_eq_false_iff_not, Bool.not_eq_true', Bool.not_eq_false'])
theorem snocRec {α : Type} {motive : List α → Prop} (nil : motive []) (append_singleton : ∀ (ws : List α) (e : α), motive ws → motive (ws ++ [e])) (ws : List α) : motive ws := by
  have h : ∀ n (xs : List α), xs.length = n → motive xs := by
    intro n
    induction n with
    | zero => intro xs h; rw [List.length_eq_zero_iff.mp h]; exact nil
    | succ n ih =>
      intro xs h
      have hne : xs ≠ [] := by intro z; subst z; simp at h
      rw [← List.dropLast_concat_getLast hne]
      exact append_singleton _ _ (ih _ (by simp; omega))
  exact h _ ws rfl
/-! ### whole numbers walk -/
def ruleAt (rs : List (Int × Int)) (e : Int) : Int × Int := rs.getD e.toNat (1, 0)
def zStep (rs : List (Int × Int)) (x : Int) : Int := ((ruleAt rs (x % rs.length)).1 * x + (ruleAt rs (x % rs.length)).2) / rs.length
def zWalk (rs : List (Int × Int)) (x : Int) : Nat → Int
  | 0 => x
  | n + 1 => zStep rs (zWalk rs x n)
def zWord (rs : List (Int × Int)) (x : Int) (n : Nat) : List Int := (List.range n).map fun i => zWalk rs x i % rs.length
theorem zWord_succ (rs : List (Int × Int)) (x : Int) (n : Nat) : zWord rs x (n + 1) = zWord rs x n ++ [zWalk rs x n % rs.length] := by
  unfold zWord
  rw [List.range_succ, List.map_append]
  rfl
theorem zWord_len (rs : List (Int × Int)) (x : Int) (n : Nat) : (zWord rs x n).length = n := by unfold zWord; simp
theorem remF_one {m y : Int} (hm : 0 < m) : remF m y 1 = y % m := by
  have e := Int.emod_add_mul_ediv y m
  refine remF_eq hm (by simp) (Int.emod_nonneg _ (by omega)) (Int.emod_lt_of_pos _ hm) ?_
  apply Int.emod_eq_zero_of_dvd
  exact ⟨-(y / m), by rw [Int.mul_neg]; omega⟩
theorem stepF_one {rs : List (Int × Int)} {x : Int} (h : 0 < (rs.length : Int)) : stepF rs (x, 1) = (zStep rs x, 1) := by
  unfold stepF zStep ruleAt
  show ((((rs.getD (remF rs.length x 1).toNat (1, 0)).1 * x + (rs.getD (remF rs.length x 1).toNat (1, 0)).2 * 1) / rs.length) / _, (1 : Int) / _) = _
  rw [remF_one h]
  simp
theorem walkF_one {rs : List (Int × Int)} {x : Int} (h : 0 < (rs.length : Int)) : ∀ n, walkF rs n (x, 1) = (zWalk rs x n, 1)
  | 0 => rfl
  | n + 1 => by
    show stepF rs (walkF rs n (x, 1)) = _
    rw [walkF_one h n, stepF_one h]
    rfl
/-! ### forms -/
abbrev Fm := Int × Int × Int
abbrev encF (f : Fm) : D := .tup [.int f.1, .int f.2.1, .int f.2.2]
def joinF (f : Fm) (r : Int × Int) (m : Int) : Fm := (r.1 * f.1, r.1 * f.2.1 + r.2 * f.2.2, m * f.2.2)
def formF (rs : List (Int × Int)) (ws : List Int) : Fm := ws.foldl (fun f e => joinF f (ruleAt rs e) rs.length) (1, 0, 1)
theorem formF_snoc (rs : List (Int × Int)) (ws : List Int) (e : Int) : formF rs (ws ++ [e]) = joinF (formF rs ws) (ruleAt rs e) rs.length := by
  unfold formF
  rw [List.foldl_append]
  rfl
theorem formF_scale (rs : List (Int × Int)) (ws : List Int) : (formF rs ws).2.2 = (rs.length : Int) ^ ws.length := by
  induction ws using snocRec with
  | nil => rfl
  | append_singleton ws e ih =>
    rw [formF_snoc, List.length_append, List.length_singleton, Int.pow_succ, ← ih]
    exact Int.mul_comm _ _
/-- all entries are remainders -/
def Wd (m : Int) (ws : List Int) : Prop := ∀ e ∈ ws, 0 ≤ e ∧ e < m
theorem ruleAt_ok {rs : List (Int × Int)} (h : MapOk rs) {e : Int} (h0 : 0 ≤ e) (h1 : e < rs.length) : RuleOk rs.length e (ruleAt rs e) := by
  unfold ruleAt
  rw [List.getD_eq_getElem?_getD]
  cases hh : rs[e.toNat]? with
  | none => rw [List.getElem?_eq_none_iff] at hh; omega
  | some p =>
    have := h.ok _ _ hh
    rw [Int.toNat_of_nonneg h0] at this
    exact this
theorem zWord_ok {rs : List (Int × Int)} {x : Int} (h : 0 < (rs.length : Int)) (n : Nat) : Wd rs.length (zWord rs x n) := by
  intro e he
  unfold zWord at he
  obtain ⟨i, _, rfl⟩ := List.mem_map.mp he
  exact ⟨Int.emod_nonneg _ (by omega), Int.emod_lt_of_pos _ h⟩
theorem zStep_eq {rs : List (Int × Int)} (h : MapOk rs) (x : Int) : (rs.length : Int) * zStep rs x = (ruleAt rs (x % rs.length)).1 * x + (ruleAt rs (x % rs.length)).2 := by
  have hp := h.pos
  have q := ruleAt_ok h (Int.emod_nonneg x (by omega)) (Int.emod_lt_of_pos x hp)
  unfold zStep
  apply Int.mul_ediv_cancel'
  have e := Int.emod_add_mul_ediv x rs.length
  have d := Int.dvd_of_emod_eq_zero q.2.2
  have : (ruleAt rs (x % rs.length)).1 * x + (ruleAt rs (x % rs.length)).2 = ((ruleAt rs (x % rs.length)).1 * (x % rs.length) + (ruleAt rs (x % rs.length)).2) + rs.length * ((ruleAt rs (x % rs.length)).1 * (x / rs.length)) := by
    generalize (ruleAt rs (x % rs.length)) = r
    have : r.1 * x = r.1 * (x % rs.length + rs.length * (x / rs.length)) := by rw [e]
    rw [this]; grind
  rw [this]
  exact Int.dvd_add d (Int.dvd_mul_right _ _)
/-- a times the number plus b is the scale times the number behind the word -/
theorem form_walk {rs : List (Int × Int)} (h : MapOk rs) (x : Int) : ∀ n, (formF rs (zWord rs x n)).1 * x + (formF rs (zWord rs x n)).2.1 = (formF rs (zWord rs x n)).2.2 * zWalk rs x n
  | 0 => by simp [zWord, formF, zWalk]
  | n + 1 => by
    have ih := form_walk h x n
    have e := zStep_eq h (zWalk rs x n)
    rw [zWord_succ, formF_snoc]
    unfold joinF
    show _ * _ * x + (_ * _ + _ * _) = _ * _ * zStep rs (zWalk rs x n)
    generalize formF rs (zWord rs x n) = f at *
    generalize ruleAt rs (zWalk rs x n % rs.length) = r at *
    generalize zWalk rs x n = y at *
    have : (rs.length : Int) * f.2.2 * zStep rs y = f.2.2 * ((rs.length : Int) * zStep rs y) := by grind
    rw [this, e]
    have : f.2.1 = f.2.2 * y - f.1 * x := by omega
    rw [this]; grind
theorem gcd_mul {a b m : Int} (h1 : Int.gcd a m = 1) (h2 : Int.gcd b m = 1) : Int.gcd (a * b) m = 1 := by
  have : Nat.Coprime a.natAbs m.natAbs := h1
  have h2 : Nat.Coprime b.natAbs m.natAbs := h2
  have := Nat.Coprime.mul_left this h2
  unfold Int.gcd
  rw [Int.natAbs_mul]
  exact this
theorem gcd_pow {a m : Int} (h : Int.gcd a m = 1) : ∀ n : Nat, Int.gcd a (m ^ n) = 1
  | 0 => by simp
  | n + 1 => by
    rw [Int.pow_succ, Int.gcd_comm]
    exact gcd_mul (by rw [Int.gcd_comm]; exact gcd_pow h n) (by rw [Int.gcd_comm]; exact h)
theorem form_gcd {rs : List (Int × Int)} (h : MapOk rs) {ws : List Int} (hw : Wd rs.length ws) : Int.gcd (formF rs ws).1 rs.length = 1 := by
  induction ws using snocRec with
  | nil => simp [formF]
  | append_singleton ws e ih =>
    rw [formF_snoc]
    have := hw e (by simp)
    exact gcd_mul (ruleAt_ok h this.1 this.2).2.1 (ih fun x hx => hw x (by simp [hx]))
theorem form_gcd_scale {rs : List (Int × Int)} (h : MapOk rs) {ws : List Int} (hw : Wd rs.length ws) : Int.gcd (formF rs ws).1 (formF rs ws).2.2 = 1 := by
  rw [formF_scale]
  exact gcd_pow (form_gcd h hw) _
/-- the numbers whose word it is -/
theorem form_iff {rs : List (Int × Int)} (h : MapOk rs) (x : Int) {ws : List Int} (hw : Wd rs.length ws) : zWord rs x ws.length = ws ↔ (formF rs ws).2.2 ∣ (formF rs ws).1 * x + (formF rs ws).2.1 := by
  constructor
  · intro e
    have := form_walk h x ws.length
    rw [e] at this
    rw [this]
    exact Int.dvd_mul_right _ _
  · induction ws using snocRec with
    | nil => intro _; rfl
    | append_singleton ws e ih =>
      intro hd
      have hw0 : Wd rs.length ws := fun x hx => hw x (by simp [hx])
      have he := hw e (by simp)
      have q := ruleAt_ok h he.1 he.2
      have hg := form_gcd_scale h hw0
      have fw := form_walk h x ws.length
      rw [formF_snoc] at hd
      unfold joinF at hd
      have hsc := formF_scale rs ws
      have hp := h.pos
      have hs : 0 < (formF rs ws).2.2 := by rw [hsc]; exact Int.pow_pos hp
      have gr : Int.gcd (ruleAt rs e).1 (formF rs ws).2.2 = 1 := by rw [hsc]; exact gcd_pow q.2.1 _
      have hd : (rs.length : Int) * (formF rs ws).2.2 ∣ (ruleAt rs e).1 * (formF rs ws).1 * x + ((ruleAt rs e).1 * (formF rs ws).2.1 + (ruleAt rs e).2 * (formF rs ws).2.2) := hd
      have d1 : (formF rs ws).2.2 ∣ (formF rs ws).1 * x + (formF rs ws).2.1 := by
        have d2 : (formF rs ws).2.2 ∣ (ruleAt rs e).1 * (formF rs ws).1 * x + ((ruleAt rs e).1 * (formF rs ws).2.1 + (ruleAt rs e).2 * (formF rs ws).2.2) := Int.dvd_trans (Int.dvd_mul_left _ _) hd
        have d3 : (formF rs ws).2.2 ∣ ((formF rs ws).1 * x + (formF rs ws).2.1) * (ruleAt rs e).1 := by
          have := Int.dvd_sub d2 (Int.dvd_mul_left (ruleAt rs e).2 (formF rs ws).2.2)
          have e2 : (ruleAt rs e).1 * (formF rs ws).1 * x + ((ruleAt rs e).1 * (formF rs ws).2.1 + (ruleAt rs e).2 * (formF rs ws).2.2) - (ruleAt rs e).2 * (formF rs ws).2.2 = ((formF rs ws).1 * x + (formF rs ws).2.1) * (ruleAt rs e).1 := by grind
          rw [e2] at this; exact this
        exact dvd_of_gcd gr d3
      have ih := ih hw0 d1
      rw [ih] at fw
      have d4 : (rs.length : Int) ∣ (ruleAt rs e).1 * zWalk rs x ws.length + (ruleAt rs e).2 := by
        have e3 : (ruleAt rs e).1 * (formF rs ws).1 * x + ((ruleAt rs e).1 * (formF rs ws).2.1 + (ruleAt rs e).2 * (formF rs ws).2.2) = ((ruleAt rs e).1 * zWalk rs x ws.length + (ruleAt rs e).2) * (formF rs ws).2.2 := by
          have : (formF rs ws).2.1 = (formF rs ws).2.2 * zWalk rs x ws.length - (formF rs ws).1 * x := by omega
          rw [this]; grind
        rw [e3] at hd
        exact Int.dvd_of_mul_dvd_mul_right (by omega) hd
      have d5 : (rs.length : Int) ∣ (zWalk rs x ws.length - e) * (ruleAt rs e).1 := by
        have := Int.dvd_sub d4 (Int.dvd_of_emod_eq_zero q.2.2)
        have e2 : (ruleAt rs e).1 * zWalk rs x ws.length + (ruleAt rs e).2 - ((ruleAt rs e).1 * e + (ruleAt rs e).2) = (zWalk rs x ws.length - e) * (ruleAt rs e).1 := by grind
        rw [e2] at this; exact this
      have d6 := dvd_of_gcd q.2.1 d5
      have : zWalk rs x ws.length % rs.length = e := by
        have := Int.emod_emod_of_dvd (zWalk rs x ws.length) (Int.dvd_refl (rs.length : Int))
        have h7 : (zWalk rs x ws.length - e) % rs.length = 0 := Int.emod_eq_zero_of_dvd d6
        rw [← Int.emod_eq_emod_iff_emod_sub_eq_zero] at h7
        rw [h7]
        exact Int.emod_eq_of_lt he.1 he.2
      rw [List.length_append, List.length_singleton, zWord_succ, ih, this]
/-! ### defs -/
/-- sizes of a form, and of all on its way -/
def FmB (n : Nat) (f : Fm) : Prop := Bt n f.1 ∧ Bt n f.2.1 ∧ Bt n f.2.2
theorem pow_bt {b : Nat} (h : b ≤ 60) : ∀ n : Nat, Bt (1 + 6 * n) ((b : Int) ^ n)
  | 0 => by rw [Int.pow_zero]; unfold Bt; decide
  | n + 1 => by
    rw [Int.pow_succ]
    have := (pow_bt h n).mul (Bt.of (n := 6) (x := b) (by omega) (by omega) (by omega))
    exact this.mono (by omega)
/- _law_power: 0:base 1:count 2:scale 3:turn -/
def sp_check_word : FSpec := fun args kr _ => ∃ (m : Int) (ws : List Int), args = [.ro (.int m), .ro (encZs ws)] ∧ Wd m ws ∧ kr (.sh .non) []
/- check_word: 0:modulus 1:word 2:entry -/
def b_check_word : SW := (sFor (iLst (eLoc 1)) (gN 2) (sIf (tOrW (tVal (eBin opLt (eLoc 2) (eC (.int 0)))) (tVal (eBin opGe (eLoc 2) (eLoc 0)))) sNever sNil))
theorem sat_check_word : Sat 3 sp_check_word b_check_word := by
  rintro args mus kr kx hm ⟨m, ws, rfl, hw, hk⟩
  obtain rfl := mus0 hm
  unfold b_check_word
  unfold sFor
  walk_at "sx"
  refine ⟨fun i ρ => ∃ e3, ρ = [.sh (.int m), .sh (encZs ws), e3], ⟨_, rfl⟩, fun _ _ _ _ => trivial, ?_, ?_⟩
  · rintro i d ρ hi hd ⟨e3, rfl⟩
    obtain ⟨e, he, rfl⟩ := get_map hd
    have q := hw e (List.mem_of_getElem? he)
    walk_at "sx"
    exact ⟨fun h => absurd h (by omega), fun h => ⟨fun h => absurd h (by omega), fun _ => ⟨_, rfl⟩⟩⟩
  · rintro ρ ⟨e3, rfl⟩
    walk_at "sx"
    exact hk
def sp_joined_form : FSpec := fun args kr _ => ∃ (f : Fm) (r : Int × Int) (m : Int), args = [.ro (encF f), .ro (encR r), .ro (.int m)] ∧ FmB 40000000 f ∧ Bt 40000000 r.1 ∧ Bt 40000000 r.2 ∧ Bt 9000 m ∧ kr (.sh (encF (joinF f r m))) []
/- joined_form: 0:form 1:rule 2:modulus 3:a 4:b 5:scale -/
def b_joined_form : SW := (sSeq (sAsg (eLoc 0) (gTp 3 (gCn (gN 3) (gCn (gN 4) (gCn (gN 5) gNl)))))
  (sRet (eTup (dCons (eBin opMul (eBin opIx (eLoc 1) (eC (.int 0))) (eLoc 3)) (dCons (eBin opAdd (eBin opMul (eBin opIx (eLoc 1) (eC (.int 0))) (eLoc 4)) (eBin opMul (eBin opIx (eLoc 1) (eC (.int 1))) (eLoc 5))) (dCons (eBin opMul (eLoc 2) (eLoc 5)) dNil))))))
theorem sat_joined_form : Sat 6 sp_joined_form b_joined_form := by
  rintro args mus kr kx hm ⟨f, r, m, rfl, hf, h1, h2, h3, hk⟩
  obtain rfl := mus0 hm
  unfold b_joined_form
  walk_at "sx"
  exact ⟨h1.mulOk hf.1 (by omega), h1.mulOk hf.2.1 (by omega), h2.mulOk hf.2.2 (by omega), h3.mulOk hf.2.2 (by omega), hk⟩
def sp_form_of : FSpec := fun args kr _ => ∃ (rs : List (Int × Int)) (ws : List Int), args = [.ro (mapD rs), .ro (encZs ws)] ∧ MapOk rs ∧ Wd rs.length ws ∧ (∀ i, i ≤ ws.length → FmB 40000000 (formF rs (ws.take i))) ∧ kr (.sh (encF (formF rs ws))) []
/- form_of: 0:rule_map 1:word 2:modulus 3:rules 4:form 5:entry -/
def b_form_of : SW := (sSeq (sFrz 2 (sSet 2 (eProp 0 sp_Map_modulus (eLoc 0))))
  (sSeq (sExpr (eCall 2 sp_check_word (agRo (eLoc 2) (agRo (eLoc 1) agNil))))
  (sSeq (sFrz 3 (sSet 3 (eProp 0 sp_Map_rules (eLoc 0))))
  (sSeq (sSet 4 (eTup (dCons (eC (.int 1)) (dCons (eC (.int 0)) (dCons (eC (.int 1)) dNil)))))
  (sSeq (sFor (iLst (eLoc 1)) (gN 5) (sFrz 4 (sSet 4 (eCall 3 sp_joined_form (agRo (eLoc 4) (agRo (eBin opIx (eLoc 3) (eLoc 5)) (agRo (eLoc 2) agNil)))))))
  (sRet (eLoc 4)))))))
theorem sat_form_of : Sat 6 sp_form_of b_form_of := by
  rintro args mus kr kx hm ⟨rs, ws, rfl, ho, hw, hb, hk⟩
  obtain rfl := mus0 hm
  unfold b_form_of
  unfold sFor
  walk_at "sx"
  refine ⟨rs, rfl, ?_⟩
  walk_at "sx"
  refine ⟨rs.length, ws, rfl, hw, ?_⟩
  walk_at "sx"
  refine ⟨rs, rfl, ?_⟩
  walk_at "sx"
  refine ⟨fun i ρ => ∃ e5, ρ = [.sh (mapD rs), .sh (encZs ws), .sh (.int rs.length), .sh (encRs rs), .sh (encF (formF rs (ws.take i))), e5], ⟨_, rfl⟩, fun _ _ _ _ => trivial, ?_, ?_⟩
  · rintro i d ρ hi hd ⟨e3, rfl⟩
    obtain ⟨e, he, rfl⟩ := get_map hd
    have hi : i < ws.length := by simpa using hi
    have q := hw e (List.mem_of_getElem? he)
    walk_at "sx"
    rw [atI_map (x := (1, 0)) q.1 q.2]
    refine ⟨_, rfl, ?_⟩
    have hs := ho.sz _ (mem_getD (x := (1, 0)) q.1 q.2)
    refine ⟨_, _, _, rfl, hb i (by omega), hs.1.mono (by omega), hs.2.mono (by omega), ho.bt, ?_⟩
    walk_at "sx"
    refine ⟨.sh (.int e), ?_⟩
    rw [List.take_succ, he]
    show _ = [_, _, _, _, Sl.sh (encF (formF rs (ws.take i ++ [e]))), _]
    rw [formF_snoc]
    rfl
  · rintro ρ ⟨e3, rfl⟩
    walk_at "sx"
    rw [List.length_map, List.take_length]
    exact hk
/-- the least number of the class -/
def clsF (f : Fm) : Int := remF f.2.2 (-f.2.1) f.1
/- class_by: 0:form 1:a 2:b 3:scale -/
theorem clsF_spec {f : Fm} (h0 : 0 < f.2.2) (hg : Int.gcd f.1 f.2.2 = 1) : 0 ≤ clsF f ∧ clsF f < f.2.2 ∧ f.2.2 ∣ f.1 * clsF f + f.2.1 := by
  obtain ⟨a, b, c⟩ := remF_spec (t := -f.2.1) h0 hg
  refine ⟨a, b, ?_⟩
  have := Int.dvd_of_emod_eq_zero c
  have e : remF f.2.2 (-f.2.1) f.1 * f.1 - -f.2.1 = f.1 * clsF f + f.2.1 := by unfold clsF; grind
  rw [e] at this; exact this
/-- the class: numbers that leave the same remainder -/
theorem cls_iff {f : Fm} (h0 : 0 < f.2.2) (hg : Int.gcd f.1 f.2.2 = 1) (x : Int) : f.2.2 ∣ f.1 * x + f.2.1 ↔ x % f.2.2 = clsF f := by
  obtain ⟨a, b, c⟩ := clsF_spec h0 hg
  constructor
  · intro d
    have h1 := Int.dvd_sub d c
    have e : f.1 * x + f.2.1 - (f.1 * clsF f + f.2.1) = (x - clsF f) * f.1 := by grind
    rw [e] at h1
    have h2 := dvd_of_gcd hg h1
    have h3 : (x - clsF f) % f.2.2 = 0 := Int.emod_eq_zero_of_dvd h2
    rw [← Int.emod_eq_emod_iff_emod_sub_eq_zero] at h3
    rw [h3]
    exact Int.emod_eq_of_lt a b
  · intro e
    have h := Int.emod_add_mul_ediv x f.2.2
    have : f.1 * x + f.2.1 = (f.1 * clsF f + f.2.1) + f.2.2 * (f.1 * (x / f.2.2)) := by
      rw [← e]
      have : f.1 * x = f.1 * (x % f.2.2 + f.2.2 * (x / f.2.2)) := by rw [h]
      rw [this]; grind
    rw [this]
    exact Int.dvd_add c (Int.dvd_mul_right _ _)
/- class_of: 0:rule_map 1:word -/
theorem form_pos {rs : List (Int × Int)} (h : MapOk rs) (ws : List Int) : 0 < (formF rs ws).2.2 := by rw [formF_scale]; exact Int.pow_pos h.pos
/-- sizes of forms by drawn rules -/
theorem form_size {base : Nat} {rs : List (Int × Int)} (hr : RulesOk base rs) (h2 : 2 ≤ base) (h6 : base ≤ 60) {ws : List Int} (hw : Wd rs.length ws) : FmB (700 + 60 * ws.length) (formF rs ws) := by
  have ho := hr.map h2 (by omega)
  induction ws using snocRec with
  | nil => exact (⟨by unfold Bt; decide, by unfold Bt; decide, by unfold Bt; decide⟩ : FmB 700 ((1, 0, 1) : Fm))
  | append_singleton ws e ih =>
    have ih := ih fun x hx => hw x (by simp [hx])
    have he := hw e (by simp)
    rw [formF_snoc, List.length_append, List.length_singleton]
    obtain ⟨i, hi⟩ := List.getElem?_of_mem (mem_getD (x := ((1 : Int), (0 : Int))) he.1 he.2)
    have q := hr.ok i _ hi
    have q1 : Bt 12 (ruleAt rs e).1 := by
      have h1 := q.1.1
      have h2 := q.2.1
      unfold ruleAt
      exact Bt.of (by omega) (by omega) (by omega)
    have q2 : Bt 600 (ruleAt rs e).2 := q.2.2
    have s1 : Bt (1 + 6 * ws.length) (formF rs ws).2.2 := by rw [formF_scale, hr.len]; exact pow_bt h6 _
    have s2 : Bt 6 (rs.length : Int) := by rw [hr.len]; exact Bt.of (by omega) (by omega) (by omega)
    exact ⟨(q1.mul ih.1).mono (by omega), (((q1.mul ih.2.1).mono (show _ ≤ 12 + (700 + 60 * ws.length) by omega)).add ((q2.mul s1).mono (by omega))).mono (by omega), (s2.mul ih.2.2).mono (by omega)⟩
theorem form_sizes {base : Nat} {rs : List (Int × Int)} (hr : RulesOk base rs) (h2 : 2 ≤ base) (h6 : base ≤ 60) {ws : List Int} (hw : Wd rs.length ws) (hl : ws.length ≤ 600000) : ∀ i, i ≤ ws.length → FmB 40000000 (formF rs (ws.take i)) := fun i hi => by
  have h := form_size hr h2 h6 (ws := ws.take i) fun x hx => hw x (List.mem_of_mem_take hx)
  have : (ws.take i).length ≤ 600000 := by simp; omega
  exact ⟨h.1.mono (by omega), h.2.1.mono (by omega), h.2.2.mono (by omega)⟩
end TL

namespace TL
open PySem L2
local macro_rules | `(tactic| walk_at "sx") => `(tactic| simp only [sSeq, sNil, sSet, sFrz, frz_o, frz_sh, frz_s, sIf, sRet, sRetN, sPass, sBrk, sPar, sSub, sApp, sExpr, sAsg, sAug, sFld, sRevI, sPop, eLoc, eC, eUn, eBin, eAnd, eOr, eNot, eIf, eTup, eLst, dNil, dCons, tVal_eq, tstD_bl, tAndW, tOrW, tNotW, eFld_eq, eFldD_o, eProp, eMeth, eMeth0, eSl, pNone, pSome, sl_l,
  out_sh, out_fr, get_loc, get_sh, get_fr, getL_z, getL_o, getL_s, bound_z, bound_o, bound_s, isOwn_o, isOwn_s, pok_loc, pok_sh, pok_fr, stl_loc, stlS_sh, stlS_own, stl_sh, stl_fr, lay_fr, lay_sh, lay_loc, envOf, slotsOf, valN, ghOf, endK, resK, exMu, muN, List.cons_append, List.nil_append, List.append_nil, List.length_cons, List.length_nil, Nat.reduceAdd, Nat.reduceSub, List.replicate_succ, List.replicate_zero, List.replicate,
  List.getElem?_cons_zero, List.getElem?_cons_succ, List.getElem?_nil, List.set_cons_zero, List.set_cons_succ,
  add_ii, add_ss, add_ll, sub_ii, mul_ii, fdv_ii, fdvN_ii, mod_ii, modN_ii, pow_ii, lt_ii, le_ii, gt_ii, ge_ii, eq_ii, ne_ii, ix_li, ix_ti, neg_i, abs_i, int_i, int_b, max_ii, min_ii, len_l, len_t, list_l, list_t, rev_l, isi_int, isi_bl, isi_tup, isi_lst, isi_non, isN_i, isN_n, isN_t, isN_l, notN_i, notN_n, notN_t, notN_l, isTy,
  atI0, atI1, atI2, ixN0, ixN1, ixN2, some_inj_ex, isObj, setAt0, setAt1, setAt2, setAt3, restE, keepS, wipeE, ↓reduceIte, if_false, if_true,
  eCall, eCallP, eMake, pm, List.filterMap_cons, List.filterMap_nil, agNil, agRo, agBo, agMu, agTm, callK, boIx, muIx, tms, argsK, upE, reown, hasBo, noTm, flatRo, noLstAll, noLst, noLsts, List.nodup_nil, List.nodup_cons, List.not_mem_nil, not_false_eq_true, Nat.zero_le, Nat.le_refl, Nat.reduceLeDiff, List.mem_cons, or_false, reduceCtorEq,
  gN, gTp, gCn, gNl, iR1, iR2, iLst, iTpl, iEnum, stab,
  true_and, and_true, Bool.true_eq_false, Bool.false_eq_true, false_imp_iff, forall_const, true_imp_iff, and_self, decide_eq_true_eq, decide_eq_false_iff_not, Bool.not_eq_true', Bool.not_eq_false'])
theorem walk_sizeK {base K : Nat} {rs : List (Int × Int)} {p : Int × Int} (hr : RulesOk base rs) (h2 : 2 ≤ base) (hg : Good rs.length p) (h1 : Bt K p.1) (hK : 1000 ≤ K) (hb : Bt 300 p.2) : ∀ k, Bt (K + 50 * k) (walkF rs k p).1
  | 0 => h1
  | k + 1 => (step_size hr h2 (walkF_good hg k) (walk_sizeK hr h2 hg h1 hK hb k) (walkF_bot hb k) (by omega)).mono (by omega)
theorem good_one {m x : Int} : Good m (x, 1) := ⟨Int.le_refl _, by simp, by simp⟩
/-- the same word a scale farther -/
theorem zWord_far {rs : List (Int × Int)} (h : MapOk rs) (x t : Int) (n : Nat) : zWord rs (x + (rs.length : Int) ^ n * t) n = zWord rs x n := by
  have hw := zWord_ok (rs := rs) (x := x) h.pos n
  have k := form_iff h (x + (rs.length : Int) ^ n * t) hw
  rw [zWord_len] at k
  rw [k]
  have e := form_walk h x n
  have hs := formF_scale rs (zWord rs x n)
  rw [zWord_len] at hs
  have : (formF rs (zWord rs x n)).1 * (x + (rs.length : Int) ^ n * t) + (formF rs (zWord rs x n)).2.1 = (formF rs (zWord rs x n)).2.2 * (zWalk rs x n + (formF rs (zWord rs x n)).1 * t) := by
    rw [← hs]; grind
  rw [this]
  exact Int.dvd_mul_right _ _
theorem trk_one {rs : List (Int × Int)} (h : MapOk rs) (x : Int) (n : Nat) : L2.atI ((trk rs (x, 1) (n + 1)).map encR) (-1) = some (encR (zWalk rs x n, 1)) := by
  rw [trk_last, walkF_one h.pos]
namespace K19
/- _law_right: 0:chart 1:base 2:rules 3:start 4:count 5:times 6:places 7:path 8:scale 9:farther 10:same 11:passed 12:found 13:entry -/
/- law: 0:script 1:source 2:base 3:rules 4:chart 5:k 6:size 7:start 8:count -/
end K19
end TL

namespace TL
open PySem L2
local macro_rules | `(tactic| walk_at "sx") => `(tactic| simp only [sSeq, sNil, sSet, sFrz, frz_o, frz_sh, frz_s, sIf, sRet, sRetN, sPass, sBrk, sPar, sSub, sApp, sExpr, sAsg, sAug, sFld, sRevI, sPop, eLoc, eC, eUn, eBin, eAnd, eOr, eNot, eIf, eTup, eLst, dNil, dCons, tVal_eq, tstD_bl, tAndW, tOrW, tNotW, eFld_eq, eFldD_o, eProp, eMeth, eMeth0, eSl, pNone, pSome, sl_l,
  out_sh, out_fr, get_loc, get_sh, get_fr, getL_z, getL_o, getL_s, bound_z, bound_o, bound_s, isOwn_o, isOwn_s, pok_loc, pok_sh, pok_fr, stl_loc, stlS_sh, stlS_own, stl_sh, stl_fr, lay_fr, lay_sh, lay_loc, envOf, slotsOf, valN, ghOf, endK, resK, exMu, muN, List.cons_append, List.nil_append, List.append_nil, List.length_cons, List.length_nil, Nat.reduceAdd, Nat.reduceSub, List.replicate_succ, List.replicate_zero, List.replicate,
  List.getElem?_cons_zero, List.getElem?_cons_succ, List.getElem?_nil, List.set_cons_zero, List.set_cons_succ,
  add_ii, add_ss, add_ll, sub_ii, mul_ii, fdv_ii, fdvN_ii, mod_ii, modN_ii, pow_ii, lt_ii, le_ii, gt_ii, ge_ii, eq_ii, ne_ii, ix_li, ix_ti, neg_i, abs_i, int_i, int_b, max_ii, min_ii, len_l, len_t, list_l, list_t, rev_l, isi_int, isi_bl, isi_tup, isi_lst, isi_non, isN_i, isN_n, isN_t, isN_l, notN_i, notN_n, notN_t, notN_l, isTy,
  atI0, atI1, atI2, ixN0, ixN1, ixN2, some_inj_ex, isObj, setAt0, setAt1, setAt2, setAt3, restE, keepS, wipeE, ↓reduceIte, if_false, if_true,
  eCall, eCallP, eMake, pm, List.filterMap_cons, List.filterMap_nil, agNil, agRo, agBo, agMu, agTm, callK, boIx, muIx, tms, argsK, upE, reown, hasBo, noTm, flatRo, noLstAll, noLst, noLsts, List.nodup_nil, List.nodup_cons, List.not_mem_nil, not_false_eq_true, Nat.zero_le, Nat.le_refl, Nat.reduceLeDiff, List.mem_cons, or_false, reduceCtorEq,
  gN, gTp, gCn, gNl, iR1, iR2, iLst, iTpl, iEnum, stab,
  true_and, and_true, Bool.true_eq_false, Bool.false_eq_true, false_imp_iff, forall_const, true_imp_iff, and_self, decide_eq_true_eq, decide_eq_false_iff_not, Bool.not_eq_true', Bool.not_eq_false'])
/-! ### words drawn -/
/- _law_path: 0:source 1:base 2:count 3:turn -/
/-! ### fractions walk: over one bottom -/
def uStep (rs : List (Int × Int)) (q u : Int) : Int := ((ruleAt rs (remF rs.length u q)).1 * u + (ruleAt rs (remF rs.length u q)).2 * q) / rs.length
def uWalk (rs : List (Int × Int)) (q u : Int) : Nat → Int
  | 0 => u
  | n + 1 => uStep rs q (uWalk rs q u n)
def uWord (rs : List (Int × Int)) (q u : Int) (n : Nat) : List Int := (List.range n).map fun i => remF rs.length (uWalk rs q u i) q
theorem uWord_succ (rs : List (Int × Int)) (q u : Int) (n : Nat) : uWord rs q u (n + 1) = uWord rs q u n ++ [remF rs.length (uWalk rs q u n) q] := by
  unfold uWord
  rw [List.range_succ, List.map_append]
  rfl
/-- the fraction u / q in lowest terms -/
def low (u q : Int) : Int × Int := (u / (Int.gcd u q : Int), q / (Int.gcd u q : Int))
theorem low_self {p : Int × Int} (h : Int.gcd p.1 p.2 = 1) : low p.1 p.2 = p := by unfold low; rw [h]; simp
theorem remF_mul {m u q k : Int} (hm : 0 < m) (hg : Int.gcd (q * k) m = 1) : remF m (u * k) (q * k) = remF m u q := by
  have hq : Int.gcd q m = 1 := gcd_of_dvd (Int.dvd_mul_right _ _) hg
  obtain ⟨a, b, c⟩ := remF_spec (t := u) hm hq
  refine remF_eq hm hg a b ?_
  apply Int.emod_eq_zero_of_dvd
  have : remF m u q * (q * k) - u * k = (remF m u q * q - u) * k := by grind
  rw [this]
  exact Int.dvd_mul_of_dvd_left (Int.dvd_of_emod_eq_zero c)
theorem uStep_eq {rs : List (Int × Int)} (h : MapOk rs) {q : Int} (hq : Int.gcd q rs.length = 1) (u : Int) : (rs.length : Int) * uStep rs q u = (ruleAt rs (remF rs.length u q)).1 * u + (ruleAt rs (remF rs.length u q)).2 * q := by
  have hp := h.pos
  obtain ⟨r0, r1, r2⟩ := remF_spec (t := u) hp hq
  have k := ruleAt_ok h r0 r1
  unfold uStep
  apply Int.mul_ediv_cancel'
  have d := Int.dvd_of_emod_eq_zero k.2.2
  have d2 := Int.dvd_of_emod_eq_zero r2
  generalize remF rs.length u q = e at *
  have : (ruleAt rs e).1 * u + (ruleAt rs e).2 * q = ((ruleAt rs e).1 * e + (ruleAt rs e).2) * q - (e * q - u) * (ruleAt rs e).1 := by grind
  rw [this]
  exact Int.dvd_sub (Int.dvd_mul_of_dvd_left d) (Int.dvd_mul_of_dvd_left d2)
theorem low_mul {t b k : Int} (hk : 0 < k) (hb : 1 ≤ b) : low (t * k) (b * k) = low t b := by
  unfold low
  have e : (Int.gcd (t * k) (b * k) : Int) = (Int.gcd t b : Int) * k := by
    rw [Int.gcd_mul_right]
    have : (k.natAbs : Int) = k := by omega
    rw [Int.natCast_mul, this]
  rw [e]
  have g : 0 < Int.gcd t b := Int.gcd_pos_of_ne_zero_right _ (by omega)
  rw [Int.mul_ediv_mul_of_pos_left _ _ hk, Int.mul_ediv_mul_of_pos_left _ _ hk]
theorem low_gcd {u q : Int} (hq : 1 ≤ q) : ∃ k, 0 < k ∧ u = (low u q).1 * k ∧ q = (low u q).2 * k := by
  have g : 0 < Int.gcd u q := Int.gcd_pos_of_ne_zero_right _ (by omega)
  exact ⟨Int.gcd u q, by omega, (Int.ediv_mul_cancel (Int.gcd_dvd_left _ _)).symm, (Int.ediv_mul_cancel (Int.gcd_dvd_right _ _)).symm⟩
theorem stepF_low {rs : List (Int × Int)} (h : MapOk rs) {q u : Int} (h1 : 1 ≤ q) (hq : Int.gcd q rs.length = 1) : stepF rs (low u q) = low (uStep rs q u) q ∧ remF rs.length (low u q).1 (low u q).2 = remF rs.length u q := by
  obtain ⟨k, hk, eu, eq⟩ := low_gcd (u := u) h1
  have g := gcd_div (a := u) h1
  have hb : 1 ≤ (low u q).2 := g.1
  generalize low u q = p at *
  subst eu eq
  have hm := h.pos
  have e := remF_mul (u := p.1) hm hq
  refine ⟨?_, e.symm⟩
  have hq2 : Int.gcd p.2 rs.length = 1 := gcd_of_dvd (Int.dvd_mul_right _ _) hq
  have s1 := uStep_eq h hq (p.1 * k)
  have s2 := uStep_eq h hq2 p.1
  rw [e] at s1
  have : uStep rs (p.2 * k) (p.1 * k) = uStep rs p.2 p.1 * k := by
    have : (rs.length : Int) * uStep rs (p.2 * k) (p.1 * k) = (rs.length : Int) * (uStep rs p.2 p.1 * k) := by
      rw [s1, ← Int.mul_assoc (rs.length : Int) (uStep rs p.2 p.1) k, s2]; grind
    exact Int.eq_of_mul_eq_mul_left (by omega) this
  rw [this, low_mul hk hb]
  rfl
theorem walkF_low {rs : List (Int × Int)} (h : MapOk rs) {q u : Int} (h1 : 1 ≤ q) (hq : Int.gcd q rs.length = 1) : ∀ n, walkF rs n (low u q) = low (uWalk rs q u n) q
  | 0 => rfl
  | n + 1 => by
    show stepF rs (walkF rs n (low u q)) = _
    rw [walkF_low h h1 hq n, (stepF_low h h1 hq).1]
    rfl
theorem wordF_low {rs : List (Int × Int)} (h : MapOk rs) {q u : Int} (h1 : 1 ≤ q) (hq : Int.gcd q rs.length = 1) (n : Nat) : wordF rs (low u q) n = uWord rs q u n := by
  unfold wordF uWord
  apply List.map_congr_left
  intro i _
  rw [walkF_low h h1 hq, (stepF_low h h1 hq).2]
theorem form_walkU {rs : List (Int × Int)} (h : MapOk rs) {q : Int} (hq : Int.gcd q rs.length = 1) (u : Int) : ∀ n, (formF rs (uWord rs q u n)).1 * u + (formF rs (uWord rs q u n)).2.1 * q = (formF rs (uWord rs q u n)).2.2 * uWalk rs q u n
  | 0 => by simp [uWord, formF, uWalk]
  | n + 1 => by
    have ih := form_walkU h hq u n
    have e := uStep_eq h hq (uWalk rs q u n)
    rw [uWord_succ, formF_snoc]
    unfold joinF
    show _ * _ * u + (_ * _ + _ * _) * q = _ * _ * uStep rs q (uWalk rs q u n)
    generalize formF rs (uWord rs q u n) = f at *
    generalize ruleAt rs (remF rs.length (uWalk rs q u n) q) = r at *
    generalize uWalk rs q u n = y at *
    have : (rs.length : Int) * f.2.2 * uStep rs q y = f.2.2 * ((rs.length : Int) * uStep rs q y) := by grind
    rw [this, e]
    have : f.2.1 * q = f.2.2 * y - f.1 * u := by omega
    have e2 : (r.1 * f.2.1 + r.2 * f.2.2) * q = r.1 * (f.2.1 * q) + r.2 * f.2.2 * q := by grind
    rw [e2, this]; grind
theorem form_iffU {rs : List (Int × Int)} (h : MapOk rs) {q : Int} (hq : Int.gcd q rs.length = 1) (u : Int) {ws : List Int} (hw : Wd rs.length ws) : uWord rs q u ws.length = ws ↔ (formF rs ws).2.2 ∣ (formF rs ws).1 * u + (formF rs ws).2.1 * q := by
  constructor
  · intro e
    have := form_walkU h hq u ws.length
    rw [e] at this
    rw [this]
    exact Int.dvd_mul_right _ _
  · induction ws using snocRec with
    | nil => intro _; rfl
    | append_singleton ws e ih =>
      intro hd
      have hw0 : Wd rs.length ws := fun x hx => hw x (by simp [hx])
      have he := hw e (by simp)
      have k := ruleAt_ok h he.1 he.2
      have fw := form_walkU h hq u ws.length
      rw [formF_snoc] at hd
      unfold joinF at hd
      have hsc := formF_scale rs ws
      have hp := h.pos
      have hs : 0 < (formF rs ws).2.2 := by rw [hsc]; exact Int.pow_pos hp
      have gr : Int.gcd (ruleAt rs e).1 (formF rs ws).2.2 = 1 := by rw [hsc]; exact gcd_pow k.2.1 _
      have hd : (rs.length : Int) * (formF rs ws).2.2 ∣ (ruleAt rs e).1 * (formF rs ws).1 * u + ((ruleAt rs e).1 * (formF rs ws).2.1 + (ruleAt rs e).2 * (formF rs ws).2.2) * q := hd
      have d1 : (formF rs ws).2.2 ∣ (formF rs ws).1 * u + (formF rs ws).2.1 * q := by
        have d2 : (formF rs ws).2.2 ∣ (ruleAt rs e).1 * (formF rs ws).1 * u + ((ruleAt rs e).1 * (formF rs ws).2.1 + (ruleAt rs e).2 * (formF rs ws).2.2) * q := Int.dvd_trans (Int.dvd_mul_left _ _) hd
        have d3 : (formF rs ws).2.2 ∣ ((formF rs ws).1 * u + (formF rs ws).2.1 * q) * (ruleAt rs e).1 := by
          have := Int.dvd_sub d2 (Int.dvd_mul_left ((ruleAt rs e).2 * q) (formF rs ws).2.2)
          have e2 : (ruleAt rs e).1 * (formF rs ws).1 * u + ((ruleAt rs e).1 * (formF rs ws).2.1 + (ruleAt rs e).2 * (formF rs ws).2.2) * q - (ruleAt rs e).2 * q * (formF rs ws).2.2 = ((formF rs ws).1 * u + (formF rs ws).2.1 * q) * (ruleAt rs e).1 := by grind
          rw [e2] at this; exact this
        exact dvd_of_gcd gr d3
      have ih := ih hw0 d1
      rw [ih] at fw
      have d4 : (rs.length : Int) ∣ (ruleAt rs e).1 * uWalk rs q u ws.length + (ruleAt rs e).2 * q := by
        have e3 : (ruleAt rs e).1 * (formF rs ws).1 * u + ((ruleAt rs e).1 * (formF rs ws).2.1 + (ruleAt rs e).2 * (formF rs ws).2.2) * q = ((ruleAt rs e).1 * uWalk rs q u ws.length + (ruleAt rs e).2 * q) * (formF rs ws).2.2 := by
          have e4 : (formF rs ws).2.1 * q = (formF rs ws).2.2 * uWalk rs q u ws.length - (formF rs ws).1 * u := by omega
          have e5 : ((ruleAt rs e).1 * (formF rs ws).2.1 + (ruleAt rs e).2 * (formF rs ws).2.2) * q = (ruleAt rs e).1 * ((formF rs ws).2.1 * q) + (ruleAt rs e).2 * (formF rs ws).2.2 * q := by grind
          rw [e5, e4]; grind
        rw [e3] at hd
        exact Int.dvd_of_mul_dvd_mul_right (by omega) hd
      have d5 : (rs.length : Int) ∣ (e * q - uWalk rs q u ws.length) * (ruleAt rs e).1 := by
        have := Int.dvd_sub (Int.dvd_mul_of_dvd_left (c := q) (Int.dvd_of_emod_eq_zero k.2.2)) d4
        have e2 : ((ruleAt rs e).1 * e + (ruleAt rs e).2) * q - ((ruleAt rs e).1 * uWalk rs q u ws.length + (ruleAt rs e).2 * q) = (e * q - uWalk rs q u ws.length) * (ruleAt rs e).1 := by grind
        rw [e2] at this; exact this
      have d6 := dvd_of_gcd k.2.1 d5
      have : remF rs.length (uWalk rs q u ws.length) q = e := remF_eq hp hq he.1 he.2 (Int.emod_eq_zero_of_dvd d6)
      rw [List.length_append, List.length_singleton, uWord_succ, ih, this]
end TL

namespace TL
open PySem L2
local macro_rules | `(tactic| walk_at "sx") => `(tactic| simp only [sSeq, sNil, sSet, sFrz, frz_o, frz_sh, frz_s, sIf, sRet, sRetN, sPass, sBrk, sPar, sSub, sApp, sExpr, sAsg, sAug, sFld, sRevI, sPop, eLoc, eC, eUn, eBin, eAnd, eOr, eNot, eIf, eTup, eLst, dNil, dCons, tVal_eq, tstD_bl, tAndW, tOrW, tNotW, eFld_eq, eFldD_o, eProp, eMeth, eMeth0, eSl, pNone, pSome, sl_l,
  out_sh, out_fr, get_loc, get_sh, get_fr, getL_z, getL_o, getL_s, bound_z, bound_o, bound_s, isOwn_o, isOwn_s, pok_loc, pok_sh, pok_fr, stl_loc, stlS_sh, stlS_own, stl_sh, stl_fr, lay_fr, lay_sh, lay_loc, envOf, slotsOf, valN, ghOf, endK, resK, exMu, muN, List.cons_append, List.nil_append, List.append_nil, List.length_cons, List.length_nil, Nat.reduceAdd, Nat.reduceSub, List.replicate_succ, List.replicate_zero, List.replicate,
  List.getElem?_cons_zero, List.getElem?_cons_succ, List.getElem?_nil, List.set_cons_zero, List.set_cons_succ,
  add_ii, add_ss, add_ll, sub_ii, mul_ii, fdv_ii, fdvN_ii, mod_ii, modN_ii, pow_ii, lt_ii, le_ii, gt_ii, ge_ii, eq_ii, ne_ii, ix_li, ix_ti, neg_i, abs_i, int_i, int_b, max_ii, min_ii, len_l, len_t, list_l, list_t, rev_l, isi_int, isi_bl, isi_tup, isi_lst, isi_non, isN_i, isN_n, isN_t, isN_l, notN_i, notN_n, notN_t, notN_l, isTy,
  atI0, atI1, atI2, ixN0, ixN1, ixN2, some_inj_ex, isObj, setAt0, setAt1, setAt2, setAt3, restE, keepS, wipeE, ↓reduceIte, if_false, if_true,
  eCall, eCallP, eMake, pm, List.filterMap_cons, List.filterMap_nil, agNil, agRo, agBo, agMu, agTm, callK, boIx, muIx, tms, argsK, upE, reown, hasBo, noTm, flatRo, noLstAll, noLst, noLsts, List.nodup_nil, List.nodup_cons, List.not_mem_nil, not_false_eq_true, Nat.zero_le, Nat.le_refl, Nat.reduceLeDiff, List.mem_cons, or_false, reduceCtorEq,
  gN, gTp, gCn, gNl, iR1, iR2, iLst, iTpl, iEnum, stab,
  true_and, and_true, Bool.true_eq_false, Bool.false_eq_true, false_imp_iff, forall_const, true_imp_iff, and_self, decide_eq_true_eq, decide_eq_false_iff_not, Bool.not_eq_true', Bool.not_eq_false'])
namespace K20
/- _law_fraction: 0:source 1:base 2:start 3:scale 4:bottom 5:more 6:top 7:common -/
/- _law_right: 0:source 1:chart 2:base 3:rules 4:path 5:passed 6:found 7:scale 8:value -/
/- law: 0:script 1:source 2:base 3:rules 4:chart 5:k 6:count -/
end K20
end TL

namespace TL
open PySem L2
local macro_rules | `(tactic| walk_at "sx") => `(tactic| simp only [sSeq, sNil, sSet, sFrz, frz_o, frz_sh, frz_s, sIf, sRet, sRetN, sPass, sBrk, sPar, sSub, sApp, sExpr, sAsg, sAug, sFld, sRevI, sPop, eLoc, eC, eUn, eBin, eAnd, eOr, eNot, eIf, eTup, eLst, dNil, dCons, tVal_eq, tstD_bl, tAndW, tOrW, tNotW, eFld_eq, eFldD_o, eProp, eMeth, eMeth0, eSl, pNone, pSome, sl_l,
  out_sh, out_fr, get_loc, get_sh, get_fr, getL_z, getL_o, getL_s, bound_z, bound_o, bound_s, isOwn_o, isOwn_s, pok_loc, pok_sh, pok_fr, stl_loc, stlS_sh, stlS_own, stl_sh, stl_fr, lay_fr, lay_sh, lay_loc, envOf, slotsOf, valN, ghOf, endK, resK, exMu, muN, List.cons_append, List.nil_append, List.append_nil, List.length_cons, List.length_nil, Nat.reduceAdd, Nat.reduceSub, List.replicate_succ, List.replicate_zero, List.replicate,
  List.getElem?_cons_zero, List.getElem?_cons_succ, List.getElem?_nil, List.set_cons_zero, List.set_cons_succ,
  add_ii, add_ss, add_ll, sub_ii, mul_ii, fdv_ii, fdvN_ii, mod_ii, modN_ii, pow_ii, lt_ii, le_ii, gt_ii, ge_ii, eq_ii, ne_ii, ix_li, ix_ti, neg_i, abs_i, int_i, int_b, max_ii, min_ii, len_l, len_t, list_l, list_t, rev_l, isi_int, isi_bl, isi_tup, isi_lst, isi_non, isN_i, isN_n, isN_t, isN_l, notN_i, notN_n, notN_t, notN_l, isTy,
  atI0, atI1, atI2, ixN0, ixN1, ixN2, some_inj_ex, isObj, setAt0, setAt1, setAt2, setAt3, restE, keepS, wipeE, ↓reduceIte, if_false, if_true,
  eCall, eCallP, eMake, pm, List.filterMap_cons, List.filterMap_nil, agNil, agRo, agBo, agMu, agTm, callK, boIx, muIx, tms, argsK, upE, reown, hasBo, noTm, flatRo, noLstAll, noLst, noLsts, List.nodup_nil, List.nodup_cons, List.not_mem_nil, not_false_eq_true, Nat.zero_le, Nat.le_refl, Nat.reduceLeDiff, List.mem_cons, or_false, reduceCtorEq,
  gN, gTp, gCn, gNl, iR1, iR2, iLst, iTpl, iEnum, stab,
  true_and, and_true, Bool.true_eq_false, Bool.false_eq_true, false_imp_iff, forall_const, true_imp_iff, and_self, decide_eq_true_eq, decide_eq_false_iff_not, Bool.not_eq_true', Bool.not_eq_false'])
/-! ### counts, least numbers -/
def FmOk (f : Fm) : Prop := 0 < f.2.2 ∧ Int.gcd f.1 f.2.2 = 1 ∧ Bt 9000 f.2.2 ∧ Bt 80000000 f.2.1
/- count_in: 0:form 1:low 2:high 3:start 4:scale -/
/-- a word whose form is told without trouble -/
structure WOk (rs : List (Int × Int)) (ws : List Int) : Prop where
  mp : MapOk rs
  wd : Wd rs.length ws
  sz : ∀ i, i ≤ ws.length → FmB 40000000 (formF rs (ws.take i))
  sc : Bt 9000 (formF rs ws).2.2
theorem WOk.ok {rs : List (Int × Int)} {ws : List Int} (h : WOk rs ws) : FmOk (formF rs ws) := by
  have := h.sz ws.length (Nat.le_refl _)
  rw [List.take_length] at this
  exact ⟨form_pos h.mp ws, form_gcd_scale h.mp h.wd, h.sc, this.2.1.mono (by omega)⟩
theorem RulesOk.wok {base : Nat} {rs : List (Int × Int)} (hr : RulesOk base rs) (h2 : 2 ≤ base) (h6 : base ≤ 60) {ws : List Int} (hw : Wd base ws) (hl : ws.length ≤ 1000) : WOk rs ws := by
  have hl2 := hr.len
  rw [← hl2] at hw
  refine ⟨hr.map h2 (by omega), hw, form_sizes hr h2 h6 hw (by omega), ?_⟩
  rw [formF_scale, hl2]
  exact (pow_bt h6 _).mono (by omega)
/- count_with: 0:rule_map 1:word 2:low 3:high -/
/- least_from: 0:start 1:scale 2:low -/
/- nth_with: 0:rule_map 1:word 2:low 3:index 4:form -/
end TL

namespace TL
open PySem L2
local macro_rules | `(tactic| walk_at "sx") => `(tactic| simp only [sSeq, sNil, sSet, sFrz, frz_o, frz_sh, frz_s, sIf, sRet, sRetN, sPass, sBrk, sPar, sSub, sApp, sExpr, sAsg, sAug, sFld, sRevI, sPop, eLoc, eC, eUn, eBin, eAnd, eOr, eNot, eIf, eTup, eLst, dNil, dCons, tVal_eq, tstD_bl, tAndW, tOrW, tNotW, eFld_eq, eFldD_o, eProp, eMeth, eMeth0, eSl, pNone, pSome, sl_l,
  out_sh, out_fr, get_loc, get_sh, get_fr, getL_z, getL_o, getL_s, bound_z, bound_o, bound_s, isOwn_o, isOwn_s, pok_loc, pok_sh, pok_fr, stl_loc, stlS_sh, stlS_own, stl_sh, stl_fr, lay_fr, lay_sh, lay_loc, envOf, slotsOf, valN, ghOf, endK, resK, exMu, muN, List.cons_append, List.nil_append, List.append_nil, List.length_cons, List.length_nil, Nat.reduceAdd, Nat.reduceSub, List.replicate_succ, List.replicate_zero, List.replicate,
  List.getElem?_cons_zero, List.getElem?_cons_succ, List.getElem?_nil, List.set_cons_zero, List.set_cons_succ,
  add_ii, add_ss, add_ll, sub_ii, mul_ii, fdv_ii, fdvN_ii, mod_ii, modN_ii, pow_ii, lt_ii, le_ii, gt_ii, ge_ii, eq_ii, ne_ii, ix_li, ix_ti, neg_i, abs_i, int_i, int_b, max_ii, min_ii, len_l, len_t, list_l, list_t, rev_l, isi_int, isi_bl, isi_tup, isi_lst, isi_non, isN_i, isN_n, isN_t, isN_l, notN_i, notN_n, notN_t, notN_l, isTy,
  atI0, atI1, atI2, ixN0, ixN1, ixN2, some_inj_ex, isObj, setAt0, setAt1, setAt2, setAt3, restE, keepS, wipeE, ↓reduceIte, if_false, if_true,
  eCall, eCallP, eMake, pm, List.filterMap_cons, List.filterMap_nil, agNil, agRo, agBo, agMu, agTm, callK, boIx, muIx, tms, argsK, upE, reown, hasBo, noTm, flatRo, noLstAll, noLst, noLsts, List.nodup_nil, List.nodup_cons, List.not_mem_nil, not_false_eq_true, Nat.zero_le, Nat.le_refl, Nat.reduceLeDiff, List.mem_cons, or_false, reduceCtorEq,
  gN, gTp, gCn, gNl, iR1, iR2, iLst, iTpl, iEnum, stab,
  true_and, and_true, Bool.true_eq_false, Bool.false_eq_true, false_imp_iff, forall_const, true_imp_iff, and_self, decide_eq_true_eq, decide_eq_false_iff_not, Bool.not_eq_true', Bool.not_eq_false'])
namespace CD
/- _law_cards: 0:script 1:k 2:cell 3:digits -/
/- _law_card: 0:cards 1:top 2:found 3:mixed -/
/- _law_gcd: 0:first 1:second -/
/- _law_large: 0:cards 1:places 2:figures 3:k -/
/- _law_integer: 0:cards 1:kind -/
/- _law_modulus: 0:cards -/
end CD
end TL

namespace TL
open PySem L2
local macro_rules | `(tactic| walk_at "sx") => `(tactic| simp only [sSeq, sNil, sSet, sFrz, frz_o, frz_sh, frz_s, sIf, sRet, sRetN, sPass, sBrk, sPar, sSub, sApp, sExpr, sAsg, sAug, sFld, sRevI, sPop, eLoc, eC, eUn, eBin, eAnd, eOr, eNot, eIf, eTup, eLst, dNil, dCons, tVal_eq, tstD_bl, tAndW, tOrW, tNotW, eFld_eq, eFldD_o, eProp, eMeth, eMeth0, eSl, pNone, pSome, sl_l,
  out_sh, out_fr, get_loc, get_sh, get_fr, getL_z, getL_o, getL_s, bound_z, bound_o, bound_s, isOwn_o, isOwn_s, pok_loc, pok_sh, pok_fr, stl_loc, stlS_sh, stlS_own, stl_sh, stl_fr, lay_fr, lay_sh, lay_loc, envOf, slotsOf, valN, ghOf, endK, resK, exMu, muN, List.cons_append, List.nil_append, List.append_nil, List.length_cons, List.length_nil, Nat.reduceAdd, Nat.reduceSub, List.replicate_succ, List.replicate_zero, List.replicate,
  List.getElem?_cons_zero, List.getElem?_cons_succ, List.getElem?_nil, List.set_cons_zero, List.set_cons_succ,
  add_ii, add_ss, add_ll, sub_ii, mul_ii, fdv_ii, fdvN_ii, mod_ii, modN_ii, pow_ii, lt_ii, le_ii, gt_ii, ge_ii, eq_ii, ne_ii, ix_li, ix_ti, neg_i, abs_i, int_i, int_b, max_ii, min_ii, len_l, len_t, list_l, list_t, rev_l, isi_int, isi_bl, isi_tup, isi_lst, isi_non, isN_i, isN_n, isN_t, isN_l, notN_i, notN_n, notN_t, notN_l, isTy,
  atI0, atI1, atI2, ixN0, ixN1, ixN2, some_inj_ex, isObj, setAt0, setAt1, setAt2, setAt3, restE, keepS, wipeE, ↓reduceIte, if_false, if_true,
  eCall, eCallP, eMake, pm, List.filterMap_cons, List.filterMap_nil, agNil, agRo, agBo, agMu, agTm, callK, boIx, muIx, tms, argsK, upE, reown, hasBo, noTm, flatRo, noLstAll, noLst, noLsts, List.nodup_nil, List.nodup_cons, List.not_mem_nil, not_false_eq_true, Nat.zero_le, Nat.le_refl, Nat.reduceLeDiff, List.mem_cons, or_false, reduceCtorEq,
  gN, gTp, gCn, gNl, iR1, iR2, iLst, iTpl, iEnum, stab,
  true_and, and_true, Bool.true_eq_false, Bool.false_eq_true, false_imp_iff, forall_const, true_imp_iff, and_self, decide_eq_true_eq, decide_eq_false_iff_not, Bool.not_eq_true', Bool.not_eq_false'])
namespace CD
/- _law_rules: 0:cards 1:modulus 2:reach 3:far 4:rules 5:k 6:a 7:step 8:b -/
end CD
end TL

namespace TL
open PySem L2
local macro_rules | `(tactic| walk_at "sx") => `(tactic| simp only [sSeq, sNil, sSet, sFrz, frz_o, frz_sh, frz_s, sIf, sRet, sRetN, sPass, sBrk, sPar, sSub, sApp, sExpr, sAsg, sAug, sFld, sRevI, sPop, eLoc, eC, eUn, eBin, eAnd, eOr, eNot, eIf, eTup, eLst, dNil, dCons, tVal_eq, tstD_bl, tAndW, tOrW, tNotW, eFld_eq, eFldD_o, eProp, eMeth, eMeth0, eSl, pNone, pSome, sl_l,
  out_sh, out_fr, get_loc, get_sh, get_fr, getL_z, getL_o, getL_s, bound_z, bound_o, bound_s, isOwn_o, isOwn_s, pok_loc, pok_sh, pok_fr, stl_loc, stlS_sh, stlS_own, stl_sh, stl_fr, lay_fr, lay_sh, lay_loc, envOf, slotsOf, valN, ghOf, endK, resK, exMu, muN, List.cons_append, List.nil_append, List.append_nil, List.length_cons, List.length_nil, Nat.reduceAdd, Nat.reduceSub, List.replicate_succ, List.replicate_zero, List.replicate,
  List.getElem?_cons_zero, List.getElem?_cons_succ, List.getElem?_nil, List.set_cons_zero, List.set_cons_succ,
  add_ii, add_ss, add_ll, sub_ii, mul_ii, fdv_ii, fdvN_ii, mod_ii, modN_ii, pow_ii, lt_ii, le_ii, gt_ii, ge_ii, eq_ii, ne_ii, ix_li, ix_ti, neg_i, abs_i, int_i, int_b, max_ii, min_ii, len_l, len_t, list_l, list_t, rev_l, isi_int, isi_bl, isi_tup, isi_lst, isi_non, isN_i, isN_n, isN_t, isN_l, notN_i, notN_n, notN_t, notN_l, isTy,
  atI0, atI1, atI2, ixN0, ixN1, ixN2, some_inj_ex, isObj, setAt0, setAt1, setAt2, setAt3, restE, keepS, wipeE, ↓reduceIte, if_false, if_true,
  eCall, eCallP, eMake, pm, List.filterMap_cons, List.filterMap_nil, agNil, agRo, agBo, agMu, agTm, callK, boIx, muIx, tms, argsK, upE, reown, hasBo, noTm, flatRo, noLstAll, noLst, noLsts, List.nodup_nil, List.nodup_cons, List.not_mem_nil, not_false_eq_true, Nat.zero_le, Nat.le_refl, Nat.reduceLeDiff, List.mem_cons, or_false, reduceCtorEq,
  gN, gTp, gCn, gNl, iR1, iR2, iLst, iTpl, iEnum, stab,
  true_and, and_true, Bool.true_eq_false, Bool.false_eq_true, false_imp_iff, forall_const, true_imp_iff, and_self, decide_eq_true_eq, decide_eq_false_iff_not, Bool.not_eq_true', Bool.not_eq_false'])
namespace CD
/- _law_lowest: 0:top 1:bottom 2:common -/
theorem low_good {t b m : Int} (h1 : 1 ≤ b) (hg : Int.gcd b m = 1) : Good m (low t b) :=
  ⟨(gcd_div (a := t) h1).1, (gcd_div (a := t) h1).2, gcd_of_dvd (Int.ediv_dvd_of_dvd (Int.gcd_dvd_right _ _)) hg⟩
/- _law_good: 0:cards 1:modulus 2:top 3:bottom 4:k 5:common -/
end CD
end TL

namespace TL
open PySem L2
local macro_rules | `(tactic| walk_at "sx") => `(tactic| simp only [sSeq, sNil, sSet, sFrz, frz_o, frz_sh, frz_s, sIf, sRet, sRetN, sPass, sBrk, sPar, sSub, sApp, sExpr, sAsg, sAug, sFld, sRevI, sPop, eLoc, eC, eUn, eBin, eAnd, eOr, eNot, eIf, eTup, eLst, dNil, dCons, tVal_eq, tstD_bl, tAndW, tOrW, tNotW, eFld_eq, eFldD_o, eProp, eMeth, eMeth0, eSl, pNone, pSome, sl_l,
  out_sh, out_fr, get_loc, get_sh, get_fr, getL_z, getL_o, getL_s, bound_z, bound_o, bound_s, isOwn_o, isOwn_s, pok_loc, pok_sh, pok_fr, stl_loc, stlS_sh, stlS_own, stl_sh, stl_fr, lay_fr, lay_sh, lay_loc, envOf, slotsOf, valN, ghOf, endK, resK, exMu, muN, List.cons_append, List.nil_append, List.append_nil, List.length_cons, List.length_nil, Nat.reduceAdd, Nat.reduceSub, List.replicate_succ, List.replicate_zero, List.replicate,
  List.getElem?_cons_zero, List.getElem?_cons_succ, List.getElem?_nil, List.set_cons_zero, List.set_cons_succ,
  add_ii, add_ss, add_ll, sub_ii, mul_ii, fdv_ii, fdvN_ii, mod_ii, modN_ii, pow_ii, lt_ii, le_ii, gt_ii, ge_ii, eq_ii, ne_ii, ix_li, ix_ti, neg_i, abs_i, int_i, int_b, max_ii, min_ii, len_l, len_t, list_l, list_t, rev_l, isi_int, isi_bl, isi_tup, isi_lst, isi_non, isN_i, isN_n, isN_t, isN_l, notN_i, notN_n, notN_t, notN_l, isTy,
  atI0, atI1, atI2, ixN0, ixN1, ixN2, some_inj_ex, isObj, setAt0, setAt1, setAt2, setAt3, restE, keepS, wipeE, ↓reduceIte, if_false, if_true,
  eCall, eCallP, eMake, pm, List.filterMap_cons, List.filterMap_nil, agNil, agRo, agBo, agMu, agTm, callK, boIx, muIx, tms, argsK, upE, reown, hasBo, noTm, flatRo, noLstAll, noLst, noLsts, List.nodup_nil, List.nodup_cons, List.not_mem_nil, not_false_eq_true, Nat.zero_le, Nat.le_refl, Nat.reduceLeDiff, List.mem_cons, or_false, reduceCtorEq,
  gN, gTp, gCn, gNl, iR1, iR2, iLst, iTpl, iEnum, stab,
  true_and, and_true, Bool.true_eq_false, Bool.false_eq_true, false_imp_iff, forall_const, true_imp_iff, and_self, decide_eq_true_eq, decide_eq_false_iff_not, Bool.not_eq_true', Bool.not_eq_false'])
namespace CD
/- _law_whole: 0:value -/
/- _law_is_fraction: 0:value -/
/- _law_walked: 0:rules 1:top 2:bottom 3:many 4:modulus 5:unit 6:line 7:k 8:entry -/
/-- the fraction ahead of number by the rule k -/
def backF (rs : List (Int × Int)) (p : Int × Int) (k : Nat) : Int × Int := low ((rs.length : Int) * p.1 - (ruleAt rs k).2 * p.2) ((ruleAt rs k).1 * p.2)
def sp_before : FSpec := fun args kr _ => ∃ (rs : List (Int × Int)) (p : Int × Int), args = [.ro (mapD rs), .ro (encR p)] ∧ MapOk rs ∧ Good rs.length p ∧ Bt 5000 p.1 ∧ Bt 5000 p.2 ∧ (∀ r ∈ rs, Bt 2000 r.1) ∧ kr (.fr (encRs ((List.range rs.length).map (backF rs p)))) []
/- before: 0:rule_map 1:number 2:top 3:bottom 4:modulus 5:a 6:b -/
def b_before : SW := (sSeq (sIf (tNotW (tVal (eCall 2 sp_is_good (agRo (eProp 0 sp_Map_modulus (eLoc 0)) (agRo (eLoc 1) agNil))))) sNever sNil)
  (sSeq (sAsg (eLoc 1) (gTp 2 (gCn (gN 2) (gCn (gN 3) gNl))))
  (sSeq (sFrz 4 (sSet 4 (eProp 0 sp_Map_modulus (eLoc 0))))
  (sRet (eComp (iLst (eProp 0 sp_Map_rules (eLoc 0))) (gTp 2 (gCn (gN 5) (gCn (gN 6) gNl))) tYesW (eCall 2 sp_lowest (agRo (eBin opSub (eBin opMul (eLoc 4) (eLoc 2)) (eBin opMul (eLoc 6) (eLoc 3))) (agRo (eBin opMul (eLoc 5) (eLoc 3)) agNil))) [5, 6])))))
theorem pos_mul {a b : Int} (h1 : 1 ≤ a) (h2 : 1 ≤ b) : 1 ≤ a * b := by
  have : 1 * 1 ≤ a * b := Int.mul_le_mul h1 h2 (by omega) (by omega)
  omega
theorem sat_before : Sat 7 sp_before b_before := by
  rintro args mus kr kx hm ⟨rs, p, rfl, ho, hg, h1, h2, h3, hk⟩
  obtain rfl := mus0 hm
  unfold b_before
  walk_at "sx"
  refine ⟨rs, rfl, ?_⟩
  walk_at "sx"
  refine ⟨rs.length, p, rfl, ?_⟩
  walk_at "sx"
  refine ⟨fun h => by simp [hg] at h, fun _ => ⟨rs, rfl, ?_⟩⟩
  walk_at "sx"
  simp only [eComp, iLst, tYesW]
  walk_at "sx"
  refine ⟨rs, rfl, ?_⟩
  walk_at "sx"
  simp only [List.length_map]
  refine ⟨fun i acc ρ => acc = ((List.range i).map (backF rs p)).map encR ∧ ρ = [.sh (mapD rs), .sh (encR p), .sh (.int p.1), .sh (.int p.2), .sh (.int rs.length), .no, .no], ⟨rfl, rfl⟩, fun _ _ _ _ _ => trivial, ?_, ?_⟩
  · rintro i d acc ρ hi hd ⟨rfl, rfl⟩
    obtain ⟨r, hr, rfl⟩ := get_map hd
    have k := ho.ok i r hr
    have hs := ho.sz r (List.mem_of_getElem? hr)
    have h3 := h3 r (List.mem_of_getElem? hr)
    have er : ruleAt rs i = r := by
      unfold ruleAt
      rw [List.getD_eq_getElem?_getD, show (i : Int).toNat = i by omega, hr]
      rfl
    walk_at "sx"
    refine ⟨(ho.bt.mulOk h1 (by omega)), hs.2.mulOk h2 (by omega), h3.mulOk h2 (by omega), _, _, rfl, .inl ⟨pos_mul k.1 hg.1, (h3.mul h2).mono (by omega), ?_⟩⟩
    walk_at "sx"
    refine ⟨line_big (by have := ho.few; simp; omega), ?_⟩
    rw [List.range_succ, List.map_append, List.map_append]
    congr 1
    show [D.tup [D.int _, D.int _]] = [encR (backF rs p i)]
    unfold backF
    rw [er]
    rfl
  · rintro acc ρ ⟨rfl, rfl⟩
    walk_at "sx"
    exact hk
theorem backF_step {rs : List (Int × Int)} (h : MapOk rs) {p : Int × Int} (hg : Good rs.length p) {k : Nat} (hk : k < rs.length) : Good rs.length (backF rs p k) ∧ remF rs.length (backF rs p k).1 (backF rs p k).2 = k ∧ uStep rs (backF rs p k).2 (backF rs p k).1 * p.2 = p.1 * (backF rs p k).2 := by
  have q := ruleAt_ok h (show (0 : Int) ≤ k by omega) (by omega)
  have hb : 1 ≤ (ruleAt rs k).1 * p.2 := pos_mul q.1 hg.1
  have hbg : Int.gcd ((ruleAt rs k).1 * p.2) rs.length = 1 := gcd_mul q.2.1 hg.2.2
  have g := low_good (t := (rs.length : Int) * p.1 - (ruleAt rs k).2 * p.2) hb hbg
  have e1 : remF rs.length ((rs.length : Int) * p.1 - (ruleAt rs k).2 * p.2) ((ruleAt rs k).1 * p.2) = k := by
    refine remF_eq h.pos hbg (by omega) (by omega) ?_
    apply Int.emod_eq_zero_of_dvd
    have : (k : Int) * ((ruleAt rs k).1 * p.2) - ((rs.length : Int) * p.1 - (ruleAt rs k).2 * p.2) = ((ruleAt rs k).1 * k + (ruleAt rs k).2) * p.2 - rs.length * p.1 := by grind
    rw [this]
    exact Int.dvd_sub (Int.dvd_mul_of_dvd_left (Int.dvd_of_emod_eq_zero q.2.2)) (Int.dvd_mul_right _ _)
  have e2 := (stepF_low h (u := (rs.length : Int) * p.1 - (ruleAt rs k).2 * p.2) hb hbg).2
  rw [e1] at e2
  refine ⟨g, e2, ?_⟩
  have g2 : Good rs.length (backF rs p k) := g
  have e3 := uStep_eq h g2.2.2 (backF rs p k).1
  have e2' : remF rs.length (backF rs p k).1 (backF rs p k).2 = k := e2
  rw [e2'] at e3
  obtain ⟨c, hc, eu, eq⟩ := low_gcd (u := (rs.length : Int) * p.1 - (ruleAt rs k).2 * p.2) hb
  have eu : (rs.length : Int) * p.1 - (ruleAt rs k).2 * p.2 = (backF rs p k).1 * c := eu
  have eq : (ruleAt rs k).1 * p.2 = (backF rs p k).2 * c := eq
  generalize backF rs p k = u at *
  generalize ruleAt rs k = r at *
  have key : (rs.length : Int) * (uStep rs u.2 u.1 * p.2) * c = (rs.length : Int) * (p.1 * u.2) * c := by
    have a1 : (rs.length : Int) * (uStep rs u.2 u.1 * p.2) * c = ((rs.length : Int) * uStep rs u.2 u.1) * p.2 * c := by grind
    rw [a1, e3]
    have a2 : (r.1 * u.1 + r.2 * u.2) * p.2 * c = (r.1 * p.2) * (u.1 * c) + r.2 * p.2 * (u.2 * c) := by grind
    rw [a2, ← eu, ← eq]
    have a3 : (rs.length : Int) * (p.1 * u.2) * c = (rs.length : Int) * p.1 * (u.2 * c) := by grind
    rw [a3, ← eq]; grind
  have k1 := Int.eq_of_mul_eq_mul_right (show c ≠ 0 by omega) key
  exact Int.eq_of_mul_eq_mul_left (show (rs.length : Int) ≠ 0 by have := h.pos; omega) k1
/- _law_steps_to: 0:rules 1:found 2:entry 3:number 4:line 5:top -/
end CD
end TL

namespace TL
open PySem L2
local macro_rules | `(tactic| walk_at "sx") => `(tactic| simp only [sSeq, sNil, sSet, sFrz, frz_o, frz_sh, frz_s, sIf, sRet, sRetN, sPass, sBrk, sPar, sSub, sApp, sExpr, sAsg, sAug, sFld, sRevI, sPop, eLoc, eC, eUn, eBin, eAnd, eOr, eNot, eIf, eTup, eLst, dNil, dCons, tVal_eq, tstD_bl, tAndW, tOrW, tNotW, eFld_eq, eFldD_o, eProp, eMeth, eMeth0, eSl, pNone, pSome, sl_l,
  out_sh, out_fr, get_loc, get_sh, get_fr, getL_z, getL_o, getL_s, bound_z, bound_o, bound_s, isOwn_o, isOwn_s, pok_loc, pok_sh, pok_fr, stl_loc, stlS_sh, stlS_own, stl_sh, stl_fr, lay_fr, lay_sh, lay_loc, envOf, slotsOf, valN, ghOf, endK, resK, exMu, muN, List.cons_append, List.nil_append, List.append_nil, List.length_cons, List.length_nil, Nat.reduceAdd, Nat.reduceSub, List.replicate_succ, List.replicate_zero, List.replicate,
  List.getElem?_cons_zero, List.getElem?_cons_succ, List.getElem?_nil, List.set_cons_zero, List.set_cons_succ,
  add_ii, add_ss, add_ll, sub_ii, mul_ii, fdv_ii, fdvN_ii, mod_ii, modN_ii, pow_ii, lt_ii, le_ii, gt_ii, ge_ii, eq_ii, ne_ii, ix_li, ix_ti, neg_i, abs_i, int_i, int_b, max_ii, min_ii, len_l, len_t, list_l, list_t, rev_l, isi_int, isi_bl, isi_tup, isi_lst, isi_non, isN_i, isN_n, isN_t, isN_l, notN_i, notN_n, notN_t, notN_l, isTy,
  atI0, atI1, atI2, ixN0, ixN1, ixN2, some_inj_ex, isObj, setAt0, setAt1, setAt2, setAt3, restE, keepS, wipeE, ↓reduceIte, if_false, if_true,
  eCall, eCallP, eMake, pm, List.filterMap_cons, List.filterMap_nil, agNil, agRo, agBo, agMu, agTm, callK, boIx, muIx, tms, argsK, upE, reown, hasBo, noTm, flatRo, noLstAll, noLst, noLsts, List.nodup_nil, List.nodup_cons, List.not_mem_nil, not_false_eq_true, Nat.zero_le, Nat.le_refl, Nat.reduceLeDiff, List.mem_cons, or_false, reduceCtorEq,
  gN, gTp, gCn, gNl, iR1, iR2, iLst, iTpl, iEnum, stab,
  true_and, and_true, Bool.true_eq_false, Bool.false_eq_true, false_imp_iff, forall_const, true_imp_iff, and_self, decide_eq_true_eq, decide_eq_false_iff_not, Bool.not_eq_true', Bool.not_eq_false'])
namespace CD
namespace K42
/- _law_right: 0:cards 1:modulus 2:rules 3:number 4:built 5:found 6:kept 7:k -/
/- law: 0:script 1:k -/
end K42
end CD
end TL

namespace TL
open PySem L2
local macro_rules | `(tactic| walk_at "sx") => `(tactic| simp only [sSeq, sNil, sSet, sFrz, frz_o, frz_sh, frz_s, sIf, sRet, sRetN, sPass, sBrk, sPar, sSub, sApp, sExpr, sAsg, sAug, sFld, sRevI, sPop, eLoc, eC, eUn, eBin, eAnd, eOr, eNot, eIf, eTup, eLst, dNil, dCons, tVal_eq, tstD_bl, tAndW, tOrW, tNotW, eFld_eq, eFldD_o, eProp, eMeth, eMeth0, eSl, pNone, pSome, sl_l,
  out_sh, out_fr, get_loc, get_sh, get_fr, getL_z, getL_o, getL_s, bound_z, bound_o, bound_s, isOwn_o, isOwn_s, pok_loc, pok_sh, pok_fr, stl_loc, stlS_sh, stlS_own, stl_sh, stl_fr, lay_fr, lay_sh, lay_loc, envOf, slotsOf, valN, ghOf, endK, resK, exMu, muN, List.cons_append, List.nil_append, List.append_nil, List.length_cons, List.length_nil, Nat.reduceAdd, Nat.reduceSub, List.replicate_succ, List.replicate_zero, List.replicate,
  List.getElem?_cons_zero, List.getElem?_cons_succ, List.getElem?_nil, List.set_cons_zero, List.set_cons_succ,
  add_ii, add_ss, add_ll, sub_ii, mul_ii, fdv_ii, fdvN_ii, mod_ii, modN_ii, pow_ii, lt_ii, le_ii, gt_ii, ge_ii, eq_ii, ne_ii, ix_li, ix_ti, neg_i, abs_i, int_i, int_b, max_ii, min_ii, len_l, len_t, list_l, list_t, rev_l, isi_int, isi_bl, isi_tup, isi_lst, isi_non, isN_i, isN_n, isN_t, isN_l, notN_i, notN_n, notN_t, notN_l, isTy,
  atI0, atI1, atI2, ixN0, ixN1, ixN2, some_inj_ex, isObj, setAt0, setAt1, setAt2, setAt3, restE, keepS, wipeE, ↓reduceIte, if_false, if_true,
  eCall, eCallP, eMake, pm, List.filterMap_cons, List.filterMap_nil, agNil, agRo, agBo, agMu, agTm, callK, boIx, muIx, tms, argsK, upE, reown, hasBo, noTm, flatRo, noLstAll, noLst, noLsts, List.nodup_nil, List.nodup_cons, List.not_mem_nil, not_false_eq_true, Nat.zero_le, Nat.le_refl, Nat.reduceLeDiff, List.mem_cons, or_false, reduceCtorEq,
  gN, gTp, gCn, gNl, iR1, iR2, iLst, iTpl, iEnum, stab,
  true_and, and_true, Bool.true_eq_false, Bool.false_eq_true, false_imp_iff, forall_const, true_imp_iff, and_self, decide_eq_true_eq, decide_eq_false_iff_not, Bool.not_eq_true', Bool.not_eq_false'])
namespace CD
/-! ### ahead of a number by a word -/
theorem form_a_size {base : Nat} {rs : List (Int × Int)} (hr : RulesOk base rs) {ws : List Int} (hw : Wd rs.length ws) : Bt (1 + 12 * ws.length) (formF rs ws).1 ∧ 1 ≤ (formF rs ws).1 := by
  induction ws using snocRec with
  | nil => exact ⟨by show Bt 1 (1 : Int); unfold Bt; decide, by show (1 : Int) ≤ 1; decide⟩
  | append_singleton ws e ih =>
    have ih := ih fun x hx => hw x (by simp [hx])
    have he := hw e (by simp)
    rw [formF_snoc, List.length_append, List.length_singleton]
    obtain ⟨i, hi⟩ := List.getElem?_of_mem (mem_getD (x := ((1 : Int), (0 : Int))) he.1 he.2)
    have q := hr.ok i _ hi
    have g1 : 1 ≤ (ruleAt rs e).1 := q.1.1
    have g2 : (ruleAt rs e).1 ≤ 1000 := q.2.1
    have q1 : Bt 12 (ruleAt rs e).1 := Bt.of (by omega) (by omega) (by omega)
    exact ⟨(q1.mul ih.1).mono (by omega), pos_mul g1 ih.2⟩
def backW (rs : List (Int × Int)) (p : Int × Int) (ws : List Int) : Int × Int := low ((formF rs ws).2.2 * p.1 - (formF rs ws).2.1 * p.2) ((formF rs ws).1 * p.2)
theorem backW_spec {base : Nat} {rs : List (Int × Int)} (hr : RulesOk base rs) (h2 : 2 ≤ base) (h6 : base ≤ 60) {p : Int × Int} (hg : Good rs.length p) {ws : List Int} (hw : Wd rs.length ws) :
    Good rs.length (backW rs p ws) ∧ uWord rs (backW rs p ws).2 (backW rs p ws).1 ws.length = ws ∧ uWalk rs (backW rs p ws).2 (backW rs p ws).1 ws.length * p.2 = p.1 * (backW rs p ws).2 := by
  have h := hr.map h2 (by omega)
  have ha := (form_a_size hr hw).2
  have hb : 1 ≤ (formF rs ws).1 * p.2 := pos_mul ha hg.1
  have hbg : Int.gcd ((formF rs ws).1 * p.2) rs.length = 1 := gcd_mul (form_gcd h hw) hg.2.2
  have g : Good rs.length (backW rs p ws) := low_good (t := (formF rs ws).2.2 * p.1 - (formF rs ws).2.1 * p.2) hb hbg
  obtain ⟨c, hc, eu, eq⟩ := low_gcd (u := (formF rs ws).2.2 * p.1 - (formF rs ws).2.1 * p.2) hb
  have eu : (formF rs ws).2.2 * p.1 - (formF rs ws).2.1 * p.2 = (backW rs p ws).1 * c := eu
  have eq : (formF rs ws).1 * p.2 = (backW rs p ws).2 * c := eq
  have hcg : Int.gcd c rs.length = 1 := gcd_of_dvd ⟨(backW rs p ws).2, by rw [eq]; exact Int.mul_comm _ _⟩ hbg
  have hs0 : 0 < (formF rs ws).2.2 := by rw [formF_scale]; exact Int.pow_pos h.pos
  have hcs : Int.gcd c (formF rs ws).2.2 = 1 := by rw [formF_scale]; exact gcd_pow hcg _
  have fi := form_iffU h g.2.2 (backW rs p ws).1 hw
  have key : ((formF rs ws).1 * (backW rs p ws).1 + (formF rs ws).2.1 * (backW rs p ws).2) * c = (formF rs ws).2.2 * ((formF rs ws).1 * p.1) := by
    have a1 : ((formF rs ws).1 * (backW rs p ws).1 + (formF rs ws).2.1 * (backW rs p ws).2) * c = (formF rs ws).1 * ((backW rs p ws).1 * c) + (formF rs ws).2.1 * ((backW rs p ws).2 * c) := by grind
    rw [a1, ← eu, ← eq]; grind
  have d := dvd_of_gcd hcs (show (formF rs ws).2.2 ∣ ((formF rs ws).1 * (backW rs p ws).1 + (formF rs ws).2.1 * (backW rs p ws).2) * c by rw [key]; exact Int.dvd_mul_right _ _)
  have uw := fi.mpr d
  refine ⟨g, uw, ?_⟩
  have fw := form_walkU h g.2.2 (backW rs p ws).1 ws.length
  rw [uw] at fw
  rw [fw] at key
  have k1 : uWalk rs (backW rs p ws).2 (backW rs p ws).1 ws.length * c = (formF rs ws).1 * p.1 := by
    rw [Int.mul_assoc] at key
    exact Int.eq_of_mul_eq_mul_left (by omega) key
  have k2 : (uWalk rs (backW rs p ws).2 (backW rs p ws).1 ws.length * p.2) * c = (p.1 * (backW rs p ws).2) * c := by
    have a1 : (uWalk rs (backW rs p ws).2 (backW rs p ws).1 ws.length * p.2) * c = (uWalk rs (backW rs p ws).2 (backW rs p ws).1 ws.length * c) * p.2 := by grind
    have a2 : (p.1 * (backW rs p ws).2) * c = p.1 * ((backW rs p ws).2 * c) := by grind
    rw [a1, k1, a2, ← eq]; grind
  exact Int.eq_of_mul_eq_mul_right (by omega) k2
/- back_by: 0:rule_map 1:number 2:word 3:a 4:b 5:whole 6:top 7:bottom -/
/- _law_word: 0:cards 1:modulus 2:size 3:k -/
/- _law_leads: 0:rules 1:found 2:line 3:number 4:told 5:top -/
end CD
end TL

namespace TL
open PySem L2
local macro_rules | `(tactic| walk_at "sx") => `(tactic| simp only [sSeq, sNil, sSet, sFrz, frz_o, frz_sh, frz_s, sIf, sRet, sRetN, sPass, sBrk, sPar, sSub, sApp, sExpr, sAsg, sAug, sFld, sRevI, sPop, eLoc, eC, eUn, eBin, eAnd, eOr, eNot, eIf, eTup, eLst, dNil, dCons, tVal_eq, tstD_bl, tAndW, tOrW, tNotW, eFld_eq, eFldD_o, eProp, eMeth, eMeth0, eSl, pNone, pSome, sl_l,
  out_sh, out_fr, get_loc, get_sh, get_fr, getL_z, getL_o, getL_s, bound_z, bound_o, bound_s, isOwn_o, isOwn_s, pok_loc, pok_sh, pok_fr, stl_loc, stlS_sh, stlS_own, stl_sh, stl_fr, lay_fr, lay_sh, lay_loc, envOf, slotsOf, valN, ghOf, endK, resK, exMu, muN, List.cons_append, List.nil_append, List.append_nil, List.length_cons, List.length_nil, Nat.reduceAdd, Nat.reduceSub, List.replicate_succ, List.replicate_zero, List.replicate,
  List.getElem?_cons_zero, List.getElem?_cons_succ, List.getElem?_nil, List.set_cons_zero, List.set_cons_succ,
  add_ii, add_ss, add_ll, sub_ii, mul_ii, fdv_ii, fdvN_ii, mod_ii, modN_ii, pow_ii, lt_ii, le_ii, gt_ii, ge_ii, eq_ii, ne_ii, ix_li, ix_ti, neg_i, abs_i, int_i, int_b, max_ii, min_ii, len_l, len_t, list_l, list_t, rev_l, isi_int, isi_bl, isi_tup, isi_lst, isi_non, isN_i, isN_n, isN_t, isN_l, notN_i, notN_n, notN_t, notN_l, isTy,
  atI0, atI1, atI2, ixN0, ixN1, ixN2, some_inj_ex, isObj, setAt0, setAt1, setAt2, setAt3, restE, keepS, wipeE, ↓reduceIte, if_false, if_true,
  eCall, eCallP, eMake, pm, List.filterMap_cons, List.filterMap_nil, agNil, agRo, agBo, agMu, agTm, callK, boIx, muIx, tms, argsK, upE, reown, hasBo, noTm, flatRo, noLstAll, noLst, noLsts, List.nodup_nil, List.nodup_cons, List.not_mem_nil, not_false_eq_true, Nat.zero_le, Nat.le_refl, Nat.reduceLeDiff, List.mem_cons, or_false, reduceCtorEq,
  gN, gTp, gCn, gNl, iR1, iR2, iLst, iTpl, iEnum, stab,
  true_and, and_true, Bool.true_eq_false, Bool.false_eq_true, false_imp_iff, forall_const, true_imp_iff, and_self, decide_eq_true_eq, decide_eq_false_iff_not, Bool.not_eq_true', Bool.not_eq_false'])
namespace CD
namespace K45
/- _law_right: 0:cards 1:modulus 2:rules 3:number 4:built 5:size 6:line 7:passed -/
/- law: 0:script 1:k -/
end K45
end CD
end TL

namespace TL
open PySem L2
local macro_rules | `(tactic| walk_at "sx") => `(tactic| simp only [sSeq, sNil, sSet, sFrz, frz_o, frz_sh, frz_s, sIf, sRet, sRetN, sPass, sBrk, sPar, sSub, sApp, sExpr, sAsg, sAug, sFld, sRevI, sPop, eLoc, eC, eUn, eBin, eAnd, eOr, eNot, eIf, eTup, eLst, dNil, dCons, tVal_eq, tstD_bl, tAndW, tOrW, tNotW, eFld_eq, eFldD_o, eProp, eMeth, eMeth0, eSl, pNone, pSome, sl_l,
  out_sh, out_fr, get_loc, get_sh, get_fr, getL_z, getL_o, getL_s, bound_z, bound_o, bound_s, isOwn_o, isOwn_s, pok_loc, pok_sh, pok_fr, stl_loc, stlS_sh, stlS_own, stl_sh, stl_fr, lay_fr, lay_sh, lay_loc, envOf, slotsOf, valN, ghOf, endK, resK, exMu, muN, List.cons_append, List.nil_append, List.append_nil, List.length_cons, List.length_nil, Nat.reduceAdd, Nat.reduceSub, List.replicate_succ, List.replicate_zero, List.replicate,
  List.getElem?_cons_zero, List.getElem?_cons_succ, List.getElem?_nil, List.set_cons_zero, List.set_cons_succ,
  add_ii, add_ss, add_ll, sub_ii, mul_ii, fdv_ii, fdvN_ii, mod_ii, modN_ii, pow_ii, lt_ii, le_ii, gt_ii, ge_ii, eq_ii, ne_ii, ix_li, ix_ti, neg_i, abs_i, int_i, int_b, max_ii, min_ii, len_l, len_t, list_l, list_t, rev_l, isi_int, isi_bl, isi_tup, isi_lst, isi_non, isN_i, isN_n, isN_t, isN_l, notN_i, notN_n, notN_t, notN_l, isTy,
  atI0, atI1, atI2, ixN0, ixN1, ixN2, some_inj_ex, isObj, setAt0, setAt1, setAt2, setAt3, restE, keepS, wipeE, ↓reduceIte, if_false, if_true,
  eCall, eCallP, eMake, pm, List.filterMap_cons, List.filterMap_nil, agNil, agRo, agBo, agMu, agTm, callK, boIx, muIx, tms, argsK, upE, reown, hasBo, noTm, flatRo, noLstAll, noLst, noLsts, List.nodup_nil, List.nodup_cons, List.not_mem_nil, not_false_eq_true, Nat.zero_le, Nat.le_refl, Nat.reduceLeDiff, List.mem_cons, or_false, reduceCtorEq,
  gN, gTp, gCn, gNl, iR1, iR2, iLst, iTpl, iEnum, stab,
  true_and, and_true, Bool.true_eq_false, Bool.false_eq_true, false_imp_iff, forall_const, true_imp_iff, and_self, decide_eq_true_eq, decide_eq_false_iff_not, Bool.not_eq_true', Bool.not_eq_false'])
namespace CD
/-! ### falling words -/
/- is_falling: 0:rule_map 1:word 2:rules 3:product 4:whole 5:k -/
/- _law_falls: 0:rules 1:line 2:product 3:whole 4:k -/
/- _law_standing: 0:cards 1:rules 2:size 3:great 4:high 5:line 6:product 7:whole 8:k 9:drawn 10:rule -/
/- _law_fallen: 0:rules 1:line 2:limit 3:small 4:low 5:found 6:product 7:whole 8:k 9:entry 10:rule -/
end CD
end TL

namespace TL
open PySem L2
local macro_rules | `(tactic| walk_at "sx") => `(tactic| simp only [sSeq, sNil, sSet, sFrz, frz_o, frz_sh, frz_s, sIf, sRet, sRetN, sPass, sBrk, sPar, sSub, sApp, sExpr, sAsg, sAug, sFld, sRevI, sPop, eLoc, eC, eUn, eBin, eAnd, eOr, eNot, eIf, eTup, eLst, dNil, dCons, tVal_eq, tstD_bl, tAndW, tOrW, tNotW, eFld_eq, eFldD_o, eProp, eMeth, eMeth0, eSl, pNone, pSome, sl_l,
  out_sh, out_fr, get_loc, get_sh, get_fr, getL_z, getL_o, getL_s, bound_z, bound_o, bound_s, isOwn_o, isOwn_s, pok_loc, pok_sh, pok_fr, stl_loc, stlS_sh, stlS_own, stl_sh, stl_fr, lay_fr, lay_sh, lay_loc, envOf, slotsOf, valN, ghOf, endK, resK, exMu, muN, List.cons_append, List.nil_append, List.append_nil, List.length_cons, List.length_nil, Nat.reduceAdd, Nat.reduceSub, List.replicate_succ, List.replicate_zero, List.replicate,
  List.getElem?_cons_zero, List.getElem?_cons_succ, List.getElem?_nil, List.set_cons_zero, List.set_cons_succ,
  add_ii, add_ss, add_ll, sub_ii, mul_ii, fdv_ii, fdvN_ii, mod_ii, modN_ii, pow_ii, lt_ii, le_ii, gt_ii, ge_ii, eq_ii, ne_ii, ix_li, ix_ti, neg_i, abs_i, int_i, int_b, max_ii, min_ii, len_l, len_t, list_l, list_t, rev_l, isi_int, isi_bl, isi_tup, isi_lst, isi_non, isN_i, isN_n, isN_t, isN_l, notN_i, notN_n, notN_t, notN_l, isTy,
  atI0, atI1, atI2, ixN0, ixN1, ixN2, some_inj_ex, isObj, setAt0, setAt1, setAt2, setAt3, restE, keepS, wipeE, ↓reduceIte, if_false, if_true,
  eCall, eCallP, eMake, pm, List.filterMap_cons, List.filterMap_nil, agNil, agRo, agBo, agMu, agTm, callK, boIx, muIx, tms, argsK, upE, reown, hasBo, noTm, flatRo, noLstAll, noLst, noLsts, List.nodup_nil, List.nodup_cons, List.not_mem_nil, not_false_eq_true, Nat.zero_le, Nat.le_refl, Nat.reduceLeDiff, List.mem_cons, or_false, reduceCtorEq,
  gN, gTp, gCn, gNl, iR1, iR2, iLst, iTpl, iEnum, stab,
  true_and, and_true, Bool.true_eq_false, Bool.false_eq_true, false_imp_iff, forall_const, true_imp_iff, and_self, decide_eq_true_eq, decide_eq_false_iff_not, Bool.not_eq_true', Bool.not_eq_false'])
namespace CD
namespace K35
/- _law_right: 0:cards 1:modulus 2:rules 3:built 4:start 5:low 6:lines 7:line 8:passed 9:found -/
/- law: 0:script 1:k -/
end K35
end CD
end TL

namespace TL
open PySem L2
local macro_rules | `(tactic| walk_at "sx") => `(tactic| simp only [sSeq, sNil, sSet, sFrz, frz_o, frz_sh, frz_s, sIf, sRet, sRetN, sPass, sBrk, sPar, sSub, sApp, sExpr, sAsg, sAug, sFld, sRevI, sPop, eLoc, eC, eUn, eBin, eAnd, eOr, eNot, eIf, eTup, eLst, dNil, dCons, tVal_eq, tstD_bl, tAndW, tOrW, tNotW, eFld_eq, eFldD_o, eProp, eMeth, eMeth0, eSl, pNone, pSome, sl_l,
  out_sh, out_fr, get_loc, get_sh, get_fr, getL_z, getL_o, getL_s, bound_z, bound_o, bound_s, isOwn_o, isOwn_s, pok_loc, pok_sh, pok_fr, stl_loc, stlS_sh, stlS_own, stl_sh, stl_fr, lay_fr, lay_sh, lay_loc, envOf, slotsOf, valN, ghOf, endK, resK, exMu, muN, List.cons_append, List.nil_append, List.append_nil, List.length_cons, List.length_nil, Nat.reduceAdd, Nat.reduceSub, List.replicate_succ, List.replicate_zero, List.replicate,
  List.getElem?_cons_zero, List.getElem?_cons_succ, List.getElem?_nil, List.set_cons_zero, List.set_cons_succ,
  add_ii, add_ss, add_ll, sub_ii, mul_ii, fdv_ii, fdvN_ii, mod_ii, modN_ii, pow_ii, lt_ii, le_ii, gt_ii, ge_ii, eq_ii, ne_ii, ix_li, ix_ti, neg_i, abs_i, int_i, int_b, max_ii, min_ii, len_l, len_t, list_l, list_t, rev_l, isi_int, isi_bl, isi_tup, isi_lst, isi_non, isN_i, isN_n, isN_t, isN_l, notN_i, notN_n, notN_t, notN_l, isTy,
  atI0, atI1, atI2, ixN0, ixN1, ixN2, some_inj_ex, isObj, setAt0, setAt1, setAt2, setAt3, restE, keepS, wipeE, ↓reduceIte, if_false, if_true,
  eCall, eCallP, eMake, pm, List.filterMap_cons, List.filterMap_nil, agNil, agRo, agBo, agMu, agTm, callK, boIx, muIx, tms, argsK, upE, reown, hasBo, noTm, flatRo, noLstAll, noLst, noLsts, List.nodup_nil, List.nodup_cons, List.not_mem_nil, not_false_eq_true, Nat.zero_le, Nat.le_refl, Nat.reduceLeDiff, List.mem_cons, or_false, reduceCtorEq,
  gN, gTp, gCn, gNl, iR1, iR2, iLst, iTpl, iEnum, stab,
  true_and, and_true, Bool.true_eq_false, Bool.false_eq_true, false_imp_iff, forall_const, true_imp_iff, and_self, decide_eq_true_eq, decide_eq_false_iff_not, Bool.not_eq_true', Bool.not_eq_false'])
namespace CD
/-! ### where falling begins -/
/- falls_from: 0:rule_map 1:word 2:a 3:b 4:whole 5:border -/
/- _law_step: 0:rules 1:number 2:a 3:b -/
/- _law_taken: 0:rules 1:word 2:number 3:entry -/
/- _law_falls_at: 0:rules 1:word 2:number 3:taken -/
end CD
end TL

namespace TL
open PySem L2
local macro_rules | `(tactic| walk_at "sx") => `(tactic| simp only [sSeq, sNil, sSet, sFrz, frz_o, frz_sh, frz_s, sIf, sRet, sRetN, sPass, sBrk, sPar, sSub, sApp, sExpr, sAsg, sAug, sFld, sRevI, sPop, eLoc, eC, eUn, eBin, eAnd, eOr, eNot, eIf, eTup, eLst, dNil, dCons, tVal_eq, tstD_bl, tAndW, tOrW, tNotW, eFld_eq, eFldD_o, eProp, eMeth, eMeth0, eSl, pNone, pSome, sl_l,
  out_sh, out_fr, get_loc, get_sh, get_fr, getL_z, getL_o, getL_s, bound_z, bound_o, bound_s, isOwn_o, isOwn_s, pok_loc, pok_sh, pok_fr, stl_loc, stlS_sh, stlS_own, stl_sh, stl_fr, lay_fr, lay_sh, lay_loc, envOf, slotsOf, valN, ghOf, endK, resK, exMu, muN, List.cons_append, List.nil_append, List.append_nil, List.length_cons, List.length_nil, Nat.reduceAdd, Nat.reduceSub, List.replicate_succ, List.replicate_zero, List.replicate,
  List.getElem?_cons_zero, List.getElem?_cons_succ, List.getElem?_nil, List.set_cons_zero, List.set_cons_succ,
  add_ii, add_ss, add_ll, sub_ii, mul_ii, fdv_ii, fdvN_ii, mod_ii, modN_ii, pow_ii, lt_ii, le_ii, gt_ii, ge_ii, eq_ii, ne_ii, ix_li, ix_ti, neg_i, abs_i, int_i, int_b, max_ii, min_ii, len_l, len_t, list_l, list_t, rev_l, isi_int, isi_bl, isi_tup, isi_lst, isi_non, isN_i, isN_n, isN_t, isN_l, notN_i, notN_n, notN_t, notN_l, isTy,
  atI0, atI1, atI2, ixN0, ixN1, ixN2, some_inj_ex, isObj, setAt0, setAt1, setAt2, setAt3, restE, keepS, wipeE, ↓reduceIte, if_false, if_true,
  eCall, eCallP, eMake, pm, List.filterMap_cons, List.filterMap_nil, agNil, agRo, agBo, agMu, agTm, callK, boIx, muIx, tms, argsK, upE, reown, hasBo, noTm, flatRo, noLstAll, noLst, noLsts, List.nodup_nil, List.nodup_cons, List.not_mem_nil, not_false_eq_true, Nat.zero_le, Nat.le_refl, Nat.reduceLeDiff, List.mem_cons, or_false, reduceCtorEq,
  gN, gTp, gCn, gNl, iR1, iR2, iLst, iTpl, iEnum, stab,
  true_and, and_true, Bool.true_eq_false, Bool.false_eq_true, false_imp_iff, forall_const, true_imp_iff, and_self, decide_eq_true_eq, decide_eq_false_iff_not, Bool.not_eq_true', Bool.not_eq_false'])
namespace CD
namespace K37
/- _law_right: 0:cards 1:modulus 2:rules 3:low 4:size 5:start 6:line 7:built 8:passed 9:found 10:whole 11:taken 12:far -/
/- law: 0:script 1:k -/
end K37
end CD
end TL

namespace TL
open PySem L2
local macro_rules | `(tactic| walk_at "sx") => `(tactic| simp only [sSeq, sNil, sSet, sFrz, frz_o, frz_sh, frz_s, sIf, sRet, sRetN, sPass, sBrk, sPar, sSub, sApp, sExpr, sAsg, sAug, sFld, sRevI, sPop, eLoc, eC, eUn, eBin, eAnd, eOr, eNot, eIf, eTup, eLst, dNil, dCons, tVal_eq, tstD_bl, tAndW, tOrW, tNotW, eFld_eq, eFldD_o, eProp, eMeth, eMeth0, eSl, pNone, pSome, sl_l,
  out_sh, out_fr, get_loc, get_sh, get_fr, getL_z, getL_o, getL_s, bound_z, bound_o, bound_s, isOwn_o, isOwn_s, pok_loc, pok_sh, pok_fr, stl_loc, stlS_sh, stlS_own, stl_sh, stl_fr, lay_fr, lay_sh, lay_loc, envOf, slotsOf, valN, ghOf, endK, resK, exMu, muN, List.cons_append, List.nil_append, List.append_nil, List.length_cons, List.length_nil, Nat.reduceAdd, Nat.reduceSub, List.replicate_succ, List.replicate_zero, List.replicate,
  List.getElem?_cons_zero, List.getElem?_cons_succ, List.getElem?_nil, List.set_cons_zero, List.set_cons_succ,
  add_ii, add_ss, add_ll, sub_ii, mul_ii, fdv_ii, fdvN_ii, mod_ii, modN_ii, pow_ii, lt_ii, le_ii, gt_ii, ge_ii, eq_ii, ne_ii, ix_li, ix_ti, neg_i, abs_i, int_i, int_b, max_ii, min_ii, len_l, len_t, list_l, list_t, rev_l, isi_int, isi_bl, isi_tup, isi_lst, isi_non, isN_i, isN_n, isN_t, isN_l, notN_i, notN_n, notN_t, notN_l, isTy,
  atI0, atI1, atI2, ixN0, ixN1, ixN2, some_inj_ex, isObj, setAt0, setAt1, setAt2, setAt3, restE, keepS, wipeE, ↓reduceIte, if_false, if_true,
  eCall, eCallP, eMake, pm, List.filterMap_cons, List.filterMap_nil, agNil, agRo, agBo, agMu, agTm, callK, boIx, muIx, tms, argsK, upE, reown, hasBo, noTm, flatRo, noLstAll, noLst, noLsts, List.nodup_nil, List.nodup_cons, List.not_mem_nil, not_false_eq_true, Nat.zero_le, Nat.le_refl, Nat.reduceLeDiff, List.mem_cons, or_false, reduceCtorEq,
  gN, gTp, gCn, gNl, iR1, iR2, iLst, iTpl, iEnum, stab,
  true_and, and_true, Bool.true_eq_false, Bool.false_eq_true, false_imp_iff, forall_const, true_imp_iff, and_self, decide_eq_true_eq, decide_eq_false_iff_not, Bool.not_eq_true', Bool.not_eq_false'])
namespace CD
/- _law_form: 0:rules 1:line 2:a 3:b 4:whole 5:entry -/
/- distance_of: 0:rule_map 1:one 2:other 3:a 4:b 5:whole 6:other_a 7:other_b -/
/- _law_meet: 0:rules 1:first 2:second 3:found 4:there 5:a 6:b 7:whole 8:top 9:bottom -/
end CD
end TL

namespace TL
open PySem L2
local macro_rules | `(tactic| walk_at "sx") => `(tactic| simp only [sSeq, sNil, sSet, sFrz, frz_o, frz_sh, frz_s, sIf, sRet, sRetN, sPass, sBrk, sPar, sSub, sApp, sExpr, sAsg, sAug, sFld, sRevI, sPop, eLoc, eC, eUn, eBin, eAnd, eOr, eNot, eIf, eTup, eLst, dNil, dCons, tVal_eq, tstD_bl, tAndW, tOrW, tNotW, eFld_eq, eFldD_o, eProp, eMeth, eMeth0, eSl, pNone, pSome, sl_l,
  out_sh, out_fr, get_loc, get_sh, get_fr, getL_z, getL_o, getL_s, bound_z, bound_o, bound_s, isOwn_o, isOwn_s, pok_loc, pok_sh, pok_fr, stl_loc, stlS_sh, stlS_own, stl_sh, stl_fr, lay_fr, lay_sh, lay_loc, envOf, slotsOf, valN, ghOf, endK, resK, exMu, muN, List.cons_append, List.nil_append, List.append_nil, List.length_cons, List.length_nil, Nat.reduceAdd, Nat.reduceSub, List.replicate_succ, List.replicate_zero, List.replicate,
  List.getElem?_cons_zero, List.getElem?_cons_succ, List.getElem?_nil, List.set_cons_zero, List.set_cons_succ,
  add_ii, add_ss, add_ll, sub_ii, mul_ii, fdv_ii, fdvN_ii, mod_ii, modN_ii, pow_ii, lt_ii, le_ii, gt_ii, ge_ii, eq_ii, ne_ii, ix_li, ix_ti, neg_i, abs_i, int_i, int_b, max_ii, min_ii, len_l, len_t, list_l, list_t, rev_l, isi_int, isi_bl, isi_tup, isi_lst, isi_non, isN_i, isN_n, isN_t, isN_l, notN_i, notN_n, notN_t, notN_l, isTy,
  atI0, atI1, atI2, ixN0, ixN1, ixN2, some_inj_ex, isObj, setAt0, setAt1, setAt2, setAt3, restE, keepS, wipeE, ↓reduceIte, if_false, if_true,
  eCall, eCallP, eMake, pm, List.filterMap_cons, List.filterMap_nil, agNil, agRo, agBo, agMu, agTm, callK, boIx, muIx, tms, argsK, upE, reown, hasBo, noTm, flatRo, noLstAll, noLst, noLsts, List.nodup_nil, List.nodup_cons, List.not_mem_nil, not_false_eq_true, Nat.zero_le, Nat.le_refl, Nat.reduceLeDiff, List.mem_cons, or_false, reduceCtorEq,
  gN, gTp, gCn, gNl, iR1, iR2, iLst, iTpl, iEnum, stab,
  true_and, and_true, Bool.true_eq_false, Bool.false_eq_true, false_imp_iff, forall_const, true_imp_iff, and_self, decide_eq_true_eq, decide_eq_false_iff_not, Bool.not_eq_true', Bool.not_eq_false'])
namespace CD
namespace K51
/- _law_other: 0:cards 1:modulus 2:line 3:kind 4:at -/
/- _law_right: 0:cards 1:modulus 2:rules 3:size 4:first 5:second 6:built 7:passed 8:found 9:back -/
/- law: 0:script 1:k -/
end K51
end CD
end TL

namespace TL
open PySem L2
local macro_rules | `(tactic| walk_at "sx") => `(tactic| simp only [sSeq, sNil, sSet, sFrz, frz_o, frz_sh, frz_s, sIf, sRet, sRetN, sPass, sBrk, sPar, sSub, sApp, sExpr, sAsg, sAug, sFld, sRevI, sPop, eLoc, eC, eUn, eBin, eAnd, eOr, eNot, eIf, eTup, eLst, dNil, dCons, tVal_eq, tstD_bl, tAndW, tOrW, tNotW, eFld_eq, eFldD_o, eProp, eMeth, eMeth0, eSl, pNone, pSome, sl_l,
  out_sh, out_fr, get_loc, get_sh, get_fr, getL_z, getL_o, getL_s, bound_z, bound_o, bound_s, isOwn_o, isOwn_s, pok_loc, pok_sh, pok_fr, stl_loc, stlS_sh, stlS_own, stl_sh, stl_fr, lay_fr, lay_sh, lay_loc, envOf, slotsOf, valN, ghOf, endK, resK, exMu, muN, List.cons_append, List.nil_append, List.append_nil, List.length_cons, List.length_nil, Nat.reduceAdd, Nat.reduceSub, List.replicate_succ, List.replicate_zero, List.replicate,
  List.getElem?_cons_zero, List.getElem?_cons_succ, List.getElem?_nil, List.set_cons_zero, List.set_cons_succ,
  add_ii, add_ss, add_ll, sub_ii, mul_ii, fdv_ii, fdvN_ii, mod_ii, modN_ii, pow_ii, lt_ii, le_ii, gt_ii, ge_ii, eq_ii, ne_ii, ix_li, ix_ti, neg_i, abs_i, int_i, int_b, max_ii, min_ii, len_l, len_t, list_l, list_t, rev_l, isi_int, isi_bl, isi_tup, isi_lst, isi_non, isN_i, isN_n, isN_t, isN_l, notN_i, notN_n, notN_t, notN_l, isTy,
  atI0, atI1, atI2, ixN0, ixN1, ixN2, some_inj_ex, isObj, setAt0, setAt1, setAt2, setAt3, restE, keepS, wipeE, ↓reduceIte, if_false, if_true,
  eCall, eCallP, eMake, pm, List.filterMap_cons, List.filterMap_nil, agNil, agRo, agBo, agMu, agTm, callK, boIx, muIx, tms, argsK, upE, reown, hasBo, noTm, flatRo, noLstAll, noLst, noLsts, List.nodup_nil, List.nodup_cons, List.not_mem_nil, not_false_eq_true, Nat.zero_le, Nat.le_refl, Nat.reduceLeDiff, List.mem_cons, or_false, reduceCtorEq,
  gN, gTp, gCn, gNl, iR1, iR2, iLst, iTpl, iEnum, stab,
  true_and, and_true, Bool.true_eq_false, Bool.false_eq_true, false_imp_iff, forall_const, true_imp_iff, and_self, decide_eq_true_eq, decide_eq_false_iff_not, Bool.not_eq_true', Bool.not_eq_false'])
namespace CD
/- _law_length: 0:cards 1:modulus 2:limit 3:greatest 4:whole 5:k -/
/- twin: 0:one 1:other 2:number 3:steps -/
namespace CH
/- _law_changed: 0:cards 1:rules 2:found 3:k 4:kind -/
end CH
end CD
end TL

namespace TL
open PySem L2
local macro_rules | `(tactic| walk_at "sx") => `(tactic| simp only [sSeq, sNil, sSet, sFrz, frz_o, frz_sh, frz_s, sIf, sRet, sRetN, sPass, sBrk, sPar, sSub, sApp, sExpr, sAsg, sAug, sFld, sRevI, sPop, eLoc, eC, eUn, eBin, eAnd, eOr, eNot, eIf, eTup, eLst, dNil, dCons, tVal_eq, tstD_bl, tAndW, tOrW, tNotW, eFld_eq, eFldD_o, eProp, eMeth, eMeth0, eSl, pNone, pSome, sl_l,
  out_sh, out_fr, get_loc, get_sh, get_fr, getL_z, getL_o, getL_s, bound_z, bound_o, bound_s, isOwn_o, isOwn_s, pok_loc, pok_sh, pok_fr, stl_loc, stlS_sh, stlS_own, stl_sh, stl_fr, lay_fr, lay_sh, lay_loc, envOf, slotsOf, valN, ghOf, endK, resK, exMu, muN, List.cons_append, List.nil_append, List.append_nil, List.length_cons, List.length_nil, Nat.reduceAdd, Nat.reduceSub, List.replicate_succ, List.replicate_zero, List.replicate,
  List.getElem?_cons_zero, List.getElem?_cons_succ, List.getElem?_nil, List.set_cons_zero, List.set_cons_succ,
  add_ii, add_ss, add_ll, sub_ii, mul_ii, fdv_ii, fdvN_ii, mod_ii, modN_ii, pow_ii, lt_ii, le_ii, gt_ii, ge_ii, eq_ii, ne_ii, ix_li, ix_ti, neg_i, abs_i, int_i, int_b, max_ii, min_ii, len_l, len_t, list_l, list_t, rev_l, isi_int, isi_bl, isi_tup, isi_lst, isi_non, isN_i, isN_n, isN_t, isN_l, notN_i, notN_n, notN_t, notN_l, isTy,
  atI0, atI1, atI2, ixN0, ixN1, ixN2, some_inj_ex, isObj, setAt0, setAt1, setAt2, setAt3, restE, keepS, wipeE, ↓reduceIte, if_false, if_true,
  eCall, eCallP, eMake, pm, List.filterMap_cons, List.filterMap_nil, agNil, agRo, agBo, agMu, agTm, callK, boIx, muIx, tms, argsK, upE, reown, hasBo, noTm, flatRo, noLstAll, noLst, noLsts, List.nodup_nil, List.nodup_cons, List.not_mem_nil, not_false_eq_true, Nat.zero_le, Nat.le_refl, Nat.reduceLeDiff, List.mem_cons, or_false, reduceCtorEq,
  gN, gTp, gCn, gNl, iR1, iR2, iLst, iTpl, iEnum, stab,
  true_and, and_true, Bool.true_eq_false, Bool.false_eq_true, false_imp_iff, forall_const, true_imp_iff, and_self, decide_eq_true_eq, decide_eq_false_iff_not, Bool.not_eq_true', Bool.not_eq_false'])
namespace CD
namespace CH
namespace K55
/- _law_right: 0:cards 1:modulus 2:rules 3:second 4:number 5:many 6:whole 7:built 8:line 9:turn 10:found 11:itself -/
/- law: 0:script 1:k -/
end K55
end CH
end CD
end TL

namespace TL
open PySem L2
local macro_rules | `(tactic| walk_at "sx") => `(tactic| simp only [sSeq, sNil, sSet, sFrz, frz_o, frz_sh, frz_s, sIf, sRet, sRetN, sPass, sBrk, sPar, sSub, sApp, sExpr, sAsg, sAug, sFld, sRevI, sPop, eLoc, eC, eUn, eBin, eAnd, eOr, eNot, eIf, eTup, eLst, dNil, dCons, tVal_eq, tstD_bl, tAndW, tOrW, tNotW, eFld_eq, eFldD_o, eProp, eMeth, eMeth0, eSl, pNone, pSome, sl_l,
  out_sh, out_fr, get_loc, get_sh, get_fr, getL_z, getL_o, getL_s, bound_z, bound_o, bound_s, isOwn_o, isOwn_s, pok_loc, pok_sh, pok_fr, stl_loc, stlS_sh, stlS_own, stl_sh, stl_fr, lay_fr, lay_sh, lay_loc, envOf, slotsOf, valN, ghOf, endK, resK, exMu, muN, List.cons_append, List.nil_append, List.append_nil, List.length_cons, List.length_nil, Nat.reduceAdd, Nat.reduceSub, List.replicate_succ, List.replicate_zero, List.replicate,
  List.getElem?_cons_zero, List.getElem?_cons_succ, List.getElem?_nil, List.set_cons_zero, List.set_cons_succ,
  add_ii, add_ss, add_ll, sub_ii, mul_ii, fdv_ii, fdvN_ii, mod_ii, modN_ii, pow_ii, lt_ii, le_ii, gt_ii, ge_ii, eq_ii, ne_ii, ix_li, ix_ti, neg_i, abs_i, int_i, int_b, max_ii, min_ii, len_l, len_t, list_l, list_t, rev_l, isi_int, isi_bl, isi_tup, isi_lst, isi_non, isN_i, isN_n, isN_t, isN_l, notN_i, notN_n, notN_t, notN_l, isTy,
  atI0, atI1, atI2, ixN0, ixN1, ixN2, some_inj_ex, isObj, setAt0, setAt1, setAt2, setAt3, restE, keepS, wipeE, ↓reduceIte, if_false, if_true,
  eCall, eCallP, eMake, pm, List.filterMap_cons, List.filterMap_nil, agNil, agRo, agBo, agMu, agTm, callK, boIx, muIx, tms, argsK, upE, reown, hasBo, noTm, flatRo, noLstAll, noLst, noLsts, List.nodup_nil, List.nodup_cons, List.not_mem_nil, not_false_eq_true, Nat.zero_le, Nat.le_refl, Nat.reduceLeDiff, List.mem_cons, or_false, reduceCtorEq,
  gN, gTp, gCn, gNl, iR1, iR2, iLst, iTpl, iEnum, stab,
  true_and, and_true, Bool.true_eq_false, Bool.false_eq_true, false_imp_iff, forall_const, true_imp_iff, and_self, decide_eq_true_eq, decide_eq_false_iff_not, Bool.not_eq_true', Bool.not_eq_false'])
namespace CD
/-! ### the forms of all classes -/
/- forms_by_class: 0:rule_map 1:steps 2:rules 3:modulus 4:forms 5:whole 6:step 7:longer 8:number 9:a 10:b 11:rule_a 12:rule_b -/
/- meeting_classes: 0:rule_map 1:apart 2:steps 3:forms 4:whole 5:found 6:number 7:a 8:b 9:other_a 10:other_b -/
end CD
end TL

namespace TL
open PySem L2
local macro_rules | `(tactic| walk_at "sx") => `(tactic| simp only [sSeq, sNil, sSet, sFrz, frz_o, frz_sh, frz_s, sIf, sRet, sRetN, sPass, sBrk, sPar, sSub, sApp, sExpr, sAsg, sAug, sFld, sRevI, sPop, eLoc, eC, eUn, eBin, eAnd, eOr, eNot, eIf, eTup, eLst, dNil, dCons, tVal_eq, tstD_bl, tAndW, tOrW, tNotW, eFld_eq, eFldD_o, eProp, eMeth, eMeth0, eSl, pNone, pSome, sl_l,
  out_sh, out_fr, get_loc, get_sh, get_fr, getL_z, getL_o, getL_s, bound_z, bound_o, bound_s, isOwn_o, isOwn_s, pok_loc, pok_sh, pok_fr, stl_loc, stlS_sh, stlS_own, stl_sh, stl_fr, lay_fr, lay_sh, lay_loc, envOf, slotsOf, valN, ghOf, endK, resK, exMu, muN, List.cons_append, List.nil_append, List.append_nil, List.length_cons, List.length_nil, Nat.reduceAdd, Nat.reduceSub, List.replicate_succ, List.replicate_zero, List.replicate,
  List.getElem?_cons_zero, List.getElem?_cons_succ, List.getElem?_nil, List.set_cons_zero, List.set_cons_succ,
  add_ii, add_ss, add_ll, sub_ii, mul_ii, fdv_ii, fdvN_ii, mod_ii, modN_ii, pow_ii, lt_ii, le_ii, gt_ii, ge_ii, eq_ii, ne_ii, ix_li, ix_ti, neg_i, abs_i, int_i, int_b, max_ii, min_ii, len_l, len_t, list_l, list_t, rev_l, isi_int, isi_bl, isi_tup, isi_lst, isi_non, isN_i, isN_n, isN_t, isN_l, notN_i, notN_n, notN_t, notN_l, isTy,
  atI0, atI1, atI2, ixN0, ixN1, ixN2, some_inj_ex, isObj, setAt0, setAt1, setAt2, setAt3, restE, keepS, wipeE, ↓reduceIte, if_false, if_true,
  eCall, eCallP, eMake, pm, List.filterMap_cons, List.filterMap_nil, agNil, agRo, agBo, agMu, agTm, callK, boIx, muIx, tms, argsK, upE, reown, hasBo, noTm, flatRo, noLstAll, noLst, noLsts, List.nodup_nil, List.nodup_cons, List.not_mem_nil, not_false_eq_true, Nat.zero_le, Nat.le_refl, Nat.reduceLeDiff, List.mem_cons, or_false, reduceCtorEq,
  gN, gTp, gCn, gNl, iR1, iR2, iLst, iTpl, iEnum, stab,
  true_and, and_true, Bool.true_eq_false, Bool.false_eq_true, false_imp_iff, forall_const, true_imp_iff, and_self, decide_eq_true_eq, decide_eq_false_iff_not, Bool.not_eq_true', Bool.not_eq_false'])
namespace CD
/- _law_wholes: 0:value 1:entry -/
/- _law_after: 0:rules 1:number 2:many 3:k -/
end CD
end TL

namespace TL
open PySem L2
local macro_rules | `(tactic| walk_at "sx") => `(tactic| simp only [sSeq, sNil, sSet, sFrz, frz_o, frz_sh, frz_s, sIf, sRet, sRetN, sPass, sBrk, sPar, sSub, sApp, sExpr, sAsg, sAug, sFld, sRevI, sPop, eLoc, eC, eUn, eBin, eAnd, eOr, eNot, eIf, eTup, eLst, dNil, dCons, tVal_eq, tstD_bl, tAndW, tOrW, tNotW, eFld_eq, eFldD_o, eProp, eMeth, eMeth0, eSl, pNone, pSome, sl_l,
  out_sh, out_fr, get_loc, get_sh, get_fr, getL_z, getL_o, getL_s, bound_z, bound_o, bound_s, isOwn_o, isOwn_s, pok_loc, pok_sh, pok_fr, stl_loc, stlS_sh, stlS_own, stl_sh, stl_fr, lay_fr, lay_sh, lay_loc, envOf, slotsOf, valN, ghOf, endK, resK, exMu, muN, List.cons_append, List.nil_append, List.append_nil, List.length_cons, List.length_nil, Nat.reduceAdd, Nat.reduceSub, List.replicate_succ, List.replicate_zero, List.replicate,
  List.getElem?_cons_zero, List.getElem?_cons_succ, List.getElem?_nil, List.set_cons_zero, List.set_cons_succ,
  add_ii, add_ss, add_ll, sub_ii, mul_ii, fdv_ii, fdvN_ii, mod_ii, modN_ii, pow_ii, lt_ii, le_ii, gt_ii, ge_ii, eq_ii, ne_ii, ix_li, ix_ti, neg_i, abs_i, int_i, int_b, max_ii, min_ii, len_l, len_t, list_l, list_t, rev_l, isi_int, isi_bl, isi_tup, isi_lst, isi_non, isN_i, isN_n, isN_t, isN_l, notN_i, notN_n, notN_t, notN_l, isTy,
  atI0, atI1, atI2, ixN0, ixN1, ixN2, some_inj_ex, isObj, setAt0, setAt1, setAt2, setAt3, restE, keepS, wipeE, ↓reduceIte, if_false, if_true,
  eCall, eCallP, eMake, pm, List.filterMap_cons, List.filterMap_nil, agNil, agRo, agBo, agMu, agTm, callK, boIx, muIx, tms, argsK, upE, reown, hasBo, noTm, flatRo, noLstAll, noLst, noLsts, List.nodup_nil, List.nodup_cons, List.not_mem_nil, not_false_eq_true, Nat.zero_le, Nat.le_refl, Nat.reduceLeDiff, List.mem_cons, or_false, reduceCtorEq,
  gN, gTp, gCn, gNl, iR1, iR2, iLst, iTpl, iEnum, stab,
  true_and, and_true, Bool.true_eq_false, Bool.false_eq_true, false_imp_iff, forall_const, true_imp_iff, and_self, decide_eq_true_eq, decide_eq_false_iff_not, Bool.not_eq_true', Bool.not_eq_false'])
namespace CD
namespace K48
/- _law_apart: 0:cards 1:rules 2:many 3:kind 4:line 5:a 6:b 7:whole 8:turned -/
/- _law_right: 0:cards 1:modulus 2:rules 3:many 4:gap 5:whole 6:far 7:due 8:number 9:pairs 10:built 11:turn 12:found 13:at 14:pair -/
/- law: 0:script 1:k -/
end K48
end CD
end TL

namespace TL
open PySem L2
theorem isC_o {c c' : Nat} {ds : List D} {k} : opIsC c (.obj c' ds) k = (c' = c ∧ k (.sh (.bl true))) := rfl
theorem lr1_i {j : Int} {k} : opLR1 (.int j) k = (RgOk 0 j ∧ k (.fr (.lst (rgD 0 j)))) := rfl
theorem lr2_i {i j : Int} {k} : opLR2 (.int i) (.int j) k = (RgOk i j ∧ k (.fr (.lst (rgD i j)))) := rfl
end TL

namespace TL
open PySem L2
local macro_rules | `(tactic| walk_at "sx") => `(tactic| simp only [sSeq, sNil, sSet, sFrz, frz_o, frz_sh, frz_s, sIf, sRet, sRetN, sPass, sBrk, sPar, sSub, sApp, sExpr, sAsg, sAug, sFld, sRevI, sPop, eLoc, eC, eUn, eBin, eAnd, eOr, eNot, eIf, eTup, eLst, dNil, dCons, tVal_eq, tstD_bl, tAndW, tOrW, tNotW, eFld_eq, eFldD_o, eProp, eMeth, eMeth0, eSl, pNone, pSome, sl_l,
  out_sh, out_fr, get_loc, get_sh, get_fr, getL_z, getL_o, getL_s, bound_z, bound_o, bound_s, isOwn_o, isOwn_s, pok_loc, pok_sh, pok_fr, stl_loc, stlS_sh, stlS_own, stl_sh, stl_fr, lay_fr, lay_sh, lay_loc, envOf, slotsOf, valN, ghOf, endK, resK, exMu, muN, List.cons_append, List.nil_append, List.append_nil, List.length_cons, List.length_nil, Nat.reduceAdd, Nat.reduceSub, List.replicate_succ, List.replicate_zero, List.replicate,
  List.getElem?_cons_zero, List.getElem?_cons_succ, List.getElem?_nil, List.set_cons_zero, List.set_cons_succ,
  add_ii, add_ss, add_ll, sub_ii, mul_ii, fdv_ii, fdvN_ii, mod_ii, modN_ii, pow_ii, lt_ii, le_ii, gt_ii, ge_ii, eq_ii, ne_ii, ix_li, ix_ti, neg_i, abs_i, int_i, int_b, max_ii, min_ii, len_l, len_t, list_l, list_t, rev_l, isi_int, isi_bl, isi_tup, isi_lst, isi_non, isN_i, isN_n, isN_t, isN_l, notN_i, notN_n, notN_t, notN_l, isTy,
  atI0, atI1, atI2, ixN0, ixN1, ixN2, some_inj_ex, isObj, setAt0, setAt1, setAt2, setAt3, restE, keepS, wipeE, ↓reduceIte, if_false, if_true,
  eCall, eCallP, eMake, pm, eTwo, dLit, eOwn2, eLenO, okLen, eMethP, eMakeP, isC_o, eRepL, lr1_i, lr2_i, List.filterMap_cons, List.filterMap_nil, agNil, agRo, agBo, agMu, agTm, callK, boIx, muIx, tms, argsK, upE, reown, hasBo, noTm, flatRo, noLstAll, noLst, noLsts, List.nodup_nil, List.nodup_cons, List.not_mem_nil, not_false_eq_true, Nat.zero_le, Nat.le_refl, Nat.reduceLeDiff, List.mem_cons, or_false, reduceCtorEq,
  gN, gTp, gCn, gNl, iR1, iR2, iLst, iTpl, iEnum, stab,
  true_and, and_true, Bool.true_eq_false, Bool.false_eq_true, false_imp_iff, forall_const, true_imp_iff, and_self, decide_eq_true_eq, decide_eq_false_iff_not, Bool.not_eq_true', Bool.not_eq_false'])
namespace MP
/-! ### draws -/
def sp_law_cell_at : FSpec := fun args kr _ => ∃ (ns : List Int) (k : Int), args = [.ro (encZs ns), .ro (.int k)] ∧ 0 ≤ k ∧ (∀ n ∈ ns, Bt 2000000 n) ∧ ∀ c, Bt 2000000 c → kr (.sh (.int c)) []
/- _law_cell_at: 0:script 1:k -/
def b_law_cell_at : SW := (sSeq (sIf (tVal (eBin opLt (eLoc 1) (eUn opLen (eLoc 0)))) (sRet (eBin opIx (eLoc 0) (eLoc 1))) sNil)
  (sRet (eC (.int 0))))
theorem sat_law_cell_at : Sat 2 sp_law_cell_at b_law_cell_at := by
  rintro args mus kr kx hm ⟨ns, k, rfl, hk0, hns, hk⟩
  obtain rfl := mus0 hm
  unfold b_law_cell_at
  walk_at "sx"
  simp only [List.length_map]
  refine ⟨fun h => ?_, fun h => hk 0 (by unfold Bt; decide)⟩
  rw [atI_int hk0 (by simpa using h)]
  simp only [List.getElem_map]
  exact ⟨_, rfl, hk _ (hns _ (List.getElem_mem _))⟩
def heldF (c : Int) : Int := 2 * (if c < 0 then -c else c) + (if c < 0 then 1 else 0)
def mixF (h k : Int) : Int := (((h + 1) * 86028157299999999999917 * (48271 + 977 * k * k) + 69621 * k) % 170141183460469231731687303715884105727 * (((h + 1) * 86028157299999999999917 * (48271 + 977 * k * k) + 69621 * k) % 170141183460469231731687303715884105727) + 40692 * k + 1) % 170141183460469231731687303715884105703 / 1024
def pickGo (h : Int) : Nat → Int → List Int → List Int
  | _, _, [] => []
  | k, r, s :: ss => (if 1000000000000000000 ≤ h then r else mixF h k) % s :: pickGo h (k + 1) (if 1000000000000000000 ≤ h then r / s else r) ss
def picksF (c : Int) (sizes : List Int) : List Int := pickGo (heldF c) 0 (heldF c - 1000000000000000000) sizes
theorem pickGo_len (h : Int) : ∀ (ss : List Int) (k : Nat) (r : Int), (pickGo h k r ss).length = ss.length
  | [], _, _ => rfl
  | s :: ss, k, r => by simp [pickGo, pickGo_len h ss]
theorem pickGo_at {h : Int} : ∀ {ss : List Int} {k : Nat} {r : Int} {i : Nat} {p s : Int}, (pickGo h k r ss)[i]? = some p → ss[i]? = some s → 0 < s → 0 ≤ p ∧ p < s
  | [], _, _, _, _, _, h, _, _ => by simp [pickGo] at h
  | s :: ss, k, r, 0, p, q, h1, h2, h0 => by
    simp [pickGo] at h1 h2
    subst h1; subst h2
    exact ⟨Int.emod_nonneg _ (by omega), Int.emod_lt_of_pos _ h0⟩
  | s :: ss, k, r, i + 1, p, q, h1, h2, h0 => by
    simp only [pickGo, List.getElem?_cons_succ] at h1 h2
    exact pickGo_at h1 h2 h0
theorem picksF_len (c : Int) (ss : List Int) : (picksF c ss).length = ss.length := pickGo_len _ _ _ _
/-- the i-th draw -/
def pkF (c : Int) (ss : List Int) (i : Nat) : Int := (picksF c ss).getD i 0
theorem pkF_some {c : Int} {ss : List Int} {i : Nat} (h : i < ss.length) : (picksF c ss)[i]? = some (pkF c ss i) := by
  have : i < (picksF c ss).length := by rw [picksF_len]; exact h
  unfold pkF
  rw [List.getD_eq_getElem?_getD, List.getElem?_eq_getElem this]
  rfl
theorem pkF_bd {c : Int} {ss : List Int} {i : Nat} {s : Int} (h : ss[i]? = some s) (h0 : 0 < s) : 0 ≤ pkF c ss i ∧ pkF c ss i < s :=
  pickGo_at (pkF_some (List.getElem?_eq_some_iff.mp h).1) h h0
theorem pkF_head (c s : Int) (ss tt : List Int) : pkF c (s :: ss) 0 = pkF c (s :: tt) 0 := rfl
theorem atI_pk {c : Int} {ss : List Int} {i : Int} (h0 : 0 ≤ i) (h : i.toNat < ss.length) : L2.atI ((picksF c ss).map D.int) i = some (.int (pkF c ss i.toNat)) := by
  have hl : ((picksF c ss).map D.int).length = ss.length := by rw [List.length_map, picksF_len]
  rw [atI_int h0 (by rw [hl]; omega)]
  have := pkF_some (c := c) h
  rw [List.getElem_map]
  obtain ⟨q, e⟩ := List.getElem?_eq_some_iff.mp this
  rw [e]
def sp_law_picks : FSpec := fun args kr _ => ∃ (c : Int) (ss : List Int), args = [.ro (.int c), .ro (encZs ss)] ∧ Bt 2000000 c ∧ (∀ s ∈ ss, 0 < s ∧ Bt 8000 s) ∧ ss.length ≤ 1000 ∧ kr (.fr (encZs (picksF c ss))) []
theorem heldF_bt {c : Int} (h : Bt 2000000 c) : Bt 2000100 (heldF c) := by
  unfold heldF
  have h1 := bt_abs h
  have h2 : Bt 2000002 (2 * (if c < 0 then -c else c)) := ((show Bt 2 2 by unfold Bt; decide).mul h1).mono (by omega)
  have h3 : Bt 2000002 (if c < 0 then 1 else 0 : Int) := by split <;> (refine Bt.mono (n := 40) (Bt.small ?_ ?_) (by omega)) <;> omega
  exact (h2.add h3).mono (by omega)
theorem heldF_nn (c : Int) : 0 ≤ heldF c := by unfold heldF; split <;> omega
/- _law_picks: 0:cell 1:sizes 2:held 3:rest 4:picks 5:k 6:stir -/
def b_law_picks : SW := (sSeq (sFrz 2 (sSet 2 (eBin opAdd (eBin opMul (eC (.int 2)) (eUn opAbs (eLoc 0))) (eUn opInt (eBin opLt (eLoc 0) (eC (.int 0)))))))
  (sSeq (sFrz 3 (sSet 3 (eBin opSub (eLoc 2) (eBin opPow (eC (.int 10)) (eC (.int 18))))))
  (sSeq (sSet 4 (eLst dNil))
  (sSeq (sFor (iR1 (dCons (eUn opLen (eLoc 1)) dNil)) (gN 5) (sSeq (sFrz 6 (sSet 6 (eBin opAdd (eBin opMul (eBin opMul (eBin opAdd (eLoc 2) (eC (.int 1))) (eC (.int 86028157299999999999917))) (eBin opAdd (eC (.int 48271)) (eBin opMul (eBin opMul (eC (.int 977)) (eLoc 5)) (eLoc 5)))) (eBin opMul (eC (.int 69621)) (eLoc 5)))))
  (sSeq (sFrz 6 (sSet 6 (eBin opMod (eUn opInt (eLoc 6)) (eC (.int 170141183460469231731687303715884105727)))))
  (sSeq (sFrz 6 (sSet 6 (eBin opFdv (eBin opMod (eUn opInt (eBin opAdd (eBin opAdd (eBin opMul (eLoc 6) (eLoc 6)) (eBin opMul (eC (.int 40692)) (eLoc 5))) (eC (.int 1)))) (eC (.int 170141183460469231731687303715884105703))) (eC (.int 1024)))))
  (sSeq (sIf (tVal (eBin opGe (eLoc 2) (eBin opPow (eC (.int 10)) (eC (.int 18))))) (sSeq (sSet 6 (eLoc 3))
  (sFrz 3 (sSet 3 (eBin opFdv (eLoc 3) (eBin opIx (eLoc 1) (eLoc 5)))))) sNil)
  (sApp 4 (eBin opMod (eUn opInt (eLoc 6)) (eBin opIx (eLoc 1) (eLoc 5)))))))))
  (sRet (eLoc 4))))))
theorem sat_law_picks : Sat 7 sp_law_picks b_law_picks := by
  rintro args mus kr kx hm ⟨c, ss, rfl, hc, hss, hl, hk⟩
  obtain rfl := mus0 hm
  have cp : CPow 10 18 := by unfold CPow; decide
  have e18 : (10 : Int) ^ (Int.toNat 18) = 1000000000000000000 := by decide
  have hh := heldF_bt hc
  have hh0 := heldF_nn c
  unfold b_law_picks
  walk_at "sx"
  rw [e18]
  refine ⟨mulOk_small (by decide) ((bt_abs hc).mono (by omega)), cp, fun a4 => ?_⟩
  rw [show 2 * (if c < 0 then -c else c) + (if c < 0 then (1 : Int) else 0) = heldF c from rfl]
  unfold picksF at hk
  generalize heldF c = h at *
  unfold sFor
  walk_at "sx"
  simp only [List.length_map]
  have eend : ∀ n : Nat, ((n : Int)).toNat = n := fun n => by omega
  rw [eend]
  refine ⟨by omega, fun i ρ => ∃ (acc : List Int) (r : Int) (e5 e6 : Sl), ρ = [.sh (.int c), .sh (encZs ss), .sh (.int h), .sh (.int r), .own false a4 (encZs acc), e5, e6] ∧ acc.length = i ∧ Bt 2000200 r ∧ acc ++ pickGo h i r (ss.drop i) = pickGo h 0 (h - 1000000000000000000) ss,
    ⟨[], _, _, _, rfl, rfl, ?_, by simp⟩, fun _ _ _ _ => trivial, ?_, ?_⟩
  · exact ((hh.sub (Bt.mono (n := 100) (by unfold Bt; decide) (by omega))).mono (by omega))
  · rintro i d ρ hi rfl ⟨acc, r, e5, e6, rfl, hal, hr, hgo⟩
    obtain ⟨s, hs⟩ : ∃ s, ss[i]? = some s := ⟨_, List.getElem?_eq_getElem hi⟩
    obtain ⟨s0, sb⟩ := hss s (List.mem_of_getElem? hs)
    have bi : Bt 40 (i : Int) := Bt.small (by omega) (by omega)
    have b1 : Bt 2000101 (h + 1) := hh.add (Bt.mono (n := 40) (Bt.small (by omega) (by omega)) (by omega))
    have b2 : Bt 2000201 ((h + 1) * 86028157299999999999917) := b1.mul (m := 100) (by unfold Bt; decide)
    have b3 : Bt 60 (977 * (i : Int)) := ((show Bt 20 977 by unfold Bt; decide).mul bi).mono (by omega)
    have b4 : Bt 100 (977 * (i : Int) * i) := (b3.mul bi).mono (by omega)
    have b5 : Bt 101 (48271 + 977 * (i : Int) * i) := (show Bt 100 48271 by unfold Bt; decide).add b4
    have m128 : ∀ v M : Int, 0 < M → M ≤ 170141183460469231731687303715884105727 → Bt 128 (v % M) := fun v M h1 h2 => by
      have q0 := Int.emod_nonneg v (show M ≠ 0 by omega)
      have q1 := Int.emod_lt_of_pos v h1
      exact Bt.of (by omega) (by omega) (by omega)
    have q1 := m128 ((h + 1) * 86028157299999999999917 * (48271 + 977 * (i : Int) * i) + 69621 * i) 170141183460469231731687303715884105727 (by omega) (by omega)
    have eix : L2.atI (ss.map D.int) i = some (.int s) := by
      have hi' : i < ss.length := hi
      rw [atI_int (by omega) (by simp; omega)]
      obtain ⟨q, e⟩ := List.getElem?_eq_some_iff.mp hs
      simp only [List.getElem_map, Int.toNat_natCast, e]
    have hdrop : ss.drop i = s :: ss.drop (i + 1) := by
      obtain ⟨q, e⟩ := List.getElem?_eq_some_iff.mp hs
      rw [← e, List.drop_eq_getElem_cons q]
    rw [hdrop] at hgo
    have dks : DivOk s := ⟨s0, Nat.lt_of_lt_of_le sb (by decide)⟩
    walk_at "sx"
    simp only [eix, some_inj_ex]
    walk_at "sx"
    refine ⟨b1.mulOk (m := 100) (by unfold Bt; decide) (by omega), (show Bt 20 977 by unfold Bt; decide).mulOk bi (by omega), b3.mulOk bi (by omega), b2.mulOk b5 (by omega), (show Bt 20 69621 by unfold Bt; decide).mulOk bi (by omega), by omega,
      q1.mulOk q1 (by omega), (show Bt 20 40692 by unfold Bt; decide).mulOk bi (by omega), by omega, ⟨by omega, by decide⟩, cp, ?_⟩
    refine ⟨fun hge => ⟨dks, ⟨_, _, _, rfl⟩, .int s, eix, ?_⟩,
      fun hlt => ⟨⟨_, _, _, rfl⟩, s0, line_big (by simp; omega), acc ++ [mixF h i % s], r, .sh (.int i), .sh (.int (mixF h i)), ?_, by simp; omega, hr, ?_⟩⟩
    · walk_at "sx"
      refine ⟨s0, line_big (by simp; omega), acc ++ [r % s], r / s, .sh (.int i), .sh (.int r), by simp only [encZs, List.map_append, List.map_cons, List.map_nil], by simp; omega, hr.le (Int.natAbs_ediv_le_natAbs _ _), ?_⟩
      rw [← hgo]
      simp only [pickGo, if_pos hge, List.append_assoc, List.cons_append, List.nil_append]
    · simp only [encZs, List.map_append, List.map_cons, List.map_nil]; rfl
    · rw [← hgo]
      simp only [pickGo, if_neg hlt, List.append_assoc, List.cons_append, List.nil_append]
  · rintro ρ ⟨acc, r, e5, e6, rfl, hal, hr, hgo⟩
    walk_at "sx"
    rw [List.drop_eq_nil_of_le (by omega)] at hgo
    simp only [pickGo, List.append_nil] at hgo
    rw [hgo]
    exact hk
end MP
end TL

namespace TL
open PySem L2
local macro_rules | `(tactic| walk_at "sx") => `(tactic| simp only [sSeq, sNil, sSet, sFrz, frz_o, frz_sh, frz_s, sIf, sRet, sRetN, sPass, sBrk, sPar, sSub, sApp, sExpr, sAsg, sAug, sFld, sRevI, sPop, eLoc, eC, eUn, eBin, eAnd, eOr, eNot, eIf, eTup, eLst, dNil, dCons, tVal_eq, tstD_bl, tAndW, tOrW, tNotW, eFld_eq, eFldD_o, eProp, eMeth, eMeth0, eSl, pNone, pSome, sl_l,
  out_sh, out_fr, get_loc, get_sh, get_fr, getL_z, getL_o, getL_s, bound_z, bound_o, bound_s, isOwn_o, isOwn_s, pok_loc, pok_sh, pok_fr, stl_loc, stlS_sh, stlS_own, stl_sh, stl_fr, lay_fr, lay_sh, lay_loc, envOf, slotsOf, valN, ghOf, endK, resK, exMu, muN, List.cons_append, List.nil_append, List.append_nil, List.length_cons, List.length_nil, Nat.reduceAdd, Nat.reduceSub, List.replicate_succ, List.replicate_zero, List.replicate,
  List.getElem?_cons_zero, List.getElem?_cons_succ, List.getElem?_nil, List.set_cons_zero, List.set_cons_succ,
  add_ii, add_ss, add_ll, sub_ii, mul_ii, fdv_ii, fdvN_ii, mod_ii, modN_ii, pow_ii, lt_ii, le_ii, gt_ii, ge_ii, eq_ii, ne_ii, ix_li, ix_ti, neg_i, abs_i, int_i, int_b, max_ii, min_ii, len_l, len_t, list_l, list_t, rev_l, isi_int, isi_bl, isi_tup, isi_lst, isi_non, isN_i, isN_n, isN_t, isN_l, notN_i, notN_n, notN_t, notN_l, isTy,
  atI0, atI1, atI2, ixN0, ixN1, ixN2, some_inj_ex, isObj, setAt0, setAt1, setAt2, setAt3, restE, keepS, wipeE, ↓reduceIte, if_false, if_true,
  eCall, eCallP, eMake, pm, eTwo, dLit, eOwn2, eLenO, okLen, eMethP, eMakeP, isC_o, eRepL, lr1_i, lr2_i, List.filterMap_cons, List.filterMap_nil, agNil, agRo, agBo, agMu, agTm, callK, boIx, muIx, tms, argsK, upE, reown, hasBo, noTm, flatRo, noLstAll, noLst, noLsts, List.nodup_nil, List.nodup_cons, List.not_mem_nil, not_false_eq_true, Nat.zero_le, Nat.le_refl, Nat.reduceLeDiff, List.mem_cons, or_false, reduceCtorEq,
  gN, gTp, gCn, gNl, iR1, iR2, iLst, iTpl, iEnum, stab,
  true_and, and_true, Bool.true_eq_false, Bool.false_eq_true, false_imp_iff, forall_const, true_imp_iff, and_self, decide_eq_true_eq, decide_eq_false_iff_not, Bool.not_eq_true', Bool.not_eq_false'])
namespace MP
/-! ### rules of a map -/
structure RowsOk (base : Nat) (beside : Int) (rs : List (Int × Int)) : Prop where
  len : rs.length = base
  ok : ∀ (i : Nat) (p : Int × Int), rs[i]? = some p → RuleOk base i p ∧ Int.gcd p.1 (base * beside) = 1 ∧ p.1 ≤ 1000 ∧ Bt 600 p.2
theorem RowsOk.rules {base : Nat} {beside : Int} {rs : List (Int × Int)} (h : RowsOk base beside rs) : RulesOk base rs := ⟨h.len, fun i p e => ⟨(h.ok i p e).1, (h.ok i p e).2.2⟩⟩
theorem RowsOk.map {base : Nat} {beside : Int} {rs : List (Int × Int)} (h : RowsOk base beside rs) (h2 : 2 ≤ base) (h6 : base ≤ 100000) : MapOk rs := h.rules.map h2 h6
def flat2 (x y : Int) (n : Nat) : List Int := (List.replicate n [x, y]).flatten
theorem flat2_map (x y : Int) (n : Nat) : (List.replicate n [D.int x, D.int y]).flatten = (flat2 x y n).map D.int := by
  unfold flat2
  rw [List.map_flatten, List.map_replicate]
  rfl
theorem flat2_len (x y : Int) : ∀ n, (flat2 x y n).length = 2 * n
  | 0 => rfl
  | n + 1 => by
    have := flat2_len x y n
    unfold flat2 at this ⊢
    rw [List.replicate_succ, List.flatten_cons, List.length_append, this]
    simp; omega
theorem flat2_at (x y : Int) : ∀ {n k : Nat}, k < n → (flat2 x y n)[2 * k]? = some x ∧ (flat2 x y n)[2 * k + 1]? = some y
  | 0, _, h => by omega
  | n + 1, 0, _ => by unfold flat2; rw [List.replicate_succ, List.flatten_cons]; exact ⟨rfl, rfl⟩
  | n + 1, k + 1, h => by
    have ih := flat2_at x y (n := n) (k := k) (by omega)
    have e : flat2 x y (n + 1) = x :: y :: flat2 x y n := by unfold flat2; rw [List.replicate_succ, List.flatten_cons]; rfl
    rw [e, show 2 * (k + 1) = 2 * k + 1 + 1 by omega]
    simpa using ih
theorem flat2_mem {x y z : Int} {n : Nat} (h : z ∈ flat2 x y n) : z = x ∨ z = y := by
  unfold flat2 at h
  obtain ⟨l, hl, hz⟩ := List.mem_flatten.mp h
  rw [List.eq_of_mem_replicate hl] at hz
  simpa using hz
def baseF (c most : Int) : Int := 2 + pkF c [most - 1] 0
theorem baseF_bd {c most : Int} (h : 2 ≤ most) : 2 ≤ baseF c most ∧ baseF c most ≤ most := by
  unfold baseF
  have := pkF_bd (c := c) (ss := [most - 1]) (i := 0) rfl (by omega)
  omega
def sp_law_rows : FSpec := fun args kr _ => ∃ c most beside far : Int, args = [.ro (.int c), .ro (.int most), .ro (.int beside), .ro (.int far)] ∧ Bt 2000000 c ∧ 2 ≤ most ∧ most ≤ 60 ∧ 1 ≤ beside ∧ beside ≤ 100000 ∧ 1 ≤ far ∧ Bt 500 far ∧
  ∀ rs, RowsOk (baseF c most).toNat beside rs → kr (.fr (encRs rs)) []
theorem gcd_one_of {a b : Int} (ha : 1 ≤ a) (h : ¬ (1 < (Int.gcd a b : Int))) : Int.gcd a b = 1 := by
  have := Int.gcd_pos_of_ne_zero_left b (show a ≠ 0 by omega)
  omega
/- _law_rows: 0:cell 1:most 2:beside 3:far 4:picks 5:base 6:reach 7:rows 8:k 9:a -/
def b_law_rows_t4 : SW := (sSeq (sFor (iR1 (dCons (eLoc 5) dNil)) (gN 8) (sSeq (sFrz 9 (sSet 9 (eBin opAdd (eC (.int 1)) (eBin opMod (eBin opIx (eLoc 4) (eBin opAdd (eC (.int 2)) (eBin opMul (eC (.int 2)) (eLoc 8)))) (eBin opIx (eLoc 6) (eC (.int 0)))))))
  (sSeq (sWhile (tVal (eBin opGt (eCall 2 sp_law_gcd (agRo (eLoc 9) (agRo (eBin opMul (eLoc 5) (eLoc 2)) agNil))) (eC (.int 1)))) (sFrz 9 (sSet 9 (eBin opSub (eLoc 9) (eC (.int 1))))))
  (sApp 7 (eTup (dCons (eLoc 9) (dCons (eBin opSub (eBin opMul (eLoc 5) (eBin opSub (eBin opMod (eBin opIx (eLoc 4) (eBin opAdd (eC (.int 3)) (eBin opMul (eC (.int 2)) (eLoc 8)))) (eBin opIx (eLoc 6) (eC (.int 1)))) (eBin opFdv (eBin opIx (eLoc 6) (eC (.int 1))) (eC (.int 2))))) (eBin opMul (eLoc 9) (eLoc 8))) dNil)))))))
  (sRet (eLoc 7)))
def b_law_rows_t1 : SW := (sSeq (sFrz 5 (sSet 5 (eBin opAdd (eC (.int 2)) (eBin opIx (eLoc 4) (eC (.int 0))))))
  (sSeq (sFrz 6 (sSet 6 (eBin opIx (eLst (dLit [(.tup [(.int 3), (.int 5)]), (.tup [(.int 20), (.int 9)]), (.tup [(.int 1000), (.int 41)])] (dCons (eTup (dCons (eC (.int 1000)) (dCons (eBin opAdd (eBin opMul (eC (.int 2)) (eLoc 3)) (eC (.int 1))) dNil))) dNil))) (eBin opIx (eLoc 4) (eC (.int 1))))))
  (sSeq (sSet 7 (eLst dNil))
  b_law_rows_t4)))
def b_law_rows : SW := (sSeq (sFrz 4 (sSet 4 (eCall 2 sp_law_picks (agRo (eLoc 0) (agRo (eBin opAdd (eLst (dCons (eBin opSub (eLoc 1) (eC (.int 1))) (dCons (eC (.int 4)) dNil))) (eRepL 1 (eLst (dCons (eC (.int 1000)) (dCons (eBin opAdd (eBin opMul (eC (.int 2)) (eLoc 3)) (eC (.int 1))) dNil))))) agNil)))))
  b_law_rows_t1)
theorem sat_law_rows : Sat 10 sp_law_rows b_law_rows := by
  rintro args mus kr kx hm ⟨c, most, beside, far, rfl, hc, hm2, hm6, hb1, hb2, hf1, hfb, hk⟩
  obtain rfl := mus0 hm
  have bf : Bt 502 (2 * far) := ((show Bt 2 2 by unfold Bt; decide).mul hfb)
  have bf1 : Bt 503 (2 * far + 1) := bf.add (Bt.mono (n := 40) (Bt.small (by omega) (by omega)) (by omega))
  have m2 : MulOk 2 far := (show Bt 2 2 by unfold Bt; decide).mulOk hfb (by omega)
  unfold b_law_rows
  walk_at "sx"
  refine ⟨m2, ⟨by omega, by omega, Nat.le_of_lt (line_big (by omega))⟩, ?_⟩
  rw [flat2_map]
  refine ⟨Nat.le_of_lt (line_big (by rw [List.length_map, flat2_len]; omega)), c, (most - 1) :: 4 :: flat2 1000 (2 * far + 1) most.toNat, rfl, hc, ?_, by simp only [List.length_cons, flat2_len]; omega, ?_⟩
  · intro s hs
    rcases List.mem_cons.mp hs with rfl | hs
    · exact ⟨by omega, (Bt.small (by omega) (by omega)).mono (by omega)⟩
    · rcases List.mem_cons.mp hs with rfl | hs
      · exact ⟨by omega, by unfold Bt; decide⟩
      · rcases flat2_mem hs with rfl | rfl
        · exact ⟨by omega, by unfold Bt; decide⟩
        · exact ⟨by omega, bf1.mono (by omega)⟩
  · obtain ⟨ss, hss⟩ : ∃ ss, ss = (most - 1) :: 4 :: flat2 1000 (2 * far + 1) most.toNat := ⟨_, rfl⟩
    have ssl : ss.length = 2 + 2 * most.toNat := by rw [hss]; simp only [List.length_cons, flat2_len]; omega
    have s0 : pkF c ss 0 + 2 = baseF c most := by rw [hss, pkF_head c _ _ []]; unfold baseF; omega
    have s1 := pkF_bd (c := c) (ss := ss) (i := 1) (s := 4) (by rw [hss]; rfl) (by omega)
    have sk : ∀ k : Nat, k < most.toNat → (0 ≤ pkF c ss (2 + 2 * k) ∧ pkF c ss (2 + 2 * k) < 1000) ∧ 0 ≤ pkF c ss (3 + 2 * k) ∧ pkF c ss (3 + 2 * k) < 2 * far + 1 := fun k hk => by
      have := flat2_at 1000 (2 * far + 1) hk
      refine ⟨pkF_bd (s := 1000) ?_ (by omega), pkF_bd ?_ (by omega)⟩
      · rw [hss, show 2 + 2 * k = 2 * k + 1 + 1 by omega]; simpa using this.1
      · rw [hss, show 3 + 2 * k = 2 * k + 1 + 1 + 1 by omega]; simpa using this.2
    have hbb := baseF_bd (c := c) (most := most) hm2
    rw [← hss]
    walk_at "sx"
    unfold b_law_rows_t1
    walk_at "sx"
    have e0 : L2.atI ((picksF c ss).map D.int) 0 = some (.int (pkF c ss 0)) := atI_pk (by omega) (by rw [ssl]; simp; omega)
    have e1 : L2.atI ((picksF c ss).map D.int) 1 = some (.int (pkF c ss 1)) := atI_pk (by omega) (by rw [ssl]; simp; omega)
    simp only [e0, e1, some_inj_ex]
    walk_at "sx"
    simp only [e1, some_inj_ex]
    rw [show 2 + pkF c ss 0 = baseF c most by omega]
    generalize baseF c most = bb at *
    obtain ⟨base, rfl⟩ := Int.eq_ofNat_of_zero_le (show 0 ≤ bb by omega)
    refine ⟨m2, ?_⟩
    have hre : ∃ r0 r1 : Int, (1 ≤ r0 ∧ r0 ≤ 1000) ∧ (1 ≤ r1 ∧ Bt 503 r1) ∧ L2.atI [D.tup [.int 3, .int 5], D.tup [.int 20, .int 9], D.tup [.int 1000, .int 41], D.tup [.int 1000, .int (2 * far + 1)]] (pkF c ss 1) = some (.tup [.int r0, .int r1]) := by
      have : pkF c ss 1 = 0 ∨ pkF c ss 1 = 1 ∨ pkF c ss 1 = 2 ∨ pkF c ss 1 = 3 := by omega
      rcases this with h | h | h | h <;> rw [h]
      · exact ⟨3, 5, by omega, ⟨by omega, by unfold Bt; decide⟩, rfl⟩
      · exact ⟨20, 9, by omega, ⟨by omega, by unfold Bt; decide⟩, rfl⟩
      · exact ⟨1000, 41, by omega, ⟨by omega, by unfold Bt; decide⟩, rfl⟩
      · exact ⟨1000, 2 * far + 1, by omega, ⟨by omega, bf1⟩, rfl⟩
    obtain ⟨r0, r1, hr0, hr1, ere⟩ := hre
    refine ⟨_, ere, ?_⟩
    intro a7
    unfold b_law_rows_t4
    unfold sFor
    walk_at "sx"
    refine ⟨by omega, fun i ρ => ∃ (rs : List (Int × Int)) (e8 e9 : Sl), ρ = [.sh (.int c), .sh (.int most), .sh (.int beside), .sh (.int far), .sh (encZs (picksF c ss)), .sh (.int base), .sh (.tup [.int r0, .int r1]), .own false a7 (encRs rs), e8, e9] ∧ rs.length = i ∧
      (∀ (j : Nat) (p : Int × Int), rs[j]? = some p → RuleOk base j p ∧ Int.gcd p.1 (base * beside) = 1 ∧ p.1 ≤ 1000 ∧ Bt 600 p.2), ⟨[], _, _, rfl, rfl, by simp⟩, fun _ _ _ _ => trivial, ?_, ?_⟩
    · rintro i d ρ hi rfl ⟨rs, e8, e9, rfl, hrl, hrs⟩
      have hi : i < base := by simpa using hi
      have q := sk i (by omega)
      have e2 : L2.atI ((picksF c ss).map D.int) (2 + 2 * (i : Int)) = some (.int (pkF c ss (2 + 2 * i))) := by
        rw [atI_pk (by omega) (by omega), show (2 + 2 * (i : Int)).toNat = 2 + 2 * i by omega]
      have e3 : L2.atI ((picksF c ss).map D.int) (3 + 2 * (i : Int)) = some (.int (pkF c ss (3 + 2 * i))) := by
        rw [atI_pk (by omega) (by omega), show (3 + 2 * (i : Int)).toNat = 3 + 2 * i by omega]
      have bi : Bt 40 (i : Int) := Bt.small (by omega) (by omega)
      have m2i : MulOk 2 (i : Int) := (show Bt 2 2 by unfold Bt; decide).mulOk bi (by omega)
      walk_at "sx"
      simp only [e2, some_inj_ex]
      walk_at "sx"
      have v0 := Int.emod_nonneg (pkF c ss (2 + 2 * i)) (show r0 ≠ 0 by omega)
      have v1 := Int.emod_lt_of_pos (pkF c ss (2 + 2 * i)) (show 0 < r0 by omega)
      refine ⟨m2i, by omega, fun m ρ => ∃ v : Int, ρ = [.sh (.int c), .sh (.int most), .sh (.int beside), .sh (.int far), .sh (encZs (picksF c ss)), .sh (.int base), .sh (.tup [.int r0, .int r1]), .own false a7 (encRs rs), .sh (.int i), .sh (.int v)] ∧ 1 ≤ v ∧ v ≤ 1000 ∧ m = v.toNat,
        ⟨_, 1 + pkF c ss (2 + 2 * i) % r0, rfl, by omega, by omega, rfl⟩, ?_⟩
      rintro m ρ ⟨v, rfl, hv1, hv2, rfl⟩
      walk_at "sx"
      have bb0 : Bt 40 (base : Int) := Bt.small (by omega) (by omega)
      refine ⟨bb0.mulOk (Bt.small (x := beside) (by omega) (by omega)) (by omega), v, base * beside, rfl, ?_⟩
      walk_at "sx"
      refine ⟨fun h => ?_, fun h => ?_⟩
      · have : v ≠ 1 := by rintro rfl; simp at h
        exact ⟨_, by omega, v - 1, rfl, by omega, by omega, rfl⟩
      · have hg := gcd_one_of hv1 h
        simp only [e3, some_inj_ex]
        walk_at "sx"
        have w0 := Int.emod_nonneg (pkF c ss (3 + 2 * i)) (show r1 ≠ 0 by omega)
        have w1 := Int.emod_lt_of_pos (pkF c ss (3 + 2 * i)) (show 0 < r1 by omega)
        have d0 : 0 ≤ r1 / 2 := Int.ediv_nonneg (by omega) (by omega)
        have d1 : r1 / 2 ≤ r1 := Int.ediv_le_self _ (by omega)
        have bw : Bt 504 (pkF c ss (3 + 2 * i) % r1 - r1 / 2) := (hr1.2.le (by omega)).sub (hr1.2.le (by omega))
        have bv : Bt 40 v := Bt.small (by omega) (by omega)
        have b5 : Bt 600 ((base : Int) * (pkF c ss (3 + 2 * i) % r1 - r1 / 2) - v * i) := (((bb0.mul bw).mono (by omega : _ ≤ 560)).sub ((bv.mul bi).mono (by omega))).mono (by omega)
        refine ⟨⟨_, _, _, rfl⟩, m2i, by omega, ⟨by omega, by decide⟩, bb0.mulOk bw (by omega), bv.mulOk bi (by omega), line_big (by simp; omega), rs ++ [(v, (base : Int) * (pkF c ss (3 + 2 * i) % r1 - r1 / 2) - v * i)], .sh (.int i), .sh (.int v),
          by simp only [encRs, List.map_append, List.map_cons, List.map_nil], by simp; omega, fun j p hp => ?_⟩
        rcases Nat.lt_or_ge j rs.length with h | h
        · rw [List.getElem?_append_left h] at hp
          exact hrs j p hp
        · rw [List.getElem?_append_right h] at hp
          have e : j - rs.length = 0 := by
            rcases Nat.eq_zero_or_pos (j - rs.length) with h | h
            · exact h
            · rw [List.getElem?_eq_none (by simp only [List.length_cons, List.length_nil]; omega)] at hp; cases hp
          rw [e] at hp
          cases hp
          have : j = i := by omega
          subst this
          refine ⟨⟨hv1, ?_, rule_fit⟩, hg, hv2, b5⟩
          have : Int.gcd v base ∣ Int.gcd v (base * beside) := Int.gcd_dvd_gcd_of_dvd_right _ (Int.dvd_mul_right _ _)
          rw [hg] at this
          exact Nat.dvd_one.mp this
    · rintro ρ ⟨rs, e8, e9, rfl, hrl, hrs⟩
      walk_at "sx"
      exact hk rs ⟨by simpa using hrl, by simpa using hrs⟩
/-! ### the map's methods -/
/- Map_len: 0:self -/
/- Map_eq: 0:self 1:other -/
/- Map_rule_of: 0:self 1:number -/
/-! ### small defs of the laws -/
/- _law_number: 0:cell 1:bound 2:size -/
def sp_law_whole : FSpec := fun args kr _ => ∃ n : Int, args = [.ro (.int n)] ∧ kr (.sh (.bl true)) []
/- _law_whole: 0:found -/
def b_law_whole : SW := (sRet (eAnd (eUn (opIsI .int) (eLoc 0)) (eNot (eUn (opIsI .bool) (eLoc 0)))))
theorem sat_law_whole : Sat 1 sp_law_whole b_law_whole := by
  rintro args mus kr kx hm ⟨n, rfl, hk⟩
  obtain rfl := mus0 hm
  unfold b_law_whole
  walk_at "sx"
  exact hk
def sp_law_pair : FSpec := fun args kr _ => ∃ p : Int × Int, args = [.ro (encR p)] ∧ kr (.sh (.bl true)) []
/- _law_pair: 0:found -/
def b_law_pair : SW := (sSeq (sIf (tOrW (tNotW (tVal (eUn (opIsI .tuple) (eLoc 0)))) (tVal (eBin opNe (eUn opLen (eLoc 0)) (eC (.int 2))))) (sRet (eC (.bl false))) sNil)
  (sRet (eAnd (eCall 1 sp_law_whole (agRo (eBin opIx (eLoc 0) (eC (.int 0))) agNil)) (eCall 1 sp_law_whole (agRo (eBin opIx (eLoc 0) (eC (.int 1))) agNil)))))
theorem sat_law_pair : Sat 1 sp_law_pair b_law_pair := by
  rintro args mus kr kx hm ⟨p, rfl, hk⟩
  obtain rfl := mus0 hm
  unfold b_law_pair
  walk_at "sx"
  refine ⟨fun h => absurd rfl h, fun _ => ⟨p.1, rfl, ?_⟩⟩
  walk_at "sx"
  refine ⟨p.2, rfl, ?_⟩
  walk_at "sx"
  exact hk
def sp_law_pairs : FSpec := fun args kr _ => ∃ rs : List (Int × Int), args = [.ro (encRs rs)] ∧ rs.length ≤ 100000 ∧ kr (.sh (.bl true)) []
/- _law_pairs: 0:found 1:one -/
def b_law_pairs : SW := (sRet (eAnd (eUn (opIsI .list) (eLoc 0)) (eUn opAll (eComp (iLst (eLoc 0)) (gN 1) tYesW (eCall 1 sp_law_pair (agRo (eLoc 1) agNil)) [1]))))
theorem sat_law_pairs : Sat 2 sp_law_pairs b_law_pairs := by
  rintro args mus kr kx hm ⟨rs, rfl, hl, hk⟩
  obtain rfl := mus0 hm
  unfold b_law_pairs
  walk_at "sx"
  simp only [eComp, iLst, tYesW]
  walk_at "sx"
  simp only [List.length_map]
  refine ⟨fun i acc ρ => acc = List.replicate i (D.bl true) ∧ ρ = [.sh (encRs rs), .no], ⟨rfl, rfl⟩, fun _ _ _ _ _ => trivial, ?_, ?_⟩
  · rintro i d acc ρ hi hd ⟨rfl, rfl⟩
    rw [List.getElem?_map] at hd
    cases hp : rs[i]? with
    | none => rw [hp] at hd; cases hd
    | some p =>
      rw [hp] at hd
      cases hd
      walk_at "sx"
      refine ⟨p, rfl, ?_⟩
      walk_at "sx"
      exact ⟨line_big (by rw [List.length_replicate]; omega), by rw [← List.replicate_succ', List.replicate_succ]⟩
  · rintro acc ρ ⟨rfl, rfl⟩
    refine ⟨List.replicate rs.length true, by rw [List.map_replicate], ?_⟩
    walk_at "sx"
    have : (List.replicate rs.length true).all id = true := by simp
    rw [this]
    exact hk
end MP
end TL

namespace TL
open PySem L2
set_option maxHeartbeats 2000000
local macro_rules | `(tactic| walk_at "sx") => `(tactic| simp only [sSeq, sNil, sSet, sFrz, frz_o, frz_sh, frz_s, sIf, sRet, sRetN, sPass, sBrk, sPar, sSub, sApp, sExpr, sAsg, sAug, sFld, sRevI, sPop, eLoc, eC, eUn, eBin, eAnd, eOr, eNot, eIf, eTup, eLst, dNil, dCons, tVal_eq, tstD_bl, tAndW, tOrW, tNotW, eFld_eq, eFldD_o, eProp, eMeth, eMeth0, eSl, pNone, pSome, sl_l,
  out_sh, out_fr, get_loc, get_sh, get_fr, getL_z, getL_o, getL_s, bound_z, bound_o, bound_s, isOwn_o, isOwn_s, pok_loc, pok_sh, pok_fr, stl_loc, stlS_sh, stlS_own, stl_sh, stl_fr, lay_fr, lay_sh, lay_loc, envOf, slotsOf, valN, ghOf, endK, resK, exMu, muN, List.cons_append, List.nil_append, List.append_nil, List.length_cons, List.length_nil, Nat.reduceAdd, Nat.reduceSub, List.replicate_succ, List.replicate_zero, List.replicate,
  List.getElem?_cons_zero, List.getElem?_cons_succ, List.getElem?_nil, List.set_cons_zero, List.set_cons_succ,
  add_ii, add_ss, add_ll, sub_ii, mul_ii, fdv_ii, fdvN_ii, mod_ii, modN_ii, pow_ii, lt_ii, le_ii, gt_ii, ge_ii, eq_ii, ne_ii, ix_li, ix_ti, neg_i, abs_i, int_i, int_b, max_ii, min_ii, len_l, len_t, list_l, list_t, rev_l, isi_int, isi_bl, isi_tup, isi_lst, isi_non, isN_i, isN_n, isN_t, isN_l, notN_i, notN_n, notN_t, notN_l, isTy,
  atI0, atI1, atI2, ixN0, ixN1, ixN2, some_inj_ex, isObj, setAt0, setAt1, setAt2, setAt3, restE, keepS, wipeE, ↓reduceIte, if_false, if_true,
  eCall, eCallP, eMake, pm, eTwo, dLit, eOwn2, eLenO, okLen, eMethP, eMakeP, isC_o, eRepL, lr1_i, lr2_i, List.filterMap_cons, List.filterMap_nil, agNil, agRo, agBo, agMu, agTm, callK, boIx, muIx, tms, argsK, upE, reown, hasBo, noTm, flatRo, noLstAll, noLst, noLsts, List.nodup_nil, List.nodup_cons, List.not_mem_nil, not_false_eq_true, Nat.zero_le, Nat.le_refl, Nat.reduceLeDiff, List.mem_cons, or_false, reduceCtorEq,
  gN, gTp, gLs, gCn, gNl, iR1, iR2, iLst, iTpl, iEnum, stab,
  e0_is, t0_is, d0_is, s0_is, i0_is, sTry, hXk_n, hXk_s, sRaise, eCallX, eCallXP, eMethX, eMakeX, ePropX, eOwn2X, callX, roA, opXv_exn, opIsX_exn, List.map_cons, List.map_nil, Nat.lt_irrefl, Nat.zero_lt_one, Nat.reduceLT, Nat.zero_lt_succ, some_inj_ex,
  true_and, and_true, eq_self, List.length_map, decide_true, decide_false, Bool.not_true, Bool.not_false, not_true_eq_false, Bool.true_eq_false, Bool.false_eq_true, false_imp_iff, forall_const, true_imp_iff, and_self, decide_eq_true_eq, decide_eq_false_iff_not, Bool.not_eq_true', Bool.not_eq_false'])
namespace CD
/-! ### integers one step before -/
def hits (m n : Int) (p : Int × Int) : Prop := (m * n - p.2) % p.1 = 0
instance (m n : Int) (p : Int × Int) : Decidable (hits m n p) := by unfold hits; exact inferInstance
/- whole_before: 0:rule_map 1:number 2:modulus 3:found 4:a 5:b -/
/- classes_before: 0:rule_map 1:rules 2:found 3:k 4:a 5:b -/
end CD
end TL

namespace TL
open PySem L2
set_option maxHeartbeats 2000000
local macro_rules | `(tactic| walk_at "sx") => `(tactic| simp only [sSeq, sNil, sSet, sFrz, frz_o, frz_sh, frz_s, sIf, sRet, sRetN, sPass, sBrk, sPar, sSub, sApp, sExpr, sAsg, sAug, sFld, sRevI, sPop, eLoc, eC, eUn, eBin, eAnd, eOr, eNot, eIf, eTup, eLst, dNil, dCons, tVal_eq, tstD_bl, tAndW, tOrW, tNotW, eFld_eq, eFldD_o, eProp, eMeth, eMeth0, eSl, pNone, pSome, sl_l,
  out_sh, out_fr, get_loc, get_sh, get_fr, getL_z, getL_o, getL_s, bound_z, bound_o, bound_s, isOwn_o, isOwn_s, pok_loc, pok_sh, pok_fr, stl_loc, stlS_sh, stlS_own, stl_sh, stl_fr, lay_fr, lay_sh, lay_loc, envOf, slotsOf, valN, ghOf, endK, resK, exMu, muN, List.cons_append, List.nil_append, List.append_nil, List.length_cons, List.length_nil, Nat.reduceAdd, Nat.reduceSub, List.replicate_succ, List.replicate_zero, List.replicate,
  List.getElem?_cons_zero, List.getElem?_cons_succ, List.getElem?_nil, List.set_cons_zero, List.set_cons_succ,
  add_ii, add_ss, add_ll, sub_ii, mul_ii, fdv_ii, fdvN_ii, mod_ii, modN_ii, pow_ii, lt_ii, le_ii, gt_ii, ge_ii, eq_ii, ne_ii, ix_li, ix_ti, neg_i, abs_i, int_i, int_b, max_ii, min_ii, len_l, len_t, list_l, list_t, rev_l, isi_int, isi_bl, isi_tup, isi_lst, isi_non, isN_i, isN_n, isN_t, isN_l, notN_i, notN_n, notN_t, notN_l, isTy,
  atI0, atI1, atI2, ixN0, ixN1, ixN2, some_inj_ex, isObj, setAt0, setAt1, setAt2, setAt3, restE, keepS, wipeE, ↓reduceIte, if_false, if_true,
  eCall, eCallP, eMake, pm, eTwo, dLit, eOwn2, eLenO, okLen, eMethP, eMakeP, isC_o, eRepL, lr1_i, lr2_i, List.filterMap_cons, List.filterMap_nil, agNil, agRo, agBo, agMu, agTm, callK, boIx, muIx, tms, argsK, upE, reown, hasBo, noTm, flatRo, noLstAll, noLst, noLsts, List.nodup_nil, List.nodup_cons, List.not_mem_nil, not_false_eq_true, Nat.zero_le, Nat.le_refl, Nat.reduceLeDiff, List.mem_cons, or_false, reduceCtorEq,
  gN, gTp, gLs, gCn, gNl, iR1, iR2, iLst, iTpl, iEnum, stab,
  e0_is, t0_is, d0_is, s0_is, i0_is, sTry, hXk_n, hXk_s, sRaise, eCallX, eCallXP, eMethX, eMakeX, ePropX, eOwn2X, callX, roA, opXv_exn, opIsX_exn, List.map_cons, List.map_nil, Nat.lt_irrefl, Nat.zero_lt_one, Nat.reduceLT, Nat.zero_lt_succ, some_inj_ex,
  true_and, and_true, eq_self, List.length_map, decide_true, decide_false, Bool.not_true, Bool.not_false, not_true_eq_false, Bool.true_eq_false, Bool.false_eq_true, false_imp_iff, forall_const, true_imp_iff, and_self, decide_eq_true_eq, decide_eq_false_iff_not, Bool.not_eq_true', Bool.not_eq_false'])
namespace CD
/- _law_classes: 0:value 1:rules 2:k 3:pair -/
/- _law_fits: 0:rules 1:classes 2:number 3:found 4:one 5:due 6:k -/
end CD
end TL

namespace TL
open PySem L2
set_option maxHeartbeats 2000000
local macro_rules | `(tactic| walk_at "sx") => `(tactic| simp only [sSeq, sNil, sSet, sFrz, frz_o, frz_sh, frz_s, sIf, sRet, sRetN, sPass, sBrk, sPar, sSub, sApp, sExpr, sAsg, sAug, sFld, sRevI, sPop, eLoc, eC, eUn, eBin, eAnd, eOr, eNot, eIf, eTup, eLst, dNil, dCons, tVal_eq, tstD_bl, tAndW, tOrW, tNotW, eFld_eq, eFldD_o, eProp, eMeth, eMeth0, eSl, pNone, pSome, sl_l,
  out_sh, out_fr, get_loc, get_sh, get_fr, getL_z, getL_o, getL_s, bound_z, bound_o, bound_s, isOwn_o, isOwn_s, pok_loc, pok_sh, pok_fr, stl_loc, stlS_sh, stlS_own, stl_sh, stl_fr, lay_fr, lay_sh, lay_loc, envOf, slotsOf, valN, ghOf, endK, resK, exMu, muN, List.cons_append, List.nil_append, List.append_nil, List.length_cons, List.length_nil, Nat.reduceAdd, Nat.reduceSub, List.replicate_succ, List.replicate_zero, List.replicate,
  List.getElem?_cons_zero, List.getElem?_cons_succ, List.getElem?_nil, List.set_cons_zero, List.set_cons_succ,
  add_ii, add_ss, add_ll, sub_ii, mul_ii, fdv_ii, fdvN_ii, mod_ii, modN_ii, pow_ii, lt_ii, le_ii, gt_ii, ge_ii, eq_ii, ne_ii, ix_li, ix_ti, neg_i, abs_i, int_i, int_b, max_ii, min_ii, len_l, len_t, list_l, list_t, rev_l, isi_int, isi_bl, isi_tup, isi_lst, isi_non, isN_i, isN_n, isN_t, isN_l, notN_i, notN_n, notN_t, notN_l, isTy,
  atI0, atI1, atI2, ixN0, ixN1, ixN2, some_inj_ex, isObj, setAt0, setAt1, setAt2, setAt3, restE, keepS, wipeE, ↓reduceIte, if_false, if_true,
  eCall, eCallP, eMake, pm, eTwo, dLit, eOwn2, eLenO, okLen, eMethP, eMakeP, isC_o, eRepL, lr1_i, lr2_i, List.filterMap_cons, List.filterMap_nil, agNil, agRo, agBo, agMu, agTm, callK, boIx, muIx, tms, argsK, upE, reown, hasBo, noTm, flatRo, noLstAll, noLst, noLsts, List.nodup_nil, List.nodup_cons, List.not_mem_nil, not_false_eq_true, Nat.zero_le, Nat.le_refl, Nat.reduceLeDiff, List.mem_cons, or_false, reduceCtorEq,
  gN, gTp, gLs, gCn, gNl, iR1, iR2, iLst, iTpl, iEnum, stab,
  e0_is, t0_is, d0_is, s0_is, i0_is, sTry, hXk_n, hXk_s, sRaise, eCallX, eCallXP, eMethX, eMakeX, ePropX, eOwn2X, callX, roA, opXv_exn, opIsX_exn, List.map_cons, List.map_nil, Nat.lt_irrefl, Nat.zero_lt_one, Nat.reduceLT, Nat.zero_lt_succ, some_inj_ex,
  true_and, and_true, eq_self, List.length_map, decide_true, decide_false, Bool.not_true, Bool.not_false, not_true_eq_false, Bool.true_eq_false, Bool.false_eq_true, false_imp_iff, forall_const, true_imp_iff, and_self, decide_eq_true_eq, decide_eq_false_iff_not, Bool.not_eq_true', Bool.not_eq_false'])
namespace CD
namespace K43
/- _law_right: 0:cards 1:modulus 2:rules 3:built 4:classes 5:kept 6:k 7:number 8:first 9:second 10:found 11:again -/
/- law: 0:script 1:k -/
end K43
end CD
end TL

namespace TL
open PySem L2
set_option maxHeartbeats 2000000
local macro_rules | `(tactic| walk_at "sx") => `(tactic| simp only [sSeq, sNil, sSet, sFrz, frz_o, frz_sh, frz_s, sIf, sRet, sRetN, sPass, sBrk, sPar, sSub, sApp, sExpr, sAsg, sAug, sFld, sRevI, sPop, eLoc, eC, eUn, eBin, eAnd, eOr, eNot, eIf, eTup, eLst, dNil, dCons, tVal_eq, tstD_bl, tAndW, tOrW, tNotW, eFld_eq, eFldD_o, eProp, eMeth, eMeth0, eSl, pNone, pSome, sl_l,
  out_sh, out_fr, get_loc, get_sh, get_fr, getL_z, getL_o, getL_s, bound_z, bound_o, bound_s, isOwn_o, isOwn_s, pok_loc, pok_sh, pok_fr, stl_loc, stlS_sh, stlS_own, stl_sh, stl_fr, lay_fr, lay_sh, lay_loc, envOf, slotsOf, valN, ghOf, endK, resK, exMu, muN, List.cons_append, List.nil_append, List.append_nil, List.length_cons, List.length_nil, Nat.reduceAdd, Nat.reduceSub, List.replicate_succ, List.replicate_zero, List.replicate,
  List.getElem?_cons_zero, List.getElem?_cons_succ, List.getElem?_nil, List.set_cons_zero, List.set_cons_succ,
  add_ii, add_ss, add_ll, sub_ii, mul_ii, fdv_ii, fdvN_ii, mod_ii, modN_ii, pow_ii, lt_ii, le_ii, gt_ii, ge_ii, eq_ii, ne_ii, ix_li, ix_ti, neg_i, abs_i, int_i, int_b, max_ii, min_ii, len_l, len_t, list_l, list_t, rev_l, isi_int, isi_bl, isi_tup, isi_lst, isi_non, isN_i, isN_n, isN_t, isN_l, notN_i, notN_n, notN_t, notN_l, isTy,
  atI0, atI1, atI2, ixN0, ixN1, ixN2, some_inj_ex, isObj, setAt0, setAt1, setAt2, setAt3, restE, keepS, wipeE, ↓reduceIte, if_false, if_true,
  eCall, eCallP, eMake, pm, eTwo, dLit, eOwn2, eLenO, okLen, eMethP, eMakeP, isC_o, eRepL, lr1_i, lr2_i, List.filterMap_cons, List.filterMap_nil, agNil, agRo, agBo, agMu, agTm, callK, boIx, muIx, tms, argsK, upE, reown, hasBo, noTm, flatRo, noLstAll, noLst, noLsts, List.nodup_nil, List.nodup_cons, List.not_mem_nil, not_false_eq_true, Nat.zero_le, Nat.le_refl, Nat.reduceLeDiff, List.mem_cons, or_false, reduceCtorEq,
  gN, gTp, gLs, gCn, gNl, iR1, iR2, iRL, iLst, iTpl, iEnum, stab,
  ite_self, str_i, fmt_i, fmt_s, isB_b, notB_b, any_l, tup_l, sExt, e0_is, t0_is, d0_is, s0_is, i0_is, sTry, hXk_n, hXk_s, sRaise, eCallX, eCallXP, eMethX, eMakeX, ePropX, eOwn2X, callX, roA, opXv_exn, opIsX_exn, List.map_cons, List.map_nil, Nat.lt_irrefl, Nat.zero_lt_one, Nat.reduceLT, Nat.zero_lt_succ, some_inj_ex,
  true_and, and_true, eq_self, List.length_map, decide_true, decide_false, Bool.not_true, Bool.not_false, not_true_eq_false, Bool.true_eq_false, Bool.false_eq_true, false_imp_iff, forall_const, true_imp_iff, and_self, decide_eq_true_eq, decide_eq_false_iff_not, Bool.not_eq_true', Bool.not_eq_false'])
namespace MP
/- show_fraction: 0:number -/
/- show_word: 0:word 1:remainder -/
/- _law_shown: 0:place -/
/- _law_word_text: 0:row 1:text 2:k -/
/- _law_lowest: 0:top 1:bottom 2:common -/
def b_law_lowest : SW := (sSeq (sFrz 2 (sSet 2 (eCall 2 sp_law_gcd (agRo (eLoc 0) (agRo (eLoc 1) agNil)))))
  (sRet (eTup (dCons (eBin opFdv (eLoc 0) (eLoc 2)) (dCons (eBin opFdv (eLoc 1) (eLoc 2)) dNil)))))
def sp_law_lowest : FSpec := fun args kr _ => ∃ t b : Int, args = [.ro (.int t), .ro (.int b)] ∧ 1 ≤ b ∧ Bt 8000 b ∧ kr (.sh (encR (t / (Int.gcd t b : Int), b / (Int.gcd t b : Int)))) []
theorem sat_law_lowest : Sat 3 MP.sp_law_lowest MP.b_law_lowest := by
  rintro args mus kr kx hm ⟨t, b, rfl, h1, hb, hk⟩
  obtain rfl := mus0 hm
  unfold MP.b_law_lowest
  walk_at "sx"
  refine ⟨t, b, rfl, ?_⟩
  walk_at "sx"
  exact ⟨DivOk.gcd h1 hb, DivOk.gcd h1 hb, hk⟩
namespace K74
/- law: 0:script 1:digits 2:cell 3:picks 4:bottom 5:place 6:found 7:row 8:handed 9:whole 10:long -/
end K74
end MP
end TL

namespace TL
open PySem L2
set_option maxHeartbeats 2000000
local macro_rules | `(tactic| walk_at "sx") => `(tactic| try simp only [sSeq, sNil, sSet, sFrz, frz_o, frz_sh, frz_s, sIf, sRet, sRetN, sPass, sBrk, sPar, sSub, sApp, sExpr, sAsg, sAug, sFld, sRevI, sPop, eLoc, eC, eUn, eBin, eAnd, eOr, eNot, eIf, eTup, eLst, dNil, dCons, tVal_eq, tstD_bl, tAndW, tOrW, tNotW, eFld_eq, eFldD_o, eProp, eMeth, eMeth0, eSl, pNone, pSome, sl_l,
  out_sh, out_fr, get_loc, get_sh, get_fr, getL_z, getL_o, getL_s, bound_z, bound_o, bound_s, isOwn_o, isOwn_s, pok_loc, pok_sh, pok_fr, stl_loc, stlS_sh, stlS_own, stl_sh, stl_fr, lay_fr, lay_sh, lay_loc, envOf, slotsOf, valN, ghOf, endK, resK, exMu, muN, List.cons_append, List.nil_append, List.append_nil, List.length_cons, List.length_nil, Nat.reduceAdd, Nat.reduceSub, List.replicate_succ, List.replicate_zero, List.replicate,
  List.getElem?_cons_zero, List.getElem?_cons_succ, List.getElem?_nil, List.set_cons_zero, List.set_cons_succ,
  add_ii, add_ss, add_ll, sub_ii, mul_ii, fdv_ii, fdvN_ii, mod_ii, modN_ii, pow_ii, lt_ii, le_ii, gt_ii, ge_ii, eq_ii, ne_ii, ix_li, ix_ti, neg_i, abs_i, int_i, int_b, max_ii, min_ii, len_l, len_t, list_l, list_t, rev_l, isi_int, isi_bl, isi_tup, isi_lst, isi_non, isN_i, isN_n, isN_t, isN_l, notN_i, notN_n, notN_t, notN_l, isTy,
  atI0, atI1, atI2, ixN0, ixN1, ixN2, some_inj_ex, isObj, setAt0, setAt1, setAt2, setAt3, restE, keepS, wipeE, ↓reduceIte, if_false, if_true,
  eCall, eCallP, eMake, pm, eTwo, dLit, eOwn2, eLenO, okLen, eMethP, eMakeP, isC_o, eRepL, lr1_i, lr2_i, List.filterMap_cons, List.filterMap_nil, agNil, agRo, agBo, agMu, agTm, callK, boIx, muIx, tms, argsK, upE, reown, hasBo, noTm, flatRo, noLstAll, noLst, noLsts, List.nodup_nil, List.nodup_cons, List.not_mem_nil, not_false_eq_true, Nat.zero_le, Nat.le_refl, Nat.reduceLeDiff, List.mem_cons, or_false, reduceCtorEq,
  gN, gTp, gLs, gCn, gNl, iR1, iR2, iRL, iLst, iTpl, iEnum, stab,
  ite_self, str_i, fmt_i, fmt_s, isB_b, notB_b, any_l, tup_l, sExt, e0_is, t0_is, d0_is, s0_is, i0_is, sTry, hXk_n, hXk_s, sRaise, eCallX, eCallXP, eMethX, eMakeX, ePropX, eOwn2X, callX, roA, opXv_exn, opIsX_exn, List.map_cons, List.map_nil, Nat.lt_irrefl, Nat.zero_lt_one, Nat.reduceLT, Nat.zero_lt_succ, some_inj_ex,
  true_and, and_true, eq_self, List.length_map, decide_true, decide_false, Bool.not_true, Bool.not_false, not_true_eq_false, Bool.true_eq_false, Bool.false_eq_true, false_imp_iff, forall_const, true_imp_iff, and_self, decide_eq_true_eq, decide_eq_false_iff_not, Bool.not_eq_true', Bool.not_eq_false'])
namespace CD
namespace K46
theorem low_uniq {p : Int × Int} (h1 : 1 ≤ p.2) (hg : Int.gcd p.1 p.2 = 1) {t b : Int} (hb : 1 ≤ b) (h : p.1 * b = t * p.2) : low t b = p := by
  have d : p.2 ∣ b := dvd_of_gcd hg ⟨t, by rw [Int.mul_comm b, h, Int.mul_comm]⟩
  obtain ⟨k, hk⟩ := d
  have hk0 : 0 < k := by
    rcases Int.lt_or_le 0 k with h | h
    · exact h
    · have : p.2 * k ≤ p.2 * 0 := Int.mul_le_mul_of_nonneg_left h (by omega)
      omega
  have ht : t = p.1 * k := by
    have : t * p.2 = (p.1 * k) * p.2 := by rw [← h, hk]; grind
    exact Int.eq_of_mul_eq_mul_right (by omega) this
  rw [ht, hk, low_mul hk0 h1, low_self hg]
variable {base : Nat} {rs : List (Int × Int)} {p : Int × Int}
theorem walkF_u (h : MapOk rs) (hg : Good rs.length p) (n : Nat) : walkF rs n p = low (uWalk rs p.2 p.1 n) p.2 := by
  have := walkF_low h (u := p.1) hg.1 hg.2.2 n
  rwa [low_self hg.2.1] at this
theorem wordF_u (h : MapOk rs) (hg : Good rs.length p) (n : Nat) : wordF rs p n = uWord rs p.2 p.1 n := by
  have := wordF_low h (u := p.1) hg.1 hg.2.2 n
  rwa [low_self hg.2.1] at this
theorem wd_word {rs : List (Int × Int)} (h : MapOk rs) {p : Int × Int} (hg : Good rs.length p) (n : Nat) : Wd rs.length (wordF rs p n) := by
  intro e he
  unfold wordF at he
  obtain ⟨i, _, rfl⟩ := List.mem_map.mp he
  obtain ⟨a, b, _⟩ := remF_spec (t := (walkF rs i p).1) h.pos (walkF_good hg i).2.2
  exact ⟨a, b⟩
/-- back by the word that was walked -/
theorem back_walk (hr : RulesOk base rs) (h2 : 2 ≤ base) (h6 : base ≤ 60) (hg : Good rs.length p) (n : Nat) : backW rs (walkF rs n p) (wordF rs p n) = p := by
  have h := hr.map h2 (by omega)
  have hw := wd_word h hg n
  have ha := (form_a_size hr hw).2
  have q1 : 1 ≤ (walkF rs n p).2 := (walkF_good hg n).1
  have fw := form_walkU h hg.2.2 p.1 n
  rw [← wordF_u h hg] at fw
  have e := walkF_u h hg n
  obtain ⟨c, hc, eu, eq⟩ := low_gcd (u := uWalk rs p.2 p.1 n) hg.1
  rw [← e] at eu eq
  unfold backW
  generalize walkF rs n p = q at *
  generalize formF rs (wordF rs p n) = F at *
  obtain ⟨A, B, S⟩ := F
  refine low_uniq hg.1 hg.2.1 (pos_mul ha q1) ?_
  show p.1 * (A * q.2) = (S * q.1 - B * q.2) * p.2
  have ha : 1 ≤ A := ha
  have fw : A * p.1 + B * p.2 = S * uWalk rs p.2 p.1 n := fw
  have key : (p.1 * (A * q.2)) * c = ((S * q.1 - B * q.2) * p.2) * c := by
    have a1 : (p.1 * (A * q.2)) * c = A * p.1 * (q.2 * c) := by grind
    have a2 : ((S * q.1 - B * q.2) * p.2) * c = (S * (q.1 * c) - B * (q.2 * c)) * p.2 := by grind
    rw [a1, a2, ← eu, ← eq, ← fw]; grind
  exact Int.eq_of_mul_eq_mul_right (by omega) key
/-- from what back leads to, the word leads to where it began -/
theorem walk_back (hr : RulesOk base rs) (h2 : 2 ≤ base) (h6 : base ≤ 60) (hg : Good rs.length p) {ws : List Int} (hw : Wd rs.length ws) : walkF rs ws.length (backW rs p ws) = p ∧ wordF rs (backW rs p ws) ws.length = ws := by
  have h := hr.map h2 (by omega)
  obtain ⟨g, uw, us⟩ := backW_spec hr h2 h6 hg hw
  rw [wordF_u h g, walkF_u h g]
  refine ⟨low_uniq hg.1 hg.2.1 g.1 us.symm, uw⟩
theorem back_app (hr : RulesOk base rs) (h2 : 2 ≤ base) (h6 : base ≤ 60) (hg : Good rs.length p) {us vs : List Int} (hu : Wd rs.length us) (hv : Wd rs.length vs) : backW rs (backW rs p us) vs = backW rs p (vs ++ us) := by
  have g1 := (backW_spec hr h2 h6 hg hu).1
  have g2 := (backW_spec hr h2 h6 g1 hv).1
  obtain ⟨w1, w2⟩ := walk_back hr h2 h6 hg hu
  obtain ⟨v1, v2⟩ := walk_back hr h2 h6 g1 hv
  have e := back_walk hr h2 h6 g2 (vs.length + us.length)
  rw [← walkF_add, wordF_add, v1, v2, w1, w2] at e
  exact e.symm
theorem backF_W (k : Nat) : backF rs p k = backW rs p [(k : Int)] := by
  unfold backF backW formF
  show low _ _ = low ((joinF (1, 0, 1) (ruleAt rs k) rs.length).2.2 * p.1 - (joinF (1, 0, 1) (ruleAt rs k) rs.length).2.1 * p.2) ((joinF (1, 0, 1) (ruleAt rs k) rs.length).1 * p.2)
  unfold joinF
  simp
/-! ### the functions -/
/- back_by: 0:rule_map 1:number 2:word 3:a 4:b 5:whole 6:top 7:bottom -/
/- numbers_before: 0:rule_map 1:number 2:steps 3:found 4:step 5:earlier 6:one -/
/- _law_integers: 0:built 1:number 2:firsts 3:seconds 4:one 5:pair -/
/- _law_right: 0:cards 1:modulus 2:built 3:number 4:count 5:one 6:two 7:found 8:start 9:there -/
/- law: 0:script 1:k -/
end K46
end CD
end TL

namespace TL
open PySem L2
set_option maxHeartbeats 2000000
local macro_rules | `(tactic| walk_at "sx") => `(tactic| try simp only [sSeq, sNil, eDisp1, eDispN, ltT_l, sumT_l, eDIn, eDNotIn, eDSetd, eDNew, eDGet, eDGet2, sDSet, eTake, sAugL, isDc, sCut, eNe2, neK, rep_l, minT_t, ltL_l, lenDT_d, ghs_cons, ghs_nil, eKeep, keep_fr, keep_sh, keep_gh, keep_loc, eAd, eDr, eBinG, sAppE, sRevE, sPopE, eFz, fz_sh, fz_fr, fz_gh, fz_loc, ePk, gF, gP, agBg, agMg, agBd, pvw, eCallG, true_or, or_true, setU1, setU2, jx, lkA, lkB, lkC, lk_ex, eFldC, sFldC, eMethW, eMethWP, eCallW, eCallWP, eLenW, eMakeW, kLent, kMut, kDeep, Rv.pend, ePopE, endI, get_gh, stl_gh, pok_gh, owns, List.drop_succ_cons, List.drop_zero, List.take_succ_cons, List.take_zero, List.mem_cons, List.not_mem_nil, or_false, sSet, sFrz, frz_o, frz_sh, frz_s, sIf, sRet, sRetN, sPass, sBrk, sPar, sSub, sApp, sExpr, sAsg, sAug, sFld, sRevI, sPop, eLoc, eC, eUn, eBin, eAnd, eOr, eNot, eIf, eTup, eLst, dNil, dCons, tVal_eq, tstD_bl, tAndW, tOrW, tNotW, eFld_eq, eFldD_o, eProp, eMeth, eMeth0, eSl, eSl3, sl3_l, pNone, pSome, sl_l,
  out_sh, out_fr, get_loc, get_sh, get_fr, getL_z, getL_o, getL_s, bound_z, bound_o, bound_s, isOwn_o, isOwn_s, pok_loc, pok_sh, pok_fr, stl_loc, stlS_sh, stlS_own, stl_sh, stl_fr, lay_fr, lay_sh, lay_loc, envOf, slotsOf, valN, ghOf, endK, resK, exMu, muN, List.cons_append, List.nil_append, List.append_nil, List.length_cons, List.length_nil, Nat.reduceAdd, Nat.reduceSub, List.replicate_succ, List.replicate_zero, List.replicate,
  List.getElem?_cons_zero, List.getElem?_cons_succ, List.getElem?_nil, List.set_cons_zero, List.set_cons_succ,
  add_ii, add_ss, add_ll, sub_ii, mul_ii, fdv_ii, fdvN_ii, mod_ii, modN_ii, pow_ii, lt_ii, le_ii, gt_ii, ge_ii, eq_ii, ne_ii, ix_li, ix_ti, neg_i, abs_i, int_i, int_b, max_ii, min_ii, len_l, len_t, list_l, list_t, rev_l, isi_int, isi_bl, isi_tup, isi_lst, isi_non, isN_i, isN_n, isN_t, isN_l, notN_i, notN_n, notN_t, notN_l, isTy,
  atI0, atI1, atI2, ixN0, ixN1, ixN2, some_inj_ex, isObj, setAt0, setAt1, setAt2, setAt3, restE, keepS, wipeE, ↓reduceIte, if_false, if_true,
  eCall, eCallP, eMake, pm, eTwo, dLit, eOwn2, eLenO, okLen, eMethP, eMakeP, isC_o, eRepL, lr1_i, lr2_i, List.filterMap_cons, List.filterMap_nil, agNil, agRo, agBo, agMu, agTm, callK, boIx, muIx, tms, argsK, upE, reown, hasBo, noTm, flatRo, noLstAll, noLst, noLsts, List.nodup_nil, List.nodup_cons, List.not_mem_nil, not_false_eq_true, Nat.zero_le, Nat.le_refl, Nat.reduceLeDiff, List.mem_cons, or_false, reduceCtorEq,
  gN, gTp, gLs, gCn, gNl, iR1, iR2, iRL, iLst, iTpl, iEnum, stab,
  ite_self, str_i, fmt_i, fmt_s, isB_b, notB_b, any_l, tup_l, sExt, e0_is, t0_is, d0_is, s0_is, i0_is, sTry, hXk_n, hXk_s, sRaise, eCallX, eCallXP, eMethX, eMakeX, ePropX, eOwn2X, callX, roA, opXv_exn, opIsX_exn, List.map_cons, List.map_nil, Nat.lt_irrefl, Nat.zero_lt_one, Nat.reduceLT, Nat.zero_lt_succ, some_inj_ex,
  Option.isSome_some, Option.isSome_none, true_and, and_true, eq_self, List.length_map, decide_true, decide_false, Bool.not_true, Bool.not_false, not_true_eq_false, Bool.true_eq_false, Bool.false_eq_true, false_imp_iff, forall_const, true_imp_iff, and_self, decide_eq_true_eq, decide_eq_false_iff_not, Bool.not_eq_true', Bool.not_eq_false'])
namespace WK
/-- a walker: its class, its map, where it was, its remainders, its list of marks -/
abbrev wkD (c : Nat) (rs pl : List (Int × Int)) (ts : List Int) (b : Addr) : D := .obj c [mapD rs, encRs pl, encZs ts, .ptr b]
def sp_Walker_init : FSpec := fun args kr _ => ∃ (c : Nat) (rs : List (Int × Int)) (p : Int × Int), args = [.mu (.obj c []), .ro (mapD rs), .ro (encR p)] ∧ (c = 1 ∨ c = 2) ∧ Good rs.length p ∧ ∀ b : Addr, kr (.gx [b] [.lst []] .non) [wkD c rs [p] [] b]
def sp_Walker_here : FSpec := fun args kr _ => ∃ (c : Nat) (rs pl : List (Int × Int)) (ts : List Int) (x : D) (p : Int × Int), args = [.ro (.obj c [mapD rs, encRs pl, encZs ts, x])] ∧ (c = 1 ∨ c = 2) ∧ pl.getLast? = some p ∧ kr (.sh (encR p)) []
def sp_Walker_trail : FSpec := fun args kr _ => ∃ (c : Nat) (rs pl : List (Int × Int)) (ts : List Int) (x : D), args = [.ro (.obj c [mapD rs, encRs pl, encZs ts, x])] ∧ (c = 1 ∨ c = 2) ∧ kr (.fr (encRs pl)) []
def sp_Walker_word : FSpec := fun args kr _ => ∃ (c : Nat) (rs pl : List (Int × Int)) (ts : List Int) (x : D), args = [.ro (.obj c [mapD rs, encRs pl, encZs ts, x])] ∧ (c = 1 ∨ c = 2) ∧ kr (.fr (encZs ts)) []
def sp_Walker_len : FSpec := fun args kr _ => ∃ (c : Nat) (rs pl : List (Int × Int)) (ts : List Int) (ms : List (Int × Int)), args = [.ro (.obj c [mapD rs, encRs pl, encZs ts, encRs ms])] ∧ (c = 1 ∨ c = 2) ∧ kr (.sh (.int ms.length)) []
/-- a walk is small enough to be taken -/
structure WOk (rs : List (Int × Int)) (p : Int × Int) (n : Nat) : Prop where
  ok : MapOk rs
  good : Good rs.length p
  top : ∀ i, i ≤ n → Bt 80000000 (walkF rs i p).1
  bot : Bt 8000 p.2
  few : n ≤ 1000
def sp_Walker_call : FSpec := fun args kr _ => ∃ (c : Nat) (rs pl : List (Int × Int)) (ts : List Int) (b : Addr) (ms : List (Int × Int)) (p : Int × Int) (n : Nat), args = [.mu (wkD c rs pl ts b), .ro (.int n), .gh b (encRs ms)] ∧ (c = 1 ∨ c = 2) ∧ pl.getLast? = some p ∧ WOk rs p n ∧ pl.length ≤ 100000 ∧ ts.length ≤ 100000 ∧ ms.length ≤ 100000 ∧
  kr (.sh (encR (walkF rs n p))) [wkD c rs (pl ++ (trk rs p (n + 1)).tail) (ts ++ wordF rs p n) b, encRs (ms ++ [((pl.length : Int), (ts.length : Int))])]
/- Walker_init: 0:self 1:rule_map 2:start -/
def b_Walker_init : SW := (sSeq (sIf (tNotW (tVal (eCall 2 sp_is_good (agRo (eProp 0 sp_Map_modulus (eLoc 1)) (agRo (eLoc 2) agNil))))) sNever sNil)
  (sSeq (sFldC 0 [1, 2] 0 (eLoc 1))
  (sSeq (sFldC 0 [1, 2] 1 (eLst (dCons (eTup (dCons (eBin opIx (eLoc 2) (eC (.int 0))) (dCons (eBin opIx (eLoc 2) (eC (.int 1))) dNil))) dNil)))
  (sSeq (sFldC 0 [1, 2] 2 (eLst dNil))
  (sFldC 0 [1, 2] 3 (eKeep (eLst dNil)))))))
/- Walker_here: 0:self -/
def b_Walker_here : SW := (sRet (eBin opIx (eFldC [1, 2] 1 (eLoc 0)) (eUn opNeg (eC (.int 1)))))
/- Walker_trail: 0:self -/
def b_Walker_trail : SW := (sRet (eUn opList (eFldC [1, 2] 1 (eLoc 0))))
/- Walker_word: 0:self -/
def b_Walker_word : SW := (sRet (eUn opList (eFldC [1, 2] 2 (eLoc 0))))
/- Walker_len: 0:self -/
def b_Walker_len : SW := (sRet (eUn opLen (eFldC [1, 2] 3 (eLoc 0))))
/- Walker_call: 0:self 1:steps 2:start -/
def b_Walker_call : SW := (sSeq (sIf (tVal (eBin opLt (eLoc 1) (eC (.int 0)))) sNever sNil)
  (sSeq (sFrz 2 (sSet 2 (eMethW false kLent 1 [(1, sp_Walker_here), (2, sp_Walker_here)] (eLoc 0) agNil)))
  (sSeq (sAppE (eDr (eFldC [1, 2] 3 (eLoc 0))) (eTup (dCons (eUn opLen (eFldC [1, 2] 1 (eLoc 0))) (dCons (eUn opLen (eFldC [1, 2] 2 (eLoc 0))) dNil))))
  (sSeq (sFldC 0 [1, 2] 1 (eBin opAdd (eFldC [1, 2] 1 (eLoc 0)) (eSl (eCall 3 sp_walk (agRo (eFldC [1, 2] 0 (eLoc 0)) (agRo (eLoc 2) (agRo (eLoc 1) agNil)))) (pSome (eC (.int 1))) pNone)))
  (sSeq (sFldC 0 [1, 2] 2 (eBin opAdd (eFldC [1, 2] 2 (eLoc 0)) (eCall 3 sp_word_of (agRo (eFldC [1, 2] 0 (eLoc 0)) (agRo (eLoc 2) (agRo (eLoc 1) agNil))))))
  (sRet (eMethW false kLent 1 [(1, sp_Walker_here), (2, sp_Walker_here)] (eLoc 0) agNil)))))))
theorem getLast_at {α : Type} {f : α → D} {pl : List α} {p : α} (h : pl.getLast? = some p) : L2.atI (pl.map f) (-1) = some (f p) := by
  have hl : 0 < pl.length := by cases pl with
    | nil => simp at h
    | cons a r => simp
  rw [List.getLast?_eq_getElem?] at h
  unfold L2.atI ixN
  rw [List.length_map, if_neg (by omega), if_pos (by omega), Option.bind_some, show (-1 + (pl.length : Int)).toNat = pl.length - 1 by omega, List.getElem?_map, h]
  rfl
theorem sat_Walker_here : Sat 1 sp_Walker_here b_Walker_here := by
  rintro args mus kr kx hm ⟨c, rs, pl, ts, x, p, rfl, hc, hl, hk⟩
  obtain rfl := mus0 hm
  unfold b_Walker_here
  rcases hc with rfl | rfl
  all_goals
    walk_at "sx"
    exact ⟨_, getLast_at hl, hk⟩
theorem sat_Walker_trail : Sat 1 sp_Walker_trail b_Walker_trail := by
  rintro args mus kr kx hm ⟨c, rs, pl, ts, x, rfl, hc, hk⟩
  obtain rfl := mus0 hm
  unfold b_Walker_trail
  rcases hc with rfl | rfl
  all_goals
    walk_at "sx"
    exact hk
theorem sat_Walker_word : Sat 1 sp_Walker_word b_Walker_word := by
  rintro args mus kr kx hm ⟨c, rs, pl, ts, x, rfl, hc, hk⟩
  obtain rfl := mus0 hm
  unfold b_Walker_word
  rcases hc with rfl | rfl
  all_goals
    walk_at "sx"
    exact hk
theorem sat_Walker_len : Sat 1 sp_Walker_len b_Walker_len := by
  rintro args mus kr kx hm ⟨c, rs, pl, ts, ms, rfl, hc, hk⟩
  obtain rfl := mus0 hm
  unfold b_Walker_len
  rcases hc with rfl | rfl
  all_goals
    walk_at "sx"
    exact hk
theorem sat_Walker_init : SatI 3 sp_Walker_init b_Walker_init := by
  rintro args mus kr kx hm ⟨c, rs, p, rfl, hc, hg, hk⟩
  obtain ⟨s, rfl⟩ := mus1 hm
  unfold b_Walker_init
  rcases hc with rfl | rfl
  all_goals
    walk_at "sx"
    refine ⟨rs, rfl, ?_⟩
    walk_at "sx"
    refine ⟨_, p, rfl, ?_⟩
    walk_at "sx"
    refine ⟨fun h => absurd hg h, fun _ => ?_⟩
    intro a ha
    exact ⟨[a], [.lst []], rfl, List.Sublist.refl _, hk a⟩
theorem trk_len (rs : List (Int × Int)) (p : Int × Int) (n : Nat) : (trk rs p n).length = n := by unfold trk; simp
theorem trk_end {rs pl : List (Int × Int)} {p : Int × Int} {n : Nat} (h : pl.getLast? = some p) : (pl ++ (trk rs p (n + 1)).tail).getLast? = some (walkF rs n p) := by
  rw [List.getLast?_append]
  cases n with
  | zero =>
    have : (trk rs p (0 + 1)).tail = [] := by unfold trk; rfl
    rw [this, h]
    rfl
  | succ n =>
    have : (trk rs p (n + 1 + 1)).tail.getLast? = some (walkF rs (n + 1) p) := by
      rw [List.getLast?_eq_getElem?, List.length_tail, trk_len, List.getElem?_tail]
      unfold trk
      rw [List.getElem?_map, List.getElem?_range (by omega)]
      rfl
    rw [this]
    rfl
theorem trk_tail (rs : List (Int × Int)) (p : Int × Int) (n : Nat) : cutL ((trk rs p (n + 1)).map encR) (some 1) none = (trk rs p (n + 1)).tail.map encR := by
  have := cutL_drop (xs := (trk rs p (n + 1)).map encR) (n := 1) (by rw [List.length_map, trk_len]; omega)
  rw [show ((1 : Nat) : Int) = 1 from rfl] at this
  rw [this, ← List.map_drop, List.drop_one]
theorem sat_Walker_call : SatG 3 sp_Walker_call b_Walker_call := by
  rintro args mus kr kx hm hgh ⟨c, rs, pl, ts, b, ms, p, n, rfl, hc, hl, hw, h1, h2, h3, hk⟩
  obtain ⟨s, m, rfl⟩ : ∃ s m, mus = [s, m] := by
    match mus, hm with
    | [s, m], _ => exact ⟨s, m, rfl⟩
  obtain ⟨rfl, _⟩ := hgh
  unfold b_Walker_call
  rcases hc with rfl | rfl
  all_goals
    walk_at "sx"
    refine ⟨fun h => absurd h (by omega), fun _ => ?_⟩
    walk_at "sx"
    refine ⟨_, rs, pl, ts, _, p, rfl, by simp, hl, ?_⟩
    walk_at "sx"
    refine ⟨rfl, 3, ⟨_, _, rfl⟩, ⟨_, _, rfl⟩, ?_⟩
    walk_at "sx"
    refine ⟨line_big (by omega), rs, p, n, rfl, hw.ok, hw.good, hw.top, hw.bot, by have := hw.few; omega, ?_⟩
    walk_at "sx"
    have tl := trk_tail rs p n
    refine ⟨by rw [tl]; have := hw.few; have : pl.length + ((trk rs p (n + 1)).tail.map encR).length ≤ 10000000 := (by rw [List.length_map, List.length_tail, trk_len]; omega); exact Nat.le_of_lt (line_big this), rs, p, n, rfl, hw.ok, hw.good, hw.top, hw.bot, by have := hw.few; omega, ?_⟩
    walk_at "sx"
    rw [tl]
    refine ⟨by have := hw.few; have : ts.length + (wordF rs p n).length ≤ 10000000 := (by rw [wordF_len]; omega); exact Nat.le_of_lt (line_big this), ?_⟩
    walk_at "sx"
    rw [← List.map_append, ← List.map_append]
    refine ⟨_, rs, pl ++ (trk rs p (n + 1)).tail, ts ++ wordF rs p n, _, walkF rs n p, rfl, by simp, trk_end hl, ?_⟩
    walk_at "sx"
    have e : D.lst (List.map encR ms ++ [D.tup [D.int pl.length, D.int ts.length]]) = encRs (ms ++ [((pl.length : Int), (ts.length : Int))]) := by
      show _ = D.lst (List.map encR _)
      rw [List.map_append]
      rfl
    rw [e]
    exact ⟨rfl, _, .inr rfl, hk⟩
end WK
end TL

namespace TL
open PySem L2
namespace WK
open MP (sp_law_cell_at sp_law_picks picksF pkF sp_law_lowest sp_law_rows RowsOk)
set_option maxHeartbeats 2000000
local macro_rules | `(tactic| walk_at "sx") => `(tactic| try simp only [sSeq, sNil, eDisp1, eDispN, ltT_l, sumT_l, eDIn, eDNotIn, eDSetd, eDNew, eDGet, eDGet2, sDSet, eTake, sAugL, isDc, sCut, eNe2, neK, rep_l, minT_t, ltL_l, lenDT_d, ghs_cons, ghs_nil, eKeep, keep_fr, keep_sh, keep_gh, keep_loc, eAd, eDr, eBinG, sAppE, sRevE, sPopE, eFz, fz_sh, fz_fr, fz_gh, fz_loc, ePk, gF, gP, agBg, agMg, agBd, pvw, eCallG, true_or, or_true, setU1, setU2, jx, lkA, lkB, lkC, lk_ex, eFldC, sFldC, eMethW, eMethWP, eCallW, eCallWP, eLenW, eMakeW, kLent, kMut, kDeep, Rv.pend, ePopE, endI, get_gh, stl_gh, pok_gh, owns, List.drop_succ_cons, List.drop_zero, List.take_succ_cons, List.take_zero, List.mem_cons, List.not_mem_nil, or_false, sSet, sFrz, frz_o, frz_sh, frz_s, sIf, sRet, sRetN, sPass, sBrk, sPar, sSub, sApp, sExpr, sAsg, sAug, sFld, sRevI, sPop, eLoc, eC, eUn, eBin, eAnd, eOr, eNot, eIf, eTup, eLst, dNil, dCons, tVal_eq, tstD_bl, tAndW, tOrW, tNotW, eFld_eq, eFldD_o, eProp, eMeth, eMeth0, eSl, eSl3, sl3_l, pNone, pSome, sl_l,
  out_sh, out_fr, get_loc, get_sh, get_fr, getL_z, getL_o, getL_s, bound_z, bound_o, bound_s, isOwn_o, isOwn_s, pok_loc, pok_sh, pok_fr, stl_loc, stlS_sh, stlS_own, stl_sh, stl_fr, lay_fr, lay_sh, lay_loc, envOf, slotsOf, valN, ghOf, endK, resK, exMu, muN, List.cons_append, List.nil_append, List.append_nil, List.length_cons, List.length_nil, Nat.reduceAdd, Nat.reduceSub, List.replicate_succ, List.replicate_zero, List.replicate,
  List.getElem?_cons_zero, List.getElem?_cons_succ, List.getElem?_nil, List.set_cons_zero, List.set_cons_succ,
  add_ii, add_ss, add_ll, sub_ii, mul_ii, fdv_ii, fdvN_ii, mod_ii, modN_ii, pow_ii, lt_ii, le_ii, gt_ii, ge_ii, eq_ii, ne_ii, ix_li, ix_ti, neg_i, abs_i, int_i, int_b, max_ii, min_ii, len_l, len_t, list_l, list_t, rev_l, isi_int, isi_bl, isi_tup, isi_lst, isi_non, isN_i, isN_n, isN_t, isN_l, notN_i, notN_n, notN_t, notN_l, isTy,
  atI0, atI1, atI2, ixN0, ixN1, ixN2, some_inj_ex, isObj, setAt0, setAt1, setAt2, setAt3, restE, keepS, wipeE, ↓reduceIte, if_false, if_true,
  eCall, eCallP, eMake, pm, eTwo, dLit, eOwn2, eLenO, okLen, eMethP, eMakeP, isC_o, eRepL, lr1_i, lr2_i, List.filterMap_cons, List.filterMap_nil, agNil, agRo, agBo, agMu, agTm, callK, boIx, muIx, tms, argsK, upE, reown, hasBo, noTm, flatRo, noLstAll, noLst, noLsts, List.nodup_nil, List.nodup_cons, List.not_mem_nil, not_false_eq_true, Nat.zero_le, Nat.le_refl, Nat.reduceLeDiff, List.mem_cons, or_false, reduceCtorEq,
  gN, gTp, gLs, gCn, gNl, iR1, iR2, iRL, iLst, iTpl, iEnum, stab,
  ite_self, str_i, fmt_i, fmt_s, isB_b, notB_b, any_l, tup_l, sExt, e0_is, t0_is, d0_is, s0_is, i0_is, sTry, hXk_n, hXk_s, sRaise, eCallX, eCallXP, eMethX, eMakeX, ePropX, eOwn2X, callX, roA, opXv_exn, opIsX_exn, List.map_cons, List.map_nil, Nat.lt_irrefl, Nat.zero_lt_one, Nat.reduceLT, Nat.zero_lt_succ, some_inj_ex,
  Option.isSome_some, Option.isSome_none, true_and, and_true, eq_self, List.length_map, decide_true, decide_false, Bool.not_true, Bool.not_false, not_true_eq_false, Bool.true_eq_false, Bool.false_eq_true, false_imp_iff, forall_const, true_imp_iff, and_self, decide_eq_true_eq, decide_eq_false_iff_not, Bool.not_eq_true', Bool.not_eq_false'])
/-- the remainder of a fraction -/
def sp_law_rest : FSpec := fun args kr _ => ∃ (m : Nat) (p : Int × Int), args = [.ro (.int m), .ro (encR p)] ∧ 1 ≤ m ∧ m ≤ 100000 ∧ Good m p ∧ Bt 8000 p.2 ∧ kr (.sh (.int (remF m p.1 p.2))) []
/- _law_fraction: 0:cell 1:base 2:picks 3:top 4:bottom -/
def b_law_fraction : SW := (sSeq (sFrz 2 (sSet 2 (eCall 2 sp_law_picks (agRo (eLoc 0) (agRo (eLst (dLit [(.int 6), (.int 2)] (dCons (eBin opPow (eC (.int 10)) (eC (.int 58))) (dCons (eBin opPow (eC (.int 10)) (eC (.int 30))) dNil)))) agNil)))))
  (sSeq (sFrz 3 (sSet 3 (eBin opMod (eBin opIx (eLoc 2) (eC (.int 2))) (eBin opIx (eLst (dLit [(.int 60), (.int 1000)] (dCons (eBin opPow (eC (.int 10)) (eC (.int 58))) dNil))) (eBin opMod (eBin opIx (eLoc 2) (eC (.int 0))) (eC (.int 3)))))))
  (sSeq (sFrz 4 (sSet 4 (eBin opAdd (eC (.int 1)) (eBin opMod (eBin opIx (eLoc 2) (eC (.int 3))) (eBin opIx (eLst (dLit [(.int 1), (.int 12), (.int 1), (.int 90)] (dCons (eBin opPow (eC (.int 10)) (eC (.int 6))) (dCons (eBin opPow (eC (.int 10)) (eC (.int 30))) dNil)))) (eBin opIx (eLoc 2) (eC (.int 0))))))))
  (sSeq (sWhile (tVal (eBin opGt (eCall 2 sp_law_gcd (agRo (eLoc 4) (agRo (eLoc 1) agNil))) (eC (.int 1)))) (sFrz 4 (sSet 4 (eBin opFdv (eLoc 4) (eCall 2 sp_law_gcd (agRo (eLoc 4) (agRo (eLoc 1) agNil)))))))
  (sSeq (sIf (tVal (eBin opEq (eBin opIx (eLoc 2) (eC (.int 1))) (eC (.int 1)))) (sSet 3 (eUn opNeg (eLoc 3))) sNil)
  (sRet (eCall 2 sp_law_lowest (agRo (eLoc 3) (agRo (eLoc 4) agNil)))))))))
/- _law_rest: 0:base 1:number 2:k -/
def b_law_rest : SW := (sRet (eBin opIx (eComp (iR1 (dCons (eLoc 0) dNil)) (gN 2) (tVal (eBin opEq (eBin opMod (eUn opInt (eBin opSub (eBin opMul (eLoc 2) (eBin opIx (eLoc 1) (eC (.int 1)))) (eBin opIx (eLoc 1) (eC (.int 0))))) (eLoc 0)) (eC (.int 0)))) (eLoc 2) [2]) (eC (.int 0))))
/- _law_move: 0:rows 1:number 2:a 3:b -/
def b_law_move : SW := (sSeq (sAsg (eBin opIx (eLoc 0) (eCall 2 sp_law_rest (agRo (eUn opLen (eLoc 0)) (agRo (eLoc 1) agNil)))) (gTp 2 (gCn (gN 2) (gCn (gN 3) gNl))))
  (sRet (eCall 2 sp_law_lowest (agRo (eBin opAdd (eBin opMul (eLoc 2) (eBin opIx (eLoc 1) (eC (.int 0)))) (eBin opMul (eLoc 3) (eBin opIx (eLoc 1) (eC (.int 1))))) (agRo (eBin opMul (eUn opLen (eLoc 0)) (eBin opIx (eLoc 1) (eC (.int 1)))) agNil)))))
theorem mul_low {m x u : Int} (hm : 0 < m) (hu : 1 ≤ u) : low (m * x) (m * u) = low x u := by
  rw [Int.mul_comm m x, Int.mul_comm m u]
  exact low_mul hm hu
theorem good_low {t b m : Int} (h1 : 1 ≤ b) (hg : Int.gcd b m = 1) : Good m (low t b) :=
  ⟨(gcd_div (a := t) h1).1, (gcd_div (a := t) h1).2, gcd_of_dvd (Int.ediv_dvd_of_dvd (Int.gcd_dvd_right _ _)) hg⟩
theorem bt_low1 {n : Nat} {t b : Int} (h : Bt n t) : Bt n (low t b).1 := h.le (Int.natAbs_ediv_le_natAbs _ _)
theorem bt_low2 {n : Nat} {t b : Int} (h : Bt n b) : Bt n (low t b).2 := h.le (Int.natAbs_ediv_le_natAbs _ _)
/-- a fraction drawn -/
def sp_law_fraction : FSpec := fun args kr _ => ∃ (c : Int) (base : Nat), args = [.ro (.int c), .ro (.int base)] ∧ Bt 2000000 c ∧ 2 ≤ base ∧ base ≤ 60 ∧ ∀ p, Good base p → Bt 1000 p.1 → Bt 200 p.2 → kr (.sh (encR p)) []
theorem gcd_drop {b m : Int} (hb : 1 ≤ b) (hg : 1 < (Int.gcd b m : Int)) : 1 ≤ b / (Int.gcd b m : Int) ∧ b / (Int.gcd b m : Int) < b := by
  have hd : (Int.gcd b m : Int) ∣ b := Int.gcd_dvd_left _ _
  obtain ⟨k, hk⟩ := hd
  have hk0 : 0 < k := by
    rcases Int.lt_or_le 0 k with h | h
    · exact h
    · have : (Int.gcd b m : Int) * k ≤ 0 := Int.mul_nonpos_of_nonneg_of_nonpos (by omega) h
      omega
  have e : b / (Int.gcd b m : Int) = k := by
    generalize hg' : (Int.gcd b m : Int) = g at *
    rw [hk]
    exact Int.mul_ediv_cancel_left _ (by omega)
  rw [e]
  refine ⟨by omega, ?_⟩
  have : 2 * k ≤ (Int.gcd b m : Int) * k := Int.mul_le_mul_of_nonneg_right (by omega) (by omega)
  omega
theorem e58 : (10 : Int) ^ (Int.toNat 58) = 10000000000000000000000000000000000000000000000000000000000 := by decide
theorem e30 : (10 : Int) ^ (Int.toNat 30) = 1000000000000000000000000000000 := by decide
theorem e06 : (10 : Int) ^ (Int.toNat 6) = 1000000 := by decide
theorem cp58 : CPow 10 58 := by unfold CPow; decide
theorem cp30 : CPow 10 30 := by unfold CPow; decide
theorem cp06 : CPow 10 6 := by unfold CPow; decide
theorem sat_law_fraction : Sat 5 sp_law_fraction b_law_fraction := by
  rintro args mus kr kx hm ⟨c, base, rfl, hc, h2, h6, hk⟩
  obtain rfl := mus0 hm
  unfold b_law_fraction
  walk_at "sx"
  simp only [e58, e30, e06]
  refine ⟨cp58, cp30, c, [6, 2, 10000000000000000000000000000000000000000000000000000000000, 1000000000000000000000000000000], rfl, hc, ?_, by simp, ?_⟩
  · intro s hs
    simp only [List.mem_cons, List.not_mem_nil, or_false] at hs
    rcases hs with rfl | rfl | rfl | rfl
    · exact ⟨by omega, by unfold Bt; decide⟩
    · exact ⟨by omega, by unfold Bt; decide⟩
    · exact ⟨by omega, by unfold Bt; decide⟩
    · exact ⟨by omega, by unfold Bt; decide⟩
  obtain ⟨ss, hss⟩ : ∃ ss : List Int, ss = [6, 2, 10000000000000000000000000000000000000000000000000000000000, 1000000000000000000000000000000] := ⟨_, rfl⟩
  have k0 := MP.pkF_bd (c := c) (ss := ss) (i := 0) (s := 6) (by rw [hss]; rfl) (by omega)
  have k2 := MP.pkF_bd (c := c) (ss := ss) (i := 2) (s := 10000000000000000000000000000000000000000000000000000000000) (by rw [hss]; rfl) (by omega)
  have k3 := MP.pkF_bd (c := c) (ss := ss) (i := 3) (s := 1000000000000000000000000000000) (by rw [hss]; rfl) (by omega)
  have e0 : L2.atI ((picksF c ss).map D.int) 0 = some (.int (pkF c ss 0)) := MP.atI_pk (by omega) (by rw [hss]; simp)
  have e1 : L2.atI ((picksF c ss).map D.int) 1 = some (.int (pkF c ss 1)) := MP.atI_pk (by omega) (by rw [hss]; simp)
  have e2 : L2.atI ((picksF c ss).map D.int) 2 = some (.int (pkF c ss 2)) := MP.atI_pk (by omega) (by rw [hss]; simp)
  have e3 : L2.atI ((picksF c ss).map D.int) 3 = some (.int (pkF c ss 3)) := MP.atI_pk (by omega) (by rw [hss]; simp)
  rw [← hss]
  walk_at "sx"
  simp only [e58, e30, e06, e0, e1, e2, e3, some_inj_ex]
  walk_at "sx"
  have t1 : ∃ d1 : Int, L2.atI [D.int 60, D.int 1000, D.int 10000000000000000000000000000000000000000000000000000000000] (pkF c ss 0 % 3) = some (.int d1) ∧ 0 < d1 ∧ Bt 200 d1 := by
    have : pkF c ss 0 % 3 = 0 ∨ pkF c ss 0 % 3 = 1 ∨ pkF c ss 0 % 3 = 2 := by omega
    rcases this with h | h | h <;> rw [h]
    · exact ⟨60, rfl, by omega, by unfold Bt; decide⟩
    · exact ⟨1000, rfl, by omega, by unfold Bt; decide⟩
    · exact ⟨_, rfl, by omega, by unfold Bt; decide⟩
  have t2 : ∃ d2 : Int, L2.atI [D.int 1, D.int 12, D.int 1, D.int 90, D.int 1000000, D.int 1000000000000000000000000000000] (pkF c ss 0) = some (.int d2) ∧ 0 < d2 ∧ Bt 110 d2 := by
    have : pkF c ss 0 = 0 ∨ pkF c ss 0 = 1 ∨ pkF c ss 0 = 2 ∨ pkF c ss 0 = 3 ∨ pkF c ss 0 = 4 ∨ pkF c ss 0 = 5 := by omega
    rcases this with h | h | h | h | h | h <;> rw [h]
    · exact ⟨1, rfl, by omega, by unfold Bt; decide⟩
    · exact ⟨12, rfl, by omega, by unfold Bt; decide⟩
    · exact ⟨1, rfl, by omega, by unfold Bt; decide⟩
    · exact ⟨90, rfl, by omega, by unfold Bt; decide⟩
    · exact ⟨1000000, rfl, by omega, by unfold Bt; decide⟩
    · exact ⟨_, rfl, by omega, by unfold Bt; decide⟩
  obtain ⟨d1, h1, p1, b1⟩ := t1
  obtain ⟨d2, q2, p2, b2⟩ := t2
  have m1 := Int.emod_nonneg (pkF c ss 2) (show d1 ≠ 0 by omega)
  have m2 := Int.emod_lt_of_pos (pkF c ss 2) p1
  have n1 := Int.emod_nonneg (pkF c ss 3) (show d2 ≠ 0 by omega)
  have n2 := Int.emod_lt_of_pos (pkF c ss 3) p2
  have bt : Bt 200 (pkF c ss 2 % d1) := b1.le (by omega)
  have bb : Bt 150 (1 + pkF c ss 3 % d2) := (Bt.add (n := 110) (by unfold Bt; decide) (b2.le (by omega))).mono (by omega)
  refine ⟨cp58, by omega, _, h1, ?_⟩
  walk_at "sx"
  simp only [e58, e30, e06, e0, e1, e2, e3, some_inj_ex]
  walk_at "sx"
  refine ⟨p1, cp06, cp30, _, q2, ?_⟩
  walk_at "sx"
  refine ⟨p2, ?_⟩
  have hb1 : 1 ≤ 1 + pkF c ss 3 % d2 := by omega
  generalize pkF c ss 2 % d1 = top at *
  generalize 1 + pkF c ss 3 % d2 = bot at *
  unfold sWhile
  walk_at "sx"
  refine ⟨fun m ρ => ∃ v : Int, ρ = [.sh (.int c), .sh (.int base), .sh (encZs (picksF c ss)), .sh (.int top), .sh (.int v)] ∧ 1 ≤ v ∧ Bt 150 v ∧ m = v.toNat, ⟨_, bot, rfl, hb1, bb, rfl⟩, ?_⟩
  rintro m ρ ⟨v, rfl, hv1, hv2, rfl⟩
  walk_at "sx"
  refine ⟨v, base, rfl, ?_⟩
  walk_at "sx"
  refine ⟨fun h => ?_, fun h => ?_⟩
  · obtain ⟨g1, g2⟩ := gcd_drop hv1 h
    refine ⟨v, base, rfl, ?_⟩
    walk_at "sx"
    refine ⟨DivOk.gcd (by omega) ((Bt.small (x := base) (by omega) (by omega)).mono (by omega)), _, by omega, v / (Int.gcd v base : Int), rfl, g1, hv2.le (Int.natAbs_ediv_le_natAbs _ _), rfl⟩
  · have hg : Int.gcd v base = 1 := by
      have := Int.gcd_pos_of_ne_zero_left (base : Int) (show v ≠ 0 by omega)
      omega
    simp only [e1, some_inj_ex]
    walk_at "sx"
    refine ⟨fun h1 => ?_, fun h1 => ?_⟩
    · refine ⟨_, _, rfl, hv1, hv2.mono (by omega), ?_⟩
      exact hk (low (-top) v) (good_low hv1 hg) (bt_low1 (bt.neg.mono (by omega))) (bt_low2 (hv2.mono (by omega)))
    · refine ⟨_, _, rfl, hv1, hv2.mono (by omega), ?_⟩
      exact hk (low top v) (good_low hv1 hg) (bt_low1 (bt.mono (by omega))) (bt_low2 (hv2.mono (by omega)))
theorem sat_law_rest : Sat 3 sp_law_rest b_law_rest := by
  rintro args mus kr kx hm ⟨m, p, rfl, h1, h2, hg, hb, hk⟩
  obtain rfl := mus0 hm
  obtain ⟨r0, r1, r2⟩ := remF_spec (m := (m : Int)) (t := p.1) (b := p.2) (by omega) hg.2.2
  unfold b_law_rest
  walk_at "sx"
  simp only [eComp, iR1, iLst]
  walk_at "sx"
  refine ⟨by omega, fun i acc ρ => acc = (if remF m p.1 p.2 < (i : Int) then [.int (remF m p.1 p.2)] else []) ∧ ρ = [.sh (.int m), .sh (encR p), .no], ⟨by rw [if_neg (by omega)], rfl⟩, fun _ _ _ _ _ => trivial, ?_, ?_⟩
  · rintro i d acc ρ hi rfl ⟨ha, rfl⟩
    have hi : i < m := by omega
    walk_at "sx"
    have bi : Bt 40 (i : Int) := Bt.small (by omega) (by omega)
    refine ⟨bi.mulOk hb (by omega), by omega, fun h => ?_, fun h => ?_⟩
    · have e : remF m p.1 p.2 = i := remF_eq (by omega) hg.2.2 (by omega) (by omega) h
      rw [e] at ha ⊢
      rw [if_neg (by omega)] at ha
      subst ha
      rw [if_pos (by omega)]
      exact ⟨line_big (by simp), rfl⟩
    · have e : remF m p.1 p.2 ≠ i := by
        intro e
        rw [e] at r2
        exact h r2
      rw [ha]
      by_cases h3 : remF m p.1 p.2 < (i : Int)
      · rw [if_pos h3, if_pos (by omega)]
      · rw [if_neg h3, if_neg (by omega)]
  · rintro acc ρ ⟨ha, rfl⟩
    rw [if_pos (by omega)] at ha
    subst ha
    walk_at "sx"
    exact hk
def sp_law_move : FSpec := fun args kr _ => ∃ (rs : List (Int × Int)) (p : Int × Int), args = [.ro (encRs rs), .ro (encR p)] ∧ MapOk rs ∧ Good rs.length p ∧ Bt 80000000 p.1 ∧ Bt 7000 p.2 ∧ kr (.sh (encR (stepF rs p))) []
theorem sat_law_move : Sat 4 sp_law_move b_law_move := by
  rintro args mus kr kx hm ⟨rs, p, rfl, ho, hg, ht, hb, hk⟩
  obtain rfl := mus0 hm
  have hl : ((rs.length : Nat) : Int) = rs.length := rfl
  obtain ⟨r0, r1, r2⟩ := remF_spec (m := (rs.length : Int)) (t := p.1) (b := p.2) (by have := ho.two; omega) hg.2.2
  unfold b_law_move
  walk_at "sx"
  try simp only [List.length_map]
  refine ⟨rs.length, p, rfl, by have := ho.two; omega, ho.few, hg, hb.mono (by omega), ?_⟩
  walk_at "sx"
  rw [atI_map (x := (1, 0)) r0 r1]
  refine ⟨_, rfl, ?_⟩
  walk_at "sx"
  have hs := ho.sz _ (mem_getD (x := (1, 0)) r0 r1)
  have bl : Bt 40 (rs.length : Int) := Bt.small (by omega) (by have := ho.few; omega)
  have bq : 1 ≤ (rs.length : Int) * p.2 := Int.mul_pos (by have := ho.two; omega) (by have := hg.1; omega)
  refine ⟨hs.1.mulOk ht (by omega), hs.2.mulOk hb (by omega), bl.mulOk hb (by omega), _, _, rfl, bq, ((bl.mul hb).mono (by omega)), ?_⟩
  have e1 := uStep_eq ho hg.2.2 p.1
  have e2 := (stepF_low (u := p.1) ho hg.1 hg.2.2).1
  rw [low_self hg.2.1] at e2
  have e3 : stepF rs p = low ((rs.length : Int) * uStep rs p.2 p.1) ((rs.length : Int) * p.2) := by rw [e2, mul_low (by have := ho.two; omega) hg.1]
  rw [e3, e1] at hk
  exact hk
/-! the laws' helpers that stand elsewhere -/
abbrev sp_law_cell_at : FSpec := MP.sp_law_cell_at
theorem sat_law_cell_at : Sat 2 sp_law_cell_at MP.b_law_cell_at := MP.sat_law_cell_at
abbrev sp_law_picks : FSpec := MP.sp_law_picks
theorem sat_law_picks : Sat 7 sp_law_picks MP.b_law_picks := MP.sat_law_picks
abbrev sp_law_rows : FSpec := MP.sp_law_rows
theorem sat_law_rows : Sat 10 sp_law_rows MP.b_law_rows := MP.sat_law_rows
abbrev sp_law_pair : FSpec := MP.sp_law_pair
theorem sat_law_pair : Sat 1 sp_law_pair MP.b_law_pair := MP.sat_law_pair
abbrev sp_law_pairs : FSpec := MP.sp_law_pairs
theorem sat_law_pairs : Sat 2 sp_law_pairs MP.b_law_pairs := MP.sat_law_pairs
abbrev sp_law_whole : FSpec := MP.sp_law_whole
theorem sat_law_whole : Sat 1 sp_law_whole MP.b_law_whole := MP.sat_law_whole
abbrev sp_law_lowest : FSpec := MP.sp_law_lowest
theorem sat_law_lowest : Sat 3 sp_law_lowest MP.b_law_lowest := MP.sat_law_lowest
end WK
end TL

namespace TL
open PySem L2
namespace WK
set_option maxHeartbeats 2000000
local macro_rules | `(tactic| walk_at "sx") => `(tactic| try simp only [sSeq, sNil, eDisp1, eDispN, ltT_l, sumT_l, eDIn, eDNotIn, eDSetd, eDNew, eDGet, eDGet2, sDSet, eTake, sAugL, isDc, sCut, eNe2, neK, rep_l, minT_t, ltL_l, lenDT_d, ghs_cons, ghs_nil, eKeep, keep_fr, keep_sh, keep_gh, keep_loc, eAd, eDr, eBinG, sAppE, sRevE, sPopE, eFz, fz_sh, fz_fr, fz_gh, fz_loc, ePk, gF, gP, agBg, agMg, agBd, pvw, eCallG, true_or, or_true, setU1, setU2, jx, lkA, lkB, lkC, lk_ex, eFldC, sFldC, eMethW, eMethWP, eCallW, eCallWP, eLenW, eMakeW, kLent, kMut, kDeep, Rv.pend, ePopE, endI, get_gh, stl_gh, pok_gh, owns, List.drop_succ_cons, List.drop_zero, List.take_succ_cons, List.take_zero, List.mem_cons, List.not_mem_nil, or_false, sSet, sFrz, frz_o, frz_sh, frz_s, sIf, sRet, sRetN, sPass, sBrk, sPar, sSub, sApp, sExpr, sAsg, sAug, sFld, sRevI, sPop, eLoc, eC, eUn, eBin, eAnd, eOr, eNot, eIf, eTup, eLst, dNil, dCons, tVal_eq, tstD_bl, tAndW, tOrW, tNotW, eFld_eq, eFldD_o, eProp, eMeth, eMeth0, eSl, eSl3, sl3_l, pNone, pSome, sl_l,
  out_sh, out_fr, get_loc, get_sh, get_fr, getL_z, getL_o, getL_s, bound_z, bound_o, bound_s, isOwn_o, isOwn_s, pok_loc, pok_sh, pok_fr, stl_loc, stlS_sh, stlS_own, stl_sh, stl_fr, lay_fr, lay_sh, lay_loc, envOf, slotsOf, valN, ghOf, endK, resK, exMu, muN, List.cons_append, List.nil_append, List.append_nil, List.length_cons, List.length_nil, Nat.reduceAdd, Nat.reduceSub, List.replicate_succ, List.replicate_zero, List.replicate,
  List.getElem?_cons_zero, List.getElem?_cons_succ, List.getElem?_nil, List.set_cons_zero, List.set_cons_succ,
  add_ii, add_ss, add_ll, sub_ii, mul_ii, fdv_ii, fdvN_ii, mod_ii, modN_ii, pow_ii, lt_ii, le_ii, gt_ii, ge_ii, eq_ii, ne_ii, ix_li, ix_ti, neg_i, abs_i, int_i, int_b, max_ii, min_ii, len_l, len_t, list_l, list_t, rev_l, isi_int, isi_bl, isi_tup, isi_lst, isi_non, isN_i, isN_n, isN_t, isN_l, notN_i, notN_n, notN_t, notN_l, isTy,
  atI0, atI1, atI2, ixN0, ixN1, ixN2, some_inj_ex, isObj, setAt0, setAt1, setAt2, setAt3, restE, keepS, wipeE, ↓reduceIte, if_false, if_true,
  eCall, eCallP, eMake, pm, eTwo, dLit, eOwn2, eLenO, okLen, eMethP, eMakeP, isC_o, eRepL, lr1_i, lr2_i, List.filterMap_cons, List.filterMap_nil, agNil, agRo, agBo, agMu, agTm, callK, boIx, muIx, tms, argsK, upE, reown, hasBo, noTm, flatRo, noLstAll, noLst, noLsts, List.nodup_nil, List.nodup_cons, List.not_mem_nil, not_false_eq_true, Nat.zero_le, Nat.le_refl, Nat.reduceLeDiff, List.mem_cons, or_false, reduceCtorEq,
  gN, gTp, gLs, gCn, gNl, iR1, iR2, iRL, iLst, iTpl, iEnum, stab,
  ite_self, str_i, fmt_i, fmt_s, isB_b, notB_b, any_l, tup_l, sExt, e0_is, t0_is, d0_is, s0_is, i0_is, sTry, hXk_n, hXk_s, sRaise, eCallX, eCallXP, eMethX, eMakeX, ePropX, eOwn2X, callX, roA, opXv_exn, opIsX_exn, List.map_cons, List.map_nil, Nat.lt_irrefl, Nat.zero_lt_one, Nat.reduceLT, Nat.zero_lt_succ, some_inj_ex,
  Option.isSome_some, Option.isSome_none, true_and, and_true, eq_self, List.length_map, decide_true, decide_false, Bool.not_true, Bool.not_false, not_true_eq_false, Bool.true_eq_false, Bool.false_eq_true, false_imp_iff, forall_const, true_imp_iff, and_self, decide_eq_true_eq, decide_eq_false_iff_not, Bool.not_eq_true', Bool.not_eq_false'])
/-- a walker as it is lent: all seen through -/
abbrev wkR (c : Nat) (rs pl : List (Int × Int)) (ts : List Int) (ms : List (Int × Int)) : D := .obj c [mapD rs, encRs pl, encZs ts, encRs ms]
theorem vw_wk {L : List (Addr × D)} {c : Nat} {rs pl : List (Int × Int)} {ts : List Int} {ms : List (Int × Int)} {a b : Addr} (h1 : (a, wkD c rs pl ts b) ∈ L) (h2 : (b, encRs ms) ∈ L) : Vw L (.ptr a) (wkR c rs pl ts ms) :=
  .ptr h1 (.obj (.cons (.self _) (.cons (.self _) (.cons (.self _) (.cons (.ptr h2 (.self _)) .nil)))))
theorem trk_more (rs : List (Int × Int)) (p : Int × Int) (n : Nat) : trk rs p (n + 1) = trk rs p n ++ [walkF rs n p] := by
  unfold trk
  rw [List.range_succ, List.map_append]
  rfl
theorem wordF_more (rs : List (Int × Int)) (p : Int × Int) (n : Nat) : wordF rs p (n + 1) = wordF rs p n ++ [remF rs.length (walkF rs n p).1 (walkF rs n p).2] := by
  unfold wordF
  rw [List.range_succ, List.map_append]
  rfl
theorem trk_add (rs : List (Int × Int)) (p : Int × Int) (n : Nat) : ∀ k, trk rs p (n + 1) ++ (trk rs (walkF rs n p) (k + 1)).tail = trk rs p (n + k + 1)
  | 0 => by
    have : (trk rs (walkF rs n p) (0 + 1)).tail = [] := by unfold trk; rfl
    rw [this, List.append_nil]
  | k + 1 => by
    have e : (trk rs (walkF rs n p) (k + 1 + 1)).tail = (trk rs (walkF rs n p) (k + 1)).tail ++ [walkF rs (k + 1) (walkF rs n p)] := by
      rw [trk_more rs _ (k + 1), List.tail_append_of_ne_nil (by unfold trk; simp)]
    rw [e, ← List.append_assoc, trk_add rs p n k, walkF_add, show n + (k + 1) + 1 = n + k + 1 + 1 by omega, trk_more rs p (n + k + 1)]
    rfl
theorem trk_lastP (rs : List (Int × Int)) (p : Int × Int) (n : Nat) : (trk rs p (n + 1)).getLast? = some (walkF rs n p) := by
  rw [trk_more, List.getLast?_append]
  rfl
/-- what a law's walk asks of its start -/
structure St (base : Nat) (rs : List (Int × Int)) (p : Int × Int) : Prop where
  hr : RulesOk base rs
  two : 2 ≤ base
  few : base ≤ 60
  good : Good rs.length p
  top : Bt 1000 p.1
  bot : Bt 200 p.2
theorem St.map {base : Nat} {rs : List (Int × Int)} {p : Int × Int} (s : St base rs p) : MapOk rs := s.hr.map s.two (by have := s.few; omega)
theorem St.at_ {base : Nat} {rs : List (Int × Int)} {p : Int × Int} (s : St base rs p) (n : Nat) (hn : n ≤ 100000) : Good rs.length (walkF rs n p) ∧ Bt 6000000 (walkF rs n p).1 ∧ Bt 7000 (walkF rs n p).2 :=
  ⟨walkF_good s.good n, (walk_sizeK s.hr s.two s.good s.top (by omega) (s.bot.mono (by omega)) n).mono (by omega), walkF_bot (s.bot.mono (by omega)) n⟩
theorem St.wok {base : Nat} {rs : List (Int × Int)} {p : Int × Int} (s : St base rs p) {n k : Nat} (hn : n ≤ 50000) (hk : k ≤ 1000) : WOk rs (walkF rs n p) k := by
  refine ⟨s.map, (s.at_ n (by omega)).1, fun i hi => ?_, (s.at_ n (by omega)).2.2.mono (by omega), hk⟩
  rw [walkF_add]
  exact (s.at_ (n + i) (by omega)).2.1.mono (by omega)
namespace K65
/- _law_looked: 0:walker 1:places 2:rests 3:calls 4:sort 5:k 6:told -/
end K65
end WK
end TL

namespace TL
open PySem L2
namespace WK
open MP (picksF pkF RowsOk baseF baseF_bd)
set_option maxHeartbeats 2000000
local macro_rules | `(tactic| walk_at "sx") => `(tactic| try simp only [sSeq, sNil, eDisp1, eDispN, ltT_l, sumT_l, eDIn, eDNotIn, eDSetd, eDNew, eDGet, eDGet2, sDSet, eTake, sAugL, isDc, sCut, eNe2, neK, rep_l, minT_t, ltL_l, lenDT_d, ghs_cons, ghs_nil, eKeep, keep_fr, keep_sh, keep_gh, keep_loc, eAd, eDr, eBinG, sAppE, sRevE, sPopE, eFz, fz_sh, fz_fr, fz_gh, fz_loc, ePk, gF, gP, agBg, agMg, agBd, pvw, eCallG, true_or, or_true, setU1, setU2, jx, lkA, lkB, lkC, lk_ex, eFldC, sFldC, eMethW, eMethWP, eCallW, eCallWP, eLenW, eMakeW, kLent, kMut, kDeep, Rv.pend, ePopE, endI, get_gh, stl_gh, pok_gh, owns, List.drop_succ_cons, List.drop_zero, List.take_succ_cons, List.take_zero, List.mem_cons, List.not_mem_nil, or_false, sSet, sFrz, frz_o, frz_sh, frz_s, sIf, sRet, sRetN, sPass, sBrk, sPar, sSub, sApp, sExpr, sAsg, sAug, sFld, sRevI, sPop, eLoc, eC, eUn, eBin, eAnd, eOr, eNot, eIf, eTup, eLst, dNil, dCons, tVal_eq, tstD_bl, tAndW, tOrW, tNotW, eFld_eq, eFldD_o, eProp, eMeth, eMeth0, eSl, eSl3, sl3_l, pNone, pSome, sl_l,
  out_sh, out_fr, get_loc, get_sh, get_fr, getL_z, getL_o, getL_s, bound_z, bound_o, bound_s, isOwn_o, isOwn_s, pok_loc, pok_sh, pok_fr, stl_loc, stlS_sh, stlS_own, stl_sh, stl_fr, lay_fr, lay_sh, lay_loc, envOf, slotsOf, valN, ghOf, endK, resK, exMu, muN, List.cons_append, List.nil_append, List.append_nil, List.length_cons, List.length_nil, Nat.reduceAdd, Nat.reduceSub, List.replicate_succ, List.replicate_zero, List.replicate,
  List.getElem?_cons_zero, List.getElem?_cons_succ, List.getElem?_nil, List.set_cons_zero, List.set_cons_succ,
  add_ii, add_ss, add_ll, sub_ii, mul_ii, fdv_ii, fdvN_ii, mod_ii, modN_ii, pow_ii, lt_ii, le_ii, gt_ii, ge_ii, eq_ii, ne_ii, ix_li, ix_ti, neg_i, abs_i, int_i, int_b, max_ii, min_ii, len_l, len_t, list_l, list_t, rev_l, isi_int, isi_bl, isi_tup, isi_lst, isi_non, isN_i, isN_n, isN_t, isN_l, notN_i, notN_n, notN_t, notN_l, isTy,
  atI0, atI1, atI2, ixN0, ixN1, ixN2, some_inj_ex, isObj, setAt0, setAt1, setAt2, setAt3, restE, keepS, wipeE, ↓reduceIte, if_false, if_true,
  eCall, eCallP, eMake, pm, eTwo, dLit, eOwn2, eLenO, okLen, eMethP, eMakeP, isC_o, eRepL, lr1_i, lr2_i, List.filterMap_cons, List.filterMap_nil, agNil, agRo, agBo, agMu, agTm, callK, boIx, muIx, tms, argsK, upE, reown, hasBo, noTm, flatRo, noLstAll, noLst, noLsts, List.nodup_nil, List.nodup_cons, List.not_mem_nil, not_false_eq_true, Nat.zero_le, Nat.le_refl, Nat.reduceLeDiff, List.mem_cons, or_false, reduceCtorEq,
  gN, gTp, gLs, gCn, gNl, iR1, iR2, iRL, iLst, iTpl, iEnum, stab,
  ite_self, str_i, fmt_i, fmt_s, isB_b, notB_b, any_l, tup_l, sExt, e0_is, t0_is, d0_is, s0_is, i0_is, sTry, hXk_n, hXk_s, sRaise, eCallX, eCallXP, eMethX, eMakeX, ePropX, eOwn2X, callX, roA, opXv_exn, opIsX_exn, List.map_cons, List.map_nil, Nat.lt_irrefl, Nat.zero_lt_one, Nat.reduceLT, Nat.zero_lt_succ, some_inj_ex,
  Option.isSome_some, Option.isSome_none, true_and, and_true, eq_self, List.length_map, decide_true, decide_false, Bool.not_true, Bool.not_false, not_true_eq_false, Bool.true_eq_false, Bool.false_eq_true, false_imp_iff, forall_const, true_imp_iff, and_self, decide_eq_true_eq, decide_eq_false_iff_not, Bool.not_eq_true', Bool.not_eq_false'])
namespace K65
theorem e10 : (10 : Int) ^ (Int.toNat 10) = 10000000000 := by decide
theorem cp10 : CPow 10 10 := by unfold CPow; decide
/- law: 0:script 1:rows 2:one 3:places 4:rests 5:calls 6:walker 7:early 8:cell 9:picks 10:k 11:found 12:once 13:named -/
theorem trk_grow (rs : List (Int × Int)) (p : Int × Int) (n : Nat) : encRs (trk rs p (n + 1 + 1)) = D.lst ((trk rs p (n + 1)).map encR ++ [encR (stepF rs (walkF rs n p))]) := by
  rw [trk_more rs p (n + 1)]
  show D.lst (List.map encR _) = _
  rw [List.map_append]
  rfl
theorem wordF_grow (rs : List (Int × Int)) (p : Int × Int) (n : Nat) : encZs (wordF rs p (n + 1)) = D.lst ((wordF rs p n).map D.int ++ [.int (remF rs.length (walkF rs n p).1 (walkF rs n p).2)]) := by
  rw [wordF_more rs p n]
  show D.lst (List.map D.int _) = _
  rw [List.map_append]
  rfl
theorem trk_one (rs : List (Int × Int)) (p : Int × Int) (n : Nat) : [p] ++ (trk rs p (n + 1)).tail = trk rs p (n + 1) := by
  have := trk_add rs p 0 n
  rw [Nat.zero_add, Nat.zero_add] at this
  exact this
theorem chRs (ps : List (Int × Int)) : chFlat (encRs ps) = true := by
  show noLsts (ps.map encR) = true
  induction ps with
  | nil => rfl
  | cons p ps ih => simp only [List.map_cons, noLsts, ih, Bool.and_true]; rfl
theorem chZs (ps : List Int) : chFlat (encZs ps) = true := by
  show noLsts (ps.map D.int) = true
  induction ps with
  | nil => rfl
  | cons p ps ih => simp only [List.map_cons, noLsts, ih, Bool.and_true]; rfl
section
variable {ns : List Int} {base : Nat} {rs : List (Int × Int)} {p : Int × Int} {kr : Ro → List D → Prop} {kx : Nat → D → Prop} {a b c3 c4 : Addr}
end
end K65
end WK
end TL

namespace TL
open PySem L2
namespace WK
open CD (backF backW backF_step)
set_option maxHeartbeats 2000000
local macro_rules | `(tactic| walk_at "sx") => `(tactic| try simp only [sSeq, sNil, eDisp1, eDispN, ltT_l, sumT_l, eDIn, eDNotIn, eDSetd, eDNew, eDGet, eDGet2, sDSet, eTake, sAugL, isDc, sCut, eNe2, neK, rep_l, minT_t, ltL_l, lenDT_d, ghs_cons, ghs_nil, eKeep, keep_fr, keep_sh, keep_gh, keep_loc, eAd, eDr, eBinG, sAppE, sRevE, sPopE, eFz, fz_sh, fz_fr, fz_gh, fz_loc, ePk, gF, gP, agBg, agMg, agBd, pvw, eCallG, true_or, or_true, setU1, setU2, jx, lkA, lkB, lkC, lk_ex, eFldC, sFldC, eMethW, eMethWP, eCallW, eCallWP, eLenW, eMakeW, kLent, kMut, kDeep, Rv.pend, ePopE, endI, get_gh, stl_gh, pok_gh, owns, List.drop_succ_cons, List.drop_zero, List.take_succ_cons, List.take_zero, List.mem_cons, List.not_mem_nil, or_false, sSet, sFrz, frz_o, frz_sh, frz_s, sIf, sRet, sRetN, sPass, sBrk, sPar, sSub, sApp, sExpr, sAsg, sAug, sFld, sRevI, sPop, eLoc, eC, eUn, eBin, eAnd, eOr, eNot, eIf, eTup, eLst, dNil, dCons, tVal_eq, tstD_bl, tAndW, tOrW, tNotW, eFld_eq, eFldD_o, eProp, eMeth, eMeth0, eSl, eSl3, sl3_l, pNone, pSome, sl_l,
  out_sh, out_fr, get_loc, get_sh, get_fr, getL_z, getL_o, getL_s, bound_z, bound_o, bound_s, isOwn_o, isOwn_s, pok_loc, pok_sh, pok_fr, stl_loc, stlS_sh, stlS_own, stl_sh, stl_fr, lay_fr, lay_sh, lay_loc, envOf, slotsOf, valN, ghOf, endK, resK, exMu, muN, List.cons_append, List.nil_append, List.append_nil, List.length_cons, List.length_nil, Nat.reduceAdd, Nat.reduceSub, List.replicate_succ, List.replicate_zero, List.replicate,
  List.getElem?_cons_zero, List.getElem?_cons_succ, List.getElem?_nil, List.set_cons_zero, List.set_cons_succ,
  add_ii, add_ss, add_ll, sub_ii, mul_ii, fdv_ii, fdvN_ii, mod_ii, modN_ii, pow_ii, lt_ii, le_ii, gt_ii, ge_ii, eq_ii, ne_ii, ix_li, ix_ti, neg_i, abs_i, int_i, int_b, max_ii, min_ii, len_l, len_t, list_l, list_t, rev_l, isi_int, isi_bl, isi_tup, isi_lst, isi_non, isN_i, isN_n, isN_t, isN_l, notN_i, notN_n, notN_t, notN_l, isTy,
  atI0, atI1, atI2, ixN0, ixN1, ixN2, some_inj_ex, isObj, setAt0, setAt1, setAt2, setAt3, restE, keepS, wipeE, ↓reduceIte, if_false, if_true,
  eCall, eCallP, eMake, pm, eTwo, dLit, eOwn2, eLenO, okLen, eMethP, eMakeP, isC_o, eRepL, lr1_i, lr2_i, List.filterMap_cons, List.filterMap_nil, agNil, agRo, agBo, agMu, agTm, callK, boIx, muIx, tms, argsK, upE, reown, hasBo, noTm, flatRo, noLstAll, noLst, noLsts, List.nodup_nil, List.nodup_cons, List.not_mem_nil, not_false_eq_true, Nat.zero_le, Nat.le_refl, Nat.reduceLeDiff, List.mem_cons, or_false, reduceCtorEq,
  gN, gTp, gLs, gCn, gNl, iR1, iR2, iRL, iLst, iTpl, iEnum, stab,
  ite_self, str_i, fmt_i, fmt_s, isB_b, notB_b, any_l, tup_l, sExt, e0_is, t0_is, d0_is, s0_is, i0_is, sTry, hXk_n, hXk_s, sRaise, eCallX, eCallXP, eMethX, eMakeX, ePropX, eOwn2X, callX, roA, opXv_exn, opIsX_exn, List.map_cons, List.map_nil, Nat.lt_irrefl, Nat.zero_lt_one, Nat.reduceLT, Nat.zero_lt_succ, some_inj_ex,
  Option.isSome_some, Option.isSome_none, true_and, and_true, eq_self, List.length_map, decide_true, decide_false, Bool.not_true, Bool.not_false, not_true_eq_false, Bool.true_eq_false, Bool.false_eq_true, false_imp_iff, forall_const, true_imp_iff, and_self, decide_eq_true_eq, decide_eq_false_iff_not, Bool.not_eq_true', Bool.not_eq_false'])
/-- back by a word, with wide sizes -/
def sp_back_by : FSpec := fun args kr _ => ∃ (rs : List (Int × Int)) (p : Int × Int) (ws : List Int), args = [.ro (mapD rs), .ro (encR p), .ro (encZs ws)] ∧ MapOk rs ∧ Good rs.length p ∧ Bt 50000000 p.1 ∧ Bt 6000 p.2 ∧ Wd rs.length ws ∧ (∀ i, i ≤ ws.length → FmB 40000000 (formF rs (ws.take i))) ∧ 1 ≤ (formF rs ws).1 ∧ Bt 1900 (formF rs ws).1 ∧ kr (.sh (encR (backW rs p ws))) []
/-- a step back is small enough to be taken -/
structure BOk (rs : List (Int × Int)) (p : Int × Int) (k : Int) : Prop where
  ok : MapOk rs
  sz : ∀ r ∈ rs, Bt 1000 r.1
  good : Good rs.length p
  top : Bt 50000000 p.1
  bot : Bt 6000 p.2
  k0 : 0 ≤ k
  k1 : k < rs.length
def sp_Walker_fraction_behind : FSpec := fun args kr _ => ∃ (c : Nat) (rs pl : List (Int × Int)) (ts : List Int) (x : D) (p : Int × Int) (k : Int), args = [.ro (.obj c [mapD rs, encRs pl, encZs ts, x]), .ro (.int k)] ∧ (c = 1 ∨ c = 2) ∧ pl.getLast? = some p ∧ BOk rs p k ∧ kr (.sh (encR (backF rs p k.toNat))) []
def sp_Walker_back : FSpec := fun args kr _ => ∃ (c : Nat) (rs pl : List (Int × Int)) (ts : List Int) (b : Addr) (ms : List (Int × Int)) (p : Int × Int) (k : Int), args = [.mu (wkD c rs pl ts b), .ro (.int k), .gh b (encRs ms)] ∧ (c = 1 ∨ c = 2) ∧ pl.getLast? = some p ∧ BOk rs p k ∧ pl.length ≤ 100000 ∧ ts.length ≤ 100000 ∧ ms.length ≤ 100000 ∧
  kr (.sh (encR (backF rs p k.toNat))) [wkD c rs (pl ++ [backF rs p k.toNat]) ts b, encRs (ms ++ [((pl.length : Int), (ts.length : Int))])]
/- Walker_fraction_behind: 0:self 1:remainder -/
def b_Walker_fraction_behind : SW := (sSeq (sIf (tOrW (tVal (eBin opLt (eLoc 1) (eC (.int 0)))) (tVal (eBin opGe (eLoc 1) (eProp 0 sp_Map_modulus (eFldC [1, 2] 0 (eLoc 0)))))) sNever sNil)
  (sRet (eCall 3 sp_back_by (agRo (eFldC [1, 2] 0 (eLoc 0)) (agRo (eMethW false kLent 1 [(1, sp_Walker_here), (2, sp_Walker_here)] (eLoc 0) agNil) (agRo (eLst (dCons (eLoc 1) dNil)) agNil))))))
/- Walker_back: 0:self 1:remainder 2:fraction -/
def b_Walker_back : SW := (sSeq (sFrz 2 (sSet 2 (eMethW false kLent 2 [(1, sp_Walker_fraction_behind), (2, sp_Walker_fraction_behind)] (eLoc 0) (agRo (eLoc 1) agNil))))
  (sSeq (sAppE (eDr (eFldC [1, 2] 3 (eLoc 0))) (eTup (dCons (eUn opLen (eFldC [1, 2] 1 (eLoc 0))) (dCons (eUn opLen (eFldC [1, 2] 2 (eLoc 0))) dNil))))
  (sSeq (sFldC 0 [1, 2] 1 (eBin opAdd (eFldC [1, 2] 1 (eLoc 0)) (eLst (dCons (eLoc 2) dNil))))
  (sRet (eLoc 2)))))
/- back_by: 0:rule_map 1:number 2:word 3:a 4:b 5:whole 6:top 7:bottom -/
def b_back_by : SW := (sSeq (sIf (tNotW (tVal (eCall 2 sp_is_good (agRo (eProp 0 sp_Map_modulus (eLoc 0)) (agRo (eLoc 1) agNil))))) sNever sNil)
  (sSeq (sAsg (eCall 2 sp_form_of (agRo (eLoc 0) (agRo (eLoc 2) agNil))) (gTp 3 (gCn (gN 3) (gCn (gN 4) (gCn (gN 5) gNl)))))
  (sSeq (sAsg (eLoc 1) (gTp 2 (gCn (gN 6) (gCn (gN 7) gNl))))
  (sRet (eCall 2 sp_lowest (agRo (eBin opSub (eBin opMul (eLoc 5) (eLoc 6)) (eBin opMul (eLoc 4) (eLoc 7))) (agRo (eBin opMul (eLoc 3) (eLoc 7)) agNil)))))))
theorem sat_back_by : Sat 8 sp_back_by b_back_by := by
  rintro args mus kr kx hm ⟨rs, p, ws, rfl, ho, hg, h1, h2, hw, hf, ha, hb, hk⟩
  obtain rfl := mus0 hm
  have fz := hf _ (Nat.le_refl _)
  rw [List.take_length] at fz
  unfold b_back_by
  walk_at "sx"
  refine ⟨rs, rfl, ?_⟩
  walk_at "sx"
  refine ⟨rs.length, p, rfl, ?_⟩
  walk_at "sx"
  refine ⟨fun h => absurd hg h, fun _ => ⟨rs, ws, rfl, ho, hw, hf, ?_⟩⟩
  walk_at "sx"
  refine ⟨fz.2.2.mulOk h1 (by omega), fz.2.1.mulOk h2 (by omega), fz.1.mulOk h2 (by omega), _, _, rfl, .inl ⟨CD.pos_mul ha hg.1, (hb.mul h2).mono (by omega), ?_⟩⟩
  walk_at "sx"
  exact hk
theorem backW_one (rs : List (Int × Int)) (p : Int × Int) {k : Int} (h : 0 ≤ k) : backW rs p [k] = backF rs p k.toNat := by
  unfold backW backF
  have e : formF rs [k] = ((ruleAt rs k).1, (ruleAt rs k).2, (rs.length : Int)) := by
    show joinF (1, 0, 1) (ruleAt rs k) rs.length = _
    unfold joinF
    simp
  rw [e, Int.toNat_of_nonneg h]
theorem form_one (rs : List (Int × Int)) (k : Int) : formF rs [k] = ((ruleAt rs k).1, (ruleAt rs k).2, (rs.length : Int)) := by
  show joinF (1, 0, 1) (ruleAt rs k) rs.length = _
  unfold joinF
  simp
theorem sat_Walker_fraction_behind : Sat 2 sp_Walker_fraction_behind b_Walker_fraction_behind := by
  rintro args mus kr kx hm ⟨c, rs, pl, ts, x, p, k, rfl, hc, hl, hb, hk⟩
  obtain rfl := mus0 hm
  have k0 := hb.k0
  have k1 := hb.k1
  have hr := ruleAt_ok hb.ok k0 k1
  unfold b_Walker_fraction_behind
  rcases hc with rfl | rfl
  all_goals
    walk_at "sx"
    refine ⟨fun h => absurd h (by omega), fun _ => ⟨rs, rfl, ?_⟩⟩
    walk_at "sx"
    refine ⟨fun h => absurd h (by omega), fun _ => ?_⟩
    refine ⟨_, rs, pl, ts, _, p, rfl, by simp, hl, ?_⟩
    walk_at "sx"
    refine ⟨rs, p, [k], rfl, hb.ok, hb.good, hb.top, hb.bot, fun e he => ?_, fun i hi => ?_, ?_, ?_, ?_⟩
    · rcases List.mem_cons.mp he with rfl | he
      · exact ⟨k0, k1⟩
      · cases he
    · have : i = 0 ∨ i = 1 := by simp at hi; omega
      rcases this with rfl | rfl
      · show FmB 40000000 ((1, 0, 1) : Fm)
        exact ⟨by unfold Bt; decide, by unfold Bt; decide, by unfold Bt; decide⟩
      · show FmB 40000000 (formF rs [k])
        rw [form_one]
        have hs := hb.ok.sz _ (mem_getD (x := (1, 0)) k0 k1)
        exact ⟨hs.1.mono (by omega), hs.2.mono (by omega), (Bt.small (x := (rs.length : Int)) (by omega) (by have := hb.ok.few; omega)).mono (by omega)⟩
    · rw [form_one]; exact hr.1
    · rw [form_one]; exact (hb.sz _ (mem_getD (x := (1, 0)) k0 k1)).mono (by omega)
    · rw [backW_one rs p k0]
      walk_at "sx"
      exact hk
theorem sat_Walker_back : SatG 3 sp_Walker_back b_Walker_back := by
  rintro args mus kr kx hm hgh ⟨c, rs, pl, ts, b, ms, p, k, rfl, hc, hl, hb, h1, h2, h3, hk⟩
  obtain ⟨s, m, rfl⟩ : ∃ s m, mus = [s, m] := by
    match mus, hm with
    | [s, m], _ => exact ⟨s, m, rfl⟩
  obtain ⟨rfl, _⟩ := hgh
  unfold b_Walker_back
  rcases hc with rfl | rfl
  all_goals
    walk_at "sx"
    refine ⟨_, rs, pl, ts, _, p, k, rfl, by simp, hl, hb, ?_⟩
    walk_at "sx"
    refine ⟨rfl, 3, ⟨_, _, rfl⟩, ⟨_, _, rfl⟩, ?_⟩
    walk_at "sx"
    have e : D.lst (List.map encR ms ++ [D.tup [D.int pl.length, D.int ts.length]]) = encRs (ms ++ [((pl.length : Int), (ts.length : Int))]) := by
      show _ = D.lst (List.map encR _)
      rw [List.map_append]
      rfl
    have e2 : D.lst (List.map encR pl ++ [encR (backF rs p k.toNat)]) = encRs (pl ++ [backF rs p k.toNat]) := by
      show _ = D.lst (List.map encR _)
      rw [List.map_append]
      rfl
    rw [e, e2]
    exact ⟨line_big (by omega), Nat.le_of_lt (line_big (by omega)), _, .inr rfl, hk⟩
end WK
end TL

namespace TL
open PySem L2
namespace WK
open MP (picksF pkF RowsOk baseF baseF_bd)
open CD (backF backW backF_step)
open K65 (e10 cp10 chRs chZs)
set_option maxHeartbeats 2000000
local macro_rules | `(tactic| walk_at "sx") => `(tactic| try simp only [sSeq, sNil, eDisp1, eDispN, ltT_l, sumT_l, eDIn, eDNotIn, eDSetd, eDNew, eDGet, eDGet2, sDSet, eTake, sAugL, isDc, sCut, eNe2, neK, rep_l, minT_t, ltL_l, lenDT_d, ghs_cons, ghs_nil, eKeep, keep_fr, keep_sh, keep_gh, keep_loc, eAd, eDr, eBinG, sAppE, sRevE, sPopE, eFz, fz_sh, fz_fr, fz_gh, fz_loc, ePk, gF, gP, agBg, agMg, agBd, pvw, eCallG, true_or, or_true, setU1, setU2, jx, lkA, lkB, lkC, lk_ex, eFldC, sFldC, eMethW, eMethWP, eCallW, eCallWP, eLenW, eMakeW, kLent, kMut, kDeep, Rv.pend, ePopE, endI, get_gh, stl_gh, pok_gh, owns, List.drop_succ_cons, List.drop_zero, List.take_succ_cons, List.take_zero, List.mem_cons, List.not_mem_nil, or_false, sSet, sFrz, frz_o, frz_sh, frz_s, sIf, sRet, sRetN, sPass, sBrk, sPar, sSub, sApp, sExpr, sAsg, sAug, sFld, sRevI, sPop, eLoc, eC, eUn, eBin, eAnd, eOr, eNot, eIf, eTup, eLst, dNil, dCons, tVal_eq, tstD_bl, tAndW, tOrW, tNotW, eFld_eq, eFldD_o, eProp, eMeth, eMeth0, eSl, eSl3, sl3_l, pNone, pSome, sl_l,
  out_sh, out_fr, get_loc, get_sh, get_fr, getL_z, getL_o, getL_s, bound_z, bound_o, bound_s, isOwn_o, isOwn_s, pok_loc, pok_sh, pok_fr, stl_loc, stlS_sh, stlS_own, stl_sh, stl_fr, lay_fr, lay_sh, lay_loc, envOf, slotsOf, valN, ghOf, endK, resK, exMu, muN, List.cons_append, List.nil_append, List.append_nil, List.length_cons, List.length_nil, Nat.reduceAdd, Nat.reduceSub, List.replicate_succ, List.replicate_zero, List.replicate,
  List.getElem?_cons_zero, List.getElem?_cons_succ, List.getElem?_nil, List.set_cons_zero, List.set_cons_succ,
  add_ii, add_ss, add_ll, sub_ii, mul_ii, fdv_ii, fdvN_ii, mod_ii, modN_ii, pow_ii, lt_ii, le_ii, gt_ii, ge_ii, eq_ii, ne_ii, ix_li, ix_ti, neg_i, abs_i, int_i, int_b, max_ii, min_ii, len_l, len_t, list_l, list_t, rev_l, isi_int, isi_bl, isi_tup, isi_lst, isi_non, isN_i, isN_n, isN_t, isN_l, notN_i, notN_n, notN_t, notN_l, isTy,
  atI0, atI1, atI2, ixN0, ixN1, ixN2, some_inj_ex, isObj, setAt0, setAt1, setAt2, setAt3, restE, keepS, wipeE, ↓reduceIte, if_false, if_true,
  eCall, eCallP, eMake, pm, eTwo, dLit, eOwn2, eLenO, okLen, eMethP, eMakeP, isC_o, eRepL, lr1_i, lr2_i, List.filterMap_cons, List.filterMap_nil, agNil, agRo, agBo, agMu, agTm, callK, boIx, muIx, tms, argsK, upE, reown, hasBo, noTm, flatRo, noLstAll, noLst, noLsts, List.nodup_nil, List.nodup_cons, List.not_mem_nil, not_false_eq_true, Nat.zero_le, Nat.le_refl, Nat.reduceLeDiff, List.mem_cons, or_false, reduceCtorEq,
  gN, gTp, gLs, gCn, gNl, iR1, iR2, iRL, iLst, iTpl, iEnum, stab,
  ite_self, str_i, fmt_i, fmt_s, isB_b, notB_b, any_l, tup_l, sExt, e0_is, t0_is, d0_is, s0_is, i0_is, sTry, hXk_n, hXk_s, sRaise, eCallX, eCallXP, eMethX, eMakeX, ePropX, eOwn2X, callX, roA, opXv_exn, opIsX_exn, List.map_cons, List.map_nil, Nat.lt_irrefl, Nat.zero_lt_one, Nat.reduceLT, Nat.zero_lt_succ, some_inj_ex,
  Option.isSome_some, Option.isSome_none, true_and, and_true, eq_self, List.length_map, decide_true, decide_false, Bool.not_true, Bool.not_false, not_true_eq_false, Bool.true_eq_false, Bool.false_eq_true, false_imp_iff, forall_const, true_imp_iff, and_self, decide_eq_true_eq, decide_eq_false_iff_not, Bool.not_eq_true', Bool.not_eq_false'])
/-- the sizes that a law's walks keep -/
structure Sz (n : Nat) (q : Int × Int) : Prop where
  top : Bt (n + 1000) q.1
  bot : Bt (n + 200) q.2
theorem Sz.mono {n m : Nat} {q : Int × Int} (h : Sz n q) (k : n ≤ m) : Sz m q := ⟨h.top.mono (by omega), h.bot.mono (by omega)⟩
theorem rule_at {base : Nat} {rs : List (Int × Int)} (hr : RulesOk base rs) (h2 : 2 ≤ base) (h6 : base ≤ 60) {k : Int} (k0 : 0 ≤ k) (k1 : k < rs.length) : Bt 40 (ruleAt rs k).1 ∧ Bt 600 (ruleAt rs k).2 := by
  have e : rs[k.toNat]? = some (ruleAt rs k) := by
    unfold ruleAt
    rw [List.getD_eq_getElem?_getD, List.getElem?_eq_getElem (by omega)]
    rfl
  have q := hr.ok _ _ e
  exact ⟨Bt.small (by have := q.1.1; omega) (by have := q.2.1; omega), q.2.2⟩
theorem step_sz {base : Nat} {rs : List (Int × Int)} (hr : RulesOk base rs) (h2 : 2 ≤ base) (h6 : base ≤ 60) {n : Nat} {q : Int × Int} (hg : Good rs.length q) (s : Sz n q) : Sz (n + 50) (stepF rs q) := by
  have ho := hr.map h2 (by omega)
  obtain ⟨r0, r1, _⟩ := remF_spec (m := (rs.length : Int)) (t := q.1) (b := q.2) (by have := ho.two; omega) hg.2.2
  obtain ⟨b1, b2⟩ := rule_at hr h2 h6 r0 r1
  have e1 := uStep_eq ho hg.2.2 q.1
  have e2 := (stepF_low (u := q.1) ho hg.1 hg.2.2).1
  rw [low_self hg.2.1] at e2
  have bn : Bt (n + 1041) ((rs.length : Int) * uStep rs q.2 q.1) := by
    rw [e1]
    exact ((((b1.mul s.top).mono (by omega : 40 + (n + 1000) ≤ n + 1040)).add ((b2.mul s.bot).mono (by omega : 600 + (n + 200) ≤ n + 1040))).mono (by omega))
  have bu : Bt (n + 1041) (uStep rs q.2 q.1) := by
    refine bn.le ?_
    rw [Int.natAbs_mul]
    exact Nat.le_mul_of_pos_left _ (by have := ho.two; omega)
  rw [e2]
  exact ⟨(bt_low1 bu).mono (by omega), (bt_low2 s.bot).mono (by omega)⟩
theorem back_sz {base : Nat} {rs : List (Int × Int)} (hr : RulesOk base rs) (h2 : 2 ≤ base) (h6 : base ≤ 60) {n : Nat} {q : Int × Int} (hg : Good rs.length q) (s : Sz n q) {k : Nat} (hk : k < rs.length) : Sz (n + 50) (backF rs q k) := by
  obtain ⟨b1, b2⟩ := rule_at hr h2 h6 (show (0 : Int) ≤ k by omega) (by omega)
  have bm : Bt 40 (rs.length : Int) := Bt.small (by omega) (by have := hr.len; omega)
  unfold backF
  exact ⟨(bt_low1 (((bm.mul s.top).mono (by omega : 40 + (n + 1000) ≤ n + 1040)).sub ((b2.mul s.bot).mono (by omega : 600 + (n + 200) ≤ n + 1040)))).mono (by omega), (bt_low2 (b1.mul s.bot)).mono (by omega)⟩
theorem bok_of {base : Nat} {rs : List (Int × Int)} (hr : RulesOk base rs) (h2 : 2 ≤ base) (h6 : base ≤ 60) {n : Nat} {q : Int × Int} (hg : Good rs.length q) (s : Sz n q) (hn : n ≤ 5000) {k : Int} (k0 : 0 ≤ k) (k1 : k < rs.length) : BOk rs q k := by
  refine ⟨hr.map h2 (by omega), fun r hm => ?_, hg, s.top.mono (by omega), s.bot.mono (by omega), k0, k1⟩
  obtain ⟨i, hi⟩ := List.getElem?_of_mem hm
  have q := hr.ok _ _ hi
  exact (Bt.small (by have := q.1.1; omega) (by have := q.2.1; omega)).mono (by omega)
theorem wok_of {base : Nat} {rs : List (Int × Int)} (hr : RulesOk base rs) (h2 : 2 ≤ base) (h6 : base ≤ 60) {n : Nat} {q : Int × Int} (hg : Good rs.length q) (s : Sz n q) (hn : n ≤ 5000) {k : Nat} (hk : k ≤ 1000) : WOk rs q k := by
  have all : ∀ i, Good rs.length (walkF rs i q) ∧ Sz (n + 50 * i) (walkF rs i q) := by
    intro i
    induction i with
    | zero => exact ⟨hg, s⟩
    | succ i ih => exact ⟨walkF_good hg (i + 1), (step_sz hr h2 h6 ih.1 ih.2).mono (by omega)⟩
  exact ⟨hr.map h2 (by omega), hg, fun i hi => (all i).2.top.mono (by omega), s.bot.mono (by omega), hk⟩
namespace K66
/- _law_behind: 0:rows 1:found 2:k 3:place 4:base -/
/- law: 0:script 1:rows 2:base 3:one 4:places 5:rests 6:walker 7:cells 8:at 9:picks 10:found 11:told -/
section
variable {ns : List Int} {base : Nat} {rs : List (Int × Int)} {kr : Ro → List D → Prop} {kx : Nat → D → Prop} {a b c4 c5 : Addr} {cells : List Int}
end
end K66
end WK
end TL

namespace TL
open PySem L2
namespace WK
open MP (picksF pkF RowsOk baseF baseF_bd)
open K65 (e10 cp10 chRs chZs trk_grow wordF_grow)
set_option maxHeartbeats 2000000
local macro_rules | `(tactic| walk_at "sx") => `(tactic| try simp only [sSeq, sNil, eDisp1, eDispN, ltT_l, sumT_l, eDIn, eDNotIn, eDSetd, eDNew, eDGet, eDGet2, sDSet, eTake, sAugL, isDc, sCut, eNe2, neK, rep_l, minT_t, ltL_l, lenDT_d, ghs_cons, ghs_nil, eKeep, keep_fr, keep_sh, keep_gh, keep_loc, eAd, eDr, eBinG, sAppE, sRevE, sPopE, eFz, fz_sh, fz_fr, fz_gh, fz_loc, ePk, gF, gP, agBg, agMg, agBd, pvw, eCallG, true_or, or_true, setU1, setU2, jx, lkA, lkB, lkC, lk_ex, eFldC, sFldC, eMethW, eMethWP, eCallW, eCallWP, eLenW, eMakeW, kLent, kMut, kDeep, Rv.pend, ePopE, endI, get_gh, stl_gh, pok_gh, owns, List.drop_succ_cons, List.drop_zero, List.take_succ_cons, List.take_zero, List.mem_cons, List.not_mem_nil, or_false, sSet, sFrz, frz_o, frz_sh, frz_s, sIf, sRet, sRetN, sPass, sBrk, sPar, sSub, sApp, sExpr, sAsg, sAug, sFld, sRevI, sPop, eLoc, eC, eUn, eBin, eAnd, eOr, eNot, eIf, eTup, eLst, dNil, dCons, tVal_eq, tstD_bl, tAndW, tOrW, tNotW, eFld_eq, eFldD_o, eProp, eMeth, eMeth0, eSl, eSl3, sl3_l, pNone, pSome, sl_l,
  out_sh, out_fr, get_loc, get_sh, get_fr, getL_z, getL_o, getL_s, bound_z, bound_o, bound_s, isOwn_o, isOwn_s, pok_loc, pok_sh, pok_fr, stl_loc, stlS_sh, stlS_own, stl_sh, stl_fr, lay_fr, lay_sh, lay_loc, envOf, slotsOf, valN, ghOf, endK, resK, exMu, muN, List.cons_append, List.nil_append, List.append_nil, List.length_cons, List.length_nil, Nat.reduceAdd, Nat.reduceSub, List.replicate_succ, List.replicate_zero, List.replicate,
  List.getElem?_cons_zero, List.getElem?_cons_succ, List.getElem?_nil, List.set_cons_zero, List.set_cons_succ,
  add_ii, add_ss, add_ll, sub_ii, mul_ii, fdv_ii, fdvN_ii, mod_ii, modN_ii, pow_ii, lt_ii, le_ii, gt_ii, ge_ii, eq_ii, ne_ii, ix_li, ix_ti, neg_i, abs_i, int_i, int_b, max_ii, min_ii, len_l, len_t, list_l, list_t, rev_l, isi_int, isi_bl, isi_tup, isi_lst, isi_non, isN_i, isN_n, isN_t, isN_l, notN_i, notN_n, notN_t, notN_l, isTy,
  atI0, atI1, atI2, ixN0, ixN1, ixN2, some_inj_ex, isObj, setAt0, setAt1, setAt2, setAt3, restE, keepS, wipeE, ↓reduceIte, if_false, if_true,
  eCall, eCallP, eMake, pm, eTwo, dLit, eOwn2, eLenO, okLen, eMethP, eMakeP, isC_o, eRepL, lr1_i, lr2_i, List.filterMap_cons, List.filterMap_nil, agNil, agRo, agBo, agMu, agTm, callK, boIx, muIx, tms, argsK, upE, reown, hasBo, noTm, flatRo, noLstAll, noLst, noLsts, List.nodup_nil, List.nodup_cons, List.not_mem_nil, not_false_eq_true, Nat.zero_le, Nat.le_refl, Nat.reduceLeDiff, List.mem_cons, or_false, reduceCtorEq,
  gN, gTp, gLs, gCn, gNl, iR1, iR2, iRL, iLst, iTpl, iEnum, stab,
  ite_self, str_i, fmt_i, fmt_s, isB_b, notB_b, any_l, tup_l, sExt, e0_is, t0_is, d0_is, s0_is, i0_is, sTry, hXk_n, hXk_s, sRaise, eCallX, eCallXP, eMethX, eMakeX, ePropX, eOwn2X, callX, roA, opXv_exn, opIsX_exn, List.map_cons, List.map_nil, Nat.lt_irrefl, Nat.zero_lt_one, Nat.reduceLT, Nat.zero_lt_succ, some_inj_ex,
  Option.isSome_some, Option.isSome_none, true_and, and_true, eq_self, List.length_map, decide_true, decide_false, Bool.not_true, Bool.not_false, not_true_eq_false, Bool.true_eq_false, Bool.false_eq_true, false_imp_iff, forall_const, true_imp_iff, and_self, decide_eq_true_eq, decide_eq_false_iff_not, Bool.not_eq_true', Bool.not_eq_false'])
def sp_law_walked : FSpec := fun args kr _ => ∃ (rs : List (Int × Int)) (p : Int × Int) (n : Nat), args = [.ro (encRs rs), .ro (encR p), .ro (.int n)] ∧ WOk rs p n ∧ Bt 7000 p.2 ∧ kr (.sh (.tup [encRs (trk rs p (n + 1)), encZs (wordF rs p n)])) []
/- _law_walked: 0:rows 1:place 2:steps 3:places 4:rests 5:k -/
def b_law_walked : SW := (sSeq (sSet 3 (eLst (dCons (eLoc 1) dNil)))
  (sSeq (sSet 4 (eLst dNil))
  (sSeq (sFor (iR1 (dCons (eLoc 2) dNil)) (gN 5) (sSeq (sApp 4 (eCall 2 sp_law_rest (agRo (eUn opLen (eLoc 0)) (agRo (eBin opIx (eLoc 3) (eUn opNeg (eC (.int 1)))) agNil))))
  (sApp 3 (eCall 2 sp_law_move (agRo (eLoc 0) (agRo (eBin opIx (eLoc 3) (eUn opNeg (eC (.int 1)))) agNil))))))
  (sRet (eTup (dCons (eLoc 3) (dCons (eLoc 4) dNil)))))))
theorem sat_law_walked : Sat 6 sp_law_walked b_law_walked := by
  rintro args mus kr kx hm ⟨rs, p, n, rfl, hw, hb, hk⟩
  obtain rfl := mus0 hm
  have hmap := hw.ok
  have hn := hw.few
  unfold b_law_walked
  unfold sFor
  walk_at "sx"
  intro c3 c4
  refine ⟨by omega, fun i ρ => ∃ (e5 : Sl), ρ = [.sh (encRs rs), .sh (encR p), .sh (.int n), .own false c3 (encRs (trk rs p (i + 1))), .own false c4 (encZs (wordF rs p i)), e5], ⟨_, rfl⟩, fun _ _ _ _ => trivial, ?_, ?_⟩
  · rintro j d ρ hj rfl ⟨e5, rfl⟩
    have hj : j < n := by simpa using hj
    have g1 := walkF_good (rs := rs) hw.good j
    have g3 := walkF_bot (rs := rs) hb j
    walk_at "sx"
    refine ⟨⟨_, _, _, rfl⟩, _, getLast_at (trk_lastP rs p j), ?_⟩
    walk_at "sx"
    try simp only [List.length_map]
    refine ⟨rs.length, walkF rs j p, rfl, by have := hmap.two; omega, hmap.few, g1, g3.mono (by omega), ?_⟩
    walk_at "sx"
    refine ⟨line_big (by rw [wordF_len]; omega), ⟨_, _, _, rfl⟩, _, getLast_at (trk_lastP rs p j), rs, walkF rs j p, rfl, hmap, g1, hw.top j (by omega), g3, ?_⟩
    walk_at "sx"
    refine ⟨line_big (by simp; omega), .sh (.int j), ?_⟩
    rw [trk_grow rs p j, wordF_grow rs p j]
  · rintro ρ ⟨e5, rfl⟩
    simp only [Int.toNat_natCast]
    walk_at "sx"
    exact hk
namespace K79
/- _law_word: 0:one 1:place 2:n 3:walker -/
/- law: 0:script 1:rows 2:base 3:one 4:start 5:picks 6:n 7:walker 8:places 9:rests 10:told 11:power 12:found 13:form 14:cell 15:t 16:j 17:beside -/
/-! the plain law -/
section
variable {base : Nat} {rs : List (Int × Int)} {p : Int × Int}
theorem zc (ho : MapOk rs) {ws : List Int} (hw : Wd rs.length ws) (x : Int) : zWord rs x ws.length = ws ↔ x % (formF rs ws).2.2 = clsF (formF rs ws) := by
  rw [form_iff ho x hw]
  exact cls_iff (form_pos ho ws) (form_gcd_scale ho hw) x
theorem zwd (ho : MapOk rs) (x : Int) (n : Nat) : Wd rs.length (zWord rs x n) := fun e he => by
  unfold zWord at he
  obtain ⟨i, _, rfl⟩ := List.mem_map.mp he
  exact ⟨Int.emod_nonneg _ (by have := ho.pos; omega), Int.emod_lt_of_pos _ ho.pos⟩
theorem zWord_more (x : Int) (m : Nat) : ∃ e, zWord rs x (m + 1) = zWord rs x m ++ [e] := by
  unfold zWord
  rw [List.range_succ, List.map_append]
  exact ⟨_, rfl⟩
theorem beside {ws : List Int} {m : Nat} (ho : MapOk rs) (hw : Wd rs.length ws) (hl : ws.length = m + 1) {j t : Int} (j1 : 1 ≤ j) (j2 : j < rs.length) {x : Int} (hx : x = clsF (formF rs ws) + (rs.length : Int) ^ m * (j + rs.length * t)) :
    ∃ v e f, zWord rs x (m + 1) = v ++ [e] ∧ ws = v ++ [f] ∧ e ≠ f ∧ clsF (formF rs (zWord rs x (m + 1))) ≠ clsF (formF rs ws) := by
  have hm := ho.pos
  obtain ⟨c0, c1, _⟩ := clsF_spec (form_pos ho ws) (form_gcd_scale ho hw)
  have z0 : zWord rs (clsF (formF rs ws)) (m + 1) = ws := by
    have := (zc ho hw (clsF (formF rs ws))).mpr (Int.emod_eq_of_lt c0 c1)
    rw [hl] at this
    exact this
  obtain ⟨e, he⟩ := zWord_more (rs := rs) x m
  obtain ⟨f, hf⟩ := zWord_more (rs := rs) (clsF (formF rs ws)) m
  have hv : zWord rs x m = zWord rs (clsF (formF rs ws)) m := by rw [hx]; exact zWord_far ho _ _ m
  have hS : (formF rs ws).2.2 = (rs.length : Int) ^ m * rs.length := by rw [formF_scale, hl, Int.pow_succ]
  have hne : zWord rs x (m + 1) ≠ ws := by
    intro h
    have h1 := (zc ho hw x).mp (by rw [hl]; exact h)
    have hp : (0 : Int) < (rs.length : Int) ^ m := Int.pow_pos hm
    have e1 : x = clsF (formF rs ws) + (rs.length : Int) ^ m * j + (formF rs ws).2.2 * t := by rw [hx, hS]; grind
    rw [e1, Int.add_mul_emod_self_left] at h1
    have d : (formF rs ws).2.2 ∣ (rs.length : Int) ^ m * j := by
      have h3 := Int.dvd_sub_self_of_emod_eq h1
      rw [show clsF (formF rs ws) - (clsF (formF rs ws) + (rs.length : Int) ^ m * j) = -((rs.length : Int) ^ m * j) by omega] at h3
      exact Int.dvd_neg.mp h3
    rw [hS] at d
    have d2 := Int.dvd_of_mul_dvd_mul_left (show (rs.length : Int) ^ m ≠ 0 by omega) d
    have := Int.le_of_dvd (by omega) d2
    omega
  refine ⟨zWord rs (clsF (formF rs ws)) m, e, f, by rw [he, hv], by rw [← hf, z0], fun h => hne ?_, fun h => hne ?_⟩
  · rw [he, hv, h, ← hf, z0]
  · have hwd := zwd ho x (m + 1)
    have hlz : (zWord rs x (m + 1)).length = m + 1 := zWord_len rs x (m + 1)
    have e1 : (formF rs (zWord rs x (m + 1))).2.2 = (formF rs ws).2.2 := by rw [formF_scale, formF_scale, hlz, hl]
    have := (zc ho hwd (clsF (formF rs ws))).mpr (by rw [e1, h]; exact Int.emod_eq_of_lt c0 c1)
    rw [hlz, z0] at this
    exact this.symm
end
section
variable {ns : List Int} {base n : Nat} {rs : List (Int × Int)} {p : Int × Int} {kr : Ro → List D → Prop} {kx : Nat → D → Prop} {a b : Addr}
end
end K79
end WK
end TL

namespace TL
open PySem L2
namespace WK
open MP (picksF pkF RowsOk baseF baseF_bd)
open K65 (e10 cp10 chRs chZs trk_grow wordF_grow)
open CD (backF backW backF_step)
open CD.K46 (back_walk walk_back back_app backF_W)
set_option maxHeartbeats 2000000
local macro_rules | `(tactic| walk_at "sx") => `(tactic| try simp only [sSeq, sNil, eDisp1, eDispN, ltT_l, sumT_l, eDIn, eDNotIn, eDSetd, eDNew, eDGet, eDGet2, sDSet, eTake, sAugL, isDc, sCut, eNe2, neK, rep_l, minT_t, ltL_l, lenDT_d, ghs_cons, ghs_nil, eKeep, keep_fr, keep_sh, keep_gh, keep_loc, eAd, eDr, eBinG, sAppE, sRevE, sPopE, eFz, fz_sh, fz_fr, fz_gh, fz_loc, ePk, gF, gP, agBg, agMg, agBd, pvw, eCallG, true_or, or_true, setU1, setU2, jx, lkA, lkB, lkC, lk_ex, eFldC, sFldC, eMethW, eMethWP, eCallW, eCallWP, eLenW, eMakeW, kLent, kMut, kDeep, Rv.pend, ePopE, endI, get_gh, stl_gh, pok_gh, owns, List.drop_succ_cons, List.drop_zero, List.take_succ_cons, List.take_zero, List.mem_cons, List.not_mem_nil, or_false, sSet, sFrz, frz_o, frz_sh, frz_s, sIf, sRet, sRetN, sPass, sBrk, sPar, sSub, sApp, sExpr, sAsg, sAug, sFld, sRevI, sPop, eLoc, eC, eUn, eBin, eAnd, eOr, eNot, eIf, eTup, eLst, dNil, dCons, tVal_eq, tstD_bl, tAndW, tOrW, tNotW, eFld_eq, eFldD_o, eProp, eMeth, eMeth0, eSl, eSl3, sl3_l, pNone, pSome, sl_l,
  out_sh, out_fr, get_loc, get_sh, get_fr, getL_z, getL_o, getL_s, bound_z, bound_o, bound_s, isOwn_o, isOwn_s, pok_loc, pok_sh, pok_fr, stl_loc, stlS_sh, stlS_own, stl_sh, stl_fr, lay_fr, lay_sh, lay_loc, envOf, slotsOf, valN, ghOf, endK, resK, exMu, muN, List.cons_append, List.nil_append, List.append_nil, List.length_cons, List.length_nil, Nat.reduceAdd, Nat.reduceSub, List.replicate_succ, List.replicate_zero, List.replicate,
  List.getElem?_cons_zero, List.getElem?_cons_succ, List.getElem?_nil, List.set_cons_zero, List.set_cons_succ,
  add_ii, add_ss, add_ll, sub_ii, mul_ii, fdv_ii, fdvN_ii, mod_ii, modN_ii, pow_ii, lt_ii, le_ii, gt_ii, ge_ii, eq_ii, ne_ii, ix_li, ix_ti, neg_i, abs_i, int_i, int_b, max_ii, min_ii, len_l, len_t, list_l, list_t, rev_l, isi_int, isi_bl, isi_tup, isi_lst, isi_non, isN_i, isN_n, isN_t, isN_l, notN_i, notN_n, notN_t, notN_l, isTy,
  atI0, atI1, atI2, ixN0, ixN1, ixN2, some_inj_ex, isObj, setAt0, setAt1, setAt2, setAt3, restE, keepS, wipeE, ↓reduceIte, if_false, if_true,
  eCall, eCallP, eMake, pm, eTwo, dLit, eOwn2, eLenO, okLen, eMethP, eMakeP, isC_o, eRepL, lr1_i, lr2_i, List.filterMap_cons, List.filterMap_nil, agNil, agRo, agBo, agMu, agTm, callK, boIx, muIx, tms, argsK, upE, reown, hasBo, noTm, flatRo, noLstAll, noLst, noLsts, List.nodup_nil, List.nodup_cons, List.not_mem_nil, not_false_eq_true, Nat.zero_le, Nat.le_refl, Nat.reduceLeDiff, List.mem_cons, or_false, reduceCtorEq,
  gN, gTp, gLs, gCn, gNl, iR1, iR2, iRL, iLst, iTpl, iEnum, stab,
  ite_self, str_i, fmt_i, fmt_s, isB_b, notB_b, any_l, tup_l, sExt, e0_is, t0_is, d0_is, s0_is, i0_is, sTry, hXk_n, hXk_s, sRaise, eCallX, eCallXP, eMethX, eMakeX, ePropX, eOwn2X, callX, roA, opXv_exn, opIsX_exn, List.map_cons, List.map_nil, Nat.lt_irrefl, Nat.zero_lt_one, Nat.reduceLT, Nat.zero_lt_succ, some_inj_ex,
  Option.isSome_some, Option.isSome_none, true_and, and_true, eq_self, List.length_map, decide_true, decide_false, Bool.not_true, Bool.not_false, not_true_eq_false, Bool.true_eq_false, Bool.false_eq_true, false_imp_iff, forall_const, true_imp_iff, and_self, decide_eq_true_eq, decide_eq_false_iff_not, Bool.not_eq_true', Bool.not_eq_false'])
def sp_WholeWalker_init : FSpec := fun args kr _ => ∃ (rs : List (Int × Int)) (p : Int × Int), args = [.mu (.obj 2 []), .ro (mapD rs), .ro (encR p)] ∧ Good rs.length p ∧ p.2 = 1 ∧ ∀ b : Addr, kr (.gx [b] [.lst []] .non) [wkD 2 rs [p] [] b]
def sp_WholeWalker_back : FSpec := fun args kr _ => ∃ (rs pl : List (Int × Int)) (ts : List Int) (b : Addr) (ms : List (Int × Int)) (p : Int × Int) (k : Int), args = [.mu (wkD 2 rs pl ts b), .ro (.int k), .gh b (encRs ms)] ∧ pl.getLast? = some p ∧ BOk rs p k ∧ (backF rs p k.toNat).2 = 1 ∧ pl.length ≤ 100000 ∧ ts.length ≤ 100000 ∧ ms.length ≤ 100000 ∧
  kr (.sh (encR (backF rs p k.toNat))) [wkD 2 rs (pl ++ [backF rs p k.toNat]) ts b, encRs (ms ++ [((pl.length : Int), (ts.length : Int))])]
/- WholeWalker_init: 0:self 1:rule_map 2:start -/
def b_WholeWalker_init : SW := (sSeq (sExpr (eCallG 3 sp_Walker_init (agMu 0 (agRo (eLoc 1) (agRo (eLoc 2) agNil)))))
  (sIf (tVal (eBin opNe (eBin opIx (eLoc 2) (eC (.int 1))) (eC (.int 1)))) sNever sNil))
/- WholeWalker_back: 0:self 1:remainder 2:fraction -/
def b_WholeWalker_back : SW := (sSeq (sFrz 2 (sSet 2 (eMethW false kLent 2 [(1, sp_Walker_fraction_behind), (2, sp_Walker_fraction_behind)] (eLoc 0) (agRo (eLoc 1) agNil))))
  (sSeq (sIf (tVal (eBin opNe (eBin opIx (eLoc 2) (eC (.int 1))) (eC (.int 1)))) sNever sNil)
  (sRet (eCallG 2 sp_Walker_back (agMu 0 (agRo (eLoc 1) agNil))))))
theorem sat_WholeWalker_init : SatI 3 sp_WholeWalker_init b_WholeWalker_init := by
  rintro args mus kr kx hm ⟨rs, p, rfl, hg, h1, hk⟩
  obtain ⟨s, rfl⟩ := mus1 hm
  unfold b_WholeWalker_init
  walk_at "sx"
  refine ⟨[], ?_⟩
  simp only [List.map_nil]
  walk_at "sx"
  refine ⟨_, rs, p, rfl, by simp, hg, fun b => ?_⟩
  show out _ _ _
  rw [out_gx]
  intro _ hb
  walk_at "sx"
  exact ⟨fun h => absurd h1 h, fun _ => ⟨[b], [.lst []], rfl, List.Sublist.refl _, hk b⟩⟩
theorem sat_WholeWalker_back : SatG 3 sp_WholeWalker_back b_WholeWalker_back := by
  rintro args mus kr kx hm hgh ⟨rs, pl, ts, b, ms, p, k, rfl, hl, hb, ho, h1, h2, h3, hk⟩
  obtain ⟨s, m, rfl⟩ : ∃ s m, mus = [s, m] := by
    match mus, hm with
    | [s, m], _ => exact ⟨s, m, rfl⟩
  obtain ⟨rfl, _⟩ := hgh
  unfold b_WholeWalker_back
  walk_at "sx"
  refine ⟨_, rs, pl, ts, _, p, k, rfl, by simp, hl, hb, ?_⟩
  walk_at "sx"
  refine ⟨rfl, fun h => absurd ho h, fun _ => ⟨[3], ?_⟩⟩
  simp only [List.map_cons, List.map_nil]
  walk_at "sx"
  refine ⟨2, rs, pl, ts, b, ms, p, k, rfl, by simp, hl, hb, h1, h2, h3, ?_⟩
  walk_at "sx"
  exact ⟨_, .inr rfl, hk⟩
namespace K80
abbrev sp_before : FSpec := CD.sp_before
theorem sat_before : Sat 7 sp_before CD.b_before := CD.sat_before
def sp_law : FSpec := fun args kr _ => ∃ ns : List Int, args = [.ro (encZs ns)] ∧ (∀ n ∈ ns, Bt 2000000 n) ∧ ns.length ≤ 1000 ∧ kr (.sh (.bl true)) []
def sp_law_there_and_back : FSpec := fun args kr _ => ∃ (c base : Nat) (rs : List (Int × Int)) (p : Int × Int) (b : Addr) (n : Nat), args = [.mu (wkD c rs [p] [] b), .ro (encRs rs), .ro (encR p), .ro (.int n), .gh b (.lst [])] ∧ (c = 1 ∨ (c = 2 ∧ p.2 = 1)) ∧ St base rs p ∧ n ≤ 30 ∧ ∀ d1 d2, kr (.sh (.bl true)) [d1, d2]
/- _law_there_and_back: 0:walker 1:rows 2:start 3:n 4:places 5:rests 6:k 7:told -/
def b_law_there_and_back : SW := (sSeq (sAsg (eCall 3 sp_law_walked (agRo (eLoc 1) (agRo (eLoc 2) (agRo (eLoc 3) agNil)))) (gTp 2 (gCn (gN 4) (gCn (gN 5) gNl))))
  (sSeq (sExpr (eCallW true kMut 2 [(1, sp_Walker_call), (2, sp_Walker_call)] (eLoc 0) (agRo (eLoc 3) agNil)))
  (sSeq (sIf (tVal (eBin opNe (eMethW false kLent 1 [(1, sp_Walker_word), (2, sp_Walker_word)] (eLoc 0) agNil) (eLoc 5))) (sRet (eC (.bl false))) sNil)
  (sSeq (sFor (iR1 (dCons (eLoc 3) dNil)) (gN 6) (sIf (tVal (eBin opNe (eMethW true kMut 2 [(1, sp_Walker_back), (2, sp_WholeWalker_back)] (eLoc 0) (agRo (eBin opIx (eLoc 5) (eBin opSub (eBin opSub (eLoc 3) (eC (.int 1))) (eLoc 6))) agNil)) (eBin opIx (eLoc 4) (eBin opSub (eBin opSub (eLoc 3) (eC (.int 1))) (eLoc 6))))) (sRet (eC (.bl false))) sNil))
  (sSeq (sFrz 7 (sSet 7 (eMethW false kLent 1 [(1, sp_Walker_trail), (2, sp_Walker_trail)] (eLoc 0) agNil)))
  (sRet (eAnd (eCall 1 sp_law_pairs (agRo (eLoc 7) agNil)) (eAnd (eBin opEq (eLoc 7) (eBin opAdd (eLoc 4) (eSl (eUn opRev (eLoc 4)) (pSome (eC (.int 1))) pNone))) (eAnd (eBin opEq (eMethW false kLent 1 [(1, sp_Walker_word), (2, sp_Walker_word)] (eLoc 0) agNil) (eLoc 5)) (eBin opEq (eLenW kDeep [(1, sp_Walker_len), (2, sp_Walker_len)] (eLoc 0)) (eBin opAdd (eLoc 3) (eC (.int 1)))))))))))))
/- law: 0:script 1:rows 2:base 3:one 4:start 5:along 6:walker 7:k 8:rest 9:due 10:found 11:handed 12:places 13:rests 14:n 15:whole 16:cell -/
def b_law_t12 : SW := (sSeq (sIf (tNotW (tVal (eCallG 4 sp_law_there_and_back (agTm (eMakeW 1 3 none sp_Walker_init (agRo (eLoc 3) (agRo (eLoc 4) agNil))) (agRo (eLoc 1) (agRo (eLoc 4) (agRo (eLoc 14) agNil))))))) (sRet (eC (.bl false))) sNil)
  (sSeq (sSet 15 (eTup (dCons (eBin opIx (eLoc 4) (eC (.int 0))) (dCons (eC (.int 1)) dNil))))
  (sRet (eAnd (eCallG 4 sp_law_there_and_back (agTm (eMakeW 2 3 none sp_WholeWalker_init (agRo (eLoc 3) (agRo (eLoc 15) agNil))) (agRo (eLoc 1) (agRo (eLoc 15) (agRo (eLoc 14) agNil))))) (eBin opEq (eProp 0 sp_Map_rules (eLoc 3)) (eLoc 1))))))
def b_law_t10 : SW := (sSeq (sIf (tOrW (tVal (eBin opNe (eLoc 13) (eLoc 5))) (tOrW (tVal (eBin opNe (eBin opIx (eLoc 12) (eUn opNeg (eC (.int 1)))) (eLoc 4))) (tVal (eBin opNe (eMethW false kLent 1 [(1, sp_Walker_trail), (2, sp_Walker_trail)] (eLoc 6) agNil) (eUn opRev (eLoc 12)))))) (sRet (eC (.bl false))) sNil)
  (sSeq (sFrz 14 (sSet 14 (eBin opIx (eCall 2 sp_law_picks (agRo (eCall 2 sp_law_cell_at (agRo (eLoc 0) (agRo (eC (.int 1)) agNil))) (agRo (eLst (dLit [(.int 6), (.int 2), (.int 25)] dNil)) agNil))) (eC (.int 2)))))
  b_law_t12))
def b_law_t7 : SW := (sSeq (sFrz 11 (sSet 11 (eUn opList (eLoc 5))))
  (sSeq (sIf (tOrW (tVal (eBin opNe (eCall 3 sp_back_by (agRo (eLoc 3) (agRo (eLoc 4) (agRo (eLoc 11) agNil)))) (eMethW false kLent 1 [(1, sp_Walker_here), (2, sp_Walker_here)] (eLoc 6) agNil))) (tVal (eBin opNe (eLoc 11) (eLoc 5)))) (sRet (eC (.bl false))) sNil)
  (sSeq (sAsg (eCall 3 sp_law_walked (agRo (eLoc 1) (agRo (eMethW false kLent 1 [(1, sp_Walker_here), (2, sp_Walker_here)] (eLoc 6) agNil) (agRo (eUn opLen (eLoc 5)) agNil)))) (gTp 2 (gCn (gN 12) (gCn (gN 13) gNl))))
  b_law_t10)))
def b_law_t6 : SW := (sSeq (sFor (iR1 (dCons (eUn opLen (eLoc 5)) dNil)) (gN 7) (sSeq (sFrz 8 (sSet 8 (eBin opIx (eLoc 5) (eBin opSub (eBin opSub (eUn opLen (eLoc 5)) (eC (.int 1))) (eLoc 7)))))
  (sSeq (sFrz 9 (sSet 9 (eCall 2 sp_before (agRo (eLoc 3) (agRo (eMethW false kLent 1 [(1, sp_Walker_here), (2, sp_Walker_here)] (eLoc 6) agNil) agNil)))))
  (sSeq (sIf (tOrW (tNotW (tVal (eCall 1 sp_law_pairs (agRo (eLoc 9) agNil)))) (tVal (eBin opNe (eUn opLen (eLoc 9)) (eLoc 2)))) (sRet (eC (.bl false))) sNil)
  (sSeq (sFrz 10 (sSet 10 (eMethW true kMut 2 [(1, sp_Walker_back), (2, sp_WholeWalker_back)] (eLoc 6) (agRo (eLoc 8) agNil))))
  (sSeq (sIf (tOrW (tNotW (tVal (eCall 1 sp_law_pair (agRo (eLoc 10) agNil)))) (tOrW (tVal (eBin opNe (eLoc 10) (eBin opIx (eLoc 9) (eLoc 8)))) (tOrW (tVal (eBin opLt (eBin opIx (eLoc 10) (eC (.int 1))) (eC (.int 1)))) (tVal (eBin opNe (eCall 2 sp_law_gcd (agRo (eBin opIx (eLoc 10) (eC (.int 1))) (agRo (eLoc 2) agNil))) (eC (.int 1))))))) (sRet (eC (.bl false))) sNil)
  (sIf (tOrW (tVal (eBin opNe (eCall 2 sp_law_gcd (agRo (eBin opIx (eLoc 10) (eC (.int 0))) (agRo (eBin opIx (eLoc 10) (eC (.int 1))) agNil))) (eC (.int 1)))) (tVal (eBin opNe (eCall 2 sp_law_rest (agRo (eLoc 2) (agRo (eLoc 10) agNil))) (eLoc 8)))) (sRet (eC (.bl false))) sNil)))))))
  b_law_t7)
def b_law : SW := (sSeq (sFrz 1 (sSet 1 (eCall 4 sp_law_rows (agRo (eCall 2 sp_law_cell_at (agRo (eLoc 0) (agRo (eC (.int 0)) agNil))) (agRo (eC (.int 12)) (agRo (eC (.int 1)) (agRo (eBin opPow (eC (.int 10)) (eC (.int 10))) agNil)))))))
  (sSeq (sFrz 2 (sSet 2 (eUn opLen (eLoc 1))))
  (sSeq (sFrz 3 (sSet 3 (eMake 0 3 sp_Map_init (agRo (eLoc 2) (agRo (eUn opList (eLoc 1)) agNil)))))
  (sSeq (sFrz 4 (sSet 4 (eCall 2 sp_law_fraction (agRo (eCall 2 sp_law_cell_at (agRo (eLoc 0) (agRo (eC (.int 1)) agNil))) (agRo (eLoc 2) agNil)))))
  (sSeq (sFrz 5 (sSet 5 (eComp (iLst (eSl (eLoc 0) (pSome (eC (.int 2))) (pSome (eC (.int 26))))) (gN 16) tYesW (eBin opIx (eCall 2 sp_law_picks (agRo (eLoc 16) (agRo (eLst (dCons (eLoc 2) dNil)) agNil))) (eC (.int 0))) [16])))
  (sSeq (sSet 6 (eMakeW 1 3 none sp_Walker_init (agRo (eLoc 3) (agRo (eLoc 4) agNil))))
  b_law_t6))))))
theorem atI_q {xs : List D} {q : Nat} (h : q < xs.length) : L2.atI xs (q : Int) = xs[q]? := by
  unfold L2.atI ixN
  rw [if_pos (by omega), if_pos (by omega), Option.bind_some, Int.toNat_natCast]
section
variable {base : Nat} {rs : List (Int × Int)} {p : Int × Int}
theorem whole_walk (ho : MapOk rs) (hp : p.2 = 1) (j : Nat) : (walkF rs j p).2 = 1 := by
  obtain ⟨x, y⟩ := p
  have hp : y = 1 := hp
  subst hp
  rw [walkF_one ho.pos]
theorem back_one (st : St base rs p) (j : Nat) : backF rs (walkF rs (j + 1) p) (remF rs.length (walkF rs j p).1 (walkF rs j p).2).toNat = walkF rs j p := by
  have g := walkF_good (rs := rs) st.good j
  have h := back_walk st.hr st.two st.few g 1
  have r0 := (remF_spec (m := (rs.length : Int)) (t := (walkF rs j p).1) (b := (walkF rs j p).2) (by have := st.map.two; omega) g.2.2).1
  rw [walkF_add] at h
  rw [backF_W, Int.toNat_of_nonneg r0]
  exact h
theorem rev_tail (rs : List (Int × Int)) (p : Int × Int) (n : Nat) : ((trk rs p (n + 1)).reverse).tail = (List.range n).map fun i => walkF rs (n - 1 - i) p := by
  rw [trk_more, List.reverse_append]
  show (trk rs p n).reverse = _
  refine List.ext_getElem? fun i => ?_
  unfold trk
  by_cases h : i < n
  · rw [List.getElem?_reverse (by simpa using h), List.getElem?_map, List.getElem?_map, List.length_map, List.length_range, List.getElem?_range (by omega), List.getElem?_range h]
    rfl
  · rw [List.getElem?_eq_none (by simp; omega), List.getElem?_eq_none (by simp; omega)]
def plF (rs : List (Int × Int)) (p : Int × Int) (n i : Nat) : List (Int × Int) := trk rs p (n + 1) ++ (List.range i).map fun t => walkF rs (n - 1 - t) p
theorem plF_zero (rs : List (Int × Int)) (p : Int × Int) (n : Nat) : plF rs p n 0 = trk rs p (n + 1) := by unfold plF; simp
theorem plF_succ (rs : List (Int × Int)) (p : Int × Int) (n i : Nat) : plF rs p n (i + 1) = plF rs p n i ++ [walkF rs (n - 1 - i) p] := by
  unfold plF
  rw [List.range_succ, List.map_append, List.append_assoc]
  rfl
theorem plF_last {n i : Nat} (h : i ≤ n) : (plF rs p n i).getLast? = some (walkF rs (n - i) p) := by
  cases i with
  | zero => rw [plF_zero, trk_lastP]; rfl
  | succ i =>
    rw [plF_succ, List.getLast?_append, show n - (i + 1) = n - 1 - i by omega]
    rfl
theorem plF_len (n i : Nat) : (plF rs p n i).length = n + 1 + i := by unfold plF; simp [trk_len]
theorem plF_full (n : Nat) : plF rs p n n = trk rs p (n + 1) ++ ((trk rs p (n + 1)).reverse).tail := by rw [rev_tail]; rfl
theorem trip (n : Nat) : cutL ((trk rs p (n + 1)).map encR).reverse (some 1) none = (((trk rs p (n + 1)).reverse).tail).map encR := by
  have := cutL_drop (xs := ((trk rs p (n + 1)).map encR).reverse) (n := 1) (by rw [List.length_reverse, List.length_map, trk_len]; omega)
  rw [show ((1 : Nat) : Int) = 1 from rfl] at this
  rw [this, ← List.map_reverse, ← List.map_drop, List.drop_one]
theorem _root_.TL.WK.St.sz (st : St base rs p) (n : Nat) (hn : n ≤ 60) : Sz 3000 (walkF rs n p) := by
  have all : ∀ i, Sz (50 * i) (walkF rs i p) := by
    intro i
    induction i with
    | zero => exact ⟨st.top.mono (by omega), st.bot.mono (by omega)⟩
    | succ i ih => exact (step_sz st.hr st.two st.few (walkF_good st.good i) ih).mono (by omega)
  exact (all n).mono (by omega)
end
theorem sat_law_there_and_back : SatG 8 sp_law_there_and_back b_law_there_and_back := by
  rintro args mus kr kx hm hgh ⟨c, base, rs, p, b, n, rfl, hc, st, hn, hk⟩
  obtain ⟨s, m, rfl⟩ : ∃ s m, mus = [s, m] := by
    match mus, hm with
    | [s, m], _ => exact ⟨s, m, rfl⟩
  obtain ⟨rfl, _⟩ := hgh
  have ho := st.map
  unfold b_law_there_and_back
  rcases hc with rfl | ⟨rfl, hp⟩
  all_goals
    unfold sFor
    walk_at "sx"
    refine ⟨rs, p, n, rfl, st.wok (n := 0) (by omega) (by omega), st.bot.mono (by omega), ?_⟩
    walk_at "sx"
    refine ⟨[8], ?_⟩
    simp only [List.map_cons, List.map_nil]
    walk_at "sx"
    refine ⟨_, rs, [p], [], b, [], p, n, rfl, by simp, rfl, st.wok (n := 0) (by omega) (by omega), by simp, by simp, by simp, ?_⟩
    rw [K65.trk_one, List.nil_append]
    generalize hm1 : ([] : List (Int × Int)) ++ [_] = ms1
    have hml1 : ms1.length = 1 := by rw [← hm1]; rfl
    walk_at "sx"
    refine ⟨_, rs, trk rs p (n + 1), wordF rs p n, _, rfl, by simp, ?_⟩
    walk_at "sx"
    refine ⟨chZs _, ?_⟩
    rw [ne_zz, decide_eq_true rfl]
    walk_at "sx"
    refine ⟨by omega, fun i ρ => ∃ (ms : List (Int × Int)) (e6 : Sl), ms.length = 1 + i ∧ ρ = [.own true s (wkD _ rs (plF rs p n i) (wordF rs p n) b), .sh (encRs rs), .sh (encR p), .sh (.int n), .sh (encRs (trk rs p (n + 1))), .sh (encZs (wordF rs p n)), e6, .no, .own true b (encRs ms)],
      ⟨ms1, _, by omega, by rw [plF_zero]⟩, fun _ _ _ _ => trivial, ?_, ?_⟩
    · rintro i d ρ hi rfl ⟨ms, e6, hml, rfl⟩
      have hi : i < n := by omega
      obtain ⟨j, hj⟩ : ∃ j, n = j + 1 + i := ⟨n - 1 - i, by omega⟩
      have ij : (n : Int) - 1 - i = (j : Int) := by omega
      have hq : (plF rs p n i).getLast? = some (walkF rs (j + 1) p) := by rw [plF_last (by omega), show n - i = j + 1 by omega]
      have ea : L2.atI ((wordF rs p n).map D.int) (j : Int) = some (.int (remF rs.length (walkF rs j p).1 (walkF rs j p).2)) := by
        rw [atI_q (by rw [List.length_map, wordF_len]; omega), List.getElem?_map]
        unfold wordF
        rw [List.getElem?_map, List.getElem?_range (by omega)]
        rfl
      have eb : L2.atI ((trk rs p (n + 1)).map encR) (j : Int) = some (encR (walkF rs j p)) := by
        rw [atI_q (by rw [List.length_map, trk_len]; omega), List.getElem?_map]
        unfold trk
        rw [List.getElem?_map, List.getElem?_range (by omega)]
        rfl
      obtain ⟨r0, r1, _⟩ := remF_spec (m := (rs.length : Int)) (t := (walkF rs j p).1) (b := (walkF rs j p).2) (by have := ho.two; omega) (st.at_ j (by omega)).1.2.2
      have bo := back_one st j
      have sz := st.sz (j + 1) (by omega)
      have bok := bok_of st.hr st.two st.few (st.at_ (j + 1) (by omega)).1 sz (by omega) r0 r1
      walk_at "sx"
      rw [ij]
      refine ⟨_, ea, [8], ?_⟩
      simp only [List.map_cons, List.map_nil]
      walk_at "sx"
      first
        | refine ⟨1, rs, plF rs p n i, wordF rs p n, b, ms, walkF rs (j + 1) p, _, rfl, by simp, hq, bok, by rw [plF_len]; omega, by rw [wordF_len]; omega, by omega, ?_⟩
        | refine ⟨rs, plF rs p n i, wordF rs p n, b, ms, walkF rs (j + 1) p, _, rfl, hq, bok, by rw [bo]; exact whole_walk ho hp j, by rw [plF_len]; omega, by rw [wordF_len]; omega, by omega, ?_⟩
      rw [bo, show plF rs p n i ++ [walkF rs j p] = plF rs p n (i + 1) by rw [plF_succ, show n - 1 - i = j by omega]]
      generalize hm2 : ms ++ [_] = ms2
      have hml2 : ms2.length = 1 + (i + 1) := by rw [← hm2, List.length_append, hml]; simp; omega
      walk_at "sx"
      rw [ij]
      refine ⟨_, eb, ?_⟩
      rw [ne_r, decide_eq_true rfl]
      walk_at "sx"
      exact ⟨ms2, _, hml2, rfl⟩
    · rintro ρ ⟨ms, e6, hml, rfl⟩
      simp only [Int.toNat_natCast]
      walk_at "sx"
      refine ⟨_, rs, plF rs p n n, wordF rs p n, _, rfl, by simp, ?_⟩
      walk_at "sx"
      refine ⟨chRs _, plF rs p n n, rfl, by rw [plF_len]; omega, ?_⟩
      walk_at "sx"
      rw [trip]
      refine ⟨Nat.le_of_lt (line_big (by simp; omega)), ?_⟩
      rw [← List.map_append, ← plF_full, show D.lst ((plF rs p n n).map encR) = encRs (plF rs p n n) from rfl, eq_rr, decide_eq_true rfl]
      walk_at "sx"
      refine ⟨_, rs, plF rs p n n, wordF rs p n, _, rfl, by simp, ?_⟩
      walk_at "sx"
      refine ⟨chZs _, ?_⟩
      rw [eq_zz, decide_eq_true rfl]
      walk_at "sx"
      refine ⟨[0, 8], by decide, _, vw_wk (rs := rs) (pl := plF rs p n n) (ts := wordF rs p n) (b := b) (ms := ms) (by simp [pk]; rfl) (by simp [pk]), _, rs, plF rs p n n, wordF rs p n, ms, rfl, by simp, ?_⟩
      walk_at "sx"
      have hd : decide ((ms.length : Int) = n + 1) = true := decide_eq_true (by omega)
      rw [hd]
      exact ⟨⟨_, rfl, by omega, by omega⟩, _, .inr (.inr (.inr (.inr rfl))), hk _ _⟩
section
variable {ns al : List Int} {base : Nat} {rs : List (Int × Int)} {p : Int × Int} {kr : Ro → List D → Prop} {kx : Nat → D → Prop} {a b : Addr}
theorem law_t12 (st : St base rs p) (hk : kr (.sh (.bl true)) []) {n : Nat} (hn : n ≤ 30) {e5 e6 e7 e8 e9 e10 e11 e12 e13 e17 : Sl} :
    b_law_t12 (fun c d _ => kx c d) [.sh (encZs ns), .sh (encRs rs), .sh (.int base), .sh (mapD rs), .sh (encR p), e5, e6, e7, e8, e9, e10, e11, e12, e13, .sh (.int n), .no, .no, e17]
      { nx := endK [.ro (encZs ns)] [] kr (.sh .non), rt := endK [.ro (encZs ns)] [] kr } := by
  unfold b_law_t12
  walk_at "sx"
  refine ⟨_, rs, p, rfl, by simp, st.good, fun b => ?_⟩
  walk_at "sx"
  intro a hab hown
  refine ⟨[18], ?_⟩
  simp only [List.map_cons, List.map_nil]
  walk_at "sx"
  refine ⟨1, base, rs, p, b, n, rfl, .inl rfl, st, hn, fun d1 d2 => ?_⟩
  walk_at "sx"
  refine ⟨rs, (p.1, 1), rfl, good_one, rfl, fun b2 => ?_⟩
  walk_at "sx"
  intro a2 hab2 hown2
  refine ⟨[19], ?_⟩
  simp only [List.map_cons, List.map_nil]
  walk_at "sx"
  refine ⟨2, base, rs, (p.1, 1), b2, n, rfl, .inr ⟨rfl, rfl⟩, ⟨st.hr, st.two, st.few, good_one, st.top, show Bt 200 (1 : Int) by unfold Bt; decide⟩, hn, fun d3 d4 => ?_⟩
  walk_at "sx"
  refine ⟨rs, rfl, ?_⟩
  walk_at "sx"
  rw [eq_rr, decide_eq_true rfl]
  walk_at "sx"
  exact hk
/-- back along the word so far -/
def qF (rs : List (Int × Int)) (p : Int × Int) (al : List Int) (k : Nat) : Int × Int := backW rs p (al.drop (al.length - k))
def qL (rs : List (Int × Int)) (p : Int × Int) (al : List Int) (k : Nat) : List (Int × Int) := (List.range (k + 1)).map (qF rs p al)
theorem backW_nil (hg : Good rs.length p) : backW rs p [] = p := by
  unfold backW
  show low (1 * p.1 - 0 * p.2) (1 * p.2) = p
  rw [Int.one_mul, Int.one_mul, Int.zero_mul, Int.sub_zero]
  exact low_self hg.2.1
theorem qF_zero (hg : Good rs.length p) : qF rs p al 0 = p := by unfold qF; rw [Nat.sub_zero, List.drop_length]; exact backW_nil hg
theorem drop_wd (hw : Wd rs.length al) (k : Nat) : Wd rs.length (al.drop k) := fun e he => hw e (List.mem_of_mem_drop he)
theorem qF_good (st : St base rs p) (hw : Wd rs.length al) (k : Nat) : Good rs.length (qF rs p al k) := by
  have := (CD.backW_spec st.hr st.two st.few st.good (drop_wd hw (al.length - k))).1
  exact this
theorem qF_succ (st : St base rs p) (hw : Wd rs.length al) {k j : Nat} (h : j + 1 + k = al.length) {e : Int} (he : al[j]? = some e) : qF rs p al (k + 1) = backF rs (qF rs p al k) e.toNat := by
  unfold qF
  rw [show al.length - k = j + 1 by omega, show al.length - (k + 1) = j by omega]
  have hj : j < al.length := by omega
  have e1 : al.drop j = [e] ++ al.drop (j + 1) := by
    rw [List.drop_eq_getElem_cons hj]
    have : al[j] = e := by rw [List.getElem?_eq_getElem hj] at he; exact Option.some.inj he
    rw [this]
    rfl
  have e0 := (hw e (List.mem_of_getElem? he)).1
  have wd1 : Wd rs.length [e] := fun x hx => by
    rcases List.mem_cons.mp hx with rfl | hx
    · exact hw _ (List.mem_of_getElem? he)
    · cases hx
  rw [e1, ← back_app st.hr st.two st.few st.good (drop_wd hw (j + 1)) wd1, backF_W, Int.toNat_of_nonneg e0]
theorem qF_sz (st : St base rs p) (hw : Wd rs.length al) : ∀ k, k ≤ al.length → Sz (50 * k) (qF rs p al k)
  | 0, _ => by rw [qF_zero st.good]; exact ⟨st.top.mono (by omega), st.bot.mono (by omega)⟩
  | k + 1, h => by
    obtain ⟨j, hj⟩ : ∃ j, j + 1 + k = al.length := ⟨al.length - 1 - k, by omega⟩
    have he : al[j]? = some al[j] := List.getElem?_eq_getElem (by omega)
    rw [qF_succ st hw hj he]
    have := hw _ (List.getElem_mem (show j < al.length by omega))
    exact (back_sz st.hr st.two st.few (qF_good st hw k) (qF_sz st hw k (by omega)) (by omega)).mono (by omega)
theorem qL_last (k : Nat) : (qL rs p al k).getLast? = some (qF rs p al k) := by
  unfold qL
  rw [List.range_succ, List.map_append, List.getLast?_append]
  rfl
theorem qL_succ (k : Nat) : qL rs p al (k + 1) = qL rs p al k ++ [qF rs p al (k + 1)] := by
  unfold qL
  rw [List.range_succ, List.map_append]
  rfl
theorem walk_qF (st : St base rs p) (hw : Wd rs.length al) {i : Nat} (hi : i ≤ al.length) : walkF rs i (qF rs p al al.length) = qF rs p al (al.length - i) := by
  unfold qF
  rw [Nat.sub_self, List.drop_zero, show al.length - (al.length - i) = i by omega]
  have wt : Wd rs.length (al.take i) := fun e he => hw e (List.mem_of_mem_take he)
  have hb := back_app st.hr st.two st.few st.good (drop_wd hw i) wt
  rw [List.take_append_drop] at hb
  rw [← hb]
  have := (walk_back st.hr st.two st.few (CD.backW_spec st.hr st.two st.few st.good (drop_wd hw i)).1 wt).1
  rw [List.length_take, Nat.min_eq_left hi] at this
  exact this
theorem qL_rev (st : St base rs p) (hw : Wd rs.length al) : (trk rs (qF rs p al al.length) (al.length + 1)).reverse = qL rs p al al.length := by
  refine List.ext_getElem? fun i => ?_
  by_cases h : i < al.length + 1
  · rw [List.getElem?_reverse (by rw [trk_len]; exact h), trk_len]
    unfold trk qL
    rw [List.getElem?_map, List.getElem?_map, List.getElem?_range (by omega), List.getElem?_range h]
    show some (walkF rs _ _) = some _
    rw [walk_qF st hw (by omega), show al.length - (al.length + 1 - 1 - i) = i by omega]
  · unfold qL
    rw [List.getElem?_eq_none (by rw [List.length_reverse, trk_len]; omega), List.getElem?_eq_none (by simp; omega)]
theorem law_t10 (hns : ∀ n ∈ ns, Bt 2000000 n) (st : St base rs p) (hw : Wd rs.length al) (hal : al.length ≤ 24) (hk : kr (.sh (.bl true)) []) {e7 e8 e9 e10 e11 e17 : Sl} :
    b_law_t10 (fun c d _ => kx c d) [.sh (encZs ns), .sh (encRs rs), .sh (.int base), .sh (mapD rs), .sh (encR p), .sh (encZs al), .own false a (wkD 1 rs (qL rs p al al.length) [] b), e7, e8, e9, e10, e11, .sh (encRs (trk rs (qF rs p al al.length) (al.length + 1))), .sh (encZs (wordF rs (qF rs p al al.length) al.length)), .no, .no, .no, e17]
      { nx := endK [.ro (encZs ns)] [] kr (.sh .non), rt := endK [.ro (encZs ns)] [] kr } := by
  have hg0 := qF_good st hw al.length
  have hwq := (walk_back st.hr st.two st.few st.good hw).2
  have hq : qF rs p al al.length = backW rs p al := by unfold qF; rw [Nat.sub_self, List.drop_zero]
  have hlast : walkF rs al.length (qF rs p al al.length) = p := by rw [walk_qF st hw (Nat.le_refl _), Nat.sub_self, qF_zero st.good]
  unfold b_law_t10
  walk_at "sx"
  rw [hq, hwq, ← hq, ne_zz, decide_eq_true rfl]
  walk_at "sx"
  refine ⟨_, getLast_at (trk_lastP rs (qF rs p al al.length) al.length), ?_⟩
  rw [hlast, ne_r, decide_eq_true rfl]
  walk_at "sx"
  refine ⟨_, rs, qL rs p al al.length, [], _, rfl, by simp, ?_⟩
  walk_at "sx"
  refine ⟨chRs _, ?_⟩
  rw [show D.lst ((trk rs (qF rs p al al.length) (al.length + 1)).map encR).reverse = encRs (qL rs p al al.length) by rw [← List.map_reverse, qL_rev st hw], ne_rr, decide_eq_true rfl]
  walk_at "sx"
  refine ⟨ns, 1, rfl, by omega, hns, fun c hc => ?_⟩
  walk_at "sx"
  refine ⟨c, [6, 2, 25], rfl, hc, fun s hs => ?_, by simp, ?_⟩
  · simp only [List.mem_cons, List.not_mem_nil, or_false] at hs
    rcases hs with rfl | rfl | rfl <;> exact ⟨by omega, by unfold Bt; decide⟩
  have k2 := MP.pkF_bd (c := c) (ss := [6, 2, 25]) (i := 2) (s := 25) rfl (by omega)
  have e2 : L2.atI ((picksF c [6, 2, 25]).map D.int) 2 = some (.int (pkF c [6, 2, 25] 2)) := MP.atI_pk (by omega) (by simp)
  obtain ⟨n, hn⟩ := Int.eq_ofNat_of_zero_le k2.1
  rw [hn] at e2 k2
  walk_at "sx"
  refine ⟨_, e2, ?_⟩
  walk_at "sx"
  exact law_t12 st hk (by omega)
theorem law_t7 (hns : ∀ n ∈ ns, Bt 2000000 n) (st : St base rs p) (hw : Wd rs.length al) (hal : al.length ≤ 24) (hk : kr (.sh (.bl true)) []) {e7 e8 e9 e10 e17 : Sl} :
    b_law_t7 (fun c d _ => kx c d) [.sh (encZs ns), .sh (encRs rs), .sh (.int base), .sh (mapD rs), .sh (encR p), .sh (encZs al), .own false a (wkD 1 rs (qL rs p al al.length) [] b), e7, e8, e9, e10, .no, .no, .no, .no, .no, .no, e17]
      { nx := endK [.ro (encZs ns)] [] kr (.sh .non), rt := endK [.ro (encZs ns)] [] kr } := by
  have hg0 := qF_good st hw al.length
  have sz := qF_sz st hw al.length (Nat.le_refl _)
  have hq : qF rs p al al.length = backW rs p al := by unfold qF; rw [Nat.sub_self, List.drop_zero]
  have fs := form_sizes st.hr st.two st.few hw (by omega)
  obtain ⟨a1, a2⟩ := CD.form_a_size st.hr hw
  unfold b_law_t7
  walk_at "sx"
  refine ⟨rs, p, al, rfl, st.map, st.good, st.top.mono (by omega), st.bot.mono (by omega), hw, fs, a2, a1.mono (by omega), ?_⟩
  walk_at "sx"
  refine ⟨_, rs, qL rs p al al.length, [], _, _, rfl, by simp, qL_last _, ?_⟩
  walk_at "sx"
  refine ⟨rfl, ?_⟩
  rw [hq, ne_r, decide_eq_true rfl]
  walk_at "sx"
  rw [ne_zz, decide_eq_true rfl]
  walk_at "sx"
  refine ⟨_, rs, qL rs p al al.length, [], _, _, rfl, by simp, qL_last _, ?_⟩
  walk_at "sx"
  try simp only [List.length_map]
  refine ⟨rfl, rs, qF rs p al al.length, al.length, rfl, wok_of st.hr st.two st.few hg0 sz (by omega) (by omega), sz.bot.mono (by omega), ?_⟩
  walk_at "sx"
  exact law_t10 hns st hw hal hk
theorem law_t6 (hns : ∀ n ∈ ns, Bt 2000000 n) (st : St base rs p) (h12 : base ≤ 12) (hw : Wd rs.length al) (hal : al.length ≤ 24) (hk : kr (.sh (.bl true)) []) :
    b_law_t6 (fun c d _ => kx c d) [.sh (encZs ns), .sh (encRs rs), .sh (.int base), .sh (mapD rs), .sh (encR p), .sh (encZs al), .own false a (wkD 1 rs [p] [] b), .no, .no, .no, .no, .no, .no, .no, .no, .no, .no, .own false b (.lst [])]
      { nx := endK [.ro (encZs ns)] [] kr (.sh .non), rt := endK [.ro (encZs ns)] [] kr } := by
  have hl := st.hr.len
  have ho := st.map
  unfold b_law_t6
  unfold sFor
  walk_at "sx"
  try simp only [List.length_map, Int.toNat_natCast]
  refine ⟨by omega, fun k ρ => ∃ (ms : List (Int × Int)) (e7 e8 e9 e10 : Sl), ms.length = k ∧ ρ = [.sh (encZs ns), .sh (encRs rs), .sh (.int base), .sh (mapD rs), .sh (encR p), .sh (encZs al), .own false a (wkD 1 rs (qL rs p al k) [] b), e7, e8, e9, e10, .no, .no, .no, .no, .no, .no, .own false b (encRs ms)],
    ⟨[], _, _, _, _, rfl, by rw [show qL rs p al 0 = [p] by unfold qL; rw [show List.range (0 + 1) = [0] from rfl, List.map_cons, List.map_nil, qF_zero st.good]]; rfl⟩, fun _ _ _ _ => trivial, ?_, ?_⟩
  · rintro k d ρ hi rfl ⟨ms, e7, e8, e9, e10, hml, rfl⟩
    obtain ⟨j, hj⟩ : ∃ j, j + 1 + k = al.length := ⟨al.length - 1 - k, by omega⟩
    obtain ⟨e, he⟩ : ∃ e, al[j]? = some e := ⟨_, List.getElem?_eq_getElem (by omega)⟩
    have ij : (al.length : Int) - 1 - k = (j : Int) := by omega
    have ea : L2.atI (al.map D.int) (j : Int) = some (.int e) := by
      rw [atI_q (by rw [List.length_map]; omega), List.getElem?_map, he]
      rfl
    obtain ⟨w0, w1⟩ := hw e (List.mem_of_getElem? he)
    have hg := qF_good st hw k
    have sz := qF_sz st hw k (by omega)
    have hs := qF_succ st hw hj he
    have hg2 := qF_good st hw (k + 1)
    have sz2 := qF_sz st hw (k + 1) (by omega)
    obtain ⟨_, r2, _⟩ := backF_step ho hg (k := e.toNat) (by omega)
    rw [← hs, Int.toNat_of_nonneg w0] at r2
    have bok := bok_of st.hr st.two st.few hg sz (by omega) w0 w1
    walk_at "sx"
    try simp only [List.length_map]
    rw [ij]
    refine ⟨_, ea, ?_⟩
    walk_at "sx"
    refine ⟨_, rs, qL rs p al k, [], _, _, rfl, by simp, qL_last k, ?_⟩
    walk_at "sx"
    refine ⟨rfl, rs, qF rs p al k, rfl, ho, hg, sz.top.mono (by omega), sz.bot.mono (by omega), fun r hr => (bok.sz r hr).mono (by omega), ?_⟩
    walk_at "sx"
    have el : ((List.range rs.length).map (backF rs (qF rs p al k))).length = rs.length := by simp
    have ed : L2.atI (((List.range rs.length).map (backF rs (qF rs p al k))).map encR) e = some (encR (qF rs p al (k + 1))) := by
      have := atI_map (f := encR) (rs := (List.range rs.length).map (backF rs (qF rs p al k))) (i := e) (x := (0, 1)) w0 (by rw [el]; exact w1)
      rw [this, hs]
      congr 2
      rw [List.getD_eq_getElem?_getD, List.getElem?_map, List.getElem?_range (by omega)]
      rfl
    generalize hdu : (List.range rs.length).map (backF rs (qF rs p al k)) = due at *
    refine ⟨due, rfl, by omega, ?_⟩
    walk_at "sx"
    try simp only [List.length_map]
    refine ⟨fun h => absurd (by omega) h, fun _ => ⟨[17], ?_⟩⟩
    simp only [List.map_cons, List.map_nil]
    walk_at "sx"
    refine ⟨by decide, 1, rs, qL rs p al k, [], b, ms, qF rs p al k, e, rfl, by simp, qL_last k, bok, by unfold qL; simp; omega, by simp, by omega, ?_⟩
    rw [← hs, ← qL_succ]
    generalize hm2 : ms ++ [_] = ms2
    have hml2 : ms2.length = k + 1 := by rw [← hm2, List.length_append, hml]; rfl
    walk_at "sx"
    refine ⟨_, rfl, ?_⟩
    walk_at "sx"
    refine ⟨_, ed, ?_⟩
    rw [ne_r, decide_eq_true rfl]
    walk_at "sx"
    refine ⟨fun h => absurd h (by have := hg2.1; omega), fun _ => ⟨_, _, rfl, ?_⟩⟩
    walk_at "sx"
    refine ⟨fun h => absurd (by rw [← hl, hg2.2.2]; rfl) h, fun _ => ⟨_, _, rfl, ?_⟩⟩
    walk_at "sx"
    refine ⟨fun h => absurd (by rw [hg2.2.1]; rfl) h, fun _ => ⟨base, qF rs p al (k + 1), rfl, by omega, by omega, by rw [← hl]; exact hg2, sz2.bot.mono (by omega), ?_⟩⟩
    walk_at "sx"
    rw [← hl]
    refine ⟨fun h => absurd r2 h, fun _ => ?_⟩
    exact ⟨ms2, _, _, _, _, hml2, rfl⟩
  · rintro ρ ⟨ms, e7, e8, e9, e10, hml, rfl⟩
    exact law_t7 hns st hw hal hk
end
theorem sat_law : Sat 17 sp_law b_law := by
  rintro args mus kr kx hm ⟨ns, rfl, hns, hln, hk⟩
  obtain rfl := mus0 hm
  unfold b_law
  walk_at "sx"
  simp only [e10]
  refine ⟨ns, 0, rfl, by omega, hns, fun c hc => ?_⟩
  walk_at "sx"
  refine ⟨cp10, c, 12, 1, 10000000000, rfl, hc, by omega, by omega, by omega, by omega, by omega, by unfold Bt; decide, fun rs hrs => ?_⟩
  have hbb := baseF_bd (c := c) (most := 12) (by omega)
  have hl := hrs.len
  generalize hbe : (baseF c 12).toNat = base at *
  have hmap := hrs.map (by omega) (by omega)
  walk_at "sx"
  try simp only [List.length_map]
  refine ⟨rs, by rw [hl], hmap, ?_⟩
  walk_at "sx"
  refine ⟨ns, 1, rfl, by omega, hns, fun c2 hc2 => ?_⟩
  walk_at "sx"
  refine ⟨c2, base, by rw [hl], hc2, by omega, by omega, fun p hg hp1 hp2 => ?_⟩
  have st : St base rs p := ⟨hrs.rules, by omega, by omega, by rw [hl]; exact hg, hp1, hp2⟩
  walk_at "sx"
  simp only [eComp, iLst, tYesW]
  walk_at "sx"
  have h24 : (cutL (ns.map D.int) (some 2) (some 26)).length ≤ 24 := by
    unfold cutL
    have h1 : HT.sIx (ns.map D.int).length (ns.map D.int).length (some 26) = min 26 (ns.map D.int).length := HT.sIx_nat _ _ 26
    have h2 : HT.sIx (ns.map D.int).length 0 (some 2) = min 2 (ns.map D.int).length := HT.sIx_nat _ 0 2
    rw [h1, h2, List.length_take, List.length_drop]
    omega
  refine ⟨fun i acc ρ => ∃ al : List Int, acc = al.map D.int ∧ al.length = i ∧ Wd rs.length al ∧ ρ = [.sh (encZs ns), .sh (encRs rs), .sh (.int rs.length), .sh (mapD rs), .sh (encR p), .no, .no, .no, .no, .no, .no, .no, .no, .no, .no, .no, .no],
    ⟨[], rfl, rfl, fun e he => (by cases he), rfl⟩, fun _ _ _ _ _ => trivial, ?_, ?_⟩
  · rintro i d acc ρ hi hd ⟨al, rfl, hal, hw, rfl⟩
    obtain ⟨x, rfl, hx⟩ : ∃ x : Int, d = .int x ∧ Bt 2000000 x := by
      have hm := List.mem_of_getElem? hd
      unfold cutL at hm
      obtain ⟨x, hx, rfl⟩ := List.mem_map.mp (List.mem_of_mem_drop (List.mem_of_mem_take hm))
      exact ⟨x, rfl, hns x hx⟩
    walk_at "sx"
    have k0 := MP.pkF_bd (c := x) (ss := [(rs.length : Int)]) (i := 0) (s := (rs.length : Int)) rfl (by omega)
    have e0 : L2.atI ((picksF x [(rs.length : Int)]).map D.int) 0 = some (.int (pkF x [(rs.length : Int)] 0)) := MP.atI_pk (by omega) (by simp)
    refine ⟨x, [(rs.length : Int)], rfl, hx, fun s hs => ?_, by simp, ?_⟩
    · rcases List.mem_cons.mp hs with rfl | hs
      · exact ⟨by omega, (Bt.small (by omega) (by omega)).mono (by omega)⟩
      · cases hs
    walk_at "sx"
    refine ⟨_, e0, ?_⟩
    walk_at "sx"
    have hw2 : Wd rs.length (al ++ [pkF x [(rs.length : Int)] 0]) := by
      intro e he
      rcases List.mem_append.mp he with he | he
      · exact hw e he
      · rcases List.mem_cons.mp he with rfl | he
        · exact k0
        · cases he
    refine ⟨line_big (by omega), al ++ [pkF x [(rs.length : Int)] 0], ?_, ?_, hw2⟩
    · rw [List.map_append]; rfl
    · rw [List.length_append, hal]; rfl
  · rintro acc ρ ⟨al, rfl, hal, hw, rfl⟩
    intro a5
    walk_at "sx"
    refine ⟨_, rs, p, rfl, by simp, st.good, fun b => ?_⟩
    walk_at "sx"
    intro a hab
    rw [hl]
    exact law_t6 hns st (by omega) hw (by omega) hk
end K80
end WK
end TL

namespace TL
open PySem PySem.Spec L2
namespace WK.K80
def top (i : Nat) : Stmt := PySem.Challenge.pw_reststeps_k80_whole_walkers_retrace.main.body.getD i (.Pass ⟨0, 0, 0, 0⟩)
abbrev s_law_whole : Stmt := top 42
abbrev s_law_pair : Stmt := top 43
abbrev s_law_pairs : Stmt := top 44
abbrev s_Walker_word : Stmt := inClass (top 31) 8
abbrev s_Walker_len : Stmt := inClass (top 31) 2
abbrev s_Walker_trail : Stmt := inClass (top 31) 7
abbrev s_gcd : Stmt := top 11
abbrev s_lowest : Stmt := top 12
abbrev s_joined_form : Stmt := top 25
abbrev s_Map_rules : Stmt := inClass (top 35) 2
abbrev s_check_word : Stmt := top 24
abbrev s_Map_modulus : Stmt := inClass (top 35) 1
abbrev s_form_of : Stmt := top 26
abbrev s_is_fraction : Stmt := top 13
abbrev s_is_good : Stmt := top 14
abbrev s_back_by : Stmt := top 29
abbrev s_Walker_here : Stmt := inClass (top 31) 4
abbrev s_Walker_fraction_behind : Stmt := inClass (top 31) 5
abbrev s_Walker_back : Stmt := inClass (top 31) 6
abbrev s_WholeWalker_back : Stmt := inClass (top 32) 2
abbrev s_inverse : Stmt := top 15
abbrev s_remainder_by : Stmt := top 19
abbrev s_stepped : Stmt := top 20
abbrev s_check_number : Stmt := top 18
abbrev s_check_fraction : Stmt := top 17
abbrev s_walk : Stmt := top 21
abbrev s_word_of : Stmt := top 22
abbrev s_Walker_call : Stmt := inClass (top 31) 1
abbrev s_law_gcd : Stmt := top 39
abbrev s_law_lowest : Stmt := top 40
abbrev s_law_rest : Stmt := top 46
abbrev s_law_move : Stmt := top 47
abbrev s_law_walked : Stmt := top 48
abbrev s_law_there_and_back : Stmt := top 49
abbrev s_Walker_init : Stmt := inClass (top 31) 0
abbrev s_WholeWalker_init : Stmt := inClass (top 32) 0
abbrev s_law_picks : Stmt := top 38
abbrev s_law_cell_at : Stmt := top 37
abbrev s_before : Stmt := top 28
abbrev s_law_fraction : Stmt := top 45
abbrev s_is_rule : Stmt := top 34
abbrev s_Map_init : Stmt := inClass (top 35) 0
abbrev s_law_rows : Stmt := top 41
abbrev s_law : Stmt := top 50
section
variable {P : Program} {w : World} {K : PySem.W.Frag} {mg : Str → Option Value} {base : Heap} {C : Ccs}
theorem sc_law_whole : FnScope ["found"] ["found"] (defScope s_law_whole) := ⟨rfl, rfl, rfl, by decide +kernel, rfl, by decide +kernel, by decide +kernel⟩
theorem ok_law_whole {f_law_whole : Addr} {d_law_whole : FuncData} (F : Fun K "_law_whole" "_law_whole" s_law_whole f_law_whole d_law_whole) (cK : C.cc.K = K) (n_bool : mg "bool" = none) (n_int : mg "int" = none) (n_isinstance : mg "isinstance" = none) : FnOk P w K mg base CX0 1 f_law_whole d_law_whole ["found"] (LSp0 C sp_law_whole 1) :=
  fn_ok F sc_law_whole sat_law_whole (by decide) fun cdv A outer s H E Z hcc hz hr => have hK : Z.cc.K = K := by rw [hcc]; exact cK
  (ds_one (ds_ret (de_and (de_isI .int rfl hK n_isinstance n_int (de_loc 0)) (de_one (de_not (de_isI .bool rfl hK n_isinstance n_bool (de_loc 0)))))))
theorem sc_law_pair : FnScope ["found"] ["found"] (defScope s_law_pair) := ⟨rfl, rfl, rfl, by decide +kernel, rfl, by decide +kernel, by decide +kernel⟩
theorem ok_law_pair {f_law_pair : Addr} {d_law_pair : FuncData} (F : Fun K "_law_pair" "_law_pair" s_law_pair f_law_pair d_law_pair) (cK : C.cc.K = K) (n_isinstance : mg "isinstance" = none) (n_len : mg "len" = none) (n_tuple : mg "tuple" = none) {f_law_whole : Addr} {d_law_whole : FuncData} (ok_law_whole : FnOk P w K mg base CX0 1 f_law_whole d_law_whole ["found"] (LSp0 C sp_law_whole 1)) (B_law_whole : Binds K d_law_whole ["found"] []) (M_law_whole : mg "_law_whole" = some (.ref f_law_whole)) (K_law_whole : PySem.W.keepIn K (.ref f_law_whole) = true) : FnOk P w K mg base CX0 2 f_law_pair d_law_pair ["found"] (LSp0 C sp_law_pair 1) :=
  fn_ok F sc_law_pair sat_law_pair (by decide) fun cdv A outer s H E Z hcc hz hr => have hK : Z.cc.K = K := by rw [hcc]; exact cK
  (ds_cons (ds_if (PW.pt (dw_or (dt_not (dt_val (de_isI .tuple rfl hK n_isinstance n_tuple (de_loc 0)))) (dw_or1 (dt_cmp (op_neD hr.units) (ops_ne hK) (de_b1 call_lenA (ops_len hK) n_len (de_loc 0)) de_int (nomark _))))) (ds_one (ds_ret de_bl)) ds_nil)
  (ds_one (ds_ret (de_and (de_callN hcc hz ok_law_whole (hr.mono (by decide)) M_law_whole K_law_whole B_law_whole (dag_ro (de_ix hK (de_loc 0) de_int) dag_nil)) (de_one (de_callN hcc hz ok_law_whole (hr.mono (by decide)) M_law_whole K_law_whole B_law_whole (dag_ro (de_ix hK (de_loc 0) de_int) dag_nil)))))))
theorem sc_law_pairs : FnScope ["found", "one"] ["found"] (defScope s_law_pairs) := ⟨rfl, rfl, rfl, by decide +kernel, rfl, by decide +kernel, by decide +kernel⟩
theorem ok_law_pairs {f_law_pairs : Addr} {d_law_pairs : FuncData} (F : Fun K "_law_pairs" "_law_pairs" s_law_pairs f_law_pairs d_law_pairs) (cK : C.cc.K = K) (n_all : mg "all" = none) (n_isinstance : mg "isinstance" = none) (n_list : mg "list" = none) {f_law_pair : Addr} {d_law_pair : FuncData} (ok_law_pair : FnOk P w K mg base CX0 2 f_law_pair d_law_pair ["found"] (LSp0 C sp_law_pair 1)) (B_law_pair : Binds K d_law_pair ["found"] []) (M_law_pair : mg "_law_pair" = some (.ref f_law_pair)) (K_law_pair : PySem.W.keepIn K (.ref f_law_pair) = true) : FnOk P w K mg base CX0 3 f_law_pairs d_law_pairs ["found"] (LSp0 C sp_law_pairs 1) :=
  fn_ok F sc_law_pairs sat_law_pairs (by decide) fun cdv A outer s H E Z hcc hz hr => have hK : Z.cc.K = K := by rw [hcc]; exact cK
  (ds_one (ds_ret (de_and (de_isI .list rfl hK n_isinstance n_list (de_loc 0)) (de_one (de_b1 (cr_all rfl) (ops_all hK) n_all (de_comp (own := [("one", 1)]) rfl sc_law_pairs.nd (di_lst hK (de_loc 0)) (blkOk_by (own := [("one", 1)]) (N := ["found", "one"]) (sc := defScope s_law_pairs) (by decide +kernel)) (fun _ _ _ _ _ => (dgc_name (i := 1) sc_law_pairs.nd)) (fun _ _ _ _ _ _ _ => dts_nil) (fun _ _ _ _ _ _ _ => (de_callN hcc rfl ok_law_pair (hr.mono (by decide)) M_law_pair K_law_pair B_law_pair (dag_ro (de_loc 1) dag_nil)))))))))
theorem sc_Walker_word : FnScope ["self"] ["self"] (defScope s_Walker_word) := ⟨rfl, rfl, rfl, by decide +kernel, rfl, by decide +kernel, by decide +kernel⟩
theorem ok_Walker_word {f_Walker_word : Addr} {d_Walker_word : FuncData} (F : Fun K "word" "Walker.word" s_Walker_word f_Walker_word d_Walker_word) (cK : C.cc.K = K) (n_list : mg "list" = none) (ck_Walker : ClsOk K (C.cc.cl 1)) (fl_Walker : (C.cc.cl 1).2 = (["held_map", "places", "taken", "marks"] : List Str)) (ck_WholeWalker : ClsOk K (C.cc.cl 2)) (fl_WholeWalker : (C.cc.cl 2).2 = (["held_map", "places", "taken", "marks"] : List Str)) : FnOk P w K mg base CX0 1 f_Walker_word d_Walker_word ["self"] (LSp0 C sp_Walker_word 1) :=
  fn_ok F sc_Walker_word sat_Walker_word (by decide) fun cdv A outer s H E Z hcc hz hr => have hK : Z.cc.K = K := by rw [hcc]; exact cK
  (ds_one (ds_ret (de_t1 call_list_of (ops_list hK) n_list (de_fldC (fldc hcc ck_Walker (by rw [fl_Walker]; rfl) ck_WholeWalker (by rw [fl_WholeWalker]; rfl)) (de_loc 0)))))
theorem sc_Walker_len : FnScope ["self"] ["self"] (defScope s_Walker_len) := ⟨rfl, rfl, rfl, by decide +kernel, rfl, by decide +kernel, by decide +kernel⟩
theorem ok_Walker_len {f_Walker_len : Addr} {d_Walker_len : FuncData} (F : Fun K "__len__" "Walker.__len__" s_Walker_len f_Walker_len d_Walker_len) (cK : C.cc.K = K) (n_len : mg "len" = none) (ck_Walker : ClsOk K (C.cc.cl 1)) (fl_Walker : (C.cc.cl 1).2 = (["held_map", "places", "taken", "marks"] : List Str)) (ck_WholeWalker : ClsOk K (C.cc.cl 2)) (fl_WholeWalker : (C.cc.cl 2).2 = (["held_map", "places", "taken", "marks"] : List Str)) : FnOk P w K mg base CX0 1 f_Walker_len d_Walker_len ["self"] (LSp0 C sp_Walker_len 1) :=
  fn_ok F sc_Walker_len sat_Walker_len (by decide) fun cdv A outer s H E Z hcc hz hr => have hK : Z.cc.K = K := by rw [hcc]; exact cK
  (ds_one (ds_ret (de_b1 call_lenA (ops_len hK) n_len (de_fldC (fldc hcc ck_Walker (by rw [fl_Walker]; rfl) ck_WholeWalker (by rw [fl_WholeWalker]; rfl)) (de_loc 0)))))
theorem sc_Walker_trail : FnScope ["self"] ["self"] (defScope s_Walker_trail) := ⟨rfl, rfl, rfl, by decide +kernel, rfl, by decide +kernel, by decide +kernel⟩
theorem ok_Walker_trail {f_Walker_trail : Addr} {d_Walker_trail : FuncData} (F : Fun K "trail" "Walker.trail" s_Walker_trail f_Walker_trail d_Walker_trail) (cK : C.cc.K = K) (n_list : mg "list" = none) (ck_Walker : ClsOk K (C.cc.cl 1)) (fl_Walker : (C.cc.cl 1).2 = (["held_map", "places", "taken", "marks"] : List Str)) (ck_WholeWalker : ClsOk K (C.cc.cl 2)) (fl_WholeWalker : (C.cc.cl 2).2 = (["held_map", "places", "taken", "marks"] : List Str)) : FnOk P w K mg base CX0 1 f_Walker_trail d_Walker_trail ["self"] (LSp0 C sp_Walker_trail 1) :=
  fn_ok F sc_Walker_trail sat_Walker_trail (by decide) fun cdv A outer s H E Z hcc hz hr => have hK : Z.cc.K = K := by rw [hcc]; exact cK
  (ds_one (ds_ret (de_t1 call_list_of (ops_list hK) n_list (de_fldC (fldc hcc ck_Walker (by rw [fl_Walker]; rfl) ck_WholeWalker (by rw [fl_WholeWalker]; rfl)) (de_loc 0)))))
theorem sc_gcd : FnScope ["one", "other"] ["one", "other"] (defScope s_gcd) := ⟨rfl, rfl, rfl, by decide +kernel, rfl, by decide +kernel, by decide +kernel⟩
theorem ok_gcd {f_gcd : Addr} {d_gcd : FuncData} (F : Fun K "gcd" "gcd" s_gcd f_gcd d_gcd) (cK : C.cc.K = K) (n_abs : mg "abs" = none) : FnOk P w K mg base CX0 1 f_gcd d_gcd ["one", "other"] (LSp0 C sp_gcd 2) :=
  fn_ok F sc_gcd sat_gcd (by decide) fun cdv A outer s H E Z hcc hz hr => have hK : Z.cc.K = K := by rw [hcc]; exact cK
  (ds_cons (ds_frz (i := 0) (ds_set (i := 0) sc_gcd.nd (de_b1 call_abs ops_abs n_abs (de_loc 0))))
  (ds_cons (ds_frz (i := 1) (ds_set (i := 1) sc_gcd.nd (de_b1 call_abs ops_abs n_abs (de_loc 1))))
  (ds_cons (ds_while PassesOwn.never (dt_cmp op_gt ops_gt (de_loc 1) de_int (nomark _)) (ds_one (ds_par (i := 0) (j := 1) rfl sc_gcd.nd (da_cons (de_loc 1) (da_cons (de_bin op_mod ops_mod (de_loc 0) (de_loc 1)) da_nil)))))
  (ds_one (ds_ret (de_loc 0))))))
theorem sc_lowest : FnScope ["top", "bottom", "common"] ["top", "bottom"] (defScope s_lowest) := ⟨rfl, rfl, rfl, by decide +kernel, rfl, by decide +kernel, by decide +kernel⟩
theorem ok_lowest {f_lowest : Addr} {d_lowest : FuncData} (F : Fun K "lowest" "lowest" s_lowest f_lowest d_lowest) (cK : C.cc.K = K) {f_gcd : Addr} {d_gcd : FuncData} (ok_gcd : FnOk P w K mg base CX0 1 f_gcd d_gcd ["one", "other"] (LSp0 C sp_gcd 2)) (B_gcd : Binds K d_gcd ["one", "other"] []) (M_gcd : mg "gcd" = some (.ref f_gcd)) (K_gcd : PySem.W.keepIn K (.ref f_gcd) = true) : FnOk P w K mg base CX0 2 f_lowest d_lowest ["top", "bottom"] (LSp0 C sp_lowest 2) :=
  fn_ok F sc_lowest sat_lowest (by decide) fun cdv A outer s H E Z hcc hz hr => have hK : Z.cc.K = K := by rw [hcc]; exact cK
  (ds_cons (ds_if (dt_cmp op_lt ops_lt (de_loc 1) de_int (nomark _)) (ds_cons (ds_set (i := 0) sc_lowest.nd (de_neg (de_loc 0)))
  (ds_one (ds_set (i := 1) sc_lowest.nd (de_neg (de_loc 1))))) ds_nil)
  (ds_cons (ds_frz (i := 2) (ds_set (i := 2) sc_lowest.nd (de_callN hcc hz ok_gcd (hr.mono (by decide)) M_gcd K_gcd B_gcd (dag_ro (de_loc 0) (dag_ro (de_loc 1) dag_nil)))))
  (ds_one (ds_ret (de_tup (da_cons (de_bin op_fdvX ops_fdv (de_loc 0) (de_loc 2)) (da_cons (de_bin op_fdvX ops_fdv (de_loc 1) (de_loc 2)) da_nil)))))))
theorem sc_joined_form : FnScope ["form", "rule", "modulus", "a", "b", "scale"] ["form", "rule", "modulus"] (defScope s_joined_form) := ⟨rfl, rfl, rfl, by decide +kernel, rfl, by decide +kernel, by decide +kernel⟩
theorem ok_joined_form {f_joined_form : Addr} {d_joined_form : FuncData} (F : Fun K "joined_form" "joined_form" s_joined_form f_joined_form d_joined_form) (cK : C.cc.K = K)  : FnOk P w K mg base CX0 1 f_joined_form d_joined_form ["form", "rule", "modulus"] (LSp0 C sp_joined_form 3) :=
  fn_ok F sc_joined_form sat_joined_form (by decide) fun cdv A outer s H E Z hcc hz hr => have hK : Z.cc.K = K := by rw [hcc]; exact cK
  (ds_cons (ds_asg (de_loc 0) (dg_tup rfl (dgs_cons (dg_name (i := 3) sc_joined_form.nd) (dgs_cons (dg_name (i := 4) sc_joined_form.nd) (dgs_cons (dg_name (i := 5) sc_joined_form.nd) dgs_nil)))))
  (ds_one (ds_ret (de_tup (da_cons (de_bin op_mulX ops_mul (de_ix hK (de_loc 1) de_int) (de_loc 3)) (da_cons (de_bin op_addA (ops_add hK) (de_bin op_mulX ops_mul (de_ix hK (de_loc 1) de_int) (de_loc 4)) (de_bin op_mulX ops_mul (de_ix hK (de_loc 1) de_int) (de_loc 5))) (da_cons (de_bin op_mulX ops_mul (de_loc 2) (de_loc 5)) da_nil)))))))
theorem sc_Map_rules : FnScope ["self"] ["self"] (defScope s_Map_rules) := ⟨rfl, rfl, rfl, by decide +kernel, rfl, by decide +kernel, by decide +kernel⟩
theorem ok_Map_rules {f_Map_rules : Addr} {d_Map_rules : FuncData} (F : Fun K "rules" "Map.rules" s_Map_rules f_Map_rules d_Map_rules) (cK : C.cc.K = K) (n_list : mg "list" = none) (ck_Map : ClsOk K (C.cc.cl 0)) (fl_Map : (C.cc.cl 0).2 = (["base", "rows"] : List Str)) : FnOk P w K mg base CX0 1 f_Map_rules d_Map_rules ["self"] (LSp0 C sp_Map_rules 1) :=
  fn_ok F sc_Map_rules sat_Map_rules (by decide) fun cdv A outer s H E Z hcc hz hr => have hK : Z.cc.K = K := by rw [hcc]; exact cK
  (ds_one (ds_ret (de_t1 call_list_of (ops_list hK) n_list (de_fld (by rw [hcc]; exact ck_Map) (by rw [hcc, fl_Map]; rfl) (de_loc 0)))))
theorem sc_check_word : FnScope ["modulus", "word", "entry"] ["modulus", "word"] (defScope s_check_word) := ⟨rfl, rfl, rfl, by decide +kernel, rfl, by decide +kernel, by decide +kernel⟩
theorem ok_check_word {f_check_word : Addr} {d_check_word : FuncData} (F : Fun K "check_word" "check_word" s_check_word f_check_word d_check_word) (cK : C.cc.K = K)  : FnOk P w K mg base CX0 1 f_check_word d_check_word ["modulus", "word"] (LSp0 C sp_check_word 2) :=
  fn_ok F sc_check_word sat_check_word (by decide) fun cdv A outer s H E Z hcc hz hr => have hK : Z.cc.K = K := by rw [hcc]; exact cK
  (ds_one (ds_for PassesOwn.never rfl (di_lst hK (de_loc 1)) (dg_name (i := 2) sc_check_word.nd) (ds_one (ds_if (PW.pt (dw_or (dt_cmp op_lt ops_lt (de_loc 2) de_int (nomark _)) (dw_or1 (dt_cmp op_ge ops_ge (de_loc 2) (de_loc 0) (nomark _))))) (ds_one ds_never) ds_nil))))
theorem sc_Map_modulus : FnScope ["self"] ["self"] (defScope s_Map_modulus) := ⟨rfl, rfl, rfl, by decide +kernel, rfl, by decide +kernel, by decide +kernel⟩
theorem ok_Map_modulus {f_Map_modulus : Addr} {d_Map_modulus : FuncData} (F : Fun K "modulus" "Map.modulus" s_Map_modulus f_Map_modulus d_Map_modulus) (cK : C.cc.K = K) (ck_Map : ClsOk K (C.cc.cl 0)) (fl_Map : (C.cc.cl 0).2 = (["base", "rows"] : List Str)) : FnOk P w K mg base CX0 1 f_Map_modulus d_Map_modulus ["self"] (LSp0 C sp_Map_modulus 1) :=
  fn_ok F sc_Map_modulus sat_Map_modulus (by decide) fun cdv A outer s H E Z hcc hz hr => have hK : Z.cc.K = K := by rw [hcc]; exact cK
  (ds_one (ds_ret (de_fld (by rw [hcc]; exact ck_Map) (by rw [hcc, fl_Map]; rfl) (de_loc 0))))
theorem sc_form_of : FnScope ["rule_map", "word", "modulus", "rules", "form", "entry"] ["rule_map", "word"] (defScope s_form_of) := ⟨rfl, rfl, rfl, by decide +kernel, rfl, by decide +kernel, by decide +kernel⟩
theorem ok_form_of {f_form_of : Addr} {d_form_of : FuncData} (F : Fun K "form_of" "form_of" s_form_of f_form_of d_form_of) (cK : C.cc.K = K) (ck_Map : ClsOk K (C.cc.cl 0)) (fl_Map : (C.cc.cl 0).2 = (["base", "rows"] : List Str)) {f_joined_form : Addr} {d_joined_form : FuncData} (ok_joined_form : FnOk P w K mg base CX0 1 f_joined_form d_joined_form ["form", "rule", "modulus"] (LSp0 C sp_joined_form 3)) (B_joined_form : Binds K d_joined_form ["form", "rule", "modulus"] []) (M_joined_form : mg "joined_form" = some (.ref f_joined_form)) (K_joined_form : PySem.W.keepIn K (.ref f_joined_form) = true) {f_Map_rules : Addr} {d_Map_rules : FuncData} (ok_Map_rules : FnOk P w K mg base CX0 1 f_Map_rules d_Map_rules ["self"] (LSp0 C sp_Map_rules 1)) (B_Map_rules : Binds K d_Map_rules ["self"] []) {p_Map_rules : Addr} (pr_Map_rules : PropOf K (C.cc.cl 0).1 "rules" p_Map_rules f_Map_rules) {f_check_word : Addr} {d_check_word : FuncData} (ok_check_word : FnOk P w K mg base CX0 1 f_check_word d_check_word ["modulus", "word"] (LSp0 C sp_check_word 2)) (B_check_word : Binds K d_check_word ["modulus", "word"] []) (M_check_word : mg "check_word" = some (.ref f_check_word)) (K_check_word : PySem.W.keepIn K (.ref f_check_word) = true) {f_Map_modulus : Addr} {d_Map_modulus : FuncData} (ok_Map_modulus : FnOk P w K mg base CX0 1 f_Map_modulus d_Map_modulus ["self"] (LSp0 C sp_Map_modulus 1)) (B_Map_modulus : Binds K d_Map_modulus ["self"] []) {p_Map_modulus : Addr} (pr_Map_modulus : PropOf K (C.cc.cl 0).1 "modulus" p_Map_modulus f_Map_modulus) : FnOk P w K mg base CX0 3 f_form_of d_form_of ["rule_map", "word"] (LSp0 C sp_form_of 2) :=
  fn_ok F sc_form_of sat_form_of (by decide) fun cdv A outer s H E Z hcc hz hr => have hK : Z.cc.K = K := by rw [hcc]; exact cK
  (ds_cons (ds_frz (i := 2) (ds_set (i := 2) sc_form_of.nd (de_prop hcc hz (by rw [hcc]; exact ck_Map) (by rw [hcc]; exact pr_Map_modulus) ok_Map_modulus (hr.mono (by decide)) B_Map_modulus (de_loc 0))))
  (ds_cons (ds_expr (de_callN hcc hz ok_check_word (hr.mono (by decide)) M_check_word K_check_word B_check_word (dag_ro (de_loc 2) (dag_ro (de_loc 1) dag_nil))))
  (ds_cons (ds_frz (i := 3) (ds_set (i := 3) sc_form_of.nd (de_prop hcc hz (by rw [hcc]; exact ck_Map) (by rw [hcc]; exact pr_Map_rules) ok_Map_rules (hr.mono (by decide)) B_Map_rules (de_loc 0))))
  (ds_cons (ds_set (i := 4) sc_form_of.nd (de_tup (da_cons de_int (da_cons de_int (da_cons de_int da_nil)))))
  (ds_cons (ds_for PassesOwn.never rfl (di_lst hK (de_loc 1)) (dg_name (i := 5) sc_form_of.nd) (ds_one (ds_frz (i := 4) (ds_set (i := 4) sc_form_of.nd (de_callN hcc hz ok_joined_form (hr.mono (by decide)) M_joined_form K_joined_form B_joined_form (dag_ro (de_loc 4) (dag_ro (de_ix hK (de_loc 3) (de_loc 5)) (dag_ro (de_loc 2) dag_nil))))))))
  (ds_one (ds_ret (de_loc 4))))))))
theorem sc_is_fraction : FnScope ["value"] ["value"] (defScope s_is_fraction) := ⟨rfl, rfl, rfl, by decide +kernel, rfl, by decide +kernel, by decide +kernel⟩
theorem ok_is_fraction {f_is_fraction : Addr} {d_is_fraction : FuncData} (F : Fun K "is_fraction" "is_fraction" s_is_fraction f_is_fraction d_is_fraction) (cK : C.cc.K = K) {f_gcd : Addr} {d_gcd : FuncData} (ok_gcd : FnOk P w K mg base CX0 1 f_gcd d_gcd ["one", "other"] (LSp0 C sp_gcd 2)) (B_gcd : Binds K d_gcd ["one", "other"] []) (M_gcd : mg "gcd" = some (.ref f_gcd)) (K_gcd : PySem.W.keepIn K (.ref f_gcd) = true) : FnOk P w K mg base CX0 2 f_is_fraction d_is_fraction ["value"] (LSp0 C sp_is_fraction 1) :=
  fn_ok F sc_is_fraction sat_is_fraction (by decide) fun cdv A outer s H E Z hcc hz hr => have hK : Z.cc.K = K := by rw [hcc]; exact cK
  (ds_one (ds_ret (de_and (de_cmp op_ge ops_ge (de_ix hK (de_loc 0) de_int) de_int (nomark _)) (de_one (de_cmp (op_eqD hr.units) (ops_eq hK) (de_callN hcc hz ok_gcd (hr.mono (by decide)) M_gcd K_gcd B_gcd (dag_ro (de_ix hK (de_loc 0) de_int) (dag_ro (de_ix hK (de_loc 0) de_int) dag_nil))) de_int (nomark _))))))
theorem sc_is_good : FnScope ["modulus", "value"] ["modulus", "value"] (defScope s_is_good) := ⟨rfl, rfl, rfl, by decide +kernel, rfl, by decide +kernel, by decide +kernel⟩
theorem ok_is_good {f_is_good : Addr} {d_is_good : FuncData} (F : Fun K "is_good" "is_good" s_is_good f_is_good d_is_good) (cK : C.cc.K = K) {f_is_fraction : Addr} {d_is_fraction : FuncData} (ok_is_fraction : FnOk P w K mg base CX0 2 f_is_fraction d_is_fraction ["value"] (LSp0 C sp_is_fraction 1)) (B_is_fraction : Binds K d_is_fraction ["value"] []) (M_is_fraction : mg "is_fraction" = some (.ref f_is_fraction)) (K_is_fraction : PySem.W.keepIn K (.ref f_is_fraction) = true) {f_gcd : Addr} {d_gcd : FuncData} (ok_gcd : FnOk P w K mg base CX0 1 f_gcd d_gcd ["one", "other"] (LSp0 C sp_gcd 2)) (B_gcd : Binds K d_gcd ["one", "other"] []) (M_gcd : mg "gcd" = some (.ref f_gcd)) (K_gcd : PySem.W.keepIn K (.ref f_gcd) = true) : FnOk P w K mg base CX0 3 f_is_good d_is_good ["modulus", "value"] (LSp0 C sp_is_good 2) :=
  fn_ok F sc_is_good sat_is_good (by decide) fun cdv A outer s H E Z hcc hz hr => have hK : Z.cc.K = K := by rw [hcc]; exact cK
  (ds_one (ds_ret (de_and (de_callN hcc hz ok_is_fraction (hr.mono (by decide)) M_is_fraction K_is_fraction B_is_fraction (dag_ro (de_loc 1) dag_nil)) (de_one (de_cmp (op_eqD hr.units) (ops_eq hK) (de_callN hcc hz ok_gcd (hr.mono (by decide)) M_gcd K_gcd B_gcd (dag_ro (de_ix hK (de_loc 1) de_int) (dag_ro (de_loc 0) dag_nil))) de_int (nomark _))))))
theorem sc_back_by : FnScope ["rule_map", "number", "word", "a", "b", "whole", "top", "bottom"] ["rule_map", "number", "word"] (defScope s_back_by) := ⟨rfl, rfl, rfl, by decide +kernel, rfl, by decide +kernel, by decide +kernel⟩
theorem ok_back_by {f_back_by : Addr} {d_back_by : FuncData} (F : Fun K "back_by" "back_by" s_back_by f_back_by d_back_by) (cK : C.cc.K = K) (ck_Map : ClsOk K (C.cc.cl 0)) (fl_Map : (C.cc.cl 0).2 = (["base", "rows"] : List Str)) {f_lowest : Addr} {d_lowest : FuncData} (ok_lowest : FnOk P w K mg base CX0 2 f_lowest d_lowest ["top", "bottom"] (LSp0 C sp_lowest 2)) (B_lowest : Binds K d_lowest ["top", "bottom"] []) (M_lowest : mg "lowest" = some (.ref f_lowest)) (K_lowest : PySem.W.keepIn K (.ref f_lowest) = true) {f_form_of : Addr} {d_form_of : FuncData} (ok_form_of : FnOk P w K mg base CX0 3 f_form_of d_form_of ["rule_map", "word"] (LSp0 C sp_form_of 2)) (B_form_of : Binds K d_form_of ["rule_map", "word"] []) (M_form_of : mg "form_of" = some (.ref f_form_of)) (K_form_of : PySem.W.keepIn K (.ref f_form_of) = true) {f_is_good : Addr} {d_is_good : FuncData} (ok_is_good : FnOk P w K mg base CX0 3 f_is_good d_is_good ["modulus", "value"] (LSp0 C sp_is_good 2)) (B_is_good : Binds K d_is_good ["modulus", "value"] []) (M_is_good : mg "is_good" = some (.ref f_is_good)) (K_is_good : PySem.W.keepIn K (.ref f_is_good) = true) {f_Map_modulus : Addr} {d_Map_modulus : FuncData} (ok_Map_modulus : FnOk P w K mg base CX0 1 f_Map_modulus d_Map_modulus ["self"] (LSp0 C sp_Map_modulus 1)) (B_Map_modulus : Binds K d_Map_modulus ["self"] []) {p_Map_modulus : Addr} (pr_Map_modulus : PropOf K (C.cc.cl 0).1 "modulus" p_Map_modulus f_Map_modulus) : FnOk P w K mg base CX0 4 f_back_by d_back_by ["rule_map", "number", "word"] (LSp0 C sp_back_by 3) :=
  fn_ok F sc_back_by sat_back_by (by decide) fun cdv A outer s H E Z hcc hz hr => have hK : Z.cc.K = K := by rw [hcc]; exact cK
  (ds_cons (ds_if (dt_not (dt_val (de_callN hcc hz ok_is_good (hr.mono (by decide)) M_is_good K_is_good B_is_good (dag_ro (de_prop hcc hz (by rw [hcc]; exact ck_Map) (by rw [hcc]; exact pr_Map_modulus) ok_Map_modulus (hr.mono (by decide)) B_Map_modulus (de_loc 0)) (dag_ro (de_loc 1) dag_nil))))) (ds_one ds_never) ds_nil)
  (ds_cons (ds_asg (de_callN hcc hz ok_form_of (hr.mono (by decide)) M_form_of K_form_of B_form_of (dag_ro (de_loc 0) (dag_ro (de_loc 2) dag_nil))) (dg_tup rfl (dgs_cons (dg_name (i := 3) sc_back_by.nd) (dgs_cons (dg_name (i := 4) sc_back_by.nd) (dgs_cons (dg_name (i := 5) sc_back_by.nd) dgs_nil)))))
  (ds_cons (ds_asg (de_loc 1) (dg_tup rfl (dgs_cons (dg_name (i := 6) sc_back_by.nd) (dgs_cons (dg_name (i := 7) sc_back_by.nd) dgs_nil))))
  (ds_one (ds_ret (de_callN hcc hz ok_lowest (hr.mono (by decide)) M_lowest K_lowest B_lowest (dag_ro (de_bin op_sub ops_sub (de_bin op_mulX ops_mul (de_loc 5) (de_loc 6)) (de_bin op_mulX ops_mul (de_loc 4) (de_loc 7))) (dag_ro (de_bin op_mulX ops_mul (de_loc 3) (de_loc 7)) dag_nil))))))))
theorem sc_Walker_here : FnScope ["self"] ["self"] (defScope s_Walker_here) := ⟨rfl, rfl, rfl, by decide +kernel, rfl, by decide +kernel, by decide +kernel⟩
theorem ok_Walker_here {f_Walker_here : Addr} {d_Walker_here : FuncData} (F : Fun K "here" "Walker.here" s_Walker_here f_Walker_here d_Walker_here) (cK : C.cc.K = K) (ck_Walker : ClsOk K (C.cc.cl 1)) (fl_Walker : (C.cc.cl 1).2 = (["held_map", "places", "taken", "marks"] : List Str)) (ck_WholeWalker : ClsOk K (C.cc.cl 2)) (fl_WholeWalker : (C.cc.cl 2).2 = (["held_map", "places", "taken", "marks"] : List Str)) : FnOk P w K mg base CX0 1 f_Walker_here d_Walker_here ["self"] (LSp0 C sp_Walker_here 1) :=
  fn_ok F sc_Walker_here sat_Walker_here (by decide) fun cdv A outer s H E Z hcc hz hr => have hK : Z.cc.K = K := by rw [hcc]; exact cK
  (ds_one (ds_ret (de_ix hK (de_fldC (fldc hcc ck_Walker (by rw [fl_Walker]; rfl) ck_WholeWalker (by rw [fl_WholeWalker]; rfl)) (de_loc 0)) (de_neg de_int))))
theorem sc_Walker_fraction_behind : FnScope ["self", "remainder"] ["self", "remainder"] (defScope s_Walker_fraction_behind) := ⟨rfl, rfl, rfl, by decide +kernel, rfl, by decide +kernel, by decide +kernel⟩
theorem ok_Walker_fraction_behind {f_Walker_fraction_behind : Addr} {d_Walker_fraction_behind : FuncData} (F : Fun K "fraction_behind" "Walker.fraction_behind" s_Walker_fraction_behind f_Walker_fraction_behind d_Walker_fraction_behind) (cK : C.cc.K = K) (ck_Map : ClsOk K (C.cc.cl 0)) (fl_Map : (C.cc.cl 0).2 = (["base", "rows"] : List Str)) (ck_Walker : ClsOk K (C.cc.cl 1)) (fl_Walker : (C.cc.cl 1).2 = (["held_map", "places", "taken", "marks"] : List Str)) (ck_WholeWalker : ClsOk K (C.cc.cl 2)) (fl_WholeWalker : (C.cc.cl 2).2 = (["held_map", "places", "taken", "marks"] : List Str)) {f_back_by : Addr} {d_back_by : FuncData} (ok_back_by : FnOk P w K mg base CX0 4 f_back_by d_back_by ["rule_map", "number", "word"] (LSp0 C sp_back_by 3)) (B_back_by : Binds K d_back_by ["rule_map", "number", "word"] []) (M_back_by : mg "back_by" = some (.ref f_back_by)) (K_back_by : PySem.W.keepIn K (.ref f_back_by) = true) {f_Walker_here : Addr} {d_Walker_here : FuncData} (ok_Walker_here : FnOk P w K mg base CX0 1 f_Walker_here d_Walker_here ["self"] (LSp0 C sp_Walker_here 1)) (B_Walker_here : Binds K d_Walker_here ["self"] []) {p_Walker_here : Addr} (wpr1_Walker_here : PropOf K (C.cc.cl 1).1 "here" p_Walker_here f_Walker_here) (wpr2_Walker_here : PropOf K (C.cc.cl 2).1 "here" p_Walker_here f_Walker_here) {f_Map_modulus : Addr} {d_Map_modulus : FuncData} (ok_Map_modulus : FnOk P w K mg base CX0 1 f_Map_modulus d_Map_modulus ["self"] (LSp0 C sp_Map_modulus 1)) (B_Map_modulus : Binds K d_Map_modulus ["self"] []) {p_Map_modulus : Addr} (pr_Map_modulus : PropOf K (C.cc.cl 0).1 "modulus" p_Map_modulus f_Map_modulus) : FnOk P w K mg base CX0 5 f_Walker_fraction_behind d_Walker_fraction_behind ["self", "remainder"] (LSp0 C sp_Walker_fraction_behind 2) :=
  fn_ok F sc_Walker_fraction_behind sat_Walker_fraction_behind (by decide) fun cdv A outer s H E Z hcc hz hr => have hK : Z.cc.K = K := by rw [hcc]; exact cK
  (ds_cons (ds_if (PW.pt (dw_or (dt_cmp op_lt ops_lt (de_loc 1) de_int (nomark _)) (dw_or1 (dt_cmp op_ge ops_ge (de_loc 1) (de_prop hcc hz (by rw [hcc]; exact ck_Map) (by rw [hcc]; exact pr_Map_modulus) ok_Map_modulus (hr.mono (by decide)) B_Map_modulus (de_fldC (fldc hcc ck_Walker (by rw [fl_Walker]; rfl) ck_WholeWalker (by rw [fl_WholeWalker]; rfl)) (de_loc 0))) (nomark _))))) (ds_one ds_never) ds_nil)
  (ds_one (ds_ret (de_callN hcc hz ok_back_by (hr.mono (by decide)) M_back_by K_back_by B_back_by (dag_ro (de_fldC (fldc hcc ck_Walker (by rw [fl_Walker]; rfl) ck_WholeWalker (by rw [fl_WholeWalker]; rfl)) (de_loc 0)) (dag_ro (de_propW hcc hz kLent_ok ⟨pokW hcc ck_Walker wpr1_Walker_here ok_Walker_here (hr.mono (by decide)) B_Walker_here, pokW hcc ck_WholeWalker wpr2_Walker_here ok_Walker_here (hr.mono (by decide)) B_Walker_here, trivial⟩ (de_loc 0)) (dag_ro (de_lst (da_cons (de_loc 1) da_nil)) dag_nil)))))))
theorem sc_Walker_back : FnScope ["self", "remainder", "fraction"] ["self", "remainder"] (defScope s_Walker_back) := ⟨rfl, rfl, rfl, by decide +kernel, rfl, by decide +kernel, by decide +kernel⟩
theorem ok_Walker_back {f_Walker_back : Addr} {d_Walker_back : FuncData} (F : Fun K "back" "Walker.back" s_Walker_back f_Walker_back d_Walker_back) (cK : C.cc.K = K) (n_len : mg "len" = none) (ck_Walker : ClsOk K (C.cc.cl 1)) (fl_Walker : (C.cc.cl 1).2 = (["held_map", "places", "taken", "marks"] : List Str)) (ck_WholeWalker : ClsOk K (C.cc.cl 2)) (fl_WholeWalker : (C.cc.cl 2).2 = (["held_map", "places", "taken", "marks"] : List Str)) {f_Walker_fraction_behind : Addr} {d_Walker_fraction_behind : FuncData} (ok_Walker_fraction_behind : FnOk P w K mg base CX0 5 f_Walker_fraction_behind d_Walker_fraction_behind ["self", "remainder"] (LSp0 C sp_Walker_fraction_behind 2)) (B_Walker_fraction_behind : Binds K d_Walker_fraction_behind ["self", "remainder"] []) (wme1_Walker_fraction_behind : Meth K (C.cc.cl 1).1 "fraction_behind" f_Walker_fraction_behind) (wme2_Walker_fraction_behind : Meth K (C.cc.cl 2).1 "fraction_behind" f_Walker_fraction_behind) : FnOk P w K mg base CX0 7 f_Walker_back d_Walker_back ["self", "remainder"] (LSp0 C sp_Walker_back 2) :=
  fn_okG F sc_Walker_back sat_Walker_back (by decide) fun cdv A outer s H E Z hcc hz hr => have hK : Z.cc.K = K := by rw [hcc]; exact cK
  (ds_cons (ds_frz (i := 2) (ds_set (i := 2) sc_Walker_back.nd (de_methW hcc hz kLent_ok ⟨mokW hcc ck_Walker wme1_Walker_fraction_behind (by rw [fl_Walker]; decide +kernel) ok_Walker_fraction_behind (hr.mono (by decide)) B_Walker_fraction_behind, mokW hcc ck_WholeWalker wme2_Walker_fraction_behind (by rw [fl_WholeWalker]; decide +kernel) ok_Walker_fraction_behind (hr.mono (by decide)) B_Walker_fraction_behind, trivial⟩ (de_loc 0) (dag_ro (de_loc 1) dag_nil))))
  (ds_cons (ds_appE (de_dr (de_fldC (fldc hcc ck_Walker (by rw [fl_Walker]; rfl) ck_WholeWalker (by rw [fl_WholeWalker]; rfl)) (de_loc 0))) (de_tup (da_cons (de_b1 call_lenA (ops_len hK) n_len (de_fldC (fldc hcc ck_Walker (by rw [fl_Walker]; rfl) ck_WholeWalker (by rw [fl_WholeWalker]; rfl)) (de_loc 0))) (da_cons (de_b1 call_lenA (ops_len hK) n_len (de_fldC (fldc hcc ck_Walker (by rw [fl_Walker]; rfl) ck_WholeWalker (by rw [fl_WholeWalker]; rfl)) (de_loc 0))) da_nil))))
  (ds_cons (ds_fldC (i := 0) (fldc hcc ck_Walker (by rw [fl_Walker]; rfl) ck_WholeWalker (by rw [fl_WholeWalker]; rfl)) (de_bin op_addA (ops_add hK) (de_fldC (fldc hcc ck_Walker (by rw [fl_Walker]; rfl) ck_WholeWalker (by rw [fl_WholeWalker]; rfl)) (de_loc 0)) (de_lst (da_cons (de_loc 2) da_nil))))
  (ds_one (ds_ret (de_loc 2))))))
theorem sc_WholeWalker_back : FnScope ["self", "remainder", "fraction"] ["self", "remainder"] (defScope s_WholeWalker_back) := ⟨rfl, rfl, rfl, by decide +kernel, rfl, by decide +kernel, by decide +kernel⟩
theorem ok_WholeWalker_back {f_WholeWalker_back : Addr} {d_WholeWalker_back : FuncData} (F : Fun K "back" "WholeWalker.back" s_WholeWalker_back f_WholeWalker_back d_WholeWalker_back) (cK : C.cc.K = K) (ck_Walker : ClsOk K (C.cc.cl 1)) (fl_Walker : (C.cc.cl 1).2 = (["held_map", "places", "taken", "marks"] : List Str)) (ck_WholeWalker : ClsOk K (C.cc.cl 2)) (fl_WholeWalker : (C.cc.cl 2).2 = (["held_map", "places", "taken", "marks"] : List Str)) {f_Walker_back : Addr} {d_Walker_back : FuncData} (ok_Walker_back : FnOk P w K mg base CX0 7 f_Walker_back d_Walker_back ["self", "remainder"] (LSp0 C sp_Walker_back 2)) (B_Walker_back : Binds K d_Walker_back ["self", "remainder"] []) {c_Walker : Addr} (rd_Walker : ClX.CRead K c_Walker (.type "type")) (wfc_Walker_back : PySem.W.findCls K (.ref c_Walker) (.type "type") "back" = some (.val (.ref f_Walker_back))) (K_Walker_back : PySem.W.keepIn K (.ref f_Walker_back) = true) (wmg_Walker : mg "Walker" = some (.ref c_Walker)) {f_Walker_fraction_behind : Addr} {d_Walker_fraction_behind : FuncData} (ok_Walker_fraction_behind : FnOk P w K mg base CX0 5 f_Walker_fraction_behind d_Walker_fraction_behind ["self", "remainder"] (LSp0 C sp_Walker_fraction_behind 2)) (B_Walker_fraction_behind : Binds K d_Walker_fraction_behind ["self", "remainder"] []) (wme1_Walker_fraction_behind : Meth K (C.cc.cl 1).1 "fraction_behind" f_Walker_fraction_behind) (wme2_Walker_fraction_behind : Meth K (C.cc.cl 2).1 "fraction_behind" f_Walker_fraction_behind) : FnOk P w K mg base CX0 8 f_WholeWalker_back d_WholeWalker_back ["self", "remainder"] (LSp0 C sp_WholeWalker_back 2) :=
  fn_okG F sc_WholeWalker_back sat_WholeWalker_back (by decide) fun cdv A outer s H E Z hcc hz hr => have hK : Z.cc.K = K := by rw [hcc]; exact cK
  (ds_cons (ds_frz (i := 2) (ds_set (i := 2) sc_WholeWalker_back.nd (de_methW hcc hz kLent_ok ⟨mokW hcc ck_Walker wme1_Walker_fraction_behind (by rw [fl_Walker]; decide +kernel) ok_Walker_fraction_behind (hr.mono (by decide)) B_Walker_fraction_behind, mokW hcc ck_WholeWalker wme2_Walker_fraction_behind (by rw [fl_WholeWalker]; decide +kernel) ok_Walker_fraction_behind (hr.mono (by decide)) B_Walker_fraction_behind, trivial⟩ (de_loc 0) (dag_ro (de_loc 1) dag_nil))))
  (ds_cons (ds_if (dt_cmp (op_neD hr.units) (ops_ne hK) (de_ix hK (de_loc 2) de_int) de_int (nomark _)) (ds_one ds_never) ds_nil)
  (ds_one (ds_ret (de_baseG hcc hz rd_Walker wfc_Walker_back K_Walker_back ok_Walker_back (hr.mono (by decide)) wmg_Walker B_Walker_back (dag_mu (i := 0) (dag_ro (de_loc 1) dag_nil)))))))
theorem sc_inverse : FnScope ["number", "modulus", "one", "other", "here", "there", "times"] ["number", "modulus"] (defScope s_inverse) := ⟨rfl, rfl, rfl, by decide +kernel, rfl, by decide +kernel, by decide +kernel⟩
theorem ok_inverse {f_inverse : Addr} {d_inverse : FuncData} (F : Fun K "inverse" "inverse" s_inverse f_inverse d_inverse) (cK : C.cc.K = K)  : FnOk P w K mg base CX0 1 f_inverse d_inverse ["number", "modulus"] (LSp0 C sp_inverse 2) :=
  fn_ok F sc_inverse sat_inverse (by decide) fun cdv A outer s H E Z hcc hz hr => have hK : Z.cc.K = K := by rw [hcc]; exact cK
  (ds_cons (ds_par (i := 2) (j := 3) rfl sc_inverse.nd (da_cons (de_bin op_mod ops_mod (de_loc 0) (de_loc 1)) (da_cons (de_loc 1) da_nil)))
  (ds_cons (ds_asg (de_tup (da_cons de_int (da_cons de_int da_nil))) (dg_tup rfl (dgs_cons (dg_name (i := 4) sc_inverse.nd) (dgs_cons (dg_name (i := 5) sc_inverse.nd) dgs_nil))))
  (ds_cons (ds_while PassesOwn.never (dt_cmp op_gt ops_gt (de_loc 3) de_int (nomark _)) (ds_cons (ds_frz (i := 6) (ds_set (i := 6) sc_inverse.nd (de_bin op_fdvX ops_fdv (de_loc 2) (de_loc 3))))
  (ds_cons (ds_par (i := 2) (j := 3) rfl sc_inverse.nd (da_cons (de_loc 3) (da_cons (de_bin op_sub ops_sub (de_loc 2) (de_bin op_mulX ops_mul (de_loc 6) (de_loc 3))) da_nil)))
  (ds_one (ds_par (i := 4) (j := 5) rfl sc_inverse.nd (da_cons (de_loc 5) (da_cons (de_bin op_sub ops_sub (de_loc 4) (de_bin op_mulX ops_mul (de_loc 6) (de_loc 5))) da_nil)))))))
  (ds_one (ds_ret (de_bin op_mod ops_mod (de_loc 4) (de_loc 1)))))))
theorem sc_remainder_by : FnScope ["modulus", "number"] ["modulus", "number"] (defScope s_remainder_by) := ⟨rfl, rfl, rfl, by decide +kernel, rfl, by decide +kernel, by decide +kernel⟩
theorem ok_remainder_by {f_remainder_by : Addr} {d_remainder_by : FuncData} (F : Fun K "remainder_by" "remainder_by" s_remainder_by f_remainder_by d_remainder_by) (cK : C.cc.K = K) {f_inverse : Addr} {d_inverse : FuncData} (ok_inverse : FnOk P w K mg base CX0 1 f_inverse d_inverse ["number", "modulus"] (LSp0 C sp_inverse 2)) (B_inverse : Binds K d_inverse ["number", "modulus"] []) (M_inverse : mg "inverse" = some (.ref f_inverse)) (K_inverse : PySem.W.keepIn K (.ref f_inverse) = true) : FnOk P w K mg base CX0 2 f_remainder_by d_remainder_by ["modulus", "number"] (LSp0 C sp_remainder_by 2) :=
  fn_ok F sc_remainder_by sat_remainder_by (by decide) fun cdv A outer s H E Z hcc hz hr => have hK : Z.cc.K = K := by rw [hcc]; exact cK
  (ds_cons (ds_if (dt_cmp (op_eqD hr.units) (ops_eq hK) (de_ix hK (de_loc 1) de_int) de_int (nomark _)) (ds_one (ds_ret (de_bin op_mod ops_mod (de_ix hK (de_loc 1) de_int) (de_loc 0)))) ds_nil)
  (ds_one (ds_ret (de_bin op_mod ops_mod (de_bin op_mulX ops_mul (de_ix hK (de_loc 1) de_int) (de_callN hcc hz ok_inverse (hr.mono (by decide)) M_inverse K_inverse B_inverse (dag_ro (de_ix hK (de_loc 1) de_int) (dag_ro (de_loc 0) dag_nil)))) (de_loc 0)))))
theorem sc_stepped : FnScope ["modulus", "rules", "number", "top", "bottom", "a", "b"] ["modulus", "rules", "number"] (defScope s_stepped) := ⟨rfl, rfl, rfl, by decide +kernel, rfl, by decide +kernel, by decide +kernel⟩
theorem ok_stepped {f_stepped : Addr} {d_stepped : FuncData} (F : Fun K "stepped" "stepped" s_stepped f_stepped d_stepped) (cK : C.cc.K = K) {f_lowest : Addr} {d_lowest : FuncData} (ok_lowest : FnOk P w K mg base CX0 2 f_lowest d_lowest ["top", "bottom"] (LSp0 C sp_lowest 2)) (B_lowest : Binds K d_lowest ["top", "bottom"] []) (M_lowest : mg "lowest" = some (.ref f_lowest)) (K_lowest : PySem.W.keepIn K (.ref f_lowest) = true) {f_remainder_by : Addr} {d_remainder_by : FuncData} (ok_remainder_by : FnOk P w K mg base CX0 2 f_remainder_by d_remainder_by ["modulus", "number"] (LSp0 C sp_remainder_by 2)) (B_remainder_by : Binds K d_remainder_by ["modulus", "number"] []) (M_remainder_by : mg "remainder_by" = some (.ref f_remainder_by)) (K_remainder_by : PySem.W.keepIn K (.ref f_remainder_by) = true) : FnOk P w K mg base CX0 3 f_stepped d_stepped ["modulus", "rules", "number"] (LSp0 C sp_stepped 3) :=
  fn_ok F sc_stepped sat_stepped (by decide) fun cdv A outer s H E Z hcc hz hr => have hK : Z.cc.K = K := by rw [hcc]; exact cK
  (ds_cons (ds_asg (de_loc 2) (dg_tup rfl (dgs_cons (dg_name (i := 3) sc_stepped.nd) (dgs_cons (dg_name (i := 4) sc_stepped.nd) dgs_nil))))
  (ds_cons (ds_asg (de_ix hK (de_loc 1) (de_callN hcc hz ok_remainder_by (hr.mono (by decide)) M_remainder_by K_remainder_by B_remainder_by (dag_ro (de_loc 0) (dag_ro (de_loc 2) dag_nil)))) (dg_tup rfl (dgs_cons (dg_name (i := 5) sc_stepped.nd) (dgs_cons (dg_name (i := 6) sc_stepped.nd) dgs_nil))))
  (ds_one (ds_ret (de_callN hcc hz ok_lowest (hr.mono (by decide)) M_lowest K_lowest B_lowest (dag_ro (de_bin op_fdvX ops_fdv (de_bin op_addA (ops_add hK) (de_bin op_mulX ops_mul (de_loc 5) (de_loc 3)) (de_bin op_mulX ops_mul (de_loc 6) (de_loc 4))) (de_loc 0)) (dag_ro (de_loc 4) dag_nil)))))))
theorem sc_check_number : FnScope ["number", "least"] ["number", "least"] (defScope s_check_number) := ⟨rfl, rfl, rfl, by decide +kernel, rfl, by decide +kernel, by decide +kernel⟩
theorem ok_check_number {f_check_number : Addr} {d_check_number : FuncData} (F : Fun K "check_number" "check_number" s_check_number f_check_number d_check_number) (cK : C.cc.K = K)  : FnOk P w K mg base CX0 1 f_check_number d_check_number ["number", "least"] (LSp0 C sp_check_number 2) :=
  fn_ok F sc_check_number sat_check_number (by decide) fun cdv A outer s H E Z hcc hz hr => have hK : Z.cc.K = K := by rw [hcc]; exact cK
  (ds_one (ds_if (dt_cmp op_lt ops_lt (de_loc 0) (de_loc 1) (nomark _)) (ds_one ds_never) ds_nil))
theorem sc_check_fraction : FnScope ["rule_map", "number"] ["rule_map", "number"] (defScope s_check_fraction) := ⟨rfl, rfl, rfl, by decide +kernel, rfl, by decide +kernel, by decide +kernel⟩
theorem ok_check_fraction {f_check_fraction : Addr} {d_check_fraction : FuncData} (F : Fun K "check_fraction" "check_fraction" s_check_fraction f_check_fraction d_check_fraction) (cK : C.cc.K = K) (ck_Map : ClsOk K (C.cc.cl 0)) (fl_Map : (C.cc.cl 0).2 = (["base", "rows"] : List Str)) {f_is_good : Addr} {d_is_good : FuncData} (ok_is_good : FnOk P w K mg base CX0 3 f_is_good d_is_good ["modulus", "value"] (LSp0 C sp_is_good 2)) (B_is_good : Binds K d_is_good ["modulus", "value"] []) (M_is_good : mg "is_good" = some (.ref f_is_good)) (K_is_good : PySem.W.keepIn K (.ref f_is_good) = true) {f_Map_modulus : Addr} {d_Map_modulus : FuncData} (ok_Map_modulus : FnOk P w K mg base CX0 1 f_Map_modulus d_Map_modulus ["self"] (LSp0 C sp_Map_modulus 1)) (B_Map_modulus : Binds K d_Map_modulus ["self"] []) {p_Map_modulus : Addr} (pr_Map_modulus : PropOf K (C.cc.cl 0).1 "modulus" p_Map_modulus f_Map_modulus) : FnOk P w K mg base CX0 4 f_check_fraction d_check_fraction ["rule_map", "number"] (LSp0 C sp_check_fraction 2) :=
  fn_ok F sc_check_fraction sat_check_fraction (by decide) fun cdv A outer s H E Z hcc hz hr => have hK : Z.cc.K = K := by rw [hcc]; exact cK
  (ds_one (ds_if (dt_not (dt_val (de_callN hcc hz ok_is_good (hr.mono (by decide)) M_is_good K_is_good B_is_good (dag_ro (de_prop hcc hz (by rw [hcc]; exact ck_Map) (by rw [hcc]; exact pr_Map_modulus) ok_Map_modulus (hr.mono (by decide)) B_Map_modulus (de_loc 0)) (dag_ro (de_loc 1) dag_nil))))) (ds_one ds_never) ds_nil))
theorem sc_walk : FnScope ["rule_map", "number", "steps", "modulus", "rules", "found", "turn"] ["rule_map", "number", "steps"] (defScope s_walk) := ⟨rfl, rfl, rfl, by decide +kernel, rfl, by decide +kernel, by decide +kernel⟩
theorem ok_walk {f_walk : Addr} {d_walk : FuncData} (F : Fun K "walk" "walk" s_walk f_walk d_walk) (cK : C.cc.K = K) (n_range : mg "range" = none) (ck_Map : ClsOk K (C.cc.cl 0)) (fl_Map : (C.cc.cl 0).2 = (["base", "rows"] : List Str)) {f_stepped : Addr} {d_stepped : FuncData} (ok_stepped : FnOk P w K mg base CX0 3 f_stepped d_stepped ["modulus", "rules", "number"] (LSp0 C sp_stepped 3)) (B_stepped : Binds K d_stepped ["modulus", "rules", "number"] []) (M_stepped : mg "stepped" = some (.ref f_stepped)) (K_stepped : PySem.W.keepIn K (.ref f_stepped) = true) {f_Map_rules : Addr} {d_Map_rules : FuncData} (ok_Map_rules : FnOk P w K mg base CX0 1 f_Map_rules d_Map_rules ["self"] (LSp0 C sp_Map_rules 1)) (B_Map_rules : Binds K d_Map_rules ["self"] []) {p_Map_rules : Addr} (pr_Map_rules : PropOf K (C.cc.cl 0).1 "rules" p_Map_rules f_Map_rules) {f_Map_modulus : Addr} {d_Map_modulus : FuncData} (ok_Map_modulus : FnOk P w K mg base CX0 1 f_Map_modulus d_Map_modulus ["self"] (LSp0 C sp_Map_modulus 1)) (B_Map_modulus : Binds K d_Map_modulus ["self"] []) {p_Map_modulus : Addr} (pr_Map_modulus : PropOf K (C.cc.cl 0).1 "modulus" p_Map_modulus f_Map_modulus) {f_check_number : Addr} {d_check_number : FuncData} (ok_check_number : FnOk P w K mg base CX0 1 f_check_number d_check_number ["number", "least"] (LSp0 C sp_check_number 2)) (B_check_number : Binds K d_check_number ["number", "least"] []) (M_check_number : mg "check_number" = some (.ref f_check_number)) (K_check_number : PySem.W.keepIn K (.ref f_check_number) = true) {f_check_fraction : Addr} {d_check_fraction : FuncData} (ok_check_fraction : FnOk P w K mg base CX0 4 f_check_fraction d_check_fraction ["rule_map", "number"] (LSp0 C sp_check_fraction 2)) (B_check_fraction : Binds K d_check_fraction ["rule_map", "number"] []) (M_check_fraction : mg "check_fraction" = some (.ref f_check_fraction)) (K_check_fraction : PySem.W.keepIn K (.ref f_check_fraction) = true) : FnOk P w K mg base CX0 5 f_walk d_walk ["rule_map", "number", "steps"] (LSp0 C sp_walk 3) :=
  fn_ok F sc_walk sat_walk (by decide) fun cdv A outer s H E Z hcc hz hr => have hK : Z.cc.K = K := by rw [hcc]; exact cK
  (ds_cons (ds_expr (de_callN hcc hz ok_check_fraction (hr.mono (by decide)) M_check_fraction K_check_fraction B_check_fraction (dag_ro (de_loc 0) (dag_ro (de_loc 1) dag_nil))))
  (ds_cons (ds_expr (de_callN hcc hz ok_check_number (hr.mono (by decide)) M_check_number K_check_number B_check_number (dag_ro (de_loc 2) (dag_ro de_int dag_nil))))
  (ds_cons (ds_frz (i := 3) (ds_set (i := 3) sc_walk.nd (de_prop hcc hz (by rw [hcc]; exact ck_Map) (by rw [hcc]; exact pr_Map_modulus) ok_Map_modulus (hr.mono (by decide)) B_Map_modulus (de_loc 0))))
  (ds_cons (ds_frz (i := 4) (ds_set (i := 4) sc_walk.nd (de_prop hcc hz (by rw [hcc]; exact ck_Map) (by rw [hcc]; exact pr_Map_rules) ok_Map_rules (hr.mono (by decide)) B_Map_rules (de_loc 0))))
  (ds_cons (ds_set (i := 5) sc_walk.nd (de_lst (da_cons (de_loc 1) da_nil)))
  (ds_cons (ds_for PassesOwn.never rfl (di_r1 rfl n_range (da_cons (de_loc 2) da_nil)) (dg_name (i := 6) sc_walk.nd) (ds_one (ds_app (j := 5) (de_callN hcc hz ok_stepped (hr.mono (by decide)) M_stepped K_stepped B_stepped (dag_ro (de_loc 3) (dag_ro (de_loc 4) (dag_ro (de_ix hK (de_loc 5) (de_neg de_int)) dag_nil)))))))
  (ds_one (ds_ret (de_loc 5)))))))))
theorem sc_word_of : FnScope ["rule_map", "number", "steps", "modulus", "place"] ["rule_map", "number", "steps"] (defScope s_word_of) := ⟨rfl, rfl, rfl, by decide +kernel, rfl, by decide +kernel, by decide +kernel⟩
theorem ok_word_of {f_word_of : Addr} {d_word_of : FuncData} (F : Fun K "word_of" "word_of" s_word_of f_word_of d_word_of) (cK : C.cc.K = K) (ck_Map : ClsOk K (C.cc.cl 0)) (fl_Map : (C.cc.cl 0).2 = (["base", "rows"] : List Str)) {f_walk : Addr} {d_walk : FuncData} (ok_walk : FnOk P w K mg base CX0 5 f_walk d_walk ["rule_map", "number", "steps"] (LSp0 C sp_walk 3)) (B_walk : Binds K d_walk ["rule_map", "number", "steps"] []) (M_walk : mg "walk" = some (.ref f_walk)) (K_walk : PySem.W.keepIn K (.ref f_walk) = true) {f_remainder_by : Addr} {d_remainder_by : FuncData} (ok_remainder_by : FnOk P w K mg base CX0 2 f_remainder_by d_remainder_by ["modulus", "number"] (LSp0 C sp_remainder_by 2)) (B_remainder_by : Binds K d_remainder_by ["modulus", "number"] []) (M_remainder_by : mg "remainder_by" = some (.ref f_remainder_by)) (K_remainder_by : PySem.W.keepIn K (.ref f_remainder_by) = true) {f_Map_modulus : Addr} {d_Map_modulus : FuncData} (ok_Map_modulus : FnOk P w K mg base CX0 1 f_Map_modulus d_Map_modulus ["self"] (LSp0 C sp_Map_modulus 1)) (B_Map_modulus : Binds K d_Map_modulus ["self"] []) {p_Map_modulus : Addr} (pr_Map_modulus : PropOf K (C.cc.cl 0).1 "modulus" p_Map_modulus f_Map_modulus) : FnOk P w K mg base CX0 6 f_word_of d_word_of ["rule_map", "number", "steps"] (LSp0 C sp_word_of 3) :=
  fn_ok F sc_word_of sat_word_of (by decide) fun cdv A outer s H E Z hcc hz hr => have hK : Z.cc.K = K := by rw [hcc]; exact cK
  (ds_cons (ds_frz (i := 3) (ds_set (i := 3) sc_word_of.nd (de_prop hcc hz (by rw [hcc]; exact ck_Map) (by rw [hcc]; exact pr_Map_modulus) ok_Map_modulus (hr.mono (by decide)) B_Map_modulus (de_loc 0))))
  (ds_one (ds_ret (de_comp (own := [("place", 4)]) rfl sc_word_of.nd (di_lst hK (de_slice hK (de_callN hcc hz ok_walk (hr.mono (by decide)) M_walk K_walk B_walk (dag_ro (de_loc 0) (dag_ro (de_loc 1) (dag_ro (de_loc 2) dag_nil)))) dp_none (dp_some (de_neg de_int)))) (blkOk_by (own := [("place", 4)]) (N := ["rule_map", "number", "steps", "modulus", "place"]) (sc := defScope s_word_of) (by decide +kernel)) (fun _ _ _ _ _ => (dgc_name (i := 4) sc_word_of.nd)) (fun _ _ _ _ _ _ _ => dts_nil) (fun _ _ _ _ _ _ _ => (de_callN hcc rfl ok_remainder_by (hr.mono (by decide)) M_remainder_by K_remainder_by B_remainder_by (dag_ro (de_loc 3) (dag_ro (de_loc 4) dag_nil))))))))
theorem sc_Walker_call : FnScope ["self", "steps", "start"] ["self", "steps"] (defScope s_Walker_call) := ⟨rfl, rfl, rfl, by decide +kernel, rfl, by decide +kernel, by decide +kernel⟩
theorem ok_Walker_call {f_Walker_call : Addr} {d_Walker_call : FuncData} (F : Fun K "__call__" "Walker.__call__" s_Walker_call f_Walker_call d_Walker_call) (cK : C.cc.K = K) (n_len : mg "len" = none) (ck_Walker : ClsOk K (C.cc.cl 1)) (fl_Walker : (C.cc.cl 1).2 = (["held_map", "places", "taken", "marks"] : List Str)) (ck_WholeWalker : ClsOk K (C.cc.cl 2)) (fl_WholeWalker : (C.cc.cl 2).2 = (["held_map", "places", "taken", "marks"] : List Str)) {f_Walker_here : Addr} {d_Walker_here : FuncData} (ok_Walker_here : FnOk P w K mg base CX0 1 f_Walker_here d_Walker_here ["self"] (LSp0 C sp_Walker_here 1)) (B_Walker_here : Binds K d_Walker_here ["self"] []) {p_Walker_here : Addr} (wpr1_Walker_here : PropOf K (C.cc.cl 1).1 "here" p_Walker_here f_Walker_here) (wpr2_Walker_here : PropOf K (C.cc.cl 2).1 "here" p_Walker_here f_Walker_here) {f_word_of : Addr} {d_word_of : FuncData} (ok_word_of : FnOk P w K mg base CX0 6 f_word_of d_word_of ["rule_map", "number", "steps"] (LSp0 C sp_word_of 3)) (B_word_of : Binds K d_word_of ["rule_map", "number", "steps"] []) (M_word_of : mg "word_of" = some (.ref f_word_of)) (K_word_of : PySem.W.keepIn K (.ref f_word_of) = true) {f_walk : Addr} {d_walk : FuncData} (ok_walk : FnOk P w K mg base CX0 5 f_walk d_walk ["rule_map", "number", "steps"] (LSp0 C sp_walk 3)) (B_walk : Binds K d_walk ["rule_map", "number", "steps"] []) (M_walk : mg "walk" = some (.ref f_walk)) (K_walk : PySem.W.keepIn K (.ref f_walk) = true) : FnOk P w K mg base CX0 7 f_Walker_call d_Walker_call ["self", "steps"] (LSp0 C sp_Walker_call 2) :=
  fn_okG F sc_Walker_call sat_Walker_call (by decide) fun cdv A outer s H E Z hcc hz hr => have hK : Z.cc.K = K := by rw [hcc]; exact cK
  (ds_cons (ds_if (dt_cmp op_lt ops_lt (de_loc 1) de_int (nomark _)) (ds_one ds_never) ds_nil)
  (ds_cons (ds_frz (i := 2) (ds_set (i := 2) sc_Walker_call.nd (de_propW hcc hz kLent_ok ⟨pokW hcc ck_Walker wpr1_Walker_here ok_Walker_here (hr.mono (by decide)) B_Walker_here, pokW hcc ck_WholeWalker wpr2_Walker_here ok_Walker_here (hr.mono (by decide)) B_Walker_here, trivial⟩ (de_loc 0))))
  (ds_cons (ds_appE (de_dr (de_fldC (fldc hcc ck_Walker (by rw [fl_Walker]; rfl) ck_WholeWalker (by rw [fl_WholeWalker]; rfl)) (de_loc 0))) (de_tup (da_cons (de_b1 call_lenA (ops_len hK) n_len (de_fldC (fldc hcc ck_Walker (by rw [fl_Walker]; rfl) ck_WholeWalker (by rw [fl_WholeWalker]; rfl)) (de_loc 0))) (da_cons (de_b1 call_lenA (ops_len hK) n_len (de_fldC (fldc hcc ck_Walker (by rw [fl_Walker]; rfl) ck_WholeWalker (by rw [fl_WholeWalker]; rfl)) (de_loc 0))) da_nil))))
  (ds_cons (ds_fldC (i := 0) (fldc hcc ck_Walker (by rw [fl_Walker]; rfl) ck_WholeWalker (by rw [fl_WholeWalker]; rfl)) (de_bin op_addA (ops_add hK) (de_fldC (fldc hcc ck_Walker (by rw [fl_Walker]; rfl) ck_WholeWalker (by rw [fl_WholeWalker]; rfl)) (de_loc 0)) (de_slice hK (de_callN hcc hz ok_walk (hr.mono (by decide)) M_walk K_walk B_walk (dag_ro (de_fldC (fldc hcc ck_Walker (by rw [fl_Walker]; rfl) ck_WholeWalker (by rw [fl_WholeWalker]; rfl)) (de_loc 0)) (dag_ro (de_loc 2) (dag_ro (de_loc 1) dag_nil)))) (dp_some de_int) dp_none)))
  (ds_cons (ds_fldC (i := 0) (fldc hcc ck_Walker (by rw [fl_Walker]; rfl) ck_WholeWalker (by rw [fl_WholeWalker]; rfl)) (de_bin op_addA (ops_add hK) (de_fldC (fldc hcc ck_Walker (by rw [fl_Walker]; rfl) ck_WholeWalker (by rw [fl_WholeWalker]; rfl)) (de_loc 0)) (de_callN hcc hz ok_word_of (hr.mono (by decide)) M_word_of K_word_of B_word_of (dag_ro (de_fldC (fldc hcc ck_Walker (by rw [fl_Walker]; rfl) ck_WholeWalker (by rw [fl_WholeWalker]; rfl)) (de_loc 0)) (dag_ro (de_loc 2) (dag_ro (de_loc 1) dag_nil))))))
  (ds_one (ds_ret (de_propW hcc hz kLent_ok ⟨pokW hcc ck_Walker wpr1_Walker_here ok_Walker_here (hr.mono (by decide)) B_Walker_here, pokW hcc ck_WholeWalker wpr2_Walker_here ok_Walker_here (hr.mono (by decide)) B_Walker_here, trivial⟩ (de_loc 0)))))))))
theorem sc_law_gcd : FnScope ["p", "q"] ["p", "q"] (defScope s_law_gcd) := ⟨rfl, rfl, rfl, by decide +kernel, rfl, by decide +kernel, by decide +kernel⟩
theorem ok_law_gcd {f_law_gcd : Addr} {d_law_gcd : FuncData} (F : Fun K "_law_gcd" "_law_gcd" s_law_gcd f_law_gcd d_law_gcd) (cK : C.cc.K = K) (n_abs : mg "abs" = none) (n_int : mg "int" = none) : FnOk P w K mg base CX0 1 f_law_gcd d_law_gcd ["p", "q"] (LSp0 C sp_law_gcd 2) :=
  fn_ok F sc_law_gcd sat_law_gcd (by decide) fun cdv A outer s H E Z hcc hz hr => have hK : Z.cc.K = K := by rw [hcc]; exact cK
  (ds_cons (ds_frz (i := 0) (ds_set (i := 0) sc_law_gcd.nd (de_b1 call_abs ops_abs n_abs (de_loc 0))))
  (ds_cons (ds_frz (i := 1) (ds_set (i := 1) sc_law_gcd.nd (de_b1 call_abs ops_abs n_abs (de_loc 1))))
  (ds_cons (ds_while PassesOwn.never (dt_cmp op_gt ops_gt (de_loc 1) de_int (nomark _)) (ds_one (ds_par (i := 0) (j := 1) rfl sc_law_gcd.nd (da_cons (de_loc 1) (da_cons (de_bin op_mod ops_mod (de_t1 call_int1 ops_int1 n_int (de_loc 0)) (de_loc 1)) da_nil)))))
  (ds_one (ds_ret (de_loc 0))))))
theorem sc_law_lowest : FnScope ["top", "bottom", "common"] ["top", "bottom"] (defScope s_law_lowest) := ⟨rfl, rfl, rfl, by decide +kernel, rfl, by decide +kernel, by decide +kernel⟩
theorem ok_law_lowest {f_law_lowest : Addr} {d_law_lowest : FuncData} (F : Fun K "_law_lowest" "_law_lowest" s_law_lowest f_law_lowest d_law_lowest) (cK : C.cc.K = K) {f_law_gcd : Addr} {d_law_gcd : FuncData} (ok_law_gcd : FnOk P w K mg base CX0 1 f_law_gcd d_law_gcd ["p", "q"] (LSp0 C sp_law_gcd 2)) (B_law_gcd : Binds K d_law_gcd ["p", "q"] []) (M_law_gcd : mg "_law_gcd" = some (.ref f_law_gcd)) (K_law_gcd : PySem.W.keepIn K (.ref f_law_gcd) = true) : FnOk P w K mg base CX0 2 f_law_lowest d_law_lowest ["top", "bottom"] (LSp0 C sp_law_lowest 2) :=
  fn_ok F sc_law_lowest sat_law_lowest (by decide) fun cdv A outer s H E Z hcc hz hr => have hK : Z.cc.K = K := by rw [hcc]; exact cK
  (ds_cons (ds_frz (i := 2) (ds_set (i := 2) sc_law_lowest.nd (de_callN hcc hz ok_law_gcd (hr.mono (by decide)) M_law_gcd K_law_gcd B_law_gcd (dag_ro (de_loc 0) (dag_ro (de_loc 1) dag_nil)))))
  (ds_one (ds_ret (de_tup (da_cons (de_bin op_fdvX ops_fdv (de_loc 0) (de_loc 2)) (da_cons (de_bin op_fdvX ops_fdv (de_loc 1) (de_loc 2)) da_nil))))))
theorem sc_law_rest : FnScope ["base", "number", "k"] ["base", "number"] (defScope s_law_rest) := ⟨rfl, rfl, rfl, by decide +kernel, rfl, by decide +kernel, by decide +kernel⟩
theorem ok_law_rest {f_law_rest : Addr} {d_law_rest : FuncData} (F : Fun K "_law_rest" "_law_rest" s_law_rest f_law_rest d_law_rest) (cK : C.cc.K = K) (n_int : mg "int" = none) (n_range : mg "range" = none) : FnOk P w K mg base CX0 1 f_law_rest d_law_rest ["base", "number"] (LSp0 C sp_law_rest 2) :=
  fn_ok F sc_law_rest sat_law_rest (by decide) fun cdv A outer s H E Z hcc hz hr => have hK : Z.cc.K = K := by rw [hcc]; exact cK
  (ds_one (ds_ret (de_ix hK (de_comp (own := [("k", 2)]) rfl sc_law_rest.nd (di_r1 rfl n_range (da_cons (de_loc 0) da_nil)) (blkOk_by (own := [("k", 2)]) (N := ["base", "number", "k"]) (sc := defScope s_law_rest) (by decide +kernel)) (fun _ _ _ _ _ => (dgc_name (i := 2) sc_law_rest.nd)) (fun _ _ _ _ _ _ _ => (dts_one (dt_cmp (op_eqD hr.units) (ops_eq hK) (de_bin op_mod ops_mod (de_t1 call_int1 ops_int1 n_int (de_bin op_sub ops_sub (de_bin op_mulX ops_mul (de_loc 2) (de_ix hK (de_loc 1) de_int)) (de_ix hK (de_loc 1) de_int))) (de_loc 0)) de_int (nomark _)))) (fun _ _ _ _ _ _ _ => (de_loc 2))) de_int)))
theorem sc_law_move : FnScope ["rows", "number", "a", "b"] ["rows", "number"] (defScope s_law_move) := ⟨rfl, rfl, rfl, by decide +kernel, rfl, by decide +kernel, by decide +kernel⟩
theorem ok_law_move {f_law_move : Addr} {d_law_move : FuncData} (F : Fun K "_law_move" "_law_move" s_law_move f_law_move d_law_move) (cK : C.cc.K = K) (n_len : mg "len" = none) {f_law_lowest : Addr} {d_law_lowest : FuncData} (ok_law_lowest : FnOk P w K mg base CX0 2 f_law_lowest d_law_lowest ["top", "bottom"] (LSp0 C sp_law_lowest 2)) (B_law_lowest : Binds K d_law_lowest ["top", "bottom"] []) (M_law_lowest : mg "_law_lowest" = some (.ref f_law_lowest)) (K_law_lowest : PySem.W.keepIn K (.ref f_law_lowest) = true) {f_law_rest : Addr} {d_law_rest : FuncData} (ok_law_rest : FnOk P w K mg base CX0 1 f_law_rest d_law_rest ["base", "number"] (LSp0 C sp_law_rest 2)) (B_law_rest : Binds K d_law_rest ["base", "number"] []) (M_law_rest : mg "_law_rest" = some (.ref f_law_rest)) (K_law_rest : PySem.W.keepIn K (.ref f_law_rest) = true) : FnOk P w K mg base CX0 3 f_law_move d_law_move ["rows", "number"] (LSp0 C sp_law_move 2) :=
  fn_ok F sc_law_move sat_law_move (by decide) fun cdv A outer s H E Z hcc hz hr => have hK : Z.cc.K = K := by rw [hcc]; exact cK
  (ds_cons (ds_asg (de_ix hK (de_loc 0) (de_callN hcc hz ok_law_rest (hr.mono (by decide)) M_law_rest K_law_rest B_law_rest (dag_ro (de_b1 call_lenA (ops_len hK) n_len (de_loc 0)) (dag_ro (de_loc 1) dag_nil)))) (dg_tup rfl (dgs_cons (dg_name (i := 2) sc_law_move.nd) (dgs_cons (dg_name (i := 3) sc_law_move.nd) dgs_nil))))
  (ds_one (ds_ret (de_callN hcc hz ok_law_lowest (hr.mono (by decide)) M_law_lowest K_law_lowest B_law_lowest (dag_ro (de_bin op_addA (ops_add hK) (de_bin op_mulX ops_mul (de_loc 2) (de_ix hK (de_loc 1) de_int)) (de_bin op_mulX ops_mul (de_loc 3) (de_ix hK (de_loc 1) de_int))) (dag_ro (de_bin op_mulX ops_mul (de_b1 call_lenA (ops_len hK) n_len (de_loc 0)) (de_ix hK (de_loc 1) de_int)) dag_nil))))))
theorem sc_law_walked : FnScope ["rows", "place", "steps", "places", "rests", "k"] ["rows", "place", "steps"] (defScope s_law_walked) := ⟨rfl, rfl, rfl, by decide +kernel, rfl, by decide +kernel, by decide +kernel⟩
theorem ok_law_walked {f_law_walked : Addr} {d_law_walked : FuncData} (F : Fun K "_law_walked" "_law_walked" s_law_walked f_law_walked d_law_walked) (cK : C.cc.K = K) (n_len : mg "len" = none) (n_range : mg "range" = none) {f_law_move : Addr} {d_law_move : FuncData} (ok_law_move : FnOk P w K mg base CX0 3 f_law_move d_law_move ["rows", "number"] (LSp0 C sp_law_move 2)) (B_law_move : Binds K d_law_move ["rows", "number"] []) (M_law_move : mg "_law_move" = some (.ref f_law_move)) (K_law_move : PySem.W.keepIn K (.ref f_law_move) = true) {f_law_rest : Addr} {d_law_rest : FuncData} (ok_law_rest : FnOk P w K mg base CX0 1 f_law_rest d_law_rest ["base", "number"] (LSp0 C sp_law_rest 2)) (B_law_rest : Binds K d_law_rest ["base", "number"] []) (M_law_rest : mg "_law_rest" = some (.ref f_law_rest)) (K_law_rest : PySem.W.keepIn K (.ref f_law_rest) = true) : FnOk P w K mg base CX0 4 f_law_walked d_law_walked ["rows", "place", "steps"] (LSp0 C sp_law_walked 3) :=
  fn_ok F sc_law_walked sat_law_walked (by decide) fun cdv A outer s H E Z hcc hz hr => have hK : Z.cc.K = K := by rw [hcc]; exact cK
  (ds_cons (ds_set (i := 3) sc_law_walked.nd (de_lst (da_cons (de_loc 1) da_nil)))
  (ds_cons (ds_set (i := 4) sc_law_walked.nd (de_lst da_nil))
  (ds_cons (ds_for PassesOwn.never rfl (di_r1 rfl n_range (da_cons (de_loc 2) da_nil)) (dg_name (i := 5) sc_law_walked.nd) (ds_cons (ds_app (j := 4) (de_callN hcc hz ok_law_rest (hr.mono (by decide)) M_law_rest K_law_rest B_law_rest (dag_ro (de_b1 call_lenA (ops_len hK) n_len (de_loc 0)) (dag_ro (de_ix hK (de_loc 3) (de_neg de_int)) dag_nil))))
  (ds_one (ds_app (j := 3) (de_callN hcc hz ok_law_move (hr.mono (by decide)) M_law_move K_law_move B_law_move (dag_ro (de_loc 0) (dag_ro (de_ix hK (de_loc 3) (de_neg de_int)) dag_nil)))))))
  (ds_one (ds_ret (de_tup (da_cons (de_loc 3) (da_cons (de_loc 4) da_nil))))))))
theorem sc_law_there_and_back : FnScope ["walker", "rows", "start", "n", "places", "rests", "k", "told"] ["walker", "rows", "start", "n"] (defScope s_law_there_and_back) := ⟨rfl, rfl, rfl, by decide +kernel, rfl, by decide +kernel, by decide +kernel⟩
theorem ok_law_there_and_back {f_law_there_and_back : Addr} {d_law_there_and_back : FuncData} (F : Fun K "_law_there_and_back" "_law_there_and_back" s_law_there_and_back f_law_there_and_back d_law_there_and_back) (cK : C.cc.K = K) (n_len : mg "len" = none) (n_range : mg "range" = none) (ck_Walker : ClsOk K (C.cc.cl 1)) (fl_Walker : (C.cc.cl 1).2 = (["held_map", "places", "taken", "marks"] : List Str)) (ck_WholeWalker : ClsOk K (C.cc.cl 2)) (fl_WholeWalker : (C.cc.cl 2).2 = (["held_map", "places", "taken", "marks"] : List Str)) {f_law_pairs : Addr} {d_law_pairs : FuncData} (ok_law_pairs : FnOk P w K mg base CX0 3 f_law_pairs d_law_pairs ["found"] (LSp0 C sp_law_pairs 1)) (B_law_pairs : Binds K d_law_pairs ["found"] []) (M_law_pairs : mg "_law_pairs" = some (.ref f_law_pairs)) (K_law_pairs : PySem.W.keepIn K (.ref f_law_pairs) = true) {f_Walker_word : Addr} {d_Walker_word : FuncData} (ok_Walker_word : FnOk P w K mg base CX0 1 f_Walker_word d_Walker_word ["self"] (LSp0 C sp_Walker_word 1)) (B_Walker_word : Binds K d_Walker_word ["self"] []) (wme1_Walker_word : Meth K (C.cc.cl 1).1 "word" f_Walker_word) (wme2_Walker_word : Meth K (C.cc.cl 2).1 "word" f_Walker_word) {f_Walker_len : Addr} {d_Walker_len : FuncData} (ok_Walker_len : FnOk P w K mg base CX0 1 f_Walker_len d_Walker_len ["self"] (LSp0 C sp_Walker_len 1)) (B_Walker_len : Binds K d_Walker_len ["self"] []) (wme1_Walker_len : Meth K (C.cc.cl 1).1 "__len__" f_Walker_len) (wme2_Walker_len : Meth K (C.cc.cl 2).1 "__len__" f_Walker_len) {f_Walker_trail : Addr} {d_Walker_trail : FuncData} (ok_Walker_trail : FnOk P w K mg base CX0 1 f_Walker_trail d_Walker_trail ["self"] (LSp0 C sp_Walker_trail 1)) (B_Walker_trail : Binds K d_Walker_trail ["self"] []) (wme1_Walker_trail : Meth K (C.cc.cl 1).1 "trail" f_Walker_trail) (wme2_Walker_trail : Meth K (C.cc.cl 2).1 "trail" f_Walker_trail) {f_Walker_back : Addr} {d_Walker_back : FuncData} (ok_Walker_back : FnOk P w K mg base CX0 7 f_Walker_back d_Walker_back ["self", "remainder"] (LSp0 C sp_Walker_back 2)) (B_Walker_back : Binds K d_Walker_back ["self", "remainder"] []) (wme1_Walker_back : Meth K (C.cc.cl 1).1 "back" f_Walker_back) {f_WholeWalker_back : Addr} {d_WholeWalker_back : FuncData} (ok_WholeWalker_back : FnOk P w K mg base CX0 8 f_WholeWalker_back d_WholeWalker_back ["self", "remainder"] (LSp0 C sp_WholeWalker_back 2)) (B_WholeWalker_back : Binds K d_WholeWalker_back ["self", "remainder"] []) (wme2_WholeWalker_back : Meth K (C.cc.cl 2).1 "back" f_WholeWalker_back) {f_Walker_call : Addr} {d_Walker_call : FuncData} (ok_Walker_call : FnOk P w K mg base CX0 7 f_Walker_call d_Walker_call ["self", "steps"] (LSp0 C sp_Walker_call 2)) (B_Walker_call : Binds K d_Walker_call ["self", "steps"] []) (wca1_Walker_call : StX.CallO K (C.cc.cl 1).1 f_Walker_call) (wca2_Walker_call : StX.CallO K (C.cc.cl 2).1 f_Walker_call) {f_law_walked : Addr} {d_law_walked : FuncData} (ok_law_walked : FnOk P w K mg base CX0 4 f_law_walked d_law_walked ["rows", "place", "steps"] (LSp0 C sp_law_walked 3)) (B_law_walked : Binds K d_law_walked ["rows", "place", "steps"] []) (M_law_walked : mg "_law_walked" = some (.ref f_law_walked)) (K_law_walked : PySem.W.keepIn K (.ref f_law_walked) = true) : FnOk P w K mg base CX0 10 f_law_there_and_back d_law_there_and_back ["walker", "rows", "start", "n"] (LSp0 C sp_law_there_and_back 4) :=
  fn_okG F sc_law_there_and_back sat_law_there_and_back (by decide) fun cdv A outer s H E Z hcc hz hr => have hK : Z.cc.K = K := by rw [hcc]; exact cK
  (ds_cons (ds_asg (de_callN hcc hz ok_law_walked (hr.mono (by decide)) M_law_walked K_law_walked B_law_walked (dag_ro (de_loc 1) (dag_ro (de_loc 2) (dag_ro (de_loc 3) dag_nil)))) (dg_tup rfl (dgs_cons (dg_name (i := 4) sc_law_there_and_back.nd) (dgs_cons (dg_name (i := 5) sc_law_there_and_back.nd) dgs_nil))))
  (ds_cons (ds_expr (de_callW hcc hz kMut_ok ⟨cokW hcc wca1_Walker_call ok_Walker_call (hr.mono (by decide)) B_Walker_call, cokW hcc wca2_Walker_call ok_Walker_call (hr.mono (by decide)) B_Walker_call, trivial⟩ (de_loc 0) (dag_ro (de_loc 3) dag_nil)))
  (ds_cons (ds_if (dt_cmp (op_neD hr.units) (ops_ne hK) (de_methW0 hcc hz kLent_ok ⟨mokW hcc ck_Walker wme1_Walker_word (by rw [fl_Walker]; decide +kernel) ok_Walker_word (hr.mono (by decide)) B_Walker_word, mokW hcc ck_WholeWalker wme2_Walker_word (by rw [fl_WholeWalker]; decide +kernel) ok_Walker_word (hr.mono (by decide)) B_Walker_word, trivial⟩ (de_loc 0)) (de_loc 5) (nomark _)) (ds_one (ds_ret de_bl)) ds_nil)
  (ds_cons (ds_for PassesOwn.never rfl (di_r1 rfl n_range (da_cons (de_loc 3) da_nil)) (dg_name (i := 6) sc_law_there_and_back.nd) (ds_one (ds_if (dt_cmp (op_neD hr.units) (ops_ne hK) (de_methW hcc hz kMut_ok ⟨mokW hcc ck_Walker wme1_Walker_back (by rw [fl_Walker]; decide +kernel) ok_Walker_back (hr.mono (by decide)) B_Walker_back, mokW hcc ck_WholeWalker wme2_WholeWalker_back (by rw [fl_WholeWalker]; decide +kernel) ok_WholeWalker_back (hr.mono (by decide)) B_WholeWalker_back, trivial⟩ (de_loc 0) (dag_ro (de_ix hK (de_loc 5) (de_bin op_sub ops_sub (de_bin op_sub ops_sub (de_loc 3) de_int) (de_loc 6))) dag_nil)) (de_ix hK (de_loc 4) (de_bin op_sub ops_sub (de_bin op_sub ops_sub (de_loc 3) de_int) (de_loc 6))) (nomark _)) (ds_one (ds_ret de_bl)) ds_nil)))
  (ds_cons (ds_frz (i := 7) (ds_set (i := 7) sc_law_there_and_back.nd (de_methW0 hcc hz kLent_ok ⟨mokW hcc ck_Walker wme1_Walker_trail (by rw [fl_Walker]; decide +kernel) ok_Walker_trail (hr.mono (by decide)) B_Walker_trail, mokW hcc ck_WholeWalker wme2_Walker_trail (by rw [fl_WholeWalker]; decide +kernel) ok_Walker_trail (hr.mono (by decide)) B_Walker_trail, trivial⟩ (de_loc 0))))
  (ds_one (ds_ret (de_and (de_callN hcc hz ok_law_pairs (hr.mono (by decide)) M_law_pairs K_law_pairs B_law_pairs (dag_ro (de_loc 7) dag_nil)) (de_and (de_cmp (op_eqD hr.units) (ops_eq hK) (de_loc 7) (de_bin op_addA (ops_add hK) (de_loc 4) (de_slice hK (de_rev hK (de_loc 4)) (dp_some de_int) dp_none)) (nomark _)) (de_and (de_cmp (op_eqD hr.units) (ops_eq hK) (de_methW0 hcc hz kLent_ok ⟨mokW hcc ck_Walker wme1_Walker_word (by rw [fl_Walker]; decide +kernel) ok_Walker_word (hr.mono (by decide)) B_Walker_word, mokW hcc ck_WholeWalker wme2_Walker_word (by rw [fl_WholeWalker]; decide +kernel) ok_Walker_word (hr.mono (by decide)) B_Walker_word, trivial⟩ (de_loc 0)) (de_loc 5) (nomark _)) (de_one (de_cmp (op_eqD hr.units) (ops_eq hK) (de_lenW hcc hz kDeep_ok ⟨mokW hcc ck_Walker wme1_Walker_len (by rw [fl_Walker]; decide +kernel) ok_Walker_len (hr.mono (by decide)) B_Walker_len, mokW hcc ck_WholeWalker wme2_Walker_len (by rw [fl_WholeWalker]; decide +kernel) ok_Walker_len (hr.mono (by decide)) B_Walker_len, trivial⟩ n_len (de_loc 0)) (de_bin op_addA (ops_add hK) (de_loc 3) de_int) (nomark _)))))))))))))
theorem sc_Walker_init : FnScope ["self", "rule_map", "start"] ["self", "rule_map", "start"] (defScope s_Walker_init) := ⟨rfl, rfl, rfl, by decide +kernel, rfl, by decide +kernel, by decide +kernel⟩
theorem ok_Walker_init {f_Walker_init : Addr} {d_Walker_init : FuncData} (F : Fun K "__init__" "Walker.__init__" s_Walker_init f_Walker_init d_Walker_init) (cK : C.cc.K = K) (ck_Map : ClsOk K (C.cc.cl 0)) (fl_Map : (C.cc.cl 0).2 = (["base", "rows"] : List Str)) (ck_Walker : ClsOk K (C.cc.cl 1)) (fl_Walker : (C.cc.cl 1).2 = (["held_map", "places", "taken", "marks"] : List Str)) (ck_WholeWalker : ClsOk K (C.cc.cl 2)) (fl_WholeWalker : (C.cc.cl 2).2 = (["held_map", "places", "taken", "marks"] : List Str)) {f_is_good : Addr} {d_is_good : FuncData} (ok_is_good : FnOk P w K mg base CX0 3 f_is_good d_is_good ["modulus", "value"] (LSp0 C sp_is_good 2)) (B_is_good : Binds K d_is_good ["modulus", "value"] []) (M_is_good : mg "is_good" = some (.ref f_is_good)) (K_is_good : PySem.W.keepIn K (.ref f_is_good) = true) {f_Map_modulus : Addr} {d_Map_modulus : FuncData} (ok_Map_modulus : FnOk P w K mg base CX0 1 f_Map_modulus d_Map_modulus ["self"] (LSp0 C sp_Map_modulus 1)) (B_Map_modulus : Binds K d_Map_modulus ["self"] []) {p_Map_modulus : Addr} (pr_Map_modulus : PropOf K (C.cc.cl 0).1 "modulus" p_Map_modulus f_Map_modulus) : FnOk P w K mg base CX0 4 f_Walker_init d_Walker_init ["self", "rule_map", "start"] (LSp0 C sp_Walker_init 3) :=
  fn_okI F sc_Walker_init sat_Walker_init (by decide) fun cdv A outer s H E Z hcc hz hr => have hK : Z.cc.K = K := by rw [hcc]; exact cK
  (ds_cons (ds_if (dt_not (dt_val (de_callN hcc hz ok_is_good (hr.mono (by decide)) M_is_good K_is_good B_is_good (dag_ro (de_prop hcc hz (by rw [hcc]; exact ck_Map) (by rw [hcc]; exact pr_Map_modulus) ok_Map_modulus (hr.mono (by decide)) B_Map_modulus (de_loc 1)) (dag_ro (de_loc 2) dag_nil))))) (ds_one ds_never) ds_nil)
  (ds_cons (ds_fldC (i := 0) (fldc hcc ck_Walker (by rw [fl_Walker]; rfl) ck_WholeWalker (by rw [fl_WholeWalker]; rfl)) (de_loc 1))
  (ds_cons (ds_fldC (i := 0) (fldc hcc ck_Walker (by rw [fl_Walker]; rfl) ck_WholeWalker (by rw [fl_WholeWalker]; rfl)) (de_lst (da_cons (de_tup (da_cons (de_ix hK (de_loc 2) de_int) (da_cons (de_ix hK (de_loc 2) de_int) da_nil))) da_nil)))
  (ds_cons (ds_fldC (i := 0) (fldc hcc ck_Walker (by rw [fl_Walker]; rfl) ck_WholeWalker (by rw [fl_WholeWalker]; rfl)) (de_lst da_nil))
  (ds_one (ds_fldC (i := 0) (fldc hcc ck_Walker (by rw [fl_Walker]; rfl) ck_WholeWalker (by rw [fl_WholeWalker]; rfl)) (de_keep (de_lst da_nil))))))))
theorem sc_WholeWalker_init : FnScope ["self", "rule_map", "start"] ["self", "rule_map", "start"] (defScope s_WholeWalker_init) := ⟨rfl, rfl, rfl, by decide +kernel, rfl, by decide +kernel, by decide +kernel⟩
theorem ok_WholeWalker_init {f_WholeWalker_init : Addr} {d_WholeWalker_init : FuncData} (F : Fun K "__init__" "WholeWalker.__init__" s_WholeWalker_init f_WholeWalker_init d_WholeWalker_init) (cK : C.cc.K = K) {f_Walker_init : Addr} {d_Walker_init : FuncData} (ok_Walker_init : FnOk P w K mg base CX0 4 f_Walker_init d_Walker_init ["self", "rule_map", "start"] (LSp0 C sp_Walker_init 3)) (B_Walker_init : Binds K d_Walker_init ["self", "rule_map", "start"] []) {c_Walker : Addr} (rd_Walker : ClX.CRead K c_Walker (.type "type")) (wfc_Walker_init : PySem.W.findCls K (.ref c_Walker) (.type "type") "__init__" = some (.val (.ref f_Walker_init))) (K_Walker_init : PySem.W.keepIn K (.ref f_Walker_init) = true) (wmg_Walker : mg "Walker" = some (.ref c_Walker)) : FnOk P w K mg base CX0 5 f_WholeWalker_init d_WholeWalker_init ["self", "rule_map", "start"] (LSp0 C sp_WholeWalker_init 3) :=
  fn_okI F sc_WholeWalker_init sat_WholeWalker_init (by decide) fun cdv A outer s H E Z hcc hz hr => have hK : Z.cc.K = K := by rw [hcc]; exact cK
  (ds_cons (ds_expr (de_baseG hcc hz rd_Walker wfc_Walker_init K_Walker_init ok_Walker_init (hr.mono (by decide)) wmg_Walker B_Walker_init (dag_mu (i := 0) (dag_ro (de_loc 1) (dag_ro (de_loc 2) dag_nil)))))
  (ds_one (ds_if (dt_cmp (op_neD hr.units) (ops_ne hK) (de_ix hK (de_loc 2) de_int) de_int (nomark _)) (ds_one ds_never) ds_nil)))
theorem sc_law_picks : FnScope ["cell", "sizes", "held", "rest", "picks", "k", "stir"] ["cell", "sizes"] (defScope s_law_picks) := ⟨rfl, rfl, rfl, by decide +kernel, rfl, by decide +kernel, by decide +kernel⟩
theorem ok_law_picks {f_law_picks : Addr} {d_law_picks : FuncData} (F : Fun K "_law_picks" "_law_picks" s_law_picks f_law_picks d_law_picks) (cK : C.cc.K = K) (n_abs : mg "abs" = none) (n_int : mg "int" = none) (n_len : mg "len" = none) (n_range : mg "range" = none) : FnOk P w K mg base CX0 1 f_law_picks d_law_picks ["cell", "sizes"] (LSp0 C sp_law_picks 2) :=
  fn_ok F sc_law_picks sat_law_picks (by decide) fun cdv A outer s H E Z hcc hz hr => have hK : Z.cc.K = K := by rw [hcc]; exact cK
  (ds_cons (ds_frz (i := 2) (ds_set (i := 2) sc_law_picks.nd (de_bin op_addA (ops_add hK) (de_bin op_mulX ops_mul de_int (de_b1 call_abs ops_abs n_abs (de_loc 0))) (de_t1 call_int1 ops_int1 n_int (de_cmp op_lt ops_lt (de_loc 0) de_int (nomark _))))))
  (ds_cons (ds_frz (i := 3) (ds_set (i := 3) sc_law_picks.nd (de_bin op_sub ops_sub (de_loc 2) (de_bin op_pow ops_pow de_int de_int))))
  (ds_cons (ds_set (i := 4) sc_law_picks.nd (de_lst da_nil))
  (ds_cons (ds_for PassesOwn.never rfl (di_r1 rfl n_range (da_cons (de_b1 call_lenA (ops_len hK) n_len (de_loc 1)) da_nil)) (dg_name (i := 5) sc_law_picks.nd) (ds_cons (ds_frz (i := 6) (ds_set (i := 6) sc_law_picks.nd (de_bin op_addA (ops_add hK) (de_bin op_mulX ops_mul (de_bin op_mulX ops_mul (de_bin op_addA (ops_add hK) (de_loc 2) de_int) de_int) (de_bin op_addA (ops_add hK) de_int (de_bin op_mulX ops_mul (de_bin op_mulX ops_mul de_int (de_loc 5)) (de_loc 5)))) (de_bin op_mulX ops_mul de_int (de_loc 5)))))
  (ds_cons (ds_frz (i := 6) (ds_set (i := 6) sc_law_picks.nd (de_bin op_mod ops_mod (de_t1 call_int1 ops_int1 n_int (de_loc 6)) de_int)))
  (ds_cons (ds_frz (i := 6) (ds_set (i := 6) sc_law_picks.nd (de_bin op_fdvX ops_fdv (de_bin op_mod ops_mod (de_t1 call_int1 ops_int1 n_int (de_bin op_addA (ops_add hK) (de_bin op_addA (ops_add hK) (de_bin op_mulX ops_mul (de_loc 6) (de_loc 6)) (de_bin op_mulX ops_mul de_int (de_loc 5))) de_int)) de_int) de_int)))
  (ds_cons (ds_if (dt_cmp op_ge ops_ge (de_loc 2) (de_bin op_pow ops_pow de_int de_int) (nomark _)) (ds_cons (ds_set (i := 6) sc_law_picks.nd (de_loc 3))
  (ds_one (ds_frz (i := 3) (ds_set (i := 3) sc_law_picks.nd (de_bin op_fdvX ops_fdv (de_loc 3) (de_ix hK (de_loc 1) (de_loc 5))))))) ds_nil)
  (ds_one (ds_app (j := 4) (de_bin op_mod ops_mod (de_t1 call_int1 ops_int1 n_int (de_loc 6)) (de_ix hK (de_loc 1) (de_loc 5))))))))))
  (ds_one (ds_ret (de_loc 4)))))))
theorem sc_law_cell_at : FnScope ["script", "k"] ["script", "k"] (defScope s_law_cell_at) := ⟨rfl, rfl, rfl, by decide +kernel, rfl, by decide +kernel, by decide +kernel⟩
theorem ok_law_cell_at {f_law_cell_at : Addr} {d_law_cell_at : FuncData} (F : Fun K "_law_cell_at" "_law_cell_at" s_law_cell_at f_law_cell_at d_law_cell_at) (cK : C.cc.K = K) (n_len : mg "len" = none) : FnOk P w K mg base CX0 1 f_law_cell_at d_law_cell_at ["script", "k"] (LSp0 C sp_law_cell_at 2) :=
  fn_ok F sc_law_cell_at sat_law_cell_at (by decide) fun cdv A outer s H E Z hcc hz hr => have hK : Z.cc.K = K := by rw [hcc]; exact cK
  (ds_cons (ds_if (dt_cmp op_lt ops_lt (de_loc 1) (de_b1 call_lenA (ops_len hK) n_len (de_loc 0)) (nomark _)) (ds_one (ds_ret (de_ix hK (de_loc 0) (de_loc 1)))) ds_nil)
  (ds_one (ds_ret de_int)))
theorem sc_before : FnScope ["rule_map", "number", "top", "bottom", "modulus", "a", "b"] ["rule_map", "number"] (defScope s_before) := ⟨rfl, rfl, rfl, by decide +kernel, rfl, by decide +kernel, by decide +kernel⟩
theorem ok_before {f_before : Addr} {d_before : FuncData} (F : Fun K "before" "before" s_before f_before d_before) (cK : C.cc.K = K) (ck_Map : ClsOk K (C.cc.cl 0)) (fl_Map : (C.cc.cl 0).2 = (["base", "rows"] : List Str)) {f_Map_rules : Addr} {d_Map_rules : FuncData} (ok_Map_rules : FnOk P w K mg base CX0 1 f_Map_rules d_Map_rules ["self"] (LSp0 C sp_Map_rules 1)) (B_Map_rules : Binds K d_Map_rules ["self"] []) {p_Map_rules : Addr} (pr_Map_rules : PropOf K (C.cc.cl 0).1 "rules" p_Map_rules f_Map_rules) {f_lowest : Addr} {d_lowest : FuncData} (ok_lowest : FnOk P w K mg base CX0 2 f_lowest d_lowest ["top", "bottom"] (LSp0 C sp_lowest 2)) (B_lowest : Binds K d_lowest ["top", "bottom"] []) (M_lowest : mg "lowest" = some (.ref f_lowest)) (K_lowest : PySem.W.keepIn K (.ref f_lowest) = true) {f_Map_modulus : Addr} {d_Map_modulus : FuncData} (ok_Map_modulus : FnOk P w K mg base CX0 1 f_Map_modulus d_Map_modulus ["self"] (LSp0 C sp_Map_modulus 1)) (B_Map_modulus : Binds K d_Map_modulus ["self"] []) {p_Map_modulus : Addr} (pr_Map_modulus : PropOf K (C.cc.cl 0).1 "modulus" p_Map_modulus f_Map_modulus) {f_is_good : Addr} {d_is_good : FuncData} (ok_is_good : FnOk P w K mg base CX0 3 f_is_good d_is_good ["modulus", "value"] (LSp0 C sp_is_good 2)) (B_is_good : Binds K d_is_good ["modulus", "value"] []) (M_is_good : mg "is_good" = some (.ref f_is_good)) (K_is_good : PySem.W.keepIn K (.ref f_is_good) = true) : FnOk P w K mg base CX0 4 f_before d_before ["rule_map", "number"] (LSp0 C sp_before 2) :=
  fn_ok F sc_before sat_before (by decide) fun cdv A outer s H E Z hcc hz hr => have hK : Z.cc.K = K := by rw [hcc]; exact cK
  (ds_cons (ds_if (dt_not (dt_val (de_callN hcc hz ok_is_good (hr.mono (by decide)) M_is_good K_is_good B_is_good (dag_ro (de_prop hcc hz (by rw [hcc]; exact ck_Map) (by rw [hcc]; exact pr_Map_modulus) ok_Map_modulus (hr.mono (by decide)) B_Map_modulus (de_loc 0)) (dag_ro (de_loc 1) dag_nil))))) (ds_one ds_never) ds_nil)
  (ds_cons (ds_asg (de_loc 1) (dg_tup rfl (dgs_cons (dg_name (i := 2) sc_before.nd) (dgs_cons (dg_name (i := 3) sc_before.nd) dgs_nil))))
  (ds_cons (ds_frz (i := 4) (ds_set (i := 4) sc_before.nd (de_prop hcc hz (by rw [hcc]; exact ck_Map) (by rw [hcc]; exact pr_Map_modulus) ok_Map_modulus (hr.mono (by decide)) B_Map_modulus (de_loc 0))))
  (ds_one (ds_ret (de_comp (own := [("a", 5), ("b", 6)]) rfl sc_before.nd (di_lst hK (de_prop hcc hz (by rw [hcc]; exact ck_Map) (by rw [hcc]; exact pr_Map_rules) ok_Map_rules (hr.mono (by decide)) B_Map_rules (de_loc 0))) (blkOk_by (own := [("a", 5), ("b", 6)]) (N := ["rule_map", "number", "top", "bottom", "modulus", "a", "b"]) (sc := defScope s_before) (by decide +kernel)) (fun _ _ _ _ _ => (dgc_tup rfl (dgcs_cons (dgc_name (i := 5) sc_before.nd) (dgcs_cons (dgc_name (i := 6) sc_before.nd) dgcs_nil)))) (fun _ _ _ _ _ _ _ => dts_nil) (fun _ _ _ _ _ _ _ => (de_callN hcc rfl ok_lowest (hr.mono (by decide)) M_lowest K_lowest B_lowest (dag_ro (de_bin op_sub ops_sub (de_bin op_mulX ops_mul (de_loc 4) (de_loc 2)) (de_bin op_mulX ops_mul (de_loc 6) (de_loc 3))) (dag_ro (de_bin op_mulX ops_mul (de_loc 5) (de_loc 3)) dag_nil))))))))))
theorem sc_law_fraction : FnScope ["cell", "base", "picks", "top", "bottom"] ["cell", "base"] (defScope s_law_fraction) := ⟨rfl, rfl, rfl, by decide +kernel, rfl, by decide +kernel, by decide +kernel⟩
theorem ok_law_fraction {f_law_fraction : Addr} {d_law_fraction : FuncData} (F : Fun K "_law_fraction" "_law_fraction" s_law_fraction f_law_fraction d_law_fraction) (cK : C.cc.K = K) {f_law_lowest : Addr} {d_law_lowest : FuncData} (ok_law_lowest : FnOk P w K mg base CX0 2 f_law_lowest d_law_lowest ["top", "bottom"] (LSp0 C sp_law_lowest 2)) (B_law_lowest : Binds K d_law_lowest ["top", "bottom"] []) (M_law_lowest : mg "_law_lowest" = some (.ref f_law_lowest)) (K_law_lowest : PySem.W.keepIn K (.ref f_law_lowest) = true) {f_law_gcd : Addr} {d_law_gcd : FuncData} (ok_law_gcd : FnOk P w K mg base CX0 1 f_law_gcd d_law_gcd ["p", "q"] (LSp0 C sp_law_gcd 2)) (B_law_gcd : Binds K d_law_gcd ["p", "q"] []) (M_law_gcd : mg "_law_gcd" = some (.ref f_law_gcd)) (K_law_gcd : PySem.W.keepIn K (.ref f_law_gcd) = true) {f_law_picks : Addr} {d_law_picks : FuncData} (ok_law_picks : FnOk P w K mg base CX0 1 f_law_picks d_law_picks ["cell", "sizes"] (LSp0 C sp_law_picks 2)) (B_law_picks : Binds K d_law_picks ["cell", "sizes"] []) (M_law_picks : mg "_law_picks" = some (.ref f_law_picks)) (K_law_picks : PySem.W.keepIn K (.ref f_law_picks) = true) : FnOk P w K mg base CX0 3 f_law_fraction d_law_fraction ["cell", "base"] (LSp0 C sp_law_fraction 2) :=
  fn_ok F sc_law_fraction sat_law_fraction (by decide) fun cdv A outer s H E Z hcc hz hr => have hK : Z.cc.K = K := by rw [hcc]; exact cK
  (ds_cons (ds_frz (i := 2) (ds_set (i := 2) sc_law_fraction.nd (de_callN hcc hz ok_law_picks (hr.mono (by decide)) M_law_picks K_law_picks B_law_picks (dag_ro (de_loc 0) (dag_ro (de_lst (da_lit de_int (da_lit de_int (da_lit0 (da_cons (de_bin op_pow ops_pow de_int de_int) (da_cons (de_bin op_pow ops_pow de_int de_int) da_nil)))))) dag_nil)))))
  (ds_cons (ds_frz (i := 3) (ds_set (i := 3) sc_law_fraction.nd (de_bin op_mod ops_mod (de_ix hK (de_loc 2) de_int) (de_ix hK (de_lst (da_lit de_int (da_lit de_int (da_lit0 (da_cons (de_bin op_pow ops_pow de_int de_int) da_nil))))) (de_bin op_mod ops_mod (de_ix hK (de_loc 2) de_int) de_int)))))
  (ds_cons (ds_frz (i := 4) (ds_set (i := 4) sc_law_fraction.nd (de_bin op_addA (ops_add hK) de_int (de_bin op_mod ops_mod (de_ix hK (de_loc 2) de_int) (de_ix hK (de_lst (da_lit de_int (da_lit de_int (da_lit de_int (da_lit de_int (da_lit0 (da_cons (de_bin op_pow ops_pow de_int de_int) (da_cons (de_bin op_pow ops_pow de_int de_int) da_nil)))))))) (de_ix hK (de_loc 2) de_int))))))
  (ds_cons (ds_while PassesOwn.never (dt_cmp op_gt ops_gt (de_callN hcc hz ok_law_gcd (hr.mono (by decide)) M_law_gcd K_law_gcd B_law_gcd (dag_ro (de_loc 4) (dag_ro (de_loc 1) dag_nil))) de_int (nomark _)) (ds_one (ds_frz (i := 4) (ds_set (i := 4) sc_law_fraction.nd (de_bin op_fdvX ops_fdv (de_loc 4) (de_callN hcc hz ok_law_gcd (hr.mono (by decide)) M_law_gcd K_law_gcd B_law_gcd (dag_ro (de_loc 4) (dag_ro (de_loc 1) dag_nil))))))))
  (ds_cons (ds_if (dt_cmp (op_eqD hr.units) (ops_eq hK) (de_ix hK (de_loc 2) de_int) de_int (nomark _)) (ds_one (ds_set (i := 3) sc_law_fraction.nd (de_neg (de_loc 3)))) ds_nil)
  (ds_one (ds_ret (de_callN hcc hz ok_law_lowest (hr.mono (by decide)) M_law_lowest K_law_lowest B_law_lowest (dag_ro (de_loc 3) (dag_ro (de_loc 4) dag_nil))))))))))
theorem sc_is_rule : FnScope ["modulus", "remainder", "rule"] ["modulus", "remainder", "rule"] (defScope s_is_rule) := ⟨rfl, rfl, rfl, by decide +kernel, rfl, by decide +kernel, by decide +kernel⟩
theorem ok_is_rule {f_is_rule : Addr} {d_is_rule : FuncData} (F : Fun K "is_rule" "is_rule" s_is_rule f_is_rule d_is_rule) (cK : C.cc.K = K) {f_gcd : Addr} {d_gcd : FuncData} (ok_gcd : FnOk P w K mg base CX0 1 f_gcd d_gcd ["one", "other"] (LSp0 C sp_gcd 2)) (B_gcd : Binds K d_gcd ["one", "other"] []) (M_gcd : mg "gcd" = some (.ref f_gcd)) (K_gcd : PySem.W.keepIn K (.ref f_gcd) = true) : FnOk P w K mg base CX0 2 f_is_rule d_is_rule ["modulus", "remainder", "rule"] (LSp0 C sp_is_rule 3) :=
  fn_ok F sc_is_rule sat_is_rule (by decide) fun cdv A outer s H E Z hcc hz hr => have hK : Z.cc.K = K := by rw [hcc]; exact cK
  (ds_cons (ds_if (PW.pt (dw_or (dt_cmp op_lt ops_lt (de_ix hK (de_loc 2) de_int) de_int (nomark _)) (dw_or1 (dt_cmp (op_neD hr.units) (ops_ne hK) (de_callN hcc hz ok_gcd (hr.mono (by decide)) M_gcd K_gcd B_gcd (dag_ro (de_ix hK (de_loc 2) de_int) (dag_ro (de_loc 0) dag_nil))) de_int (nomark _))))) (ds_one (ds_ret de_bl)) ds_nil)
  (ds_one (ds_ret (de_cmp (op_eqD hr.units) (ops_eq hK) (de_bin op_mod ops_mod (de_bin op_addA (ops_add hK) (de_bin op_mulX ops_mul (de_ix hK (de_loc 2) de_int) (de_loc 1)) (de_ix hK (de_loc 2) de_int)) (de_loc 0)) de_int (nomark _)))))
theorem sc_Map_init : FnScope ["self", "modulus", "rules", "remainder", "rule"] ["self", "modulus", "rules"] (defScope s_Map_init) := ⟨rfl, rfl, rfl, by decide +kernel, rfl, by decide +kernel, by decide +kernel⟩
theorem ok_Map_init {f_Map_init : Addr} {d_Map_init : FuncData} (F : Fun K "__init__" "Map.__init__" s_Map_init f_Map_init d_Map_init) (cK : C.cc.K = K) (n_enumerate : mg "enumerate" = none) (n_len : mg "len" = none) (ck_Map : ClsOk K (C.cc.cl 0)) (fl_Map : (C.cc.cl 0).2 = (["base", "rows"] : List Str)) {f_is_rule : Addr} {d_is_rule : FuncData} (ok_is_rule : FnOk P w K mg base CX0 2 f_is_rule d_is_rule ["modulus", "remainder", "rule"] (LSp0 C sp_is_rule 3)) (B_is_rule : Binds K d_is_rule ["modulus", "remainder", "rule"] []) (M_is_rule : mg "is_rule" = some (.ref f_is_rule)) (K_is_rule : PySem.W.keepIn K (.ref f_is_rule) = true) : FnOk P w K mg base CX0 3 f_Map_init d_Map_init ["self", "modulus", "rules"] (LSp0 C sp_Map_init 3) :=
  fn_ok F sc_Map_init sat_Map_init (by decide) fun cdv A outer s H E Z hcc hz hr => have hK : Z.cc.K = K := by rw [hcc]; exact cK
  (ds_cons (ds_if (dt_cmp op_lt ops_lt (de_loc 1) de_int (nomark _)) (ds_one ds_never) ds_nil)
  (ds_cons (ds_if (dt_cmp (op_neD hr.units) (ops_ne hK) (de_b1 call_lenA (ops_len hK) n_len (de_loc 2)) (de_loc 1) (nomark _)) (ds_one ds_never) ds_nil)
  (ds_cons (ds_for PassesOwn.never rfl (di_enum hK n_enumerate (de_loc 2)) (dg_tup rfl (dgs_cons (dg_name (i := 3) sc_Map_init.nd) (dgs_cons (dg_name (i := 4) sc_Map_init.nd) dgs_nil))) (ds_one (ds_if (dt_not (dt_val (de_callN hcc hz ok_is_rule (hr.mono (by decide)) M_is_rule K_is_rule B_is_rule (dag_ro (de_loc 1) (dag_ro (de_loc 3) (dag_ro (de_loc 4) dag_nil)))))) (ds_one ds_never) ds_nil)))
  (ds_cons (ds_fld (i := 0) (by rw [hcc]; exact ck_Map) (by rw [hcc, fl_Map]; rfl) (de_loc 1))
  (ds_one (ds_fld (i := 0) (by rw [hcc]; exact ck_Map) (by rw [hcc, fl_Map]; rfl) (de_comp (own := [("rule", 4)]) rfl sc_Map_init.nd (di_lst hK (de_loc 2)) (blkOk_by (own := [("rule", 4)]) (N := ["self", "modulus", "rules", "remainder", "rule"]) (sc := defScope s_Map_init) (by decide +kernel)) (fun _ _ _ _ _ => (dgc_name (i := 4) sc_Map_init.nd)) (fun _ _ _ _ _ _ _ => dts_nil) (fun _ _ _ _ _ _ _ => (de_tup (da_cons (de_ix hK (de_loc 4) de_int) (da_cons (de_ix hK (de_loc 4) de_int) da_nil)))))))))))
theorem sc_law_rows : FnScope ["cell", "most", "beside", "far", "picks", "base", "reach", "rows", "k", "a"] ["cell", "most", "beside", "far"] (defScope s_law_rows) := ⟨rfl, rfl, rfl, by decide +kernel, rfl, by decide +kernel, by decide +kernel⟩
theorem ok_law_rows {f_law_rows : Addr} {d_law_rows : FuncData} (F : Fun K "_law_rows" "_law_rows" s_law_rows f_law_rows d_law_rows) (cK : C.cc.K = K) (n_range : mg "range" = none) {f_law_gcd : Addr} {d_law_gcd : FuncData} (ok_law_gcd : FnOk P w K mg base CX0 1 f_law_gcd d_law_gcd ["p", "q"] (LSp0 C sp_law_gcd 2)) (B_law_gcd : Binds K d_law_gcd ["p", "q"] []) (M_law_gcd : mg "_law_gcd" = some (.ref f_law_gcd)) (K_law_gcd : PySem.W.keepIn K (.ref f_law_gcd) = true) {f_law_picks : Addr} {d_law_picks : FuncData} (ok_law_picks : FnOk P w K mg base CX0 1 f_law_picks d_law_picks ["cell", "sizes"] (LSp0 C sp_law_picks 2)) (B_law_picks : Binds K d_law_picks ["cell", "sizes"] []) (M_law_picks : mg "_law_picks" = some (.ref f_law_picks)) (K_law_picks : PySem.W.keepIn K (.ref f_law_picks) = true) : FnOk P w K mg base CX0 2 f_law_rows d_law_rows ["cell", "most", "beside", "far"] (LSp0 C sp_law_rows 4) :=
  fn_ok F sc_law_rows sat_law_rows (by decide) fun cdv A outer s H E Z hcc hz hr => have hK : Z.cc.K = K := by rw [hcc]; exact cK
  (ds_cons (ds_frz (i := 4) (ds_set (i := 4) sc_law_rows.nd (de_callN hcc hz ok_law_picks (hr.mono (by decide)) M_law_picks K_law_picks B_law_picks (dag_ro (de_loc 0) (dag_ro (de_bin op_addA (ops_add hK) (de_lst (da_cons (de_bin op_sub ops_sub (de_loc 1) de_int) (da_cons de_int da_nil))) (de_repL (i := 1) (de_lst (da_cons de_int (da_cons (de_bin op_addA (ops_add hK) (de_bin op_mulX ops_mul de_int (de_loc 3)) de_int) da_nil))))) dag_nil)))))
  (ds_cons (ds_frz (i := 5) (ds_set (i := 5) sc_law_rows.nd (de_bin op_addA (ops_add hK) de_int (de_ix hK (de_loc 4) de_int))))
  (ds_cons (ds_frz (i := 6) (ds_set (i := 6) sc_law_rows.nd (de_ix hK (de_lst (da_lit (de_tupC (da_lit de_int (da_lit de_int (da_lit0 da_nil)))) (da_lit (de_tupC (da_lit de_int (da_lit de_int (da_lit0 da_nil)))) (da_lit (de_tupC (da_lit de_int (da_lit de_int (da_lit0 da_nil)))) (da_lit0 (da_cons (de_tup (da_cons de_int (da_cons (de_bin op_addA (ops_add hK) (de_bin op_mulX ops_mul de_int (de_loc 3)) de_int) da_nil))) da_nil)))))) (de_ix hK (de_loc 4) de_int))))
  (ds_cons (ds_set (i := 7) sc_law_rows.nd (de_lst da_nil))
  (ds_cons (ds_for PassesOwn.never rfl (di_r1 rfl n_range (da_cons (de_loc 5) da_nil)) (dg_name (i := 8) sc_law_rows.nd) (ds_cons (ds_frz (i := 9) (ds_set (i := 9) sc_law_rows.nd (de_bin op_addA (ops_add hK) de_int (de_bin op_mod ops_mod (de_ix hK (de_loc 4) (de_bin op_addA (ops_add hK) de_int (de_bin op_mulX ops_mul de_int (de_loc 8)))) (de_ix hK (de_loc 6) de_int)))))
  (ds_cons (ds_while PassesOwn.never (dt_cmp op_gt ops_gt (de_callN hcc hz ok_law_gcd (hr.mono (by decide)) M_law_gcd K_law_gcd B_law_gcd (dag_ro (de_loc 9) (dag_ro (de_bin op_mulX ops_mul (de_loc 5) (de_loc 2)) dag_nil))) de_int (nomark _)) (ds_one (ds_frz (i := 9) (ds_set (i := 9) sc_law_rows.nd (de_bin op_sub ops_sub (de_loc 9) de_int)))))
  (ds_one (ds_app (j := 7) (de_tup (da_cons (de_loc 9) (da_cons (de_bin op_sub ops_sub (de_bin op_mulX ops_mul (de_loc 5) (de_bin op_sub ops_sub (de_bin op_mod ops_mod (de_ix hK (de_loc 4) (de_bin op_addA (ops_add hK) de_int (de_bin op_mulX ops_mul de_int (de_loc 8)))) (de_ix hK (de_loc 6) de_int)) (de_bin op_fdvX ops_fdv (de_ix hK (de_loc 6) de_int) de_int))) (de_bin op_mulX ops_mul (de_loc 9) (de_loc 8))) da_nil))))))))
  (ds_one (ds_ret (de_loc 7))))))))
theorem sc_law : FnScope ["script", "rows", "base", "one", "start", "along", "walker", "k", "rest", "due", "found", "handed", "places", "rests", "n", "whole", "cell"] ["script"] (defScope s_law) := ⟨rfl, rfl, rfl, by decide +kernel, rfl, by decide +kernel, by decide +kernel⟩
theorem ok_law {f_law : Addr} {d_law : FuncData} (F : Fun K "law" "law" s_law f_law d_law) (cK : C.cc.K = K) (n_len : mg "len" = none) (n_list : mg "list" = none) (n_range : mg "range" = none) (ck_Map : ClsOk K (C.cc.cl 0)) (fl_Map : (C.cc.cl 0).2 = (["base", "rows"] : List Str)) (ck_Walker : ClsOk K (C.cc.cl 1)) (fl_Walker : (C.cc.cl 1).2 = (["held_map", "places", "taken", "marks"] : List Str)) (ck_WholeWalker : ClsOk K (C.cc.cl 2)) (fl_WholeWalker : (C.cc.cl 2).2 = (["held_map", "places", "taken", "marks"] : List Str)) {f_law_there_and_back : Addr} {d_law_there_and_back : FuncData} (ok_law_there_and_back : FnOk P w K mg base CX0 10 f_law_there_and_back d_law_there_and_back ["walker", "rows", "start", "n"] (LSp0 C sp_law_there_and_back 4)) (B_law_there_and_back : Binds K d_law_there_and_back ["walker", "rows", "start", "n"] []) (M_law_there_and_back : mg "_law_there_and_back" = some (.ref f_law_there_and_back)) (K_law_there_and_back : PySem.W.keepIn K (.ref f_law_there_and_back) = true) {f_WholeWalker_init : Addr} {d_WholeWalker_init : FuncData} (ok_WholeWalker_init : FnOk P w K mg base CX0 5 f_WholeWalker_init d_WholeWalker_init ["self", "rule_map", "start"] (LSp0 C sp_WholeWalker_init 3)) (B_WholeWalker_init : Binds K d_WholeWalker_init ["self", "rule_map", "start"] []) (mk_WholeWalker : Mk K (C.cc.cl 2).1 f_WholeWalker_init) (mg_WholeWalker : mg "WholeWalker" = some (.ref (C.cc.cl 2).1)) {f_Map_rules : Addr} {d_Map_rules : FuncData} (ok_Map_rules : FnOk P w K mg base CX0 1 f_Map_rules d_Map_rules ["self"] (LSp0 C sp_Map_rules 1)) (B_Map_rules : Binds K d_Map_rules ["self"] []) {p_Map_rules : Addr} (pr_Map_rules : PropOf K (C.cc.cl 0).1 "rules" p_Map_rules f_Map_rules) {f_Walker_init : Addr} {d_Walker_init : FuncData} (ok_Walker_init : FnOk P w K mg base CX0 4 f_Walker_init d_Walker_init ["self", "rule_map", "start"] (LSp0 C sp_Walker_init 3)) (B_Walker_init : Binds K d_Walker_init ["self", "rule_map", "start"] []) (mk_Walker : Mk K (C.cc.cl 1).1 f_Walker_init) (mg_Walker : mg "Walker" = some (.ref (C.cc.cl 1).1)) {f_law_picks : Addr} {d_law_picks : FuncData} (ok_law_picks : FnOk P w K mg base CX0 1 f_law_picks d_law_picks ["cell", "sizes"] (LSp0 C sp_law_picks 2)) (B_law_picks : Binds K d_law_picks ["cell", "sizes"] []) (M_law_picks : mg "_law_picks" = some (.ref f_law_picks)) (K_law_picks : PySem.W.keepIn K (.ref f_law_picks) = true) {f_law_cell_at : Addr} {d_law_cell_at : FuncData} (ok_law_cell_at : FnOk P w K mg base CX0 1 f_law_cell_at d_law_cell_at ["script", "k"] (LSp0 C sp_law_cell_at 2)) (B_law_cell_at : Binds K d_law_cell_at ["script", "k"] []) (M_law_cell_at : mg "_law_cell_at" = some (.ref f_law_cell_at)) (K_law_cell_at : PySem.W.keepIn K (.ref f_law_cell_at) = true) {f_Walker_trail : Addr} {d_Walker_trail : FuncData} (ok_Walker_trail : FnOk P w K mg base CX0 1 f_Walker_trail d_Walker_trail ["self"] (LSp0 C sp_Walker_trail 1)) (B_Walker_trail : Binds K d_Walker_trail ["self"] []) (wme1_Walker_trail : Meth K (C.cc.cl 1).1 "trail" f_Walker_trail) (wme2_Walker_trail : Meth K (C.cc.cl 2).1 "trail" f_Walker_trail) {f_law_walked : Addr} {d_law_walked : FuncData} (ok_law_walked : FnOk P w K mg base CX0 4 f_law_walked d_law_walked ["rows", "place", "steps"] (LSp0 C sp_law_walked 3)) (B_law_walked : Binds K d_law_walked ["rows", "place", "steps"] []) (M_law_walked : mg "_law_walked" = some (.ref f_law_walked)) (K_law_walked : PySem.W.keepIn K (.ref f_law_walked) = true) {f_Walker_here : Addr} {d_Walker_here : FuncData} (ok_Walker_here : FnOk P w K mg base CX0 1 f_Walker_here d_Walker_here ["self"] (LSp0 C sp_Walker_here 1)) (B_Walker_here : Binds K d_Walker_here ["self"] []) {p_Walker_here : Addr} (wpr1_Walker_here : PropOf K (C.cc.cl 1).1 "here" p_Walker_here f_Walker_here) (wpr2_Walker_here : PropOf K (C.cc.cl 2).1 "here" p_Walker_here f_Walker_here) {f_back_by : Addr} {d_back_by : FuncData} (ok_back_by : FnOk P w K mg base CX0 4 f_back_by d_back_by ["rule_map", "number", "word"] (LSp0 C sp_back_by 3)) (B_back_by : Binds K d_back_by ["rule_map", "number", "word"] []) (M_back_by : mg "back_by" = some (.ref f_back_by)) (K_back_by : PySem.W.keepIn K (.ref f_back_by) = true) {f_law_gcd : Addr} {d_law_gcd : FuncData} (ok_law_gcd : FnOk P w K mg base CX0 1 f_law_gcd d_law_gcd ["p", "q"] (LSp0 C sp_law_gcd 2)) (B_law_gcd : Binds K d_law_gcd ["p", "q"] []) (M_law_gcd : mg "_law_gcd" = some (.ref f_law_gcd)) (K_law_gcd : PySem.W.keepIn K (.ref f_law_gcd) = true) {f_law_rest : Addr} {d_law_rest : FuncData} (ok_law_rest : FnOk P w K mg base CX0 1 f_law_rest d_law_rest ["base", "number"] (LSp0 C sp_law_rest 2)) (B_law_rest : Binds K d_law_rest ["base", "number"] []) (M_law_rest : mg "_law_rest" = some (.ref f_law_rest)) (K_law_rest : PySem.W.keepIn K (.ref f_law_rest) = true) {f_law_pair : Addr} {d_law_pair : FuncData} (ok_law_pair : FnOk P w K mg base CX0 2 f_law_pair d_law_pair ["found"] (LSp0 C sp_law_pair 1)) (B_law_pair : Binds K d_law_pair ["found"] []) (M_law_pair : mg "_law_pair" = some (.ref f_law_pair)) (K_law_pair : PySem.W.keepIn K (.ref f_law_pair) = true) {f_Walker_back : Addr} {d_Walker_back : FuncData} (ok_Walker_back : FnOk P w K mg base CX0 7 f_Walker_back d_Walker_back ["self", "remainder"] (LSp0 C sp_Walker_back 2)) (B_Walker_back : Binds K d_Walker_back ["self", "remainder"] []) (wme1_Walker_back : Meth K (C.cc.cl 1).1 "back" f_Walker_back) {f_WholeWalker_back : Addr} {d_WholeWalker_back : FuncData} (ok_WholeWalker_back : FnOk P w K mg base CX0 8 f_WholeWalker_back d_WholeWalker_back ["self", "remainder"] (LSp0 C sp_WholeWalker_back 2)) (B_WholeWalker_back : Binds K d_WholeWalker_back ["self", "remainder"] []) (wme2_WholeWalker_back : Meth K (C.cc.cl 2).1 "back" f_WholeWalker_back) {f_law_pairs : Addr} {d_law_pairs : FuncData} (ok_law_pairs : FnOk P w K mg base CX0 3 f_law_pairs d_law_pairs ["found"] (LSp0 C sp_law_pairs 1)) (B_law_pairs : Binds K d_law_pairs ["found"] []) (M_law_pairs : mg "_law_pairs" = some (.ref f_law_pairs)) (K_law_pairs : PySem.W.keepIn K (.ref f_law_pairs) = true) {f_before : Addr} {d_before : FuncData} (ok_before : FnOk P w K mg base CX0 4 f_before d_before ["rule_map", "number"] (LSp0 C sp_before 2)) (B_before : Binds K d_before ["rule_map", "number"] []) (M_before : mg "before" = some (.ref f_before)) (K_before : PySem.W.keepIn K (.ref f_before) = true) {f_law_fraction : Addr} {d_law_fraction : FuncData} (ok_law_fraction : FnOk P w K mg base CX0 3 f_law_fraction d_law_fraction ["cell", "base"] (LSp0 C sp_law_fraction 2)) (B_law_fraction : Binds K d_law_fraction ["cell", "base"] []) (M_law_fraction : mg "_law_fraction" = some (.ref f_law_fraction)) (K_law_fraction : PySem.W.keepIn K (.ref f_law_fraction) = true) {f_Map_init : Addr} {d_Map_init : FuncData} (ok_Map_init : FnOk P w K mg base CX0 3 f_Map_init d_Map_init ["self", "modulus", "rules"] (LSp0 C sp_Map_init 3)) (B_Map_init : Binds K d_Map_init ["self", "modulus", "rules"] []) (mk_Map : Mk K (C.cc.cl 0).1 f_Map_init) (mg_Map : mg "Map" = some (.ref (C.cc.cl 0).1)) {f_law_rows : Addr} {d_law_rows : FuncData} (ok_law_rows : FnOk P w K mg base CX0 2 f_law_rows d_law_rows ["cell", "most", "beside", "far"] (LSp0 C sp_law_rows 4)) (B_law_rows : Binds K d_law_rows ["cell", "most", "beside", "far"] []) (M_law_rows : mg "_law_rows" = some (.ref f_law_rows)) (K_law_rows : PySem.W.keepIn K (.ref f_law_rows) = true) : FnOk P w K mg base CX0 11 f_law d_law ["script"] (LSp0 C sp_law 1) :=
  fn_ok F sc_law sat_law (by decide) fun cdv A outer s H E Z hcc hz hr => have hK : Z.cc.K = K := by rw [hcc]; exact cK
  (ds_cons (ds_frz (i := 1) (ds_set (i := 1) sc_law.nd (de_callN hcc hz ok_law_rows (hr.mono (by decide)) M_law_rows K_law_rows B_law_rows (dag_ro (de_callN hcc hz ok_law_cell_at (hr.mono (by decide)) M_law_cell_at K_law_cell_at B_law_cell_at (dag_ro (de_loc 0) (dag_ro de_int dag_nil))) (dag_ro de_int (dag_ro de_int (dag_ro (de_bin op_pow ops_pow de_int de_int) dag_nil)))))))
  (ds_cons (ds_frz (i := 2) (ds_set (i := 2) sc_law.nd (de_b1 call_lenA (ops_len hK) n_len (de_loc 1))))
  (ds_cons (ds_frz (i := 3) (ds_set (i := 3) sc_law.nd (de_makeN hcc hz (by rw [hcc]; exact mk_Map) ok_Map_init (hr.mono (by decide)) (by rw [hcc]; exact mg_Map) B_Map_init (dag_ro (de_loc 2) (dag_ro (de_t1 call_list_of (ops_list hK) n_list (de_loc 1)) dag_nil)))))
  (ds_cons (ds_frz (i := 4) (ds_set (i := 4) sc_law.nd (de_callN hcc hz ok_law_fraction (hr.mono (by decide)) M_law_fraction K_law_fraction B_law_fraction (dag_ro (de_callN hcc hz ok_law_cell_at (hr.mono (by decide)) M_law_cell_at K_law_cell_at B_law_cell_at (dag_ro (de_loc 0) (dag_ro de_int dag_nil))) (dag_ro (de_loc 2) dag_nil)))))
  (ds_cons (ds_frz (i := 5) (ds_setLc (i := 5) (own := [("cell", 16)]) rfl sc_law.nd (di_lst hK (de_slice hK (de_loc 0) (dp_some de_int) (dp_some de_int))) (blkOk_by (own := [("cell", 16)]) (N := ["script", "rows", "base", "one", "start", "along", "walker", "k", "rest", "due", "found", "handed", "places", "rests", "n", "whole", "cell"]) (sc := defScope s_law) (by decide +kernel)) (fun _ _ _ _ _ => (dgc_name (i := 16) sc_law.nd)) (fun _ _ _ _ _ _ _ => dts_nil) (fun _ _ _ _ _ _ _ => (de_ix hK (de_callN hcc rfl ok_law_picks (hr.mono (by decide)) M_law_picks K_law_picks B_law_picks (dag_ro (de_loc 16) (dag_ro (de_lst (da_cons (de_loc 2) da_nil)) dag_nil))) de_int)) (sw_true rfl rfl rfl (by decide +kernel))))
  (ds_cons (ds_set (i := 6) sc_law.nd (de_makeW hcc hz (by rw [hcc]; exact mk_Walker) ok_Walker_init (hr.mono (by decide)) (by rw [hcc]; exact mg_Walker) B_Walker_init (dag_ro (de_loc 3) (dag_ro (de_loc 4) dag_nil))))
  (ds_cons (ds_for PassesOwn.never rfl (di_r1 rfl n_range (da_cons (de_b1 call_lenA (ops_len hK) n_len (de_loc 5)) da_nil)) (dg_name (i := 7) sc_law.nd) (ds_cons (ds_frz (i := 8) (ds_set (i := 8) sc_law.nd (de_ix hK (de_loc 5) (de_bin op_sub ops_sub (de_bin op_sub ops_sub (de_b1 call_lenA (ops_len hK) n_len (de_loc 5)) de_int) (de_loc 7)))))
  (ds_cons (ds_frz (i := 9) (ds_set (i := 9) sc_law.nd (de_callN hcc hz ok_before (hr.mono (by decide)) M_before K_before B_before (dag_ro (de_loc 3) (dag_ro (de_propW hcc hz kLent_ok ⟨pokW hcc ck_Walker wpr1_Walker_here ok_Walker_here (hr.mono (by decide)) B_Walker_here, pokW hcc ck_WholeWalker wpr2_Walker_here ok_Walker_here (hr.mono (by decide)) B_Walker_here, trivial⟩ (de_loc 6)) dag_nil)))))
  (ds_cons (ds_if (PW.pt (dw_or (dt_not (dt_val (de_callN hcc hz ok_law_pairs (hr.mono (by decide)) M_law_pairs K_law_pairs B_law_pairs (dag_ro (de_loc 9) dag_nil)))) (dw_or1 (dt_cmp (op_neD hr.units) (ops_ne hK) (de_b1 call_lenA (ops_len hK) n_len (de_loc 9)) (de_loc 2) (nomark _))))) (ds_one (ds_ret de_bl)) ds_nil)
  (ds_cons (ds_frz (i := 10) (ds_set (i := 10) sc_law.nd (de_methW hcc hz kMut_ok ⟨mokW hcc ck_Walker wme1_Walker_back (by rw [fl_Walker]; decide +kernel) ok_Walker_back (hr.mono (by decide)) B_Walker_back, mokW hcc ck_WholeWalker wme2_WholeWalker_back (by rw [fl_WholeWalker]; decide +kernel) ok_WholeWalker_back (hr.mono (by decide)) B_WholeWalker_back, trivial⟩ (de_loc 6) (dag_ro (de_loc 8) dag_nil))))
  (ds_cons (ds_if (PW.pt (dw_or (dt_not (dt_val (de_callN hcc hz ok_law_pair (hr.mono (by decide)) M_law_pair K_law_pair B_law_pair (dag_ro (de_loc 10) dag_nil)))) (dw_or (dt_cmp (op_neD hr.units) (ops_ne hK) (de_loc 10) (de_ix hK (de_loc 9) (de_loc 8)) (nomark _)) (dw_or (dt_cmp op_lt ops_lt (de_ix hK (de_loc 10) de_int) de_int (nomark _)) (dw_or1 (dt_cmp (op_neD hr.units) (ops_ne hK) (de_callN hcc hz ok_law_gcd (hr.mono (by decide)) M_law_gcd K_law_gcd B_law_gcd (dag_ro (de_ix hK (de_loc 10) de_int) (dag_ro (de_loc 2) dag_nil))) de_int (nomark _))))))) (ds_one (ds_ret de_bl)) ds_nil)
  (ds_one (ds_if (PW.pt (dw_or (dt_cmp (op_neD hr.units) (ops_ne hK) (de_callN hcc hz ok_law_gcd (hr.mono (by decide)) M_law_gcd K_law_gcd B_law_gcd (dag_ro (de_ix hK (de_loc 10) de_int) (dag_ro (de_ix hK (de_loc 10) de_int) dag_nil))) de_int (nomark _)) (dw_or1 (dt_cmp (op_neD hr.units) (ops_ne hK) (de_callN hcc hz ok_law_rest (hr.mono (by decide)) M_law_rest K_law_rest B_law_rest (dag_ro (de_loc 2) (dag_ro (de_loc 10) dag_nil))) (de_loc 8) (nomark _))))) (ds_one (ds_ret de_bl)) ds_nil))))))))
  (ds_cons (ds_frz (i := 11) (ds_set (i := 11) sc_law.nd (de_t1 call_list_of (ops_list hK) n_list (de_loc 5))))
  (ds_cons (ds_if (PW.pt (dw_or (dt_cmp (op_neD hr.units) (ops_ne hK) (de_callN hcc hz ok_back_by (hr.mono (by decide)) M_back_by K_back_by B_back_by (dag_ro (de_loc 3) (dag_ro (de_loc 4) (dag_ro (de_loc 11) dag_nil)))) (de_propW hcc hz kLent_ok ⟨pokW hcc ck_Walker wpr1_Walker_here ok_Walker_here (hr.mono (by decide)) B_Walker_here, pokW hcc ck_WholeWalker wpr2_Walker_here ok_Walker_here (hr.mono (by decide)) B_Walker_here, trivial⟩ (de_loc 6)) (nomark _)) (dw_or1 (dt_cmp (op_neD hr.units) (ops_ne hK) (de_loc 11) (de_loc 5) (nomark _))))) (ds_one (ds_ret de_bl)) ds_nil)
  (ds_cons (ds_asg (de_callN hcc hz ok_law_walked (hr.mono (by decide)) M_law_walked K_law_walked B_law_walked (dag_ro (de_loc 1) (dag_ro (de_propW hcc hz kLent_ok ⟨pokW hcc ck_Walker wpr1_Walker_here ok_Walker_here (hr.mono (by decide)) B_Walker_here, pokW hcc ck_WholeWalker wpr2_Walker_here ok_Walker_here (hr.mono (by decide)) B_Walker_here, trivial⟩ (de_loc 6)) (dag_ro (de_b1 call_lenA (ops_len hK) n_len (de_loc 5)) dag_nil)))) (dg_tup rfl (dgs_cons (dg_name (i := 12) sc_law.nd) (dgs_cons (dg_name (i := 13) sc_law.nd) dgs_nil))))
  (ds_cons (ds_if (PW.pt (dw_or (dt_cmp (op_neD hr.units) (ops_ne hK) (de_loc 13) (de_loc 5) (nomark _)) (dw_or (dt_cmp (op_neD hr.units) (ops_ne hK) (de_ix hK (de_loc 12) (de_neg de_int)) (de_loc 4) (nomark _)) (dw_or1 (dt_cmp (op_neD hr.units) (ops_ne hK) (de_methW0 hcc hz kLent_ok ⟨mokW hcc ck_Walker wme1_Walker_trail (by rw [fl_Walker]; decide +kernel) ok_Walker_trail (hr.mono (by decide)) B_Walker_trail, mokW hcc ck_WholeWalker wme2_Walker_trail (by rw [fl_WholeWalker]; decide +kernel) ok_Walker_trail (hr.mono (by decide)) B_Walker_trail, trivial⟩ (de_loc 6)) (de_rev hK (de_loc 12)) (nomark _)))))) (ds_one (ds_ret de_bl)) ds_nil)
  (ds_cons (ds_frz (i := 14) (ds_set (i := 14) sc_law.nd (de_ix hK (de_callN hcc hz ok_law_picks (hr.mono (by decide)) M_law_picks K_law_picks B_law_picks (dag_ro (de_callN hcc hz ok_law_cell_at (hr.mono (by decide)) M_law_cell_at K_law_cell_at B_law_cell_at (dag_ro (de_loc 0) (dag_ro de_int dag_nil))) (dag_ro (de_lst (da_lit de_int (da_lit de_int (da_lit de_int (da_lit0 da_nil))))) dag_nil))) de_int)))
  (ds_cons (ds_if (dt_not (dt_val (de_callG hcc hz ok_law_there_and_back (hr.mono (by decide)) M_law_there_and_back K_law_there_and_back B_law_there_and_back (dag_tm (de_makeW hcc hz (by rw [hcc]; exact mk_Walker) ok_Walker_init (hr.mono (by decide)) (by rw [hcc]; exact mg_Walker) B_Walker_init (dag_ro (de_loc 3) (dag_ro (de_loc 4) dag_nil))) fun _ _ => (dag_ro (de_loc 1) (dag_ro (de_loc 4) (dag_ro (de_loc 14) dag_nil))))))) (ds_one (ds_ret de_bl)) ds_nil)
  (ds_cons (ds_set (i := 15) sc_law.nd (de_tup (da_cons (de_ix hK (de_loc 4) de_int) (da_cons de_int da_nil))))
  (ds_one (ds_ret (de_and (de_callG hcc hz ok_law_there_and_back (hr.mono (by decide)) M_law_there_and_back K_law_there_and_back B_law_there_and_back (dag_tm (de_makeW hcc hz (by rw [hcc]; exact mk_WholeWalker) ok_WholeWalker_init (hr.mono (by decide)) (by rw [hcc]; exact mg_WholeWalker) B_WholeWalker_init (dag_ro (de_loc 3) (dag_ro (de_loc 15) dag_nil))) fun _ _ => (dag_ro (de_loc 1) (dag_ro (de_loc 15) (dag_ro (de_loc 14) dag_nil))))) (de_one (de_cmp (op_eqD hr.units) (ops_eq hK) (de_prop hcc hz (by rw [hcc]; exact ck_Map) (by rw [hcc]; exact pr_Map_rules) ok_Map_rules (hr.mono (by decide)) B_Map_rules (de_loc 3)) (de_loc 1) (nomark _))))))))))))))))))))
end
theorem all_mk {l : PySem.W.OpenLaw} {w : World} {K : PySem.W.Frag} {h : Heap} {mg : Str → Option Value} {fa f_law_whole f_law_pair f_law_pairs f_Walker_word f_Walker_len f_Walker_trail f_gcd f_lowest f_joined_form f_Map_rules f_check_word f_Map_modulus f_form_of f_is_fraction f_is_good f_back_by f_Walker_here f_Walker_fraction_behind f_Walker_back f_WholeWalker_back f_inverse f_remainder_by f_stepped f_check_number f_check_fraction f_walk f_word_of f_Walker_call f_law_gcd f_law_lowest f_law_rest f_law_move f_law_walked f_law_there_and_back f_Walker_init f_WholeWalker_init f_law_picks f_law_cell_at f_before f_law_fraction f_is_rule f_Map_init f_law_rows f_law c_Map c_Walker c_WholeWalker p_Map_rules p_Map_modulus p_Walker_here : Addr} (X : K.In h) (G : h.Ns mainGlobals mg) (hfa : mg "law" = some (.ref fa))
    {od_law_whole an_law_whole od_law_pair an_law_pair od_law_pairs an_law_pairs od_Walker_word an_Walker_word od_Walker_len an_Walker_len od_Walker_trail an_Walker_trail od_gcd an_gcd od_lowest an_lowest od_joined_form an_joined_form od_Map_rules an_Map_rules od_check_word an_check_word od_Map_modulus an_Map_modulus od_form_of an_form_of od_is_fraction an_is_fraction od_is_good an_is_good od_back_by an_back_by od_Walker_here an_Walker_here od_Walker_fraction_behind an_Walker_fraction_behind od_Walker_back an_Walker_back od_WholeWalker_back an_WholeWalker_back od_inverse an_inverse od_remainder_by an_remainder_by od_stepped an_stepped od_check_number an_check_number od_check_fraction an_check_fraction od_walk an_walk od_word_of an_word_of od_Walker_call an_Walker_call od_law_gcd an_law_gcd od_law_lowest an_law_lowest od_law_rest an_law_rest od_law_move an_law_move od_law_walked an_law_walked od_law_there_and_back an_law_there_and_back od_Walker_init an_Walker_init od_WholeWalker_init an_WholeWalker_init od_law_picks an_law_picks od_law_cell_at an_law_cell_at od_before an_before od_law_fraction an_law_fraction od_is_rule an_is_rule od_Map_init an_Map_init od_law_rows an_law_rows od_law an_law : Option Addr} {sl_law_whole sl_law_pair sl_law_pairs sl_Walker_word sl_Walker_len sl_Walker_trail sl_gcd sl_lowest sl_joined_form sl_Map_rules sl_check_word sl_Map_modulus sl_form_of sl_is_fraction sl_is_good sl_back_by sl_Walker_here sl_Walker_fraction_behind sl_Walker_back sl_WholeWalker_back sl_inverse sl_remainder_by sl_stepped sl_check_number sl_check_fraction sl_walk sl_word_of sl_Walker_call sl_law_gcd sl_law_lowest sl_law_rest sl_law_move sl_law_walked sl_law_there_and_back sl_Walker_init sl_WholeWalker_init sl_law_picks sl_law_cell_at sl_before sl_law_fraction sl_is_rule sl_Map_init sl_law_rows sl_law : Array (Option Value)} {oc_law_whole kV_law_whole dc_law_whole pm_law_whole cd_law_whole ct_law_whole oc_law_pair kV_law_pair dc_law_pair pm_law_pair cd_law_pair ct_law_pair oc_law_pairs kV_law_pairs dc_law_pairs pm_law_pairs cd_law_pairs ct_law_pairs oc_Walker_word kV_Walker_word dc_Walker_word pm_Walker_word cd_Walker_word ct_Walker_word oc_Walker_len kV_Walker_len dc_Walker_len pm_Walker_len cd_Walker_len ct_Walker_len oc_Walker_trail kV_Walker_trail dc_Walker_trail pm_Walker_trail cd_Walker_trail ct_Walker_trail oc_gcd kV_gcd dc_gcd pm_gcd cd_gcd ct_gcd oc_lowest kV_lowest dc_lowest pm_lowest cd_lowest ct_lowest oc_joined_form kV_joined_form dc_joined_form pm_joined_form cd_joined_form ct_joined_form oc_Map_rules kV_Map_rules dc_Map_rules pm_Map_rules cd_Map_rules ct_Map_rules oc_check_word kV_check_word dc_check_word pm_check_word cd_check_word ct_check_word oc_Map_modulus kV_Map_modulus dc_Map_modulus pm_Map_modulus cd_Map_modulus ct_Map_modulus oc_form_of kV_form_of dc_form_of pm_form_of cd_form_of ct_form_of oc_is_fraction kV_is_fraction dc_is_fraction pm_is_fraction cd_is_fraction ct_is_fraction oc_is_good kV_is_good dc_is_good pm_is_good cd_is_good ct_is_good oc_back_by kV_back_by dc_back_by pm_back_by cd_back_by ct_back_by oc_Walker_here kV_Walker_here dc_Walker_here pm_Walker_here cd_Walker_here ct_Walker_here oc_Walker_fraction_behind kV_Walker_fraction_behind dc_Walker_fraction_behind pm_Walker_fraction_behind cd_Walker_fraction_behind ct_Walker_fraction_behind oc_Walker_back kV_Walker_back dc_Walker_back pm_Walker_back cd_Walker_back ct_Walker_back oc_WholeWalker_back kV_WholeWalker_back dc_WholeWalker_back pm_WholeWalker_back cd_WholeWalker_back ct_WholeWalker_back oc_inverse kV_inverse dc_inverse pm_inverse cd_inverse ct_inverse oc_remainder_by kV_remainder_by dc_remainder_by pm_remainder_by cd_remainder_by ct_remainder_by oc_stepped kV_stepped dc_stepped pm_stepped cd_stepped ct_stepped oc_check_number kV_check_number dc_check_number pm_check_number cd_check_number ct_check_number oc_check_fraction kV_check_fraction dc_check_fraction pm_check_fraction cd_check_fraction ct_check_fraction oc_walk kV_walk dc_walk pm_walk cd_walk ct_walk oc_word_of kV_word_of dc_word_of pm_word_of cd_word_of ct_word_of oc_Walker_call kV_Walker_call dc_Walker_call pm_Walker_call cd_Walker_call ct_Walker_call oc_law_gcd kV_law_gcd dc_law_gcd pm_law_gcd cd_law_gcd ct_law_gcd oc_law_lowest kV_law_lowest dc_law_lowest pm_law_lowest cd_law_lowest ct_law_lowest oc_law_rest kV_law_rest dc_law_rest pm_law_rest cd_law_rest ct_law_rest oc_law_move kV_law_move dc_law_move pm_law_move cd_law_move ct_law_move oc_law_walked kV_law_walked dc_law_walked pm_law_walked cd_law_walked ct_law_walked oc_law_there_and_back kV_law_there_and_back dc_law_there_and_back pm_law_there_and_back cd_law_there_and_back ct_law_there_and_back oc_Walker_init kV_Walker_init dc_Walker_init pm_Walker_init cd_Walker_init ct_Walker_init oc_WholeWalker_init kV_WholeWalker_init dc_WholeWalker_init pm_WholeWalker_init cd_WholeWalker_init ct_WholeWalker_init oc_law_picks kV_law_picks dc_law_picks pm_law_picks cd_law_picks ct_law_picks oc_law_cell_at kV_law_cell_at dc_law_cell_at pm_law_cell_at cd_law_cell_at ct_law_cell_at oc_before kV_before dc_before pm_before cd_before ct_before oc_law_fraction kV_law_fraction dc_law_fraction pm_law_fraction cd_law_fraction ct_law_fraction oc_is_rule kV_is_rule dc_is_rule pm_is_rule cd_is_rule ct_is_rule oc_Map_init kV_Map_init dc_Map_init pm_Map_init cd_Map_init ct_Map_init oc_law_rows kV_law_rows dc_law_rows pm_law_rows cd_law_rows ct_law_rows oc_law kV_law dc_law pm_law cd_law ct_law : Value} {rest_Map_rules rest_Map_modulus rest_Walker_here : List Value}
    (wfc_Walker_back : PySem.W.findCls K (.ref c_Walker) (.type "type") "back" = some (.val (.ref f_Walker_back)))
    (wfc_Walker_init : PySem.W.findCls K (.ref c_Walker) (.type "type") "__init__" = some (.val (.ref f_Walker_init)))
    (wrd1 : PySem.W.readsIn K c_Walker (.type "type") = true)
    (wrd2 : PySem.W.specialIn K (.ref c_Walker) "__getattribute__" = some (some (.builtin "type.__getattribute__")))
    (a_Map : PySem.W.nsIn K mainGlobals "Map" = some (some (.ref c_Map)))
    (a_Walker : PySem.W.nsIn K mainGlobals "Walker" = some (some (.ref c_Walker)))
    (a_WholeWalker : PySem.W.nsIn K mainGlobals "WholeWalker" = some (some (.ref c_WholeWalker)))
    (at_law_whole : PySem.W.nsIn K mainGlobals "_law_whole" = some (some (.ref f_law_whole)))
    (lo_law_whole : K.lookup f_law_whole = some ⟨oc_law_whole, od_law_whole, .func (PySem.W.fnOf "_law_whole" "_law_whole" (defArgs s_law_whole) (defBody s_law_whole) (defScope s_law_whole) .none kV_law_whole dc_law_whole pm_law_whole an_law_whole cd_law_whole ct_law_whole), sl_law_whole⟩)
    (co_law_whole : PySem.W.codeIn K cd_law_whole "_law_whole" = true)
    (ke_law_whole : PySem.W.keepIn K (.ref f_law_whole) = true)
    (at_law_pair : PySem.W.nsIn K mainGlobals "_law_pair" = some (some (.ref f_law_pair)))
    (lo_law_pair : K.lookup f_law_pair = some ⟨oc_law_pair, od_law_pair, .func (PySem.W.fnOf "_law_pair" "_law_pair" (defArgs s_law_pair) (defBody s_law_pair) (defScope s_law_pair) .none kV_law_pair dc_law_pair pm_law_pair an_law_pair cd_law_pair ct_law_pair), sl_law_pair⟩)
    (co_law_pair : PySem.W.codeIn K cd_law_pair "_law_pair" = true)
    (ke_law_pair : PySem.W.keepIn K (.ref f_law_pair) = true)
    (at_law_pairs : PySem.W.nsIn K mainGlobals "_law_pairs" = some (some (.ref f_law_pairs)))
    (lo_law_pairs : K.lookup f_law_pairs = some ⟨oc_law_pairs, od_law_pairs, .func (PySem.W.fnOf "_law_pairs" "_law_pairs" (defArgs s_law_pairs) (defBody s_law_pairs) (defScope s_law_pairs) .none kV_law_pairs dc_law_pairs pm_law_pairs an_law_pairs cd_law_pairs ct_law_pairs), sl_law_pairs⟩)
    (co_law_pairs : PySem.W.codeIn K cd_law_pairs "_law_pairs" = true)
    (ke_law_pairs : PySem.W.keepIn K (.ref f_law_pairs) = true)
    (watme1_Walker_word : PySem.W.findIn K (.ref c_Walker) "word" = some (some (.ref f_Walker_word)))
    (watme2_Walker_word : PySem.W.findIn K (.ref c_WholeWalker) "word" = some (some (.ref f_Walker_word)))
    (is_Walker_word : PySem.W.isFn K (.ref f_Walker_word) = true)
    (lo_Walker_word : K.lookup f_Walker_word = some ⟨oc_Walker_word, od_Walker_word, .func (PySem.W.fnOf "word" "Walker.word" (defArgs s_Walker_word) (defBody s_Walker_word) (defScope s_Walker_word) .none kV_Walker_word dc_Walker_word pm_Walker_word an_Walker_word cd_Walker_word ct_Walker_word), sl_Walker_word⟩)
    (co_Walker_word : PySem.W.codeIn K cd_Walker_word "Walker.word" = true)
    (ke_Walker_word : PySem.W.keepIn K (.ref f_Walker_word) = true)
    (watme1_Walker_len : PySem.W.findIn K (.ref c_Walker) "__len__" = some (some (.ref f_Walker_len)))
    (watme2_Walker_len : PySem.W.findIn K (.ref c_WholeWalker) "__len__" = some (some (.ref f_Walker_len)))
    (is_Walker_len : PySem.W.isFn K (.ref f_Walker_len) = true)
    (lo_Walker_len : K.lookup f_Walker_len = some ⟨oc_Walker_len, od_Walker_len, .func (PySem.W.fnOf "__len__" "Walker.__len__" (defArgs s_Walker_len) (defBody s_Walker_len) (defScope s_Walker_len) .none kV_Walker_len dc_Walker_len pm_Walker_len an_Walker_len cd_Walker_len ct_Walker_len), sl_Walker_len⟩)
    (co_Walker_len : PySem.W.codeIn K cd_Walker_len "Walker.__len__" = true)
    (ke_Walker_len : PySem.W.keepIn K (.ref f_Walker_len) = true)
    (watme1_Walker_trail : PySem.W.findIn K (.ref c_Walker) "trail" = some (some (.ref f_Walker_trail)))
    (watme2_Walker_trail : PySem.W.findIn K (.ref c_WholeWalker) "trail" = some (some (.ref f_Walker_trail)))
    (is_Walker_trail : PySem.W.isFn K (.ref f_Walker_trail) = true)
    (lo_Walker_trail : K.lookup f_Walker_trail = some ⟨oc_Walker_trail, od_Walker_trail, .func (PySem.W.fnOf "trail" "Walker.trail" (defArgs s_Walker_trail) (defBody s_Walker_trail) (defScope s_Walker_trail) .none kV_Walker_trail dc_Walker_trail pm_Walker_trail an_Walker_trail cd_Walker_trail ct_Walker_trail), sl_Walker_trail⟩)
    (co_Walker_trail : PySem.W.codeIn K cd_Walker_trail "Walker.trail" = true)
    (ke_Walker_trail : PySem.W.keepIn K (.ref f_Walker_trail) = true)
    (at_gcd : PySem.W.nsIn K mainGlobals "gcd" = some (some (.ref f_gcd)))
    (lo_gcd : K.lookup f_gcd = some ⟨oc_gcd, od_gcd, .func (PySem.W.fnOf "gcd" "gcd" (defArgs s_gcd) (defBody s_gcd) (defScope s_gcd) .none kV_gcd dc_gcd pm_gcd an_gcd cd_gcd ct_gcd), sl_gcd⟩)
    (co_gcd : PySem.W.codeIn K cd_gcd "gcd" = true)
    (ke_gcd : PySem.W.keepIn K (.ref f_gcd) = true)
    (at_lowest : PySem.W.nsIn K mainGlobals "lowest" = some (some (.ref f_lowest)))
    (lo_lowest : K.lookup f_lowest = some ⟨oc_lowest, od_lowest, .func (PySem.W.fnOf "lowest" "lowest" (defArgs s_lowest) (defBody s_lowest) (defScope s_lowest) .none kV_lowest dc_lowest pm_lowest an_lowest cd_lowest ct_lowest), sl_lowest⟩)
    (co_lowest : PySem.W.codeIn K cd_lowest "lowest" = true)
    (ke_lowest : PySem.W.keepIn K (.ref f_lowest) = true)
    (at_joined_form : PySem.W.nsIn K mainGlobals "joined_form" = some (some (.ref f_joined_form)))
    (lo_joined_form : K.lookup f_joined_form = some ⟨oc_joined_form, od_joined_form, .func (PySem.W.fnOf "joined_form" "joined_form" (defArgs s_joined_form) (defBody s_joined_form) (defScope s_joined_form) .none kV_joined_form dc_joined_form pm_joined_form an_joined_form cd_joined_form ct_joined_form), sl_joined_form⟩)
    (co_joined_form : PySem.W.codeIn K cd_joined_form "joined_form" = true)
    (ke_joined_form : PySem.W.keepIn K (.ref f_joined_form) = true)
    (at_Map_rules : PySem.W.findIn K (.ref c_Map) "rules" = some (some (.ref p_Map_rules)))
    (gt_Map_rules : PySem.W.specialIn K (.ref p_Map_rules) "__get__" = some (some (.builtin "property.__get__")))
    (tk_Map_rules : PySem.W.takesIn K (.ref p_Map_rules) = some true)
    (rc_Map_rules : PySem.W.recIn K p_Map_rules "property" = some (.ref f_Map_rules :: rest_Map_rules))
    (lo_Map_rules : K.lookup f_Map_rules = some ⟨oc_Map_rules, od_Map_rules, .func (PySem.W.fnOf "rules" "Map.rules" (defArgs s_Map_rules) (defBody s_Map_rules) (defScope s_Map_rules) .none kV_Map_rules dc_Map_rules pm_Map_rules an_Map_rules cd_Map_rules ct_Map_rules), sl_Map_rules⟩)
    (co_Map_rules : PySem.W.codeIn K cd_Map_rules "Map.rules" = true)
    (ke_Map_rules : PySem.W.keepIn K (.ref f_Map_rules) = true)
    (at_check_word : PySem.W.nsIn K mainGlobals "check_word" = some (some (.ref f_check_word)))
    (lo_check_word : K.lookup f_check_word = some ⟨oc_check_word, od_check_word, .func (PySem.W.fnOf "check_word" "check_word" (defArgs s_check_word) (defBody s_check_word) (defScope s_check_word) .none kV_check_word dc_check_word pm_check_word an_check_word cd_check_word ct_check_word), sl_check_word⟩)
    (co_check_word : PySem.W.codeIn K cd_check_word "check_word" = true)
    (ke_check_word : PySem.W.keepIn K (.ref f_check_word) = true)
    (at_Map_modulus : PySem.W.findIn K (.ref c_Map) "modulus" = some (some (.ref p_Map_modulus)))
    (gt_Map_modulus : PySem.W.specialIn K (.ref p_Map_modulus) "__get__" = some (some (.builtin "property.__get__")))
    (tk_Map_modulus : PySem.W.takesIn K (.ref p_Map_modulus) = some true)
    (rc_Map_modulus : PySem.W.recIn K p_Map_modulus "property" = some (.ref f_Map_modulus :: rest_Map_modulus))
    (lo_Map_modulus : K.lookup f_Map_modulus = some ⟨oc_Map_modulus, od_Map_modulus, .func (PySem.W.fnOf "modulus" "Map.modulus" (defArgs s_Map_modulus) (defBody s_Map_modulus) (defScope s_Map_modulus) .none kV_Map_modulus dc_Map_modulus pm_Map_modulus an_Map_modulus cd_Map_modulus ct_Map_modulus), sl_Map_modulus⟩)
    (co_Map_modulus : PySem.W.codeIn K cd_Map_modulus "Map.modulus" = true)
    (ke_Map_modulus : PySem.W.keepIn K (.ref f_Map_modulus) = true)
    (at_form_of : PySem.W.nsIn K mainGlobals "form_of" = some (some (.ref f_form_of)))
    (lo_form_of : K.lookup f_form_of = some ⟨oc_form_of, od_form_of, .func (PySem.W.fnOf "form_of" "form_of" (defArgs s_form_of) (defBody s_form_of) (defScope s_form_of) .none kV_form_of dc_form_of pm_form_of an_form_of cd_form_of ct_form_of), sl_form_of⟩)
    (co_form_of : PySem.W.codeIn K cd_form_of "form_of" = true)
    (ke_form_of : PySem.W.keepIn K (.ref f_form_of) = true)
    (at_is_fraction : PySem.W.nsIn K mainGlobals "is_fraction" = some (some (.ref f_is_fraction)))
    (lo_is_fraction : K.lookup f_is_fraction = some ⟨oc_is_fraction, od_is_fraction, .func (PySem.W.fnOf "is_fraction" "is_fraction" (defArgs s_is_fraction) (defBody s_is_fraction) (defScope s_is_fraction) .none kV_is_fraction dc_is_fraction pm_is_fraction an_is_fraction cd_is_fraction ct_is_fraction), sl_is_fraction⟩)
    (co_is_fraction : PySem.W.codeIn K cd_is_fraction "is_fraction" = true)
    (ke_is_fraction : PySem.W.keepIn K (.ref f_is_fraction) = true)
    (at_is_good : PySem.W.nsIn K mainGlobals "is_good" = some (some (.ref f_is_good)))
    (lo_is_good : K.lookup f_is_good = some ⟨oc_is_good, od_is_good, .func (PySem.W.fnOf "is_good" "is_good" (defArgs s_is_good) (defBody s_is_good) (defScope s_is_good) .none kV_is_good dc_is_good pm_is_good an_is_good cd_is_good ct_is_good), sl_is_good⟩)
    (co_is_good : PySem.W.codeIn K cd_is_good "is_good" = true)
    (ke_is_good : PySem.W.keepIn K (.ref f_is_good) = true)
    (at_back_by : PySem.W.nsIn K mainGlobals "back_by" = some (some (.ref f_back_by)))
    (lo_back_by : K.lookup f_back_by = some ⟨oc_back_by, od_back_by, .func (PySem.W.fnOf "back_by" "back_by" (defArgs s_back_by) (defBody s_back_by) (defScope s_back_by) .none kV_back_by dc_back_by pm_back_by an_back_by cd_back_by ct_back_by), sl_back_by⟩)
    (co_back_by : PySem.W.codeIn K cd_back_by "back_by" = true)
    (ke_back_by : PySem.W.keepIn K (.ref f_back_by) = true)
    (watpr1_Walker_here : PySem.W.findIn K (.ref c_Walker) "here" = some (some (.ref p_Walker_here)))
    (gt_Walker_here : PySem.W.specialIn K (.ref p_Walker_here) "__get__" = some (some (.builtin "property.__get__")))
    (tk_Walker_here : PySem.W.takesIn K (.ref p_Walker_here) = some true)
    (rc_Walker_here : PySem.W.recIn K p_Walker_here "property" = some (.ref f_Walker_here :: rest_Walker_here))
    (watpr2_Walker_here : PySem.W.findIn K (.ref c_WholeWalker) "here" = some (some (.ref p_Walker_here)))
    (is_Walker_here : PySem.W.isFn K (.ref f_Walker_here) = true)
    (lo_Walker_here : K.lookup f_Walker_here = some ⟨oc_Walker_here, od_Walker_here, .func (PySem.W.fnOf "here" "Walker.here" (defArgs s_Walker_here) (defBody s_Walker_here) (defScope s_Walker_here) .none kV_Walker_here dc_Walker_here pm_Walker_here an_Walker_here cd_Walker_here ct_Walker_here), sl_Walker_here⟩)
    (co_Walker_here : PySem.W.codeIn K cd_Walker_here "Walker.here" = true)
    (ke_Walker_here : PySem.W.keepIn K (.ref f_Walker_here) = true)
    (watme1_Walker_fraction_behind : PySem.W.findIn K (.ref c_Walker) "fraction_behind" = some (some (.ref f_Walker_fraction_behind)))
    (watme2_Walker_fraction_behind : PySem.W.findIn K (.ref c_WholeWalker) "fraction_behind" = some (some (.ref f_Walker_fraction_behind)))
    (is_Walker_fraction_behind : PySem.W.isFn K (.ref f_Walker_fraction_behind) = true)
    (lo_Walker_fraction_behind : K.lookup f_Walker_fraction_behind = some ⟨oc_Walker_fraction_behind, od_Walker_fraction_behind, .func (PySem.W.fnOf "fraction_behind" "Walker.fraction_behind" (defArgs s_Walker_fraction_behind) (defBody s_Walker_fraction_behind) (defScope s_Walker_fraction_behind) .none kV_Walker_fraction_behind dc_Walker_fraction_behind pm_Walker_fraction_behind an_Walker_fraction_behind cd_Walker_fraction_behind ct_Walker_fraction_behind), sl_Walker_fraction_behind⟩)
    (co_Walker_fraction_behind : PySem.W.codeIn K cd_Walker_fraction_behind "Walker.fraction_behind" = true)
    (ke_Walker_fraction_behind : PySem.W.keepIn K (.ref f_Walker_fraction_behind) = true)
    (watme1_Walker_back : PySem.W.findIn K (.ref c_Walker) "back" = some (some (.ref f_Walker_back)))
    (is_Walker_back : PySem.W.isFn K (.ref f_Walker_back) = true)
    (lo_Walker_back : K.lookup f_Walker_back = some ⟨oc_Walker_back, od_Walker_back, .func (PySem.W.fnOf "back" "Walker.back" (defArgs s_Walker_back) (defBody s_Walker_back) (defScope s_Walker_back) .none kV_Walker_back dc_Walker_back pm_Walker_back an_Walker_back cd_Walker_back ct_Walker_back), sl_Walker_back⟩)
    (co_Walker_back : PySem.W.codeIn K cd_Walker_back "Walker.back" = true)
    (ke_Walker_back : PySem.W.keepIn K (.ref f_Walker_back) = true)
    (watme2_WholeWalker_back : PySem.W.findIn K (.ref c_WholeWalker) "back" = some (some (.ref f_WholeWalker_back)))
    (is_WholeWalker_back : PySem.W.isFn K (.ref f_WholeWalker_back) = true)
    (lo_WholeWalker_back : K.lookup f_WholeWalker_back = some ⟨oc_WholeWalker_back, od_WholeWalker_back, .func (PySem.W.fnOf "back" "WholeWalker.back" (defArgs s_WholeWalker_back) (defBody s_WholeWalker_back) (defScope s_WholeWalker_back) .none kV_WholeWalker_back dc_WholeWalker_back pm_WholeWalker_back an_WholeWalker_back cd_WholeWalker_back ct_WholeWalker_back), sl_WholeWalker_back⟩)
    (co_WholeWalker_back : PySem.W.codeIn K cd_WholeWalker_back "WholeWalker.back" = true)
    (ke_WholeWalker_back : PySem.W.keepIn K (.ref f_WholeWalker_back) = true)
    (at_inverse : PySem.W.nsIn K mainGlobals "inverse" = some (some (.ref f_inverse)))
    (lo_inverse : K.lookup f_inverse = some ⟨oc_inverse, od_inverse, .func (PySem.W.fnOf "inverse" "inverse" (defArgs s_inverse) (defBody s_inverse) (defScope s_inverse) .none kV_inverse dc_inverse pm_inverse an_inverse cd_inverse ct_inverse), sl_inverse⟩)
    (co_inverse : PySem.W.codeIn K cd_inverse "inverse" = true)
    (ke_inverse : PySem.W.keepIn K (.ref f_inverse) = true)
    (at_remainder_by : PySem.W.nsIn K mainGlobals "remainder_by" = some (some (.ref f_remainder_by)))
    (lo_remainder_by : K.lookup f_remainder_by = some ⟨oc_remainder_by, od_remainder_by, .func (PySem.W.fnOf "remainder_by" "remainder_by" (defArgs s_remainder_by) (defBody s_remainder_by) (defScope s_remainder_by) .none kV_remainder_by dc_remainder_by pm_remainder_by an_remainder_by cd_remainder_by ct_remainder_by), sl_remainder_by⟩)
    (co_remainder_by : PySem.W.codeIn K cd_remainder_by "remainder_by" = true)
    (ke_remainder_by : PySem.W.keepIn K (.ref f_remainder_by) = true)
    (at_stepped : PySem.W.nsIn K mainGlobals "stepped" = some (some (.ref f_stepped)))
    (lo_stepped : K.lookup f_stepped = some ⟨oc_stepped, od_stepped, .func (PySem.W.fnOf "stepped" "stepped" (defArgs s_stepped) (defBody s_stepped) (defScope s_stepped) .none kV_stepped dc_stepped pm_stepped an_stepped cd_stepped ct_stepped), sl_stepped⟩)
    (co_stepped : PySem.W.codeIn K cd_stepped "stepped" = true)
    (ke_stepped : PySem.W.keepIn K (.ref f_stepped) = true)
    (at_check_number : PySem.W.nsIn K mainGlobals "check_number" = some (some (.ref f_check_number)))
    (lo_check_number : K.lookup f_check_number = some ⟨oc_check_number, od_check_number, .func (PySem.W.fnOf "check_number" "check_number" (defArgs s_check_number) (defBody s_check_number) (defScope s_check_number) .none kV_check_number dc_check_number pm_check_number an_check_number cd_check_number ct_check_number), sl_check_number⟩)
    (co_check_number : PySem.W.codeIn K cd_check_number "check_number" = true)
    (ke_check_number : PySem.W.keepIn K (.ref f_check_number) = true)
    (at_check_fraction : PySem.W.nsIn K mainGlobals "check_fraction" = some (some (.ref f_check_fraction)))
    (lo_check_fraction : K.lookup f_check_fraction = some ⟨oc_check_fraction, od_check_fraction, .func (PySem.W.fnOf "check_fraction" "check_fraction" (defArgs s_check_fraction) (defBody s_check_fraction) (defScope s_check_fraction) .none kV_check_fraction dc_check_fraction pm_check_fraction an_check_fraction cd_check_fraction ct_check_fraction), sl_check_fraction⟩)
    (co_check_fraction : PySem.W.codeIn K cd_check_fraction "check_fraction" = true)
    (ke_check_fraction : PySem.W.keepIn K (.ref f_check_fraction) = true)
    (at_walk : PySem.W.nsIn K mainGlobals "walk" = some (some (.ref f_walk)))
    (lo_walk : K.lookup f_walk = some ⟨oc_walk, od_walk, .func (PySem.W.fnOf "walk" "walk" (defArgs s_walk) (defBody s_walk) (defScope s_walk) .none kV_walk dc_walk pm_walk an_walk cd_walk ct_walk), sl_walk⟩)
    (co_walk : PySem.W.codeIn K cd_walk "walk" = true)
    (ke_walk : PySem.W.keepIn K (.ref f_walk) = true)
    (at_word_of : PySem.W.nsIn K mainGlobals "word_of" = some (some (.ref f_word_of)))
    (lo_word_of : K.lookup f_word_of = some ⟨oc_word_of, od_word_of, .func (PySem.W.fnOf "word_of" "word_of" (defArgs s_word_of) (defBody s_word_of) (defScope s_word_of) .none kV_word_of dc_word_of pm_word_of an_word_of cd_word_of ct_word_of), sl_word_of⟩)
    (co_word_of : PySem.W.codeIn K cd_word_of "word_of" = true)
    (ke_word_of : PySem.W.keepIn K (.ref f_word_of) = true)
    (watca1_Walker_call : PySem.W.findIn K (.ref c_Walker) "__call__" = some (some (.ref f_Walker_call)))
    (wfi_Walker_call : PySem.W.fnIn K f_Walker_call = true)
    (watca2_Walker_call : PySem.W.findIn K (.ref c_WholeWalker) "__call__" = some (some (.ref f_Walker_call)))
    (is_Walker_call : PySem.W.isFn K (.ref f_Walker_call) = true)
    (lo_Walker_call : K.lookup f_Walker_call = some ⟨oc_Walker_call, od_Walker_call, .func (PySem.W.fnOf "__call__" "Walker.__call__" (defArgs s_Walker_call) (defBody s_Walker_call) (defScope s_Walker_call) .none kV_Walker_call dc_Walker_call pm_Walker_call an_Walker_call cd_Walker_call ct_Walker_call), sl_Walker_call⟩)
    (co_Walker_call : PySem.W.codeIn K cd_Walker_call "Walker.__call__" = true)
    (ke_Walker_call : PySem.W.keepIn K (.ref f_Walker_call) = true)
    (at_law_gcd : PySem.W.nsIn K mainGlobals "_law_gcd" = some (some (.ref f_law_gcd)))
    (lo_law_gcd : K.lookup f_law_gcd = some ⟨oc_law_gcd, od_law_gcd, .func (PySem.W.fnOf "_law_gcd" "_law_gcd" (defArgs s_law_gcd) (defBody s_law_gcd) (defScope s_law_gcd) .none kV_law_gcd dc_law_gcd pm_law_gcd an_law_gcd cd_law_gcd ct_law_gcd), sl_law_gcd⟩)
    (co_law_gcd : PySem.W.codeIn K cd_law_gcd "_law_gcd" = true)
    (ke_law_gcd : PySem.W.keepIn K (.ref f_law_gcd) = true)
    (at_law_lowest : PySem.W.nsIn K mainGlobals "_law_lowest" = some (some (.ref f_law_lowest)))
    (lo_law_lowest : K.lookup f_law_lowest = some ⟨oc_law_lowest, od_law_lowest, .func (PySem.W.fnOf "_law_lowest" "_law_lowest" (defArgs s_law_lowest) (defBody s_law_lowest) (defScope s_law_lowest) .none kV_law_lowest dc_law_lowest pm_law_lowest an_law_lowest cd_law_lowest ct_law_lowest), sl_law_lowest⟩)
    (co_law_lowest : PySem.W.codeIn K cd_law_lowest "_law_lowest" = true)
    (ke_law_lowest : PySem.W.keepIn K (.ref f_law_lowest) = true)
    (at_law_rest : PySem.W.nsIn K mainGlobals "_law_rest" = some (some (.ref f_law_rest)))
    (lo_law_rest : K.lookup f_law_rest = some ⟨oc_law_rest, od_law_rest, .func (PySem.W.fnOf "_law_rest" "_law_rest" (defArgs s_law_rest) (defBody s_law_rest) (defScope s_law_rest) .none kV_law_rest dc_law_rest pm_law_rest an_law_rest cd_law_rest ct_law_rest), sl_law_rest⟩)
    (co_law_rest : PySem.W.codeIn K cd_law_rest "_law_rest" = true)
    (ke_law_rest : PySem.W.keepIn K (.ref f_law_rest) = true)
    (at_law_move : PySem.W.nsIn K mainGlobals "_law_move" = some (some (.ref f_law_move)))
    (lo_law_move : K.lookup f_law_move = some ⟨oc_law_move, od_law_move, .func (PySem.W.fnOf "_law_move" "_law_move" (defArgs s_law_move) (defBody s_law_move) (defScope s_law_move) .none kV_law_move dc_law_move pm_law_move an_law_move cd_law_move ct_law_move), sl_law_move⟩)
    (co_law_move : PySem.W.codeIn K cd_law_move "_law_move" = true)
    (ke_law_move : PySem.W.keepIn K (.ref f_law_move) = true)
    (at_law_walked : PySem.W.nsIn K mainGlobals "_law_walked" = some (some (.ref f_law_walked)))
    (lo_law_walked : K.lookup f_law_walked = some ⟨oc_law_walked, od_law_walked, .func (PySem.W.fnOf "_law_walked" "_law_walked" (defArgs s_law_walked) (defBody s_law_walked) (defScope s_law_walked) .none kV_law_walked dc_law_walked pm_law_walked an_law_walked cd_law_walked ct_law_walked), sl_law_walked⟩)
    (co_law_walked : PySem.W.codeIn K cd_law_walked "_law_walked" = true)
    (ke_law_walked : PySem.W.keepIn K (.ref f_law_walked) = true)
    (at_law_there_and_back : PySem.W.nsIn K mainGlobals "_law_there_and_back" = some (some (.ref f_law_there_and_back)))
    (lo_law_there_and_back : K.lookup f_law_there_and_back = some ⟨oc_law_there_and_back, od_law_there_and_back, .func (PySem.W.fnOf "_law_there_and_back" "_law_there_and_back" (defArgs s_law_there_and_back) (defBody s_law_there_and_back) (defScope s_law_there_and_back) .none kV_law_there_and_back dc_law_there_and_back pm_law_there_and_back an_law_there_and_back cd_law_there_and_back ct_law_there_and_back), sl_law_there_and_back⟩)
    (co_law_there_and_back : PySem.W.codeIn K cd_law_there_and_back "_law_there_and_back" = true)
    (ke_law_there_and_back : PySem.W.keepIn K (.ref f_law_there_and_back) = true)
    (at_Walker_init : PySem.W.findIn K (.ref c_Walker) "__init__" = some (some (.ref f_Walker_init)))
    (is_Walker_init : PySem.W.isFn K (.ref f_Walker_init) = true)
    (lo_Walker_init : K.lookup f_Walker_init = some ⟨oc_Walker_init, od_Walker_init, .func (PySem.W.fnOf "__init__" "Walker.__init__" (defArgs s_Walker_init) (defBody s_Walker_init) (defScope s_Walker_init) .none kV_Walker_init dc_Walker_init pm_Walker_init an_Walker_init cd_Walker_init ct_Walker_init), sl_Walker_init⟩)
    (co_Walker_init : PySem.W.codeIn K cd_Walker_init "Walker.__init__" = true)
    (ke_Walker_init : PySem.W.keepIn K (.ref f_Walker_init) = true)
    (at_WholeWalker_init : PySem.W.findIn K (.ref c_WholeWalker) "__init__" = some (some (.ref f_WholeWalker_init)))
    (is_WholeWalker_init : PySem.W.isFn K (.ref f_WholeWalker_init) = true)
    (lo_WholeWalker_init : K.lookup f_WholeWalker_init = some ⟨oc_WholeWalker_init, od_WholeWalker_init, .func (PySem.W.fnOf "__init__" "WholeWalker.__init__" (defArgs s_WholeWalker_init) (defBody s_WholeWalker_init) (defScope s_WholeWalker_init) .none kV_WholeWalker_init dc_WholeWalker_init pm_WholeWalker_init an_WholeWalker_init cd_WholeWalker_init ct_WholeWalker_init), sl_WholeWalker_init⟩)
    (co_WholeWalker_init : PySem.W.codeIn K cd_WholeWalker_init "WholeWalker.__init__" = true)
    (ke_WholeWalker_init : PySem.W.keepIn K (.ref f_WholeWalker_init) = true)
    (at_law_picks : PySem.W.nsIn K mainGlobals "_law_picks" = some (some (.ref f_law_picks)))
    (lo_law_picks : K.lookup f_law_picks = some ⟨oc_law_picks, od_law_picks, .func (PySem.W.fnOf "_law_picks" "_law_picks" (defArgs s_law_picks) (defBody s_law_picks) (defScope s_law_picks) .none kV_law_picks dc_law_picks pm_law_picks an_law_picks cd_law_picks ct_law_picks), sl_law_picks⟩)
    (co_law_picks : PySem.W.codeIn K cd_law_picks "_law_picks" = true)
    (ke_law_picks : PySem.W.keepIn K (.ref f_law_picks) = true)
    (at_law_cell_at : PySem.W.nsIn K mainGlobals "_law_cell_at" = some (some (.ref f_law_cell_at)))
    (lo_law_cell_at : K.lookup f_law_cell_at = some ⟨oc_law_cell_at, od_law_cell_at, .func (PySem.W.fnOf "_law_cell_at" "_law_cell_at" (defArgs s_law_cell_at) (defBody s_law_cell_at) (defScope s_law_cell_at) .none kV_law_cell_at dc_law_cell_at pm_law_cell_at an_law_cell_at cd_law_cell_at ct_law_cell_at), sl_law_cell_at⟩)
    (co_law_cell_at : PySem.W.codeIn K cd_law_cell_at "_law_cell_at" = true)
    (ke_law_cell_at : PySem.W.keepIn K (.ref f_law_cell_at) = true)
    (at_before : PySem.W.nsIn K mainGlobals "before" = some (some (.ref f_before)))
    (lo_before : K.lookup f_before = some ⟨oc_before, od_before, .func (PySem.W.fnOf "before" "before" (defArgs s_before) (defBody s_before) (defScope s_before) .none kV_before dc_before pm_before an_before cd_before ct_before), sl_before⟩)
    (co_before : PySem.W.codeIn K cd_before "before" = true)
    (ke_before : PySem.W.keepIn K (.ref f_before) = true)
    (at_law_fraction : PySem.W.nsIn K mainGlobals "_law_fraction" = some (some (.ref f_law_fraction)))
    (lo_law_fraction : K.lookup f_law_fraction = some ⟨oc_law_fraction, od_law_fraction, .func (PySem.W.fnOf "_law_fraction" "_law_fraction" (defArgs s_law_fraction) (defBody s_law_fraction) (defScope s_law_fraction) .none kV_law_fraction dc_law_fraction pm_law_fraction an_law_fraction cd_law_fraction ct_law_fraction), sl_law_fraction⟩)
    (co_law_fraction : PySem.W.codeIn K cd_law_fraction "_law_fraction" = true)
    (ke_law_fraction : PySem.W.keepIn K (.ref f_law_fraction) = true)
    (at_is_rule : PySem.W.nsIn K mainGlobals "is_rule" = some (some (.ref f_is_rule)))
    (lo_is_rule : K.lookup f_is_rule = some ⟨oc_is_rule, od_is_rule, .func (PySem.W.fnOf "is_rule" "is_rule" (defArgs s_is_rule) (defBody s_is_rule) (defScope s_is_rule) .none kV_is_rule dc_is_rule pm_is_rule an_is_rule cd_is_rule ct_is_rule), sl_is_rule⟩)
    (co_is_rule : PySem.W.codeIn K cd_is_rule "is_rule" = true)
    (ke_is_rule : PySem.W.keepIn K (.ref f_is_rule) = true)
    (at_Map_init : PySem.W.findIn K (.ref c_Map) "__init__" = some (some (.ref f_Map_init)))
    (is_Map_init : PySem.W.isFn K (.ref f_Map_init) = true)
    (lo_Map_init : K.lookup f_Map_init = some ⟨oc_Map_init, od_Map_init, .func (PySem.W.fnOf "__init__" "Map.__init__" (defArgs s_Map_init) (defBody s_Map_init) (defScope s_Map_init) .none kV_Map_init dc_Map_init pm_Map_init an_Map_init cd_Map_init ct_Map_init), sl_Map_init⟩)
    (co_Map_init : PySem.W.codeIn K cd_Map_init "Map.__init__" = true)
    (ke_Map_init : PySem.W.keepIn K (.ref f_Map_init) = true)
    (at_law_rows : PySem.W.nsIn K mainGlobals "_law_rows" = some (some (.ref f_law_rows)))
    (lo_law_rows : K.lookup f_law_rows = some ⟨oc_law_rows, od_law_rows, .func (PySem.W.fnOf "_law_rows" "_law_rows" (defArgs s_law_rows) (defBody s_law_rows) (defScope s_law_rows) .none kV_law_rows dc_law_rows pm_law_rows an_law_rows cd_law_rows ct_law_rows), sl_law_rows⟩)
    (co_law_rows : PySem.W.codeIn K cd_law_rows "_law_rows" = true)
    (ke_law_rows : PySem.W.keepIn K (.ref f_law_rows) = true)
    (at_law : PySem.W.nsIn K mainGlobals "law" = some (some (.ref f_law)))
    (lo_law : K.lookup f_law = some ⟨oc_law, od_law, .func (PySem.W.fnOf "law" "law" (defArgs s_law) (defBody s_law) (defScope s_law) .none kV_law dc_law pm_law an_law cd_law ct_law), sl_law⟩)
    (co_law : PySem.W.codeIn K cd_law "law" = true)
    (ke_law : PySem.W.keepIn K (.ref f_law) = true)
    (pg_Map : PySem.W.plainGet K c_Map Str.empty = true)
    (hd_Map : PySem.W.hasDictIn K c_Map = true)
    (po_Map : PySem.W.plainOver K c_Map = true)
    (sa_Map : PySem.W.findIn K (.ref c_Map) "__setattr__" = some (some (.builtin "object.__setattr__")))
    (ms_Map : PySem.W.makesIn K c_Map = true)
    (kc_Map : PySem.W.keepIn K (.ref c_Map) = true)
    (nf_Map_base : PySem.W.findIn K (.ref c_Map) "base" = some none)
    (nf_Map_rows : PySem.W.findIn K (.ref c_Map) "rows" = some none)
    (pg_Walker : PySem.W.plainGet K c_Walker Str.empty = true)
    (hd_Walker : PySem.W.hasDictIn K c_Walker = true)
    (po_Walker : PySem.W.plainOver K c_Walker = true)
    (sa_Walker : PySem.W.findIn K (.ref c_Walker) "__setattr__" = some (some (.builtin "object.__setattr__")))
    (ms_Walker : PySem.W.makesIn K c_Walker = true)
    (kc_Walker : PySem.W.keepIn K (.ref c_Walker) = true)
    (nf_Walker_held_map : PySem.W.findIn K (.ref c_Walker) "held_map" = some none)
    (nf_Walker_places : PySem.W.findIn K (.ref c_Walker) "places" = some none)
    (nf_Walker_taken : PySem.W.findIn K (.ref c_Walker) "taken" = some none)
    (nf_Walker_marks : PySem.W.findIn K (.ref c_Walker) "marks" = some none)
    (pg_WholeWalker : PySem.W.plainGet K c_WholeWalker Str.empty = true)
    (hd_WholeWalker : PySem.W.hasDictIn K c_WholeWalker = true)
    (po_WholeWalker : PySem.W.plainOver K c_WholeWalker = true)
    (sa_WholeWalker : PySem.W.findIn K (.ref c_WholeWalker) "__setattr__" = some (some (.builtin "object.__setattr__")))
    (ms_WholeWalker : PySem.W.makesIn K c_WholeWalker = true)
    (kc_WholeWalker : PySem.W.keepIn K (.ref c_WholeWalker) = true)
    (nf_WholeWalker_held_map : PySem.W.findIn K (.ref c_WholeWalker) "held_map" = some none)
    (nf_WholeWalker_places : PySem.W.findIn K (.ref c_WholeWalker) "places" = some none)
    (nf_WholeWalker_taken : PySem.W.findIn K (.ref c_WholeWalker) "taken" = some none)
    (nf_WholeWalker_marks : PySem.W.findIn K (.ref c_WholeWalker) "marks" = some none)
    (z_abs : PySem.W.nsIn K mainGlobals "abs" = some none)
    (z_all : PySem.W.nsIn K mainGlobals "all" = some none)
    (z_bool : PySem.W.nsIn K mainGlobals "bool" = some none)
    (z_enumerate : PySem.W.nsIn K mainGlobals "enumerate" = some none)
    (z_int : PySem.W.nsIn K mainGlobals "int" = some none)
    (z_isinstance : PySem.W.nsIn K mainGlobals "isinstance" = some none)
    (z_len : PySem.W.nsIn K mainGlobals "len" = some none)
    (z_list : PySem.W.nsIn K mainGlobals "list" = some none)
    (z_range : PySem.W.nsIn K mainGlobals "range" = some none)
    (z_tuple : PySem.W.nsIn K mainGlobals "tuple" = some none)
    : ∃ fd : FuncData, (∀ (s : Shared) (v : Value), BindsTo s fd ⟨[v], []⟩ [("script", v)]) ∧ ∀ base : Heap, K.In base → base.Ns mainGlobals mg → FnOk l.prog w K mg base CX0 11 fa fd ["script"] (endSp K) := by
  have e := hfa.symm.trans (PySem.W.mg_of X G at_law)
  cases e
  let C : Ccs := ⟨⟨(fun i => if i = 0 then (c_Map, (["base", "rows"] : List Str)) else if i = 1 then (c_Walker, (["held_map", "places", "taken", "marks"] : List Str)) else if i = 2 then (c_WholeWalker, (["held_map", "places", "taken", "marks"] : List Str)) else (c_Map, [])), K⟩, fun _ => fa⟩
  have rd_Walker : ClX.CRead K c_Walker (.type "type") := ⟨wrd1, wrd2⟩
  have wmg_Walker := PySem.W.mg_of X G a_Walker
  have n_abs := PySem.W.mg_none_of X G z_abs
  have n_all := PySem.W.mg_none_of X G z_all
  have n_bool := PySem.W.mg_none_of X G z_bool
  have n_enumerate := PySem.W.mg_none_of X G z_enumerate
  have n_int := PySem.W.mg_none_of X G z_int
  have n_isinstance := PySem.W.mg_none_of X G z_isinstance
  have n_len := PySem.W.mg_none_of X G z_len
  have n_list := PySem.W.mg_none_of X G z_list
  have n_range := PySem.W.mg_none_of X G z_range
  have n_tuple := PySem.W.mg_none_of X G z_tuple
  have fl_Map : (C.cc.cl 0).2 = (["base", "rows"] : List Str) := rfl
  have ck_Map : ClsOk K (C.cc.cl 0) := ⟨⟨pg_Map, hd_Map, po_Map, sa_Map⟩, fun f hf => by
    simp only [fl_Map, List.mem_cons, List.not_mem_nil, or_false] at hf
    rcases hf with rfl | rfl
    · exact nf_Map_base
    · exact nf_Map_rows, by rw [fl_Map]; decide +kernel, by rw [fl_Map]; decide⟩
  have mg_Map : mg "Map" = some (.ref (C.cc.cl 0).1) := PySem.W.mg_of X G a_Map
  have mk_Map : Mk K (C.cc.cl 0).1 f_Map_init := ⟨ms_Map, at_Map_init, is_Map_init, kc_Map⟩
  have fl_Walker : (C.cc.cl 1).2 = (["held_map", "places", "taken", "marks"] : List Str) := rfl
  have ck_Walker : ClsOk K (C.cc.cl 1) := ⟨⟨pg_Walker, hd_Walker, po_Walker, sa_Walker⟩, fun f hf => by
    simp only [fl_Walker, List.mem_cons, List.not_mem_nil, or_false] at hf
    rcases hf with rfl | rfl | rfl | rfl
    · exact nf_Walker_held_map
    · exact nf_Walker_places
    · exact nf_Walker_taken
    · exact nf_Walker_marks, by rw [fl_Walker]; decide +kernel, by rw [fl_Walker]; decide⟩
  have mg_Walker : mg "Walker" = some (.ref (C.cc.cl 1).1) := PySem.W.mg_of X G a_Walker
  have mk_Walker : Mk K (C.cc.cl 1).1 f_Walker_init := ⟨ms_Walker, at_Walker_init, is_Walker_init, kc_Walker⟩
  have fl_WholeWalker : (C.cc.cl 2).2 = (["held_map", "places", "taken", "marks"] : List Str) := rfl
  have ck_WholeWalker : ClsOk K (C.cc.cl 2) := ⟨⟨pg_WholeWalker, hd_WholeWalker, po_WholeWalker, sa_WholeWalker⟩, fun f hf => by
    simp only [fl_WholeWalker, List.mem_cons, List.not_mem_nil, or_false] at hf
    rcases hf with rfl | rfl | rfl | rfl
    · exact nf_WholeWalker_held_map
    · exact nf_WholeWalker_places
    · exact nf_WholeWalker_taken
    · exact nf_WholeWalker_marks, by rw [fl_WholeWalker]; decide +kernel, by rw [fl_WholeWalker]; decide⟩
  have mg_WholeWalker : mg "WholeWalker" = some (.ref (C.cc.cl 2).1) := PySem.W.mg_of X G a_WholeWalker
  have mk_WholeWalker : Mk K (C.cc.cl 2).1 f_WholeWalker_init := ⟨ms_WholeWalker, at_WholeWalker_init, is_WholeWalker_init, kc_WholeWalker⟩
  have F_law_whole := fun_mk (st := s_law_whole) lo_law_whole co_law_whole ke_law_whole
  have B_law_whole := F_law_whole.binds (ps := ["found"]) fun _ _ _ _ _ _ us hl => match us, hl with | [_], _ => rfl
  have M_law_whole := PySem.W.mg_of X G at_law_whole
  have K_law_whole := ke_law_whole
  have F_law_pair := fun_mk (st := s_law_pair) lo_law_pair co_law_pair ke_law_pair
  have B_law_pair := F_law_pair.binds (ps := ["found"]) fun _ _ _ _ _ _ us hl => match us, hl with | [_], _ => rfl
  have M_law_pair := PySem.W.mg_of X G at_law_pair
  have K_law_pair := ke_law_pair
  have F_law_pairs := fun_mk (st := s_law_pairs) lo_law_pairs co_law_pairs ke_law_pairs
  have B_law_pairs := F_law_pairs.binds (ps := ["found"]) fun _ _ _ _ _ _ us hl => match us, hl with | [_], _ => rfl
  have M_law_pairs := PySem.W.mg_of X G at_law_pairs
  have K_law_pairs := ke_law_pairs
  have F_Walker_word := fun_mk (st := s_Walker_word) lo_Walker_word co_Walker_word ke_Walker_word
  have B_Walker_word := F_Walker_word.binds (ps := ["self"]) fun _ _ _ _ _ _ us hl => match us, hl with | [_], _ => rfl
  have K_Walker_word := ke_Walker_word
  have wme1_Walker_word : Meth K (C.cc.cl 1).1 "word" f_Walker_word := ⟨watme1_Walker_word, is_Walker_word, ke_Walker_word⟩
  have wme2_Walker_word : Meth K (C.cc.cl 2).1 "word" f_Walker_word := ⟨watme2_Walker_word, is_Walker_word, ke_Walker_word⟩
  have F_Walker_len := fun_mk (st := s_Walker_len) lo_Walker_len co_Walker_len ke_Walker_len
  have B_Walker_len := F_Walker_len.binds (ps := ["self"]) fun _ _ _ _ _ _ us hl => match us, hl with | [_], _ => rfl
  have K_Walker_len := ke_Walker_len
  have wme1_Walker_len : Meth K (C.cc.cl 1).1 "__len__" f_Walker_len := ⟨watme1_Walker_len, is_Walker_len, ke_Walker_len⟩
  have wme2_Walker_len : Meth K (C.cc.cl 2).1 "__len__" f_Walker_len := ⟨watme2_Walker_len, is_Walker_len, ke_Walker_len⟩
  have F_Walker_trail := fun_mk (st := s_Walker_trail) lo_Walker_trail co_Walker_trail ke_Walker_trail
  have B_Walker_trail := F_Walker_trail.binds (ps := ["self"]) fun _ _ _ _ _ _ us hl => match us, hl with | [_], _ => rfl
  have K_Walker_trail := ke_Walker_trail
  have wme1_Walker_trail : Meth K (C.cc.cl 1).1 "trail" f_Walker_trail := ⟨watme1_Walker_trail, is_Walker_trail, ke_Walker_trail⟩
  have wme2_Walker_trail : Meth K (C.cc.cl 2).1 "trail" f_Walker_trail := ⟨watme2_Walker_trail, is_Walker_trail, ke_Walker_trail⟩
  have F_gcd := fun_mk (st := s_gcd) lo_gcd co_gcd ke_gcd
  have B_gcd := F_gcd.binds (ps := ["one", "other"]) fun _ _ _ _ _ _ us hl => match us, hl with | [_, _], _ => rfl
  have M_gcd := PySem.W.mg_of X G at_gcd
  have K_gcd := ke_gcd
  have F_lowest := fun_mk (st := s_lowest) lo_lowest co_lowest ke_lowest
  have B_lowest := F_lowest.binds (ps := ["top", "bottom"]) fun _ _ _ _ _ _ us hl => match us, hl with | [_, _], _ => rfl
  have M_lowest := PySem.W.mg_of X G at_lowest
  have K_lowest := ke_lowest
  have F_joined_form := fun_mk (st := s_joined_form) lo_joined_form co_joined_form ke_joined_form
  have B_joined_form := F_joined_form.binds (ps := ["form", "rule", "modulus"]) fun _ _ _ _ _ _ us hl => match us, hl with | [_, _, _], _ => rfl
  have M_joined_form := PySem.W.mg_of X G at_joined_form
  have K_joined_form := ke_joined_form
  have F_Map_rules := fun_mk (st := s_Map_rules) lo_Map_rules co_Map_rules ke_Map_rules
  have B_Map_rules := F_Map_rules.binds (ps := ["self"]) fun _ _ _ _ _ _ us hl => match us, hl with | [_], _ => rfl
  have K_Map_rules := ke_Map_rules
  have pr_Map_rules : PropOf K (C.cc.cl 0).1 "rules" p_Map_rules f_Map_rules := ⟨at_Map_rules, gt_Map_rules, tk_Map_rules, ⟨_, rc_Map_rules⟩⟩
  have F_check_word := fun_mk (st := s_check_word) lo_check_word co_check_word ke_check_word
  have B_check_word := F_check_word.binds (ps := ["modulus", "word"]) fun _ _ _ _ _ _ us hl => match us, hl with | [_, _], _ => rfl
  have M_check_word := PySem.W.mg_of X G at_check_word
  have K_check_word := ke_check_word
  have F_Map_modulus := fun_mk (st := s_Map_modulus) lo_Map_modulus co_Map_modulus ke_Map_modulus
  have B_Map_modulus := F_Map_modulus.binds (ps := ["self"]) fun _ _ _ _ _ _ us hl => match us, hl with | [_], _ => rfl
  have K_Map_modulus := ke_Map_modulus
  have pr_Map_modulus : PropOf K (C.cc.cl 0).1 "modulus" p_Map_modulus f_Map_modulus := ⟨at_Map_modulus, gt_Map_modulus, tk_Map_modulus, ⟨_, rc_Map_modulus⟩⟩
  have F_form_of := fun_mk (st := s_form_of) lo_form_of co_form_of ke_form_of
  have B_form_of := F_form_of.binds (ps := ["rule_map", "word"]) fun _ _ _ _ _ _ us hl => match us, hl with | [_, _], _ => rfl
  have M_form_of := PySem.W.mg_of X G at_form_of
  have K_form_of := ke_form_of
  have F_is_fraction := fun_mk (st := s_is_fraction) lo_is_fraction co_is_fraction ke_is_fraction
  have B_is_fraction := F_is_fraction.binds (ps := ["value"]) fun _ _ _ _ _ _ us hl => match us, hl with | [_], _ => rfl
  have M_is_fraction := PySem.W.mg_of X G at_is_fraction
  have K_is_fraction := ke_is_fraction
  have F_is_good := fun_mk (st := s_is_good) lo_is_good co_is_good ke_is_good
  have B_is_good := F_is_good.binds (ps := ["modulus", "value"]) fun _ _ _ _ _ _ us hl => match us, hl with | [_, _], _ => rfl
  have M_is_good := PySem.W.mg_of X G at_is_good
  have K_is_good := ke_is_good
  have F_back_by := fun_mk (st := s_back_by) lo_back_by co_back_by ke_back_by
  have B_back_by := F_back_by.binds (ps := ["rule_map", "number", "word"]) fun _ _ _ _ _ _ us hl => match us, hl with | [_, _, _], _ => rfl
  have M_back_by := PySem.W.mg_of X G at_back_by
  have K_back_by := ke_back_by
  have F_Walker_here := fun_mk (st := s_Walker_here) lo_Walker_here co_Walker_here ke_Walker_here
  have B_Walker_here := F_Walker_here.binds (ps := ["self"]) fun _ _ _ _ _ _ us hl => match us, hl with | [_], _ => rfl
  have K_Walker_here := ke_Walker_here
  have wpr1_Walker_here : PropOf K (C.cc.cl 1).1 "here" p_Walker_here f_Walker_here := ⟨watpr1_Walker_here, gt_Walker_here, tk_Walker_here, ⟨_, rc_Walker_here⟩⟩
  have wpr2_Walker_here : PropOf K (C.cc.cl 2).1 "here" p_Walker_here f_Walker_here := ⟨watpr2_Walker_here, gt_Walker_here, tk_Walker_here, ⟨_, rc_Walker_here⟩⟩
  have F_Walker_fraction_behind := fun_mk (st := s_Walker_fraction_behind) lo_Walker_fraction_behind co_Walker_fraction_behind ke_Walker_fraction_behind
  have B_Walker_fraction_behind := F_Walker_fraction_behind.binds (ps := ["self", "remainder"]) fun _ _ _ _ _ _ us hl => match us, hl with | [_, _], _ => rfl
  have K_Walker_fraction_behind := ke_Walker_fraction_behind
  have wme1_Walker_fraction_behind : Meth K (C.cc.cl 1).1 "fraction_behind" f_Walker_fraction_behind := ⟨watme1_Walker_fraction_behind, is_Walker_fraction_behind, ke_Walker_fraction_behind⟩
  have wme2_Walker_fraction_behind : Meth K (C.cc.cl 2).1 "fraction_behind" f_Walker_fraction_behind := ⟨watme2_Walker_fraction_behind, is_Walker_fraction_behind, ke_Walker_fraction_behind⟩
  have F_Walker_back := fun_mk (st := s_Walker_back) lo_Walker_back co_Walker_back ke_Walker_back
  have B_Walker_back := F_Walker_back.binds (ps := ["self", "remainder"]) fun _ _ _ _ _ _ us hl => match us, hl with | [_, _], _ => rfl
  have K_Walker_back := ke_Walker_back
  have wme1_Walker_back : Meth K (C.cc.cl 1).1 "back" f_Walker_back := ⟨watme1_Walker_back, is_Walker_back, ke_Walker_back⟩
  have F_WholeWalker_back := fun_mk (st := s_WholeWalker_back) lo_WholeWalker_back co_WholeWalker_back ke_WholeWalker_back
  have B_WholeWalker_back := F_WholeWalker_back.binds (ps := ["self", "remainder"]) fun _ _ _ _ _ _ us hl => match us, hl with | [_, _], _ => rfl
  have K_WholeWalker_back := ke_WholeWalker_back
  have wme2_WholeWalker_back : Meth K (C.cc.cl 2).1 "back" f_WholeWalker_back := ⟨watme2_WholeWalker_back, is_WholeWalker_back, ke_WholeWalker_back⟩
  have F_inverse := fun_mk (st := s_inverse) lo_inverse co_inverse ke_inverse
  have B_inverse := F_inverse.binds (ps := ["number", "modulus"]) fun _ _ _ _ _ _ us hl => match us, hl with | [_, _], _ => rfl
  have M_inverse := PySem.W.mg_of X G at_inverse
  have K_inverse := ke_inverse
  have F_remainder_by := fun_mk (st := s_remainder_by) lo_remainder_by co_remainder_by ke_remainder_by
  have B_remainder_by := F_remainder_by.binds (ps := ["modulus", "number"]) fun _ _ _ _ _ _ us hl => match us, hl with | [_, _], _ => rfl
  have M_remainder_by := PySem.W.mg_of X G at_remainder_by
  have K_remainder_by := ke_remainder_by
  have F_stepped := fun_mk (st := s_stepped) lo_stepped co_stepped ke_stepped
  have B_stepped := F_stepped.binds (ps := ["modulus", "rules", "number"]) fun _ _ _ _ _ _ us hl => match us, hl with | [_, _, _], _ => rfl
  have M_stepped := PySem.W.mg_of X G at_stepped
  have K_stepped := ke_stepped
  have F_check_number := fun_mk (st := s_check_number) lo_check_number co_check_number ke_check_number
  have B_check_number := F_check_number.binds (ps := ["number", "least"]) fun _ _ _ _ _ _ us hl => match us, hl with | [_, _], _ => rfl
  have M_check_number := PySem.W.mg_of X G at_check_number
  have K_check_number := ke_check_number
  have F_check_fraction := fun_mk (st := s_check_fraction) lo_check_fraction co_check_fraction ke_check_fraction
  have B_check_fraction := F_check_fraction.binds (ps := ["rule_map", "number"]) fun _ _ _ _ _ _ us hl => match us, hl with | [_, _], _ => rfl
  have M_check_fraction := PySem.W.mg_of X G at_check_fraction
  have K_check_fraction := ke_check_fraction
  have F_walk := fun_mk (st := s_walk) lo_walk co_walk ke_walk
  have B_walk := F_walk.binds (ps := ["rule_map", "number", "steps"]) fun _ _ _ _ _ _ us hl => match us, hl with | [_, _, _], _ => rfl
  have M_walk := PySem.W.mg_of X G at_walk
  have K_walk := ke_walk
  have F_word_of := fun_mk (st := s_word_of) lo_word_of co_word_of ke_word_of
  have B_word_of := F_word_of.binds (ps := ["rule_map", "number", "steps"]) fun _ _ _ _ _ _ us hl => match us, hl with | [_, _, _], _ => rfl
  have M_word_of := PySem.W.mg_of X G at_word_of
  have K_word_of := ke_word_of
  have F_Walker_call := fun_mk (st := s_Walker_call) lo_Walker_call co_Walker_call ke_Walker_call
  have B_Walker_call := F_Walker_call.binds (ps := ["self", "steps"]) fun _ _ _ _ _ _ us hl => match us, hl with | [_, _], _ => rfl
  have K_Walker_call := ke_Walker_call
  have wca1_Walker_call : StX.CallO K (C.cc.cl 1).1 f_Walker_call := ⟨watca1_Walker_call, is_Walker_call, wfi_Walker_call⟩
  have wca2_Walker_call : StX.CallO K (C.cc.cl 2).1 f_Walker_call := ⟨watca2_Walker_call, is_Walker_call, wfi_Walker_call⟩
  have F_law_gcd := fun_mk (st := s_law_gcd) lo_law_gcd co_law_gcd ke_law_gcd
  have B_law_gcd := F_law_gcd.binds (ps := ["p", "q"]) fun _ _ _ _ _ _ us hl => match us, hl with | [_, _], _ => rfl
  have M_law_gcd := PySem.W.mg_of X G at_law_gcd
  have K_law_gcd := ke_law_gcd
  have F_law_lowest := fun_mk (st := s_law_lowest) lo_law_lowest co_law_lowest ke_law_lowest
  have B_law_lowest := F_law_lowest.binds (ps := ["top", "bottom"]) fun _ _ _ _ _ _ us hl => match us, hl with | [_, _], _ => rfl
  have M_law_lowest := PySem.W.mg_of X G at_law_lowest
  have K_law_lowest := ke_law_lowest
  have F_law_rest := fun_mk (st := s_law_rest) lo_law_rest co_law_rest ke_law_rest
  have B_law_rest := F_law_rest.binds (ps := ["base", "number"]) fun _ _ _ _ _ _ us hl => match us, hl with | [_, _], _ => rfl
  have M_law_rest := PySem.W.mg_of X G at_law_rest
  have K_law_rest := ke_law_rest
  have F_law_move := fun_mk (st := s_law_move) lo_law_move co_law_move ke_law_move
  have B_law_move := F_law_move.binds (ps := ["rows", "number"]) fun _ _ _ _ _ _ us hl => match us, hl with | [_, _], _ => rfl
  have M_law_move := PySem.W.mg_of X G at_law_move
  have K_law_move := ke_law_move
  have F_law_walked := fun_mk (st := s_law_walked) lo_law_walked co_law_walked ke_law_walked
  have B_law_walked := F_law_walked.binds (ps := ["rows", "place", "steps"]) fun _ _ _ _ _ _ us hl => match us, hl with | [_, _, _], _ => rfl
  have M_law_walked := PySem.W.mg_of X G at_law_walked
  have K_law_walked := ke_law_walked
  have F_law_there_and_back := fun_mk (st := s_law_there_and_back) lo_law_there_and_back co_law_there_and_back ke_law_there_and_back
  have B_law_there_and_back := F_law_there_and_back.binds (ps := ["walker", "rows", "start", "n"]) fun _ _ _ _ _ _ us hl => match us, hl with | [_, _, _, _], _ => rfl
  have M_law_there_and_back := PySem.W.mg_of X G at_law_there_and_back
  have K_law_there_and_back := ke_law_there_and_back
  have F_Walker_init := fun_mk (st := s_Walker_init) lo_Walker_init co_Walker_init ke_Walker_init
  have B_Walker_init := F_Walker_init.binds (ps := ["self", "rule_map", "start"]) fun _ _ _ _ _ _ us hl => match us, hl with | [_, _, _], _ => rfl
  have K_Walker_init := ke_Walker_init
  have F_WholeWalker_init := fun_mk (st := s_WholeWalker_init) lo_WholeWalker_init co_WholeWalker_init ke_WholeWalker_init
  have B_WholeWalker_init := F_WholeWalker_init.binds (ps := ["self", "rule_map", "start"]) fun _ _ _ _ _ _ us hl => match us, hl with | [_, _, _], _ => rfl
  have K_WholeWalker_init := ke_WholeWalker_init
  have F_law_picks := fun_mk (st := s_law_picks) lo_law_picks co_law_picks ke_law_picks
  have B_law_picks := F_law_picks.binds (ps := ["cell", "sizes"]) fun _ _ _ _ _ _ us hl => match us, hl with | [_, _], _ => rfl
  have M_law_picks := PySem.W.mg_of X G at_law_picks
  have K_law_picks := ke_law_picks
  have F_law_cell_at := fun_mk (st := s_law_cell_at) lo_law_cell_at co_law_cell_at ke_law_cell_at
  have B_law_cell_at := F_law_cell_at.binds (ps := ["script", "k"]) fun _ _ _ _ _ _ us hl => match us, hl with | [_, _], _ => rfl
  have M_law_cell_at := PySem.W.mg_of X G at_law_cell_at
  have K_law_cell_at := ke_law_cell_at
  have F_before := fun_mk (st := s_before) lo_before co_before ke_before
  have B_before := F_before.binds (ps := ["rule_map", "number"]) fun _ _ _ _ _ _ us hl => match us, hl with | [_, _], _ => rfl
  have M_before := PySem.W.mg_of X G at_before
  have K_before := ke_before
  have F_law_fraction := fun_mk (st := s_law_fraction) lo_law_fraction co_law_fraction ke_law_fraction
  have B_law_fraction := F_law_fraction.binds (ps := ["cell", "base"]) fun _ _ _ _ _ _ us hl => match us, hl with | [_, _], _ => rfl
  have M_law_fraction := PySem.W.mg_of X G at_law_fraction
  have K_law_fraction := ke_law_fraction
  have F_is_rule := fun_mk (st := s_is_rule) lo_is_rule co_is_rule ke_is_rule
  have B_is_rule := F_is_rule.binds (ps := ["modulus", "remainder", "rule"]) fun _ _ _ _ _ _ us hl => match us, hl with | [_, _, _], _ => rfl
  have M_is_rule := PySem.W.mg_of X G at_is_rule
  have K_is_rule := ke_is_rule
  have F_Map_init := fun_mk (st := s_Map_init) lo_Map_init co_Map_init ke_Map_init
  have B_Map_init := F_Map_init.binds (ps := ["self", "modulus", "rules"]) fun _ _ _ _ _ _ us hl => match us, hl with | [_, _, _], _ => rfl
  have K_Map_init := ke_Map_init
  have F_law_rows := fun_mk (st := s_law_rows) lo_law_rows co_law_rows ke_law_rows
  have B_law_rows := F_law_rows.binds (ps := ["cell", "most", "beside", "far"]) fun _ _ _ _ _ _ us hl => match us, hl with | [_, _, _, _], _ => rfl
  have M_law_rows := PySem.W.mg_of X G at_law_rows
  have K_law_rows := ke_law_rows
  have F_law := fun_mk (st := s_law) lo_law co_law ke_law
  have B_law := F_law.binds (ps := ["script"]) fun _ _ _ _ _ _ us hl => match us, hl with | [_], _ => rfl
  have M_law := PySem.W.mg_of X G at_law
  have K_law := ke_law
  refine ⟨PySem.W.fnOf "law" "law" (defArgs s_law) (defBody s_law) (defScope s_law) .none kV_law dc_law pm_law an_law cd_law ct_law, fun s v => .of_eq rfl, fun base _ _ => ?_⟩
  have ok_law_whole := ok_law_whole (P := l.prog) (w := w) (mg := mg) (base := base) (C := C) F_law_whole rfl n_bool n_int n_isinstance
  have ok_law_pair := ok_law_pair (P := l.prog) (w := w) (mg := mg) (base := base) (C := C) F_law_pair rfl n_isinstance n_len n_tuple ok_law_whole B_law_whole M_law_whole K_law_whole
  have ok_law_pairs := ok_law_pairs (P := l.prog) (w := w) (mg := mg) (base := base) (C := C) F_law_pairs rfl n_all n_isinstance n_list ok_law_pair B_law_pair M_law_pair K_law_pair
  have ok_Walker_word := ok_Walker_word (P := l.prog) (w := w) (mg := mg) (base := base) (C := C) F_Walker_word rfl n_list ck_Walker fl_Walker ck_WholeWalker fl_WholeWalker
  have ok_Walker_len := ok_Walker_len (P := l.prog) (w := w) (mg := mg) (base := base) (C := C) F_Walker_len rfl n_len ck_Walker fl_Walker ck_WholeWalker fl_WholeWalker
  have ok_Walker_trail := ok_Walker_trail (P := l.prog) (w := w) (mg := mg) (base := base) (C := C) F_Walker_trail rfl n_list ck_Walker fl_Walker ck_WholeWalker fl_WholeWalker
  have ok_gcd := ok_gcd (P := l.prog) (w := w) (mg := mg) (base := base) (C := C) F_gcd rfl n_abs
  have ok_lowest := ok_lowest (P := l.prog) (w := w) (mg := mg) (base := base) (C := C) F_lowest rfl ok_gcd B_gcd M_gcd K_gcd
  have ok_joined_form := ok_joined_form (P := l.prog) (w := w) (mg := mg) (base := base) (C := C) F_joined_form rfl 
  have ok_Map_rules := ok_Map_rules (P := l.prog) (w := w) (mg := mg) (base := base) (C := C) F_Map_rules rfl n_list ck_Map fl_Map
  have ok_check_word := ok_check_word (P := l.prog) (w := w) (mg := mg) (base := base) (C := C) F_check_word rfl 
  have ok_Map_modulus := ok_Map_modulus (P := l.prog) (w := w) (mg := mg) (base := base) (C := C) F_Map_modulus rfl ck_Map fl_Map
  have ok_form_of := ok_form_of (P := l.prog) (w := w) (mg := mg) (base := base) (C := C) F_form_of rfl ck_Map fl_Map ok_joined_form B_joined_form M_joined_form K_joined_form ok_Map_rules B_Map_rules pr_Map_rules ok_check_word B_check_word M_check_word K_check_word ok_Map_modulus B_Map_modulus pr_Map_modulus
  have ok_is_fraction := ok_is_fraction (P := l.prog) (w := w) (mg := mg) (base := base) (C := C) F_is_fraction rfl ok_gcd B_gcd M_gcd K_gcd
  have ok_is_good := ok_is_good (P := l.prog) (w := w) (mg := mg) (base := base) (C := C) F_is_good rfl ok_is_fraction B_is_fraction M_is_fraction K_is_fraction ok_gcd B_gcd M_gcd K_gcd
  have ok_back_by := ok_back_by (P := l.prog) (w := w) (mg := mg) (base := base) (C := C) F_back_by rfl ck_Map fl_Map ok_lowest B_lowest M_lowest K_lowest ok_form_of B_form_of M_form_of K_form_of ok_is_good B_is_good M_is_good K_is_good ok_Map_modulus B_Map_modulus pr_Map_modulus
  have ok_Walker_here := ok_Walker_here (P := l.prog) (w := w) (mg := mg) (base := base) (C := C) F_Walker_here rfl ck_Walker fl_Walker ck_WholeWalker fl_WholeWalker
  have ok_Walker_fraction_behind := ok_Walker_fraction_behind (P := l.prog) (w := w) (mg := mg) (base := base) (C := C) F_Walker_fraction_behind rfl ck_Map fl_Map ck_Walker fl_Walker ck_WholeWalker fl_WholeWalker ok_back_by B_back_by M_back_by K_back_by ok_Walker_here B_Walker_here wpr1_Walker_here wpr2_Walker_here ok_Map_modulus B_Map_modulus pr_Map_modulus
  have ok_Walker_back := ok_Walker_back (P := l.prog) (w := w) (mg := mg) (base := base) (C := C) F_Walker_back rfl n_len ck_Walker fl_Walker ck_WholeWalker fl_WholeWalker ok_Walker_fraction_behind B_Walker_fraction_behind wme1_Walker_fraction_behind wme2_Walker_fraction_behind
  have ok_WholeWalker_back := ok_WholeWalker_back (P := l.prog) (w := w) (mg := mg) (base := base) (C := C) F_WholeWalker_back rfl ck_Walker fl_Walker ck_WholeWalker fl_WholeWalker ok_Walker_back B_Walker_back rd_Walker wfc_Walker_back K_Walker_back wmg_Walker ok_Walker_fraction_behind B_Walker_fraction_behind wme1_Walker_fraction_behind wme2_Walker_fraction_behind
  have ok_inverse := ok_inverse (P := l.prog) (w := w) (mg := mg) (base := base) (C := C) F_inverse rfl 
  have ok_remainder_by := ok_remainder_by (P := l.prog) (w := w) (mg := mg) (base := base) (C := C) F_remainder_by rfl ok_inverse B_inverse M_inverse K_inverse
  have ok_stepped := ok_stepped (P := l.prog) (w := w) (mg := mg) (base := base) (C := C) F_stepped rfl ok_lowest B_lowest M_lowest K_lowest ok_remainder_by B_remainder_by M_remainder_by K_remainder_by
  have ok_check_number := ok_check_number (P := l.prog) (w := w) (mg := mg) (base := base) (C := C) F_check_number rfl 
  have ok_check_fraction := ok_check_fraction (P := l.prog) (w := w) (mg := mg) (base := base) (C := C) F_check_fraction rfl ck_Map fl_Map ok_is_good B_is_good M_is_good K_is_good ok_Map_modulus B_Map_modulus pr_Map_modulus
  have ok_walk := ok_walk (P := l.prog) (w := w) (mg := mg) (base := base) (C := C) F_walk rfl n_range ck_Map fl_Map ok_stepped B_stepped M_stepped K_stepped ok_Map_rules B_Map_rules pr_Map_rules ok_Map_modulus B_Map_modulus pr_Map_modulus ok_check_number B_check_number M_check_number K_check_number ok_check_fraction B_check_fraction M_check_fraction K_check_fraction
  have ok_word_of := ok_word_of (P := l.prog) (w := w) (mg := mg) (base := base) (C := C) F_word_of rfl ck_Map fl_Map ok_walk B_walk M_walk K_walk ok_remainder_by B_remainder_by M_remainder_by K_remainder_by ok_Map_modulus B_Map_modulus pr_Map_modulus
  have ok_Walker_call := ok_Walker_call (P := l.prog) (w := w) (mg := mg) (base := base) (C := C) F_Walker_call rfl n_len ck_Walker fl_Walker ck_WholeWalker fl_WholeWalker ok_Walker_here B_Walker_here wpr1_Walker_here wpr2_Walker_here ok_word_of B_word_of M_word_of K_word_of ok_walk B_walk M_walk K_walk
  have ok_law_gcd := ok_law_gcd (P := l.prog) (w := w) (mg := mg) (base := base) (C := C) F_law_gcd rfl n_abs n_int
  have ok_law_lowest := ok_law_lowest (P := l.prog) (w := w) (mg := mg) (base := base) (C := C) F_law_lowest rfl ok_law_gcd B_law_gcd M_law_gcd K_law_gcd
  have ok_law_rest := ok_law_rest (P := l.prog) (w := w) (mg := mg) (base := base) (C := C) F_law_rest rfl n_int n_range
  have ok_law_move := ok_law_move (P := l.prog) (w := w) (mg := mg) (base := base) (C := C) F_law_move rfl n_len ok_law_lowest B_law_lowest M_law_lowest K_law_lowest ok_law_rest B_law_rest M_law_rest K_law_rest
  have ok_law_walked := ok_law_walked (P := l.prog) (w := w) (mg := mg) (base := base) (C := C) F_law_walked rfl n_len n_range ok_law_move B_law_move M_law_move K_law_move ok_law_rest B_law_rest M_law_rest K_law_rest
  have ok_law_there_and_back := ok_law_there_and_back (P := l.prog) (w := w) (mg := mg) (base := base) (C := C) F_law_there_and_back rfl n_len n_range ck_Walker fl_Walker ck_WholeWalker fl_WholeWalker ok_law_pairs B_law_pairs M_law_pairs K_law_pairs ok_Walker_word B_Walker_word wme1_Walker_word wme2_Walker_word ok_Walker_len B_Walker_len wme1_Walker_len wme2_Walker_len ok_Walker_trail B_Walker_trail wme1_Walker_trail wme2_Walker_trail ok_Walker_back B_Walker_back wme1_Walker_back ok_WholeWalker_back B_WholeWalker_back wme2_WholeWalker_back ok_Walker_call B_Walker_call wca1_Walker_call wca2_Walker_call ok_law_walked B_law_walked M_law_walked K_law_walked
  have ok_Walker_init := ok_Walker_init (P := l.prog) (w := w) (mg := mg) (base := base) (C := C) F_Walker_init rfl ck_Map fl_Map ck_Walker fl_Walker ck_WholeWalker fl_WholeWalker ok_is_good B_is_good M_is_good K_is_good ok_Map_modulus B_Map_modulus pr_Map_modulus
  have ok_WholeWalker_init := ok_WholeWalker_init (P := l.prog) (w := w) (mg := mg) (base := base) (C := C) F_WholeWalker_init rfl ok_Walker_init B_Walker_init rd_Walker wfc_Walker_init K_Walker_init wmg_Walker
  have ok_law_picks := ok_law_picks (P := l.prog) (w := w) (mg := mg) (base := base) (C := C) F_law_picks rfl n_abs n_int n_len n_range
  have ok_law_cell_at := ok_law_cell_at (P := l.prog) (w := w) (mg := mg) (base := base) (C := C) F_law_cell_at rfl n_len
  have ok_before := ok_before (P := l.prog) (w := w) (mg := mg) (base := base) (C := C) F_before rfl ck_Map fl_Map ok_Map_rules B_Map_rules pr_Map_rules ok_lowest B_lowest M_lowest K_lowest ok_Map_modulus B_Map_modulus pr_Map_modulus ok_is_good B_is_good M_is_good K_is_good
  have ok_law_fraction := ok_law_fraction (P := l.prog) (w := w) (mg := mg) (base := base) (C := C) F_law_fraction rfl ok_law_lowest B_law_lowest M_law_lowest K_law_lowest ok_law_gcd B_law_gcd M_law_gcd K_law_gcd ok_law_picks B_law_picks M_law_picks K_law_picks
  have ok_is_rule := ok_is_rule (P := l.prog) (w := w) (mg := mg) (base := base) (C := C) F_is_rule rfl ok_gcd B_gcd M_gcd K_gcd
  have ok_Map_init := ok_Map_init (P := l.prog) (w := w) (mg := mg) (base := base) (C := C) F_Map_init rfl n_enumerate n_len ck_Map fl_Map ok_is_rule B_is_rule M_is_rule K_is_rule
  have ok_law_rows := ok_law_rows (P := l.prog) (w := w) (mg := mg) (base := base) (C := C) F_law_rows rfl n_range ok_law_gcd B_law_gcd M_law_gcd K_law_gcd ok_law_picks B_law_picks M_law_picks K_law_picks
  have ok_law := ok_law (P := l.prog) (w := w) (mg := mg) (base := base) (C := C) F_law rfl n_len n_list n_range ck_Map fl_Map ck_Walker fl_Walker ck_WholeWalker fl_WholeWalker ok_law_there_and_back B_law_there_and_back M_law_there_and_back K_law_there_and_back ok_WholeWalker_init B_WholeWalker_init mk_WholeWalker mg_WholeWalker ok_Map_rules B_Map_rules pr_Map_rules ok_Walker_init B_Walker_init mk_Walker mg_Walker ok_law_picks B_law_picks M_law_picks K_law_picks ok_law_cell_at B_law_cell_at M_law_cell_at K_law_cell_at ok_Walker_trail B_Walker_trail wme1_Walker_trail wme2_Walker_trail ok_law_walked B_law_walked M_law_walked K_law_walked ok_Walker_here B_Walker_here wpr1_Walker_here wpr2_Walker_here ok_back_by B_back_by M_back_by K_back_by ok_law_gcd B_law_gcd M_law_gcd K_law_gcd ok_law_rest B_law_rest M_law_rest K_law_rest ok_law_pair B_law_pair M_law_pair K_law_pair ok_Walker_back B_Walker_back wme1_Walker_back ok_WholeWalker_back B_WholeWalker_back wme2_WholeWalker_back ok_law_pairs B_law_pairs M_law_pairs K_law_pairs ok_before B_before M_before K_before ok_law_fraction B_law_fraction M_law_fraction K_law_fraction ok_Map_init B_Map_init mk_Map mg_Map ok_law_rows B_law_rows M_law_rows K_law_rows
  exact law_end ok_law rfl fun ns h1 h2 => ⟨ns, rfl, h2, by omega, rfl⟩
end WK.K80
end TL
open PySem PySem.W PyProof.Rows
set_option maxRecDepth 100000 in
set_option maxHeartbeats 0 in
theorem PySem.Challenge.cw_reststeps_k80_whole_walkers_retrace_holds : PySem.Challenge.rw_reststeps_k80_whole_walkers_retrace.Holds := by
  w_on; o_law; k_head; (case hw => w_witness2)
  k_fill
  refine TL.walkT (l := PySem.Challenge.rw_reststeps_k80_whole_walkers_retrace) (k := 11) rfl rfl ⟨rfl, by decide, by decide⟩ (fun w h Y => PySem.W.kIn_of Y) ?F
  case F =>
    intro w mg fa h KX G hmg
    refine' TL.WK.K80.all_mk KX G hmg ?wfc_Walker_back ?wfc_Walker_init ?wrd1 ?wrd2 ?a_Map ?a_Walker ?a_WholeWalker ?at_law_whole ?lo_law_whole ?co_law_whole ?ke_law_whole ?at_law_pair ?lo_law_pair ?co_law_pair ?ke_law_pair ?at_law_pairs ?lo_law_pairs ?co_law_pairs ?ke_law_pairs ?watme1_Walker_word ?watme2_Walker_word ?is_Walker_word ?lo_Walker_word ?co_Walker_word ?ke_Walker_word ?watme1_Walker_len ?watme2_Walker_len ?is_Walker_len ?lo_Walker_len ?co_Walker_len ?ke_Walker_len ?watme1_Walker_trail ?watme2_Walker_trail ?is_Walker_trail ?lo_Walker_trail ?co_Walker_trail ?ke_Walker_trail ?at_gcd ?lo_gcd ?co_gcd ?ke_gcd ?at_lowest ?lo_lowest ?co_lowest ?ke_lowest ?at_joined_form ?lo_joined_form ?co_joined_form ?ke_joined_form ?at_Map_rules ?gt_Map_rules ?tk_Map_rules ?rc_Map_rules ?lo_Map_rules ?co_Map_rules ?ke_Map_rules ?at_check_word ?lo_check_word ?co_check_word ?ke_check_word ?at_Map_modulus ?gt_Map_modulus ?tk_Map_modulus ?rc_Map_modulus ?lo_Map_modulus ?co_Map_modulus ?ke_Map_modulus ?at_form_of ?lo_form_of ?co_form_of ?ke_form_of ?at_is_fraction ?lo_is_fraction ?co_is_fraction ?ke_is_fraction ?at_is_good ?lo_is_good ?co_is_good ?ke_is_good ?at_back_by ?lo_back_by ?co_back_by ?ke_back_by ?watpr1_Walker_here ?gt_Walker_here ?tk_Walker_here ?rc_Walker_here ?watpr2_Walker_here ?is_Walker_here ?lo_Walker_here ?co_Walker_here ?ke_Walker_here ?watme1_Walker_fraction_behind ?watme2_Walker_fraction_behind ?is_Walker_fraction_behind ?lo_Walker_fraction_behind ?co_Walker_fraction_behind ?ke_Walker_fraction_behind ?watme1_Walker_back ?is_Walker_back ?lo_Walker_back ?co_Walker_back ?ke_Walker_back ?watme2_WholeWalker_back ?is_WholeWalker_back ?lo_WholeWalker_back ?co_WholeWalker_back ?ke_WholeWalker_back ?at_inverse ?lo_inverse ?co_inverse ?ke_inverse ?at_remainder_by ?lo_remainder_by ?co_remainder_by ?ke_remainder_by ?at_stepped ?lo_stepped ?co_stepped ?ke_stepped ?at_check_number ?lo_check_number ?co_check_number ?ke_check_number ?at_check_fraction ?lo_check_fraction ?co_check_fraction ?ke_check_fraction ?at_walk ?lo_walk ?co_walk ?ke_walk ?at_word_of ?lo_word_of ?co_word_of ?ke_word_of ?watca1_Walker_call ?wfi_Walker_call ?watca2_Walker_call ?is_Walker_call ?lo_Walker_call ?co_Walker_call ?ke_Walker_call ?at_law_gcd ?lo_law_gcd ?co_law_gcd ?ke_law_gcd ?at_law_lowest ?lo_law_lowest ?co_law_lowest ?ke_law_lowest ?at_law_rest ?lo_law_rest ?co_law_rest ?ke_law_rest ?at_law_move ?lo_law_move ?co_law_move ?ke_law_move ?at_law_walked ?lo_law_walked ?co_law_walked ?ke_law_walked ?at_law_there_and_back ?lo_law_there_and_back ?co_law_there_and_back ?ke_law_there_and_back ?at_Walker_init ?is_Walker_init ?lo_Walker_init ?co_Walker_init ?ke_Walker_init ?at_WholeWalker_init ?is_WholeWalker_init ?lo_WholeWalker_init ?co_WholeWalker_init ?ke_WholeWalker_init ?at_law_picks ?lo_law_picks ?co_law_picks ?ke_law_picks ?at_law_cell_at ?lo_law_cell_at ?co_law_cell_at ?ke_law_cell_at ?at_before ?lo_before ?co_before ?ke_before ?at_law_fraction ?lo_law_fraction ?co_law_fraction ?ke_law_fraction ?at_is_rule ?lo_is_rule ?co_is_rule ?ke_is_rule ?at_Map_init ?is_Map_init ?lo_Map_init ?co_Map_init ?ke_Map_init ?at_law_rows ?lo_law_rows ?co_law_rows ?ke_law_rows ?at_law ?lo_law ?co_law ?ke_law ?pg_Map ?hd_Map ?po_Map ?sa_Map ?ms_Map ?kc_Map ?nf_Map_base ?nf_Map_rows ?pg_Walker ?hd_Walker ?po_Walker ?sa_Walker ?ms_Walker ?kc_Walker ?nf_Walker_held_map ?nf_Walker_places ?nf_Walker_taken ?nf_Walker_marks ?pg_WholeWalker ?hd_WholeWalker ?po_WholeWalker ?sa_WholeWalker ?ms_WholeWalker ?kc_WholeWalker ?nf_WholeWalker_held_map ?nf_WholeWalker_places ?nf_WholeWalker_taken ?nf_WholeWalker_marks ?z_abs ?z_all ?z_bool ?z_enumerate ?z_int ?z_isinstance ?z_len ?z_list ?z_range ?z_tuple
    (case a_Map => k_is)
    (case a_Walker => k_is)
    (case a_WholeWalker => k_is)
    (case at_law_whole => k_is)
    (case lo_law_whole => k_is)
    (case co_law_whole => k_is)
    (case ke_law_whole => k_is)
    (case at_law_pair => k_is)
    (case lo_law_pair => k_is)
    (case co_law_pair => k_is)
    (case ke_law_pair => k_is)
    (case at_law_pairs => k_is)
    (case lo_law_pairs => k_is)
    (case co_law_pairs => k_is)
    (case ke_law_pairs => k_is)
    (case watme1_Walker_word => k_is)
    (case watme2_Walker_word => k_is)
    (case is_Walker_word => k_is)
    (case lo_Walker_word => k_is)
    (case co_Walker_word => k_is)
    (case ke_Walker_word => k_is)
    (case watme1_Walker_len => k_is)
    (case watme2_Walker_len => k_is)
    (case is_Walker_len => k_is)
    (case lo_Walker_len => k_is)
    (case co_Walker_len => k_is)
    (case ke_Walker_len => k_is)
    (case watme1_Walker_trail => k_is)
    (case watme2_Walker_trail => k_is)
    (case is_Walker_trail => k_is)
    (case lo_Walker_trail => k_is)
    (case co_Walker_trail => k_is)
    (case ke_Walker_trail => k_is)
    (case at_gcd => k_is)
    (case lo_gcd => k_is)
    (case co_gcd => k_is)
    (case ke_gcd => k_is)
    (case at_lowest => k_is)
    (case lo_lowest => k_is)
    (case co_lowest => k_is)
    (case ke_lowest => k_is)
    (case at_joined_form => k_is)
    (case lo_joined_form => k_is)
    (case co_joined_form => k_is)
    (case ke_joined_form => k_is)
    (case at_Map_rules => k_is)
    (case gt_Map_rules => k_is)
    (case tk_Map_rules => k_is)
    (case rc_Map_rules => k_is)
    (case lo_Map_rules => k_is)
    (case co_Map_rules => k_is)
    (case ke_Map_rules => k_is)
    (case at_check_word => k_is)
    (case lo_check_word => k_is)
    (case co_check_word => k_is)
    (case ke_check_word => k_is)
    (case at_Map_modulus => k_is)
    (case gt_Map_modulus => k_is)
    (case tk_Map_modulus => k_is)
    (case rc_Map_modulus => k_is)
    (case lo_Map_modulus => k_is)
    (case co_Map_modulus => k_is)
    (case ke_Map_modulus => k_is)
    (case at_form_of => k_is)
    (case lo_form_of => k_is)
    (case co_form_of => k_is)
    (case ke_form_of => k_is)
    (case at_is_fraction => k_is)
    (case lo_is_fraction => k_is)
    (case co_is_fraction => k_is)
    (case ke_is_fraction => k_is)
    (case at_is_good => k_is)
    (case lo_is_good => k_is)
    (case co_is_good => k_is)
    (case ke_is_good => k_is)
    (case at_back_by => k_is)
    (case lo_back_by => k_is)
    (case co_back_by => k_is)
    (case ke_back_by => k_is)
    (case watpr1_Walker_here => k_is)
    (case gt_Walker_here => k_is)
    (case tk_Walker_here => k_is)
    (case rc_Walker_here => k_is)
    (case watpr2_Walker_here => k_is)
    (case is_Walker_here => k_is)
    (case lo_Walker_here => k_is)
    (case co_Walker_here => k_is)
    (case ke_Walker_here => k_is)
    (case watme1_Walker_fraction_behind => k_is)
    (case watme2_Walker_fraction_behind => k_is)
    (case is_Walker_fraction_behind => k_is)
    (case lo_Walker_fraction_behind => k_is)
    (case co_Walker_fraction_behind => k_is)
    (case ke_Walker_fraction_behind => k_is)
    (case watme1_Walker_back => k_is)
    (case is_Walker_back => k_is)
    (case lo_Walker_back => k_is)
    (case co_Walker_back => k_is)
    (case ke_Walker_back => k_is)
    (case watme2_WholeWalker_back => k_is)
    (case is_WholeWalker_back => k_is)
    (case lo_WholeWalker_back => k_is)
    (case co_WholeWalker_back => k_is)
    (case ke_WholeWalker_back => k_is)
    (case at_inverse => k_is)
    (case lo_inverse => k_is)
    (case co_inverse => k_is)
    (case ke_inverse => k_is)
    (case at_remainder_by => k_is)
    (case lo_remainder_by => k_is)
    (case co_remainder_by => k_is)
    (case ke_remainder_by => k_is)
    (case at_stepped => k_is)
    (case lo_stepped => k_is)
    (case co_stepped => k_is)
    (case ke_stepped => k_is)
    (case at_check_number => k_is)
    (case lo_check_number => k_is)
    (case co_check_number => k_is)
    (case ke_check_number => k_is)
    (case at_check_fraction => k_is)
    (case lo_check_fraction => k_is)
    (case co_check_fraction => k_is)
    (case ke_check_fraction => k_is)
    (case at_walk => k_is)
    (case lo_walk => k_is)
    (case co_walk => k_is)
    (case ke_walk => k_is)
    (case at_word_of => k_is)
    (case lo_word_of => k_is)
    (case co_word_of => k_is)
    (case ke_word_of => k_is)
    (case watca1_Walker_call => k_is)
    (case wfi_Walker_call => k_is)
    (case watca2_Walker_call => k_is)
    (case is_Walker_call => k_is)
    (case lo_Walker_call => k_is)
    (case co_Walker_call => k_is)
    (case ke_Walker_call => k_is)
    (case at_law_gcd => k_is)
    (case lo_law_gcd => k_is)
    (case co_law_gcd => k_is)
    (case ke_law_gcd => k_is)
    (case at_law_lowest => k_is)
    (case lo_law_lowest => k_is)
    (case co_law_lowest => k_is)
    (case ke_law_lowest => k_is)
    (case at_law_rest => k_is)
    (case lo_law_rest => k_is)
    (case co_law_rest => k_is)
    (case ke_law_rest => k_is)
    (case at_law_move => k_is)
    (case lo_law_move => k_is)
    (case co_law_move => k_is)
    (case ke_law_move => k_is)
    (case at_law_walked => k_is)
    (case lo_law_walked => k_is)
    (case co_law_walked => k_is)
    (case ke_law_walked => k_is)
    (case at_law_there_and_back => k_is)
    (case lo_law_there_and_back => k_is)
    (case co_law_there_and_back => k_is)
    (case ke_law_there_and_back => k_is)
    (case at_Walker_init => k_is)
    (case is_Walker_init => k_is)
    (case lo_Walker_init => k_is)
    (case co_Walker_init => k_is)
    (case ke_Walker_init => k_is)
    (case at_WholeWalker_init => k_is)
    (case is_WholeWalker_init => k_is)
    (case lo_WholeWalker_init => k_is)
    (case co_WholeWalker_init => k_is)
    (case ke_WholeWalker_init => k_is)
    (case at_law_picks => k_is)
    (case lo_law_picks => k_is)
    (case co_law_picks => k_is)
    (case ke_law_picks => k_is)
    (case at_law_cell_at => k_is)
    (case lo_law_cell_at => k_is)
    (case co_law_cell_at => k_is)
    (case ke_law_cell_at => k_is)
    (case at_before => k_is)
    (case lo_before => k_is)
    (case co_before => k_is)
    (case ke_before => k_is)
    (case at_law_fraction => k_is)
    (case lo_law_fraction => k_is)
    (case co_law_fraction => k_is)
    (case ke_law_fraction => k_is)
    (case at_is_rule => k_is)
    (case lo_is_rule => k_is)
    (case co_is_rule => k_is)
    (case ke_is_rule => k_is)
    (case at_Map_init => k_is)
    (case is_Map_init => k_is)
    (case lo_Map_init => k_is)
    (case co_Map_init => k_is)
    (case ke_Map_init => k_is)
    (case at_law_rows => k_is)
    (case lo_law_rows => k_is)
    (case co_law_rows => k_is)
    (case ke_law_rows => k_is)
    (case at_law => k_is)
    (case lo_law => k_is)
    (case co_law => k_is)
    (case ke_law => k_is)
    (case pg_Map => k_is)
    (case hd_Map => k_is)
    (case po_Map => k_is)
    (case sa_Map => k_is)
    (case ms_Map => k_is)
    (case kc_Map => k_is)
    (case nf_Map_base => k_is)
    (case nf_Map_rows => k_is)
    (case pg_Walker => k_is)
    (case hd_Walker => k_is)
    (case po_Walker => k_is)
    (case sa_Walker => k_is)
    (case ms_Walker => k_is)
    (case kc_Walker => k_is)
    (case nf_Walker_held_map => k_is)
    (case nf_Walker_places => k_is)
    (case nf_Walker_taken => k_is)
    (case nf_Walker_marks => k_is)
    (case pg_WholeWalker => k_is)
    (case hd_WholeWalker => k_is)
    (case po_WholeWalker => k_is)
    (case sa_WholeWalker => k_is)
    (case ms_WholeWalker => k_is)
    (case kc_WholeWalker => k_is)
    (case nf_WholeWalker_held_map => k_is)
    (case nf_WholeWalker_places => k_is)
    (case nf_WholeWalker_taken => k_is)
    (case nf_WholeWalker_marks => k_is)
    (case z_abs => k_is)
    (case z_all => k_is)
    (case z_bool => k_is)
    (case z_enumerate => k_is)
    (case z_int => k_is)
    (case z_isinstance => k_is)
    (case z_len => k_is)
    (case z_list => k_is)
    (case z_range => k_is)
    (case z_tuple => k_is)
    (case wfc_Walker_back => k_is)
    (case wfc_Walker_init => k_is)
    (case wrd1 => k_is)
    (case wrd2 => k_is)

