import PyProof.Rows.All
import Wide.All
import OpenK.AllK
import Wide.FinOn
import HandS.ForMost
import HandS.ForExc
import HandS.Property
import HandS.Wide
import HandS.EndBits
import HandS.Style
import HandS.WordsList
import HandS.IsInst
import HandS.Codes
import HandS.SlotsOwn
import HandS.MakeKwOnly
import HandS.Conv
import HandS.NoneIn
import HandS.Exc
import HandS.ExcInit
import HandS.WordsExc
import KE.KExcIs
import HandS.ExcField
import HandS.ExcIs
import HandS.SortInts
import HandS.Deep
import PyProof.LongRange
import HandS.FStr
import HandS.Text
import HandS.Dict
import HandS.Iter
import HandS.SetKeys
import KE.KDictDisplayH
import PyProof.DictMoreH
import KE.KTupSum
import KE.SortData
import KE.DataCmp
import HandS.TupSets
import PyProof.Rows.SetFrom
import KE.DatumOrd
import HandS.SortKw
import HandS.SetFor
import HandS.More
import PySem.Challenge.RW_reststeps_k29_plain_words
set_option Elab.async false
set_option linter.all false
set_option maxRecDepth 100000
set_option maxHeartbeats 2000000
/-! The tree layer: values as trees, defs as predicate transformers over environments of trees. -/
namespace TL
open PySem L2

/-- at a: an exception of the class at C, its dict at dx -/
def exC (a C dx : Addr) : HO := .ext fun h => ∃ (oe : Obj) (vs : Array Value), h.get? a = some oe ∧ oe.cls = .ref C ∧ oe.dict = some dx ∧ oe.data = .fields vs
/-- a value as a tree (dct: an exception, [its class] [its value]) -/
inductive D where
  | non | bl (b : Bool) | int (i : Int) | str (x : Str)
  | tup (xs : List D) | lst (xs : List D) | obj (c : Nat) (xs : List D) | dct (ks xs : List D) | dic (ks xs : List D) | ptr (a : Addr)

/-- the classes: where each stands, the names of its fields in order; what the top has written -/
structure CC where
  cl : Nat → Addr × List Str
  K : PySem.W.Frag
/-- a key of a dict as a tree -/
def keyD : Key → D
  | .inl i => .int i
  | .inr x => .str x
/-- a dict stands at a: the kind of its keys (tuples or not) and its keys, its values -/
def DctO (H : Hp) (a : Addr) (ks : List D) (vs : List V) : Prop :=
  (∃ kk : List Key, ks = .bl false :: kk.map keyD ∧ kk.length = vs.length ∧ kk.Nodup ∧ H a = some (.dK (kk.zip vs))) ∨
  (∃ kt : List (List Key), ks = .bl true :: kt.map (fun k => .tup (k.map keyD)) ∧ kt.length = vs.length ∧ kt.Nodup ∧ H a = some (.dT (kt.zip vs)))
/-- the same, or the dict is locked: read alone -/
def DctR (H : Hp) (a : Addr) (ks : List D) (vs : List V) : Prop :=
  (∃ kk : List Key, ks = .bl false :: kk.map keyD ∧ kk.length = vs.length ∧ kk.Nodup ∧ Rd H a (.dK (kk.zip vs))) ∨
  (∃ kt : List (List Key), ks = .bl true :: kt.map (fun k => .tup (k.map keyD)) ∧ kt.length = vs.length ∧ kt.Nodup ∧ Rd H a (.dT (kt.zip vs)))
theorem DctO.rd {H : Hp} {a : Addr} {ks : List D} {vs : List V} (r : DctO H a ks vs) : DctR H a ks vs := by
  rcases r with ⟨kk, h1, h2, h3, h4⟩ | ⟨kk, h1, h2, h3, h4⟩
  · exact .inl ⟨kk, h1, h2, h3, .inl h4⟩
  · exact .inr ⟨kk, h1, h2, h3, .inl h4⟩
theorem DctR.heap {H H' : Hp} {a : Addr} {ks : List D} {vs : List V} (r : DctR H a ks vs) (e : ∀ o, H a = some o → H' a = some o) : DctR H' a ks vs := by
  rcases r with ⟨kk, h1, h2, h3, h4⟩ | ⟨kk, h1, h2, h3, h4⟩
  · exact .inl ⟨kk, h1, h2, h3, h4.imp (e _) fun ⟨o, q⟩ => ⟨o, e _ q⟩⟩
  · exact .inr ⟨kk, h1, h2, h3, h4.imp (e _) fun ⟨o, q⟩ => ⟨o, e _ q⟩⟩
theorem DctO.heap {H H' : Hp} {a : Addr} {ks : List D} {vs : List V} (r : DctO H a ks vs) (e : ∀ o, H a = some o → H' a = some o) : DctO H' a ks vs := by
  rcases r with ⟨kk, h1, h2, h3, h4⟩ | ⟨kk, h1, h2, h3, h4⟩
  · exact .inl ⟨kk, h1, h2, h3, e _ h4⟩
  · exact .inr ⟨kk, h1, h2, h3, e _ h4⟩
theorem DctO.ob {H : Hp} {a : Addr} {ks : List D} {vs : List V} (r : DctO H a ks vs) : ∃ o, H a = some o ∧ Mut (some o) := by
  rcases r with ⟨kk, h1, h2, h3, h4⟩ | ⟨kk, h1, h2, h3, h4⟩
  · exact ⟨_, h4, trivial⟩
  · exact ⟨_, h4, trivial⟩
mutual
/-- the value v stands for the tree d, all its objects within G -/
def Rep (cc : CC) (G : Hp) : V → D → Prop
  | v, .non => v = .non
  | v, .bl b => v = .bl b
  | v, .int i => v = .int i
  | v, .str x => v = .str x
  | v, .ptr a => v = .ref a
  | v, .tup ds => ∃ a vs, v = .ref a ∧ G a = some (.tup vs) ∧ Reps cc G vs ds
  | v, .lst ds => ∃ a vs, v = .ref a ∧ SqL cc.K G a vs ∧ Reps cc G vs ds
  | v, .obj c ds => ∃ a dx vs, v = .ref a ∧ G a = some (.ins (cc.cl c).1 dx ((cc.cl c).2.zip vs)) ∧ vs.length ≤ (cc.cl c).2.length ∧ Reps cc G vs ds
  | v, .dct ks ds => ∃ (c : Nat) (a dx : Addr) (u : V), ks = [.int c] ∧ v = .ref a ∧ G a = some (exC a (cc.cl c).1 dx) ∧ G dx = some (.xd [("value", u)]) ∧ Reps cc G [u] ds
  | v, .dic ks ds => ∃ a vs, v = .ref a ∧ DctR G a ks vs ∧ Reps cc G vs ds
def Reps (cc : CC) (G : Hp) : List V → List D → Prop
  | vs, [] => vs = []
  | vs, d :: ds => ∃ v r, vs = v :: r ∧ Rep cc G v d ∧ Reps cc G r ds
end

def LE (G G' : Hp) : Prop := ∀ a o, G a = some o → G' a = some o
theorem LE.refl (G : Hp) : LE G G := fun _ _ h => h
theorem LE.trans {A B C : Hp} (h : LE A B) (k : LE B C) : LE A C := fun a o e => k a o (h a o e)
theorem LE.rd {G G' : Hp} (h : LE G G') {a : Addr} {o : HO} (r : Rd G a o) : Rd G' a o := by
  rcases r with r | ⟨u, r⟩
  · exact .inl (h _ _ r)
  · exact .inr ⟨u, h _ _ r⟩
theorem LE.sql {K : PySem.W.Frag} {G G' : Hp} (h : LE G G') {a : Addr} {xs : List V} (r : SqL K G a xs) : SqL K G' a xs := by
  rcases r with r | r
  · exact .inl (h.rd r)
  · exact .inr r
theorem LE.upd {G : Hp} {a : Addr} {o : HO} (h : G a = none) : LE G (upd G a o) := fun b u e => by
  rw [upd_ne (ne_of_none e h)]; exact e
mutual
theorem Rep.mono {cc : CC} {G G' : Hp} (h : LE G G') : ∀ {d : D} {v : V}, Rep cc G v d → Rep cc G' v d
  | .non, _, r => by unfold Rep at r ⊢; exact r
  | .bl _, _, r => by unfold Rep at r ⊢; exact r
  | .int _, _, r => by unfold Rep at r ⊢; exact r
  | .str _, _, r => by unfold Rep at r ⊢; exact r
  | .ptr _, _, r => by unfold Rep at r ⊢; exact r
  | .tup ds, _, r => by
    unfold Rep at r ⊢
    obtain ⟨a, vs, e, g, q⟩ := r
    exact ⟨a, vs, e, h _ _ g, Reps.mono h q⟩
  | .lst ds, _, r => by
    unfold Rep at r ⊢
    obtain ⟨a, vs, e, g, q⟩ := r
    exact ⟨a, vs, e, h.sql g, Reps.mono h q⟩
  | .obj c ds, _, r => by
    unfold Rep at r ⊢
    obtain ⟨a, dx, vs, e, g, l, q⟩ := r
    exact ⟨a, dx, vs, e, h _ _ g, l, Reps.mono h q⟩
  | .dct _ ds, _, r => by
    unfold Rep at r ⊢
    obtain ⟨c, a, dx, u, e1, e2, g1, g2, q⟩ := r
    exact ⟨c, a, dx, u, e1, e2, h _ _ g1, h _ _ g2, Reps.mono h q⟩
  | .dic _ ds, _, r => by
    unfold Rep at r ⊢
    obtain ⟨a, vs, e, g, q⟩ := r
    exact ⟨a, vs, e, g.heap fun o ho => h _ _ ho, Reps.mono h q⟩
theorem Reps.mono {cc : CC} {G G' : Hp} (h : LE G G') : ∀ {ds : List D} {vs : List V}, Reps cc G vs ds → Reps cc G' vs ds
  | [], _, r => by unfold Reps at r ⊢; exact r
  | d :: ds, _, r => by
    unfold Reps at r ⊢
    obtain ⟨v, q, e, a, b⟩ := r
    exact ⟨v, q, e, Rep.mono h a, Reps.mono h b⟩
end

section
variable {cc : CC} {G : Hp}
theorem Reps.nil : Reps cc G [] [] := by unfold Reps; rfl
theorem Reps.cons {v : V} {d : D} {vs : List V} {ds : List D} (a : Rep cc G v d) (b : Reps cc G vs ds) : Reps cc G (v :: vs) (d :: ds) := by
  unfold Reps; exact ⟨v, vs, rfl, a, b⟩
theorem Reps.inv_cons {vs : List V} {d : D} {ds : List D} (h : Reps cc G vs (d :: ds)) : ∃ v r, vs = v :: r ∧ Rep cc G v d ∧ Reps cc G r ds := by
  unfold Reps at h; exact h
theorem Reps.inv_nil {vs : List V} (h : Reps cc G vs []) : vs = [] := by unfold Reps at h; exact h
theorem Reps.length : ∀ {ds : List D} {vs : List V}, Reps cc G vs ds → vs.length = ds.length
  | [], _, h => by rw [h.inv_nil]; rfl
  | d :: ds, _, h => by obtain ⟨v, r, rfl, _, q⟩ := h.inv_cons; simp [Reps.length q]
theorem Reps.append : ∀ {ds es : List D} {vs us : List V}, Reps cc G vs ds → Reps cc G us es → Reps cc G (vs ++ us) (ds ++ es)
  | [], _, _, _, h, k => by rw [h.inv_nil]; exact k
  | d :: ds, _, _, _, h, k => by obtain ⟨v, r, rfl, a, q⟩ := h.inv_cons; exact Reps.cons a (Reps.append q k)
theorem Reps.get : ∀ {ds : List D} {vs : List V} {i : Nat} {d : D}, Reps cc G vs ds → ds[i]? = some d → ∃ v, vs[i]? = some v ∧ Rep cc G v d
  | [], _, _, _, _, e => by simp at e
  | _ :: _, _, 0, _, h, e => by
    obtain ⟨v, r, rfl, a, q⟩ := h.inv_cons
    simp at e; subst e
    exact ⟨v, rfl, a⟩
  | _ :: _, _, i + 1, _, h, e => by
    obtain ⟨v, r, rfl, a, q⟩ := h.inv_cons
    simp at e
    obtain ⟨u, e1, e2⟩ := Reps.get q e
    exact ⟨u, by simpa using e1, e2⟩
theorem Reps.get' : ∀ {ds : List D} {vs : List V} {i : Nat} {v : V}, Reps cc G vs ds → vs[i]? = some v → ∃ d, ds[i]? = some d ∧ Rep cc G v d
  | [], _, _, _, h, e => by rw [h.inv_nil] at e; simp at e
  | _ :: _, _, 0, _, h, e => by
    obtain ⟨v, r, rfl, a, q⟩ := h.inv_cons
    simp at e; subst e
    exact ⟨_, rfl, a⟩
  | _ :: _, _, i + 1, _, h, e => by
    obtain ⟨v, r, rfl, a, q⟩ := h.inv_cons
    simp at e
    obtain ⟨u, e1, e2⟩ := Reps.get' q e
    exact ⟨u, by simpa using e1, e2⟩
theorem Reps.set : ∀ {ds : List D} {vs : List V} (i : Nat) {v : V} {d : D}, Reps cc G vs ds → Rep cc G v d → Reps cc G (vs.set i v) (ds.set i d)
  | [], _, _, _, _, h, _ => by rw [h.inv_nil]; exact Reps.nil
  | _ :: _, _, 0, _, _, h, k => by
    obtain ⟨v, r, rfl, a, q⟩ := h.inv_cons
    exact Reps.cons k q
  | _ :: _, _, i + 1, _, _, h, k => by
    obtain ⟨v, r, rfl, a, q⟩ := h.inv_cons
    exact Reps.cons a (Reps.set i q k)
theorem Reps.take : ∀ {ds : List D} {vs : List V} (n : Nat), Reps cc G vs ds → Reps cc G (vs.take n) (ds.take n)
  | _, _, 0, _ => by simp; exact Reps.nil
  | [], _, _ + 1, h => by rw [h.inv_nil]; exact Reps.nil
  | _ :: _, _, n + 1, h => by
    obtain ⟨v, r, rfl, a, q⟩ := h.inv_cons
    exact Reps.cons a (Reps.take n q)
theorem Reps.drop : ∀ {ds : List D} {vs : List V} (n : Nat), Reps cc G vs ds → Reps cc G (vs.drop n) (ds.drop n)
  | _, _, 0, h => by simpa using h
  | [], _, _ + 1, h => by rw [h.inv_nil]; exact Reps.nil
  | _ :: _, _, n + 1, h => by
    obtain ⟨v, r, rfl, a, q⟩ := h.inv_cons
    exact Reps.drop n q
theorem Reps.reverse : ∀ {ds : List D} {vs : List V}, Reps cc G vs ds → Reps cc G vs.reverse ds.reverse
  | [], _, h => by rw [h.inv_nil]; exact Reps.nil
  | _ :: _, _, h => by
    obtain ⟨v, r, rfl, a, q⟩ := h.inv_cons
    rw [List.reverse_cons, List.reverse_cons]
    exact (Reps.reverse q).append (Reps.cons a Reps.nil)
theorem Reps.mem : ∀ {ds : List D} {vs : List V} {v : V}, Reps cc G vs ds → v ∈ vs → ∃ d, d ∈ ds ∧ Rep cc G v d
  | [], _, _, h, e => by rw [h.inv_nil] at e; simp at e
  | d :: _, _, u, h, e => by
    obtain ⟨v, r, rfl, a, q⟩ := h.inv_cons
    rcases List.mem_cons.mp e with rfl | e
    · exact ⟨d, List.mem_cons_self, a⟩
    · obtain ⟨x, y, z⟩ := Reps.mem q e; exact ⟨x, List.mem_cons_of_mem _ y, z⟩
end

/-- a slot of a def: nothing known; a value that may stand elsewhere too; a root that stands nowhere else (p: it is the caller's, handed in to be changed) -/
inductive Sl where
  | no | sh (d : D) | own (p : Bool) (a : Addr) (d : D)
abbrev REnv := List Sl
/-- what an expression gives: the value of a name; a value; a new root; a ghost (a root of no name, behind the frame); a value with new roots within -/
inductive Rv where
  | loc (i : Nat) | sh (d : D) | fr (a : Addr) (d : D) | gh (j : Nat) (a : Addr) | gx (as : List Addr) (cs : List D) (t : D)
def getL (ρ : REnv) (i : Nat) : D := match ρ[i]? with | some (.sh d) => d | some (.own _ _ d) => d | _ => .non
/-- the addresses of the roots that are known -/
def owns : REnv → List Addr
  | [] => []
  | .own _ a _ :: ρ => a :: owns ρ
  | _ :: ρ => owns ρ
def Rv.get (r : Rv) (ρ : REnv) : D := match r with | .loc i => getL ρ i | .sh d => d | .fr _ d => d | .gh j _ => getL ρ j | .gx _ _ t => t
def Rv.pend (r : Rv) : Rv := match r with | .fr _ d => .sh d | .gx _ _ t => .sh t | r => r
theorem Rv.get_pend (r : Rv) (ρ : REnv) : r.pend.get ρ = r.get ρ := by cases r <;> rfl
def bound (ρ : REnv) (i : Nat) : Prop := match ρ[i]? with | some (.sh _) => True | some (.own _ _ _) => True | _ => False

/-- what is wanted of an exception: its class, its value, the names -/
abbrev Xk := Nat → D → REnv → Prop
abbrev EW := Xk → REnv → (Rv → REnv → Prop) → Prop
abbrev TW := Xk → REnv → (Bool → REnv → Prop) → Prop
structure SK where
  nx : REnv → Prop
  rt : Rv → REnv → Prop
  bk : REnv → Prop := fun _ => False
  ct : REnv → Prop := fun _ => False
abbrev SW := Xk → REnv → SK → Prop
abbrev GW := D → REnv → (REnv → Prop) → Prop

/-- fixed through a def's run: where the classes stand, the heap and the known part of it at the entry, the arguments that may be changed -/
structure Zone where
  cc : CC
  H0 : Hp
  G0 : Hp
  mu : List Addr
  xk : Xk
  n : Nat

/-- the object at a is the root of d, its parts within G -/
def Root (cc : CC) (G H : Hp) (a : Addr) : D → Prop
  | .lst ds => ∃ vs, H a = some (.lst vs) ∧ Reps cc G vs ds
  | .obj c ds => ∃ dx vs, H a = some (.ins (cc.cl c).1 dx ((cc.cl c).2.zip vs)) ∧ vs.length ≤ (cc.cl c).2.length ∧ Reps cc G vs ds
  | .dic ks ds => ∃ vs, DctO H a ks vs ∧ Reps cc G vs ds
  | _ => False
def SlOk (cc : CC) (G H : Hp) (i : Nat) (σ : St) : Sl → Prop
  | .no => True
  | .sh d => ∃ v, σ[i]? = some (some v) ∧ Rep cc G v d
  | .own _ a d => (σ[i]? = some (some (.ref a)) ∨ σ.length ≤ i) ∧ Root cc G H a d
structure SR (Z : Zone) (ρ : REnv) (G : Hp) (σ : St) (H : Hp) : Prop where
  len : σ.length = Z.n ∧ Z.n ≤ ρ.length
  sub : LE G H
  slot : ∀ (i : Nat) (s : Sl), ρ[i]? = some s → SlOk Z.cc G H i σ s
  inj : ∀ (i j : Nat) (p q : Bool) (a : Addr) (d : D) (b : Addr) (e : D), ρ[i]? = some (.own p a d) → ρ[j]? = some (.own q b e) → i ≠ j → a ≠ b
  out : ∀ (i : Nat) (p : Bool) (a : Addr) (d : D), ρ[i]? = some (.own p a d) → G a = none
  ent : ∀ a o, Z.H0 a = some o → a ∉ Z.mu → H a = some o
  frs : ∀ (i : Nat) (p : Bool) (a : Addr) (d : D), ρ[i]? = some (.own p a d) → if p then a ∈ Z.mu else (Z.H0 a = none ∧ a ∉ Z.mu)
  gnew : ∀ a, G a ≠ none → Z.G0 a ≠ none ∨ Z.H0 a = none
  g0 : LE Z.G0 G
  mout : ∀ a ∈ Z.mu, G a = none
  mux : ∀ a ∈ Z.mu, H a ≠ none
/-- a new root at a -/
def FrOk (Z : Zone) (ρ : REnv) (G H : Hp) (a : Addr) (d : D) : Prop := Root Z.cc G H a d ∧ G a = none ∧ (∀ (i : Nat) (p : Bool) (b : Addr) (e : D), ρ[i]? = some (.own p b e) → b ≠ a) ∧ Z.H0 a = none ∧ a ∉ Z.mu
def RvOk (Z : Zone) (r : Rv) (ρ : REnv) (G : Hp) (σ : St) (H : Hp) (v : V) : Prop :=
  match r with
  | .loc i => σ[i]? = some (some v) ∧ bound ρ i
  | .sh d => Rep Z.cc G v d
  | .gh j a => v = .ref a ∧ ∃ p d, ρ[j]? = some (.own p a d)
  | .gx as cs t => as.Nodup ∧ as.length = cs.length ∧ Rep Z.cc G v t ∧ ∀ (i : Nat) (a : Addr) (d : D), as[i]? = some a → cs[i]? = some d → FrOk Z ρ G H a d
  | .fr a d => v = .ref a ∧ Root Z.cc G H a d ∧ G a = none ∧ (∀ (i : Nat) (p : Bool) (b : Addr) (e : D), ρ[i]? = some (.own p b e) → b ≠ a) ∧ Z.H0 a = none ∧ a ∉ Z.mu

theorem Root.mono {cc : CC} {G G' H : Hp} {a : Addr} {d : D} (h : LE G G') (r : Root cc G H a d) : Root cc G' H a d := by
  cases d <;> try exact r
  · obtain ⟨vs, e, q⟩ := r; exact ⟨vs, e, q.mono h⟩
  · obtain ⟨dx, vs, e, l, q⟩ := r; exact ⟨dx, vs, e, l, q.mono h⟩
  · obtain ⟨vs, e, q⟩ := r; exact ⟨vs, e, q.mono h⟩
/-- the root's object -/
theorem Root.ob {cc : CC} {G H : Hp} {a : Addr} {d : D} (r : Root cc G H a d) : ∃ o, H a = some o ∧ Mut (some o) := by
  cases d <;> try exact r.elim
  · obtain ⟨vs, e, q⟩ := r; exact ⟨_, e, trivial⟩
  · obtain ⟨dx, vs, e, l, q⟩ := r; exact ⟨_, e, trivial⟩
  · obtain ⟨vs, e, q⟩ := r; exact e.ob
theorem Root.heap {cc : CC} {G H H' : Hp} {a : Addr} {d : D} (r : Root cc G H a d) (e : ∀ o, H a = some o → H' a = some o) : Root cc G H' a d := by
  cases d <;> try exact r.elim
  · obtain ⟨vs, h, q⟩ := r; exact ⟨vs, e _ h, q⟩
  · obtain ⟨dx, vs, h, l, q⟩ := r; exact ⟨dx, vs, e _ h, l, q⟩
  · obtain ⟨vs, h, q⟩ := r; exact ⟨vs, h.heap e, q⟩
theorem Root.rep {cc : CC} {G H : Hp} {a : Addr} {d : D} (r : Root cc G H a d) (h : LE G H) : Rep cc H (.ref a) d := by
  cases d <;> try exact r.elim
  · obtain ⟨vs, e, q⟩ := r; unfold Rep; exact ⟨a, vs, rfl, SqL.of e, q.mono h⟩
  · obtain ⟨dx, vs, e, l, q⟩ := r; unfold Rep; exact ⟨a, dx, vs, rfl, e, l, q.mono h⟩
  · obtain ⟨vs, e, q⟩ := r; unfold Rep; exact ⟨a, vs, rfl, e.rd, q.mono h⟩
theorem Root.rep' {cc : CC} {G H : Hp} {a : Addr} {d : D} (r : Root cc G H a d) {o : HO} (ho : H a = some o) (n : G a = none) : Rep cc (upd G a o) (.ref a) d := by
  cases d <;> try exact r.elim
  · obtain ⟨vs, e, q⟩ := r; rw [ho] at e; cases e; unfold Rep; exact ⟨a, vs, rfl, SqL.of upd_same, q.mono (LE.upd n)⟩
  · obtain ⟨dx, vs, e, l, q⟩ := r; rw [ho] at e; cases e; unfold Rep; exact ⟨a, dx, vs, rfl, upd_same, l, q.mono (LE.upd n)⟩
  · obtain ⟨vs, e, q⟩ := r; unfold Rep; exact ⟨a, vs, rfl, e.rd.heap fun u hu => by rw [ho] at hu; cases hu; exact upd_same, q.mono (LE.upd n)⟩

theorem SlOk.mono {cc : CC} {G G' H : Hp} {i : Nat} {σ : St} {s : Sl} (h : LE G G') (r : SlOk cc G H i σ s) : SlOk cc G' H i σ s := by
  cases s with
  | no => trivial
  | sh d => obtain ⟨v, e, q⟩ := r; exact ⟨v, e, q.mono h⟩
  | own p a d => exact ⟨r.1, r.2.mono h⟩
end TL

namespace TL
open PySem L2

/-- v shows the tree d: its own object as it stands in H, its parts within G -/
def View (cc : CC) (G H : Hp) (v : V) : D → Prop
  | .non => v = .non
  | .bl b => v = .bl b
  | .int i => v = .int i
  | .str x => v = .str x
  | .ptr a => v = .ref a
  | .tup ds => ∃ a vs, v = .ref a ∧ H a = some (.tup vs) ∧ Reps cc G vs ds
  | .lst ds => ∃ a vs, v = .ref a ∧ SqL cc.K H a vs ∧ Reps cc G vs ds
  | .obj c ds => ∃ a dx vs, v = .ref a ∧ H a = some (.ins (cc.cl c).1 dx ((cc.cl c).2.zip vs)) ∧ vs.length ≤ (cc.cl c).2.length ∧ Reps cc G vs ds
  | .dct ks ds => ∃ (c : Nat) (a dx : Addr) (u : V), ks = [.int c] ∧ v = .ref a ∧ H a = some (exC a (cc.cl c).1 dx) ∧ H dx = some (.xd [("value", u)]) ∧ Reps cc G [u] ds
  | .dic ks ds => ∃ a vs, v = .ref a ∧ DctR H a ks vs ∧ Reps cc G vs ds
theorem View.of_rep {cc : CC} {G H : Hp} (h : LE G H) {v : V} {d : D} (r : Rep cc G v d) : View cc G H v d := by
  cases d <;> unfold Rep at r <;> try exact r
  · obtain ⟨a, vs, e, g, q⟩ := r; exact ⟨a, vs, e, h _ _ g, q⟩
  · obtain ⟨a, vs, e, g, q⟩ := r; exact ⟨a, vs, e, h.sql g, q⟩
  · obtain ⟨a, dx, vs, e, g, l, q⟩ := r; exact ⟨a, dx, vs, e, h _ _ g, l, q⟩
  · obtain ⟨c, a, dx, u, e1, e2, g1, g2, q⟩ := r; exact ⟨c, a, dx, u, e1, e2, h _ _ g1, h _ _ g2, q⟩
  · obtain ⟨a, vs, e, g, q⟩ := r; exact ⟨a, vs, e, g.heap fun o ho => h _ _ ho, q⟩
theorem View.of_root {cc : CC} {G H : Hp} {a : Addr} {d : D} (r : Root cc G H a d) : View cc G H (.ref a) d := by
  cases d <;> try exact r.elim
  · obtain ⟨vs, e, q⟩ := r; exact ⟨a, vs, rfl, SqL.of e, q⟩
  · obtain ⟨dx, vs, e, l, q⟩ := r; exact ⟨a, dx, vs, rfl, e, l, q⟩
  · obtain ⟨vs, e, q⟩ := r; exact ⟨a, vs, rfl, e.rd, q⟩

theorem own_in {σ : St} {i : Nat} {a : Addr} {v : V} (e : σ[i]? = some (some v)) (h : σ[i]? = some (some (.ref a)) ∨ σ.length ≤ i) : v = .ref a := by
  rcases h with h | h
  · rw [e] at h; cases h; rfl
  · rw [List.getElem?_eq_none h] at e; cases e
theorem own_at {σ : St} {i : Nat} {a : Addr} (hi : i < σ.length) (h : σ[i]? = some (some (.ref a)) ∨ σ.length ≤ i) : σ[i]? = some (some (.ref a)) := h.resolve_right (by omega)
theorem owns_set {σ : St} {i j : Nat} {x : Option V} {a : Addr} (hj : i ≠ j) (h : σ[i]? = some (some (.ref a)) ∨ σ.length ≤ i) : (σ.set j x)[i]? = some (some (.ref a)) ∨ (σ.set j x).length ≤ i := by
  rw [List.getElem?_set_ne (Ne.symm hj), List.length_set]; exact h
theorem owns_unset {σ : St} {i j : Nat} {x : Option V} {a : Addr} (hj : i ≠ j) (h : (σ.set j x)[i]? = some (some (.ref a)) ∨ (σ.set j x).length ≤ i) : σ[i]? = some (some (.ref a)) ∨ σ.length ≤ i := by
  rw [List.getElem?_set_ne (Ne.symm hj), List.length_set] at h; exact h
section
variable {Z : Zone} {ρ : REnv} {G H : Hp} {σ : St}
theorem FrOk.mono {ρ ρ' : REnv} {G G' H : Hp} {a : Addr} {d : D} (h : LE G G') (q : FrOk Z ρ G H a d) (ga : G' a = none) (hr : ∀ (i : Nat) (p : Bool) (b : Addr) (e : D), ρ'[i]? = some (.own p b e) → b ≠ a) : FrOk Z ρ' G' H a d :=
  ⟨q.1.mono h, ga, hr, q.2.2.2.1, q.2.2.2.2⟩
theorem SR.h0 (I : SR Z ρ G σ H) {p : Addr} (h : H p = none) : Z.H0 p = none ∧ p ∉ Z.mu := by
  have h2 : p ∉ Z.mu := fun m => I.mux p m h
  refine ⟨?_, h2⟩
  cases e : Z.H0 p with
  | none => rfl
  | some o => have := I.ent p o e h2; rw [h] at this; cases this
theorem SR.g (I : SR Z ρ G σ H) {p : Addr} (h : H p = none) : G p = none := by
  cases e : G p with
  | none => rfl
  | some o => have := I.sub p o e; rw [h] at this; cases this
theorem SR.own_ob (I : SR Z ρ G σ H) {i : Nat} {p : Bool} {a : Addr} {d : D} (h : ρ[i]? = some (.own p a d)) : Root Z.cc G H a d := (I.slot i _ h).2
theorem SR.own_ne (I : SR Z ρ G σ H) {i : Nat} {m : Bool} {a p : Addr} {d : D} (h : ρ[i]? = some (.own m a d)) (hp : H p = none) : a ≠ p := by
  obtain ⟨o, e, _⟩ := (I.own_ob h).ob
  exact ne_of_none e hp

/-- a new object, known -/
theorem SR.newG (I : SR Z ρ G σ H) {p : Addr} {o : HO} (hp : H p = none) : SR Z ρ (upd G p o) σ (upd H p o) := by
  have gp := I.g hp
  obtain ⟨z0, zm⟩ := I.h0 hp
  have hle : LE H (upd H p o) := LE.upd hp
  refine ⟨I.len, fun a u e => ?_, fun i s e => ?_, I.inj, fun i m a d e => ?_, fun a u e hm => hle _ _ (I.ent a u e hm), I.frs, fun a ha => ?_, fun a u e => ?_, fun a ha => ?_, fun a ha => ?_⟩
  · by_cases h : a = p
    · subst h; rw [upd_same] at e ⊢; exact e
    · rw [upd_ne h] at e ⊢; exact I.sub a u e
  · have q := I.slot i s e
    cases s with
    | no => trivial
    | sh d => obtain ⟨v, e1, r⟩ := q; exact ⟨v, e1, r.mono (LE.upd gp)⟩
    | own m a d => exact ⟨q.1, (q.2.mono (LE.upd gp)).heap fun u hu => hle _ _ hu⟩
  · rw [upd_ne (I.own_ne e hp)]; exact I.out i m a d e
  · by_cases h : a = p
    · subst h; exact .inr z0
    · rw [upd_ne h] at ha; exact I.gnew a ha
  · exact (LE.upd gp) _ _ (I.g0 a u e)
  · have : a ≠ p := fun h => zm (h ▸ ha)
    rw [upd_ne this]; exact I.mout a ha
  · have : a ≠ p := fun h => zm (h ▸ ha)
    rw [upd_ne this]; exact I.mux a ha
/-- a new object, not known -/
theorem SR.newH (I : SR Z ρ G σ H) {p : Addr} {o : HO} (hp : H p = none) : SR Z ρ G σ (upd H p o) := by
  have gp := I.g hp
  obtain ⟨z0, zm⟩ := I.h0 hp
  have hle : LE H (upd H p o) := LE.upd hp
  refine ⟨I.len, fun a u e => hle _ _ (I.sub a u e), fun i s e => ?_, I.inj, I.out, fun a u e hm => hle _ _ (I.ent a u e hm), I.frs, I.gnew, I.g0, I.mout, fun a ha => ?_⟩
  · have q := I.slot i s e
    cases s with
    | no => trivial
    | sh d => exact q
    | own m a d => exact ⟨q.1, q.2.heap fun u hu => hle _ _ hu⟩
  · have : a ≠ p := fun h => zm (h ▸ ha)
    rw [upd_ne this]; exact I.mux a ha
/-- an object that stands, not an own one: known from now on -/
theorem SR.know (I : SR Z ρ G σ H) {p : Addr} {o : HO} (hp : H p = some o) (hg : G p = none) (ho : ∀ (i : Nat) (m : Bool) (b : Addr) (e : D), ρ[i]? = some (.own m b e) → b ≠ p) (h0 : Z.H0 p = none) (hm : p ∉ Z.mu) : SR Z ρ (upd G p o) σ H := by
  refine ⟨I.len, fun a u e => ?_, fun i s e => (I.slot i s e).mono (LE.upd hg), I.inj, fun i m a d e => ?_, I.ent, I.frs, fun a ha => ?_, fun a u e => (LE.upd hg) _ _ (I.g0 a u e), fun a ha => ?_, I.mux⟩
  · by_cases h : a = p
    · subst h; rw [upd_same] at e; cases e; exact hp
    · rw [upd_ne h] at e; exact I.sub a u e
  · rw [upd_ne (ho i m a d e)]; exact I.out i m a d e
  · by_cases h : a = p
    · subst h; exact .inr h0
    · rw [upd_ne h] at ha; exact I.gnew a ha
  · have : a ≠ p := fun h => hm (h ▸ ha)
    rw [upd_ne this]; exact I.mout a ha
/-- a new root is given up to what is known -/
theorem SR.freeze (I : SR Z ρ G σ H) {r : Rv} {v : V} (q : RvOk Z r ρ G σ H v) : ∃ G', LE G G' ∧ SR Z ρ G' σ H ∧ RvOk Z r.pend ρ G' σ H v := by
  cases r with
  | loc i => exact ⟨G, LE.refl G, I, q⟩
  | sh d => exact ⟨G, LE.refl G, I, q⟩
  | gh j a => exact ⟨G, LE.refl G, I, q⟩
  | gx as cs t => exact ⟨G, LE.refl G, I, q.2.2.1⟩
  | fr a d =>
    obtain ⟨rfl, rt, ga, ho, z0, zm⟩ := q
    obtain ⟨o, e, _⟩ := rt.ob
    exact ⟨upd G a o, LE.upd ga, I.know e ga ho z0 zm, rt.rep' e ga⟩
theorem RvOk.view (I : SR Z ρ G σ H) {r : Rv} {v : V} (q : RvOk Z r ρ G σ H v) : View Z.cc G H v (r.get ρ) := by
  cases r with
  | loc i =>
    obtain ⟨e, hb⟩ := q
    unfold bound at hb
    show View _ _ _ _ (getL ρ i)
    unfold getL
    cases hs : ρ[i]? with
    | none => rw [hs] at hb; exact hb.elim
    | some s =>
      have so := I.slot i s hs
      cases s with
      | no => rw [hs] at hb; exact hb.elim
      | sh d =>
        obtain ⟨u, eu, r⟩ := so
        rw [e] at eu; cases eu
        exact View.of_rep I.sub r
      | own m a d =>
        obtain ⟨eu, r⟩ := so
        cases own_in e eu
        exact View.of_root r
  | sh d => exact View.of_rep (d := d) I.sub q
  | gh j a =>
    obtain ⟨rfl, p, d, hs⟩ := q
    show View _ _ _ _ (getL ρ j)
    unfold getL
    rw [hs]
    exact View.of_root (I.slot j _ hs).2
  | gx as cs t => exact View.of_rep (d := t) I.sub q.2.2.1
  | fr a d => obtain ⟨rfl, rt, _⟩ := q; exact View.of_root rt
theorem RvOk.repH (I : SR Z ρ G σ H) {r : Rv} {v : V} (q : RvOk Z r ρ G σ H v) : Rep Z.cc H v (r.get ρ) := by
  cases r with
  | loc i =>
    obtain ⟨e, hb⟩ := q
    unfold bound at hb
    show Rep _ _ _ (getL ρ i)
    unfold getL
    cases hs : ρ[i]? with
    | none => rw [hs] at hb; exact hb.elim
    | some s =>
      have so := I.slot i s hs
      cases s with
      | no => rw [hs] at hb; exact hb.elim
      | sh d =>
        obtain ⟨u, eu, r⟩ := so
        rw [e] at eu; cases eu
        exact r.mono I.sub
      | own m a d =>
        obtain ⟨eu, r⟩ := so
        cases own_in e eu
        exact r.rep I.sub
  | sh d => exact Rep.mono (d := d) I.sub q
  | gh j a =>
    obtain ⟨rfl, p, d, hs⟩ := q
    show Rep _ _ _ (getL ρ j)
    unfold getL
    rw [hs]
    exact (I.slot j _ hs).2.rep I.sub
  | gx as cs t => exact Rep.mono (d := t) I.sub q.2.2.1
  | fr a d => obtain ⟨rfl, rt, _⟩ := q; exact rt.rep I.sub

theorem get_set {ρ : REnv} {i j : Nat} {s t : Sl} (h : (ρ.set i s)[j]? = some t) : (j = i ∧ t = s) ∨ (j ≠ i ∧ ρ[j]? = some t) := by
  by_cases e : i = j
  · subst e
    rw [List.getElem?_set] at h
    simp only [if_true] at h
    split at h
    · exact .inl ⟨rfl, (Option.some.inj h).symm⟩
    · cases h
  · rw [List.getElem?_set_ne e] at h
    exact .inr ⟨fun z => e z.symm, h⟩
/-- an own root becomes a value that is known -/
theorem SR.leak (I : SR Z ρ G σ H) {i : Nat} {a : Addr} {d : D} (h : ρ[i]? = some (.own false a d)) (es : σ[i]? = some (some (.ref a))) : ∃ G', LE G G' ∧ SR Z (ρ.set i (.sh d)) G' σ H ∧ Rep Z.cc G' (.ref a) d := by
  obtain ⟨_, rt⟩ := I.slot i _ h
  obtain ⟨o, e, _⟩ := rt.ob
  have ga := I.out i false a d h
  obtain ⟨z0, hm⟩ : Z.H0 a = none ∧ a ∉ Z.mu := I.frs i false a d h
  have rp := rt.rep' e ga
  refine ⟨upd G a o, LE.upd ga, ⟨by simpa using I.len, fun b u q => ?_, fun j s q => ?_, fun j k m n b x c y q1 q2 hn => ?_, fun j m b x q => ?_, I.ent, fun j m b x q => ?_, fun b hb => ?_, fun b u q => (LE.upd ga) _ _ (I.g0 b u q), fun b hb => ?_, I.mux⟩, rp⟩
  · by_cases hh : b = a
    · subst hh; rw [upd_same] at q; cases q; exact e
    · rw [upd_ne hh] at q; exact I.sub b u q
  · rcases get_set q with ⟨rfl, rfl⟩ | ⟨hj, q⟩
    · exact ⟨_, es, rp⟩
    · exact (I.slot j s q).mono (LE.upd ga)
  · rcases get_set q1 with ⟨_, q1⟩ | ⟨_, q1⟩
    · cases q1
    · rcases get_set q2 with ⟨_, q2⟩ | ⟨_, q2⟩
      · cases q2
      · exact I.inj j k m n b x c y q1 q2 hn
  · rcases get_set q with ⟨_, q⟩ | ⟨hj, q⟩
    · cases q
    · rw [upd_ne (I.inj j i m false b x a d q h hj)]; exact I.out j m b x q
  · rcases get_set q with ⟨_, q⟩ | ⟨hj, q⟩
    · cases q
    · exact I.frs j m b x q
  · by_cases hh : b = a
    · subst hh; exact .inr z0
    · rw [upd_ne hh] at hb; exact I.gnew b hb
  · have : b ≠ a := fun h => hm (h ▸ hb)
    rw [upd_ne this]; exact I.mout b hb

/-- a value that is stored somewhere: a root of a name's own is given up -/
def stl (r : Rv) (ρ : REnv) (K : D → REnv → Prop) : Prop :=
  match r with
  | .loc i => match ρ[i]? with
    | some (.sh d) => K d ρ
    | some (.own false _ d) => K d (ρ.set i (.sh d))
    | _ => False
  | .sh d => K d ρ
  | .fr _ d => K d ρ
  | .gh _ a => K (.ptr a) ρ
  | .gx _ _ _ => False
theorem SR.settle (I : SR Z ρ G σ H) {r : Rv} {v : V} {K : D → REnv → Prop} (q : RvOk Z r ρ G σ H v) (h : stl r ρ K) : ∃ d ρ' G', LE G G' ∧ SR Z ρ' G' σ H ∧ Rep Z.cc G' v d ∧ K d ρ' ∧ ∀ i, bound ρ i → bound ρ' i := by
  cases r with
  | loc i =>
    obtain ⟨e, hb⟩ := q
    unfold stl at h
    cases hs : ρ[i]? with
    | none => simp only [hs] at h
    | some s =>
      simp only [hs] at h
      cases s with
      | no => exact h.elim
      | sh d =>
        obtain ⟨u, eu, r⟩ := I.slot i _ hs
        rw [e] at eu; cases eu
        exact ⟨d, ρ, G, LE.refl G, I, r, h, fun _ z => z⟩
      | own m a d =>
        cases m with
        | true => exact h.elim
        | false =>
          obtain ⟨eu, _⟩ := I.slot i _ hs
          cases own_in e eu
          obtain ⟨G', l, I', r⟩ := I.leak hs e
          refine ⟨d, _, G', l, I', r, h, fun j hj => ?_⟩
          unfold bound at hj ⊢
          by_cases hji : i = j
          · subst hji
            obtain ⟨hlt, _⟩ := List.getElem?_eq_some_iff.mp hs
            rw [List.getElem?_set_self hlt]
            trivial
          · rw [List.getElem?_set_ne hji]; exact hj
  | sh d => exact ⟨d, ρ, G, LE.refl G, I, q, h, fun _ z => z⟩
  | gh j a => exact ⟨.ptr a, ρ, G, LE.refl G, I, by unfold Rep; exact q.1, h, fun _ z => z⟩
  | gx as cs t => exact h.elim
  | fr a d =>
    obtain ⟨G', l, I', r⟩ := I.freeze q
    exact ⟨d, ρ, G', l, I', r, h, fun _ z => z⟩

/-- a slot is stored -/
theorem SR.put (I : SR Z ρ G σ H) {i : Nat} {v : V} {d : D} (hi : i < σ.length) (r : Rep Z.cc G v d) : SR Z (ρ.set i (.sh d)) G (σ.set i (some v)) H := by
  refine ⟨by simpa using I.len, I.sub, fun j s q => ?_, fun j k m n b x c y q1 q2 hn => ?_, fun j m b x q => ?_, I.ent, fun j m b x q => ?_, I.gnew, I.g0, I.mout, I.mux⟩
  · rcases get_set q with ⟨rfl, rfl⟩ | ⟨hj, q⟩
    · exact ⟨v, by rw [List.getElem?_set_self hi], r⟩
    · have so := I.slot j s q
      cases s with
      | no => trivial
      | sh d => obtain ⟨u, eu, ru⟩ := so; exact ⟨u, by rw [List.getElem?_set_ne (Ne.symm hj)]; exact eu, ru⟩
      | own m a d => exact ⟨owns_set hj so.1, so.2⟩
  · rcases get_set q1 with ⟨_, q1⟩ | ⟨_, q1⟩
    · cases q1
    · rcases get_set q2 with ⟨_, q2⟩ | ⟨_, q2⟩
      · cases q2
      · exact I.inj j k m n b x c y q1 q2 hn
  · rcases get_set q with ⟨_, q⟩ | ⟨hj, q⟩
    · cases q
    · exact I.out j m b x q
  · rcases get_set q with ⟨_, q⟩ | ⟨hj, q⟩
    · cases q
    · exact I.frs j m b x q
theorem SR.putNo (I : SR Z ρ G σ H) {i : Nat} {v : Option V} : SR Z (ρ.set i .no) G (σ.set i v) H := by
  refine ⟨by simpa using I.len, I.sub, fun j s q => ?_, fun j k m n b x c y q1 q2 hn => ?_, fun j m b x q => ?_, I.ent, fun j m b x q => ?_, I.gnew, I.g0, I.mout, I.mux⟩
  · rcases get_set q with ⟨rfl, rfl⟩ | ⟨hj, q⟩
    · trivial
    · have so := I.slot j s q
      cases s with
      | no => trivial
      | sh d => obtain ⟨u, eu, ru⟩ := so; exact ⟨u, by rw [List.getElem?_set_ne (Ne.symm hj)]; exact eu, ru⟩
      | own m a d => exact ⟨owns_set hj so.1, so.2⟩
  · rcases get_set q1 with ⟨_, q1⟩ | ⟨_, q1⟩
    · cases q1
    · rcases get_set q2 with ⟨_, q2⟩ | ⟨_, q2⟩
      · cases q2
      · exact I.inj j k m n b x c y q1 q2 hn
  · rcases get_set q with ⟨_, q⟩ | ⟨hj, q⟩
    · cases q
    · exact I.out j m b x q
  · rcases get_set q with ⟨_, q⟩ | ⟨hj, q⟩
    · cases q
    · exact I.frs j m b x q
/-- a slot gets a new root -/
theorem SR.putFr (I : SR Z ρ G σ H) {i : Nat} {a : Addr} {d : D} (hi : i < σ.length) (r : RvOk Z (.fr a d) ρ G σ H (.ref a)) : SR Z (ρ.set i (.own false a d)) G (σ.set i (some (.ref a))) H := by
  obtain ⟨_, rt, ga, ho, z0, zm⟩ := r
  refine ⟨by simpa using I.len, I.sub, fun j s q => ?_, fun j k m n b x c y q1 q2 hn => ?_, fun j m b x q => ?_, I.ent, fun j m b x q => ?_, I.gnew, I.g0, I.mout, I.mux⟩
  · rcases get_set q with ⟨rfl, rfl⟩ | ⟨hj, q⟩
    · exact ⟨Or.inl (by rw [List.getElem?_set_self hi]), rt⟩
    · have so := I.slot j s q
      cases s with
      | no => trivial
      | sh d => obtain ⟨u, eu, ru⟩ := so; exact ⟨u, by rw [List.getElem?_set_ne (Ne.symm hj)]; exact eu, ru⟩
      | own m a d => exact ⟨owns_set hj so.1, so.2⟩
  · rcases get_set q1 with ⟨e1, q1⟩ | ⟨_, q1⟩
    · cases q1
      rcases get_set q2 with ⟨e2, q2⟩ | ⟨_, q2⟩
      · exact absurd (e1.trans e2.symm) hn
      · exact (ho k n c y q2).symm
    · rcases get_set q2 with ⟨_, q2⟩ | ⟨_, q2⟩
      · cases q2; exact ho j m b x q1
      · exact I.inj j k m n b x c y q1 q2 hn
  · rcases get_set q with ⟨_, q⟩ | ⟨hj, q⟩
    · cases q; exact ga
    · exact I.out j m b x q
  · rcases get_set q with ⟨_, q⟩ | ⟨hj, q⟩
    · cases q; exact ⟨z0, zm⟩
    · exact I.frs j m b x q
/-- the object of a root of a name's own is changed -/
theorem SR.write (I : SR Z ρ G σ H) {i : Nat} {m : Bool} {a : Addr} {d d' : D} {o : HO} (h : ρ[i]? = some (.own m a d)) (rt : Root Z.cc G (upd H a o) a d') : SR Z (ρ.set i (.own m a d')) G σ (upd H a o) := by
  have ga := I.out i m a d h
  obtain ⟨es, r0⟩ := I.slot i _ h
  refine ⟨by simpa using I.len, fun b u q => ?_, fun j s q => ?_, fun j k m1 n b x c y q1 q2 hn => ?_, fun j m1 b x q => ?_, fun b u q hm => ?_, fun j m1 b x q => ?_, I.gnew, I.g0, I.mout, fun b hb => ?_⟩
  · rw [upd_ne (ne_of_none q ga)]; exact I.sub b u q
  · rcases get_set q with ⟨rfl, rfl⟩ | ⟨hj, q⟩
    · exact ⟨es, rt⟩
    · have so := I.slot j s q
      cases s with
      | no => trivial
      | sh d => exact so
      | own m1 b x => exact ⟨so.1, so.2.heap fun u hu => by rw [upd_ne (I.inj j i m1 m b x a d q h hj)]; exact hu⟩
  · rcases get_set q1 with ⟨e1, q1⟩ | ⟨h1, q1⟩
    · cases q1
      rcases get_set q2 with ⟨e2, q2⟩ | ⟨h2, q2⟩
      · exact absurd (e1.trans e2.symm) hn
      · exact I.inj i k _ n a d c y h q2 (Ne.symm h2)
    · rcases get_set q2 with ⟨_, q2⟩ | ⟨_, q2⟩
      · cases q2; exact I.inj j i m1 _ b x a d q1 h h1
      · exact I.inj j k m1 n b x c y q1 q2 hn
  · rcases get_set q with ⟨_, q⟩ | ⟨hj, q⟩
    · cases q; exact ga
    · exact I.out j m1 b x q
  · have := I.frs i m a d h
    have : b ≠ a := by
      rintro rfl
      cases m with
      | true => exact hm this
      | false => rw [this.1] at q; cases q
    rw [upd_ne this]; exact I.ent b u q hm
  · rcases get_set q with ⟨e1, q⟩ | ⟨hj, q⟩
    · cases q; exact I.frs i m a d h
    · exact I.frs j m1 b x q
  · by_cases hh : b = a
    · subst hh; rw [upd_same]; simp
    · rw [upd_ne hh]; exact I.mux b hb
/-- the roots that are known, with their trees -/
def gP : REnv → List (Addr × D)
  | [] => []
  | .own _ a d :: ρ => (a, d) :: gP ρ
  | _ :: ρ => gP ρ
mutual
/-- with the roots of L seen through, d reads e -/
inductive Vw (L : List (Addr × D)) : D → D → Prop
  | self (d : D) : Vw L d d
  | ptr {a : Addr} {d e : D} : (a, d) ∈ L → Vw L d e → Vw L (.ptr a) e
  | tup {ds es : List D} : Vws L ds es → Vw L (.tup ds) (.tup es)
  | lst {ds es : List D} : Vws L ds es → Vw L (.lst ds) (.lst es)
  | obj {c : Nat} {ds es : List D} : Vws L ds es → Vw L (.obj c ds) (.obj c es)
  | dic {ks ds es : List D} : Vws L ds es → Vw L (.dic ks ds) (.dic ks es)
inductive Vws (L : List (Addr × D)) : List D → List D → Prop
  | nil : Vws L [] []
  | cons {d e : D} {ds es : List D} : Vw L d e → Vws L ds es → Vws L (d :: ds) (e :: es)
end
mutual
theorem Vw.sound {cc : CC} {L : List (Addr × D)} {G H : Hp} (le : LE G H) (hL : ∀ a d, (a, d) ∈ L → Root cc G H a d) : ∀ {d e : D}, Vw L d e → ∀ v : V, Rep cc G v d → Rep cc H v e
  | _, _, .self d, v, r => r.mono le
  | _, _, .ptr (a := a) (d := d) (e := e) hm q, v, r => by
    unfold Rep at r
    subst r
    have rt := hL _ _ hm
    cases q with
    | self => exact rt.rep le
    | ptr h2 q2 => exact rt.elim
    | tup q2 => exact rt.elim
    | lst q2 =>
      obtain ⟨vs, e1, rs⟩ := rt
      unfold Rep
      exact ⟨a, vs, rfl, SqL.of e1, Vws.sound le hL q2 vs rs⟩
    | obj q2 =>
      obtain ⟨dx, vs, e1, l, rs⟩ := rt
      unfold Rep
      exact ⟨a, dx, vs, rfl, e1, l, Vws.sound le hL q2 vs rs⟩
    | dic q2 =>
      obtain ⟨vs, e1, rs⟩ := rt
      unfold Rep
      exact ⟨a, vs, rfl, e1.rd, Vws.sound le hL q2 vs rs⟩
  | _, _, .tup q, v, r => by
    unfold Rep at r ⊢
    obtain ⟨a, vs, e, g, rs⟩ := r
    exact ⟨a, vs, e, le _ _ g, Vws.sound le hL q vs rs⟩
  | _, _, .lst q, v, r => by
    unfold Rep at r ⊢
    obtain ⟨a, vs, e, g, rs⟩ := r
    exact ⟨a, vs, e, le.sql g, Vws.sound le hL q vs rs⟩
  | _, _, .obj q, v, r => by
    unfold Rep at r ⊢
    obtain ⟨a, dx, vs, e, g, l, rs⟩ := r
    exact ⟨a, dx, vs, e, le _ _ g, l, Vws.sound le hL q vs rs⟩
  | _, _, .dic q, v, r => by
    unfold Rep at r ⊢
    obtain ⟨a, vs, e, g, rs⟩ := r
    exact ⟨a, vs, e, g.heap fun o ho => le _ _ ho, Vws.sound le hL q vs rs⟩
theorem Vws.sound {cc : CC} {L : List (Addr × D)} {G H : Hp} (le : LE G H) (hL : ∀ a d, (a, d) ∈ L → Root cc G H a d) : ∀ {ds es : List D}, Vws L ds es → ∀ vs : List V, Reps cc G vs ds → Reps cc H vs es
  | _, _, .nil, vs, r => by rw [r.inv_nil]; exact Reps.nil
  | _, _, .cons h q, vs, r => by
    obtain ⟨v, us, rfl, rv, rr⟩ := r.inv_cons
    exact Reps.cons (Vw.sound le hL h v rv) (Vws.sound le hL q us rr)
end
/-- new roots behind the slots -/
def ghs (as : List Addr) (ds : List D) : REnv := List.zipWith (Sl.own false) as ds
theorem owns_mem {a : Addr} : ∀ {ρ : REnv}, a ∈ owns ρ ↔ ∃ (i : Nat) (p : Bool) (d : D), ρ[i]? = some (Sl.own p a d)
  | [] => by simp [owns]
  | s :: ρ => by
    have ih := owns_mem (a := a) (ρ := ρ)
    have tl : (∃ (i : Nat) (p : Bool) (d : D), ρ[i]? = some (Sl.own p a d)) → ∃ (i : Nat) (p : Bool) (d : D), (s :: ρ)[i]? = some (Sl.own p a d) := fun ⟨i, p, d, h⟩ => ⟨i + 1, p, d, by simpa using h⟩
    have un : ∀ {P : Prop}, (∀ (p : Bool) (d : D), s = Sl.own p a d → P) → ((∃ (i : Nat) (p : Bool) (d : D), ρ[i]? = some (Sl.own p a d)) → P) → (∃ (i : Nat) (p : Bool) (d : D), (s :: ρ)[i]? = some (Sl.own p a d)) → P := fun {P} h1 h2 ⟨i, p, d, h⟩ => by
      cases i with
      | zero => exact h1 p d (by simpa using h)
      | succ i => exact h2 ⟨i, p, d, by simpa using h⟩
    cases s with
    | no => exact ⟨fun h => tl (ih.mp h), un (fun _ _ h => by cases h) ih.mpr⟩
    | sh d => exact ⟨fun h => tl (ih.mp h), un (fun _ _ h => by cases h) ih.mpr⟩
    | own m b e =>
      constructor
      · intro h
        rcases List.mem_cons.mp h with rfl | h
        · exact ⟨0, m, e, rfl⟩
        · exact tl (ih.mp h)
      · exact un (fun _ _ h => by cases h; exact List.mem_cons_self) fun h => List.mem_cons_of_mem _ (ih.mpr h)
theorem ghs_get {as : List Addr} {ds : List D} {k : Nat} {s : Sl} (h : (ghs as ds)[k]? = some s) : ∃ a d, as[k]? = some a ∧ ds[k]? = some d ∧ s = .own false a d := by
  unfold ghs at h
  rw [List.getElem?_zipWith] at h
  cases ha : as[k]? with
  | none => simp [ha] at h
  | some a =>
    cases hd : ds[k]? with
    | none => simp [ha, hd] at h
    | some d => simp [ha, hd] at h; exact ⟨a, d, rfl, rfl, h.symm⟩
theorem app_get {ρ τ : REnv} {i : Nat} {s : Sl} (h : (ρ ++ τ)[i]? = some s) : (i < ρ.length ∧ ρ[i]? = some s) ∨ ∃ k, i = ρ.length + k ∧ τ[k]? = some s := by
  by_cases hi : i < ρ.length
  · rw [List.getElem?_append_left hi] at h; exact .inl ⟨hi, h⟩
  · rw [List.getElem?_append_right (by omega)] at h; exact .inr ⟨_, by omega, h⟩
theorem nodup_ne {as : List Addr} (h : as.Nodup) {i j : Nat} {a b : Addr} (hi : as[i]? = some a) (hj : as[j]? = some b) (hn : i ≠ j) : a ≠ b := by
  rintro rfl
  obtain ⟨hi1, hi2⟩ := List.getElem?_eq_some_iff.mp hi
  obtain ⟨hj1, hj2⟩ := List.getElem?_eq_some_iff.mp hj
  have p := List.pairwise_iff_getElem.mp h
  rcases Nat.lt_or_gt_of_ne hn with z | z
  · exact p i j hi1 hj1 z (hi2.trans hj2.symm)
  · exact p j i hj1 hi1 z (hj2.trans hi2.symm)
/-- new roots stand behind the slots from now on -/
theorem SR.addGs (I : SR Z ρ G σ H) {as : List Addr} {ds : List D} (nd : as.Nodup) (h : ∀ (i : Nat) (a : Addr) (d : D), as[i]? = some a → ds[i]? = some d → FrOk Z ρ G H a d) : SR Z (ρ ++ ghs as ds) G σ H := by
  have len := I.len
  refine ⟨⟨len.1, by rw [List.length_append]; omega⟩, I.sub, fun j s q => ?_, fun j k m n b x c y q1 q2 hn => ?_, fun j m b x q => ?_, I.ent, fun j m b x q => ?_, I.gnew, I.g0, I.mout, I.mux⟩
  · rcases app_get q with ⟨_, q⟩ | ⟨k, ek, q'⟩
    · exact I.slot j s q
    · obtain ⟨a, d, ha, hd, rfl⟩ := ghs_get q'
      exact ⟨.inr (by omega), (h k _ _ ha hd).1⟩
  · rcases app_get q1 with ⟨_, q1⟩ | ⟨k1, ek1, q1'⟩
    · rcases app_get q2 with ⟨_, q2⟩ | ⟨k2, ek2, q2'⟩
      · exact I.inj j k m n b x c y q1 q2 hn
      · obtain ⟨a, d, ha, hd, e⟩ := ghs_get q2'
        cases e
        exact (h k2 _ _ ha hd).2.2.1 j m b x q1
    · obtain ⟨a, d, ha, hd, e⟩ := ghs_get q1'
      cases e
      rcases app_get q2 with ⟨_, q2⟩ | ⟨k2, ek2, q2'⟩
      · exact ((h k1 _ _ ha hd).2.2.1 k n c y q2).symm
      · obtain ⟨a2, d2, ha2, hd2, e⟩ := ghs_get q2'
        cases e
        exact nodup_ne nd ha ha2 (by omega)
  · rcases app_get q with ⟨_, q⟩ | ⟨k, ek, q'⟩
    · exact I.out j m b x q
    · obtain ⟨a, d, ha, hd, e⟩ := ghs_get q'
      cases e
      exact (h k _ _ ha hd).2.1
  · rcases app_get q with ⟨_, q⟩ | ⟨k, ek, q'⟩
    · exact I.frs j m b x q
    · obtain ⟨a, d, ha, hd, e⟩ := ghs_get q'
      cases e
      exact (h k _ _ ha hd).2.2.2
end
end TL

namespace TL
open PySem L2

/-- an expression's reading over trees, as a reading of the layer below -/
def T (Z : Zone) (w : EW) : TE := fun σ H Q => ∃ ρ G K, SR Z ρ G σ H ∧ w Z.xk ρ K ∧
  ∀ r ρ' v H' G', LE G G' → SR Z ρ' G' σ H' → RvOk Z r ρ' G' σ H' v → K r ρ' → Q v H'
def Tt (Z : Zone) (w : TW) : TT := fun σ H Q => ∃ ρ G K, SR Z ρ G σ H ∧ w Z.xk ρ K ∧
  ∀ b ρ' H' G', LE G G' → SR Z ρ' G' σ H' → K b ρ' → Q b H'
abbrev DW := Xk → REnv → (List D → REnv → Prop) → Prop
def Ta (Z : Zone) (w : DW) : TA := fun σ H Q => ∃ ρ G K, SR Z ρ G σ H ∧ w Z.xk ρ K ∧
  ∀ ds ρ' vs H' G', LE G G' → SR Z ρ' G' σ H' → Reps Z.cc G' vs ds → K ds ρ' → Q vs H'

section
variable {X : Cx} {Z : Zone} {a b e : Expr} {wa wb : EW} {pos : Pos}

/-! ### names, constants -/
def eLoc (i : Nat) : EW := fun _ ρ K => bound ρ i ∧ K (.loc i) ρ
def eC (d : D) : EW := fun _ ρ K => K (.sh d) ρ
theorem bound_get {ρ : REnv} {G H : Hp} {σ : St} (I : SR Z ρ G σ H) {i : Nat} (hi : i < σ.length) (h : bound ρ i) : ∃ v, σ[i]? = some (some v) := by
  unfold bound at h
  cases hs : ρ[i]? with
  | none => rw [hs] at h; exact h.elim
  | some s =>
    have so := I.slot i s hs
    cases s with
    | no => rw [hs] at h; exact h.elim
    | sh d => exact ⟨_, so.choose_spec.1⟩
    | own m p d => exact ⟨_, own_at hi so.1⟩
theorem lt_len {X : Cx} {pins : List (Addr × Obj)} {σ : L2.St} {H : Hp} {s : Shared} {i : Nat} {x : Str} (I : L2.Inv X pins σ H s) (hi : X.N[i]? = some x) : i < σ.length := by
  rw [I.len]; exact (List.getElem?_eq_some_iff.mp hi).1
theorem de_loc (i : Nat) {x : Str} {pos : Pos} (hN : X.N[i]? = some x := by rfl) (hv : Vis X.env.scope x := by first | exact Or.inl rfl | exact Or.inr (Or.inl rfl) | exact Or.inr (Or.inr rfl)) (hd : (x == ("__debug__" : Str)) = false := by decide)
    (hcd : (x == ("__classdict__" : Str)) = false := by decide) : PE X (.Name x pos) (T Z (eLoc i)) :=
  ⟨fun pins s σ H Q I ⟨ρ, G, K, IR, ⟨hb, hk⟩, q⟩ => by
    obtain ⟨v, e⟩ := bound_get IR (lt_len I hN) hb
    exact (pv i hN hv hd hcd).run pins s σ H Q I ⟨v, e, q (.loc i) _ v H G (LE.refl G) IR ⟨e, hb⟩ hk⟩⟩
theorem T.const {v : V} {d : D} (hr : ∀ G, Rep Z.cc G v d) (h : PE X e (tC v)) : PE X e (T Z (eC d)) :=
  ⟨fun pins s σ H Q I ⟨ρ, G, K, IR, hk, q⟩ => h.run pins s σ H Q I (q (.sh d) _ v H G (LE.refl G) IR (hr G) hk)⟩
theorem de_int {i j pos} : PE X (.Constant (.int i) j pos) (T Z (eC (.int i))) := T.const (v := .int i) (fun _ => by unfold Rep; rfl) pe_int
theorem de_bl {b j pos} : PE X (.Constant (.bool b) j pos) (T Z (eC (.bl b))) := T.const (v := .bl b) (fun _ => by unfold Rep; rfl) pe_bl
/-! ### two operands -/
/-- a first operand that is a name is still known -/
def pok (r : Rv) (ρ : REnv) : Prop := match r with | .loc i => bound ρ i | .gh j a => ∃ p d, ρ[j]? = some (.own p a d) | _ => True
theorem T.two {ρ : REnv} {G H : Hp} {σ : L2.St} {R : Rv → Rv → REnv → Prop} (I : SR Z ρ G σ H) (hw : wa Z.xk ρ fun r1 ρ1 => wb Z.xk ρ1 fun r2 ρ2 => pok r1 ρ2 ∧ R r1 r2 ρ2) :
    T Z wa σ H fun x H1 => T Z wb σ H1 fun y H2 => ∃ r1 r2 ρ2 G2, LE G G2 ∧ SR Z ρ2 G2 σ H2 ∧ RvOk Z r1.pend ρ2 G2 σ H2 x ∧ RvOk Z r2 ρ2 G2 σ H2 y ∧ R r1 r2 ρ2 := by
  refine ⟨ρ, G, _, I, hw, fun r1 ρ1 x H1 G1 le1 I1 q1 k1 => ?_⟩
  obtain ⟨G1', le, I1', q1'⟩ := I1.freeze q1
  refine ⟨ρ1, G1', _, I1', k1, fun r2 ρ2 y H2 G2 le2 I2 q2 k2 => ⟨r1, r2, ρ2, G2, (le1.trans le).trans le2, I2, ?_, q2, k2.2⟩⟩
  have pk := k2.1
  cases r1 with
  | loc i => exact ⟨q1'.1, pk⟩
  | sh d => exact Rep.mono (d := d) le2 q1'
  | fr a d => exact Rep.mono (d := d) le2 q1'
  | gh j a => exact ⟨q1'.1, pk⟩
  | gx as cs t => exact Rep.mono (d := t) le2 q1'

/-- what an operation gives: a value, or a new root -/
inductive Ro where
  | sh (d : D) | fr (d : D) | gx (as : List Addr) (cs : List D) (t : D)
/-- how the result of an operation lies -/
def Fin (cc : CC) (G H : Hp) (Q : VK) : Ro → Prop
  | .sh d => (∀ v, Rep cc G v d → Q v H) ∧ ∀ p o, H p = none → Rep cc (upd G p o) (.ref p) d → Q (.ref p) (upd H p o)
  | .fr d => ∀ p o, H p = none → Root cc G (upd H p o) p d → Q (.ref p) (upd H p o)
  | .gx _ _ _ => True
/-- a result is handed on -/
def out (o : Ro) (ρ : REnv) (K : Rv → REnv → Prop) : Prop := match o with
  | .sh d => K (.sh d) ρ
  | .fr d => ∀ a, K (.fr a d) ρ
  | .gx as cs t => as.Nodup → (∀ a ∈ as, a ∉ owns ρ) → K (.sh t) (ρ ++ ghs as cs)
theorem out_gx {as : List Addr} {cs : List D} {t : D} {ρ : REnv} {K : Rv → REnv → Prop} : out (.gx as cs t) ρ K = (as.Nodup → (∀ a ∈ as, a ∉ owns ρ) → K (.sh t) (ρ ++ ghs as cs)) := rfl
abbrev OW := (Ro → Prop) → Prop
theorem T.fin {ρ : REnv} {G G0 H : Hp} {σ : L2.St} {K : Rv → REnv → Prop} {Q : VK} {o : Ro} (I : SR Z ρ G σ H) (le : LE G0 G) (hk : out o ρ K)
    (q : ∀ r ρ' v H' G', LE G0 G' → SR Z ρ' G' σ H' → RvOk Z r ρ' G' σ H' v → K r ρ' → Q v H') : Fin Z.cc G H Q o := by
  cases o with
  | sh d => exact ⟨fun v r => q (.sh d) ρ v H G le I r hk, fun p o hp r => q (.sh d) ρ _ _ _ (le.trans (LE.upd (I.g hp))) (I.newG hp) r hk⟩
  | fr d =>
    refine fun p o hp r => q (.fr p d) ρ _ _ G le (I.newH hp) ⟨rfl, r, I.g hp, fun i m b e h => I.own_ne h hp, (I.h0 hp).1, (I.h0 hp).2⟩ (hk p)
  | gx n t cs => exact trivial

/-- a binary operation over trees, told by one over values -/
def OpS (cc : CC) (op : D → D → OW) (r : R2) : Prop := ∀ (G H : Hp) (x y : V) (d e : D) (k : Ro → Prop) (Q : VK), LE G H → View cc G H x d → View cc G H y e → Rep cc H x d → Rep cc H y e →
  op d e k → (∀ o, k o → Fin cc G H Q o) → r x y H Q
def eBin (op : D → D → OW) (wa wb : EW) : EW := fun xk ρ K => wa xk ρ fun r1 ρ1 => wb xk ρ1 fun r2 ρ2 => pok r1 ρ2 ∧ op (r1.get ρ2) (r2.get ρ2) fun o => out o ρ2 K
theorem T.bin {op : D → D → OW} {r : R2} (hs : OpS Z.cc op r) {σ : L2.St} {H : Hp} {Q : VK} (h : T Z (eBin op wa wb) σ H Q) : tOp r (T Z wa) (T Z wb) σ H Q := by
  obtain ⟨ρ, G, K, I, hw, q⟩ := h
  obtain ⟨ρ', G', K', I', hw', q'⟩ := T.two (R := fun r1 r2 ρ2 => op (r1.get ρ2) (r2.get ρ2) fun o => out o ρ2 K) I hw
  refine ⟨ρ', G', K', I', hw', fun r1 ρ1 x H1 G1 le1 I1 q1 k1 => ?_⟩
  obtain ⟨ρ1', G1', K1', I1', hw1', q1'⟩ := q' r1 ρ1 x H1 G1 le1 I1 q1 k1
  refine ⟨ρ1', G1', K1', I1', hw1', fun r2 ρ2 y H2 G2 le2 I2 q2 k2 => ?_⟩
  obtain ⟨s1, s2, ρ3, G3, le3, I3, v1, v2, ho⟩ := q1' r2 ρ2 y H2 G2 le2 I2 q2 k2
  have e1 := v1.view I3
  have e1' := v1.repH I3
  rw [Rv.get_pend] at e1 e1'
  exact hs G3 H2 x y _ _ _ Q I3.sub e1 (v2.view I3) e1' (v2.repH I3) ho fun o ho => T.fin I3 le3 ho q
end
end TL

namespace TL
open PySem L2

/-- t is a reading of what w says -/
def Via (Z : Zone) (t : TE) (w : EW) : Prop := ∀ σ H Q, T Z w σ H Q → t σ H Q
theorem pvia {X : Cx} {Z : Zone} {e : Expr} {t : TE} {w : EW} (h : PE X e t) (v : Via Z t w) : PE X e (T Z w) :=
  ⟨fun pins s σ H Q I q => h.run pins s σ H Q I (v σ H Q q)⟩

/-! ### operations by the trees' forms -/
def MulOk (i j : Int) : Prop := i.natAbs.log2 + j.natAbs.log2 < 100000000
theorem MulOk.ok {i j : Int} (h : MulOk i j) : IntMulOk i j := by
  have b : ∀ x : Int, Builtin.Int.intBits x ≤ x.natAbs.log2 + 1 := fun x => by
    unfold Builtin.Int.intBits
    split <;> omega
  have h1 := b i
  have h2 := b j
  have h3 : i.natAbs.log2 + j.natAbs.log2 < 100000000 := h
  have e : bitsLine = 134217728 := by decide
  unfold IntMulOk
  intro z
  rw [Bool.and_eq_true] at z
  have z2 := z.2
  unfold Builtin.Int.intTooBig at z2
  have z3 := of_decide_eq_true z2
  rw [e] at z3
  omega
def DivOk (j : Int) : Prop := 0 < j ∧ j.natAbs.log2 < 9000
def DivOkN (j : Int) : Prop := j ≠ 0 ∧ j.natAbs.log2 < 9000
section
variable {X : Cx}
theorem op_mulX : OpR X (binaryOp .Mult) (rI MulOk fun i j => .int (i * j)) := opI fun _ _ _ _ _ _ _ hc q => PyProof.Rows.mul_int q hc.ok
theorem op_fdvX : OpR X (binaryOp .FloorDiv) (rI (fun _ j => DivOk j) fun i j => .int (i / j)) := op_fdivW
def rCatR (K : PySem.W.Frag) : R2 := fun x y H Q => ∃ l b xs zs, x = .ref l ∧ y = .ref b ∧ SqL K H l xs ∧ SqL K H b zs ∧ xs.length + zs.length ≤ sizeLine ∧ ∀ p, H p = none → Q (.ref p) (upd H p (.lst (xs ++ zs)))
theorem op_catR : OpR X (binaryOp .Add) (rCatR X.K) := by
  intro pins s σ H x y v u Q I rx ry h
  obtain ⟨l, b, xs, zs, rfl, rfl, hH, hB, hz, q⟩ := h
  cases rx
  cases ry
  obtain ⟨its, r, ⟨⟨cls, dd, data, sl⟩, n, ho, hc, hd0, hd⟩, z⟩ := I.list hH
  obtain ⟨its2, r2, ⟨⟨cls2, dd2, data2, sl2⟩, n2, ho2, hc2, hd20, hd2⟩, z2⟩ := I.list hB
  simp only at hc hd hc2 hd2
  subst hc hd hc2 hd2
  have hl := r.length
  have hl2 := r2.length
  have ea : its.toArray ++ its2.toArray = (its ++ its2).toArray := by simp
  refine PySem.concat_meets ⟨_, ho, rfl⟩ ⟨_, ho2, rfl⟩ noFill_list_add seq_list_add PySem.F.slot_list_add PySem.F.entry_list_add (PySem.F.args_list_add_2 _ _) (PyProof.Rows.list_addW l b its.toArray its2.toArray n n2 dd dd2 sl sl2 (by rw [List.size_toArray, List.size_toArray]; omega)) ⟨ho, ho2, ?_⟩
  rw [ea]
  exact ⟨.ref _, _, I.lnew (t' := s.toks) (r.append r2) (by rw [List.length_append]; omega), rfl, q _ I.fresh⟩
end

def opAdd : D → D → OW
  | .int i, .int j => fun k => k (.sh (.int (i + j)))
  | .str i, .str j => fun k => i.length + j.length ≤ sizeLine ∧ k (.sh (.str (i ++ j)))
  | .lst i, .lst j => fun k => i.length + j.length ≤ sizeLine ∧ k (.fr (.lst (i ++ j)))
  | _, _ => fun _ => False
def opSub : D → D → OW
  | .int i, .int j => fun k => k (.sh (.int (i - j)))
  | _, _ => fun _ => False
def opMul : D → D → OW
  | .int i, .int j => fun k => MulOk i j ∧ k (.sh (.int (i * j)))
  | _, _ => fun _ => False
def opFdv : D → D → OW
  | .int i, .int j => fun k => DivOk j ∧ k (.sh (.int (i / j)))
  | _, _ => fun _ => False
def opFdvN : D → D → OW
  | .int i, .int j => fun k => DivOkN j ∧ k (.sh (.int (i.fdiv j)))
  | _, _ => fun _ => False
def opMod : D → D → OW
  | .int i, .int j => fun k => 0 < j ∧ k (.sh (.int (i % j)))
  | _, _ => fun _ => False
def opModN : D → D → OW
  | .int i, .int j => fun k => j ≠ 0 ∧ k (.sh (.int (i.fmod j)))
  | _, _ => fun _ => False
def opPow : D → D → OW
  | .int i, .int j => fun k => CPow i j ∧ k (.sh (.int (i ^ j.toNat)))
  | _, _ => fun _ => False
def opLt : D → D → OW
  | .int i, .int j => fun k => k (.sh (.bl (decide (i < j))))
  | _, _ => fun _ => False
def opLe : D → D → OW
  | .int i, .int j => fun k => k (.sh (.bl (decide (i ≤ j))))
  | _, _ => fun _ => False
def opGt : D → D → OW
  | .int i, .int j => fun k => k (.sh (.bl (decide (j < i))))
  | _, _ => fun _ => False
def opGe : D → D → OW
  | .int i, .int j => fun k => k (.sh (.bl (decide (j ≤ i))))
  | _, _ => fun _ => False

section
variable {cc : CC}
theorem rep_int {G : Hp} {i : Int} : Rep cc G (.int i) (.int i) := by unfold Rep; rfl
theorem rep_bl {G : Hp} {i : Bool} : Rep cc G (.bl i) (.bl i) := by unfold Rep; rfl
theorem rep_str {G : Hp} {i : Str} : Rep cc G (.str i) (.str i) := by unfold Rep; rfl
theorem rv_sh {Z : Zone} {ρ : REnv} {G H : Hp} {σ : L2.St} {v : V} {d : D} (h : Rep Z.cc G v d) : RvOk Z (.sh d) ρ G σ H v := h
theorem rep_non {G : Hp} : Rep cc G .non .non := by unfold Rep; rfl
theorem ops_int {op : D → D → OW} {C : Int → Int → Prop} {g : Int → Int → V} {f : Int → Int → D} (h : ∀ d e k, op d e k → ∃ i j, d = .int i ∧ e = .int j ∧ C i j ∧ k (.sh (f i j))) (hr : ∀ G i j, Rep cc G (g i j) (f i j)) : OpS cc op (rI C g) := by
  intro G H x y d e k Q le v1 v2 _ _ ho fin
  obtain ⟨i, j, rfl, rfl, c, hk⟩ := h d e k ho
  exact ⟨i, j, v1, v2, c, (fin _ hk).1 _ (hr G i j)⟩
theorem ops_int0 {op : D → D → OW} {g : Int → Int → V} {f : Int → Int → D} (h : ∀ d e k, op d e k → ∃ i j, d = .int i ∧ e = .int j ∧ k (.sh (f i j))) (hr : ∀ G i j, Rep cc G (g i j) (f i j)) : OpS cc op (rI0 g) := by
  intro G H x y d e k Q le v1 v2 _ _ ho fin
  obtain ⟨i, j, rfl, rfl, hk⟩ := h d e k ho
  exact ⟨i, j, v1, v2, (fin _ hk).1 _ (hr G i j)⟩
theorem ops_sub : OpS cc opSub (rI0 fun i j => .int (i - j)) := ops_int0 (f := fun i j => .int (i - j)) (fun d e k h => by unfold opSub at h; split at h <;> first | exact h.elim | exact ⟨_, _, rfl, rfl, h⟩) fun _ _ _ => rep_int
theorem ops_lt : OpS cc opLt (rI0 fun i j => .bl (decide (i < j))) := ops_int0 (f := fun i j => .bl (decide (i < j))) (fun d e k h => by unfold opLt at h; split at h <;> first | exact h.elim | exact ⟨_, _, rfl, rfl, h⟩) fun _ _ _ => rep_bl
theorem ops_le : OpS cc opLe (rI0 fun i j => .bl (decide (i ≤ j))) := ops_int0 (f := fun i j => .bl (decide (i ≤ j))) (fun d e k h => by unfold opLe at h; split at h <;> first | exact h.elim | exact ⟨_, _, rfl, rfl, h⟩) fun _ _ _ => rep_bl
theorem ops_gt : OpS cc opGt (rI0 fun i j => .bl (decide (j < i))) := ops_int0 (f := fun i j => .bl (decide (j < i))) (fun d e k h => by unfold opGt at h; split at h <;> first | exact h.elim | exact ⟨_, _, rfl, rfl, h⟩) fun _ _ _ => rep_bl
theorem ops_ge : OpS cc opGe (rI0 fun i j => .bl (decide (j ≤ i))) := ops_int0 (f := fun i j => .bl (decide (j ≤ i))) (fun d e k h => by unfold opGe at h; split at h <;> first | exact h.elim | exact ⟨_, _, rfl, rfl, h⟩) fun _ _ _ => rep_bl
theorem ops_mul : OpS cc opMul (rI MulOk fun i j => .int (i * j)) := ops_int (f := fun i j => .int (i * j)) (fun d e k h => by unfold opMul at h; split at h <;> first | exact h.elim | exact ⟨_, _, rfl, rfl, h⟩) fun _ _ _ => rep_int
theorem ops_fdv : OpS cc opFdv (rI (fun _ j => DivOk j) fun i j => .int (i / j)) := ops_int (f := fun i j => .int (i / j)) (fun d e k h => by unfold opFdv at h; split at h <;> first | exact h.elim | exact ⟨_, _, rfl, rfl, h⟩) fun _ _ _ => rep_int
theorem ops_mod : OpS cc opMod (rI (fun _ j => 0 < j) fun i j => .int (i % j)) := ops_int (f := fun i j => .int (i % j)) (fun d e k h => by unfold opMod at h; split at h <;> first | exact h.elim | exact ⟨_, _, rfl, rfl, h⟩) fun _ _ _ => rep_int
theorem ops_pow : OpS cc opPow (rI CPow fun i j => .int (i ^ j.toNat)) := ops_int (f := fun i j => .int (i ^ j.toNat)) (fun d e k h => by unfold opPow at h; split at h <;> first | exact h.elim | exact ⟨_, _, rfl, rfl, h⟩) fun _ _ _ => rep_int
abbrev rAddS : R2 := fun x y H Q => ∃ i j, x = .str i ∧ y = .str j ∧ i.length + j.length ≤ sizeLine ∧ Q (.str (i ++ j)) H
def rAddA (K : PySem.W.Frag) : R2 := fun x y H Q => rI0 (fun i j => .int (i + j)) x y H Q ∨ rAddS x y H Q ∨ rCatR K x y H Q
theorem op_addA {X : Cx} : OpR X (binaryOp .Add) (rAddA X.K) := op_add.or (op_add_str.or op_catR)
theorem ops_add {K : PySem.W.Frag} (hK : cc.K = K) : OpS cc opAdd (rAddA K) := by
  subst hK
  intro G H x y d e k Q le v1 v2 _ _ ho fin
  unfold opAdd at ho
  split at ho
  · exact .inl ⟨_, _, v1, v2, (fin _ ho).1 _ rep_int⟩
  · exact .inr (.inl ⟨_, _, v1, v2, ho.1, (fin _ ho.2).1 _ rep_str⟩)
  · obtain ⟨a, vs, ea, ra, qa⟩ := v1
    obtain ⟨b, us, eb, rb, qb⟩ := v2
    refine .inr (.inr ⟨a, b, vs, us, ea, eb, ra, rb, ?_, fun p hp => ?_⟩)
    · rw [qa.length, qb.length]; exact ho.1
    · exact (fin _ ho.2) p _ hp ⟨_, upd_same, qa.append qb⟩
  · exact ho.elim
end

section
variable {X : Cx} {Z : Zone} {a b e : Expr} {wa wb w : EW} {pos : Pos}
theorem via_bin {op : D → D → OW} {r : R2} (hs : OpS Z.cc op r) : Via Z (tOp r (T Z wa) (T Z wb)) (eBin op wa wb) := fun σ H Q h => T.bin hs h
theorem de_bin {o : Operator} {op : D → D → OW} {r : R2} (hr : OpR X (binaryOp o) r) (hs : OpS Z.cc op r) (ha : PE X a (T Z wa)) (hb : PE X b (T Z wb)) : PE X (.BinOp a o b pos) (T Z (eBin op wa wb)) := pvia (pe_op hr ha hb) (via_bin hs)
theorem de_cmp {o : CmpOp} {op : D → D → OW} {r : R2} (hr : OpR X (compareOp o) r) (hs : OpS Z.cc op r) (ha : PE X a (T Z wa)) (hb : PE X b (T Z wb)) (hm : behindInMarks o b = false) : PE X (.Compare a [o] [b] pos) (T Z (eBin op wa wb)) := pvia (pe_cmpR hr ha hb hm) (via_bin hs)

/-! ### one operand -/
def OpS1 (cc : CC) (op : D → OW) (r : V → Hp → VK → Prop) : Prop := ∀ (G H : Hp) (x : V) (d : D) (k : Ro → Prop) (Q : VK), LE G H → View cc G H x d → Rep cc H x d → op d k → (∀ o, k o → Fin cc G H Q o) → r x H Q
def eUn (op : D → OW) (wa : EW) : EW := fun xk ρ K => wa xk ρ fun r ρ1 => op (r.get ρ1) fun o => out o ρ1 K
theorem via_un {op : D → OW} {r : V → Hp → VK → Prop} (hs : OpS1 Z.cc op r) : Via Z (fun σ H Q => T Z wa σ H fun x H1 => r x H1 Q) (eUn op wa) := fun σ H Q ⟨ρ, G, K, I, hw, q⟩ =>
  ⟨ρ, G, _, I, hw, fun r1 ρ1 x H1 G1 le1 I1 q1 k1 => hs G1 H1 x _ _ Q I1.sub (q1.view I1) (q1.repH I1) k1 fun o ho => T.fin I1 le1 ho q⟩
def opNeg : D → OW
  | .int i => fun k => k (.sh (.int (-i)))
  | _ => fun _ => False
/-! ### tests -/
def tVal (w : EW) : TW := fun xk ρ K => w xk ρ fun r ρ' => match r.get ρ' with | .bl b => K b ρ' | _ => False
theorem Tt.val {t : TE} (v : Via Z t w) {σ : L2.St} {H : Hp} {Q : Bool → Hp → Prop} (h : Tt Z (tVal w) σ H Q) : t σ H fun x H' => ∃ k, x = .bl k ∧ Q k H' := by
  obtain ⟨ρ, G, K, I, hw, q⟩ := h
  refine v σ H _ ⟨ρ, G, _, I, hw, fun r ρ' x H' G' le I' q' k => ?_⟩
  have vw := q'.view I'
  cases hd : r.get ρ' <;> simp only [hd] at k
  all_goals try exact k.elim
  rename_i c
  rw [hd] at vw
  exact ⟨c, vw, q c ρ' H' G' le I' k⟩
theorem dt_val (h : PE X e (T Z w)) (he : ∀ whole, isTrue e X.env whole = (do let v ← whole; standAt e.pos; holding [v] (truthy v)) := by intro _; rfl) : PT X e (Tt Z (tVal w)) :=
  ⟨fun pins s σ H Q I q => (pt_val h he).run pins s σ H Q I (Tt.val (t := T Z w) (fun _ _ _ z => z) q)⟩
theorem dt_cmp {o : CmpOp} {op : D → D → OW} {r : R2} (hr : OpR X (compareOp o) r) (hs : OpS Z.cc op r) (ha : PE X a (T Z wa)) (hb : PE X b (T Z wb)) (hm : behindInMarks o b = false) : PT X (.Compare a [o] [b] pos) (Tt Z (tVal (eBin op wa wb))) :=
  ⟨fun pins s σ H Q I q => (pt_cmpR hr ha hb hm).run pins s σ H Q I (Tt.val (via_bin hs) q)⟩
def tAndW (ta tb : TW) : TW := fun xk ρ K => ta xk ρ fun c ρ1 => (c = true → tb xk ρ1 K) ∧ (c = false → K false ρ1)
def tOrW (ta tb : TW) : TW := fun xk ρ K => ta xk ρ fun c ρ1 => (c = true → K true ρ1) ∧ (c = false → tb xk ρ1 K)
def tNotW (ta : TW) : TW := fun xk ρ K => ta xk ρ fun c ρ1 => K (!c) ρ1
variable {ta tb : TW} {rest : List Expr}
theorem dw_or1 (ha : PT X a (Tt Z ta)) : PW X (.BoolOp .Or [a] pos) (Tt Z ta) := pw_or1 ha
theorem dw_or (ha : PT X a (Tt Z ta)) (hb : PW X (.BoolOp .Or (b :: rest) pos) (Tt Z tb)) : PW X (.BoolOp .Or (a :: b :: rest) pos) (Tt Z (tOrW ta tb)) :=
  ⟨fun wh pins s σ H Q I ⟨ρ, G, K, IR, hw, q⟩ => (pw_or ha hb).run wh pins s σ H Q I ⟨ρ, G, _, IR, hw, fun c ρ1 H1 G1 le1 I1 k1 => by
    cases c with
    | false => rw [if_neg Bool.false_ne_true]; exact ⟨ρ1, G1, _, I1, k1.2 rfl, fun c2 ρ2 H2 G2 le2 I2 k2 => q c2 ρ2 H2 G2 (le1.trans le2) I2 k2⟩
    | true => rw [if_pos rfl]; exact q true ρ1 H1 G1 le1 I1 (k1.1 rfl)⟩⟩
theorem dt_not (ha : PT X a (Tt Z ta)) : PT X (.UnaryOp .Not a pos) (Tt Z (tNotW ta)) :=
  ⟨fun pins s σ H Q I ⟨ρ, G, K, IR, hw, q⟩ => (pt_not ha).run pins s σ H Q I ⟨ρ, G, _, IR, hw, fun c ρ1 H1 G1 le1 I1 k1 => q (!c) ρ1 H1 G1 le1 I1 k1⟩⟩
/-! .. as values -/
def eAnd (wa wb : EW) : EW := fun xk ρ K => tVal wa xk ρ fun c ρ1 => (c = true → wb xk ρ1 K) ∧ (c = false → K (.sh (.bl false)) ρ1)
def eOr (wa wb : EW) : EW := fun xk ρ K => tVal wa xk ρ fun c ρ1 => (c = true → K (.sh (.bl true)) ρ1) ∧ (c = false → wb xk ρ1 K)
def eNot (wa : EW) : EW := fun xk ρ K => tVal wa xk ρ fun c ρ1 => K (.sh (.bl !c)) ρ1
theorem de_one {o} (h : PE X a (T Z wa)) : PE X (.BoolOp o [a] pos) (T Z wa) := pe_one h
theorem de_and (ha : PE X a (T Z wa)) (hb : PE X (.BoolOp .And (b :: rest) pos) (T Z wb)) : PE X (.BoolOp .And (a :: b :: rest) pos) (T Z (eAnd wa wb)) :=
  ⟨fun pins s σ H Q I ⟨ρ, G, K, IR, hw, q⟩ => (pe_and ha hb).run pins s σ H Q I (by
    have h : Tt Z (tVal wa) σ H fun c H1 => if c = true then T Z wb σ H1 Q else Q (.bl false) H1 := ⟨ρ, G, _, IR, hw, fun c ρ1 H1 G1 le1 I1 k1 => by
      cases c with
      | true => rw [if_pos rfl]; exact ⟨ρ1, G1, _, I1, k1.1 rfl, fun r2 ρ2 v H2 G2 le2 I2 q2 k2 => q r2 ρ2 v H2 G2 (le1.trans le2) I2 q2 k2⟩
      | false => rw [if_neg Bool.false_ne_true]; exact q (.sh (.bl false)) ρ1 _ H1 G1 le1 I1 (rv_sh rep_bl) (k1.2 rfl)⟩
    exact Tt.val (t := T Z wa) (fun _ _ _ z => z) h)⟩
theorem de_not (ha : PE X a (T Z wa)) : PE X (.UnaryOp .Not a pos) (T Z (eNot wa)) :=
  ⟨fun pins s σ H Q I ⟨ρ, G, K, IR, hw, q⟩ => (pe_not ha).run pins s σ H Q I (by
    have h : Tt Z (tVal wa) σ H fun c H1 => Q (.bl !c) H1 := ⟨ρ, G, _, IR, hw, fun c ρ1 H1 G1 le1 I1 k1 => q (.sh (.bl !c)) ρ1 _ H1 G1 le1 I1 (rv_sh rep_bl) k1⟩
    exact Tt.val (t := T Z wa) (fun _ _ _ z => z) h)⟩
def eIf (t : TW) (wa wb : EW) : EW := fun xk ρ K => t xk ρ fun c ρ1 => (c = true → wa xk ρ1 K) ∧ (c = false → wb xk ρ1 K)
/-! ### displays, argument lists -/
def dNil : DW := fun _ ρ K => K [] ρ
def dCons (wa : EW) (wr : DW) : DW := fun xk ρ K => wa xk ρ fun r ρ1 => stl r ρ1 fun d ρ2 => wr xk ρ2 fun ds ρ3 => K (d :: ds) ρ3
variable {es : List Expr} {wd : DW}
theorem da_nil : PA X [] (Ta Z dNil) := ⟨fun pos pins s σ H Q I ⟨ρ, G, K, IR, hw, q⟩ => pa_nil.run pos pins s σ H Q I (q [] ρ [] H G (LE.refl G) IR Reps.nil hw)⟩
theorem ta_cons {σ : L2.St} {H : Hp} {Q : List V → Hp → Prop} (h : Ta Z (dCons wa wd) σ H Q) : tCons (T Z wa) (Ta Z wd) σ H Q := by
  obtain ⟨ρ, G, K, IR, hw, q⟩ := h
  refine ⟨ρ, G, _, IR, hw, fun r ρ1 v H1 G1 le1 I1 q1 k1 => ?_⟩
  obtain ⟨d, ρ2, G2, le2, I2, rp, k2, _⟩ := I1.settle q1 k1
  exact ⟨ρ2, G2, _, I2, k2, fun ds ρ3 vs H3 G3 le3 I3 rs k3 => q (d :: ds) ρ3 (v :: vs) H3 G3 ((le1.trans le2).trans le3) I3 ((rp.mono le3) |> fun z => Reps.cons z rs) k3⟩
theorem da_cons (ha : PE X e (T Z wa)) (hr : PA X es (Ta Z wd)) (hs : starEach (e :: es) X.env = (false, eval e X.env) :: starEach es X.env := by rfl) : PA X (e :: es) (Ta Z (dCons wa wd)) :=
  ⟨fun pos pins s σ H Q I q => (pa_cons ha hr hs).run pos pins s σ H Q I (ta_cons q)⟩
def eTup (wd : DW) : EW := fun xk ρ K => wd xk ρ fun ds ρ1 => ds.length ≤ 1000 ∧ K (.sh (.tup ds)) ρ1
def eLst (wd : DW) : EW := fun xk ρ K => wd xk ρ fun ds ρ1 => ds.length ≤ 1000 ∧ ∀ a, K (.fr a (.lst ds)) ρ1
theorem le_line {n : Nat} (h : n ≤ 1000) : n ≤ sizeLine := Nat.le_of_lt (small1000 h)
theorem de_lst (h : PA X es (Ta Z wd)) : PE X (.List es pos) (T Z (eLst wd)) :=
  ⟨fun pins s σ H Q I ⟨ρ, G, K, IR, hw, q⟩ => (pe_lst h).run pins s σ H Q I ⟨ρ, G, _, IR, hw, fun ds ρ1 vs H1 G1 le1 I1 rs k1 => ⟨by rw [rs.length]; exact le_line k1.1, fun p hp =>
    q (.fr p (.lst ds)) ρ1 _ _ G1 le1 (I1.newH hp) ⟨rfl, ⟨vs, upd_same, rs⟩, I1.g hp, fun i m b e h => I1.own_ne h hp, (I1.h0 hp).1, (I1.h0 hp).2⟩ (k1.2 p)⟩⟩⟩
end
end TL

namespace TL
open PySem L2

/-- the ends of a statement: over trees, and below -/
structure Lk (Z : Zone) (G : Hp) (K : SK) (D : Ends) : Prop where
  nx : ∀ ρ' σ' H' G', LE G G' → SR Z ρ' G' σ' H' → K.nx ρ' → D.nx σ' H'
  rt : ∀ r ρ' v σ' H' G', LE G G' → SR Z ρ' G' σ' H' → RvOk Z r ρ' G' σ' H' v → K.rt r ρ' → D.rt v H'
  bk : ∀ ρ' σ' H' G', LE G G' → SR Z ρ' G' σ' H' → K.bk ρ' → D.bk σ' H'
  ct : ∀ ρ' σ' H' G', LE G G' → SR Z ρ' G' σ' H' → K.ct ρ' → D.ct σ' H'
theorem Lk.mono {Z : Zone} {G G1 : Hp} {K : SK} {D : Ends} (l : Lk Z G K D) (h : LE G G1) : Lk Z G1 K D :=
  ⟨fun a b c d e => l.nx a b c d (h.trans e), fun a b c d e f g => l.rt a b c d e f (h.trans g), fun a b c d e => l.bk a b c d (h.trans e), fun a b c d e => l.ct a b c d (h.trans e)⟩
def Ts (Z : Zone) (w : SW) : TS := fun D σ H => ∃ ρ G K, SR Z ρ G σ H ∧ w Z.xk ρ K ∧ Lk Z G K D

section
variable {X : Cx} {Z : Zone} {e : Expr} {w wa wb : EW} {pos : Pos} {st : Stmt} {rest : List Stmt} {sa sb : SW} {tw : TW}
def sNil : SW := fun _ ρ K => K.nx ρ
def sSeq (a b : SW) : SW := fun xk ρ K => a xk ρ { K with nx := fun ρ' => b xk ρ' K }
theorem ds_nil : PSs X [] (Ts Z sNil) := ⟨fun pins s σ H D I ⟨ρ, G, K, IR, hw, l⟩ => pss_nil.run pins s σ H D I (l.nx ρ σ H G (LE.refl G) IR hw)⟩
theorem ts_seq {D : Ends} {σ : L2.St} {H : Hp} (h : Ts Z (sSeq sa sb) D σ H) : tSeq (Ts Z sa) (Ts Z sb) D σ H := by
  obtain ⟨ρ, G, K, IR, hw, l⟩ := h
  exact ⟨ρ, G, _, IR, hw, ⟨fun ρ' σ' H' G' le I' k => ⟨ρ', G', K, I', k, l.mono le⟩, l.rt, l.bk, l.ct⟩⟩
theorem ds_cons (h1 : PS X st (Ts Z sa)) (h2 : PSs X rest (Ts Z sb)) : PSs X (st :: rest) (Ts Z (sSeq sa sb)) := ⟨fun pins s σ H D I h => (pss_cons h1 h2).run pins s σ H D I (ts_seq h)⟩
theorem ds_one (h1 : PS X st (Ts Z sa)) : PSs X [st] (Ts Z sa) := pss_one h1
def sPass : SW := fun _ ρ K => K.nx ρ
def sBrk : SW := fun _ ρ K => K.bk ρ
def sNever : SW := fun _ _ _ => False
theorem ds_never : PS X st (Ts Z sNever) := ⟨fun _ _ _ _ _ _ ⟨_, _, _, _, h, _⟩ => h.elim⟩
def sExpr (w : EW) : SW := fun xk ρ K => w xk ρ fun _ ρ1 => K.nx ρ1
theorem ds_expr (he : PE X e (T Z w)) (hs : swapsWith e none pos.line X.env = pure false := by rfl) : PS X (.Expr e pos) (Ts Z (sExpr w)) :=
  ⟨fun pins s σ H D I ⟨ρ, G, K, IR, hw, l⟩ => (ps_expr he hs).run pins s σ H D I ⟨ρ, G, _, IR, hw, fun r ρ' v H' G' le I' _ k => l.nx ρ' σ H' G' le I' k⟩⟩
def sRet (w : EW) : SW := fun xk ρ K => w xk ρ K.rt
theorem ds_ret (he : PE X e (T Z w)) : PS X (.Return (some e) pos) (Ts Z (sRet w)) :=
  ⟨fun pins s σ H D I ⟨ρ, G, K, IR, hw, l⟩ => (ps_ret he).run pins s σ H D I ⟨ρ, G, _, IR, hw, fun r ρ' v H' G' le I' q k => l.rt r ρ' v σ H' G' le I' q k⟩⟩
def sRetN : SW := fun _ ρ K => K.rt (.sh .non) ρ
def sIf (t : TW) (a b : SW) : SW := fun xk ρ K => t xk ρ fun c ρ1 => (c = true → a xk ρ1 K) ∧ (c = false → b xk ρ1 K)
theorem ds_if {c : Expr} {a b : List Stmt} (hc : PT X c (Tt Z tw)) (ha : PSs X a (Ts Z sa)) (hb : PSs X b (Ts Z sb)) : PS X (.If c a b pos) (Ts Z (sIf tw sa sb)) :=
  ⟨fun pins s σ H D I ⟨ρ, G, K, IR, hw, l⟩ => (ps_if hc ha hb).run pins s σ H D I ⟨ρ, G, _, IR, hw, fun c ρ' H' G' le I' k => by
    cases c with
    | true => rw [if_pos rfl]; exact ⟨ρ', G', K, I', k.1 rfl, l.mono le⟩
    | false => rw [if_neg Bool.false_ne_true]; exact ⟨ρ', G', K, I', k.2 rfl, l.mono le⟩⟩⟩

/-! ### stores -/
def lay (i : Nat) (r : Rv) (ρ : REnv) (K : REnv → Prop) : Prop := match r with
  | .fr a d => K (ρ.set i (.own false a d))
  | r => stl r ρ fun d ρ2 => K (ρ2.set i (.sh d))
theorem SR.place {ρ : REnv} {G H : Hp} {σ : L2.St} {i : Nat} {r : Rv} {v : V} {K : REnv → Prop} (I : SR Z ρ G σ H) (hi : i < σ.length) (q : RvOk Z r ρ G σ H v) (h : lay i r ρ K) : ∃ ρ' G', LE G G' ∧ SR Z ρ' G' (σ.set i (some v)) H ∧ K ρ' := by
  have other : ∀ {r : Rv}, RvOk Z r ρ G σ H v → (stl r ρ fun d ρ2 => K (ρ2.set i (.sh d))) → ∃ ρ' G', LE G G' ∧ SR Z ρ' G' (σ.set i (some v)) H ∧ K ρ' := fun {r} q h => by
    obtain ⟨d, ρ', G', le, I', rp, k, _⟩ := I.settle q h
    exact ⟨_, G', le, I'.put hi rp, k⟩
  cases r with
  | loc j => exact other q h
  | sh d => exact other q h
  | gh j a => exact other q h
  | gx as cs t => exact other q h
  | fr a d =>
    have e := q.1
    subst e
    exact ⟨_, G, LE.refl G, I.putFr hi q, h⟩
def sSet (i : Nat) (w : EW) : SW := fun xk ρ K => w xk ρ fun r ρ1 => lay i r ρ1 K.nx
theorem ds_set {i : Nat} {x : Str} {pos' : Pos} (hN : X.N.Nodup) (he : PE X e (T Z w)) (hi : X.N[i]? = some x := by rfl) (hx : Loc X.env.scope x := by first | exact Or.inl rfl | exact Or.inr rfl) (hs : swapsWith e (some (.Name x pos')) pos.line X.env = pure false := by rfl) (hf : X.fn x = true ∨ X.env.scope.names.lookup x = some .local := by first | exact .inl rfl | exact .inr rfl | assumption) :
    PS X (.Assign [.Name x pos'] e pos) (Ts Z (sSet i w)) :=
  ⟨fun pins s σ H D I ⟨ρ, G, K, IR, hw, l⟩ => (ps_set hN hi hx he hs hf).run pins s σ H D I ⟨ρ, G, _, IR, hw, fun r ρ' v H' G' le I' q k => by
    obtain ⟨ρ2, G2, le2, I2, k2⟩ := I'.place (lt_len I hi) q k
    exact l.nx ρ2 _ H' G2 (le.trans le2) I2 k2⟩⟩
/-- a, b = x, y -/
def sPar (i j : Nat) (wd : DW) : SW := fun xk ρ K => wd xk ρ fun ds ρ1 => match ds with | [d, e] => K.nx ((ρ1.set i (.sh d)).set j (.sh e)) | _ => False
/-! ### targets -/
def Tg (Z : Zone) (g : GW) : TG := fun v σ H Q => ∃ ρ G d K, SR Z ρ G σ H ∧ Rep Z.cc G v d ∧ g d ρ K ∧ ∀ ρ' σ' G', LE G G' → SR Z ρ' G' σ' H → K ρ' → Q σ' H
abbrev GWs := List D → REnv → (REnv → Prop) → Prop
def gN (i : Nat) : GW := fun d ρ K => K (ρ.set i (.sh d))
def gNl : GWs := fun ds ρ K => ds = [] ∧ K ρ
def gCn (g : GW) (gs : GWs) : GWs := fun ds ρ K => match ds with | d :: r => g d ρ fun ρ' => gs r ρ' K | [] => False
def gTp (n : Nat) (gs : GWs) : GW := fun d ρ K => match d with | .tup ds => ds.length = n ∧ gs ds ρ K | _ => False
theorem dg_name {i : Nat} {x : Str} (hN : X.N.Nodup) (hi : X.N[i]? = some x := by rfl) (hx : Loc X.env.scope x := by first | exact Or.inl rfl | exact Or.inr rfl) (hf : X.fn x = true ∨ X.env.scope.names.lookup x = some .local := by first | exact .inl rfl | exact .inr rfl | assumption) : PG X (.Name x pos) (Tg Z (gN i)) :=
  ⟨fun pins s σ H v u Q I r ⟨ρ, G, d, K, IR, rp, k, q⟩ => (pg_name hN hi hx hf).run pins s σ H v u Q I r (q _ _ G (LE.refl G) (IR.put (lt_len I hi) rp) k)⟩
/-- target = value -/
def sAsg (w : EW) (g : GW) : SW := fun xk ρ K => w xk ρ fun r ρ1 => stl r ρ1 fun d ρ2 => g d ρ2 K.nx
/-! ### a root of a name's own, changed -/
theorem Root.lst {cc : CC} {G H : Hp} {a : Addr} {vs : List V} {ds : List D} (h : H a = some (.lst vs)) (r : Reps cc G vs ds) : Root cc G H a (.lst ds) := ⟨vs, h, r⟩
theorem SR.ownL {ρ : REnv} {G H : Hp} {σ : L2.St} (I : SR Z ρ G σ H) {j : Nat} {m : Bool} {a : Addr} {ds : List D} (h : ρ[j]? = some (.own m a (.lst ds))) : (σ[j]? = some (some (.ref a)) ∨ σ.length ≤ j) ∧ ∃ vs, H a = some (.lst vs) ∧ Reps Z.cc G vs ds := I.slot j _ h
def sSub (j : Nat) (wi w : EW) : SW := fun xk ρ K => w xk ρ fun r ρ1 => stl r ρ1 fun d ρ2 => bound ρ2 j ∧ wi xk ρ2 fun ri ρ3 => match ρ3[j]?, ri.get ρ3 with
  | some (.own m a (.lst ds)), .int k => ∃ n, ixN ds.length k = some n ∧ K.nx (ρ3.set j (.own m a (.lst (ds.set n d))))
  | _, _ => False
theorem ds_sub {j : Nat} {x : Str} {i : Expr} {wi : EW} {px ps : Pos} (he : PE X e (T Z w)) (hi : PE X i (T Z wi)) (hN : X.N[j]? = some x := by rfl) (hv : Vis X.env.scope x := by first | exact Or.inl rfl | exact Or.inr (Or.inl rfl) | exact Or.inr (Or.inr rfl)) (hd : (x == ("__debug__" : Str)) = false := by decide)
    (hcd : (x == ("__classdict__" : Str)) = false := by decide)
    (ha : ∀ v, assign (.Subscript (.Name x px) i ps) X.env v = (do
      let ov ← holding [v] (eval (.Name x px) X.env)
      let iv ← holding [v, ov] (eval i X.env)
      standAt ps
      holding [v, ov, iv] (setItem ov iv v)
      release [v, ov, iv] []) := by intro _; rfl)
    (hs : swapsWithSole [.Subscript (.Name x px) i ps] e pos.line X.env = pure false := by rfl) (hw : swappedStores [.Subscript (.Name x px) i ps] e X.env = pure none := by rfl)
    (h1 : (assignEach [.Subscript (.Name x px) i ps] X.env).map (·.2) = [assign (.Subscript (.Name x px) i ps) X.env] := by rfl) : PS X (.Assign [.Subscript (.Name x px) i ps] e pos) (Ts Z (sSub j wi w)) :=
  ⟨fun pins s σ H D I ⟨ρ, G, K, IR, hk, l⟩ => (ps_asg he (pg_sub (pv j hN hv hd hcd) hi set_list ha) hs hw h1).run pins s σ H D I ⟨ρ, G, _, IR, hk, fun r ρ' v H' G' le I' q k => by
    obtain ⟨d, ρ2, G2, le2, I2, rp, ⟨hb, k2⟩, _⟩ := I'.settle q k
    obtain ⟨o, eo⟩ := bound_get I2 (lt_len I hN) hb
    refine ⟨o, eo, ρ2, G2, _, I2, k2, fun ri ρ3 iv H3 G3 le3 I3 qi k3 => ?_⟩
    have vi := qi.view I3
    split at k3
    · rename_i m a ds kk hs hg
      rw [hg] at vi
      obtain ⟨n, hn, k4⟩ := k3
      obtain ⟨es, vs, ha, rs⟩ := I3.ownL hs
      cases own_in eo es
      refine ⟨a, vs, kk, n, rfl, vi, ha, by rw [rs.length]; exact hn, ?_⟩
      exact l.nx _ _ _ G3 ((le.trans le2).trans le3) (I3.write hs (Root.lst upd_same (rs.set n (rp.mono le3)))) k4
    · exact k3.elim⟩⟩
def sApp (j : Nat) (w : EW) : SW := fun xk ρ K => (∃ m a ds, ρ[j]? = some (.own m a (.lst ds))) ∧ w xk ρ fun r ρ1 => stl r ρ1 fun d ρ2 => match ρ2[j]? with
  | some (.own m a (.lst ds)) => ds.length < sizeLine ∧ K.nx (ρ2.set j (.own m a (.lst (ds ++ [d]))))
  | _ => False
/-! ### while -/
/-! ### for -/
/-- what a loop walks: how many turns, what comes at a turn, what must stand as it is meanwhile -/
abbrev IW := Xk → REnv → (Nat → (Nat → D → Prop) → (REnv → Prop) → REnv → Prop) → Prop
def ItOk (Z : Zone) (J : It) (n : Nat) (f : Nat → D → Prop) (st : REnv → Prop) (G : Hp) : Prop := ∀ (H0 : Hp) (xk : Xk) i ρ G1 σ H, LE G G1 → SR { Z with H0 := H0, xk := xk } ρ G1 σ H → st ρ →
  (n ≤ i → J.stop i H) ∧ (i < n → J.go i H ∧ ∀ x H', J.yld i H x H' → ∃ d G2, f i d ∧ LE G1 G2 ∧ SR { Z with H0 := H0, xk := xk } ρ G2 σ H' ∧ Rep Z.cc G2 x d)
def Ti (Z : Zone) (iw : IW) : TI := fun σ H R => ∃ ρ G K, SR Z ρ G σ H ∧ iw Z.xk ρ K ∧
  ∀ n f st ρ' H' G' J, LE G G' → SR Z ρ' G' σ H' → ItOk Z J n f st G' → K n f st ρ' → R J H'
def sFor (iw : IW) (g : GW) (b : SW) : SW := fun xk ρ K => iw xk ρ fun n f st ρ1 => ∃ W : Nat → REnv → Prop, W 0 ρ1 ∧ (∀ i ρ, i ≤ n → W i ρ → st ρ) ∧
  (∀ i d ρ, i < n → f i d → W i ρ → g d ρ fun ρ2 => b xk ρ2 { K with nx := W (i + 1), ct := W (i + 1), bk := K.nx }) ∧ ∀ ρ, W n ρ → K.nx ρ
theorem ds_for {tg iter : Expr} {body : List Stmt} {iw : IW} {g : GW} (hp : PassesOwn (model X.prog X.w) X.A X.env X.xe) (hc : X.calm = true) (hi : PI X tg iter (Ti Z iw)) (hg : PG X tg (Tg Z g)) (hb : PSs X body (Ts Z sb))
    (hs : ∀ x, foldedSetIterable iter X.env x = pure x := by intro _; rfl) : PS X (.For tg iter body [] pos) (Ts Z (sFor iw g sb)) :=
  ⟨fun pins s σ H D I ⟨ρ, G, K, IR, hw, l⟩ => (ps_for hp hc hi hg hb hs).run pins s σ H D I ⟨ρ, G, _, IR, hw, fun n f st ρ1 H1 G1 J le1 I1 io ⟨W, w0, stb, turn, fin⟩ => by
    refine ⟨fun i m σ' H' => m = n - i ∧ i ≤ n ∧ ∃ ρ' G', LE G1 G' ∧ SR Z ρ' G' σ' H' ∧ W i ρ', ⟨n, by simp, Nat.zero_le _, ρ1, G1, LE.refl G1, I1, w0⟩, ?_⟩
    rintro i m σ' H' ⟨rfl, hin, ρ', G', le', I', w'⟩
    obtain ⟨s1, s2⟩ := io Z.H0 Z.xk i ρ' G' σ' H' le' I' (stb i ρ' hin w')
    by_cases hlt : i < n
    · obtain ⟨go, yl⟩ := s2 hlt
      refine .inr ⟨go, fun σ2 H2 => ∃ ρ2 G2, LE G1 G2 ∧ SR Z ρ2 G2 σ2 H2 ∧ W (i + 1) ρ2, fun σ2 H2 h => ⟨n - (i + 1), by omega, rfl, hlt, h⟩, fun x H2 y => ?_⟩
      obtain ⟨d, G2, fd, le2, I2, rp⟩ := yl x H2 y
      refine ⟨ρ', G2, d, _, I2, rp, turn i d ρ' hlt fd w', fun ρ3 σ3 G3 le3 I3 k3 => ⟨ρ3, G3, _, I3, k3, ?_⟩⟩
      have l3 := (le'.trans le2).trans le3
      have lG := le1.trans l3
      exact ⟨fun ρ4 σ4 H4 G4 le4 I4 k => ⟨ρ4, G4, l3.trans le4, I4, k⟩, fun r ρ4 v σ4 H4 G4 le4 I4 q k => l.rt r ρ4 v σ4 H4 G4 (lG.trans le4) I4 q k, fun ρ4 σ4 H4 G4 le4 I4 k => l.nx ρ4 σ4 H4 G4 (lG.trans le4) I4 k,
        fun ρ4 σ4 H4 G4 le4 I4 k => ⟨ρ4, G4, l3.trans le4, I4, k⟩⟩
    · have e : i = n := by omega
      subst e
      exact .inl ⟨s1 (Nat.le_refl _), l.nx ρ' σ' H' G' (le1.trans le') I' (fin ρ' w')⟩⟩⟩

/-- the source of a loop stands still -/
def stab (r : Rv) (ρ1 : REnv) (ρ : REnv) : Prop := match r with
  | .loc i => match ρ1[i]? with
    | some (.own m a d) => ρ[i]? = some (.own m a d)
    | _ => True
  | .gh j _ => match ρ1[j]? with
    | some (.own m a d) => ρ[j]? = some (.own m a d)
    | _ => True
  | _ => True
def iLst (w : EW) : IW := fun xk ρ K => w xk ρ fun r ρ1 => match r.get ρ1 with | .lst ds => K ds.length (fun i d => ds[i]? = some d) (stab r ρ1) ρ1 | _ => False
def iTpl (w : EW) : IW := fun xk ρ K => w xk ρ fun r ρ1 => match r.get ρ1 with | .tup ds => K ds.length (fun i d => ds[i]? = some d) (fun _ => True) ρ1 | _ => False
theorem SqL.rd {K : PySem.W.Frag} {H : Hp} {a : Addr} {xs : List V} (h : Rd H a (.lst xs)) : SqL K H a xs := .inl h
theorem SqT.rd {K : PySem.W.Frag} {H : Hp} {a : Addr} {xs : List V} (h : Rd H a (.tup xs)) : SqT K H a xs := .inl h
/-- a source that stands in what is known -/
theorem itl_known {K : PySem.W.Frag} {a : Addr} {vs : List V} {ds : List D} {G : Hp} {st : REnv → Prop} (hK : Z.cc.K = K) (ra : SqL Z.cc.K G a vs) (rs : Reps Z.cc G vs ds) :
    ItOk Z (Itl K a) ds.length (fun i d => ds[i]? = some d) st G := by
  intro H0 xk i ρ G1 σ H le I _
  have rH : SqL K H a vs := by rw [← hK]; exact (le.trans I.sub).sql ra
  refine ⟨fun h => ⟨vs, rH, by rw [rs.length]; exact h⟩, fun h => ?_⟩
  obtain ⟨v, hv, _⟩ := rs.get (List.getElem?_eq_getElem h)
  refine ⟨⟨vs, v, rH, hv⟩, fun x H' y => ?_⟩
  obtain ⟨e, y⟩ := y
  subst e
  obtain ⟨d, hd, rp⟩ := rs.get' (y vs rH)
  exact ⟨d, G1, hd, LE.refl _, I, rp.mono le⟩
end
end TL

namespace TL
open PySem L2

section
variable {X : Cx} {Z : Zone} {e : Expr} {w wa wb : EW} {pos : Pos}

/-! ### what a loop walks -/
theorem it_list {K : PySem.W.Frag} (hK : Z.cc.K = K) {ρ : REnv} {G H : Hp} {σ : L2.St} {r : Rv} {x : V} {ds : List D} (I : SR Z ρ G σ H) (q : RvOk Z r ρ G σ H x) (hd : r.get ρ = .lst ds) :
    ∃ a G', x = .ref a ∧ LE G G' ∧ SR Z ρ G' σ H ∧ (∃ xs, SqL K H a xs) ∧ ItOk Z (Itl K a) ds.length (fun i d => ds[i]? = some d) (stab r ρ) G' := by
  have known : ∀ {G'}, LE G G' → SR Z ρ G' σ H → Rep Z.cc G' x (.lst ds) → ∃ a G', x = .ref a ∧ LE G G' ∧ SR Z ρ G' σ H ∧ (∃ xs, SqL K H a xs) ∧ ItOk Z (Itl K a) ds.length (fun i d => ds[i]? = some d) (stab r ρ) G' := fun {G'} le I' rp => by
    unfold Rep at rp
    obtain ⟨a, vs, ea, ra, rs⟩ := rp
    exact ⟨a, G', ea, le, I', ⟨vs, by rw [← hK]; exact I'.sub.sql ra⟩, itl_known hK ra rs⟩
  cases r with
  | sh d => exact known (LE.refl G) I (by have : d = .lst ds := hd; rw [← this]; exact q)
  | fr a d =>
    have : d = .lst ds := hd
    subst this
    obtain ⟨G', le, I', q'⟩ := I.freeze q
    exact known le I' q'
  | loc i =>
    obtain ⟨ex, hb⟩ := q
    have hd : getL ρ i = .lst ds := hd
    unfold getL at hd
    unfold bound at hb
    cases hs : ρ[i]? with
    | none => rw [hs] at hb; exact hb.elim
    | some s =>
      have so := I.slot i s hs
      simp only [hs] at hd
      cases s with
      | no => rw [hs] at hb; exact hb.elim
      | sh d =>
        obtain ⟨u, eu, ru⟩ := so
        rw [ex] at eu; cases eu
        subst hd
        exact known (LE.refl G) I ru
      | own m a d =>
        obtain ⟨eu, rt⟩ := so
        cases own_in ex eu
        have hd : d = .lst ds := hd
        subst hd
        obtain ⟨vs, ha, rs⟩ := rt
        refine ⟨a, G, rfl, LE.refl G, I, ⟨vs, SqL.of ha⟩, fun H0 xk j ρ' G1 σ' H' le I' hst => ?_⟩
        have hst : ρ'[i]? = some (.own m a (.lst ds)) := by
          unfold stab at hst
          simp only [hs] at hst
          exact hst
        obtain ⟨es, us, ha', rs'⟩ := I'.ownL hst
        refine ⟨fun h => ⟨us, SqL.of ha', by rw [rs'.length]; exact h⟩, fun h => ?_⟩
        obtain ⟨v, hv, _⟩ := rs'.get (List.getElem?_eq_getElem h)
        refine ⟨⟨us, v, SqL.of ha', hv⟩, fun x H2 y => ?_⟩
        obtain ⟨e, y⟩ := y
        subst e
        obtain ⟨d, hd, rp⟩ := rs'.get' (y us (SqL.of ha'))
        exact ⟨d, G1, hd, LE.refl _, I', rp⟩
  | gh j a =>
    obtain ⟨rfl, m, d, hs⟩ := q
    have hd : getL ρ j = .lst ds := hd
    unfold getL at hd
    rw [hs] at hd
    have hd : d = .lst ds := hd
    subst hd
    have rt := (I.slot j _ hs).2
    obtain ⟨vs, ha, rs⟩ := rt
    refine ⟨a, G, rfl, LE.refl G, I, ⟨vs, SqL.of ha⟩, fun H0 xk k ρ' G1 σ' H' le I' hst => ?_⟩
    have hst : ρ'[j]? = some (.own m a (.lst ds)) := by
      unfold stab at hst
      simp only [hs] at hst
      exact hst
    obtain ⟨es, us, ha', rs'⟩ := I'.ownL hst
    refine ⟨fun h => ⟨us, SqL.of ha', by rw [rs'.length]; exact h⟩, fun h => ?_⟩
    obtain ⟨v, hv, _⟩ := rs'.get (List.getElem?_eq_getElem h)
    refine ⟨⟨us, v, SqL.of ha', hv⟩, fun x H2 y => ?_⟩
    obtain ⟨e, y⟩ := y
    subst e
    obtain ⟨d, hd, rp⟩ := rs'.get' (y us (SqL.of ha'))
    exact ⟨d, G1, hd, LE.refl _, I', rp⟩
  | gx as cs t => exact known (LE.refl G) I (by have : t = .lst ds := hd; rw [← this]; exact q.2.2.1)
theorem di_lst {tg : Expr} (hK : Z.cc.K = X.K) (he : PE X e (T Z w)) : PI X tg e (Ti Z (iLst w)) :=
  ⟨fun pins s σ H R I ⟨ρ, G, K, IR, hw, q⟩ => (pi_list he).run pins s σ H R I ⟨ρ, G, _, IR, hw, fun r ρ' v H' G' le I' qr k => by
    split at k
    · rename_i ds hd
      obtain ⟨a, G2, ea, le2, I2, hx, io⟩ := it_list (K := X.K) hK I' qr hd
      exact ⟨a, ea, hx, q _ _ _ ρ' H' G2 _ (le.trans le2) I2 io k⟩
    · exact k.elim⟩⟩
def iR1 (wd : DW) : IW := fun xk ρ K => wd xk ρ fun ds ρ1 => match ds with
  | [.int j] => (-(2 ^ 62) ≤ j ∧ j < 2 ^ 62) ∧ K j.toNat (fun i d => d = .int i) (fun _ => True) ρ1
  | _ => False
def iR2 (wd : DW) : IW := fun xk ρ K => wd xk ρ fun ds ρ1 => match ds with
  | [.int i, .int j] => (-(2 ^ 62) ≤ i ∧ i < 2 ^ 62 ∧ -(2 ^ 62) ≤ j ∧ j < 2 ^ 62) ∧ K (j - i).toNat (fun k d => d = .int (i + k)) (fun _ => True) ρ1
  | _ => False
theorem itr_ok {lo : Int} {n : Nat} {G : Hp} : ItOk Z (Itr lo n) n (fun k d => d = .int (lo + k)) (fun _ => True) G := by
  intro H0 xk i ρ G1 σ' H le I _
  refine ⟨fun h => h, fun h => ⟨h, fun x H' y => ?_⟩⟩
  obtain ⟨rfl, rfl⟩ := y
  exact ⟨_, G1, rfl, LE.refl _, I, rep_int⟩
theorem itr_ok0 {n : Nat} {G : Hp} : ItOk Z (Itr 0 n) n (fun k d => d = .int k) (fun _ => True) G := by
  intro H0 xk i ρ G1 σ' H le I _
  refine ⟨fun h => h, fun h => ⟨h, fun x H' y => ?_⟩⟩
  obtain ⟨rfl, rfl⟩ := y
  exact ⟨.int i, G1, rfl, LE.refl _, I, by rw [Int.zero_add]; exact rep_int⟩
theorem di_r1 {tg a : Expr} {wd : DW} {p : Pos} (hg : Gl X "range") (hm : X.mg "range" = none) (ha : PA X [a] (Ta Z wd)) (hs : starEach [a] X.env = [(false, eval a X.env)] := by rfl) : PI X tg (.Call (.Name "range" p) [a] [] pos) (Ti Z (iR1 wd)) :=
  ⟨fun pins s σ H R I ⟨ρ, G, K, IR, hw, q⟩ => (pi_range1 hg hm ha hs).run pins s σ H R I ⟨ρ, G, _, IR, hw, fun ds ρ' vs H' G' le I' rs k => by
    split at k
    · rename_i j
      obtain ⟨v, r, rfl, rv, rr⟩ := rs.inv_cons
      have := rr.inv_nil
      subst this
      unfold Rep at rv
      subst rv
      exact ⟨j, rfl, k.1.1, k.1.2, q _ _ _ ρ' H' G' _ le I' itr_ok0 k.2⟩
    · exact k.elim⟩⟩
theorem di_r2 {tg a b : Expr} {wd : DW} {p : Pos} (hg : Gl X "range") (hm : X.mg "range" = none) (ha : PA X [a, b] (Ta Z wd)) (hs : starEach [a, b] X.env = [(false, eval a X.env), (false, eval b X.env)] := by rfl) (hs2 : starEach [b] X.env = [(false, eval b X.env)] := by rfl) : PI X tg (.Call (.Name "range" p) [a, b] [] pos) (Ti Z (iR2 wd)) :=
  ⟨fun pins s σ H R I ⟨ρ, G, K, IR, hw, q⟩ => (pi_range2 hg hm ha hs hs2).run pins s σ H R I ⟨ρ, G, _, IR, hw, fun ds ρ' vs H' G' le I' rs k => by
    split at k
    · rename_i i j
      obtain ⟨v, r, rfl, rv, rr⟩ := rs.inv_cons
      obtain ⟨u, r2, rfl, ru, rr⟩ := rr.inv_cons
      have := rr.inv_nil
      subst this
      unfold Rep at rv ru
      subst rv ru
      exact ⟨i, j, rfl, k.1, q _ _ _ ρ' H' G' _ le I' itr_ok k.2⟩
    · exact k.elim⟩⟩

/-! ### a comprehension -/
abbrev xk0 : Xk := fun _ _ _ => False
abbrev Zone.ext (Z : Zone) (D : Addr) (o : HO) : Zone := { Z with H0 := upd Z.H0 D o, xk := xk0 }
theorem SR.ext {ρ : REnv} {G H : Hp} {σ : L2.St} {D : Addr} {o : HO} (I : SR Z ρ G σ H) (hD : H D = some o) (gD : G D = none) (ho : ∀ (i : Nat) (m : Bool) (b : Addr) (e : TL.D), ρ[i]? = some (.own m b e) → b ≠ D) (hm : D ∉ Z.mu) : SR (Z.ext D o) ρ G σ H := by
  refine ⟨I.len, I.sub, I.slot, I.inj, I.out, fun a u e hn => ?_, fun i m a d e => ?_, fun a ha => ?_, I.g0, I.mout, I.mux⟩
  · by_cases h : a = D
    · subst h
      have e : upd Z.H0 a o a = some u := e
      rw [upd_same] at e; cases e; exact hD
    · have e : upd Z.H0 D o a = some u := e
      rw [upd_ne h] at e; exact I.ent a u e hn
  · have := I.frs i m a d e
    cases m with
    | true => exact this
    | false => exact ⟨by show upd Z.H0 D o a = none; rw [upd_ne (ho i _ a d e)]; exact this.1, this.2⟩
  · have : a ≠ D := fun h => ha (h ▸ gD)
    rcases I.gnew a ha with z | z
    · exact .inl z
    · exact .inr (by show upd Z.H0 D o a = none; rw [upd_ne this]; exact z)
theorem SR.unext {ρ : REnv} {G H : Hp} {σ : L2.St} {D : Addr} {o : HO} (I : SR (Z.ext D o) ρ G σ H) (h0 : Z.H0 D = none) (g0 : Z.G0 D = none) (hm : D ∉ Z.mu) : SR Z ρ G σ H ∧ H D = some o ∧ G D = none ∧ ∀ (i : Nat) (m : Bool) (b : Addr) (e : TL.D), ρ[i]? = some (.own m b e) → b ≠ D := by
  have hD : H D = some o := I.ent D o (by show upd Z.H0 D o D = some o; exact upd_same) hm
  have gD : G D = none := by
    cases e : G D with
    | none => rfl
    | some u =>
      rcases I.gnew D (by rw [e]; simp) with z | z
      · exact absurd g0 z
      · have z : upd Z.H0 D o D = none := z
        rw [upd_same] at z; cases z
  refine ⟨⟨I.len, I.sub, I.slot, I.inj, I.out, fun a u e hn => ?_, fun i m a d e => ?_, fun a ha => ?_, I.g0, I.mout, I.mux⟩, hD, gD, fun i m b e h => ?_⟩
  · refine I.ent a u ?_ hn
    show upd Z.H0 D o a = some u
    rw [upd_ne (ne_of_none e h0)]; exact e
  · have := I.frs i m a d e
    cases m with
    | true => exact this
    | false =>
      have h := this.1
      have h : upd Z.H0 D o a = none := h
      by_cases z : a = D
      · subst z; rw [upd_same] at h; cases h
      · rw [upd_ne z] at h; exact ⟨h, this.2⟩
  · rcases I.gnew a ha with z | z
    · exact .inl z
    · have z : upd Z.H0 D o a = none := z
      have : a ≠ D := fun h => by subst h; rw [upd_same] at z; cases z
      rw [upd_ne this] at z; exact .inr z
  · have := I.frs i m b e h
    cases m with
    | true => exact fun z => hm (z ▸ this)
    | false =>
      rintro rfl
      have h := this.1
      have h : upd Z.H0 b o b = none := h
      rw [upd_same] at h; cases h

def wipeE (ρ : REnv) : List Nat → REnv
  | [] => ρ
  | v :: vs => (wipeE ρ vs).set v .no
def keepS (ρ1 : REnv) (v : Nat) : Sl := match ρ1[v]? with | some (.sh d) => .sh d | _ => .no
def restE (ρ1 : REnv) : List Nat → REnv → REnv
  | [], ρ => ρ
  | v :: vs, ρ => restE ρ1 vs (ρ.set v (if v ∈ vs then .no else keepS ρ1 v))
theorem SR.wipe {ρ : REnv} {G H : Hp} {σ : L2.St} (I : SR Z ρ G σ H) : ∀ vs, SR Z (wipeE ρ vs) G (L2.wipe σ vs) H
  | [] => I
  | v :: vs => (SR.wipe I vs).putNo
theorem SR.back {ρ : REnv} {G H : Hp} {σ : L2.St} {v : Nat} {x : Option V} {s : Sl} (I : SR Z ρ G (σ.set v x) H) (so : SlOk Z.cc G H v σ s) (hn : ∀ m a d, s ≠ .own m a d) : SR Z (ρ.set v s) G σ H := by
  refine ⟨by simpa using I.len, I.sub, fun j t q => ?_, fun j k m n b y c z q1 q2 hj => ?_, fun j m b y q => ?_, I.ent, fun j m b y q => ?_, I.gnew, I.g0, I.mout, I.mux⟩
  · rcases get_set q with ⟨rfl, rfl⟩ | ⟨hj, q⟩
    · exact so
    · have := I.slot j t q
      cases t with
      | no => trivial
      | sh d => obtain ⟨u, eu, ru⟩ := this; rw [List.getElem?_set_ne (Ne.symm hj)] at eu; exact ⟨u, eu, ru⟩
      | own m a d => obtain ⟨eu, ru⟩ := this; exact ⟨owns_unset hj eu, ru⟩
  · rcases get_set q1 with ⟨_, q1⟩ | ⟨_, q1⟩
    · exact absurd q1.symm (hn _ _ _)
    · rcases get_set q2 with ⟨_, q2⟩ | ⟨_, q2⟩
      · exact absurd q2.symm (hn _ _ _)
      · exact I.inj j k m n b y c z q1 q2 hj
  · rcases get_set q with ⟨_, q⟩ | ⟨_, q⟩
    · exact absurd q.symm (hn _ _ _)
    · exact I.out j m b y q
  · rcases get_set q with ⟨_, q⟩ | ⟨_, q⟩
    · exact absurd q.symm (hn _ _ _)
    · exact I.frs j m b y q
theorem wipe_get {σ : L2.St} {v : Nat} : ∀ {vs : List Nat}, v ∉ vs → (L2.wipe σ vs)[v]? = σ[v]?
  | [], _ => rfl
  | u :: vs, h => by
    have h1 : u ≠ v := by rintro rfl; exact h List.mem_cons_self
    show ((L2.wipe σ vs).set u none)[v]? = σ[v]?
    rw [List.getElem?_set_ne h1]
    exact wipe_get fun z => h (List.mem_cons_of_mem _ z)
theorem SR.unwipe {ρ1 : REnv} {G1 H1 : Hp} {σ : L2.St} (I1 : SR Z ρ1 G1 σ H1) {G H : Hp} (le : LE G1 G) : ∀ (vs : List Nat) {ρ : REnv}, SR Z ρ G (L2.wipe σ vs) H → SR Z (restE ρ1 vs ρ) G σ H
  | [], _, I => I
  | v :: vs, ρ, I => by
    unfold restE
    by_cases hv : v ∈ vs
    · rw [if_pos hv]
      exact SR.unwipe I1 le vs (SR.back (x := none) (s := .no) I trivial fun _ _ _ => by simp)
    · rw [if_neg hv]
      refine SR.unwipe I1 le vs (SR.back (x := none) I ?_ ?_)
      · unfold keepS
        cases hs : ρ1[v]? with
        | none => exact trivial
        | some s =>
          cases s with
          | no => exact trivial
          | own m a d => exact trivial
          | sh d =>
            obtain ⟨u, eu, ru⟩ := I1.slot v _ hs
            exact ⟨u, by rw [wipe_get hv]; exact eu, ru.mono le⟩
      · intro m a d
        unfold keepS
        split <;> simp

def tYesW : TW := fun _ ρ K => K true ρ
theorem dts_nil {X : Cx} {Z : Zone} : PTs X [] (Tt Z tYesW) := ⟨fun pins s σ H Q I ⟨ρ, G, K, IR, hw, q⟩ => pts_nil.run pins s σ H Q I (q true ρ H G (LE.refl G) IR hw)⟩
theorem dts_one {X : Cx} {Z : Zone} {c : Expr} {t : TW} (h : PT X c (Tt Z t)) : PTs X [c] (Tt Z t) := pts_one h
/-- [elt for tg in iter if t] -/
def eComp (iw : IW) (g : GW) (t : TW) (we : EW) (vs : List Nat) : EW := fun xk ρ K => iw xk ρ fun n f st ρ1 => ∃ W : Nat → List D → REnv → Prop, W 0 [] (wipeE ρ1 vs) ∧ (∀ i acc ρ, i ≤ n → W i acc ρ → st ρ) ∧
  (∀ i d acc ρ, i < n → f i d → W i acc ρ → g d ρ fun ρ2 => t xk0 ρ2 fun c ρ3 => (c = true → we xk0 ρ3 fun r ρ4 => stl r ρ4 fun e ρ5 => acc.length < sizeLine ∧ W (i + 1) (acc ++ [e]) (wipeE ρ5 vs)) ∧ (c = false → W (i + 1) acc (wipeE ρ3 vs))) ∧
  ∀ acc ρ, W n acc ρ → ∀ a, K (.fr a (.lst acc)) (restE ρ1 vs ρ)

theorem wipe_set {σ : L2.St} {i : Nat} {x : Option V} : ∀ {vs : List Nat}, i ∈ vs → L2.wipe (σ.set i x) vs = L2.wipe σ vs
  | [], h => by simp at h
  | u :: vs, h => by
    show (L2.wipe (σ.set i x) vs).set u none = (L2.wipe σ vs).set u none
    by_cases hi : i ∈ vs
    · rw [wipe_set hi]
    · have : i = u := (List.mem_cons.mp h).resolve_right hi
      subst this
      have sw : ∀ {ws : List Nat}, i ∉ ws → L2.wipe (σ.set i x) ws = (L2.wipe σ ws).set i x := by
        intro ws
        induction ws with
        | nil => intro _; rfl
        | cons w ws ih =>
          intro hw
          show (L2.wipe (σ.set i x) ws).set w none = ((L2.wipe σ ws).set w none).set i x
          rw [ih fun z => hw (List.mem_cons_of_mem _ z)]
          exact List.set_comm _ _ (by rintro rfl; exact hw List.mem_cons_self)
      rw [sw hi, List.set_set]
theorem wipe_wipe {σ : L2.St} : ∀ {vs : List Nat}, L2.wipe (L2.wipe σ vs) vs = L2.wipe σ vs := by
  intro vs
  have : ∀ ws, (∀ i ∈ ws, i ∈ vs) → L2.wipe (L2.wipe σ ws) vs = L2.wipe σ vs := by
    intro ws
    induction ws with
    | nil => intro _; rfl
    | cons w ws ih =>
      intro h
      show L2.wipe ((L2.wipe σ ws).set w none) vs = _
      rw [wipe_set (h w List.mem_cons_self)]
      exact ih fun i hi => h i (List.mem_cons_of_mem _ hi)
  exact this vs fun _ h => h
/-- a target within a comprehension: only the comprehension's own slots vs are stored -/
def Tgc (Z : Zone) (vs : List Nat) (g : GW) : TG := fun v σ H Q => ∃ D o ρ G d K, SR (Z.ext D o) ρ G σ H ∧ Rep Z.cc G v d ∧ g d ρ K ∧ ∀ ρ' σ' G', LE G G' → SR (Z.ext D o) ρ' G' σ' H → L2.wipe σ' vs = L2.wipe σ vs → K ρ' → Q σ' H
theorem dgc_name {X : Cx} {Z : Zone} {pos : Pos} {i : Nat} {x : Str} {vs : List Nat} (hN : X.N.Nodup) (hm : i ∈ vs := by decide) (hi : X.N[i]? = some x := by rfl) (hx : Loc X.env.scope x := by first | exact Or.inl rfl | exact Or.inr rfl) (hf : X.fn x = true ∨ X.env.scope.names.lookup x = some .local := by first | exact .inl rfl | exact .inr rfl | assumption) : PG X (.Name x pos) (Tgc Z vs (gN i)) :=
  ⟨fun pins s σ H v u Q I r ⟨D, o, ρ, G, d, K, IR, rp, k, q⟩ => (pg_name hN hi hx hf).run pins s σ H v u Q I r (q _ _ G (LE.refl G) (IR.put (lt_len I hi) rp) (wipe_set hm) k)⟩
def TX (Z : Zone) (w : EW) : TE := fun σ H Q => ∃ D o, T (Z.ext D o) w σ H Q
def TtX (Z : Zone) (w : TW) : TT := fun σ H Q => ∃ D o, Tt (Z.ext D o) w σ H Q
/-- another object, that no slot and no known part speaks of, is changed -/
theorem SR.other {Z : Zone} {ρ : REnv} {G H : Hp} {σ : L2.St} {p : Addr} {o : HO} (I : SR Z ρ G σ H) (gp : G p = none) (ow : ∀ (i : Nat) (m : Bool) (b : Addr) (e : D), ρ[i]? = some (.own m b e) → b ≠ p) (h0 : Z.H0 p = none) (hm : p ∉ Z.mu) : SR Z ρ G σ (upd H p o) := by
  refine ⟨I.len, fun a u e => ?_, fun i s e => ?_, I.inj, I.out, fun a u e hn => ?_, I.frs, I.gnew, I.g0, I.mout, fun a ha => ?_⟩
  · rw [upd_ne (ne_of_none e gp)]; exact I.sub a u e
  · have q := I.slot i s e
    cases s with
    | no => trivial
    | sh d => exact q
    | own m a d => exact ⟨q.1, q.2.heap fun u hu => by rw [upd_ne (ow i m a d e)]; exact hu⟩
  · rw [upd_ne (ne_of_none e h0)]; exact I.ent a u e hn
  · have : a ≠ p := fun h => hm (h ▸ ha)
    rw [upd_ne this]; exact I.mux a ha
theorem restE_own {ρ1 : REnv} : ∀ {vs : List Nat} {ρ : REnv} {i : Nat} {m : Bool} {b : Addr} {e : D}, (restE ρ1 vs ρ)[i]? = some (.own m b e) → ρ[i]? = some (.own m b e)
  | [], _, _, _, _, _, h => h
  | v :: vs, ρ, i, m, b, e, h => by
    unfold restE at h
    have h := restE_own h
    rcases get_set h with ⟨_, h⟩ | ⟨_, h⟩
    · exfalso
      revert h
      split
      · intro h; cases h
      · unfold keepS
        split <;> (intro h; cases h)
    · exact h
theorem wipeE_own : ∀ {vs : List Nat} {ρ : REnv} {i : Nat} {m : Bool} {b : Addr} {e : D}, (wipeE ρ vs)[i]? = some (.own m b e) → ρ[i]? = some (.own m b e)
  | [], _, _, _, _, _, h => h
  | v :: vs, ρ, i, m, b, e, h => by
    unfold wipeE at h
    rcases get_set h with ⟨_, h⟩ | ⟨_, h⟩
    · cases h
    · exact wipeE_own h

theorem T.comp {Z : Zone} {iw : IW} {g : GW} {t : TW} {we : EW} {vs : List Nat} {σ : L2.St} {H : Hp} {Q : VK}
    (h : T Z (eComp iw g t we vs) σ H Q) : tLc (Ti Z iw) (Tgc Z vs g) (TtX Z t) (TX Z we) vs σ H Q := by
  obtain ⟨ρ, G, K, IR, hw, q⟩ := h
  refine ⟨ρ, G, _, IR, hw, fun n f st ρ1 H1 G1 J le1 I1 io ⟨W, w0, stb, turn, fin⟩ Dd hD => ?_⟩
  obtain ⟨h0, hm⟩ := I1.h0 hD
  have gD1 := I1.g hD
  have g0 : Z.G0 Dd = none := by
    cases e : Z.G0 Dd with
    | none => rfl
    | some u => have := I1.g0 _ _ e; rw [gD1] at this; cases this
  refine ⟨fun i m H' => m = n - i ∧ i ≤ n ∧ ∃ acc ρ' G' va, LE G1 G' ∧ SR Z ρ' G' (L2.wipe σ vs) H' ∧ H' Dd = some (.lst va) ∧ Reps Z.cc G' va acc ∧ G' Dd = none ∧ (∀ (i : Nat) (m : Bool) (b : Addr) (e : D), ρ'[i]? = some (.own m b e) → b ≠ Dd) ∧ W i acc ρ',
    ⟨n, by simp, Nat.zero_le _, [], wipeE ρ1 vs, G1, [], LE.refl G1, (I1.newH hD).wipe vs, upd_same, Reps.nil, gD1, fun i m b e h => I1.own_ne (wipeE_own h) hD, w0⟩, ?_⟩
  rintro i m H' ⟨rfl, hin, acc, ρ', G', va, le', I', hDl, rs, gD, ow, w'⟩
  have Ix := I'.ext hDl gD ow hm
  obtain ⟨s1, s2⟩ := io _ _ i ρ' G' (L2.wipe σ vs) H' le' Ix (stb i acc ρ' hin w')
  by_cases hlt : i < n
  · obtain ⟨go, yl⟩ := s2 hlt
    refine .inr ⟨go, fun H2 => ∃ acc ρ' G' va, LE G1 G' ∧ SR Z ρ' G' (L2.wipe σ vs) H2 ∧ H2 Dd = some (.lst va) ∧ Reps Z.cc G' va acc ∧ G' Dd = none ∧ (∀ (i : Nat) (m : Bool) (b : Addr) (e : D), ρ'[i]? = some (.own m b e) → b ≠ Dd) ∧ W (i + 1) acc ρ',
      fun H2 h => ⟨n - (i + 1), by omega, rfl, hlt, h⟩, fun x H2 y => ?_⟩
    obtain ⟨d, G2, fd, le2, I2, rp⟩ := yl x H2 y
    refine ⟨Dd, .lst va, ρ', G2, d, _, I2, rp, turn i d acc ρ' hlt fd w', fun ρ3 σ3 G3 le3 I3 hw3 k3 => ?_⟩
    rw [wipe_wipe] at hw3
    refine ⟨hw3, Dd, .lst va, ρ3, G3, _, I3, k3, fun c ρ4 H4 G4 le4 I4 k4 => ?_⟩
    have l4 := ((le'.trans le2).trans le3).trans le4
    cases c with
    | true =>
      refine iteT ?_
      refine ⟨Dd, .lst va, ρ4, G4, _, I4, k4.1 rfl, fun r ρ5 yv H5 G5 le5 I5 q5 k5 => ?_⟩
      obtain ⟨e, ρ6, G6, le6, I6, rpe, ⟨hl, k6⟩, _⟩ := I5.settle q5 k5
      obtain ⟨J6, hD6, gD6, ow6⟩ := I6.unext h0 g0 hm
      refine ⟨va, hD6, by rw [rs.length]; exact hl, acc ++ [e], wipeE ρ6 vs, G6, va ++ [yv], (l4.trans le5).trans le6, ?_, upd_same, ?_, gD6, fun i m b e h => ow6 i m b e (wipeE_own h), k6⟩
      · have := J6.wipe vs
        rw [hw3] at this
        exact this.other gD6 (fun i m b e h => ow6 i m b e (wipeE_own h)) h0 hm
      · exact (rs.mono ((((le2.trans le3).trans le4).trans le5).trans le6)).append (Reps.cons rpe Reps.nil)
    | false =>
      refine iteF ?_
      obtain ⟨J4, hD4, gD4, ow4⟩ := I4.unext h0 g0 hm
      refine ⟨acc, wipeE ρ4 vs, G4, va, l4, ?_, hD4, rs.mono ((le2.trans le3).trans le4), gD4, fun i m b e h => ow4 i m b e (wipeE_own h), k4.2 rfl⟩
      have := J4.wipe vs
      rw [hw3] at this
      exact this
  · have e : i = n := by omega
    subst e
    refine .inl ⟨s1 (Nat.le_refl _), q (.fr Dd (.lst acc)) (restE ρ1 vs ρ') _ H' G' (le1.trans le') (I1.unwipe le' vs I') ?_ (fin acc ρ' w' Dd)⟩
    exact ⟨rfl, ⟨va, hDl, rs⟩, gD, fun i m b e h => ow i m b e (restE_own h), h0, hm⟩
end
section
variable {X : Cx} {Z : Zone}
theorem de_comp {elt tg iter : Expr} {ifs : List Expr} {scope : Scope} {own : List (Str × Nat)} {pos : Pos} {iw : IW} {g : GW} {t : TW} {we : EW} (hc : X.calm = true) (hN : X.N.Nodup) (hi : PI X tg iter (Ti Z iw)) (ok : BlkOk X.N X.env.scope scope own)
    (hg : ∀ (s : Shared) (H : Hp) (C : Addr) (cl : List (Str × Addr)) (fp : List Addr), PG (X.blk s H scope (compEnvC scope cl C X.env) fp) tg (Tgc Z (own.map (·.2)) g))
    (ht : ∀ (D : Addr) (o : HO) (s : Shared) (H : Hp) (C : Addr) (cl : List (Str × Addr)) (fp : List Addr), PTs (X.blk s H scope (compEnvC scope cl C X.env) fp) ifs (Tt (Z.ext D o) t))
    (he : ∀ (D : Addr) (o : HO) (s : Shared) (H : Hp) (C : Addr) (cl : List (Str × Addr)) (fp : List Addr), PE (X.blk s H scope (compEnvC scope cl C X.env) fp) elt (T (Z.ext D o) we)) (hs : ∀ x, foldedSetIterable iter X.env x = pure x := by intro _; rfl) :
    PE X (.ListComp elt [⟨tg, iter, ifs, 0⟩] scope pos) (T Z (eComp iw g t we (own.map (·.2)))) :=
  ⟨fun pins s σ H Q I h => (pe_lc hc hN hi ok hg (tt := TtX Z t) (te := TX Z we)
    (fun s H C cl fp => ⟨fun pins s' σ H Q I ⟨D, o, h⟩ => (ht D o s _ C cl fp).run pins s' σ H Q I h⟩) (fun s H C cl fp => ⟨fun pins s' σ H Q I ⟨D, o, h⟩ => (he D o s _ C cl fp).run pins s' σ H Q I h⟩) hs).run pins s σ H Q I (T.comp h)⟩
/-- x = [..] on one line -/
theorem ds_setLc {i : Nat} {y : Str} {py : Pos} {elt tg iter : Expr} {ifs : List Expr} {scope : Scope} {own : List (Str × Nat)} {pos spos : Pos} {iw : IW} {g : GW} {t : TW} {we : EW} (hc : X.calm = true) (hN : X.N.Nodup) 
    (hi : PI X tg iter (Ti Z iw)) (ok : BlkOk X.N X.env.scope scope own)
    (hg : ∀ (s : Shared) (H : Hp) (C : Addr) (cl : List (Str × Addr)) (fp : List Addr), PG (X.blk s H scope (compEnvC scope cl C X.env) fp) tg (Tgc Z (own.map (·.2)) g))
    (ht : ∀ (D : Addr) (o : HO) (s : Shared) (H : Hp) (C : Addr) (cl : List (Str × Addr)) (fp : List Addr), PTs (X.blk s H scope (compEnvC scope cl C X.env) fp) ifs (Tt (Z.ext D o) t))
    (he : ∀ (D : Addr) (o : HO) (s : Shared) (H : Hp) (C : Addr) (cl : List (Str × Addr)) (fp : List Addr), PE (X.blk s H scope (compEnvC scope cl C X.env) fp) elt (T (Z.ext D o) we))
    (hsw : swapsWith (.ListComp elt [⟨tg, iter, ifs, 0⟩] scope pos) (some (.Name y py)) spos.line X.env = pure true)
    (hy : X.N[i]? = some y := by rfl) (hyl : X.env.scope.names.lookup y = some .local := by rfl) (hs : ∀ x, foldedSetIterable iter X.env x = pure x := by intro _; rfl) :
    PS X (.Assign [.Name y py] (.ListComp elt [⟨tg, iter, ifs, 0⟩] scope pos) spos) (Ts Z (sSet i (eComp iw g t we (own.map (·.2))))) :=
  ⟨fun pins s σ H D I ⟨ρ, G, K, IR, hw, l⟩ => (ps_setLc hc hN hy hyl hsw hi ok hg (tt := TtX Z t) (te := TX Z we)
    (fun s H C cl fp => ⟨fun pins s' σ H Q I ⟨D, o, h⟩ => (ht D o s _ C cl fp).run pins s' σ H Q I h⟩) (fun s H C cl fp => ⟨fun pins s' σ H Q I ⟨D, o, h⟩ => (he D o s _ C cl fp).run pins s' σ H Q I h⟩) hs).run pins s σ H D I
    (T.comp ⟨ρ, G, _, IR, hw, fun r ρ' v H' G' le I' q k => by
      obtain ⟨ρ2, G2, le2, I2, k2⟩ := I'.place (lt_len I hy) q k
      exact l.nx ρ2 _ H' G2 (le.trans le2) I2 k2⟩)⟩
end
end TL

namespace TL
open PySem PySem.Spec L2

/-! ### a def's promise over trees -/
inductive Arg where
  | ro (d : D) | mu (d : D) | gh (b : Addr) (d : D)
abbrev FSpec := List Arg → (Ro → List D → Prop) → (Nat → D → Prop) → Prop
def ArgsOk (cc : CC) (G0 H : Hp) : List V → List Arg → List Addr → Prop
  | [], [], [] => True
  | v :: vs, .ro d :: r, mus => Rep cc G0 v d ∧ ArgsOk cc G0 H vs r mus
  | v :: vs, .mu d :: r, a :: mus => v = .ref a ∧ G0 a = none ∧ Root cc G0 H a d ∧ a ∉ mus ∧ ArgsOk cc G0 H vs r mus
  | vs, .gh b d :: r, a :: mus => b = a ∧ G0 a = none ∧ Root cc G0 H a d ∧ a ∉ mus ∧ ArgsOk cc G0 H vs r mus
  | _, _, _ => False
def MusOk (cc : CC) (G H : Hp) : List Addr → List D → Prop
  | [], [] => True
  | a :: mus, d :: ds => Root cc G H a d ∧ G a = none ∧ MusOk cc G H mus ds
  | _, _ => False
def ResOk (cc : CC) (G H H' : Hp) (v : V) : Ro → Prop
  | .sh d => Rep cc G v d
  | .fr d => ∃ a, v = .ref a ∧ Root cc G H' a d ∧ G a = none ∧ H a = none
  | .gx as cs t => as.Nodup ∧ as.length = cs.length ∧ Rep cc G v t ∧ ∀ (i : Nat) (a : Addr) (d : D), as[i]? = some a → cs[i]? = some d → Root cc G H' a d ∧ G a = none ∧ H a = none
/-- the classes: of objects, of errors -/
structure Ccs where
  cc : CC
  xc : Nat → Addr
/-- .. of a def that raises nothing -/
def LSp0 (C : Ccs) (sp : FSpec) (np : Nat) : Sp := fun vs H Q _ => vs.length = np ∧ ∃ args G0 mus kr, LE G0 H ∧ ArgsOk C.cc G0 H vs args mus ∧ sp args kr (fun _ _ => False) ∧
  (∀ o ds v H' G', LE G0 G' → LE G' H' → (∀ a u, H a = some u → a ∉ mus → H' a = some u) → (∀ a, G' a ≠ none → G0 a ≠ none ∨ H a = none) → MusOk C.cc G' H' mus ds → ResOk C.cc G' H H' v o → kr o ds → Q v H')

def slotsOf : List Arg → List Addr → REnv
  | [], _ => []
  | .ro d :: r, mus => .sh d :: slotsOf r mus
  | .mu d :: r, a :: mus => .own true a d :: slotsOf r mus
  | .mu _ :: r, [] => .no :: slotsOf r []
  | .gh _ _ :: r, _ :: mus => slotsOf r mus
  | .gh _ _ :: r, [] => slotsOf r []
/-- the ghosts that are handed in to be changed -/
def ghOf : List Arg → List Addr → REnv
  | [], _ => []
  | .ro _ :: r, mus => ghOf r mus
  | .mu _ :: r, _ :: mus => ghOf r mus
  | .mu _ :: r, [] => ghOf r []
  | .gh _ d :: r, a :: mus => .own true a d :: ghOf r mus
  | .gh _ _ :: r, [] => ghOf r []
def valN : List Arg → Nat
  | [] => 0
  | .ro _ :: r => valN r + 1
  | .mu _ :: r => valN r + 1
  | .gh _ _ :: r => valN r
def envOf (args : List Arg) (mus : List Addr) (n : Nat) : REnv := slotsOf args mus ++ (List.replicate (n - valN args) .no ++ ghOf args mus)
/-- the arguments that may be changed, at the end -/
def exMu : List Arg → List Addr → REnv → (List D → Prop) → Prop
  | [], [], _, k => k []
  | .ro _ :: r, mus, _ :: ρ, k => exMu r mus ρ k
  | .mu _ :: r, a :: mus, s :: ρ, k => match s with
    | .own true b d => b = a ∧ exMu r mus ρ fun ds => k (d :: ds)
    | _ => False
  | .gh _ _ :: r, a :: mus, ρ, k => ∃ d, .own true a d ∈ ρ ∧ exMu r mus ρ fun ds => k (d :: ds)
  | _, _, _, _ => False
def resK (r : Rv) (ρ : REnv) (k : Ro → Prop) : Prop := match r with
  | .loc i => match ρ[i]? with
    | some (.sh d) => k (.sh d)
    | some (.own false _ d) => k (.fr d)
    | _ => False
  | .sh d => k (.sh d)
  | .fr _ d => k (.fr d)
  | .gh j _ => match ρ[j]? with
    | some (.own false _ d) => k (.fr d)
    | _ => False
  | .gx as cs t => k (.gx as cs t)
def endK (args : List Arg) (mus : List Addr) (kr : Ro → List D → Prop) (r : Rv) (ρ : REnv) : Prop := resK r ρ fun o => exMu args mus ρ fun ds => kr o ds
def muN : List Arg → Nat
  | [] => 0
  | .ro _ :: r => muN r
  | .mu _ :: r => muN r + 1
  | .gh _ _ :: r => muN r + 1
/-- the body b keeps the promise sp, with n names -/
def Sat (n : Nat) (sp : FSpec) (b : SW) : Prop := ∀ (args : List Arg) (mus : List Addr) (kr : Ro → List D → Prop) (kx : Nat → D → Prop), mus.length = muN args → sp args kr kx →
  b (fun c d _ => kx c d) (envOf args mus n) { nx := endK args mus kr (.sh .non), rt := endK args mus kr }

theorem ArgsOk.muN {cc : CC} {G0 H : Hp} : ∀ {vs : List V} {args : List Arg} {mus : List Addr}, ArgsOk cc G0 H vs args mus → mus.length = TL.muN args
  | [], [], [], _ => rfl
  | v :: vs, .ro d :: r, mus, h => ArgsOk.muN (args := r) h.2
  | v :: vs, .mu d :: r, a :: mus, h => by simp [TL.muN, ArgsOk.muN (args := r) h.2.2.2.2]
  | [], .gh b d :: r, a :: mus, h => by simp [TL.muN, ArgsOk.muN (args := r) h.2.2.2.2]
  | v :: vs, .gh b d :: r, a :: mus, h => by simp [TL.muN, ArgsOk.muN (args := r) h.2.2.2.2]
  | [], .gh _ _ :: _, [], h => by unfold ArgsOk at h; exact h.elim
  | _ :: _, .gh _ _ :: _, [], h => by unfold ArgsOk at h; exact h.elim
  | [], [], _ :: _, h => h.elim
  | [], .ro _ :: _, _, h => by unfold ArgsOk at h; exact h.elim
  | [], .mu _ :: _, _, h => by unfold ArgsOk at h; exact h.elim
  | _ :: _, [], _, h => by unfold ArgsOk at h; exact h.elim
  | _ :: _, .mu _ :: _, [], h => by unfold ArgsOk at h; exact h.elim
theorem slots_len : ∀ (args : List Arg) (mus : List Addr), (slotsOf args mus).length = valN args
  | [], _ => rfl
  | .ro d :: r, mus => by simp [slotsOf, valN, slots_len r mus]
  | .mu d :: r, a :: mus => by simp [slotsOf, valN, slots_len r mus]
  | .mu d :: r, [] => by simp [slotsOf, valN, slots_len r []]
  | .gh b d :: r, a :: mus => by simp [slotsOf, valN, slots_len r mus]
  | .gh b d :: r, [] => by simp [slotsOf, valN, slots_len r []]
theorem ArgsOk.len {cc : CC} {G0 H : Hp} : ∀ {vs : List V} {args : List Arg} {mus : List Addr}, ArgsOk cc G0 H vs args mus → vs.length = valN args
  | [], [], [], _ => rfl
  | v :: vs, .ro d :: r, mus, h => by simp [valN, ArgsOk.len (args := r) h.2]
  | v :: vs, .mu d :: r, a :: mus, h => by simp [valN, ArgsOk.len (args := r) h.2.2.2.2]
  | [], .gh b d :: r, a :: mus, h => by simp [valN, ← ArgsOk.len (args := r) h.2.2.2.2]
  | v :: vs, .gh b d :: r, a :: mus, h => by simp [valN, ← ArgsOk.len (args := r) h.2.2.2.2]
  | [], .gh _ _ :: _, [], h => by unfold ArgsOk at h; exact h.elim
  | _ :: _, .gh _ _ :: _, [], h => by unfold ArgsOk at h; exact h.elim
  | [], [], _ :: _, h => h.elim
  | [], .ro _ :: _, _, h => by unfold ArgsOk at h; exact h.elim
  | [], .mu _ :: _, _, h => by unfold ArgsOk at h; exact h.elim
  | _ :: _, [], _, h => by unfold ArgsOk at h; exact h.elim
  | _ :: _, .mu _ :: _, [], h => by unfold ArgsOk at h; exact h.elim
theorem ArgsOk.slot {cc : CC} {G0 H : Hp} : ∀ {vs : List V} {args : List Arg} {mus : List Addr}, ArgsOk cc G0 H vs args mus → ∀ (i : Nat) (s : Sl), (slotsOf args mus)[i]? = some s →
    ∃ v, vs[i]? = some v ∧ ((∃ d, s = .sh d ∧ Rep cc G0 v d) ∨ ∃ a d, s = .own true a d ∧ v = .ref a ∧ G0 a = none ∧ Root cc G0 H a d ∧ a ∈ mus)
  | [], [], [], _, i, s, e => by simp [slotsOf] at e
  | v :: vs, .ro d :: r, mus, h, 0, s, e => by
    simp [slotsOf] at e; subst e
    exact ⟨v, rfl, .inl ⟨d, rfl, h.1⟩⟩
  | v :: vs, .ro d :: r, mus, h, i + 1, s, e => by
    simp [slotsOf] at e
    obtain ⟨u, e1, e2⟩ := ArgsOk.slot h.2 i s e
    exact ⟨u, by simpa using e1, e2⟩
  | v :: vs, .mu d :: r, a :: mus, h, 0, s, e => by
    simp [slotsOf] at e; subst e
    exact ⟨v, rfl, .inr ⟨a, d, rfl, h.1, h.2.1, h.2.2.1, List.mem_cons_self⟩⟩
  | v :: vs, .mu d :: r, a :: mus, h, i + 1, s, e => by
    simp [slotsOf] at e
    obtain ⟨u, e1, e2⟩ := ArgsOk.slot h.2.2.2.2 i s e
    refine ⟨u, by simpa using e1, ?_⟩
    rcases e2 with q | ⟨b, x, q1, q2, q3, q4, q5⟩
    · exact .inl q
    · exact .inr ⟨b, x, q1, q2, q3, q4, List.mem_cons_of_mem _ q5⟩
  | [], .gh b d :: r, c :: mus, h, i, s, e => by
    obtain ⟨u, e1, e2⟩ := ArgsOk.slot (args := r) h.2.2.2.2 i s e
    simp at e1
  | v :: vs, .gh b d :: r, c :: mus, h, i, s, e => by
    obtain ⟨u, e1, e2⟩ := ArgsOk.slot (args := r) h.2.2.2.2 i s e
    refine ⟨u, e1, ?_⟩
    rcases e2 with q | ⟨b, x, q1, q2, q3, q4, q5⟩
    · exact .inl q
    · exact .inr ⟨b, x, q1, q2, q3, q4, List.mem_cons_of_mem _ q5⟩
  | [], .gh _ _ :: _, [], h, _, _, _ => by unfold ArgsOk at h; exact h.elim
  | _ :: _, .gh _ _ :: _, [], h, _, _, _ => by unfold ArgsOk at h; exact h.elim
  | [], [], _ :: _, h, _, _, _ => h.elim
  | [], .ro _ :: _, _, h, _, _, _ => by unfold ArgsOk at h; exact h.elim
  | [], .mu _ :: _, _, h, _, _, _ => by unfold ArgsOk at h; exact h.elim
  | _ :: _, [], _, h, _, _, _ => by unfold ArgsOk at h; exact h.elim
  | _ :: _, .mu _ :: _, [], h, _, _, _ => by unfold ArgsOk at h; exact h.elim
theorem ArgsOk.inj {cc : CC} {G0 H : Hp} : ∀ {vs : List V} {args : List Arg} {mus : List Addr}, ArgsOk cc G0 H vs args mus → ∀ (i j : Nat) (p q : Bool) (a : Addr) (d : D) (b : Addr) (e : D), (slotsOf args mus)[i]? = some (.own p a d) → (slotsOf args mus)[j]? = some (.own q b e) → i ≠ j → a ≠ b
  | [], [], [], _, i, j, _, _, _, _, _, _, e, _, _ => by simp [slotsOf] at e
  | v :: vs, .ro d :: r, mus, h, 0, _, _, _, _, _, _, _, e, _, _ => by simp [slotsOf] at e
  | v :: vs, .ro d :: r, mus, h, _ + 1, 0, _, _, _, _, _, _, _, e, _ => by simp [slotsOf] at e
  | v :: vs, .ro d :: r, mus, h, i + 1, j + 1, p, q, a, x, b, y, e1, e2, hn => by
    simp [slotsOf] at e1 e2
    exact ArgsOk.inj h.2 i j p q a x b y e1 e2 (by omega)
  | v :: vs, .mu d :: r, c :: mus, h, 0, 0, _, _, _, _, _, _, _, _, hn => absurd rfl hn
  | v :: vs, .mu d :: r, c :: mus, h, 0, j + 1, p, q, a, x, b, y, e1, e2, _ => by
    simp [slotsOf] at e1 e2
    obtain ⟨u, _, hq⟩ := ArgsOk.slot h.2.2.2.2 j _ e2
    rcases hq with ⟨_, hq, _⟩ | ⟨_, _, hq, _, _, _, hm⟩
    · cases hq
    · cases hq
      rintro rfl
      exact h.2.2.2.1 (e1.2.1 ▸ hm)
  | v :: vs, .mu d :: r, c :: mus, h, i + 1, 0, p, q, a, x, b, y, e1, e2, _ => by
    simp [slotsOf] at e1 e2
    obtain ⟨u, _, hq⟩ := ArgsOk.slot h.2.2.2.2 i _ e1
    rcases hq with ⟨_, hq, _⟩ | ⟨_, _, hq, _, _, _, hm⟩
    · cases hq
    · cases hq
      rintro rfl
      exact h.2.2.2.1 (e2.2.1 ▸ hm)
  | v :: vs, .mu d :: r, c :: mus, h, i + 1, j + 1, p, q, a, x, b, y, e1, e2, hn => by
    simp [slotsOf] at e1 e2
    exact ArgsOk.inj h.2.2.2.2 i j p q a x b y e1 e2 (by omega)
  | [], .gh _ _ :: r, c :: mus, h, i, j, p, q, a, x, b, y, e1, e2, hn => ArgsOk.inj (args := r) h.2.2.2.2 i j p q a x b y e1 e2 hn
  | v :: vs, .gh _ _ :: r, c :: mus, h, i, j, p, q, a, x, b, y, e1, e2, hn => ArgsOk.inj (args := r) h.2.2.2.2 i j p q a x b y e1 e2 hn
  | [], .gh _ _ :: _, [], h, _, _, _, _, _, _, _, _, _, _, _ => by unfold ArgsOk at h; exact h.elim
  | _ :: _, .gh _ _ :: _, [], h, _, _, _, _, _, _, _, _, _, _, _ => by unfold ArgsOk at h; exact h.elim
  | [], [], _ :: _, h, _, _, _, _, _, _, _, _, _, _, _ => h.elim
  | [], .ro _ :: _, _, h, _, _, _, _, _, _, _, _, _, _, _ => by unfold ArgsOk at h; exact h.elim
  | [], .mu _ :: _, _, h, _, _, _, _, _, _, _, _, _, _, _ => by unfold ArgsOk at h; exact h.elim
  | _ :: _, [], _, h, _, _, _, _, _, _, _, _, _, _, _ => by unfold ArgsOk at h; exact h.elim
  | _ :: _, .mu _ :: _, [], h, _, _, _, _, _, _, _, _, _, _, _ => by unfold ArgsOk at h; exact h.elim
theorem ArgsOk.mus {cc : CC} {G0 H : Hp} : ∀ {vs : List V} {args : List Arg} {mus : List Addr}, ArgsOk cc G0 H vs args mus → ∀ a ∈ mus, G0 a = none ∧ H a ≠ none
  | [], [], [], _, a, h => by simp at h
  | v :: vs, .ro d :: r, mus, h, a, hm => ArgsOk.mus h.2 a hm
  | v :: vs, .mu d :: r, c :: mus, h, a, hm => by
    rcases List.mem_cons.mp hm with rfl | hm
    · obtain ⟨o, e, _⟩ := h.2.2.1.ob
      exact ⟨h.2.1, by rw [e]; simp⟩
    · exact ArgsOk.mus h.2.2.2.2 a hm
  | [], .gh b d :: r, c :: mus, h, a, hm => by
    rcases List.mem_cons.mp hm with rfl | hm
    · obtain ⟨o, e, _⟩ := h.2.2.1.ob
      exact ⟨h.2.1, by rw [e]; simp⟩
    · exact ArgsOk.mus (args := r) h.2.2.2.2 a hm
  | v :: vs, .gh b d :: r, c :: mus, h, a, hm => by
    rcases List.mem_cons.mp hm with rfl | hm
    · obtain ⟨o, e, _⟩ := h.2.2.1.ob
      exact ⟨h.2.1, by rw [e]; simp⟩
    · exact ArgsOk.mus (args := r) h.2.2.2.2 a hm
  | [], .gh _ _ :: _, [], h, _, _ => by unfold ArgsOk at h; exact h.elim
  | _ :: _, .gh _ _ :: _, [], h, _, _ => by unfold ArgsOk at h; exact h.elim
  | [], [], _ :: _, h, _, _ => h.elim
  | [], .ro _ :: _, _, h, _, _ => by unfold ArgsOk at h; exact h.elim
  | [], .mu _ :: _, _, h, _, _ => by unfold ArgsOk at h; exact h.elim
  | _ :: _, [], _, h, _, _ => by unfold ArgsOk at h; exact h.elim
  | _ :: _, .mu _ :: _, [], h, _, _ => by unfold ArgsOk at h; exact h.elim
theorem ArgsOk.gho {cc : CC} {G0 H : Hp} : ∀ {vs : List V} {args : List Arg} {mus : List Addr}, ArgsOk cc G0 H vs args mus → ∀ (i : Nat) (s : Sl), (ghOf args mus)[i]? = some s →
    ∃ a d, s = .own true a d ∧ G0 a = none ∧ Root cc G0 H a d ∧ a ∈ mus
  | [], [], [], _, i, s, e => by simp [ghOf] at e
  | v :: vs, .ro d :: r, mus, h, i, s, e => ArgsOk.gho (args := r) h.2 i s e
  | v :: vs, .mu d :: r, a :: mus, h, i, s, e => by
    obtain ⟨b, x, q1, q2, q3, q4⟩ := ArgsOk.gho (args := r) h.2.2.2.2 i s e
    exact ⟨b, x, q1, q2, q3, List.mem_cons_of_mem _ q4⟩
  | [], .gh b d :: r, a :: mus, h, 0, s, e => by
    simp [ghOf] at e; subst e
    exact ⟨a, d, rfl, h.2.1, h.2.2.1, List.mem_cons_self⟩
  | v :: vs, .gh b d :: r, a :: mus, h, 0, s, e => by
    simp [ghOf] at e; subst e
    exact ⟨a, d, rfl, h.2.1, h.2.2.1, List.mem_cons_self⟩
  | [], .gh b d :: r, a :: mus, h, i + 1, s, e => by
    obtain ⟨b, x, q1, q2, q3, q4⟩ := ArgsOk.gho (args := r) h.2.2.2.2 i s (by simpa [ghOf] using e)
    exact ⟨b, x, q1, q2, q3, List.mem_cons_of_mem _ q4⟩
  | v :: vs, .gh b d :: r, a :: mus, h, i + 1, s, e => by
    obtain ⟨b, x, q1, q2, q3, q4⟩ := ArgsOk.gho (args := r) h.2.2.2.2 i s (by simpa [ghOf] using e)
    exact ⟨b, x, q1, q2, q3, List.mem_cons_of_mem _ q4⟩
  | [], .gh _ _ :: _, [], h, _, _, _ => by unfold ArgsOk at h; exact h.elim
  | _ :: _, .gh _ _ :: _, [], h, _, _, _ => by unfold ArgsOk at h; exact h.elim
  | [], [], _ :: _, h, _, _, _ => h.elim
  | [], .ro _ :: _, _, h, _, _, _ => by unfold ArgsOk at h; exact h.elim
  | [], .mu _ :: _, _, h, _, _, _ => by unfold ArgsOk at h; exact h.elim
  | _ :: _, [], _, h, _, _, _ => by unfold ArgsOk at h; exact h.elim
  | _ :: _, .mu _ :: _, [], h, _, _, _ => by unfold ArgsOk at h; exact h.elim
theorem ArgsOk.gh_inj {cc : CC} {G0 H : Hp} : ∀ {vs : List V} {args : List Arg} {mus : List Addr}, ArgsOk cc G0 H vs args mus → ∀ (i j : Nat) (p q : Bool) (a : Addr) (d : D) (b : Addr) (e : D), (ghOf args mus)[i]? = some (.own p a d) → (ghOf args mus)[j]? = some (.own q b e) → i ≠ j → a ≠ b
  | [], [], [], _, i, j, _, _, _, _, _, _, e, _, _ => by simp [ghOf] at e
  | v :: vs, .ro d :: r, mus, h, i, j, p, q, a, x, b, y, e1, e2, hn => ArgsOk.gh_inj (args := r) h.2 i j p q a x b y e1 e2 hn
  | v :: vs, .mu d :: r, c :: mus, h, i, j, p, q, a, x, b, y, e1, e2, hn => ArgsOk.gh_inj (args := r) h.2.2.2.2 i j p q a x b y e1 e2 hn
  | vs, .gh z d :: r, c :: mus, h, i, j, p, q, a, x, b, y, e1, e2, hn => by
    have h' : c ∉ mus ∧ ArgsOk cc G0 H vs r mus := by cases vs <;> exact h.2.2.2
    have tl : ∀ {k : Nat} {m : Bool} {t : Addr} {u : D}, (ghOf r mus)[k]? = some (.own m t u) → t ∈ mus := fun {k m t u} e => by
      obtain ⟨_, _, q1, _, _, q4⟩ := h'.2.gho k _ e
      cases q1; exact q4
    cases i with
    | zero =>
      cases j with
      | zero => exact absurd rfl hn
      | succ j =>
        simp [ghOf] at e1 e2
        rintro rfl
        exact h'.1 (e1.2.1 ▸ tl e2)
    | succ i =>
      cases j with
      | zero =>
        simp [ghOf] at e1 e2
        rintro rfl
        exact h'.1 (e2.2.1 ▸ tl e1)
      | succ j =>
        simp [ghOf] at e1 e2
        exact ArgsOk.gh_inj (args := r) h'.2 i j p q a x b y e1 e2 (by omega)
  | [], .gh _ _ :: _, [], h, _, _, _, _, _, _, _, _, _, _, _ => by unfold ArgsOk at h; exact h.elim
  | _ :: _, .gh _ _ :: _, [], h, _, _, _, _, _, _, _, _, _, _, _ => by unfold ArgsOk at h; exact h.elim
  | [], [], _ :: _, h, _, _, _, _, _, _, _, _, _, _, _ => h.elim
  | [], .ro _ :: _, _, h, _, _, _, _, _, _, _, _, _, _, _ => by unfold ArgsOk at h; exact h.elim
  | [], .mu _ :: _, _, h, _, _, _, _, _, _, _, _, _, _, _ => by unfold ArgsOk at h; exact h.elim
  | _ :: _, [], _, h, _, _, _, _, _, _, _, _, _, _, _ => by unfold ArgsOk at h; exact h.elim
  | _ :: _, .mu _ :: _, [], h, _, _, _, _, _, _, _, _, _, _, _ => by unfold ArgsOk at h; exact h.elim
theorem ArgsOk.cross {cc : CC} {G0 H : Hp} : ∀ {vs : List V} {args : List Arg} {mus : List Addr}, ArgsOk cc G0 H vs args mus → ∀ (i j : Nat) (p q : Bool) (a : Addr) (d : D) (b : Addr) (e : D), (slotsOf args mus)[i]? = some (.own p a d) → (ghOf args mus)[j]? = some (.own q b e) → a ≠ b
  | [], [], [], _, i, j, _, _, _, _, _, _, e, _ => by simp [slotsOf] at e
  | v :: vs, .ro d :: r, mus, h, 0, j, p, q, a, x, b, y, e1, e2 => by simp [slotsOf] at e1
  | v :: vs, .ro d :: r, mus, h, i + 1, j, p, q, a, x, b, y, e1, e2 => ArgsOk.cross (args := r) h.2 i j p q a x b y (by simpa [slotsOf] using e1) e2
  | v :: vs, .mu d :: r, c :: mus, h, 0, j, p, q, a, x, b, y, e1, e2 => by
    simp [slotsOf] at e1
    obtain ⟨_, _, q1, _, _, q4⟩ := h.2.2.2.2.gho (args := r) j _ e2
    cases q1
    rintro rfl
    exact h.2.2.2.1 (e1.2.1 ▸ q4)
  | v :: vs, .mu d :: r, c :: mus, h, i + 1, j, p, q, a, x, b, y, e1, e2 => ArgsOk.cross (args := r) h.2.2.2.2 i j p q a x b y (by simpa [slotsOf] using e1) e2
  | vs, .gh z d :: r, c :: mus, h, i, j, p, q, a, x, b, y, e1, e2 => by
    have h' : c ∉ mus ∧ ArgsOk cc G0 H vs r mus := by cases vs <;> exact h.2.2.2
    cases j with
    | zero =>
      simp [ghOf] at e2
      obtain ⟨_, _, hq⟩ := h'.2.slot i _ e1
      rcases hq with ⟨_, hq, _⟩ | ⟨_, _, hq, _, _, _, hm⟩
      · cases hq
      · cases hq
        rintro rfl
        exact h'.1 (e2.2.1 ▸ hm)
    | succ j => exact ArgsOk.cross (args := r) h'.2 i j p q a x b y e1 (by simpa [ghOf] using e2)
  | [], .gh _ _ :: _, [], h, _, _, _, _, _, _, _, _, _, _ => by unfold ArgsOk at h; exact h.elim
  | _ :: _, .gh _ _ :: _, [], h, _, _, _, _, _, _, _, _, _, _ => by unfold ArgsOk at h; exact h.elim
  | [], [], _ :: _, h, _, _, _, _, _, _, _, _, _, _ => h.elim
  | [], .ro _ :: _, _, h, _, _, _, _, _, _, _, _, _, _ => by unfold ArgsOk at h; exact h.elim
  | [], .mu _ :: _, _, h, _, _, _, _, _, _, _, _, _, _ => by unfold ArgsOk at h; exact h.elim
  | _ :: _, [], _, h, _, _, _, _, _, _, _, _, _, _ => by unfold ArgsOk at h; exact h.elim
  | _ :: _, .mu _ :: _, [], h, _, _, _, _, _, _, _, _, _, _ => by unfold ArgsOk at h; exact h.elim
theorem env_get {args : List Arg} {mus : List Addr} {n i : Nat} {s : Sl} (h : (envOf args mus n)[i]? = some s) : s = .no ∨ (slotsOf args mus)[i]? = some s ∨ ∃ k, i = valN args + (n - valN args) + k ∧ (ghOf args mus)[k]? = some s := by
  unfold envOf at h
  have sl := slots_len args mus
  by_cases hi : i < (slotsOf args mus).length
  · rw [List.getElem?_append_left hi] at h; exact .inr (.inl h)
  · rw [List.getElem?_append_right (by omega)] at h
    by_cases hj : i - (slotsOf args mus).length < (List.replicate (n - valN args) Sl.no).length
    · rw [List.getElem?_append_left hj, List.getElem?_replicate] at h
      split at h
      · cases h; exact .inl rfl
      · cases h
    · rw [List.getElem?_append_right (by omega)] at h
      simp only [List.length_replicate] at h hj
      exact .inr (.inr ⟨_, by omega, h⟩)
theorem exMu.done {cc : CC} {G H : Hp} {σ : L2.St} : ∀ {args : List Arg} {mus : List Addr} {ρ : REnv} {k : List D → Prop}, exMu args mus ρ k → (∀ (i : Nat) (m : Bool) (a : Addr) (d : D), ρ[i]? = some (.own m a d) → Root cc G H a d ∧ G a = none) →
    ∃ ds, MusOk cc G H mus ds ∧ k ds
  | [], [], _, k, h, _ => ⟨[], trivial, h⟩
  | .ro _ :: r, mus, _ :: ρ, k, h, q => exMu.done (σ := σ) (args := r) h fun i m a d e => q (i + 1) m a d (by simpa using e)
  | .mu _ :: r, a :: mus, s :: ρ, k, h, q => by
    unfold exMu at h
    split at h
    · rename_i b d
      obtain ⟨rfl, h⟩ := h
      obtain ⟨ds, h1, h2⟩ := exMu.done (σ := σ) (args := r) h fun i m a d e => q (i + 1) m a d (by simpa using e)
      obtain ⟨r1, r2⟩ := q 0 true b d rfl
      exact ⟨d :: ds, ⟨r1, r2, h1⟩, h2⟩
    · exact h.elim
  | .gh _ _ :: r, a :: mus, ρ, k, h, q => by
    unfold exMu at h
    obtain ⟨d, hm, h⟩ := h
    obtain ⟨ds, h1, h2⟩ := exMu.done (σ := σ) (args := r) h q
    obtain ⟨i, hi⟩ := List.getElem?_of_mem hm
    obtain ⟨r1, r2⟩ := q i true a d hi
    exact ⟨d :: ds, ⟨r1, r2, h1⟩, h2⟩
  | .gh _ _ :: _, [], _, _, h, _ => by unfold exMu at h; exact h.elim
  | [], _ :: _, _, _, h, _ => by unfold exMu at h; exact h.elim
  | .ro _ :: _, _, [], _, h, _ => by unfold exMu at h; exact h.elim
  | .mu _ :: _, [], _, _, h, _ => by unfold exMu at h; exact h.elim
  | .mu _ :: _, _ :: _, [], _, h, _ => by unfold exMu at h; exact h.elim

theorem sr_start {C : Ccs} {G0 H : Hp} {vs : List V} {args : List Arg} {mus : List Addr} {N : List Str} {xk : Xk} (h : ArgsOk C.cc G0 H vs args mus) (le : LE G0 H) (hl : vs.length ≤ N.length) :
    SR ⟨C.cc, H, G0, mus, xk, N.length⟩ (envOf args mus N.length) G0 (L2.start N vs) H := by
  have len := h.len
  refine ⟨?_, le, fun i s e => ?_, fun i j p q a d b e h1 h2 hn => ?_, fun i p a d e => ?_, fun _ _ e _ => e, fun i p a d e => ?_, fun _ h => .inl h, LE.refl _, fun a ha => (h.mus a ha).1, fun a ha => (h.mus a ha).2⟩
  · show (vs.map some ++ List.replicate (N.length - vs.length) none).length = N.length ∧ N.length ≤ (slotsOf args mus ++ (List.replicate (N.length - valN args) Sl.no ++ ghOf args mus)).length
    simp only [List.length_append, slots_len, List.length_replicate, List.length_map]
    omega
  · rcases env_get e with rfl | e | ⟨k, hk, e⟩
    · trivial
    · obtain ⟨v, hv, q⟩ := h.slot i s e
      have hst : (L2.start N vs)[i]? = some (some v) := by
        unfold L2.start
        have hi : i < vs.length := (List.getElem?_eq_some_iff.mp hv).1
        rw [List.getElem?_append_left (by simpa using hi), List.getElem?_map, hv]
        rfl
      rcases q with ⟨d, rfl, r⟩ | ⟨a, d, rfl, rfl, _, r, _⟩
      · exact ⟨v, hst, r⟩
      · exact ⟨.inl hst, r⟩
    · obtain ⟨a, d, rfl, _, r, _⟩ := h.gho k s e
      refine ⟨.inr ?_, r⟩
      show (vs.map some ++ List.replicate (N.length - vs.length) none).length ≤ i
      simp only [List.length_append, List.length_replicate, List.length_map]
      omega
  · rcases env_get h1 with h1 | h1 | ⟨k1, i1, h1⟩
    · cases h1
    · rcases env_get h2 with h2 | h2 | ⟨k2, i2, h2⟩
      · cases h2
      · exact h.inj i j p q a d b e h1 h2 hn
      · exact h.cross i k2 p q a d b e h1 h2
    · rcases env_get h2 with h2 | h2 | ⟨k2, i2, h2⟩
      · cases h2
      · exact (h.cross j k1 q p b e a d h2 h1).symm
      · exact h.gh_inj k1 k2 p q a d b e h1 h2 (by omega)
  · rcases env_get e with e | e | ⟨k, hk, e⟩
    · cases e
    · obtain ⟨v, hv, q⟩ := h.slot i _ e
      rcases q with ⟨_, q, _⟩ | ⟨_, _, q, _, g, _⟩
      · cases q
      · cases q; exact g
    · obtain ⟨_, _, q, g, _⟩ := h.gho k _ e
      cases q; exact g
  · rcases env_get e with e | e | ⟨k, hk, e⟩
    · cases e
    · obtain ⟨v, hv, q⟩ := h.slot i _ e
      rcases q with ⟨_, q, _⟩ | ⟨_, _, q, _, _, _, m⟩
      · cases q
      · cases q; exact m
    · obtain ⟨_, _, q, _, _, m⟩ := h.gho k _ e
      cases q; exact m

section
variable {P : Program} {w : World} {K : PySem.W.Frag} {mg : Str → Option Value} {base : Heap}
theorem resK.done {Z : Zone} {ρ : REnv} {G H : Hp} {σ : L2.St} {r : Rv} {v : V} {k : Ro → Prop} (I : SR Z ρ G σ H) (q : RvOk Z r ρ G σ H v) (h : resK r ρ k) : ∃ o, ResOk Z.cc G Z.H0 H v o ∧ k o := by
  cases r with
  | sh d => exact ⟨.sh d, q, h⟩
  | fr a d => exact ⟨.fr d, ⟨a, q.1, q.2.1, q.2.2.1, q.2.2.2.2.1⟩, h⟩
  | loc i =>
    obtain ⟨ev, hb⟩ := q
    unfold resK at h
    cases hs : ρ[i]? with
    | none => simp only [hs] at h
    | some s =>
      simp only [hs] at h
      have so := I.slot i s hs
      cases s with
      | no => exact h.elim
      | sh d =>
        obtain ⟨u, eu, r⟩ := so
        rw [ev] at eu; cases eu
        exact ⟨.sh d, r, h⟩
      | own m a d =>
        cases m with
        | true => exact h.elim
        | false =>
          obtain ⟨eu, r⟩ := so
          cases own_in ev eu
          exact ⟨.fr d, ⟨a, rfl, r, I.out i _ a d hs, (I.frs i false a d hs).1⟩, h⟩
  | gh j a =>
    obtain ⟨rfl, m, d, hs⟩ := q
    unfold resK at h
    simp only [hs] at h
    cases m with
    | true => exact h.elim
    | false => exact ⟨.fr d, ⟨a, rfl, (I.slot j _ hs).2, I.out j _ a d hs, (I.frs j false a d hs).1⟩, h⟩
  | gx as cs t =>
    obtain ⟨h1, h2, h4, h5⟩ := q
    exact ⟨.gx as cs t, ⟨h1, h2, h4, fun i a d e1 e2 => ⟨(h5 i a d e1 e2).1, (h5 i a d e1 e2).2.1, (h5 i a d e1 e2).2.2.2.1⟩⟩, h⟩
/-- THE RULE: a def that raises nothing, by its body over trees -/
theorem fn_ok {C : Ccs} {x qual : Str} {st : Stmt} {f : Addr} {fd : FuncData} {N ps : List Str} {k : Nat} {sp : FSpec} {b : SW} (F : Fun K x qual st f fd) (S : FnScope N ps (defScope st)) (hb : Sat N.length sp b) (hn : ps.length ≤ N.length)
    (hbody : ∀ (cdv : Value) (A : Around) (outer : List Env) (s : Shared) (H : Hp) (E : XK) (Z : Zone), Z.cc = C.cc → Z.xk = xk0 → Room k (A.deeper (PyProof.Rows.envOfC qual (defScope st) s.heap.objs.size f cdv)) →
      PSs (cxOf CX0 P w K mg base N qual (defScope st) f cdv A outer s H E).nox (defBody st) (Ts Z b)) : FnOk P w K mg base CX0 (k + 1) f fd ps (LSp0 C sp ps.length) := by
  refine F.ok S (fun vs H Q E h => h.1) fun cdv A outer s H vs Q E hr h => ?_
  obtain ⟨hl, args, G0, mus, kr, le, ao, hsp, ret⟩ := h
  refine ⟨_, hbody cdv A outer s H E ⟨C.cc, H, G0, mus, xk0, N.length⟩ rfl rfl hr, envOf args mus N.length, G0, _, sr_start ao le (by omega), hb args mus kr _ ao.muN hsp, ?_⟩
  have fin : ∀ {r : Rv} {ρ' : REnv} {v : V} {σ' : L2.St} {H' G' : Hp}, LE G0 G' → SR ⟨C.cc, H, G0, mus, xk0, N.length⟩ ρ' G' σ' H' → RvOk ⟨C.cc, H, G0, mus, xk0, N.length⟩ r ρ' G' σ' H' v → endK args mus kr r ρ' → Q v H' := fun {r ρ' v σ' H' G'} le' I q e => by
    obtain ⟨o, hro, e⟩ := resK.done I q e
    obtain ⟨ds, hm, e⟩ := exMu.done (σ := σ') e fun i m a d hs => ⟨(I.slot i _ hs).2, I.out i m a d hs⟩
    exact ret o ds v H' G' le' I.sub I.ent I.gnew hm hro e
  exact ⟨fun ρ' σ' H' G' le' I e => fin le' I (rv_sh rep_non) e, fun r ρ' v σ' H' G' le' I q e => fin le' I q e, fun _ _ _ _ _ _ h => h.elim, fun _ _ _ _ _ _ h => h.elim⟩
end
end TL

namespace TL
open PySem PySem.Spec L2

mutual
def noLst : D → Bool
  | .tup ds => noLsts ds
  | .lst _ => false
  | .obj _ _ => false
  | .dct _ _ => false
  | .dic _ _ => false
  | .ptr _ => false
  | _ => true
def noLsts : List D → Bool
  | [] => true
  | d :: ds => noLst d && noLsts ds
end
def chFlat : D → Bool
  | .lst ds => noLsts ds
  | .obj _ ds => noLsts ds
  | .dic _ ds => noLsts ds
  | _ => true
def flatRo : Ro → Bool
  | .sh d => noLst d
  | .fr d => chFlat d
  | .gx _ _ _ => false
mutual
theorem Rep.strip {cc : CC} {G G2 : Hp} (h : ∀ a vs, G a = some (.tup vs) → G2 a = some (.tup vs)) : ∀ {d : D} {v : V}, noLst d = true → Rep cc G v d → Rep cc G2 v d
  | .non, _, _, r => by unfold Rep at r ⊢; exact r
  | .bl _, _, _, r => by unfold Rep at r ⊢; exact r
  | .int _, _, _, r => by unfold Rep at r ⊢; exact r
  | .str _, _, _, r => by unfold Rep at r ⊢; exact r
  | .tup ds, _, n, r => by
    unfold Rep at r ⊢
    unfold noLst at n
    obtain ⟨a, vs, e, g, q⟩ := r
    exact ⟨a, vs, e, h _ _ g, Reps.strip h n q⟩
  | .lst ds, _, n, r => by simp [noLst] at n
  | .obj c ds, _, n, r => by simp [noLst] at n
  | .dct _ _, _, n, r => by simp [noLst] at n
  | .ptr _, _, n, r => by simp [noLst] at n
  | .dic _ _, _, n, r => by simp [noLst] at n
theorem Reps.strip {cc : CC} {G G2 : Hp} (h : ∀ a vs, G a = some (.tup vs) → G2 a = some (.tup vs)) : ∀ {ds : List D} {vs : List V}, noLsts ds = true → Reps cc G vs ds → Reps cc G2 vs ds
  | [], _, _, r => by unfold Reps at r ⊢; exact r
  | d :: ds, _, n, r => by
    unfold Reps at r ⊢
    unfold noLsts at n
    rw [Bool.and_eq_true] at n
    obtain ⟨v, q, e, a, b⟩ := r
    exact ⟨v, q, e, Rep.strip h n.1 a, Reps.strip h n.2 b⟩
end
theorem Root.strip {cc : CC} {G G2 H : Hp} {a : Addr} {d : D} (h : ∀ a vs, G a = some (.tup vs) → G2 a = some (.tup vs)) (n : chFlat d = true) (r : Root cc G H a d) : Root cc G2 H a d := by
  cases d <;> try exact r
  · obtain ⟨vs, e, q⟩ := r; exact ⟨vs, e, q.strip h n⟩
  · obtain ⟨dx, vs, e, l, q⟩ := r; exact ⟨dx, vs, e, l, q.strip h n⟩
  · obtain ⟨vs, e, q⟩ := r; exact ⟨vs, e, q.strip h n⟩

/-! ### the arguments of a call -/
inductive Ag where
  | ro (d : D) | bo (i : Nat) | mu (i : Nat) | tm (a : Addr) (d : D) | bg (j : Nat) (a : Addr) | mg (j : Nat) (a : Addr) | gg (j : Nat) | bd (js : List Nat) (d : D)
abbrev AgW := Xk → REnv → (List Ag → REnv → Prop) → Prop
def AgOk (Z : Zone) (ρ : REnv) (G : Hp) (σ : L2.St) (H : Hp) (v : V) : Ag → Prop
  | .ro d => Rep Z.cc G v d
  | .bo i => σ[i]? = some (some v)
  | .mu i => σ[i]? = some (some v)
  | .tm a d => RvOk Z (.fr a d) ρ G σ H v
  | .bg _ a => v = .ref a
  | .mg _ a => v = .ref a
  | .gg _ => False
  | .bd _ d => Rep Z.cc G v d
def AgsOk (Z : Zone) (ρ : REnv) (G : Hp) (σ : L2.St) (H : Hp) : List V → List Ag → Prop
  | [], [] => True
  | v :: vs, g :: gs => AgOk Z ρ G σ H v g ∧ AgsOk Z ρ G σ H vs gs
  | _, _ => False
/-- .. with ghosts behind them -/
def AgsX (Z : Zone) (ρ : REnv) (G : Hp) (σ : L2.St) (H : Hp) : List V → List Ag → Prop
  | [], [] => True
  | [], .gg _ :: gs => AgsX Z ρ G σ H [] gs
  | v :: vs, g :: gs => AgOk Z ρ G σ H v g ∧ AgsX Z ρ G σ H vs gs
  | _, _ => False
theorem AgsOk.x {Z : Zone} {ρ : REnv} {G : Hp} {σ : L2.St} {H : Hp} {js : List Nat} : ∀ {vs : List V} {gs : List Ag}, AgsOk Z ρ G σ H vs gs → AgsX Z ρ G σ H vs (gs ++ js.map .gg)
  | [], [], _ => by
    induction js with
    | nil => trivial
    | cons j js ih => exact ih
  | v :: vs, g :: gs, h => ⟨h.1, AgsOk.x (vs := vs) h.2⟩
  | [], _ :: _, h => h.elim
  | _ :: _, [], h => h.elim
theorem AgsOk.x0 {Z : Zone} {ρ : REnv} {G : Hp} {σ : L2.St} {H : Hp} {vs : List V} {gs : List Ag} (h : AgsOk Z ρ G σ H vs gs) : AgsX Z ρ G σ H vs gs := by
  have := h.x (js := [])
  simpa using this
def Tag (Z : Zone) (w : AgW) : TA := fun σ H Q => ∃ ρ G K, SR Z ρ G σ H ∧ w Z.xk ρ K ∧
  ∀ gs ρ' vs H' G', LE G G' → SR Z ρ' G' σ H' → AgsOk Z ρ' G' σ H' vs gs → K gs ρ' → Q vs H'
def isOwn (ρ : REnv) (i : Nat) : Prop := match ρ[i]? with | some (.own _ _ _) => True | _ => False
def noTm : List Ag → Bool
  | [] => true
  | .tm _ _ :: _ => false
  | _ :: r => noTm r
def agNil : AgW := fun _ ρ K => K [] ρ
def agRo (w : EW) (r : AgW) : AgW := fun xk ρ K => w xk ρ fun v ρ1 => stl v ρ1 fun d ρ2 => r xk ρ2 fun gs ρ3 => K (.ro d :: gs) ρ3
def agBo (i : Nat) (r : AgW) : AgW := fun xk ρ K => isOwn ρ i ∧ r xk ρ fun gs ρ3 => K (.bo i :: gs) ρ3
def agMu (i : Nat) (r : AgW) : AgW := fun xk ρ K => isOwn ρ i ∧ r xk ρ fun gs ρ3 => K (.mu i :: gs) ρ3
/-- a value as it may be stored -/
def pvw (v : Rv) (ρ : REnv) (K : D → Prop) : Prop := match v with
  | .sh d => K d
  | .gh _ a => K (.ptr a)
  | .loc i => match ρ[i]? with
    | some (.sh d) => K d
    | some (.own _ a _) => K (.ptr a)
    | _ => False
  | _ => False
/-- a value with all the roots at some places, lent -/
def agBd (w : EW) (r : AgW) : AgW := fun xk ρ K => w xk ρ fun v ρ1 => pvw v ρ1 fun d => r xk ρ1 fun gs ρ3 => ∃ js, K (.bd js d :: gs) ρ3
/-- a ghost, lent; handed in to be changed -/
def agBg (w : EW) (r : AgW) : AgW := fun xk ρ K => w xk ρ fun v ρ1 => match v with
  | .gh j a => r xk ρ1 fun gs ρ3 => K (.bg j a :: gs) ρ3
  | _ => False
def agMg (w : EW) (r : AgW) : AgW := fun xk ρ K => w xk ρ fun v ρ1 => match v with
  | .gh j a => r xk ρ1 fun gs ρ3 => K (.mg j a :: gs) ρ3
  | _ => False
def agTm (w : EW) (r : AgW) : AgW := fun xk ρ K => w xk ρ fun v ρ1 => match v with
  | .fr a d => r xk0 ρ1 fun gs ρ3 => noTm gs = true ∧ K (.tm a d :: gs) ρ3
  | _ => False
section
variable {X : Cx} {Z : Zone} {e : Expr} {es : List Expr} {w : EW} {r : AgW}
theorem dag_nil : PA X [] (Tag Z agNil) := ⟨fun pos pins s σ H Q I ⟨ρ, G, K, IR, hw, q⟩ => pa_nil.run pos pins s σ H Q I (q [] ρ [] H G (LE.refl G) IR trivial hw)⟩
theorem isOwn_get {ρ : REnv} {G H : Hp} {σ : L2.St} (I : SR Z ρ G σ H) {i : Nat} (hi : i < σ.length) (h : isOwn ρ i) : ∃ v, σ[i]? = some (some v) := by
  unfold isOwn at h
  cases hs : ρ[i]? with
  | none => rw [hs] at h; exact h.elim
  | some s =>
    cases s with
    | no => rw [hs] at h; exact h.elim
    | sh d => rw [hs] at h; exact h.elim
    | own m a d => exact ⟨_, own_at hi (I.slot i _ hs).1⟩
theorem dag_ro (ha : PE X e (T Z w)) (hr : PA X es (Tag Z r)) (hs : starEach (e :: es) X.env = (false, eval e X.env) :: starEach es X.env := by rfl) : PA X (e :: es) (Tag Z (agRo w r)) :=
  ⟨fun pos pins s σ H Q I ⟨ρ, G, K, IR, hw, q⟩ => (pa_cons ha hr hs).run pos pins s σ H Q I ⟨ρ, G, _, IR, hw, fun rv ρ1 v H1 G1 le1 I1 q1 k1 => by
    obtain ⟨d, ρ2, G2, le2, I2, rp, k2, _⟩ := I1.settle q1 k1
    exact ⟨ρ2, G2, _, I2, k2, fun gs ρ3 vs H3 G3 le3 I3 rs k3 => q (.ro d :: gs) ρ3 (v :: vs) H3 G3 ((le1.trans le2).trans le3) I3 ⟨(rp.mono le3 : Rep _ _ _ _), rs⟩ k3⟩⟩⟩
theorem dag_bo {i : Nat} {x : Str} {pos : Pos} (hr : PA X es (Tag Z r)) (hN : X.N[i]? = some x := by rfl) (hv : Vis X.env.scope x := by first | exact Or.inl rfl | exact Or.inr (Or.inl rfl) | exact Or.inr (Or.inr rfl)) (hd : (x == ("__debug__" : Str)) = false := by decide)
    (hcd : (x == ("__classdict__" : Str)) = false := by decide) (hs : starEach (.Name x pos :: es) X.env = (false, eval (.Name x pos) X.env) :: starEach es X.env := by rfl) : PA X (.Name x pos :: es) (Tag Z (agBo i r)) :=
  ⟨fun pos pins s σ H Q I ⟨ρ, G, K, IR, ⟨ho, hw⟩, q⟩ => (pa_cons (pv i hN hv hd hcd) hr hs).run pos pins s σ H Q I (by
    obtain ⟨v, ev⟩ := isOwn_get IR (lt_len I hN) ho
    exact ⟨v, ev, ρ, G, _, IR, hw, fun gs ρ3 vs H3 G3 le3 I3 rs k3 => q (.bo i :: gs) ρ3 (v :: vs) H3 G3 le3 I3 ⟨ev, rs⟩ k3⟩)⟩
theorem dag_mu {i : Nat} {x : Str} {pos : Pos} (hr : PA X es (Tag Z r)) (hN : X.N[i]? = some x := by rfl) (hv : Vis X.env.scope x := by first | exact Or.inl rfl | exact Or.inr (Or.inl rfl) | exact Or.inr (Or.inr rfl)) (hd : (x == ("__debug__" : Str)) = false := by decide)
    (hcd : (x == ("__classdict__" : Str)) = false := by decide) (hs : starEach (.Name x pos :: es) X.env = (false, eval (.Name x pos) X.env) :: starEach es X.env := by rfl) : PA X (.Name x pos :: es) (Tag Z (agMu i r)) :=
  ⟨fun pos pins s σ H Q I ⟨ρ, G, K, IR, ⟨ho, hw⟩, q⟩ => (pa_cons (pv i hN hv hd hcd) hr hs).run pos pins s σ H Q I (by
    obtain ⟨v, ev⟩ := isOwn_get IR (lt_len I hN) ho
    exact ⟨v, ev, ρ, G, _, IR, hw, fun gs ρ3 vs H3 G3 le3 I3 rs k3 => q (.mu i :: gs) ρ3 (v :: vs) H3 G3 le3 I3 ⟨ev, rs⟩ k3⟩)⟩
theorem dag_bg {w : EW} (ha : PE X e (T Z w)) (hr : PA X es (Tag Z r)) (hs : starEach (e :: es) X.env = (false, eval e X.env) :: starEach es X.env := by rfl) : PA X (e :: es) (Tag Z (agBg w r)) :=
  ⟨fun pos pins s σ H Q I ⟨ρ, G, K, IR, hw, q⟩ => (pa_cons ha hr hs).run pos pins s σ H Q I ⟨ρ, G, _, IR, hw, fun rv ρ1 v H1 G1 le1 I1 q1 k1 => by
    cases rv <;> try exact k1.elim
    exact ⟨ρ1, G1, _, I1, k1, fun gs ρ3 vs H3 G3 le3 I3 rs k3 => q (.bg _ _ :: gs) ρ3 (v :: vs) H3 G3 (le1.trans le3) I3 ⟨q1.1, rs⟩ k3⟩⟩⟩
theorem AgsOk.unext {D : Addr} {o : HO} {ρ : REnv} {G H : Hp} {σ : L2.St} : ∀ {vs : List V} {gs : List Ag}, noTm gs = true → AgsOk (Z.ext D o) ρ G σ H vs gs → AgsOk Z ρ G σ H vs gs
  | [], [], _, _ => trivial
  | v :: vs, .ro d :: gs, n, h => ⟨h.1, AgsOk.unext (gs := gs) (by simpa [noTm] using n) h.2⟩
  | v :: vs, .bo d :: gs, n, h => ⟨h.1, AgsOk.unext (gs := gs) (by simpa [noTm] using n) h.2⟩
  | v :: vs, .mu d :: gs, n, h => ⟨h.1, AgsOk.unext (gs := gs) (by simpa [noTm] using n) h.2⟩
  | v :: vs, .bg _ _ :: gs, n, h => ⟨h.1, AgsOk.unext (gs := gs) (by simpa [noTm] using n) h.2⟩
  | v :: vs, .mg _ _ :: gs, n, h => ⟨h.1, AgsOk.unext (gs := gs) (by simpa [noTm] using n) h.2⟩
  | v :: vs, .gg _ :: gs, n, h => h.1.elim
  | v :: vs, .bd _ _ :: gs, n, h => ⟨h.1, AgsOk.unext (gs := gs) (by simpa [noTm] using n) h.2⟩
  | v :: vs, .tm _ _ :: gs, n, h => by simp [noTm] at n
  | [], _ :: _, _, h => h.elim
  | _ :: _, [], _, h => h.elim
end

/-! ### a call -/
def pk (ρ : REnv) : List Nat → List (Addr × D)
  | [] => []
  | j :: js => match ρ[j]? with
    | some (.own _ a d) => (a, d) :: pk ρ js
    | _ => pk ρ js
theorem pk_mem {ρ : REnv} {a : Addr} {d : D} : ∀ {js : List Nat}, (a, d) ∈ pk ρ js → ∃ j m, j ∈ js ∧ ρ[j]? = some (.own m a d)
  | j :: js, h => by
    unfold pk at h
    split at h
    · rename_i m b e hs
      rcases List.mem_cons.mp h with h | h
      · cases h; exact ⟨j, m, List.mem_cons_self, hs⟩
      · obtain ⟨i, m, h1, h2⟩ := pk_mem h; exact ⟨i, m, List.mem_cons_of_mem _ h1, h2⟩
    · obtain ⟨i, m, h1, h2⟩ := pk_mem h; exact ⟨i, m, List.mem_cons_of_mem _ h1, h2⟩
def argsK : List Ag → REnv → (List Arg → Prop) → Prop
  | [], _, k => k []
  | .ro d :: r, ρ, k => argsK r ρ fun as => k (.ro d :: as)
  | .bo i :: r, ρ, k => match ρ[i]? with | some (.own _ _ d) => argsK r ρ fun as => k (.ro d :: as) | _ => False
  | .mu i :: r, ρ, k => match ρ[i]? with | some (.own _ _ d) => argsK r ρ fun as => k (.mu d :: as) | _ => False
  | .tm _ d :: r, ρ, k => argsK r ρ fun as => k (.mu d :: as)
  | .bg j a :: r, ρ, k => match ρ[j]? with | some (.own _ b d) => b = a ∧ argsK r ρ fun as => k (.ro d :: as) | _ => False
  | .mg j a :: r, ρ, k => match ρ[j]? with | some (.own _ b d) => b = a ∧ argsK r ρ fun as => k (.mu d :: as) | _ => False
  | .gg j :: r, ρ, k => match ρ[j]? with | some (.own _ b d) => argsK r ρ fun as => k (.gh b d :: as) | _ => False
  | .bd js d :: r, ρ, k => ∃ e, Vw (pk ρ js) d e ∧ argsK r ρ fun as => k (.ro e :: as)
def reown (ρ : REnv) (i : Nat) (d : D) : Sl := match ρ[i]? with | some (.own m a _) => .own m a d | _ => .no
def upE : List Ag → List D → REnv → REnv
  | [], _, ρ => ρ
  | .mu i :: r, d :: ds, ρ => (upE r ds ρ).set i (reown ρ i d)
  | .mu _ :: _, [], ρ => ρ
  | .tm _ _ :: r, _ :: ds, ρ => upE r ds ρ
  | .tm _ _ :: _, [], ρ => ρ
  | .ro _ :: r, ds, ρ => upE r ds ρ
  | .bo _ :: r, ds, ρ => upE r ds ρ
  | .bg _ _ :: r, ds, ρ => upE r ds ρ
  | .mg i _ :: r, d :: ds, ρ => (upE r ds ρ).set i (reown ρ i d)
  | .mg _ _ :: _, [], ρ => ρ
  | .gg i :: r, d :: ds, ρ => (upE r ds ρ).set i (reown ρ i d)
  | .gg _ :: _, [], ρ => ρ
  | .bd _ _ :: r, ds, ρ => upE r ds ρ
def boIx : List Ag → List Nat
  | [] => []
  | .bo i :: r => i :: boIx r
  | .ro _ :: r => boIx r
  | .mu _ :: r => boIx r
  | .tm _ _ :: r => boIx r
  | .bg i _ :: r => i :: boIx r
  | .mg _ _ :: r => boIx r
  | .gg _ :: r => boIx r
  | .bd js _ :: r => js ++ boIx r
def muIx : List Ag → List Nat
  | [] => []
  | .mu i :: r => i :: muIx r
  | .ro _ :: r => muIx r
  | .bo _ :: r => muIx r
  | .tm _ _ :: r => muIx r
  | .bg _ _ :: r => muIx r
  | .mg i _ :: r => i :: muIx r
  | .gg i :: r => i :: muIx r
  | .bd _ _ :: r => muIx r
def tms : List Ag → Nat
  | [] => 0
  | .tm _ _ :: r => tms r + 1
  | .ro _ :: r => tms r
  | .bo _ :: r => tms r
  | .mu _ :: r => tms r
  | .bg _ _ :: r => tms r
  | .mg _ _ :: r => tms r
  | .gg _ :: r => tms r
  | .bd _ _ :: r => tms r
def hasBo : List Ag → Bool
  | [] => false
  | .bo _ :: _ => true
  | .ro _ :: r => hasBo r
  | .mu _ :: r => hasBo r
  | .tm _ _ :: r => hasBo r
  | .bg _ _ :: _ => true
  | .mg _ _ :: r => hasBo r
  | .gg _ :: r => hasBo r
  | .bd _ _ :: _ => true
def noLstAll : List D → Bool
  | [] => true
  | d :: r => chFlat d && noLstAll r
def callK (sp : FSpec) (gs : List Ag) (ρ : REnv) (xk : Xk) (K : Rv → REnv → Prop) : Prop := (boIx gs ++ muIx gs).Nodup ∧ tms gs ≤ 1 ∧
  argsK gs ρ fun args => sp args (fun o ds => (hasBo gs = true → flatRo o = true ∧ noLstAll ds = true) ∧ out o (upE gs ds ρ) K) (fun c d => xk c d ρ)

def boA : List Ag → REnv → List Addr
  | [], _ => []
  | .bo i :: r, ρ => match ρ[i]? with | some (.own _ a _) => a :: boA r ρ | _ => boA r ρ
  | .ro _ :: r, ρ => boA r ρ
  | .mu _ :: r, ρ => boA r ρ
  | .tm _ _ :: r, ρ => boA r ρ
  | .bg i _ :: r, ρ => match ρ[i]? with | some (.own _ a _) => a :: boA r ρ | _ => boA r ρ
  | .mg _ _ :: r, ρ => boA r ρ
  | .gg _ :: r, ρ => boA r ρ
  | .bd js _ :: r, ρ => (pk ρ js).map (·.1) ++ boA r ρ
def muA : List Ag → REnv → List Addr
  | [], _ => []
  | .mu i :: r, ρ => match ρ[i]? with | some (.own _ a _) => a :: muA r ρ | _ => muA r ρ
  | .tm a _ :: r, ρ => a :: muA r ρ
  | .ro _ :: r, ρ => muA r ρ
  | .bo _ :: r, ρ => muA r ρ
  | .bg _ _ :: r, ρ => muA r ρ
  | .mg i _ :: r, ρ => match ρ[i]? with | some (.own _ a _) => a :: muA r ρ | _ => muA r ρ
  | .gg i :: r, ρ => match ρ[i]? with | some (.own _ a _) => a :: muA r ρ | _ => muA r ρ
  | .bd _ _ :: r, ρ => muA r ρ
section
variable {Z : Zone} {ρ : REnv} {G H : Hp} {σ : L2.St}
theorem boA_own : ∀ {gs : List Ag} {a : Addr}, a ∈ boA gs ρ → ∃ (i : Nat) (m : Bool) (d : D), i ∈ boIx gs ∧ ρ[i]? = some (.own m a d)
  | .bo i :: r, a, h => by
    unfold boA at h
    split at h
    · rename_i m b d hs
      rcases List.mem_cons.mp h with rfl | h
      · exact ⟨i, m, d, by simp [boIx], hs⟩
      · obtain ⟨j, m, d, h1, h2⟩ := boA_own h; exact ⟨j, m, d, by simp [boIx, h1], h2⟩
    · obtain ⟨j, m, d, h1, h2⟩ := boA_own h; exact ⟨j, m, d, by simp [boIx, h1], h2⟩
  | .bg i _ :: r, a, h => by
    unfold boA at h
    split at h
    · rename_i m b d hs
      rcases List.mem_cons.mp h with rfl | h
      · exact ⟨i, m, d, by simp [boIx], hs⟩
      · obtain ⟨j, m, d, h1, h2⟩ := boA_own h; exact ⟨j, m, d, by simp [boIx, h1], h2⟩
    · obtain ⟨j, m, d, h1, h2⟩ := boA_own h; exact ⟨j, m, d, by simp [boIx, h1], h2⟩
  | .mg _ _ :: r, a, h => boA_own (gs := r) h
  | .gg _ :: r, a, h => boA_own (gs := r) h
  | .bd js _ :: r, a, h => by
    rcases List.mem_append.mp h with h | h
    · obtain ⟨p, hp, rfl⟩ := List.mem_map.mp h
      obtain ⟨j, m, h1, h2⟩ := pk_mem (a := p.1) (d := p.2) hp
      exact ⟨j, m, p.2, by simp [boIx, h1], h2⟩
    · obtain ⟨j, m, d, h1, h2⟩ := boA_own (gs := r) h
      exact ⟨j, m, d, by simp [boIx, h1], h2⟩
  | .ro _ :: r, a, h => boA_own (gs := r) h
  | .mu _ :: r, a, h => boA_own (gs := r) h
  | .tm _ _ :: r, a, h => boA_own (gs := r) h
  | [], a, h => by simp [boA] at h
theorem hasBo_nil : ∀ {gs : List Ag}, hasBo gs = false → boA gs ρ = []
  | [], _ => rfl
  | .bo _ :: _, h => by simp [hasBo] at h
  | .ro _ :: r, h => hasBo_nil (gs := r) h
  | .mu _ :: r, h => hasBo_nil (gs := r) h
  | .tm _ _ :: r, h => hasBo_nil (gs := r) h
  | .bg _ _ :: _, h => by simp [hasBo] at h
  | .mg _ _ :: r, h => hasBo_nil (gs := r) h
  | .gg _ :: r, h => hasBo_nil (gs := r) h
  | .bd _ _ :: _, h => by simp [hasBo] at h
/-- the address of a root that is handed in to be changed -/
theorem muA_at : ∀ {gs : List Ag} {vs : List V} {a : Addr}, AgsX Z ρ G σ H vs gs → a ∈ muA gs ρ → (∃ (i : Nat) (m : Bool) (d : D), i ∈ muIx gs ∧ ρ[i]? = some (.own m a d)) ∨ (tms gs ≠ 0 ∧ ∃ v d, RvOk Z (.fr a d) ρ G σ H v)
  | [], _, a, _, h => by simp [muA] at h
  | .mu i :: r, v :: vs, a, q, h => by
    unfold muA at h
    split at h
    · rename_i m b d hs
      rcases List.mem_cons.mp h with rfl | h
      · exact .inl ⟨i, m, d, by simp [muIx], hs⟩
      · rcases muA_at q.2 h with ⟨j, m, d, h1, h2⟩ | z
        · exact .inl ⟨j, m, d, by simp [muIx, h1], h2⟩
        · exact .inr z
    · rcases muA_at q.2 h with ⟨j, m, d, h1, h2⟩ | z
      · exact .inl ⟨j, m, d, by simp [muIx, h1], h2⟩
      · exact .inr z
  | .mg i _ :: r, v :: vs, a, q, h => by
    unfold muA at h
    split at h
    · rename_i m b d hs
      rcases List.mem_cons.mp h with rfl | h
      · exact .inl ⟨i, m, d, by simp [muIx], hs⟩
      · rcases muA_at q.2 h with ⟨j, m, d, h1, h2⟩ | z
        · exact .inl ⟨j, m, d, by simp [muIx, h1], h2⟩
        · exact .inr z
    · rcases muA_at q.2 h with ⟨j, m, d, h1, h2⟩ | z
      · exact .inl ⟨j, m, d, by simp [muIx, h1], h2⟩
      · exact .inr z
  | .gg i :: r, [], a, q, h => by
    unfold muA at h
    split at h
    · rename_i m b d hs
      rcases List.mem_cons.mp h with rfl | h
      · exact .inl ⟨i, m, d, by simp [muIx], hs⟩
      · rcases muA_at (gs := r) (vs := []) q h with ⟨j, m, d, h1, h2⟩ | z
        · exact .inl ⟨j, m, d, by simp [muIx, h1], h2⟩
        · exact .inr z
    · rcases muA_at (gs := r) (vs := []) q h with ⟨j, m, d, h1, h2⟩ | z
      · exact .inl ⟨j, m, d, by simp [muIx, h1], h2⟩
      · exact .inr z
  | .gg i :: r, v :: vs, a, q, h => q.1.elim
  | .bg _ _ :: r, v :: vs, a, q, h => muA_at (gs := r) q.2 h
  | .bg _ _ :: r, [], a, h, _ => h.elim
  | .bd _ _ :: r, v :: vs, a, q, h => muA_at (gs := r) q.2 h
  | .bd _ _ :: r, [], a, h, _ => h.elim
  | .mg _ _ :: r, [], a, h, _ => h.elim
  | .ro _ :: r, v :: vs, a, q, h => muA_at (gs := r) q.2 h
  | .bo _ :: r, v :: vs, a, q, h => muA_at (gs := r) q.2 h
  | .tm b d :: r, v :: vs, a, q, h => by
    rcases List.mem_cons.mp h with rfl | h
    · exact .inr ⟨by simp [tms], v, d, q.1⟩
    · rcases muA_at (gs := r) q.2 h with z | ⟨z, w⟩
      · exact .inl z
      · exact .inr ⟨by simp [tms], w⟩
  | .mu i :: r, [], a, h, _ => h.elim
  | .ro i :: r, [], a, h, _ => h.elim
  | .bo i :: r, [], a, h, _ => h.elim
  | .tm i _ :: r, [], a, h, _ => h.elim
theorem muA_nd (I : SR Z ρ G σ H) : ∀ {gs : List Ag} {vs : List V}, AgsX Z ρ G σ H vs gs → (muIx gs).Nodup → tms gs ≤ 1 → (muA gs ρ).Nodup
  | [], _, _, _, _ => List.nodup_nil
  | .mu i :: r, v :: vs, q, n, t => by
    have n' := List.nodup_cons.mp n
    have ih := muA_nd I (gs := r) q.2 n'.2 t
    unfold muA
    split
    · rename_i m a d hs
      refine List.nodup_cons.mpr ⟨fun hm => ?_, ih⟩
      rcases muA_at q.2 hm with ⟨j, m', d', hj, hs'⟩ | ⟨_, v', d', f⟩
      · exact I.inj i j m m' a d a d' hs hs' (fun e => n'.1 (e ▸ hj)) rfl
      · exact f.2.2.2.1 i m a d hs rfl
    · exact ih
  | .mg i _ :: r, v :: vs, q, n, t => by
    have n' := List.nodup_cons.mp n
    have ih := muA_nd I (gs := r) q.2 n'.2 t
    unfold muA
    split
    · rename_i m a d hs
      refine List.nodup_cons.mpr ⟨fun hm => ?_, ih⟩
      rcases muA_at q.2 hm with ⟨j, m', d', hj, hs'⟩ | ⟨_, v', d', f⟩
      · exact I.inj i j m m' a d a d' hs hs' (fun e => n'.1 (e ▸ hj)) rfl
      · exact f.2.2.2.1 i m a d hs rfl
    · exact ih
  | .gg i :: r, [], q, n, t => by
    have n' := List.nodup_cons.mp n
    have ih := muA_nd I (gs := r) (vs := []) q n'.2 t
    unfold muA
    split
    · rename_i m a d hs
      refine List.nodup_cons.mpr ⟨fun hm => ?_, ih⟩
      rcases muA_at (gs := r) (vs := []) q hm with ⟨j, m', d', hj, hs'⟩ | ⟨_, v', d', f⟩
      · exact I.inj i j m m' a d a d' hs hs' (fun e => n'.1 (e ▸ hj)) rfl
      · exact f.2.2.2.1 i m a d hs rfl
    · exact ih
  | .gg i :: r, v :: vs, q, n, t => q.1.elim
  | .bg _ _ :: r, v :: vs, q, n, t => muA_nd I (gs := r) q.2 n t
  | .bg _ _ :: r, [], h, _, _ => h.elim
  | .bd _ _ :: r, v :: vs, q, n, t => muA_nd I (gs := r) q.2 n t
  | .bd _ _ :: r, [], h, _, _ => h.elim
  | .mg _ _ :: r, [], h, _, _ => h.elim
  | .ro _ :: r, v :: vs, q, n, t => muA_nd I (gs := r) q.2 n t
  | .bo _ :: r, v :: vs, q, n, t => muA_nd I (gs := r) q.2 n t
  | .tm a d :: r, v :: vs, q, n, t => by
    have t0 : tms r = 0 := by simp [tms] at t; omega
    have ih := muA_nd I (gs := r) q.2 n (by omega)
    refine List.nodup_cons.mpr ⟨fun hm => ?_, ih⟩
    rcases muA_at (gs := r) q.2 hm with ⟨j, m', d', hj, hs'⟩ | ⟨z, _⟩
    · exact q.1.2.2.2.1 j m' a d' hs' rfl
    · exact z t0
  | .mu i :: r, [], h, _, _ => h.elim
  | .ro i :: r, [], h, _, _ => h.elim
  | .bo i :: r, [], h, _, _ => h.elim
  | .tm i _ :: r, [], h, _, _ => h.elim
theorem boA_apart (I : SR Z ρ G σ H) {gs : List Ag} {vs : List V} (q : AgsX Z ρ G σ H vs gs) (n : (boIx gs ++ muIx gs).Nodup) {a : Addr} (h : a ∈ muA gs ρ) : a ∉ boA gs ρ := fun hb => by
  obtain ⟨i, m, d, hi, hs⟩ := boA_own hb
  rcases muA_at q h with ⟨j, m', d', hj, hs'⟩ | ⟨_, v, d', f⟩
  · exact I.inj i j m m' a d a d' hs hs' (fun e => (List.nodup_append.mp n).2.2 i hi j hj e) rfl
  · exact f.2.2.2.1 i m a d hs rfl
/-- the known part at a call -/
def cutG (B : List Addr) (G H : Hp) : Hp := fun a => if a ∈ B then H a else G a
theorem args_ok (I : SR Z ρ G σ H) {B : List Addr} (hB : ∀ a ∈ B, G a = none) : ∀ {gs : List Ag} {vs : List V} {k : List Arg → Prop}, AgsX Z ρ G σ H vs gs → (∀ a ∈ boA gs ρ, a ∈ B) → (∀ a ∈ muA gs ρ, a ∉ B) → (muA gs ρ).Nodup → argsK gs ρ k →
    ∃ args, ArgsOk Z.cc (cutG B G H) H vs args (muA gs ρ) ∧ k args := by
  have le : LE G (cutG B G H) := fun a o e => by
    unfold cutG
    rw [if_neg (fun h => by rw [hB a h] at e; cases e)]
    exact e
  intro gs
  induction gs with
  | nil => intro vs k q _ _ _ h; cases vs with
    | nil => exact ⟨[], trivial, h⟩
    | cons v vs => exact q.elim
  | cons g gs ih =>
    intro vs k q hb hm nd h
    cases vs with
    | nil =>
      cases g <;> try exact q.elim
      rename_i i
      unfold argsK at h
      cases hs : ρ[i]? with
      | none => simp only [hs] at h
      | some s =>
        simp only [hs] at h
        cases s with
        | no => exact h.elim
        | sh d => exact h.elim
        | own m a d =>
          obtain ⟨es, rt⟩ := I.slot i _ hs
          have em : muA (.gg i :: gs) ρ = a :: muA gs ρ := by simp only [muA, hs]
          rw [em] at hm nd ⊢
          obtain ⟨args, h1, h2⟩ := ih (vs := []) (k := fun as => k (.gh a d :: as)) q hb (fun b h => hm b (List.mem_cons_of_mem _ h)) (List.nodup_cons.mp nd).2 h
          refine ⟨.gh a d :: args, ⟨rfl, ?_, rt.mono le, (List.nodup_cons.mp nd).1, h1⟩, h2⟩
          unfold cutG
          rw [if_neg (hm a List.mem_cons_self)]
          exact I.out i m a d hs
    | cons v vs =>
      cases g with
      | ro d =>
        obtain ⟨args, h1, h2⟩ := ih (k := fun as => k (.ro d :: as)) q.2 hb hm nd h
        exact ⟨.ro d :: args, ⟨Rep.mono (d := d) le q.1, h1⟩, h2⟩
      | bo i =>
        unfold argsK at h
        cases hs : ρ[i]? with
        | none => simp only [hs] at h
        | some s =>
          simp only [hs] at h
          cases s with
          | no => exact h.elim
          | sh d => exact h.elim
          | own m a d =>
            obtain ⟨es, rt⟩ := I.slot i _ hs
            cases own_in (show σ[i]? = some (some v) from q.1) es
            have eb : boA (.bo i :: gs) ρ = a :: boA gs ρ := by simp only [boA, hs]
            have ha : a ∈ B := hb a (by rw [eb]; exact List.mem_cons_self)
            obtain ⟨args, h1, h2⟩ := ih (k := fun as => k (.ro d :: as)) q.2 (fun b h => hb b (by rw [eb]; exact List.mem_cons_of_mem _ h)) hm nd h
            refine ⟨.ro d :: args, ⟨?_, h1⟩, h2⟩
            have rt' := rt.mono le
            have e0 : cutG B G H a = H a := by unfold cutG; rw [if_pos ha]
            cases d <;> try exact rt'.elim
            · obtain ⟨vs, e, r⟩ := rt'; unfold Rep; exact ⟨a, vs, rfl, SqL.of (e0.trans e), r⟩
            · obtain ⟨dx, vs, e, l, r⟩ := rt'; unfold Rep; exact ⟨a, dx, vs, rfl, e0.trans e, l, r⟩
            · obtain ⟨vs, e, r⟩ := rt'; unfold Rep; exact ⟨a, vs, rfl, e.rd.heap fun o ho => e0.trans ho, r⟩
      | bg i b =>
        unfold argsK at h
        cases hs : ρ[i]? with
        | none => simp only [hs] at h
        | some s =>
          simp only [hs] at h
          cases s with
          | no => exact h.elim
          | sh d => exact h.elim
          | own m a d =>
            obtain ⟨es, rt⟩ := I.slot i _ hs
            obtain ⟨rfl, h⟩ := h
            have ev : v = .ref a := q.1
            subst ev
            have eb : boA (.bg i a :: gs) ρ = a :: boA gs ρ := by simp only [boA, hs]
            have ha : a ∈ B := hb a (by rw [eb]; exact List.mem_cons_self)
            obtain ⟨args, h1, h2⟩ := ih (k := fun as => k (.ro d :: as)) q.2 (fun b h => hb b (by rw [eb]; exact List.mem_cons_of_mem _ h)) hm nd h
            refine ⟨.ro d :: args, ⟨?_, h1⟩, h2⟩
            have rt' := rt.mono le
            have e0 : cutG B G H a = H a := by unfold cutG; rw [if_pos ha]
            cases d <;> try exact rt'.elim
            · obtain ⟨vs, e, r⟩ := rt'; unfold Rep; exact ⟨a, vs, rfl, SqL.of (e0.trans e), r⟩
            · obtain ⟨dx, vs, e, l, r⟩ := rt'; unfold Rep; exact ⟨a, dx, vs, rfl, e0.trans e, l, r⟩
            · obtain ⟨vs, e, r⟩ := rt'; unfold Rep; exact ⟨a, vs, rfl, e.rd.heap fun o ho => e0.trans ho, r⟩
      | mu i =>
        unfold argsK at h
        cases hs : ρ[i]? with
        | none => simp only [hs] at h
        | some s =>
          simp only [hs] at h
          cases s with
          | no => exact h.elim
          | sh d => exact h.elim
          | own m a d =>
            obtain ⟨es, rt⟩ := I.slot i _ hs
            cases own_in (show σ[i]? = some (some v) from q.1) es
            have em : muA (.mu i :: gs) ρ = a :: muA gs ρ := by simp only [muA, hs]
            rw [em] at hm nd ⊢
            obtain ⟨args, h1, h2⟩ := ih (k := fun as => k (.mu d :: as)) q.2 hb (fun b h => hm b (List.mem_cons_of_mem _ h)) (List.nodup_cons.mp nd).2 h
            refine ⟨.mu d :: args, ⟨rfl, ?_, rt.mono le, (List.nodup_cons.mp nd).1, h1⟩, h2⟩
            unfold cutG
            rw [if_neg (hm a List.mem_cons_self)]
            exact I.out i m a d hs
      | mg i b =>
        unfold argsK at h
        cases hs : ρ[i]? with
        | none => simp only [hs] at h
        | some s =>
          simp only [hs] at h
          cases s with
          | no => exact h.elim
          | sh d => exact h.elim
          | own m a d =>
            obtain ⟨es, rt⟩ := I.slot i _ hs
            obtain ⟨rfl, h⟩ := h
            have ev : v = .ref a := q.1
            subst ev
            have em : muA (.mg i a :: gs) ρ = a :: muA gs ρ := by simp only [muA, hs]
            rw [em] at hm nd ⊢
            obtain ⟨args, h1, h2⟩ := ih (k := fun as => k (.mu d :: as)) q.2 hb (fun b h => hm b (List.mem_cons_of_mem _ h)) (List.nodup_cons.mp nd).2 h
            refine ⟨.mu d :: args, ⟨rfl, ?_, rt.mono le, (List.nodup_cons.mp nd).1, h1⟩, h2⟩
            unfold cutG
            rw [if_neg (hm a List.mem_cons_self)]
            exact I.out i m a d hs
      | gg i => exact q.1.elim
      | bd js d =>
        obtain ⟨e, hr, h⟩ := h
        obtain ⟨args, h1, h2⟩ := ih (k := fun as => k (.ro e :: as)) q.2 (fun b h => hb b (List.mem_append_right _ h)) hm nd h
        have hL : ∀ a d, (a, d) ∈ pk ρ js → Root Z.cc G (cutG B G H) a d := fun a d hd => by
          obtain ⟨j, m, _, hs⟩ := pk_mem hd
          have ha : a ∈ B := hb a (List.mem_append_left _ (List.mem_map.mpr ⟨_, hd, rfl⟩))
          have e0 : cutG B G H a = H a := by unfold cutG; rw [if_pos ha]
          exact (I.slot j _ hs).2.heap fun o ho => e0.trans ho
        exact ⟨.ro e :: args, ⟨hr.sound le hL v q.1, h1⟩, h2⟩
      | tm a d =>
        obtain ⟨args, h1, h2⟩ := ih (k := fun as => k (.mu d :: as)) q.2 hb (fun b h => hm b (List.mem_cons_of_mem _ h)) (List.nodup_cons.mp nd).2 h
        refine ⟨.mu d :: args, ⟨q.1.1, ?_, q.1.2.1.mono le, (List.nodup_cons.mp nd).1, h1⟩, h2⟩
        unfold cutG
        rw [if_neg (hm a List.mem_cons_self)]
        exact q.1.2.2.1
theorem upE_len : ∀ {gs : List Ag} {ds : List D}, (upE gs ds ρ).length = ρ.length
  | [], _ => rfl
  | .mu _ :: r, d :: ds => by simp [upE, upE_len (gs := r)]
  | .mu _ :: _, [] => rfl
  | .tm _ _ :: r, _ :: ds => upE_len (gs := r)
  | .tm _ _ :: _, [] => rfl
  | .ro _ :: r, ds => upE_len (gs := r)
  | .bo _ :: r, ds => upE_len (gs := r)
  | .bg _ _ :: r, ds => upE_len (gs := r)
  | .bd _ _ :: r, ds => upE_len (gs := r)
  | .mg _ _ :: r, d :: ds => by simp [upE, upE_len (gs := r)]
  | .mg _ _ :: _, [] => rfl
  | .gg _ :: r, d :: ds => by simp [upE, upE_len (gs := r)]
  | .gg _ :: _, [] => rfl
theorem upE_get {G' H' : Hp} : ∀ {gs : List Ag} {vs : List V} {ds : List D} {j : Nat} {s : Sl}, AgsX Z ρ G σ H vs gs → (∀ i ∈ muIx gs, isOwn ρ i) → MusOk Z.cc G' H' (muA gs ρ) ds → (upE gs ds ρ)[j]? = some s →
    (ρ[j]? = some s ∧ j ∉ muIx gs) ∨ ∃ m a d d', ρ[j]? = some (.own m a d) ∧ s = .own m a d' ∧ a ∈ muA gs ρ ∧ Root Z.cc G' H' a d' ∧ G' a = none ∧ d' ∈ ds
  | [], _, _, j, s, _, _, _, h => .inl ⟨h, by simp [muIx]⟩
  | .ro _ :: r, v :: vs, ds, j, s, q, o, m, h => upE_get (gs := r) q.2 o m h
  | .bo _ :: r, v :: vs, ds, j, s, q, o, m, h => upE_get (gs := r) q.2 o m h
  | .tm a d :: r, v :: vs, e :: ds, j, s, q, o, m, h => by
    rcases upE_get (gs := r) q.2 o m.2.2 h with z | ⟨m1, a1, d1, d2, h1, h2, h3, h4, h5, h6⟩
    · exact .inl z
    · exact .inr ⟨m1, a1, d1, d2, h1, h2, List.mem_cons_of_mem _ h3, h4, h5, List.mem_cons_of_mem _ h6⟩
  | .tm a d :: r, v :: vs, [], j, s, q, o, m, h => m.elim
  | .mu i :: r, v :: vs, ds, j, s, q, o, m, h => by
    have oi := o i (by simp [muIx])
    unfold isOwn at oi
    cases hs : ρ[i]? with
    | none => simp only [hs] at oi
    | some t =>
      simp only [hs] at oi
      cases t with
      | no => exact oi.elim
      | sh d => exact oi.elim
      | own m1 a d =>
        have em : muA (.mu i :: r) ρ = a :: muA r ρ := by simp only [muA, hs]
        rw [em] at m ⊢
        cases ds with
        | nil => exact m.elim
        | cons e ds =>
          have h : ((upE r ds ρ).set i (reown ρ i e))[j]? = some s := h
          have er : reown ρ i e = .own m1 a e := by simp only [reown, hs]
          rw [er] at h
          rcases get_set h with ⟨rfl, rfl⟩ | ⟨hj, h⟩
          · exact .inr ⟨m1, a, d, e, hs, rfl, List.mem_cons_self, m.1, m.2.1, List.mem_cons_self⟩
          · rcases upE_get (gs := r) q.2 (fun k hk => o k (by simp [muIx, hk])) m.2.2 h with ⟨z1, z2⟩ | ⟨m1, a1, d1, d2, h1, h2, h3, h4, h5, h6⟩
            · exact .inl ⟨z1, by simp [muIx, hj, z2]⟩
            · exact .inr ⟨m1, a1, d1, d2, h1, h2, List.mem_cons_of_mem _ h3, h4, h5, List.mem_cons_of_mem _ h6⟩
  | .mg i b :: r, v :: vs, ds, j, s, q, o, m, h => by
    have oi := o i (by simp [muIx])
    unfold isOwn at oi
    cases hs : ρ[i]? with
    | none => simp only [hs] at oi
    | some t =>
      simp only [hs] at oi
      cases t with
      | no => exact oi.elim
      | sh d => exact oi.elim
      | own m1 a d =>
        have em : muA (.mg i b :: r) ρ = a :: muA r ρ := by simp only [muA, hs]
        rw [em] at m ⊢
        cases ds with
        | nil => exact m.elim
        | cons e ds =>
          have h : ((upE r ds ρ).set i (reown ρ i e))[j]? = some s := h
          have er : reown ρ i e = .own m1 a e := by simp only [reown, hs]
          rw [er] at h
          rcases get_set h with ⟨rfl, rfl⟩ | ⟨hj, h⟩
          · exact .inr ⟨m1, a, d, e, hs, rfl, List.mem_cons_self, m.1, m.2.1, List.mem_cons_self⟩
          · rcases upE_get (gs := r) q.2 (fun k hk => o k (by simp [muIx, hk])) m.2.2 h with ⟨z1, z2⟩ | ⟨m1, a1, d1, d2, h1, h2, h3, h4, h5, h6⟩
            · exact .inl ⟨z1, by simp [muIx, hj, z2]⟩
            · exact .inr ⟨m1, a1, d1, d2, h1, h2, List.mem_cons_of_mem _ h3, h4, h5, List.mem_cons_of_mem _ h6⟩
  | .gg i :: r, [], ds, j, s, q, o, m, h => by
    have oi := o i (by simp [muIx])
    unfold isOwn at oi
    cases hs : ρ[i]? with
    | none => simp only [hs] at oi
    | some t =>
      simp only [hs] at oi
      cases t with
      | no => exact oi.elim
      | sh d => exact oi.elim
      | own m1 a d =>
        have em : muA (.gg i :: r) ρ = a :: muA r ρ := by simp only [muA, hs]
        rw [em] at m ⊢
        cases ds with
        | nil => exact m.elim
        | cons e ds =>
          have h : ((upE r ds ρ).set i (reown ρ i e))[j]? = some s := h
          have er : reown ρ i e = .own m1 a e := by simp only [reown, hs]
          rw [er] at h
          rcases get_set h with ⟨rfl, rfl⟩ | ⟨hj, h⟩
          · exact .inr ⟨m1, a, d, e, hs, rfl, List.mem_cons_self, m.1, m.2.1, List.mem_cons_self⟩
          · rcases upE_get (gs := r) (vs := []) q (fun k hk => o k (by simp [muIx, hk])) m.2.2 h with ⟨z1, z2⟩ | ⟨m1, a1, d1, d2, h1, h2, h3, h4, h5, h6⟩
            · exact .inl ⟨z1, by simp [muIx, hj, z2]⟩
            · exact .inr ⟨m1, a1, d1, d2, h1, h2, List.mem_cons_of_mem _ h3, h4, h5, List.mem_cons_of_mem _ h6⟩
  | .gg i :: r, v :: vs, _, _, _, h, _, _, _ => h.1.elim
  | .bg _ _ :: r, v :: vs, ds, j, s, q, o, m, h => upE_get (gs := r) q.2 o m h
  | .bg _ _ :: r, [], _, _, _, h, _, _, _ => h.elim
  | .bd _ _ :: r, v :: vs, ds, j, s, q, o, m, h => upE_get (gs := r) q.2 o m h
  | .bd _ _ :: r, [], _, _, _, h, _, _, _ => h.elim
  | .mg _ _ :: r, [], _, _, _, h, _, _, _ => h.elim
  | .mu i :: r, [], _, _, _, h, _, _, _ => h.elim
  | .ro i :: r, [], _, _, _, h, _, _, _ => h.elim
  | .bo i :: r, [], _, _, _, h, _, _, _ => h.elim
  | .tm i _ :: r, [], _, _, _, h, _, _, _ => h.elim
theorem argsK_own : ∀ {gs : List Ag} {k : List Arg → Prop}, argsK gs ρ k → ∀ i ∈ muIx gs, isOwn ρ i
  | [], _, _, i, h => by simp [muIx] at h
  | .ro _ :: r, k, h, i, hi => argsK_own (gs := r) h i hi
  | .tm _ _ :: r, k, h, i, hi => argsK_own (gs := r) h i hi
  | .bo j :: r, k, h, i, hi => by
    unfold argsK at h
    split at h
    · exact argsK_own (gs := r) h i hi
    · exact h.elim
  | .mu j :: r, k, h, i, hi => by
    unfold argsK at h
    split at h
    · rename_i m a d hs
      rcases List.mem_cons.mp hi with rfl | hi
      · unfold isOwn; rw [hs]; trivial
      · exact argsK_own (gs := r) h i hi
    · exact h.elim
  | .bd js d :: r, k, h, i, hi => by
    obtain ⟨e, _, h⟩ := h
    exact argsK_own (gs := r) h i hi
  | .bg j b :: r, k, h, i, hi => by
    unfold argsK at h
    split at h
    · exact argsK_own (gs := r) h.2 i hi
    · exact h.elim
  | .mg j b :: r, k, h, i, hi => by
    unfold argsK at h
    split at h
    · rename_i m a d hs
      rcases List.mem_cons.mp hi with rfl | hi
      · unfold isOwn; rw [hs]; trivial
      · exact argsK_own (gs := r) h.2 i hi
    · exact h.elim
  | .gg j :: r, k, h, i, hi => by
    unfold argsK at h
    split at h
    · rename_i m a d hs
      rcases List.mem_cons.mp hi with rfl | hi
      · unfold isOwn; rw [hs]; trivial
      · exact argsK_own (gs := r) h i hi
    · exact h.elim
theorem noLstAll_mem : ∀ {ds : List D} {d : D}, noLstAll ds = true → d ∈ ds → chFlat d = true
  | e :: ds, d, h, hm => by
    unfold noLstAll at h
    rw [Bool.and_eq_true] at h
    rcases List.mem_cons.mp hm with rfl | hm
    · exact h.1
    · exact noLstAll_mem h.2 hm

/-- behind a call -/
theorem sr_after (I : SR Z ρ G σ H) {gs : List Ag} {vs : List V} {ds : List D} {o : Ro} {v : V} {G' H' : Hp} (q : AgsX Z ρ G σ H vs gs) (nd : (boIx gs ++ muIx gs).Nodup) (own : ∀ i ∈ muIx gs, isOwn ρ i)
    (le : LE (cutG (boA gs ρ) G H) G') (sub : LE G' H') (fr : ∀ a u, H a = some u → a ∉ muA gs ρ → H' a = some u) (gn : ∀ a, G' a ≠ none → cutG (boA gs ρ) G H a ≠ none ∨ H a = none) (mo : MusOk Z.cc G' H' (muA gs ρ) ds) (ro : ResOk Z.cc G' H H' v o)
    (bk : hasBo gs = true → flatRo o = true ∧ noLstAll ds = true) : ∃ G2, LE G G2 ∧ SR Z (upE gs ds ρ) G2 σ H' ∧ (match o with | .sh d => RvOk Z (.sh d) (upE gs ds ρ) G2 σ H' v | .fr d => ∃ a, RvOk Z (.fr a d) (upE gs ds ρ) G2 σ H' v | .gx as cs t => as.Nodup ∧ (∀ a ∈ as, a ∉ owns (upE gs ds ρ)) ∧ SR Z (upE gs ds ρ ++ ghs as cs) G2 σ H' ∧ RvOk Z (.sh t) (upE gs ds ρ ++ ghs as cs) G2 σ H' v) ∧
      (∀ a d, Root Z.cc G' H' a d → chFlat d = true ∨ hasBo gs = false → Root Z.cc G2 H' a d) ∧ (∀ a, G a = none → H a ≠ none → G2 a = none) := by
  have hB : ∀ a ∈ boA gs ρ, G a = none := fun a ha => by
    obtain ⟨i, m, d, _, hs⟩ := boA_own ha
    exact I.out i m a d hs
  have hBr : ∀ a ∈ boA gs ρ, ∃ u, H a = some u ∧ Mut (some u) ∧ a ∉ muA gs ρ := fun a ha => by
    obtain ⟨i, m, d, _, hs⟩ := boA_own ha
    obtain ⟨u, e, mt⟩ := (I.own_ob hs).ob
    exact ⟨u, e, mt, fun h => boA_apart I q nd h ha⟩
  -- the known part, without the roots that were lent
  obtain ⟨G2, hG2⟩ : ∃ G2 : Hp, G2 = fun a => if a ∈ boA gs ρ then none else G' a := ⟨_, rfl⟩
  have g2in : ∀ a ∈ boA gs ρ, G2 a = none := fun a ha => by rw [hG2]; show (if a ∈ boA gs ρ then none else G' a) = none; rw [if_pos ha]
  have g2out : ∀ a, a ∉ boA gs ρ → G2 a = G' a := fun a ha => by rw [hG2]; show (if a ∈ boA gs ρ then none else G' a) = _; rw [if_neg ha]
  have leG : LE G G' := fun a u e => le a u (by unfold cutG; rw [if_neg (fun h => by rw [hB a h] at e; cases e)]; exact e)
  have le2 : LE G G2 := fun a u e => by
    rw [g2out a (fun h => by rw [hB a h] at e; cases e)]
    exact leG a u e
  have tups : ∀ a us, G' a = some (.tup us) → G2 a = some (.tup us) := fun a us e => by
    rw [g2out a ?_]
    · exact e
    · intro h
      obtain ⟨u, eu, mt, nm⟩ := hBr a h
      have := fr a u eu nm
      rw [sub a _ e] at this
      cases this
      exact mt
  have strip : ∀ {a : Addr} {d : D}, (hasBo gs = true → chFlat d = true) → Root Z.cc G' H' a d → Root Z.cc G2 H' a d := fun {a d} hf r => by
    by_cases hb : hasBo gs = true
    · exact r.strip tups (hf hb)
    · have e : boA gs ρ = [] := hasBo_nil (by simpa using hb)
      have : G2 = G' := by funext a; exact g2out a (by rw [e]; simp)
      rw [this]; exact r
  have stripR : ∀ {v : V} {d : D}, (hasBo gs = true → noLst d = true) → Rep Z.cc G' v d → Rep Z.cc G2 v d := fun {v d} hf r => by
    by_cases hb : hasBo gs = true
    · exact r.strip tups (hf hb)
    · have e : boA gs ρ = [] := hasBo_nil (by simpa using hb)
      have : G2 = G' := by funext a; exact g2out a (by rw [e]; simp)
      rw [this]; exact r
  have muOwn : ∀ a ∈ muA gs ρ, (a ∈ Z.mu ∨ Z.H0 a = none) := fun a ha => by
    rcases muA_at q ha with ⟨i, m, d, _, hs⟩ | ⟨_, w, d, f⟩
    · have := I.frs i m a d hs
      cases m with
      | true => exact .inl this
      | false => exact .inr this.1
    · exact .inr f.2.2.2.2.1
  have g2n : ∀ a, G a = none → H a ≠ none → G2 a = none := fun a h1 h2 => by
    by_cases hb : a ∈ boA gs ρ
    · exact g2in a hb
    · rw [g2out a hb]
      cases e : G' a with
      | none => rfl
      | some u =>
        rcases gn a (by rw [e]; simp) with z | z
        · unfold cutG at z; rw [if_neg hb] at z; exact absurd h1 z
        · exact absurd z h2
  have J : SR Z (upE gs ds ρ) G2 σ H' := by
    refine ⟨by rw [upE_len]; exact I.len, fun a u e => ?_, fun j s e => ?_, fun i j p r a d b x e1 e2 hn => ?_, fun j m a d e => ?_, fun a u e hn => ?_, fun j m a d e => ?_, fun a ha => ?_, fun a u e => le2 _ _ (I.g0 a u e), fun a ha => ?_, fun a ha => ?_⟩
    · by_cases hb : a ∈ boA gs ρ
      · rw [g2in a hb] at e; cases e
      · rw [g2out a hb] at e; exact sub a u e
    · rcases upE_get q own mo e with ⟨e, hj⟩ | ⟨m, a, d, d', h1, rfl, h3, h4, h5, h6⟩
      · have so := I.slot j s e
        cases s with
        | no => trivial
        | sh d => obtain ⟨u, eu, r⟩ := so; exact ⟨u, eu, r.mono le2⟩
        | own m a d =>
          refine ⟨so.1, (so.2.mono le2).heap fun u hu => fr a u hu fun hm => ?_⟩
          rcases muA_at q hm with ⟨i, m', d', hi, hs⟩ | ⟨_, w, d', f⟩
          · exact I.inj j i m m' a d a d' e hs (fun z => hj (z ▸ hi)) rfl
          · exact f.2.2.2.1 j m a d e rfl
      · exact ⟨(I.slot j _ h1).1, strip (fun hb => noLstAll_mem (bk hb).2 h6) h4⟩
    · have f : ∀ {i : Nat} {p : Bool} {a : Addr} {d : D}, (upE gs ds ρ)[i]? = some (.own p a d) → ∃ d0, ρ[i]? = some (.own p a d0) := fun {i p a d} e => by
        rcases upE_get q own mo e with ⟨e, _⟩ | ⟨m, a, d0, d', h1, h2, _⟩
        · exact ⟨_, e⟩
        · cases h2; exact ⟨_, h1⟩
      obtain ⟨_, e1⟩ := f e1
      obtain ⟨_, e2⟩ := f e2
      exact I.inj i j p r a _ b _ e1 e2 hn
    · have : ∃ d0, ρ[j]? = some (.own m a d0) := by
        rcases upE_get q own mo e with ⟨e, _⟩ | ⟨m, a, d0, d', h1, h2, _⟩
        · exact ⟨_, e⟩
        · cases h2; exact ⟨_, h1⟩
      obtain ⟨_, e⟩ := this
      obtain ⟨u, eu, _⟩ := (I.own_ob e).ob
      exact g2n a (I.out j m a _ e) (by rw [eu]; simp)
    · have h1 := I.ent a u e hn
      refine fr a u h1 fun hm => ?_
      rcases muOwn a hm with z | z
      · exact hn z
      · rw [z] at e; cases e
    · have : ∃ d0, ρ[j]? = some (.own m a d0) := by
        rcases upE_get q own mo e with ⟨e, _⟩ | ⟨m, a, d0, d', h1, h2, _⟩
        · exact ⟨_, e⟩
        · cases h2; exact ⟨_, h1⟩
      obtain ⟨_, e⟩ := this
      exact I.frs j m a _ e
    · have hb : a ∉ boA gs ρ := fun h => ha (g2in a h)
      rw [g2out a hb] at ha
      rcases gn a ha with z | z
      · unfold cutG at z; rw [if_neg hb] at z; exact I.gnew a z
      · exact .inr (I.h0 z).1
    · exact g2n a (I.mout a ha) (I.mux a ha)
    · by_cases hm : a ∈ muA gs ρ
      · -- a root that was changed still stands
        have ex : ∀ {mus : List Addr} {ds : List D}, MusOk Z.cc G' H' mus ds → a ∈ mus → H' a ≠ none := by
          intro mus
          induction mus with
          | nil => intro _ _ h; simp at h
          | cons b mus ih =>
            intro ds h hm
            cases ds with
            | nil => exact h.elim
            | cons d ds =>
              rcases List.mem_cons.mp hm with rfl | hm
              · obtain ⟨u, eu, _⟩ := h.1.ob
                rw [eu]; simp
              · exact ih h.2.2 hm
        exact ex mo hm
      · cases e : H a with
        | none => exact absurd e (I.mux a ha)
        | some u => rw [fr a u e hm]; simp
  refine ⟨G2, le2, J, ?_, fun a d r hf => strip (fun hb => hf.resolve_right (by rw [hb]; simp)) r, g2n⟩
  cases o with
  | sh d => exact stripR (fun hb => (bk hb).1) ro
  | fr d =>
    obtain ⟨a, rfl, rt, ga, ha⟩ := ro
    have hz := I.h0 ha
    refine ⟨a, rfl, strip (fun hb => (bk hb).1) rt, ?_, fun i m b e h => ?_, hz.1, hz.2⟩
    · by_cases hb : a ∈ boA gs ρ
      · exact g2in a hb
      · rw [g2out a hb]; exact ga
    · rcases upE_get q own mo h with ⟨h, _⟩ | ⟨m, a', d0, d', h1, h2, _⟩
      · exact I.own_ne h ha
      · cases h2; exact I.own_ne h1 ha
  | gx as cs t =>
    obtain ⟨h2, h3, h4, h5⟩ := ro
    have nb : hasBo gs = false := by
      cases e : hasBo gs with
      | false => rfl
      | true => have := (bk e).1; cases this
    have e : boA gs ρ = [] := hasBo_nil nb
    have eG : G2 = G' := by funext a; exact g2out a (by rw [e]; simp)
    have ap : ∀ (i : Nat) (a : Addr) (d : D), as[i]? = some a → cs[i]? = some d → ∀ (j : Nat) (m : Bool) (b : Addr) (e : D), (upE gs ds ρ)[j]? = some (.own m b e) → b ≠ a := fun i a d e1 e2 j m b e h => by
      have r3 := (h5 i a d e1 e2).2.2
      rcases upE_get q own mo h with ⟨h, _⟩ | ⟨m, a', d0, d', h1, h2, _⟩
      · exact I.own_ne h r3
      · cases h2; exact I.own_ne h1 r3
    refine ⟨h2, fun a ha ho => ?_, J.addGs h2 fun i a d e1 e2 => ?_, by rw [eG]; exact h4⟩
    · obtain ⟨i, hi⟩ := List.getElem?_of_mem ha
      obtain ⟨j, m, d, hj⟩ := owns_mem.mp ho
      have hl : i < cs.length := by rw [← h3]; exact (List.getElem?_eq_some_iff.mp hi).1
      exact ap i a _ hi (List.getElem?_eq_getElem hl) j m a d hj rfl
    · obtain ⟨r1, r2, r3⟩ := h5 i a d e1 e2
      have hz := I.h0 r3
      exact ⟨by rw [eG]; exact r1, by rw [eG]; exact r2, ap i a d e1 e2, hz.1, hz.2⟩
end
section
variable {X : Cx} {Z : Zone} {C : Ccs} {k : Nat} {f : Addr} {fd : FuncData} {ps : List Str} {sp : FSpec} {aw : AgW} {x : Str} {p pos : Pos} {e : Expr} {es : List Expr}
/-- from a call's word to the promise below -/
theorem call_lsp {np : Nat} {σ : L2.St} {H : Hp} {Q : VK} {ρ : REnv} {G : Hp} {K : Rv → REnv → Prop} {gs : List Ag} {vs : List V} {E : XK} (hcc : Z.cc = C.cc) (hz : Z.xk = xk0) (hl : vs.length = np) (I : SR Z ρ G σ H) (q : AgsX Z ρ G σ H vs gs) (h : callK sp gs ρ Z.xk K)
    (fin : ∀ r ρ' v H' G', LE G G' → SR Z ρ' G' σ H' → RvOk Z r ρ' G' σ H' v → K r ρ' → Q v H') : LSp0 C sp np vs H Q E := by
  rw [hz] at h
  obtain ⟨nd, tm, h⟩ := h
  have own := argsK_own h
  have hB : ∀ a ∈ boA gs ρ, G a = none := fun a ha => by
    obtain ⟨i, m, d, _, hs⟩ := boA_own ha
    exact I.out i m a d hs
  obtain ⟨args, ao, hs⟩ := args_ok I hB q (fun _ h => h) (fun a h => boA_apart I q nd h) (muA_nd I q (List.nodup_append.mp nd).2.1 tm) h
  refine ⟨hl, args, cutG (boA gs ρ) G H, muA gs ρ, _, fun a u e => ?_, by rw [← hcc]; exact ao, hs, fun o ds v H' G' le sub fr gn mo ro hk => ?_⟩
  · unfold cutG at e
    split at e
    · exact e
    · exact I.sub a u e
  · rw [← hcc] at mo ro
    obtain ⟨G2, le2, J, hr, _, _⟩ := sr_after I q nd own le sub fr gn mo ro hk.1
    cases o with
    | sh d => exact fin (.sh d) _ v H' G2 le2 J hr hk.2
    | fr d => obtain ⟨a, hr⟩ := hr; exact fin (.fr a d) _ v H' G2 le2 J hr (hk.2 a)
    | gx as cs t => obtain ⟨h1, h2, h3, h4⟩ := hr; exact fin (.sh t) _ v H' G2 le2 h3 h4 (hk.2 h1 h2)
theorem AgsOk.len {ρ : REnv} {G H : Hp} {σ : L2.St} : ∀ {vs : List V} {gs : List Ag}, AgsOk Z ρ G σ H vs gs → vs.length = gs.length
  | [], [], _ => rfl
  | v :: vs, g :: gs, h => by simp [AgsOk.len h.2]
  | [], _ :: _, h => h.elim
  | _ :: _, [], h => h.elim
/-- f(e, ..) -/
def eCall (np : Nat) (sp : FSpec) (aw : AgW) : EW := fun xk ρ K => aw xk ρ fun gs ρ1 => gs.length = np ∧ callK sp gs ρ1 xk K
theorem via_call {E : XK} {np : Nat} (hcc : Z.cc = C.cc) (hz : Z.xk = xk0) : Via Z (tCall (LSp0 C sp np) [] E (Tag Z aw)) (eCall np sp aw) := fun σ H Q ⟨ρ, G, K, IR, hw, q⟩ =>
  ⟨ρ, G, _, IR, hw, fun gs ρ' vs H' G' le I' qs k => by
    show LSp0 C sp np (vs ++ []) H' Q E
    rw [List.append_nil]
    exact call_lsp hcc hz (by rw [qs.len]; exact k.1) I' qs.x0 k.2 fun r ρ2 v H2 G2 le2 I2 q2 k2 => q r ρ2 v H2 G2 (le.trans le2) I2 q2 k2⟩
theorem de_call (hcc : Z.cc = C.cc) (hz : Z.xk = xk0) (F : FnOk X.prog X.w X.K X.mg X.base CX0 k f fd ps (LSp0 C sp ps.length)) (hr : Room k X.A) (hm : X.mg x = some (.ref f)) (hk : PySem.W.keepIn X.K (.ref f) = true) (hb : Binds X.K fd ps [])
    (ha : PA X (e :: es) (Tag Z aw)) (hg : Gl X x := by rfl) (hdb : (x == ("__debug__" : Str)) = false := by decide) (he : starEach (e :: es) X.env = (false, eval e X.env) :: starEach es X.env := by rfl) (hpl : (backTo pos (starEach es X.env)).any (·.1) = false := by rfl) :
    PE X (.Call (.Name x p) (e :: es) [] pos) (T Z (eCall ps.length sp aw)) := pvia (pe_call F hr hg hm hk hb .nil pass0 ha hdb he hpl) (via_call hcc hz)
end
end TL

namespace TL
open PySem PySem.Spec L2

section
variable {cc : CC}
theorem Reps.atI {G : Hp} {vs : List V} {ds : List D} {i : Int} {d : D} (r : Reps cc G vs ds) (h : L2.atI ds i = some d) : ∃ v, L2.atI vs i = some v ∧ Rep cc G v d := by
  unfold L2.atI at h ⊢
  rw [r.length]
  cases e : ixN ds.length i with
  | none => rw [e] at h; cases h
  | some j =>
    rw [e] at h
    exact r.get h
def opIx : D → D → OW
  | .lst ds, .int i => fun k => ∃ d, L2.atI ds i = some d ∧ k (.sh d)
  | .tup ds, .int i => fun k => ∃ d, L2.atI ds i = some d ∧ k (.sh d)
  | .str z, .int i => fun k => z.length ≤ sizeLine ∧ ∃ c, L2.atI z.cps.toList i = some c ∧ k (.sh (.str ⟨#[c]⟩))
  | _, _ => fun _ => False
theorem ops_ix {K : PySem.W.Frag} (hK : cc.K = K) : OpS cc opIx (rIx K) := by
  subst hK
  intro G H x y d e k Q le v1 v2 _ _ ho fin
  unfold opIx at ho
  split at ho
  · obtain ⟨a, vs, ea, ra, qa⟩ := v1
    obtain ⟨d, hd, hk⟩ := ho
    obtain ⟨v, hv, rv⟩ := qa.atI hd
    exact .inl ⟨a, vs, _, v, ea, v2, ra, hv, (fin _ hk).1 _ rv⟩
  · obtain ⟨a, vs, ea, ra, qa⟩ := v1
    obtain ⟨d, hd, hk⟩ := ho
    obtain ⟨v, hv, rv⟩ := qa.atI hd
    exact .inr (.inl ⟨a, vs, _, v, ea, v2, SqT.of ra, hv, (fin _ hk).1 _ rv⟩)
  · obtain ⟨hl, c, hc, hk⟩ := ho
    exact .inr (.inr ⟨_, _, c, v1, v2, hl, hc, (fin _ hk).1 _ rep_str⟩)
  · exact ho.elim
end
section
variable {X : Cx} {Z : Zone} {a b e : Expr} {wa wb w : EW} {pos : Pos}
theorem de_ix (hK : Z.cc.K = X.K) (ha : PE X a (T Z wa)) (hb : PE X b (T Z wb)) (hs : PlainIx b := by intro _ _; rfl) : PE X (.Subscript a b pos) (T Z (eBin opIx wa wb)) := pvia (pe_ix ix_seq ha hb hs) (via_bin (ops_ix hK))

/-! ### slices -/
abbrev PWt := Xk → REnv → (Option Int → REnv → Prop) → Prop
def pNone : PWt := fun _ ρ K => K none ρ
def pSome (w : EW) : PWt := fun xk ρ K => w xk ρ fun r ρ1 => match r.get ρ1 with | .int i => K (some i) ρ1 | _ => False
def Tp (Z : Zone) (w : PWt) : TO := fun σ H Q => ∃ ρ G K, SR Z ρ G σ H ∧ w Z.xk ρ K ∧ ∀ o ρ' H' G', LE G G' → SR Z ρ' G' σ H' → K o ρ' → Q o H'
theorem dp_none : PO X none (Tp Z pNone) := ⟨fun pins s σ H Q I ⟨ρ, G, K, IR, hw, q⟩ => po_none.run pins s σ H Q I (q none ρ H G (LE.refl G) IR hw)⟩
theorem dp_some (h : PE X e (T Z w)) : PO X (some e) (Tp Z (pSome w)) := ⟨fun pins s σ H Q I ⟨ρ, G, K, IR, hw, q⟩ => (po_some h).run pins s σ H Q I ⟨ρ, G, _, IR, hw, fun r ρ' v H' G' le I' qr k => by
  have vw := qr.view I'
  split at k
  · rename_i i hd
    rw [hd] at vw
    exact ⟨i, vw, q (some i) ρ' H' G' le I' k⟩
  · exact k.elim⟩⟩
def cutL {α : Type} (xs : List α) (lo hi : Option Int) : List α := (xs.drop (HT.sIx xs.length 0 lo)).take (HT.sIx xs.length xs.length hi - HT.sIx xs.length 0 lo)
theorem Reps.cut {cc : CC} {G : Hp} {vs : List V} {ds : List D} (r : Reps cc G vs ds) (lo hi : Option Int) : Reps cc G (cutV vs lo hi) (cutL ds lo hi) := by
  unfold cutV cutL
  rw [r.length]
  exact (r.drop _).take _
def opSl (lo hi : Option Int) : D → OW
  | .lst ds => fun k => k (.fr (.lst (cutL ds lo hi)))
  | _ => fun _ => False
def eSl (wa : EW) (pl ph : PWt) : EW := fun xk ρ K => wa xk ρ fun r ρ1 => pl xk ρ1 fun l ρ2 => ph xk ρ2 fun h ρ3 => pok r ρ3 ∧ opSl l h (r.get ρ3) fun o => out o ρ3 K
theorem pend_mono {r : Rv} {ρ ρ' : REnv} {G G' H H' : Hp} {σ : L2.St} {v : V} (le : LE G G') (q : RvOk Z r.pend ρ G σ H v) (pk : pok r ρ') : RvOk Z r.pend ρ' G' σ H' v := by
  cases r with
  | loc i => exact ⟨q.1, pk⟩
  | sh d => exact Rep.mono (d := d) le q
  | fr a d => exact Rep.mono (d := d) le q
  | gh j a => exact ⟨q.1, pk⟩
  | gx as cs t => exact Rep.mono (d := t) le q
theorem de_slice {lo hi : Option Expr} {pl ph : PWt} {p2 : Pos} (hK : Z.cc.K = X.K) (he : PE X e (T Z wa)) (hl : PO X lo (Tp Z pl)) (hu : PO X hi (Tp Z ph)) : PE X (.Subscript e (.Slice lo hi none p2) pos) (T Z (eSl wa pl ph)) :=
  ⟨fun pins s σ H Q I ⟨ρ, G, K, IR, hw, q⟩ => (pe_slice sl_list he hl hu).run pins s σ H Q I ⟨ρ, G, _, IR, hw, fun r ρ1 x H1 G1 le1 I1 q1 k1 => by
    obtain ⟨G1', le, I1', q1'⟩ := I1.freeze q1
    refine ⟨ρ1, G1', _, I1', k1, fun l ρ2 H2 G2 le2 I2 k2 => ⟨ρ2, G2, _, I2, k2, fun h ρ3 H3 G3 le3 I3 k3 => ?_⟩⟩
    have qf := pend_mono (H' := H3) (le2.trans le3) q1' k3.1
    have vw := qf.view I3
    rw [Rv.get_pend] at vw
    have k4 := k3.2
    cases hd : r.get ρ3 <;> rw [hd] at k4 vw <;> try exact (k4 : False).elim
    rename_i ds
    obtain ⟨a, vs, ea, ra, rs⟩ := vw
    refine ⟨a, vs, ea, by rw [← hK]; exact ra, fun p hp => ?_⟩
    exact (T.fin (o := .fr (.lst (cutL ds l h))) I3 (((le1.trans le).trans le2).trans le3) k4 q) p _ hp ⟨_, upd_same, rs.cut l h⟩⟩⟩
def opRev : D → OW
  | .lst ds => fun k => k (.fr (.lst ds.reverse))
  | _ => fun _ => False
/-! ### built-in functions -/
variable {x : Str} {p : Pos} {id TT : String} {r : List V → Hp → VK → Prop}
theorem via_c1 {op : D → OW} (hs : OpS1 Z.cc op fun v H Q => r [v] H Q) : Via Z (tCB r (tCons (T Z w) tNil)) (eUn op w) := via_un hs
theorem via_c2 {op : D → D → OW} (hs : OpS Z.cc op fun v u H Q => r [v, u] H Q) : Via Z (tCB r (tCons (T Z wa) (tCons (T Z wb) tNil))) (eBin op wa wb) := via_bin hs
theorem de_b1 {op : D → OW} (hc : CallR X (.builtin id) r) (hs : OpS1 Z.cc op fun v H Q => r [v] H Q) (hm : X.mg x = none) (ha : PE X e (T Z w)) (hv : bootBuiltins x = some (.builtin id) := by decide +kernel) (hg : Gl X x := by rfl) (hn : x ≠ "__name__" := by decide) (hdb : (x == ("__debug__" : Str)) = false := by decide)
    (hst : starEach [e] X.env = (false, eval e X.env) :: starEach [] X.env := by rfl) (hpl : (backTo pos (starEach [] X.env)).any (·.1) = false := by rfl) : PE X (.Call (.Name x p) [e] [] pos) (T Z (eUn op w)) :=
  pvia (pe_callB hc hg hm hv (pa_cons ha pa_nil hst) hn hdb hst hpl) (via_c1 hs)
theorem de_t1 {op : D → OW} (hc : CallR X (.type TT) r) (hs : OpS1 Z.cc op fun v H Q => r [v] H Q) (hm : X.mg x = none) (ha : PE X e (T Z w)) (hv : bootBuiltins x = some (.type TT) := by decide +kernel) (hg : Gl X x := by rfl) (hn : x ≠ "__name__" := by decide) (hdb : (x == ("__debug__" : Str)) = false := by decide)
    (hst : starEach [e] X.env = (false, eval e X.env) :: starEach [] X.env := by rfl) (hpl : (backTo pos (starEach [] X.env)).any (·.1) = false := by rfl) : PE X (.Call (.Name x p) [e] [] pos) (T Z (eUn op w)) :=
  pvia (pe_callTy hc hg hm hv (pa_cons ha pa_nil hst) hn hdb hst hpl) (via_c1 hs)
theorem de_b2 {op : D → D → OW} (hc : CallR X (.builtin id) r) (hs : OpS Z.cc op fun v u H Q => r [v, u] H Q) (hm : X.mg x = none) (ha : PE X a (T Z wa)) (hb : PE X b (T Z wb)) (hv : bootBuiltins x = some (.builtin id) := by decide +kernel) (hg : Gl X x := by rfl) (hn : x ≠ "__name__" := by decide) (hdb : (x == ("__debug__" : Str)) = false := by decide)
    (hst : starEach [a, b] X.env = (false, eval a X.env) :: starEach [b] X.env := by rfl) (hst2 : starEach [b] X.env = (false, eval b X.env) :: starEach [] X.env := by rfl) (hpl : (backTo pos (starEach [b] X.env)).any (·.1) = false := by rfl) : PE X (.Call (.Name x p) [a, b] [] pos) (T Z (eBin op wa wb)) :=
  pvia (pe_callB hc hg hm hv (pa_cons ha (pa_cons hb pa_nil hst2) hst) hn hdb hst hpl) (via_c2 hs)
end
section
variable {cc : CC} {X : Cx}
def opAbs : D → OW
  | .int i => fun k => k (.sh (.int (if i < 0 then -i else i)))
  | _ => fun _ => False
theorem ops_abs : OpS1 cc opAbs fun v H Q => (fun xs H Q => ∃ i, xs = [V.int i] ∧ Q (.int (if i < 0 then -i else i)) H) [v] H Q := by
  intro G H x d k Q le v _ ho fin
  unfold opAbs at ho
  split at ho
  · exact ⟨_, by rw [show x = _ from v], (fin _ ho).1 _ rep_int⟩
  · exact ho.elim
def opInt : D → OW
  | .int i => fun k => k (.sh (.int i))
  | .bl b => fun k => k (.sh (.int (if b then 1 else 0)))
  | _ => fun _ => False
theorem ops_int1 : OpS1 cc opInt fun v H Q => (fun xs H Q => (∃ i, xs = [V.int i] ∧ Q (.int i) H) ∨ ∃ k, xs = [.bl k] ∧ Q (.int (if k then 1 else 0)) H) [v] H Q := by
  intro G H x d k Q le v _ ho fin
  unfold opInt at ho
  split at ho
  · exact .inl ⟨_, by rw [show x = _ from v], (fin _ ho).1 _ rep_int⟩
  · exact .inr ⟨_, by rw [show x = _ from v], (fin _ ho).1 _ rep_int⟩
  · exact ho.elim
def opMax2 : D → D → OW
  | .int i, .int j => fun k => k (.sh (.int (if j > i then j else i)))
  | _, _ => fun _ => False
def opMin2 : D → D → OW
  | .int i, .int j => fun k => k (.sh (.int (if j < i then j else i)))
  | _, _ => fun _ => False
theorem ops_max2 : OpS cc opMax2 fun v u H Q => (fun xs H Q => ∃ i j, xs = [V.int i, V.int j] ∧ Q (.int (if j > i then j else i)) H) [v, u] H Q := by
  intro G H x y d e k Q le v1 v2 _ _ ho fin
  unfold opMax2 at ho
  split at ho
  · exact ⟨_, _, by rw [show x = _ from v1, show y = _ from v2], (fin _ ho).1 _ rep_int⟩
  · exact ho.elim
theorem ops_min2 : OpS cc opMin2 fun v u H Q => (fun xs H Q => ∃ i j, xs = [V.int i, V.int j] ∧ Q (.int (if j < i then j else i)) H) [v, u] H Q := by
  intro G H x y d e k Q le v1 v2 _ _ ho fin
  unfold opMin2 at ho
  split at ho
  · exact ⟨_, _, by rw [show x = _ from v1, show y = _ from v2], (fin _ ho).1 _ rep_int⟩
  · exact ho.elim
def opLen : D → OW
  | .lst ds => fun k => k (.sh (.int ds.length))
  | .tup ds => fun k => k (.sh (.int ds.length))
  | .str z => fun k => z.length ≤ sizeLine ∧ k (.sh (.int z.length))
  | _ => fun _ => False
abbrev rLen (K : PySem.W.Frag) : List V → Hp → VK → Prop := fun xs H Q => (∃ p ys, xs = [.ref p] ∧ (SqL K H p ys ∨ SqT K H p ys) ∧ Q (.int ys.length) H) ∨ (∃ z, xs = [.str z] ∧ z.length ≤ sizeLine ∧ Q (.int z.length) H)
theorem call_lenA : CallR X (.builtin "len") (rLen X.K) := call_len_seq.or call_len_str
theorem ops_len {K : PySem.W.Frag} (hK : cc.K = K) : OpS1 cc opLen fun v H Q => rLen K [v] H Q := by
  subst hK
  intro G H x d k Q le v _ ho fin
  unfold opLen at ho
  split at ho
  · obtain ⟨a, vs, ea, ra, rs⟩ := v
    exact .inl ⟨a, vs, by rw [ea], .inl (ra), by rw [rs.length]; exact (fin _ ho).1 _ rep_int⟩
  · obtain ⟨a, vs, ea, ra, rs⟩ := v
    exact .inl ⟨a, vs, by rw [ea], .inr (SqT.of ra), by rw [rs.length]; exact (fin _ ho).1 _ rep_int⟩
  · exact .inr ⟨_, by rw [show x = _ from v], ho.1, (fin _ ho.2).1 _ rep_int⟩
  · exact ho.elim
def opList : D → OW
  | .lst ds => fun k => k (.fr (.lst ds))
  | .tup ds => fun k => k (.fr (.lst ds))
  | _ => fun _ => False
theorem ops_list {K : PySem.W.Frag} (hK : cc.K = K) : OpS1 cc opList fun v H Q => (fun xs H Q => ∃ p ys, xs = [V.ref p] ∧ (SqL K H p ys ∨ SqT K H p ys) ∧ ∀ l, H l = none → Q (.ref l) (upd H l (.lst ys))) [v] H Q := by
  subst hK
  intro G H x d k Q le v _ ho fin
  unfold opList at ho
  split at ho
  · obtain ⟨a, vs, ea, ra, rs⟩ := v
    exact ⟨a, vs, by rw [ea], .inl (ra), fun l hl => (fin _ ho) l _ hl ⟨_, upd_same, rs⟩⟩
  · obtain ⟨a, vs, ea, ra, rs⟩ := v
    exact ⟨a, vs, by rw [ea], .inr (SqT.of ra), fun l hl => (fin _ ho) l _ hl ⟨_, upd_same, rs⟩⟩
  · exact ho.elim
theorem Reps.ints {G : Hp} : ∀ {ns : List Int} {vs : List V}, Reps cc G vs (ns.map D.int) → vs = ns.map V.int
  | [], _, h => h.inv_nil
  | n :: ns, _, h => by
    obtain ⟨v, r, rfl, rv, rr⟩ := h.inv_cons
    unfold Rep at rv
    rw [rv, Reps.ints rr]
    rfl
theorem Reps.bls {G : Hp} : ∀ {ns : List Bool} {vs : List V}, Reps cc G vs (ns.map D.bl) → vs = ns.map V.bl
  | [], _, h => h.inv_nil
  | n :: ns, _, h => by
    obtain ⟨v, r, rfl, rv, rr⟩ := h.inv_cons
    unfold Rep at rv
    rw [rv, Reps.bls rr]
    rfl
def opAll : D → OW
  | .lst ds => fun k => ∃ bs : List Bool, ds = bs.map D.bl ∧ k (.sh (.bl (bs.all id)))
  | _ => fun _ => False
theorem ops_all {K : PySem.W.Frag} (hK : cc.K = K) : OpS1 cc opAll fun v H Q => rAll K [v] H Q := by
  subst hK
  intro G H x d k Q le v _ ho fin
  unfold opAll at ho
  split at ho
  · obtain ⟨a, vs, ea, ra, rs⟩ := v
    obtain ⟨ns, rfl, hk⟩ := ho
    have e := rs.bls
    subst e
    exact ⟨a, ns, by rw [ea], ra, (fin _ hk).1 _ rep_bl⟩
  · exact ho.elim
def opMax1 : D → OW
  | .lst ds => fun k => ∃ ns : List Int, ds = ns.map D.int ∧ 0 < ns.length ∧ ∀ m, m ∈ ns → (∀ y, y ∈ ns → y ≤ m) → k (.sh (.int m))
  | _ => fun _ => False
theorem ops_max1 {K : PySem.W.Frag} (hK : cc.K = K) : OpS1 cc opMax1 fun v H Q => rMax K [v] H Q := by
  subst hK
  intro G H x d k Q le v _ ho fin
  unfold opMax1 at ho
  split at ho
  · obtain ⟨a, vs, ea, ra, rs⟩ := v
    obtain ⟨ns, rfl, hl, hk⟩ := ho
    have e := rs.ints
    subst e
    exact ⟨a, ns, by rw [ea], ra, hl, fun m h1 h2 => (fin _ (hk m h1 h2)).1 _ rep_int⟩
  · exact ho.elim
def opMin1 : D → OW
  | .lst ds => fun k => ∃ ns : List Int, ds = ns.map D.int ∧ 0 < ns.length ∧ ∀ m, m ∈ ns → (∀ y, y ∈ ns → m ≤ y) → k (.sh (.int m))
  | _ => fun _ => False
theorem ops_min1 {K : PySem.W.Frag} (hK : cc.K = K) : OpS1 cc opMin1 fun v H Q => rMin K [v] H Q := by
  subst hK
  intro G H x d k Q le v _ ho fin
  unfold opMin1 at ho
  split at ho
  · obtain ⟨a, vs, ea, ra, rs⟩ := v
    obtain ⟨ns, rfl, hl, hk⟩ := ho
    have e := rs.ints
    subst e
    exact ⟨a, ns, by rw [ea], ra, hl, fun m h1 h2 => (fin _ (hk m h1 h2)).1 _ rep_int⟩
  · exact ho.elim

/-! ### == and != -/
mutual
def pd : D → PyData
  | .non => .none
  | .bl b => .bool b
  | .int i => .int i
  | .str x => .str x
  | .tup ds => .tuple (pds ds)
  | .lst ds => .list (pds ds)
  | .obj _ _ => .none
  | .dct _ _ => .none
  | .dic _ _ => .none
  | .ptr _ => .none
def pds : List D → List PyData
  | [] => []
  | d :: ds => pd d :: pds ds
end
mutual
/-- plain data, at most n deep -/
def okD (n : Nat) : D → Bool
  | .non => true
  | .bl _ => true
  | .int _ => true
  | .str x => PyData.strOk x
  | .tup ds => match n with | 0 => false | m + 1 => okDs m ds
  | .lst ds => match n with | 0 => false | m + 1 => okDs m ds
  | .obj _ _ => false
  | .dct _ _ => false
  | .dic _ _ => false
  | .ptr _ => false
def okDs (n : Nat) : List D → Bool
  | [] => true
  | d :: ds => okD n d && okDs n ds
end
def eqD (d e : D) : Bool := PyData.eqv (pd d) (pd e)
def eqDs (d e : List D) : Bool := PyData.eqvAll (pds d) (pds e)
mutual
theorem okD_lay : ∀ {n : Nat} {d : D}, okD n d = true → PyData.canLay0 (pd d) = true ∧ PyData.depth (pd d) ≤ n
  | n, .non, _ => by simp [pd, PyData.canLay0, PyData.depth]
  | n, .bl _, _ => by simp [pd, PyData.canLay0, PyData.depth]
  | n, .int _, _ => by simp [pd, PyData.canLay0, PyData.depth]
  | n, .str x, h => by
    have : PyData.strOk x = true := by simpa [okD] using h
    simp [pd, PyData.canLay0, PyData.depth, this]
  | 0, .tup ds, h => by simp [okD] at h
  | n + 1, .tup ds, h => by
    have := okDs_lay (n := n) (ds := ds) (by simpa [okD] using h)
    simp only [pd, PyData.canLay0, PyData.depth]
    exact ⟨this.1, by omega⟩
  | 0, .lst ds, h => by simp [okD] at h
  | n + 1, .lst ds, h => by
    have := okDs_lay (n := n) (ds := ds) (by simpa [okD] using h)
    simp only [pd, PyData.canLay0, PyData.depth]
    exact ⟨this.1, by omega⟩
  | n, .obj _ _, h => by simp [okD] at h
  | n, .dct _ _, h => by simp [okD] at h
  | n, .dic _ _, h => by simp [okD] at h
  | n, .ptr _, h => by simp [okD] at h
theorem okDs_lay : ∀ {n : Nat} {ds : List D}, okDs n ds = true → PyData.canLayAll0 (pds ds) = true ∧ PyData.depthAll (pds ds) ≤ n
  | n, [], _ => by simp [pds, PyData.canLayAll0, PyData.depthAll]
  | n, d :: ds, h => by
    have h : okD n d = true ∧ okDs n ds = true := by simpa [okDs] using h
    have h1 := okD_lay h.1
    have h2 := okDs_lay h.2
    simp only [pds, PyData.canLayAll0, PyData.depthAll, Bool.and_eq_true]
    exact ⟨⟨h1.1, h2.1⟩, by omega⟩
end
theorem okD_shaped {d : D} (h : okD 64 d = true) : SeqAt.shaped (pd d) = true := by
  have := okD_lay h
  unfold SeqAt.shaped
  rw [this.1, Bool.true_and]
  exact decide_eq_true this.2
mutual
theorem okD_dp {H : Hp} : ∀ {n : Nat} {d : D} {v : V}, okD n d = true → Rep cc H v d → Dp cc.K H v (pd d)
  | n, .non, v, _, r => by unfold Rep at r; subst r; exact .non
  | n, .bl _, v, _, r => by unfold Rep at r; subst r; exact .bl _
  | n, .int _, v, _, r => by unfold Rep at r; subst r; exact .int _
  | n, .str x, v, _, r => by unfold Rep at r; subst r; exact .str _
  | 0, .tup ds, _, h, _ => by simp [okD] at h
  | n + 1, .tup ds, v, h, r => by
    unfold Rep at r
    obtain ⟨a, vs, rfl, ra, rs⟩ := r
    exact .tup (SqT.of ra) (okDs_dp (n := n) (by simpa [okD] using h) rs)
  | 0, .lst ds, _, h, _ => by simp [okD] at h
  | n + 1, .lst ds, v, h, r => by
    unfold Rep at r
    obtain ⟨a, vs, rfl, ra, rs⟩ := r
    exact .lst (ra) (okDs_dp (n := n) (by simpa [okD] using h) rs)
  | n, .obj _ _, _, h, _ => by simp [okD] at h
  | n, .dct _ _, _, h, _ => by simp [okD] at h
  | n, .dic _ _, _, h, _ => by simp [okD] at h
  | n, .ptr _, _, h, _ => by simp [okD] at h
theorem okDs_dp {H : Hp} : ∀ {n : Nat} {ds : List D} {vs : List V}, okDs n ds = true → Reps cc H vs ds → DpAll cc.K H vs (pds ds)
  | n, [], vs, _, r => by rw [r.inv_nil]; exact .nil
  | n, d :: ds, vs, h, r => by
    have h : okD n d = true ∧ okDs n ds = true := by simpa [okDs] using h
    obtain ⟨v, us, rfl, rv, rr⟩ := r.inv_cons
    exact .cons (okD_dp h.1 rv) (okDs_dp h.2 rr)
end
def opEq : D → D → OW := fun d e k => (okD 64 d = true ∧ okD 64 e = true) ∧ k (.sh (.bl (eqD d e)))
def opNe : D → D → OW := fun d e k => (okD 64 d = true ∧ okD 64 e = true) ∧ k (.sh (.bl (!eqD d e)))
theorem ops_eq {K : PySem.W.Frag} (hK : cc.K = K) : OpS cc opEq (rEqD K) := by
  subst hK
  intro G H x y d e k Q le _ _ r1 r2 ho fin
  exact ⟨pd d, pd e, okD_dp ho.1.1 r1, okD_dp ho.1.2 r2, okD_shaped ho.1.1, okD_shaped ho.1.2, (fin _ ho.2).1 _ rep_bl⟩
theorem ops_ne {K : PySem.W.Frag} (hK : cc.K = K) : OpS cc opNe (rNeD K) := by
  subst hK
  intro G H x y d e k Q le _ _ r1 r2 ho fin
  exact ⟨pd d, pd e, okD_dp ho.1.1 r1, okD_dp ho.1.2 r2, okD_shaped ho.1.1, okD_shaped ho.1.2, (fin _ ho.2).1 _ rep_bl⟩
/-! ### is None -/
def isNon : D → Bool
  | .non => true
  | _ => false
def opIsN : D → OW := fun d k => k (.sh (.bl (isNon d)))
def opNotN : D → OW := fun d k => k (.sh (.bl (!isNon d)))
end
section
variable {X : Cx} {Z : Zone} {e : Expr} {w : EW} {pos : Pos}
end
end TL

namespace TL
open PySem PySem.Spec L2

def setAt {α : Type} (xs : List α) (j : Nat) (x : α) : List α := if j < xs.length then xs.set j x else xs ++ [x]
/-- what a class must have to be read and stored -/
structure ClsOk (K : PySem.W.Frag) (C : Addr × List Str) : Prop where
  cl : Cls K C.1
  na : ∀ f ∈ C.2, NoAttr K C.1 f
  nd : C.2.Nodup
  few : C.2.length ≤ 900
section
variable {X : Cx} {Z : Zone} {e : Expr} {w : EW} {pos : Pos} {c j i : Nat} {f : Str}
def eFld (c j : Nat) (w : EW) : EW := fun xk ρ K => w xk ρ fun r ρ1 => match r.get ρ1 with
  | .obj c' ds => c' = c ∧ match ds[j]? with | some d => K (.sh d) ρ1 | none => False
  | _ => False
/-- self.f = e -/
def sFld (i c j : Nat) (w : EW) : SW := fun xk ρ K => w xk ρ fun r ρ1 => stl r ρ1 fun d ρ2 => match ρ2[i]? with
  | some (.own m a (.obj c' ds)) => c' = c ∧ j ≤ ds.length ∧ K.nx (ρ2.set i (.own m a (.obj c (setAt ds j d))))
  | _ => False
theorem Root.obj {cc : CC} {G H : Hp} {a dx : Addr} {c : Nat} {vs : List V} {ds : List D} (h : H a = some (.ins (cc.cl c).1 dx ((cc.cl c).2.zip vs))) (l : vs.length ≤ (cc.cl c).2.length) (r : Reps cc G vs ds) : Root cc G H a (.obj c ds) := ⟨dx, vs, h, l, r⟩
def isObj (c : Nat) : D → Prop
  | .obj c' _ => c' = c
  | _ => False
variable {C : Ccs} {k : Nat} {fa p : Addr} {fd : FuncData} {ps : List Str} {sp : FSpec} {aw : AgW} {m : Str} {es : List Expr}
/-- e.f, a property -/
def eProp (c : Nat) (sp : FSpec) (w : EW) : EW := fun xk ρ K => w xk ρ fun r ρ1 => stl r ρ1 fun d ρ2 => isObj c d ∧ callK sp [.ro d] ρ2 xk K
/-- e.m(..) -/
def eMeth (c np : Nat) (sp : FSpec) (w : EW) (aw : AgW) : EW := fun xk ρ K => w xk ρ fun r ρ1 => stl r ρ1 fun d ρ2 => isObj c d ∧ aw xk ρ2 fun gs ρ3 => gs.length + 1 = np ∧ callK sp (.ro d :: gs) ρ3 xk K
/-- e.m() -/
def eMeth0 (c : Nat) (sp : FSpec) (w : EW) : EW := eProp c sp w
/-- C(..): a new object, by __init__ -/
def eMake (c np : Nat) (sp : FSpec) (aw : AgW) : EW := fun xk ρ K => aw xk ρ fun gs ρ1 => gs.length + 1 = np ∧ (boIx gs ++ muIx gs).Nodup ∧ tms gs = 0 ∧
  argsK gs ρ1 fun args => sp (.mu (.obj c []) :: args) (fun o ds => match o, ds with
    | .sh .non, d0 :: rest => (hasBo gs = true → chFlat d0 = true ∧ noLstAll rest = true) ∧ ∀ a, K (.fr a d0) (upE gs rest ρ1)
    | _, _ => False) (fun c d => xk c d ρ1)
end

/-! ### the law -/
theorem reps_ints {cc : CC} {G : Hp} : ∀ ns : List Int, Reps cc G (ns.map V.int) (ns.map D.int)
  | [] => Reps.nil
  | n :: ns => Reps.cons rep_int (reps_ints ns)
end TL

namespace TL
open PySem PySem.Spec L2

/-! ### calls with keywords alone -/
section
variable {X : Cx} {Z : Zone} {e : Expr} {es : List Expr} {w : EW} {r : AgW} {kws : List Keyword} {nm : Option Str} {kpos : Pos}
theorem dkg_nil : PK X [] (Tag Z agNil) := ⟨fun pos pins s σ H Q I ⟨ρ, G, K, IR, hw, q⟩ => pk_nil.run pos pins s σ H Q I (q [] ρ [] H G (LE.refl G) IR trivial hw)⟩
theorem dkg_ro (ha : PE X e (T Z w)) (hr : PK X kws (Tag Z r)) : PK X (⟨nm, e, kpos⟩ :: kws) (Tag Z (agRo w r)) :=
  ⟨fun pos pins s σ H Q I ⟨ρ, G, K, IR, hw, q⟩ => (pk_cons ha hr).run pos pins s σ H Q I ⟨ρ, G, _, IR, hw, fun rv ρ1 v H1 G1 le1 I1 q1 k1 => by
    obtain ⟨d, ρ2, G2, le2, I2, rp, k2, _⟩ := I1.settle q1 k1
    exact ⟨ρ2, G2, _, I2, k2, fun gs ρ3 vs H3 G3 le3 I3 rs k3 => q (.ro d :: gs) ρ3 (v :: vs) H3 G3 ((le1.trans le2).trans le3) I3 ⟨(rp.mono le3 : Rep _ _ _ _), rs⟩ k3⟩⟩⟩
/-- the entries of xs in another order -/
def pm {α : Type} (p : List Nat) (xs : List α) : List α := p.filterMap fun i => xs[i]?
structure KBp (K : PySem.W.Frag) (fd : FuncData) (ps ks : List Str) (p : List Nat) : Prop where
  to : ∀ (s : Shared) (ws : List Value), ws.length = ks.length → BindsTo s fd ⟨[], ks.zip ws⟩ (ps.zip (pm p ws))
theorem pm_vals {p : List Nat} {vs : List V} {us : List Value} (r : Vals vs us) : Vals (pm p vs) (pm p us) := by
  induction p with
  | nil => exact .nil
  | cons i p ih =>
    unfold pm
    simp only [List.filterMap_cons]
    cases e : vs[i]? with
    | none => rw [r.none_of e]; exact ih
    | some v =>
      obtain ⟨u, h1, h2⟩ := r.get e
      rw [h1]
      exact .cons h2 ih
theorem AgsOk.get {ρ : REnv} {G H : Hp} {σ : L2.St} : ∀ {vs : List V} {gs : List Ag} {i : Nat}, AgsOk Z ρ G σ H vs gs → (vs[i]? = none ∧ gs[i]? = none) ∨ ∃ v g, vs[i]? = some v ∧ gs[i]? = some g ∧ AgOk Z ρ G σ H v g
  | [], [], _, _ => .inl ⟨by simp, by simp⟩
  | v :: vs, g :: gs, 0, h => .inr ⟨v, g, rfl, rfl, h.1⟩
  | v :: vs, g :: gs, i + 1, h => by simpa using AgsOk.get (i := i) h.2
  | [], _ :: _, _, h => h.elim
  | _ :: _, [], _, h => h.elim
theorem pm_ags {ρ : REnv} {G H : Hp} {σ : L2.St} {p : List Nat} {vs : List V} {gs : List Ag} (r : AgsOk Z ρ G σ H vs gs) : AgsOk Z ρ G σ H (pm p vs) (pm p gs) := by
  induction p with
  | nil => exact trivial
  | cons i p ih =>
    unfold pm
    simp only [List.filterMap_cons]
    rcases r.get (i := i) with ⟨h1, h2⟩ | ⟨v, g, h1, h2, h3⟩
    · rw [h1, h2]; exact ih
    · rw [h1, h2]; exact ⟨h3, ih⟩
def eCallP (np : Nat) (p : List Nat) (sp : FSpec) (aw : AgW) : EW := fun xk ρ K => aw xk ρ fun gs ρ1 => (gs.length = np ∧ (pm p gs).length = np) ∧ callK sp (pm p gs) ρ1 xk K
variable {C : Ccs} {k : Nat} {f : Addr} {fd : FuncData} {ps ks : List Str} {sp : FSpec} {aw : AgW} {x : Str} {p : Pos} {pos : Pos} {pr : List Nat}
theorem de_callP (hcc : Z.cc = C.cc) (hz : Z.xk = xk0) (F : FnOk X.prog X.w X.K X.mg X.base CX0 k f fd ps (LSp0 C sp ps.length)) (hr : Room k X.A) (hm : X.mg x = some (.ref f)) (hk : PySem.W.keepIn X.K (.ref f) = true) (hb : KBp X.K fd ps ks pr) (hl : ks.length = ps.length)
    (hkw : PK X kws (Tag Z aw)) (hg : Gl X x := by rfl) (hall : (backToKw pos (keywordEach kws X.env)).all (·.1.isSome) = true := by rfl) (hks : (backToKw pos (keywordEach kws X.env)).filterMap (·.1) = ks := by rfl) (hdb : (x == ("__debug__" : Str)) = false := by decide)
    (hpl : ((backTo pos (starEach [] X.env)).any (·.1) || (backToKw pos (keywordEach kws X.env)).any (·.1.isNone)) = false := by rfl) :
    PE X (.Call (.Name x p) [] kws pos) (T Z (eCallP ps.length pr sp aw)) := by
  refine ⟨fun pins s σ H Q I ⟨ρ, G, K, IR, hw, q⟩ => ?_⟩
  refine wpAny_Call_Name_kw (ld_glob I hg hm ?_ hdb)
  refine PySem.W.callWith_KW0 (h₀ := X.base) I.ok.mod.kin hk hall ?_ hpl
  refine thn (hkw.run pos pins s σ H (fun zs H2 => zs.length = ks.length ∧ (pm pr zs).length = ps.length ∧ LSp0 C sp ps.length (pm pr zs) H2 Q E0) I ⟨ρ, G, _, IR, hw, fun gs ρ1 vs H1 G1 le1 I1 qs ⟨⟨l1, l2⟩, k1⟩ => ?_⟩) fun ws s2 ⟨zs, H2, I2, rz, l1, l2, q2⟩ => ⟨I2.kIn, ?_⟩
  · have e1 := qs.len
    have e2 := (pm_ags (p := pr) qs).len
    refine ⟨by omega, by omega, ?_⟩
    exact call_lsp hcc hz (by omega) I1 (pm_ags qs).x0 k1 fun r ρ2 v H2 G2 le2 I2 q2 k2 => q r ρ2 v H2 G2 (le1.trans le2) I2 q2 k2
  · rw [hks]
    have rv := pm_vals (p := pr) rz
    refine wpAny_call (codeAny_mono (F.run X.A X.stack s2 H2 ⟨[], ks.zip ws⟩ (pm pr ws) (pm pr zs) Q E0 hr I2.env0 (hb.to s2 ws (by rw [← rz.length]; exact l1)) rv q2) fun r s' hq => ?_)
    cases r with
    | error e => exact hq.elim
    | ok fl =>
      cases fl with
      | ret u => exact I2.after hq
      | next => exact False.elim hq
      | brk => exact False.elim hq
      | cont => exact False.elim hq
end

/-! ### enumerate -/
section
variable {X : Cx} {Z : Zone} {e : Expr} {w : EW} {pos : Pos}
def iEnum (w : EW) : IW := fun xk ρ K => w xk ρ fun r ρ1 => match r.get ρ1 with | .lst ds => K ds.length (fun i d => ∃ d0, ds[i]? = some d0 ∧ d = .tup [.int i, d0]) (stab r ρ1) ρ1 | _ => False
/-! ### x += n; xs.extend, reverse, pop -/
def sAug (i : Nat) (w : EW) : SW := fun xk ρ K => bound ρ i ∧ w xk ρ fun r ρ1 => match getL ρ i, r.get ρ1 with
  | .int a, .int b => K.nx (ρ1.set i (.sh (.int (a + b))))
  | _, _ => False
def sRevI (j : Nat) : SW := fun _ ρ K => match ρ[j]? with
  | some (.own m a (.lst ds)) => K.nx (ρ.set j (.own m a (.lst ds.reverse)))
  | _ => False
theorem ds_revI {j : Nat} {x : Str} {px apos cpos : Pos} (hN : X.N[j]? = some x := by rfl) (hv : Vis X.env.scope x := by first | exact Or.inl rfl | exact Or.inr (Or.inl rfl) | exact Or.inr (Or.inr rfl)) (hd : (x == ("__debug__" : Str)) = false := by decide)
    (hcd : (x == ("__classdict__" : Str)) = false := by decide)
    (hbase : attributeBase (.Name x px) "reverse" X.env (eval (.Name x px) X.env) = eval (.Name x px) X.env := by rfl) (hline : (apos.endLine == cpos.line) = true := by rfl)
    (hs : swapsWith (.Call (.Attribute (.Name x px) "reverse" apos) [] [] cpos) none pos.line X.env = pure false := by rfl) :
    PS X (.Expr (.Call (.Attribute (.Name x px) "reverse" apos) [] [] cpos) pos) (Ts Z (sRevI j)) :=
  ⟨fun pins s σ H D I ⟨ρ, G, K, IR, hw, l⟩ => (ps_expr (pe_bm0 PySem.F.plainAttrs_list PySem.F.slot_list_reverse PySem.F.type_list_reverse mt_reverse (pv j hN hv hd hcd) hbase hline) hs).run pins s σ H D I (by
    unfold sRevI at hw
    split at hw
    · rename_i m a ds hs
      obtain ⟨es, vs, ha, rs⟩ := IR.ownL hs
      have es := own_at (lt_len I hN) es
      exact ⟨.ref a, es, .inl ⟨rfl, vs, SqL.of ha⟩, a, vs, rfl, rfl, ha, l.nx _ _ _ G (LE.refl G) (IR.write hs (Root.lst upd_same rs.reverse)) hw⟩
    · exact hw.elim)⟩
def sPop (j : Nat) : SW := fun _ ρ K => match ρ[j]? with
  | some (.own m a (.lst ds)) => ds ≠ [] ∧ K.nx (ρ.set j (.own m a (.lst ds.dropLast)))
  | _ => False
theorem Reps.dropLast {cc : CC} {G : Hp} {vs : List V} {ds : List TL.D} (r : Reps cc G vs ds) : Reps cc G vs.dropLast ds.dropLast := by
  rw [List.dropLast_eq_take, List.dropLast_eq_take, r.length]
  exact r.take _
end
end TL

namespace TL
open PySem PySem.Spec L2

/-! ### isinstance of built-in types -/
inductive Ty where
  | int | bool | str | list | tuple | dict
def Ty.nm : Ty → String
  | .int => "int" | .bool => "bool" | .str => "str" | .list => "list" | .tuple => "tuple" | .dict => "dict"
def isTy : Ty → D → Bool
  | .int, .int _ => true
  | .int, .bl _ => true
  | .bool, .bl _ => true
  | .str, .str _ => true
  | .list, .lst _ => true
  | .tuple, .tup _ => true
  | _, _ => false
def noObj : D → Bool
  | .obj _ _ => false
  | .dct _ _ => false
  | .dic _ _ => false
  | .ptr _ => false
  | _ => true
def opIsI (t : Ty) : D → OW := fun d k => noObj d = true ∧ k (.sh (.bl (isTy t d)))
def tyN : D → String
  | .non => "NoneType" | .bl _ => "bool" | .int _ => "int" | .str _ => "str" | .tup _ => "tuple" | .lst _ => "list" | _ => "object"
theorem kit_tab (t : Ty) : ∀ n, n ∈ ["NoneType", "bool", "int", "str", "tuple", "list"] → ∃ b, kitB n t.nm = some b ∧ (b = match t, n with
  | .int, "int" => true | .int, "bool" => true | .bool, "bool" => true | .str, "str" => true | .list, "list" => true | .tuple, "tuple" => true | _, _ => false) := by
  intro n hn
  simp only [List.mem_cons, List.not_mem_nil, or_false] at hn
  rcases hn with rfl | rfl | rfl | rfl | rfl | rfl <;> cases t <;> exact ⟨_, by decide +kernel, rfl⟩
section
variable {cc : CC}
theorem view_ty {K : PySem.W.Frag} (hK : cc.K = K) {G H : Hp} {x : V} {d : D} (h : noObj d = true) (v : View cc G H x d) : TyX K H x (.type (tyN d)) := by
  subst hK
  cases d with
  | non => cases (show x = _ from v); exact .base .non
  | bl b => cases (show x = _ from v); exact .base (.bl b)
  | int b => cases (show x = _ from v); exact .base (.int b)
  | str b => cases (show x = _ from v); exact .base (.str b)
  | tup ds => obtain ⟨a, vs, rfl, ra, _⟩ := v; exact .base (.tup ra)
  | lst ds =>
    obtain ⟨a, vs, rfl, ra, _⟩ := v
    rcases ra with (ra | ⟨o, ra⟩) | ⟨o, its, n, hk, hc, _⟩
    · exact .base (.lst ra)
    · exact .base (.frz ra)
    · exact .kList hk hc
  | obj _ _ => simp [noObj] at h
  | dct _ _ => simp [noObj] at h
  | dic _ _ => simp [noObj] at h
  | ptr _ => simp [noObj] at h
theorem kit_d (t : Ty) {d : D} (h : noObj d = true) : kitB (tyN d) t.nm = some (isTy t d) := by
  have hm : tyN d ∈ ["NoneType", "bool", "int", "str", "tuple", "list"] := by cases d <;> simp [tyN] <;> simp [noObj] at h
  obtain ⟨b, h1, h2⟩ := kit_tab t _ hm
  rw [h1, h2]
  cases d <;> cases t <;> first | rfl | simp [noObj] at h
theorem boot_isi : bootBuiltins "isinstance" = some (.builtin "isinstance") := by decide +kernel
theorem boot_ty (t : Ty) : bootBuiltins (Str.ofString t.nm) = some (.type t.nm) := by cases t <;> decide +kernel
end
section
variable {X : Cx} {Z : Zone} {e : Expr} {w : EW} {pos p p2 : Pos}
theorem de_isI (t : Ty) {tn : Str} (hT : tn = Str.ofString t.nm) (hK : Z.cc.K = X.K) (hm : X.mg "isinstance" = none) (hmT : X.mg tn = none) (he : PE X e (T Z w)) (hg : Gl X "isinstance" := by rfl) (hgT : Gl X tn := by rfl) (hn : tn ≠ "__name__" := by decide) (hdb : (tn == ("__debug__" : Str)) = false := by decide)
    (hst : starEach [e, .Name tn p2] X.env = (false, eval e X.env) :: starEach [.Name tn p2] X.env := by rfl) (hst2 : starEach [.Name tn p2] X.env = (false, eval (.Name tn p2) X.env) :: starEach [] X.env := by rfl) (hpl : (backTo pos (starEach [.Name tn p2] X.env)).any (·.1) = false := by rfl) :
    PE X (.Call (.Name "isinstance" p) [e, .Name tn p2] [] pos) (T Z (eUn (opIsI t) w)) := by
  have hb : PE X (.Name tn p2) (tC (.ty t.nm)) := pe_bltn hgT hmT (by rw [hT]; exact boot_ty t) rfl hn hdb
  refine pvia (pe_callB call_isi hg hm boot_isi (pa_cons he (pa_cons hb pa_nil hst2) hst) (by decide) (by decide) hst hpl) ?_
  refine via_un (r := fun v H Q => rIsi X.K [v, .ty t.nm] H Q) fun G H x d k Q le v _ ho fin => ?_
  exact ⟨x, .ty t.nm, _, _, isTy t d, rfl, .ty t.nm, view_ty hK ho.1 v, kit_ty (kit_d t ho.1), (fin _ ho.2).1 _ rep_bl⟩
end
end TL

namespace TL
open PySem PySem.Spec L2
/-! ### an own root given up -/
def frz : Nat → REnv → REnv
  | _, [] => []
  | 0, .own false _ d :: ρ => .sh d :: ρ
  | 0, s :: ρ => s :: ρ
  | i + 1, s :: ρ => s :: frz i ρ
theorem frz_o {a : Addr} {d : D} {ρ : REnv} : frz 0 (.own false a d :: ρ) = .sh d :: ρ := rfl
theorem frz_sh {d : D} {ρ : REnv} : frz 0 (.sh d :: ρ) = .sh d :: ρ := rfl
theorem frz_s {i : Nat} {s : Sl} {ρ : REnv} : frz (i + 1) (s :: ρ) = s :: frz i ρ := by simp only [frz]
theorem frz_eq : ∀ (i : Nat) (ρ : REnv), frz i ρ = ρ ∨ ∃ a d, ρ[i]? = some (.own false a d) ∧ frz i ρ = ρ.set i (.sh d)
  | i, [] => .inl (by cases i <;> rfl)
  | 0, s :: ρ => by
    cases s with
    | no => exact .inl rfl
    | sh d => exact .inl rfl
    | own p a d =>
      cases p with
      | true => exact .inl rfl
      | false => exact .inr ⟨a, d, rfl, rfl⟩
  | i + 1, s :: ρ => by
    rcases frz_eq i ρ with h | ⟨a, d, h1, h2⟩
    · exact .inl (by rw [frz_s, h])
    · exact .inr ⟨a, d, by rw [List.getElem?_cons_succ]; exact h1, by rw [frz_s, h2, List.set_cons_succ]⟩
def sFrz (i : Nat) (s : SW) : SW := fun xk ρ K => s xk ρ { K with nx := fun ρ' => K.nx (frz i ρ') }
section
variable {X : Cx} {Z : Zone} {st : Stmt} {sa : SW}
theorem ds_frz {i : Nat} (h : PS X st (Ts Z sa)) (hi : (X.N[i]?).isSome = true := by rfl) : PS X st (Ts Z (sFrz i sa)) :=
  ⟨fun pins s σ H D I ⟨ρ, G, K, IR, hw, l⟩ => h.run pins s σ H D I ⟨ρ, G, _, IR, hw, ⟨fun ρ' σ' H' G' le I' k => by
    have k : K.nx (frz i ρ') := k
    rcases frz_eq i ρ' with e | ⟨a, d, h1, h2⟩
    · rw [e] at k; exact l.nx ρ' σ' H' G' le I' k
    · rw [h2] at k
      have hlt : i < σ'.length := by
        have h1 := I.len
        have h2 := IR.len.1
        have h3 := I'.len.1
        cases e : X.N[i]? with
        | none => rw [e] at hi; cases hi
        | some x => have := (List.getElem?_eq_some_iff.mp e).1; omega
      obtain ⟨G2, l2, I2, _⟩ := I'.leak h1 (own_at hlt (I'.slot i _ h1).1)
      exact l.nx _ σ' H' G2 (le.trans l2) I2 k, l.rt, l.bk, l.ct⟩⟩⟩
end
end TL

namespace TL
open PySem PySem.Spec L2
section
variable {X : Cx} {Z : Zone} {C : Ccs} {k c np : Nat} {f fa : Addr} {fd : FuncData} {ps ks : List Str} {sp : FSpec} {aw : AgW} {x m : Str} {p pos apos px : Pos} {pr : List Nat} {e a : Expr} {es : List Expr} {w : EW} {kws : List PySem.Keyword}
theorem de_callN (hcc : Z.cc = C.cc) (hz : Z.xk = xk0) (F : FnOk X.prog X.w X.K X.mg X.base CX0 k f fd ps (LSp0 C sp np)) (hr : Room k X.A) (hm : X.mg x = some (.ref f)) (hk : PySem.W.keepIn X.K (.ref f) = true) (hb : Binds X.K fd ps [])
    (ha : PA X (e :: es) (Tag Z aw)) (hn : np = ps.length := by rfl) (hg : Gl X x := by rfl) (hdb : (x == ("__debug__" : Str)) = false := by decide) (he : starEach (e :: es) X.env = (false, eval e X.env) :: starEach es X.env := by rfl) (hpl : (backTo pos (starEach es X.env)).any (·.1) = false := by rfl) :
    PE X (.Call (.Name x p) (e :: es) [] pos) (T Z (eCall np sp aw)) := by subst hn; exact de_call hcc hz F hr hm hk hb ha hg hdb he hpl
theorem de_callPN (hcc : Z.cc = C.cc) (hz : Z.xk = xk0) (F : FnOk X.prog X.w X.K X.mg X.base CX0 k f fd ps (LSp0 C sp np)) (hr : Room k X.A) (hm : X.mg x = some (.ref f)) (hk : PySem.W.keepIn X.K (.ref f) = true) (hb : KBp X.K fd ps ks pr) (hl : ks.length = ps.length)
    (hkw : PK X kws (Tag Z aw)) (hn : np = ps.length := by rfl) (hg : Gl X x := by rfl) (hall : (backToKw pos (keywordEach kws X.env)).all (·.1.isSome) = true := by rfl) (hks : (backToKw pos (keywordEach kws X.env)).filterMap (·.1) = ks := by rfl) (hdb : (x == ("__debug__" : Str)) = false := by decide)
    (hpl : ((backTo pos (starEach [] X.env)).any (·.1) || (backToKw pos (keywordEach kws X.env)).any (·.1.isNone)) = false := by rfl) :
    PE X (.Call (.Name x p) [] kws pos) (T Z (eCallP np pr sp aw)) := by subst hn; exact de_callP hcc hz F hr hm hk hb hl hkw hg hall hks hdb hpl
end
/-! ### the law's end -/
theorem law_spQ {C : Ccs} {sp : FSpec} {H : Hp} {a : Addr} {ns : List Int} {Q : VK} {E : XK} (hS : SqL C.cc.K H a (ns.map V.int)) (h : sp [.ro (.lst (ns.map D.int))] (fun o _ => o = .sh (.bl true)) (fun _ _ => False)) (k : ∀ H', Q (.bl true) H') :
    LSp0 C sp 1 [.ref a] H Q E := by
  have r : Rep C.cc H (.ref a) (.lst (ns.map D.int)) := by
    unfold Rep
    exact ⟨a, _, rfl, hS, reps_ints ns⟩
  refine ⟨rfl, [.ro (.lst (ns.map D.int))], H, [], _, LE.refl H, ⟨r, trivial⟩, h, fun o ds v H' G' _ _ _ _ _ ro e => ?_⟩
  have e : o = .sh (.bl true) := e
  subst e
  have ro : Rep C.cc G' v (.bl true) := ro
  unfold Rep at ro
  rw [ro]
  exact k H'
/-- the law's promise: at most 63 whole numbers come in, True goes out -/
def endSp (K : PySem.W.Frag) : Sp := fun vs H Q _ => ∃ (a : Addr) (ns : List Int), vs = [.ref a] ∧ SqL K H a (ns.map V.int) ∧ ns.length ≤ 63 ∧ (∀ z ∈ ns, Builtin.Int.intBits z ≤ 1048576) ∧ ∀ H', Q (.bl true) H'
theorem law_end {P : Program} {w : World} {K : PySem.W.Frag} {mg : Str → Option Value} {base : Heap} {C : Ccs} {k : Nat} {f : Addr} {fd : FuncData} {ps : List Str} {sp : FSpec} (F : FnOk P w K mg base CX0 k f fd ps (LSp0 C sp 1)) (hK : C.cc.K = K)
    (h : ∀ ns : List Int, ns.length ≤ 63 → (∀ z ∈ ns, z.natAbs.log2 < 2000000) → sp [.ro (.lst (ns.map D.int))] (fun o _ => o = .sh (.bl true)) (fun _ _ => False)) : FnOk P w K mg base CX0 k f fd ps (endSp K) :=
  F.imp fun vs H Q E ⟨a, ns, e, hS, hl, hb, k⟩ => by
    subst e
    refine law_spQ (by rw [hK]; exact hS) (h ns hl fun z hz => ?_) k
    have := hb z hz
    unfold Builtin.Int.intBits at this
    by_cases h0 : z = 0
    · subst h0; decide
    · rw [if_neg (by simpa using h0)] at this; omega
theorem walkT {l : PySem.W.OpenLaw} {q : Program} {loose : List Str} {XP : (Str → Option Value) → Heap → Prop} {YP : World → Heap → Prop} {d : DefRec} {K : Params → PySem.W.Frag} {k : Nat} (hn : l.most = some 63) (hdf : d.params.defaults = []) (hr : Room k callerA)
    (hY : ∀ (w : World) (h : Heap), YP w h → (K w.params).In h)
    (F : ∀ (w : World) (mg : Str → Option Value) (fa : Addr) (h : Heap), (K w.params).In h → h.Ns mainGlobals mg → mg d.name = some (.ref fa) →
      ∃ fd : FuncData, (∀ (s : Shared) (u : Value), BindsTo s fd ⟨[u], []⟩ [(("script" : Str), u)]) ∧ ∀ base : Heap, (K w.params).In base → base.Ns mainGlobals mg → FnOk l.prog w (K w.params) mg base CX0 k fa fd ["script"] (endSp (K w.params))) :
    PySem.W.WalkO q loose XP YP l.row.toRowW d [] (fun f vs => PySem.call f vs) :=
  L2.walk_ofB (n := 63) (k := k) (x := ("script" : Str)) (CX := fun _ => CX0) (sp := fun w => endSp (K w.params)) hn (by decide) hdf hr hY F (fun _ _ a ns hl hb _ hS => ⟨a, ns, rfl, hS, hl, hb, fun _ => rfl⟩) fun _ _ _ _ _ z => z
end TL

namespace TL
open PySem PySem.Spec L2
section
variable {X : Cx} {Z : Zone} {C : Ccs} {c k np : Nat} {fa : Addr} {fd : FuncData} {ps ks : List Str} {sp : FSpec} {aw : AgW} {m x : Str} {apos pos px : Pos} {pr : List Nat} {e a b : Expr} {w wa wb : EW} {kws : List PySem.Keyword}
/-- two values, both given up -/
def eTwo (wa wb : EW) (k : D → D → EW) : EW := fun xk ρ K => wa xk ρ fun r1 ρ1 => stl r1 ρ1 fun d1 ρ2 => wb xk ρ2 fun r2 ρ3 => stl r2 ρ3 fun d2 ρ4 => k d1 d2 xk ρ4 K
/-! ### len(o) -/
def okLen (K : Rv → REnv → Prop) : Rv → REnv → Prop := fun r ρ => (∃ n : Int, r = .sh (.int n) ∧ 0 ≤ n ∧ n < 2 ^ 63) ∧ K r ρ
def eLenO (c : Nat) (sp : FSpec) (w : EW) : EW := fun xk ρ K => w xk ρ fun r ρ1 => stl r ρ1 fun d ρ2 => isObj c d ∧ callK sp [.ro d] ρ2 xk (okLen K)
/-! ### a == b, a + b of own instances -/
def eOwn2 (c : Nat) (sp : FSpec) (wa wb : EW) : EW := eTwo wa wb fun d1 d2 xk ρ K => isObj c d1 ∧ isObj c d2 ∧ callK sp [.ro d1, .ro d2] ρ xk K
/-! ### isinstance(o, C) of an own instance -/
def opIsC (c : Nat) : D → OW := fun d k => isObj c d ∧ k (.sh (.bl true))
/-! ### o.m(k = v, ..), C(k = v, ..) -/
/-- how the keywords bind, behind one value -/
structure KBm (K : PySem.W.Frag) (fd : FuncData) (ps ks : List Str) (p : List Nat) : Prop where
  to : ∀ (s : Shared) (u : Value) (ws : List Value), ws.length = ks.length → BindsTo s fd ⟨[u], ks.zip ws⟩ (ps.zip (u :: pm p ws))
def eMethP (c np : Nat) (p : List Nat) (sp : FSpec) (w : EW) (aw : AgW) : EW := fun xk ρ K => w xk ρ fun r ρ1 => stl r ρ1 fun d ρ2 => isObj c d ∧ aw xk ρ2 fun gs ρ3 => (gs.length + 1 = np ∧ (pm p gs).length + 1 = np) ∧ callK sp (.ro d :: pm p gs) ρ3 xk K
end
section
variable {X : Cx} {Z : Zone} {C : Ccs} {c k np : Nat} {fa : Addr} {fd : FuncData} {ps ks : List Str} {sp : FSpec} {aw : AgW} {x : Str} {pos px : Pos} {pr : List Nat} {kws : List PySem.Keyword}
def eMakeP (c np : Nat) (p : List Nat) (sp : FSpec) (aw : AgW) : EW := fun xk ρ K => aw xk ρ fun gs ρ1 => (gs.length + 1 = np ∧ (pm p gs).length + 1 = np) ∧ (boIx (pm p gs) ++ muIx (pm p gs)).Nodup ∧ tms (pm p gs) = 0 ∧
  argsK (pm p gs) ρ1 fun args => sp (.mu (.obj c []) :: args) (fun o ds => match o, ds with
    | .sh .non, d0 :: rest => (hasBo (pm p gs) = true → chFlat d0 = true ∧ noLstAll rest = true) ∧ ∀ a, K (.fr a d0) (upE (pm p gs) rest ρ1)
    | _, _ => False) (fun c d => xk c d ρ1)
end
end TL

namespace TL
open PySem PySem.Spec L2
section
variable {X : Cx} {Z : Zone} {e a b : Expr} {w wa wb : EW} {pos : Pos} {i : Nat}
/-! ### [..] * n, n a name -/
def eRepL (i : Nat) (wa : EW) : EW := fun xk ρ K => wa xk ρ fun r ρ1 => bound ρ1 i ∧ match r, getL ρ1 i with
  | .fr _ (.lst ds), .int k => (-(2 ^ 63) ≤ k ∧ k < 2 ^ 63 ∧ ds.length * k.toNat ≤ sizeLine) ∧ ∀ p, K (.fr p (.lst (List.replicate k.toNat ds).flatten)) ρ1
  | _, _ => False
theorem Reps.rep {cc : CC} {G : Hp} {vs : List V} {ds : List D} (r : Reps cc G vs ds) : ∀ n : Nat, Reps cc G (List.replicate n vs).flatten (List.replicate n ds).flatten
  | 0 => Reps.nil
  | n + 1 => by
    rw [List.replicate_succ, List.replicate_succ, List.flatten_cons, List.flatten_cons]
    exact r.append (Reps.rep r n)
/-! ### list(range(..)) -/
def rgD (i j : Int) : List D := (List.range (j - i).toNat).map fun k => D.int (i + (k : Nat))
def opLR1 : D → OW
  | .int j => fun k => L2.RgOk 0 j ∧ k (.fr (.lst (rgD 0 j)))
  | _ => fun _ => False
def opLR2 : D → D → OW
  | .int i, .int j => fun k => L2.RgOk i j ∧ k (.fr (.lst (rgD i j)))
  | _, _ => fun _ => False
end
end TL

namespace TL
open PySem PySem.Spec L2
section
variable {X : Cx} {Z : Zone} {e : Expr} {es : List Expr} {pos : Pos} {wr : DW}
/-! ### constants in a row -/
def dLit (ds : List D) (wr : DW) : DW := fun xk ρ K => wr xk ρ fun es ρ' => K (ds ++ es) ρ'
theorem da_lit0 (hr : PA X es (Ta Z wr)) : PA X es (Ta Z (dLit [] wr)) := hr
theorem da_lit {d : D} {ds : List D} (ha : PE X e (T Z (eC d))) (hr : PA X es (Ta Z (dLit ds wr))) (hs : starEach (e :: es) X.env = (false, eval e X.env) :: starEach es X.env := by rfl) : PA X (e :: es) (Ta Z (dLit (d :: ds) wr)) := da_cons ha hr hs
end
end TL

namespace TL
open PySem PySem.Spec L2
section
variable {X : Cx} {Z : Zone} {pos : Pos}
/-- a list unpacked into names -/
def gLs (n : Nat) (gs : GWs) : GW := fun d ρ K => match d with | .lst ds => ds.length = n ∧ gs ds ρ K | _ => False
end
end TL

namespace TL
open PySem PySem.Spec L2
/-! ### what raises nothing, within what may raise -/
abbrev Zone.z0 (Z : Zone) : Zone := { Z with xk := xk0 }
theorem SR.z0 {Z : Zone} {ρ : REnv} {G : Hp} {σ : L2.St} {H : Hp} (I : SR Z ρ G σ H) : SR Z.z0 ρ G σ H := ⟨I.len, I.sub, I.slot, I.inj, I.out, I.ent, I.frs, I.gnew, I.g0, I.mout, I.mux⟩
def e0 (w : EW) : EW := fun _ ρ K => w xk0 ρ K
def t0 (w : TW) : TW := fun _ ρ K => w xk0 ρ K
def d0 (w : DW) : DW := fun _ ρ K => w xk0 ρ K
def s0 (w : SW) : SW := fun _ ρ K => w xk0 ρ K
def i0 (w : IW) : IW := fun _ ρ K => w xk0 ρ K
section
variable {X : Cx} {Z : Zone} {e tg : Expr} {es : List Expr} {st : Stmt} {w : EW} {tw : TW} {dw : DW} {sw : SW} {iw : IW}
end
end TL

namespace TL
open PySem PySem.Spec L2
/-! ### what leaves a zone -/
section
variable {P : Program} {w : World} {K : PySem.W.Frag} {mg : Str → Option Value} {base : Heap} {C : Ccs} {sp : FSpec} {np k : Nat} {f : Addr} {fd : FuncData} {ps : List Str}
end
/-! ### raise -/
section
variable {P : Program} {w : World} {K : PySem.W.Frag} {mg : Str → Option Value} {base : Heap} {C : Ccs}
def sRaise (c : Nat) (we : EW) : SW := fun xk ρ _ => we xk ρ fun r ρ1 => stl r ρ1 fun d _ => xk c d []
end
end TL

namespace TL
open PySem PySem.Spec L2
/-! ### calls that may raise -/
def roA (ds : List D) : List Arg := ds.map Arg.ro
section
variable {Z : Zone} {ρ : REnv} {G H : Hp} {σ : L2.St}
end
/-- f(e, ..) of known values -/
def callX (sp : FSpec) (ds : List D) (ρ : REnv) (xk : Xk) (K : Rv → REnv → Prop) : Prop := sp (roA ds) (fun o _ => out o ρ K) (fun c d => xk c d [])
section
variable {X : Cx} {Z : Zone} {C : Ccs} {k c np : Nat} {f fa : Addr} {fd : FuncData} {ps ks : List Str} {sp : FSpec} {dw : DW} {x m : Str} {p pos apos px : Pos} {pr : List Nat} {e a b : Expr} {es : List Expr} {w wa wb : EW} {kws : List PySem.Keyword}
def eCallX (np : Nat) (sp : FSpec) (dw : DW) : EW := fun xk ρ K => dw xk ρ fun ds ρ1 => ds.length = np ∧ callX sp ds ρ1 xk K
/-- e.m(..) -/
def eMethX (c np : Nat) (sp : FSpec) (w : EW) (dw : DW) : EW := fun xk ρ K => w xk ρ fun r ρ1 => stl r ρ1 fun d ρ2 => isObj c d ∧ dw xk ρ2 fun ds ρ3 => ds.length + 1 = np ∧ callX sp (d :: ds) ρ3 xk K
/-- e.f, a property, of what may have raised -/
def ePropX (c : Nat) (sp : FSpec) (w : EW) : EW := fun xk ρ K => w xk ρ fun r ρ1 => stl r ρ1 fun d ρ2 => isObj c d ∧ callK sp [.ro d] ρ2 xk0 K
/-- C(..), the __init__ of which may raise -/
def eMakeX (c np : Nat) (sp : FSpec) (dw : DW) : EW := fun xk ρ K => dw xk ρ fun ds ρ1 => ds.length + 1 = np ∧ sp (.mu (.obj c []) :: roA ds) (fun o es => match o, es with
    | .sh .non, [d0] => ∀ a, K (.fr a d0) ρ1
    | _, _ => False) (fun c d => xk c d [])
/-- one + other, of own instances -/
def eOwn2X (c : Nat) (sp : FSpec) (wa wb : EW) : EW := eTwo wa wb fun d1 d2 xk ρ K => isObj c d1 ∧ isObj c d2 ∧ callX sp [d1, d2] ρ xk K
/-- f(k = v, ..) -/
def eCallXP (np : Nat) (p : List Nat) (sp : FSpec) (dw : DW) : EW := fun xk ρ K => dw xk ρ fun ds ρ1 => (ds.length = np ∧ (pm p ds).length = np) ∧ callX sp (pm p ds) ρ1 xk K
end
end TL

namespace TL
open PySem PySem.Spec L2 PyProof.Rows
/-! ### try -/
def exn (c : Nat) (d : D) : D := .dct [.int ((c + 50 : Nat) : Int)] [d]
section
variable {X : Cx} {pins : List (Addr × Obj)} {σ : L2.St} {H : Hp} {s : Shared}
end
def hXk (n : Nat) (K : SK) : List (List Bool × Option Nat × SW) → Nat → D → Prop
  | [], _, _ => False
  | (m, o, sw) :: r, c, d => match m[c]? with
    | none => False
    | some false => hXk n K r c d
    | some true => match o with
      | none => sw xk0 (List.replicate n .no) { nx := K.nx, rt := fun _ _ => False }
      | some i => i < n ∧ sw xk0 ((List.replicate n .no).set i (.sh (exn c d))) { nx := fun ρ => K.nx (ρ.set i .no), rt := fun _ _ => False }
def sTry (b : SW) (hs : List (List Bool × Option Nat × SW)) : SW := fun _ ρ K => b (fun c d _ => hXk ρ.length K hs c d) ρ K
inductive HdT (C : Ccs) (X : Cx) : List ExceptHandler → List (List Bool × Option Nat × SW) → Prop
  | nil : HdT C X [] []
  | plain {x : Str} {C1 : Addr} {m : List Bool} {sw : SW} {b1 : Stmt} {su : List Stmt} {np pos' : Pos} {hds : List ExceptHandler} {l : List (List Bool × Option Nat × SW)} (hc : Names X x (.ref C1)) (hm : ∀ c b, m[c]? = some b → PySem.W.exmOne X.K (.ref (C.xc c)) (.ref C1) = some b)
      (hsu : ∀ (a : Addr) (pn : List (Addr × Obj)) (Z : Zone), Z.cc = C.cc → Z.xk = xk0 → PSs (X.suite a pn) (b1 :: su) (Ts Z sw)) (r : HdT C X hds l) : HdT C X (.ExceptHandler (some (.Name x np)) none (b1 :: su) pos' :: hds) ((m, none, sw) :: l)
  | named {x y : Str} {i : Nat} {C1 : Addr} {m : List Bool} {sw : SW} {b1 : Stmt} {su : List Stmt} {np pos' : Pos} {hds : List ExceptHandler} {l : List (List Bool × Option Nat × SW)} (hi : X.N[i]? = some y) (hl : X.env.kindOf y = some .local) (hc : Names X x (.ref C1)) (hm : ∀ c b, m[c]? = some b → PySem.W.exmOne X.K (.ref (C.xc c)) (.ref C1) = some b)
      (hsu : ∀ (a : Addr) (pn : List (Addr × Obj)) (Z : Zone), Z.cc = C.cc → Z.xk = xk0 → PSs (X.suite a pn) (b1 :: su) (Ts Z sw)) (r : HdT C X hds l) : HdT C X (.ExceptHandler (some (.Name x np)) (some y) (b1 :: su) pos' :: hds) ((m, some i, sw) :: l)
end TL

namespace TL
open PySem PySem.Spec L2 PyProof.Rows
section
variable {X : Cx} {Z : Zone} {C : Ccs} {body : List Stmt} {hd0 : ExceptHandler} {hds : List ExceptHandler} {b : SW} {ls : List (List Bool × Option Nat × SW)} {pos : Pos}
end
end TL

namespace TL
open PySem PySem.Spec L2 PyProof.Rows
/-! ### what a caught error tells -/
structure XcF (K : PySem.W.Frag) (C1 : Addr) : Prop where
  ga : PySem.W.findIn K (.ref C1) "__getattribute__" = some (some (.builtin "BaseException.__getattribute__"))
  gg : PySem.W.findIn K (.ref C1) "__getattr__" = some none
  sb : PySem.W.subIn K (.ref C1) (.type "BaseException") = some true
  hd : PySem.W.hasDictIn K C1 = true
  nv : PySem.W.findIn K (.ref C1) "value" = some none
  cl : PySem.W.findIn K (.ref C1) "__class__" = some (some (.builtin "object.__class__"))
  gt : PySem.W.specialIn K (.builtin "object.__class__") "__get__" = some (some (.builtin "getset_descriptor.__get__"))
  tk : PySem.W.takesIn K (.builtin "object.__class__") = some true
  mo : PySem.W.mroIn K C1 (.type "object") = some true
def opXv (n : Nat) : D → OW
  | .dct [.int j] [d] => fun k => (50 ≤ j ∧ j.toNat - 50 < n) ∧ k (.sh d)
  | _ => fun _ => False
def opIsX (bs : List Bool) : D → OW
  | .dct [.int j] _ => fun k => 50 ≤ j ∧ match bs[j.toNat - 50]? with
    | some b => k (.sh (.bl b))
    | none => False
  | _ => fun _ => False
theorem opXv_exn {n c : Nat} {d : D} {k : Ro → Prop} : opXv n (exn c d) k = (c < n ∧ k (.sh d)) := by
  unfold opXv exn
  have e : (((c + 50 : Nat) : Int).toNat - 50) = c := by omega
  have h : (50 : Int) ≤ ((c + 50 : Nat) : Int) := by omega
  simp only [e, h, true_and]
theorem opIsX_exn {bs : List Bool} {c : Nat} {d : D} {k : Ro → Prop} : opIsX bs (exn c d) k = (match bs[c]? with
    | some b => k (.sh (.bl b))
    | none => False) := by
  unfold opIsX exn
  have e : (((c + 50 : Nat) : Int).toNat - 50) = c := by omega
  simp only [e]
  have h : (50 : Int) ≤ ((c + 50 : Nat) : Int) := by omega
  simp only [h, true_and]
section
variable {X : Cx} {pins : List (Addr × Obj)} {σ : L2.St} {H : Hp} {s : Shared}
end
section
variable {X : Cx} {Z : Zone} {e : Expr} {w : EW} {pos p p2 : Pos} {n : Nat} {bs : List Bool}
end
end TL

namespace TL
open PySem PySem.Spec L2
section
variable {X : Cx} {Z : Zone} {e : Expr} {w : EW} {wd : DW} {kws : List PySem.Keyword} {nm : Option Str} {kpos : Pos}
/-! ### the words, for simp -/
theorem e0_is {xk : Xk} {ρ : REnv} {K : Rv → REnv → Prop} : e0 w xk ρ K = w xk0 ρ K := rfl
theorem t0_is {tw : TW} {xk : Xk} {ρ : REnv} {K : Bool → REnv → Prop} : t0 tw xk ρ K = tw xk0 ρ K := rfl
theorem d0_is {xk : Xk} {ρ : REnv} {K : List D → REnv → Prop} : d0 wd xk ρ K = wd xk0 ρ K := rfl
theorem s0_is {sw : SW} {xk : Xk} {ρ : REnv} {K : SK} : s0 sw xk ρ K = sw xk0 ρ K := rfl
theorem i0_is {iw : IW} {xk : Xk} {ρ : REnv} {K : Nat → (Nat → D → Prop) → (REnv → Prop) → REnv → Prop} : i0 iw xk ρ K = iw xk0 ρ K := rfl
theorem hXk_n {n : Nat} {K : SK} {m : List Bool} {sw : SW} {r : List (List Bool × Option Nat × SW)} {c : Nat} {d : D} : hXk n K ((m, none, sw) :: r) c d = (match m[c]? with
    | none => False
    | some false => hXk n K r c d
    | some true => sw xk0 (List.replicate n .no) { nx := K.nx, rt := fun _ _ => False }) := rfl
theorem hXk_s {n i : Nat} {K : SK} {m : List Bool} {sw : SW} {r : List (List Bool × Option Nat × SW)} {c : Nat} {d : D} : hXk n K ((m, some i, sw) :: r) c d = (match m[c]? with
    | none => False
    | some false => hXk n K r c d
    | some true => i < n ∧ sw xk0 ((List.replicate n .no).set i (.sh (exn c d))) { nx := fun ρ => K.nx (ρ.set i .no), rt := fun _ _ => False }) := rfl
end
end TL

namespace TL
open PySem PySem.Spec L2
/-! ### sorted(xs), of ints -/
end TL

namespace TL
open PySem PySem.Spec L2
section
variable {X : Cx} {Z : Zone} {e : Expr} {w : EW} {pos : Pos}
/-! ### xs.extend(a new list) -/
def sExt (j : Nat) (w : EW) : SW := fun xk ρ K => (∃ m a ds, ρ[j]? = some (.own m a (.lst ds))) ∧ w xk ρ fun r ρ1 => match r, ρ1[j]? with
  | .fr _ (.lst es), some (.own m a (.lst ds)) => ds.length + es.length ≤ sizeLine ∧ K.nx (ρ1.set j (.own m a (.lst (ds ++ es))))
  | _, _ => False
end
end TL

namespace TL
open PySem PySem.Spec L2
/-! ### x in xs, x not in xs -/
section
variable {cc : CC}
/-! ### any(xs), tuple(xs) -/
def opAny : D → OW
  | .lst ds => fun k => ∃ bs : List Bool, ds = bs.map D.bl ∧ k (.sh (.bl (bs.any id)))
  | _ => fun _ => False
def opTup : D → OW
  | .lst ds => fun k => k (.sh (.tup ds))
  | _ => fun _ => False
end
section
variable {X : Cx} {Z : Zone} {a b e : Expr} {wa wb w : EW} {pos : Pos}
/-! ### xs.pop(i), as a value -/
/-! ### xs.index(y) -/
end
end TL

namespace TL
open PySem PySem.Spec L2
/-! ### [elt for tg in iter for tg1 in iter1] -/
def eComp2 (iw : IW) (g : GW) (iw1 : IW) (g1 : GW) (we : EW) (vs vs1 : List Nat) : EW := fun xk ρ K => iw xk ρ fun n f st ρ1 => ∃ W : Nat → List D → REnv → Prop, W 0 [] (wipeE ρ1 vs) ∧ (∀ i acc ρ, i ≤ n → W i acc ρ → st ρ) ∧
  (∀ i d acc ρ, i < n → f i d → W i acc ρ → g d ρ fun ρ2 => iw1 xk0 ρ2 fun n1 f1 st1 ρ3 => ∃ W1 : Nat → List D → REnv → Prop, W1 0 acc (wipeE ρ3 vs1) ∧ (∀ j acc ρ, j ≤ n1 → W1 j acc ρ → st1 ρ) ∧
    (∀ j e acc ρ, j < n1 → f1 j e → W1 j acc ρ → g1 e ρ fun ρ4 => we xk0 ρ4 fun r ρ5 => stl r ρ5 fun e ρ6 => acc.length < sizeLine ∧ W1 (j + 1) (acc ++ [e]) (wipeE ρ6 vs1)) ∧
    ∀ acc ρ, W1 n1 acc ρ → W (i + 1) acc (wipeE ρ vs)) ∧
  ∀ acc ρ, W n acc ρ → ∀ a, K (.fr a (.lst acc)) (restE ρ1 vs ρ)
def TiX (Z : Zone) (w : IW) : TI := fun σ H Q => ∃ D o, Ti (Z.ext D o) w σ H Q
theorem wipe_sub {σ : L2.St} {vs : List Nat} : ∀ ws, (∀ i ∈ ws, i ∈ vs) → L2.wipe (L2.wipe σ ws) vs = L2.wipe σ vs := by
  intro ws
  induction ws with
  | nil => intro _; rfl
  | cons w ws ih =>
    intro h
    show L2.wipe ((L2.wipe σ ws).set w none) vs = _
    rw [wipe_set (h w List.mem_cons_self)]
    exact ih fun i hi => h i (List.mem_cons_of_mem _ hi)
theorem T.comp2 {Z : Zone} {iw iw1 : IW} {g g1 : GW} {we : EW} {vs vs1 : List Nat} {σ : L2.St} {H : Hp} {Q : VK} (hv : ∀ i ∈ vs1, i ∈ vs)
    (h : T Z (eComp2 iw g iw1 g1 we vs vs1) σ H Q) : tLc2 (Ti Z iw) (Tgc Z vs g) tYes (TiX Z iw1) (Tgc Z vs1 g1) tYes (TX Z we) vs vs1 σ H Q := by
  obtain ⟨ρ, G, K, IR, hw, q⟩ := h
  refine ⟨ρ, G, _, IR, hw, fun n f st ρ1 H1 G1 J le1 I1 io ⟨W, w0, stb, turn, fin⟩ Dd hD => ?_⟩
  obtain ⟨h0, hm⟩ := I1.h0 hD
  have gD1 := I1.g hD
  have g0 : Z.G0 Dd = none := by
    cases e : Z.G0 Dd with
    | none => rfl
    | some u => have := I1.g0 _ _ e; rw [gD1] at this; cases this
  refine ⟨fun i m H' => m = n - i ∧ i ≤ n ∧ ∃ acc ρ' G' va, LE G1 G' ∧ SR Z ρ' G' (L2.wipe σ vs) H' ∧ H' Dd = some (.lst va) ∧ Reps Z.cc G' va acc ∧ G' Dd = none ∧ (∀ (i : Nat) (m : Bool) (b : Addr) (e : D), ρ'[i]? = some (.own m b e) → b ≠ Dd) ∧ W i acc ρ',
    ⟨n, by simp, Nat.zero_le _, [], wipeE ρ1 vs, G1, [], LE.refl G1, (I1.newH hD).wipe vs, upd_same, Reps.nil, gD1, fun i m b e h => I1.own_ne (wipeE_own h) hD, w0⟩, ?_⟩
  rintro i m H' ⟨rfl, hin, acc, ρ', G', va, le', I', hDl, rs, gD, ow, w'⟩
  have Ix := I'.ext hDl gD ow hm
  obtain ⟨s1, s2⟩ := io _ _ i ρ' G' (L2.wipe σ vs) H' le' Ix (stb i acc ρ' hin w')
  by_cases hlt : i < n
  · obtain ⟨go, yl⟩ := s2 hlt
    refine .inr ⟨go, fun H2 => ∃ acc ρ' G' va, LE G1 G' ∧ SR Z ρ' G' (L2.wipe σ vs) H2 ∧ H2 Dd = some (.lst va) ∧ Reps Z.cc G' va acc ∧ G' Dd = none ∧ (∀ (i : Nat) (m : Bool) (b : Addr) (e : D), ρ'[i]? = some (.own m b e) → b ≠ Dd) ∧ W (i + 1) acc ρ',
      fun H2 h => ⟨n - (i + 1), by omega, rfl, hlt, h⟩, fun x H2 y => ?_⟩
    obtain ⟨d, G2, fd, le2, I2, rp⟩ := yl x H2 y
    refine ⟨Dd, .lst va, ρ', G2, d, _, I2, rp, turn i d acc ρ' hlt fd w', fun ρ3 σ3 G3 le3 I3 hw3 k3 => ?_⟩
    rw [wipe_wipe] at hw3
    refine ⟨hw3, ?_⟩
    simp only [tYes, ↓reduceIte]
    refine ⟨Dd, .lst va, ρ3, G3, _, I3, k3, fun n1 f1 st1 ρ4 H4 G4 J1 le4 I4 io1 ⟨W1, w1, stb1, turn1, fin1⟩ => ?_⟩
    obtain ⟨J4, hD4, gD4, ow4⟩ := I4.unext h0 g0 hm
    have l4 := ((le'.trans le2).trans le3).trans le4
    refine ⟨fun j k H' => k = n1 - j ∧ j ≤ n1 ∧ ∃ acc ρ' G' va, LE G4 G' ∧ SR Z ρ' G' (L2.wipe σ3 vs1) H' ∧ H' Dd = some (.lst va) ∧ Reps Z.cc G' va acc ∧ G' Dd = none ∧ (∀ (i : Nat) (m : Bool) (b : Addr) (e : D), ρ'[i]? = some (.own m b e) → b ≠ Dd) ∧ W1 j acc ρ',
      ⟨n1, by simp, Nat.zero_le _, acc, wipeE ρ4 vs1, G4, va, LE.refl G4, J4.wipe vs1, hD4, rs.mono ((le2.trans le3).trans le4), gD4, fun i m b e h => ow4 i m b e (wipeE_own h), w1⟩, ?_⟩
    rintro j k H5 ⟨rfl, hjn, acc5, ρ5, G5, va5, le5, I5, hD5, rs5, gD5, ow5, w5⟩
    have Ix5 := I5.ext hD5 gD5 ow5 hm
    obtain ⟨s3, s4⟩ := io1 _ _ j ρ5 G5 (L2.wipe σ3 vs1) H5 le5 Ix5 (stb1 j acc5 ρ5 hjn w5)
    by_cases hlt1 : j < n1
    · obtain ⟨go1, yl1⟩ := s4 hlt1
      refine .inr ⟨go1, fun H2 => ∃ acc ρ' G' va, LE G4 G' ∧ SR Z ρ' G' (L2.wipe σ3 vs1) H2 ∧ H2 Dd = some (.lst va) ∧ Reps Z.cc G' va acc ∧ G' Dd = none ∧ (∀ (i : Nat) (m : Bool) (b : Addr) (e : D), ρ'[i]? = some (.own m b e) → b ≠ Dd) ∧ W1 (j + 1) acc ρ',
        fun H2 h => ⟨n1 - (j + 1), by omega, rfl, hlt1, h⟩, fun x1 H6 y1 => ?_⟩
      obtain ⟨d1, G6, fd1, le6, I6, rp1⟩ := yl1 x1 H6 y1
      refine ⟨Dd, .lst va5, ρ5, G6, d1, _, I6, rp1, turn1 j d1 acc5 ρ5 hlt1 fd1 w5, fun ρ7 σ7 G7 le7 I7 hw7 k7 => ?_⟩
      rw [wipe_wipe] at hw7
      refine ⟨hw7, ?_⟩
      simp only [tYes, ↓reduceIte]
      refine ⟨Dd, .lst va5, ρ7, G7, _, I7, k7, fun r ρ8 yv H8 G8 le8 I8 q8 k8 => ?_⟩
      obtain ⟨e, ρ9, G9, le9, I9, rpe, ⟨hl, k9⟩, _⟩ := I8.settle q8 k8
      obtain ⟨J9, hD9, gD9, ow9⟩ := I9.unext h0 g0 hm
      refine ⟨va5, hD9, by rw [rs5.length]; exact hl, acc5 ++ [e], wipeE ρ9 vs1, G9, va5 ++ [yv], (((le5.trans le6).trans le7).trans le8).trans le9, ?_, upd_same, ?_, gD9, fun i m b e h => ow9 i m b e (wipeE_own h), k9⟩
      · have := J9.wipe vs1
        rw [hw7] at this
        exact this.other gD9 (fun i m b e h => ow9 i m b e (wipeE_own h)) h0 hm
      · exact (rs5.mono (((le6.trans le7).trans le8).trans le9)).append (Reps.cons rpe Reps.nil)
    · have e : j = n1 := by omega
      subst e
      refine .inl ⟨s3 (Nat.le_refl _), acc5, wipeE ρ5 vs, G5, va5, l4.trans le5, ?_, hD5, rs5, gD5, fun i m b e h => ow5 i m b e (wipeE_own h), fin1 acc5 ρ5 w5⟩
      have := I5.wipe vs
      rw [wipe_sub vs1 hv, hw3] at this
      exact this
  · have e : i = n := by omega
    subst e
    refine .inl ⟨s1 (Nat.le_refl _), q (.fr Dd (.lst acc)) (restE ρ1 vs ρ') _ H' G' (le1.trans le') (I1.unwipe le' vs I') ?_ (fin acc ρ' w' Dd)⟩
    exact ⟨rfl, ⟨va, hDl, rs⟩, gD, fun i m b e h => ow i m b e (restE_own h), h0, hm⟩
section
variable {X : Cx} {Z : Zone}
theorem ds_setLc2 {i : Nat} {y : Str} {py : Pos} {elt tg iter tg1 iter1 : Expr} {scope : Scope} {own : List (Str × Nat)} {vs1 : List Nat} {pos spos : Pos} {iw iw1 : IW} {g g1 : GW} {we : EW} (hc : X.calm = true) (hN : X.N.Nodup) (hi : PI X tg iter (Ti Z iw)) (ok : BlkOk X.N X.env.scope scope own)
    (hg : ∀ (s : Shared) (H : Hp) (C : Addr) (cl : List (Str × Addr)) (fp : List Addr), PG (X.blk s H scope (compEnvC scope cl C X.env) fp) tg (Tgc Z (own.map (·.2)) g))
    (hi1 : ∀ (D : Addr) (o : HO) (s : Shared) (H : Hp) (C : Addr) (cl : List (Str × Addr)) (fp : List Addr), PI (X.blk s H scope (compEnvC scope cl C X.env) fp) tg1 iter1 (Ti (Z.ext D o) iw1))
    (hg1 : ∀ (s : Shared) (H : Hp) (C : Addr) (cl : List (Str × Addr)) (fp : List Addr), PG (X.blk s H scope (compEnvC scope cl C X.env) fp) tg1 (Tgc Z vs1 g1))
    (he : ∀ (D : Addr) (o : HO) (s : Shared) (H : Hp) (C : Addr) (cl : List (Str × Addr)) (fp : List Addr), PE (X.blk s H scope (compEnvC scope cl C X.env) fp) elt (T (Z.ext D o) we))
    (hsw : swapsWith (.ListComp elt [⟨tg, iter, [], 0⟩, ⟨tg1, iter1, [], 0⟩] scope pos) (some (.Name y py)) spos.line X.env = pure true)
    (hv : ∀ i ∈ vs1, i ∈ own.map (·.2) := by decide) (hy : X.N[i]? = some y := by rfl) (hyl : X.env.scope.names.lookup y = some .local := by rfl) (hs : ∀ x, foldedSetIterable iter X.env x = pure x := by intro _; rfl) (hs1 : ∀ env x, foldedSetIterable iter1 env x = pure x := by intro _ _; rfl) :
    PS X (.Assign [.Name y py] (.ListComp elt [⟨tg, iter, [], 0⟩, ⟨tg1, iter1, [], 0⟩] scope pos) spos) (Ts Z (sSet i (eComp2 iw g iw1 g1 we (own.map (·.2)) vs1))) :=
  ⟨fun pins s σ H D I ⟨ρ, G, K, IR, hw, l⟩ => (ps_setLc2 hc hN hy hyl hsw hi ok hv hg (tt := tYes) (te := TX Z we) (wi1 := TiX Z iw1) (tt1 := tYes) (fun _ _ _ _ _ => pts_nil)
    (fun s H C cl fp => ⟨fun pins s' σ H Q I ⟨D, o, h⟩ => (hi1 D o s _ C cl fp).run pins s' σ H Q I h⟩) hg1 (fun _ _ _ _ _ => pts_nil) (fun s H C cl fp => ⟨fun pins s' σ H Q I ⟨D, o, h⟩ => (he D o s _ C cl fp).run pins s' σ H Q I h⟩) hs hs1).run pins s σ H D I
    (T.comp2 hv ⟨ρ, G, _, IR, hw, fun r ρ' v H' G' le I' q k => by
      obtain ⟨ρ2, G2, le2, I2, k2⟩ := I'.place (lt_len I hy) q k
      exact l.nx ρ2 _ H' G2 (le.trans le2) I2 k2⟩)⟩
/-! ### is True, is not False -/
def opIsB (c : Bool) : D → OW
  | .bl b => fun k => k (.sh (.bl (decide (b = c))))
  | _ => fun _ => False
def opNotB (c : Bool) : D → OW
  | .bl b => fun k => k (.sh (.bl (!decide (b = c))))
  | _ => fun _ => False
theorem isB_b {c b : Bool} {k : Ro → Prop} : opIsB c (.bl b) k = k (.sh (.bl (decide (b = c)))) := rfl
theorem notB_b {c b : Bool} {k : Ro → Prop} : opNotB c (.bl b) k = k (.sh (.bl (!decide (b = c)))) := rfl
theorem any_l {ds : List D} {k : Ro → Prop} : opAny (.lst ds) k = ∃ bs : List Bool, ds = bs.map D.bl ∧ k (.sh (.bl (bs.any id))) := rfl
theorem tup_l {ds : List D} {k : Ro → Prop} : opTup (.lst ds) k = k (.sh (.tup ds)) := rfl
end
end TL

namespace TL
open PySem PySem.Spec PyProof.Rows L2
/-! ### ranges whose ends have any size -/
section
variable {X : Cx} {Z : Zone} {tg : Expr}
def iRL (wd : DW) : IW := fun xk ρ K => wd xk ρ fun ds ρ1 => match ds with
  | [.int i, .int j] => K (j - i).toNat (fun k d => d = .int (i + k)) (fun _ => True) ρ1
  | _ => False
end
end TL

namespace TL
open PySem PySem.Spec L2
/-! ### texts -/
def strI (i : Int) : Str := toString i
/-! ### str(n), {x} -/
def opStr : D → OW
  | .int i => fun k => i.natAbs.log2 < 1920 ∧ k (.sh (.str (strI i)))
  | _ => fun _ => False
def opFmt : D → OW
  | .str y => fun k => y.length ≤ sizeLine ∧ k (.sh (.str y))
  | .int i => fun k => i.natAbs.log2 < 1920 ∧ k (.sh (.str (strI i)))
  | _ => fun _ => False
section
variable {X : Cx} {Z : Zone} {e a b : Expr} {w wa wb : EW} {pos : Pos}
/-! ### f-strings -/
inductive DJ (X : Cx) (Z : Zone) : List Expr → List EW → Prop where
  | nil : DJ X Z [] []
  | cons {e : Expr} {w : EW} {es : List Expr} {ws : List EW} (h : PE X e (T Z w)) (r : DJ X Z es ws) : DJ X Z (e :: es) (w :: ws)
/-! ### sep.join(xs) -/
end
theorem str_i {i : Int} {k : Ro → Prop} : opStr (.int i) k = (i.natAbs.log2 < 1920 ∧ k (.sh (.str (strI i)))) := rfl
theorem fmt_i {i : Int} {k : Ro → Prop} : opFmt (.int i) k = (i.natAbs.log2 < 1920 ∧ k (.sh (.str (strI i)))) := rfl
theorem fmt_s {i : Str} {k : Ro → Prop} : opFmt (.str i) k = (i.length ≤ sizeLine ∧ k (.sh (.str i))) := rfl
end TL

namespace TL
open PySem PySem.Spec L2
section
variable {X : Cx} {Z : Zone} {a b : Expr} {wa wb : EW} {pos : Pos}
/-! ### xs * n, xs new or a name's own -/
end
end TL

namespace TL
open PySem PySem.Spec L2
/-! ### dicts: keys and values as trees -/
theorem eqD_key : ∀ a b : Key, eqD (keyD a) (keyD b) = decide (a = b)
  | .inl a, .inl b => by
    show PyData.eqv (.int a) (.int b) = _
    simp only [PyData.eqv]
    rw [Bool.eq_iff_iff]
    simp
  | .inr a, .inr b => by
    show PyData.eqv (.str a) (.str b) = _
    simp only [PyData.eqv]
    rw [Bool.eq_iff_iff]
    simp
  | .inl a, .inr b => by
    rw [decide_eq_false (by intro h; cases h)]
    rfl
  | .inr a, .inl b => by
    rw [decide_eq_false (by intro h; cases h)]
    rfl
theorem eqDs_keys : ∀ a b : List Key, eqDs (a.map keyD) (b.map keyD) = decide (a = b)
  | [], [] => rfl
  | [], b :: bs => by rw [decide_eq_false (by simp)]; rfl
  | a :: as, [] => by rw [decide_eq_false (by simp)]; rfl
  | a :: as, b :: bs => by
    have e : eqDs ((a :: as).map keyD) ((b :: bs).map keyD) = (eqD (keyD a) (keyD b) && eqDs (as.map keyD) (bs.map keyD)) := rfl
    rw [e, eqD_key, eqDs_keys as bs, Bool.eq_iff_iff]
    simp
theorem eqD_tkey (a b : List Key) : eqD (.tup (a.map keyD)) (.tup (b.map keyD)) = decide (a = b) := by
  have e : eqD (.tup (a.map keyD)) (.tup (b.map keyD)) = eqDs (a.map keyD) (b.map keyD) := rfl
  rw [e, eqDs_keys]
/-- what a dict holds at a key -/
def valD : List D → List D → D → Option D
  | k :: ks, d :: ds, y => if eqD k y then some d else valD ks ds y
  | _, _, _ => none
/-- the keys, the values behind d[y] = v -/
def putKD : List D → D → List D
  | [], y => [y]
  | k :: ks, y => if eqD k y then k :: ks else k :: putKD ks y
def putVD : List D → List D → D → D → List D
  | k :: ks, d :: ds, y, v => if eqD k y then v :: ds else d :: putVD ks ds y v
  | _, _, _, v => [v]
section
variable {cc : CC} {G : Hp} {κ : Type} [DecidableEq κ] {f : κ → D}
theorem putK_neg {p : κ × V} {r : List (κ × V)} {y : κ} {v : V} (e : ¬ p.1 = y) : putK (p :: r) y v = p :: putK r y v := by
  unfold putK
  rw [List.any_cons, decide_eq_false e, Bool.false_or]
  split
  · rw [List.map_cons, if_neg e]
  · rfl
theorem putK_pos {k : κ} {u v : V} {r : List (κ × V)} (h : ∀ p ∈ r, ¬ p.1 = k) : putK ((k, u) :: r) k v = (k, v) :: r := by
  unfold putK
  rw [List.any_cons, decide_eq_true rfl, Bool.true_or, if_pos rfl, List.map_cons, if_pos rfl]
  congr 1
  have : r.map (fun kv => if kv.1 = k then (kv.1, v) else kv) = r.map id := List.map_congr_left fun p hp => by
    rw [if_neg (h p hp)]
    rfl
  rw [this, List.map_id]
theorem zip_key {kk : List κ} {vs : List V} {k : κ} (h : ¬ k ∈ kk) : ∀ p ∈ kk.zip vs, ¬ p.1 = k := fun p hp e => h (by
  rw [← e]
  exact (List.of_mem_zip hp).1)
/-- behind d[y] = v: its pairs -/
theorem put_rel (hf : ∀ a b, eqD (f a) (f b) = decide (a = b)) (y : κ) {v : V} {d : D} (rv : Rep cc G v d) : ∀ {kk : List κ} {vs : List V} {ds : List D}, kk.length = vs.length → kk.Nodup → Reps cc G vs ds →
    ∃ (kk' : List κ) (vs' : List V), putKD (kk.map f) (f y) = kk'.map f ∧ kk'.length = vs'.length ∧ kk'.Nodup ∧ (∀ x, x ∈ kk' → x ∈ kk ∨ x = y) ∧ putK (kk.zip vs) y v = kk'.zip vs' ∧ Reps cc G vs' (putVD (kk.map f) ds (f y) d)
  | [], [], ds, _, _, r => by
    have : ds = [] := by cases ds with | nil => rfl | cons d ds => exact absurd r.length (by simp)
    subst this
    exact ⟨[y], [v], rfl, rfl, by simp, fun x hx => .inr (List.mem_singleton.mp hx), rfl, Reps.cons rv Reps.nil⟩
  | [], _ :: _, _, h, _, _ => by simp at h
  | _ :: _, [], _, h, _, _ => by simp at h
  | k :: kk, u :: vs, ds, h, hn, r => by
    cases ds with
    | nil => exact absurd r.length (by simp)
    | cons e ds =>
      obtain ⟨v', r', e1, ra, rr⟩ := r.inv_cons
      cases e1
      obtain ⟨n1, n2⟩ := List.nodup_cons.mp hn
      have ek : putKD ((k :: kk).map f) (f y) = if decide (k = y) = true then f k :: kk.map f else f k :: putKD (kk.map f) (f y) := by
        show (if eqD (f k) (f y) = true then f k :: kk.map f else f k :: putKD (kk.map f) (f y)) = _
        rw [hf]
      have ev : putVD ((k :: kk).map f) (e :: ds) (f y) d = if decide (k = y) = true then d :: ds else e :: putVD (kk.map f) ds (f y) d := by
        show (if eqD (f k) (f y) = true then d :: ds else e :: putVD (kk.map f) ds (f y) d) = _
        rw [hf]
      rw [ek, ev]
      by_cases hk : k = y
      · subst hk
        rw [decide_eq_true rfl, if_pos rfl, if_pos rfl]
        refine ⟨k :: kk, v :: vs, rfl, by simpa using h, hn, fun x hx => .inl hx, ?_, Reps.cons rv rr⟩
        exact putK_pos (zip_key n1)
      · rw [decide_eq_false hk]
        obtain ⟨kk', vs', a1, a2, a3, a4, a5, a6⟩ := put_rel hf y rv (kk := kk) (vs := vs) (ds := ds) (by simpa using h) n2 rr
        refine ⟨k :: kk', u :: vs', by simp [a1], by simp [a2], List.nodup_cons.mpr ⟨fun hm => (a4 k hm).elim n1 hk, a3⟩, fun x hx => ?_, ?_, Reps.cons ra a6⟩
        · rcases List.mem_cons.mp hx with h | h
          · exact .inl (by rw [h]; exact List.mem_cons_self)
          · exact (a4 x h).imp (List.mem_cons_of_mem _) id
        · show putK ((k, u) :: kk.zip vs) y v = (k, u) :: kk'.zip vs'
          rw [putK_neg (p := (k, u)) hk, a5]
end
theorem rep_key {cc : CC} {H : Hp} {y : V} : ∀ {k : Key}, Rep cc H y (keyD k) → y = kV k
  | .inl i, r => by unfold keyD Rep at r; exact r
  | .inr x, r => by unfold keyD Rep at r; exact r
theorem reps_keys {cc : CC} {H : Hp} : ∀ {kt : List Key} {vs : List V}, Reps cc H vs (kt.map keyD) → vs = kt.map kV
  | [], vs, r => r.inv_nil
  | k :: kt, vs, r => by
    obtain ⟨v, r', rfl, ra, rr⟩ := r.inv_cons
    rw [rep_key ra, reps_keys rr]
    rfl
/-- a key of a dict of the kind m -/
def KeyD (m : Bool) (k : D) : Prop := if m = true then ∃ kt : List Key, k = .tup (kt.map keyD) else ∃ kk : Key, k = keyD kk
/-- behind d[y] = v -/
theorem DctO.put {cc : CC} {G H : Hp} {a : Addr} {m : Bool} {ks ds : List D} {vs : List V} {y v : V} {k d : D} (r : DctO H a (.bl m :: ks) vs) (rs : Reps cc G vs ds) (ry : Rep cc H y k) (hk : KeyD m k) (rv : Rep cc G v d) (hl : ds.length < sizeLine) :
    ∃ (o : HO) (vs' : List V), DPut H a y v (upd H a o) ∧ DctO (upd H a o) a (.bl m :: putKD ks k) vs' ∧ Reps cc G vs' (putVD ks ds k d) := by
  rw [← rs.length] at hl
  rcases r with ⟨kk, e, h2, h3, h4⟩ | ⟨kt, e, h2, h3, h4⟩
  · cases e
    obtain ⟨k0, rfl⟩ : ∃ kk : Key, k = keyD kk := hk
    obtain ⟨kk', vs', a1, a2, a3, a4, a5, a6⟩ := put_rel (cc := cc) (G := G) eqD_key k0 rv h2 h3 rs
    refine ⟨.dK (kk'.zip vs'), vs', .inl ⟨_, k0, h4, rep_key ry, by rw [List.length_zip]; omega, by rw [a5]⟩, .inl ⟨kk', by rw [a1], a2, a3, upd_same⟩, a6⟩
  · cases e
    obtain ⟨kt0, rfl⟩ : ∃ kt : List Key, k = .tup (kt.map keyD) := hk
    obtain ⟨kk', vs', a1, a2, a3, a4, a5, a6⟩ := put_rel (cc := cc) (G := G) (f := fun k : List Key => D.tup (k.map keyD)) eqD_tkey kt0 rv h2 h3 rs
    unfold Rep at ry
    obtain ⟨b, ws, rfl, hb, rw'⟩ := ry
    rw [reps_keys rw'] at hb
    refine ⟨.dT (kk'.zip vs'), vs', .inr ⟨_, kt0, b, h4, rfl, hb, by rw [List.length_zip]; omega, by rw [a5]⟩, .inr ⟨kk', by rw [a1], a2, a3, upd_same⟩, a6⟩
section
variable {X : Cx} {Z : Zone} {a b e : Expr} {wa wb w : EW} {pos : Pos}
/-! ### d[k] -/
def eDGet (wd wk : EW) : EW := fun xk ρ K => wd xk ρ fun r1 ρ1 => wk xk ρ1 fun r2 ρ2 => pok r1 ρ2 ∧ match r1.get ρ2 with
  | .dic (.bl m :: ks) ds => KeyD m (r2.get ρ2) ∧ ∃ d, valD ks ds (r2.get ρ2) = some d ∧ K (.sh d) ρ2
  | _ => False
/-! ### a new dict -/
def eDNew (m : Bool) : EW := fun _ ρ K => ∀ p, K (.fr p (.dic [.bl m] [])) ρ
/-! ### d[k] = v -/
def sDSet (j : Nat) (wi w : EW) : SW := fun xk ρ K => w xk ρ fun r ρ1 => stl r ρ1 fun d ρ2 => bound ρ2 j ∧ wi xk ρ2 fun ri ρ3 => match ρ3[j]? with
  | some (.own m a (.dic (.bl t :: ks) ds)) => KeyD t (ri.get ρ3) ∧ ds.length < sizeLine ∧ K.nx (ρ3.set j (.own m a (.dic (.bl t :: putKD ks (ri.get ρ3)) (putVD ks ds (ri.get ρ3) d))))
  | _ => False
/-! ### d.get(k, e) -/
def isDc : D → Prop
  | .dic _ _ => True
  | _ => False
def eDGet2 (wd wk we : EW) : EW := fun xk ρ K => wd xk ρ fun r1 ρ1 => isDc (r1.get ρ1) ∧ wk xk ρ1 fun r2 ρ2 => we xk ρ2 fun r3 ρ3 => pok r1 ρ3 ∧ pok r2 ρ3 ∧ match r1.get ρ3 with
  | .dic (.bl m :: ks) ds => KeyD m (r2.get ρ3) ∧ (∀ d, valD ks ds (r2.get ρ3) = some d → K (.sh d) ρ3) ∧ (valD ks ds (r2.get ρ3) = none → K r3 ρ3)
  | _ => False
/-! ### a name gives its own object away -/
def eTake (j : Nat) : EW := fun _ ρ K => match ρ[j]? with
  | some (.own false a d) => K (.fr a d) (ρ.set j .no)
  | _ => False
end
end TL

namespace TL
open PySem PySem.Spec L2
/-! ### a locked dict is let go -/
section
variable {cc : CC} {G : Hp} {d : Addr} {od : Obj} {u : HO}
end
section
variable {Z : Zone} {ρ : REnv} {G H : Hp} {σ : L2.St} {d : Addr} {od : Obj} {u : HO}
end
end TL

namespace TL
open PySem PySem.Spec L2
/-! ### a loop over a dict -/
section
variable {X : Cx} {Z : Zone} {pos : Pos} {sb : SW}
end
end TL

namespace TL
open PySem PySem.Spec L2
/-! ### {k: v}, both constants -/
section
variable {X : Cx} {Z : Zone} {pos : Pos}
def eDisp1 (k : Key) (d : D) : EW := fun _ ρ K => ∀ p, K (.fr p (.dic [.bl false, keyD k] [d])) ρ
end
end TL

namespace TL
open PySem PySem.Spec L2
/-! ### [elt for tg in d if t], the dict a name's own -/
section
end
section
variable {X : Cx} {Z : Zone}
end
end TL

namespace TL
open PySem L2
/-! ### a table of counts: (key, count) -/
def wsum (φ : Int → Int) (m : List (Int × Int)) : Int := (m.map fun p => p.2 * φ p.1).sum
/-- the table of a list of products -/
def Tab (m : List (Int × Int)) (L : List Int) : Prop := (m.map Prod.fst).Nodup ∧ ∀ φ : Int → Int, wsum φ m = (L.map φ).sum
theorem Tab.sum {m : List (Int × Int)} {L : List Int} (h : Tab m L) : (m.map Prod.snd).sum = (L.length : Int) := by
  have h1 := h.2 (fun _ => 1)
  have e1 : wsum (fun _ => 1) m = (m.map Prod.snd).sum := by simp [wsum]
  have e2 : ∀ L : List Int, (L.map fun _ => (1 : Int)).sum = (L.length : Int) := by
    intro L
    induction L with
    | nil => rfl
    | cons a L ih => simp only [List.map_cons, List.sum_cons, ih, List.length_cons]; omega
  rw [← e1, h1, e2]
end TL

namespace TL
open PySem L2
/-! ### a table of counts as a dict -/
end TL

namespace TL
open PySem PySem.Spec L2
/-! ### {k: v}, the key a tuple of ints and texts -/
section
variable {prog : Program} {w : World} {κ : Type} [DecidableEq κ] {knd : HeapKind prog w κ} {A : Around} {E : Value → Shared → Prop} {s : Shared}
end
/-! ### d.setdefault(y, z), keys of any kind -/
section
variable {X : Cx} {pins : List (Addr × Obj)} {σ : L2.St} {H : Hp} {s : Shared} {a : Addr} {u r : Value} {y d : V} {A : Around} {E : Value → Shared → Prop}
end
/-! ### over trees -/
section
variable {X : Cx} {Z : Zone} {a b e : Expr} {wa wb w : EW} {pos : Pos}
/-- {x: c}, x a name of a tuple, c a constant -/
def eDispN (i : Nat) (d : D) : EW := fun _ ρ K => match ρ[i]? with
  | some (.sh (.tup ks)) => (∃ kt : List Key, ks = kt.map keyD) ∧ ∀ p, K (.fr p (.dic [.bl true, .tup ks] [d])) ρ
  | _ => False
/-! ### k in d -/
def eDIn (wk wd : EW) : EW := fun xk ρ K => wk xk ρ fun r1 ρ1 => wd xk ρ1 fun r2 ρ2 => pok r1 ρ2 ∧ match r2.get ρ2 with
  | .dic (.bl m :: ks) ds => KeyD m (r1.get ρ2) ∧ K (.sh (.bl (valD ks ds (r1.get ρ2)).isSome)) ρ2
  | _ => False
def eDNotIn (wk wd : EW) : EW := fun xk ρ K => wk xk ρ fun r1 ρ1 => wd xk ρ1 fun r2 ρ2 => pok r1 ρ2 ∧ match r2.get ρ2 with
  | .dic (.bl m :: ks) ds => KeyD m (r1.get ρ2) ∧ K (.sh (.bl (!(valD ks ds (r1.get ρ2)).isSome))) ρ2
  | _ => False
/-! ### d.setdefault(k, v), d a name's own -/
def eDSetd (j : Nat) (wk wv : EW) : EW := fun xk ρ K => isOwn ρ j ∧ isDc (getL ρ j) ∧ wk xk ρ fun r2 ρ2 => wv xk ρ2 fun r3 ρ3 => stl r3 ρ3 fun z ρ4 => pok r2 ρ4 ∧ match ρ4[j]? with
  | some (.own m a (.dic (.bl t :: ks) ds)) => KeyD t (r2.get ρ4) ∧ ds.length < sizeLine ∧ (∀ d, valD ks ds (r2.get ρ4) = some d → K (.sh d) ρ4) ∧
    (valD ks ds (r2.get ρ4) = none → K (.sh z) (ρ4.set j (.own m a (.dic (.bl t :: putKD ks (r2.get ρ4)) (putVD ks ds (r2.get ρ4) z)))))
  | _ => False
end
end TL

namespace TL
open PySem PySem.Spec L2
/-! ### tuples of ints: t < u, sum(t) -/
section
variable {cc : CC}
def opSumT : D → OW
  | .tup ds => fun k => ∃ ns : List Int, ds = ns.map D.int ∧ k (.sh (.int ns.sum))
  | _ => fun _ => False
def opLtT : D → D → OW
  | .tup ds, .tup es => fun k => ∃ ns ms : List Int, ds = ns.map D.int ∧ es = ms.map D.int ∧ k (.sh (.bl (HT.lexLt ns ms)))
  | _, _ => fun _ => False
end
theorem ltT_l {ds es : List D} {k : Ro → Prop} : opLtT (.tup ds) (.tup es) k = ∃ ns ms : List Int, ds = ns.map D.int ∧ es = ms.map D.int ∧ k (.sh (.bl (HT.lexLt ns ms))) := rfl
theorem sumT_l {ds : List D} {k : Ro → Prop} : opSumT (.tup ds) k = ∃ ns : List Int, ds = ns.map D.int ∧ k (.sh (.int ns.sum)) := rfl
end TL

namespace TL
open PySem PySem.Spec L2
/-! ### sorted(xs), of tuples or lists -/
section
variable {cc : CC}
end
theorem room6 {k : Nat} {A : Around} (r : Room k A) : A.units + 6 < cLine := by have := r.un; omega
end TL

namespace TL
open PySem PySem.Spec L2
/-! ### xs <= ys, lists of ints -/
theorem dpAll_ints {K : PySem.W.Frag} {H : Hp} : ∀ ns : List Int, DpAll K H (ns.map V.int) (ns.map PyData.int)
  | [] => .nil
  | n :: ns => .cons (.int n) (dpAll_ints ns)
theorem depth_ints : ∀ ns : List Int, PyData.depthAll (ns.map PyData.int) = 0 := PySem.W.depth_ints
def rLeL (K : PySem.W.Frag) : R2 := fun x y H Q => ∃ (a b : Addr) (ns ms : List Int), x = .ref a ∧ y = .ref b ∧ SqL K H a (ns.map V.int) ∧ SqL K H b (ms.map V.int) ∧ Q (.bl (!decide (ms < ns))) H
theorem op_leL {X : Cx} (hA : X.A.units + 6 < cLine) : OpR X (compareOp .LtE) (rLeL X.K) := by
  intro pins s σ H x y v u Q I rx ry h
  obtain ⟨a, b, ns, ms, rfl, rfl, ha, hb, q⟩ := h
  obtain ⟨as, ra⟩ := Dp.reads I (.list (ns.map PyData.int)) (.ref a) v (.lst ha (dpAll_ints ns)) rx
  obtain ⟨bs, rb⟩ := Dp.reads I (.list (ms.map PyData.int)) (.ref b) u (.lst hb (dpAll_ints ms)) ry
  refine PySem.W.le_data ra rb (PySem.W.alike_ints ns ms) (by simp) ?_ ?_
  · have : (PyData.list (ns.map PyData.int)).depth ≤ 1 := by
      show PyData.depthAll (ns.map PyData.int) + 1 ≤ 1
      rw [depth_ints]; exact Nat.le_refl 1
    omega
  · have e : PySem.W.dataLt (.list (ms.map PyData.int)) (.list (ns.map PyData.int)) = decide (ms < ns) := by
      rw [PySem.W.dataLt_list]
      exact PySem.W.dataLt_ints ms ns
    rw [e]
    exact ⟨.bl _, H, I, rfl, q⟩
section
variable {cc : CC}
def opLeL : D → D → OW
  | .lst ds, .lst es => fun k => ∃ ns ms : List Int, ds = ns.map D.int ∧ es = ms.map D.int ∧ k (.sh (.bl (!decide (ms < ns))))
  | _, _ => fun _ => False
theorem ops_leL {K : PySem.W.Frag} (hK : cc.K = K) : OpS cc opLeL (rLeL K) := by
  subst hK
  intro G H x y d e k Q le v1 v2 _ _ ho fin
  unfold opLeL at ho
  split at ho
  · obtain ⟨a, vs, ea, ra, rs⟩ := v1
    obtain ⟨b, us, eb, rb, qs⟩ := v2
    obtain ⟨ns, ms, rfl, rfl, hk⟩ := ho
    have e1 := rs.ints
    have e2 := qs.ints
    subst e1 e2
    exact ⟨a, b, ns, ms, ea, eb, ra, rb, (fin _ hk).1 _ rep_bl⟩
  · exact ho.elim
end
end TL

namespace PySem
open Sem (wp)
section
variable {M : Model} {A : Around} {E : Value → Shared → Prop} {s : Shared}
end
end PySem
namespace TL
open PySem PySem.Spec L2
/-! ### xs += a new list -/
section
variable {X : Cx} {Z : Zone} {e : Expr} {w : EW} {pos : Pos}
def sAugL (j : Nat) (w : EW) : SW := fun xk ρ K => (∃ m a ds, ρ[j]? = some (.own m a (.lst ds))) ∧ w xk ρ fun r ρ1 => match r, ρ1[j]? with
  | .fr _ (.lst es), some (.own m a (.lst ds)) => ds.length + es.length ≤ sizeLine ∧ K.nx (ρ1.set j (.own m a (.lst (ds ++ es))))
  | _, _ => False
end
end TL

namespace TL
open PySem PySem.Spec L2
/-! ### len(set(xs)), xs tuples of ints -/
section
variable {cc : CC}
end
section
variable {X : Cx} {Z : Zone} {a : Expr} {w : EW} {p p2 q pos : Pos}
end
end TL

/-! Ghosts: roots of no name, behind the frame. A list of lists that are changed holds `.ptr`s to them. -/
namespace TL
open PySem PySem.Spec L2

section
variable {Z : Zone} {ρ : REnv} {G H : Hp} {σ : L2.St}
theorem set_sameO {σ : L2.St} {j : Nat} {x : Option V} (h : σ[j]? = some x) : σ.set j x = σ := by
  obtain ⟨hj, e⟩ := List.getElem?_eq_some_iff.mp h
  rw [← e]
  exact List.set_getElem_self hj
theorem SR.drop (I : SR Z ρ G σ H) (j : Nat) : SR Z (ρ.set j .no) G σ H := by
  refine ⟨by simpa using I.len, I.sub, fun i s q => ?_, fun i k m n b x c y q1 q2 hn => ?_, fun i m b x q => ?_, I.ent, fun i m b x q => ?_, I.gnew, I.g0, I.mout, I.mux⟩
  · rcases get_set q with ⟨rfl, rfl⟩ | ⟨_, q⟩
    · trivial
    · exact I.slot i s q
  · rcases get_set q1 with ⟨_, q1⟩ | ⟨_, q1⟩
    · cases q1
    · rcases get_set q2 with ⟨_, q2⟩ | ⟨_, q2⟩
      · cases q2
      · exact I.inj i k m n b x c y q1 q2 hn
  · rcases get_set q with ⟨_, q⟩ | ⟨_, q⟩
    · cases q
    · exact I.out i m b x q
  · rcases get_set q with ⟨_, q⟩ | ⟨_, q⟩
    · cases q
    · exact I.frs i m b x q
/-- the roots behind are forgotten -/
theorem SR.cut (I : SR Z ρ G σ H) {n : Nat} (hn : Z.n ≤ n) : SR Z (ρ.take n) G σ H := by
  have tk : ∀ {i : Nat} {s : Sl}, (ρ.take n)[i]? = some s → ρ[i]? = some s := fun {i s} h => by
    rw [List.getElem?_take] at h
    split at h
    · exact h
    · cases h
  have len := I.len
  exact ⟨⟨len.1, by rw [List.length_take]; omega⟩, I.sub, fun i s q => I.slot i s (tk q), fun i k m n b x c y q1 q2 hn => I.inj i k m n b x c y (tk q1) (tk q2) hn, fun i m b x q => I.out i m b x (tk q), I.ent, fun i m b x q => I.frs i m b x (tk q), I.gnew, I.g0, I.mout, I.mux⟩
theorem own_fr (I : SR Z ρ G σ H) {j : Nat} {a : Addr} {d : D} (h : ρ[j]? = some (.own false a d)) : FrOk Z (ρ.set j .no) G H a d := by
  have fr := I.frs j _ a d h
  simp only [Bool.false_eq_true, if_false] at fr
  refine ⟨(I.slot j _ h).2, I.out j _ a d h, fun i m b e q => ?_, fr.1, fr.2⟩
  rcases get_set q with ⟨_, q⟩ | ⟨hi, q⟩
  · cases q
  · exact I.inj i j m false b e a d q h hi
theorem one_get {α : Type} {x y : α} {i : Nat} (h : [x][i]? = some y) : x = y ∧ i = 0 := by
  cases i with
  | zero => exact ⟨Option.some.inj h, rfl⟩
  | succ i => simp at h
theorem SR.push (I : SR Z ρ G σ H) {a : Addr} {d : D} (h : FrOk Z ρ G H a d) : SR Z (ρ ++ [.own false a d]) G σ H :=
  I.addGs (as := [a]) (ds := [d]) (by simp) fun i b e h1 h2 => by
    obtain ⟨rfl, _⟩ := one_get h1
    obtain ⟨rfl, _⟩ := one_get h2
    exact h
theorem fr_notin (h : FrOk Z ρ G H a d) : a ∉ owns ρ := fun hm => by
  obtain ⟨i, p, d, hs⟩ := owns_mem.mp hm
  exact h.2.2.1 i p a d hs rfl
end

section
variable {X : Cx} {Z : Zone} {e a b : Expr} {w wa wb wx : EW} {pos : Pos}
/-! ### a new root is kept as a ghost -/
def keepK (r : Rv) (ρ : REnv) (K : Rv → REnv → Prop) : Prop := match r with
  | .fr a d => a ∉ owns ρ → K (.sh (.ptr a)) (ρ ++ [.own false a d])
  | .loc i => match ρ[i]? with
    | some (.own false a d) => K (.sh (.ptr a)) (ρ.set i (.sh (.ptr a)) ++ [.own false a d])
    | some (.sh d) => K (.sh d) ρ
    | _ => False
  | .sh d => K (.sh d) ρ
  | .gh _ a => K (.sh (.ptr a)) ρ
  | .gx _ _ _ => False
def eKeep (w : EW) : EW := fun xk ρ K => w xk ρ fun r ρ1 => keepK r ρ1 K
theorem SR.kept {ρ : REnv} {G H : Hp} {σ : L2.St} {r : Rv} {v : V} {K : Rv → REnv → Prop} (I : SR Z ρ G σ H) (q : RvOk Z r ρ G σ H v) (h : keepK r ρ K) : ∃ d ρ', SR Z ρ' G σ H ∧ Rep Z.cc G v d ∧ K (.sh d) ρ' := by
  unfold keepK at h
  cases r with
  | sh d => exact ⟨d, ρ, I, q, h⟩
  | gh j a => exact ⟨.ptr a, ρ, I, by unfold Rep; exact q.1, h⟩
  | gx as cs t => exact h.elim
  | fr a d =>
    obtain ⟨rfl, q⟩ := q
    exact ⟨.ptr a, _, I.push q, by unfold Rep; rfl, h (fr_notin q)⟩
  | loc i =>
    obtain ⟨ev, _⟩ := q
    cases hs : ρ[i]? with
    | none => simp only [hs] at h
    | some s =>
      simp only [hs] at h
      have so := I.slot i s hs
      cases s with
      | no => exact h.elim
      | sh d =>
        obtain ⟨u, eu, r⟩ := so
        rw [ev] at eu; cases eu
        exact ⟨d, ρ, I, r, h⟩
      | own m a d =>
        cases m with
        | true => exact h.elim
        | false =>
          have e := own_in ev so.1
          subst e
          have rp : Rep Z.cc G (.ref a) (.ptr a) := by unfold Rep; rfl
          have I2 : SR Z (ρ.set i (.sh (.ptr a))) G σ H := by
            have := I.put (i := i) (v := .ref a) (List.getElem?_eq_some_iff.mp ev).1 rp
            rw [set_sameO ev] at this
            exact this
          have f := own_fr I hs
          refine ⟨.ptr a, _, I2.push ⟨f.1, f.2.1, fun j p b x q => ?_, f.2.2.2.1, f.2.2.2.2⟩, rp, h⟩
          rcases get_set q with ⟨_, q⟩ | ⟨hj, q⟩
          · cases q
          · exact I.inj j i p false b x a d q hs hj
theorem de_keep (h : PE X e (T Z w)) : PE X e (T Z (eKeep w)) :=
  ⟨fun pins s σ H Q I ⟨ρ, G, K, IR, hw, q⟩ => h.run pins s σ H Q I ⟨ρ, G, _, IR, hw, fun r ρ1 v H1 G1 le1 I1 q1 k1 => by
    obtain ⟨d, ρ2, I2, rp, k2⟩ := I1.kept q1 k1
    exact q (.sh d) ρ2 v H1 G1 le1 I2 rp k2⟩⟩
/-! ### a ghost becomes a new root again -/
def eAd (w : EW) : EW := fun xk ρ K => w xk ρ fun r ρ1 => match r with
  | .fr a d => K (.fr a d) ρ1
  | r => match r.get ρ1 with
    | .ptr a => ∃ j d, ρ1[j]? = some (.own false a d) ∧ K (.fr a d) (ρ1.set j .no)
    | _ => False
theorem de_ad (h : PE X e (T Z w)) : PE X e (T Z (eAd w)) :=
  ⟨fun pins s σ H Q I ⟨ρ, G, K, IR, hw, q⟩ => h.run pins s σ H Q I ⟨ρ, G, _, IR, hw, fun r ρ1 v H1 G1 le1 I1 q1 k1 => by
    have vw := q1.view I1
    split at k1
    · exact q _ ρ1 v H1 G1 le1 I1 q1 k1
    · split at k1
      · rename_i a hg
        rw [hg] at vw
        obtain ⟨j, d, hs, k⟩ := k1
        have vw : v = .ref a := vw
        exact q (.fr a d) _ v H1 G1 le1 (I1.drop j) ⟨vw, own_fr I1 hs⟩ k
      · exact k1.elim⟩⟩
/-! ### a pointer is followed -/
def eDr (w : EW) : EW := fun xk ρ K => w xk ρ fun r ρ1 => match r.get ρ1 with
  | .ptr a => ∃ j, (∃ p d, ρ1[j]? = some (.own p a d)) ∧ K (.gh j a) ρ1
  | _ => False
theorem de_dr (h : PE X e (T Z w)) : PE X e (T Z (eDr w)) :=
  ⟨fun pins s σ H Q I ⟨ρ, G, K, IR, hw, q⟩ => h.run pins s σ H Q I ⟨ρ, G, _, IR, hw, fun r ρ1 v H1 G1 le1 I1 q1 k1 => by
    have vw := q1.view I1
    split at k1
    · rename_i a hg
      rw [hg] at vw
      obtain ⟨j, hs, k⟩ := k1
      have vw : v = .ref a := vw
      exact q (.gh j a) _ v H1 G1 le1 I1 ⟨vw, hs⟩ k
    · exact k1.elim⟩⟩
/-! ### all that is within is seen through, for a comparison -/
def eBinG (op : D → D → OW) (wa wb : EW) : EW := fun xk ρ K => wa xk ρ fun r1 ρ1 => wb xk ρ1 fun r2 ρ2 => pok r1 ρ2 ∧ ∃ d e, Vw (gP ρ2) (r1.get ρ2) d ∧ Vw (gP ρ2) (r2.get ρ2) e ∧
  op d e fun o => ∃ b, o = .sh (.bl b) ∧ K (.sh (.bl b)) ρ2
theorem Vw.repH {L : List (Addr × D)} {cc : CC} {G H : Hp} {d e : D} {v : V} (hL : ∀ a d, (a, d) ∈ L → Root cc G H a d) (le : LE G H) (h : Vw L d e) (r : Rep cc H v d) : Rep cc H v e :=
  h.sound (LE.refl H) (fun a d hm => (hL a d hm).mono le) v r
end
end TL

/-! Ghosts: changed in place, given up, handed back, handed in. -/
namespace TL
open PySem PySem.Spec L2

section
variable {X : Cx} {Z : Zone} {e a b : Expr} {w wa wb wx : EW} {pos : Pos}
/-! ### changed in place -/
def sAppE (wx w : EW) : SW := fun xk ρ K => wx xk ρ fun r ρ1 => match r with
  | .gh j a => (∃ m ds, ρ1[j]? = some (.own m a (.lst ds))) ∧ w xk ρ1 fun r2 ρ2 => stl r2 ρ2 fun d ρ3 => match ρ3[j]? with
    | some (.own m b (.lst ds)) => b = a ∧ ds.length < sizeLine ∧ K.nx (ρ3.set j (.own m b (.lst (ds ++ [d]))))
    | _ => False
  | _ => False
theorem ds_appE {o : Expr} {apos cpos : Pos} (ho : PE X o (T Z wx)) (he : PE X e (T Z w))
    (hbase : attributeBase o "append" X.env (eval o X.env) = eval o X.env := by rfl)
    (hfew : ((backTo cpos (starEach [e] X.env)).all (fun x => !x.1) && (backToKw cpos (keywordEach [] X.env)).all (fun x => x.1.isSome)
      && decide (([e] : List Expr).length + ([] : List Keyword).length + (if ([] : List Keyword).isEmpty then 0 else 1) < 30)) = true := by rfl)
    (hline : (apos.endLine == cpos.line) = true := by rfl) (hst : starEach [e] X.env = (false, eval e X.env) :: starEach [] X.env := by rfl) (hplain : (backTo cpos (starEach [] X.env)).any (·.1) = false := by rfl)
    (hs : swapsWith (.Call (.Attribute o "append" apos) [e] [] cpos) none pos.line X.env = pure false := by rfl) :
    PS X (.Expr (.Call (.Attribute o "append" apos) [e] [] cpos) pos) (Ts Z (sAppE wx w)) :=
  ⟨fun pins s σ H D I ⟨ρ, G, K, IR, hw, l⟩ => (ps_expr (pe_bm PySem.F.plainAttrs_list PySem.F.slot_list_append PySem.F.type_list_append mt_append ho (pa_cons he pa_nil hst) hbase hfew hline hst hplain) hs).run pins s σ H D I
    ⟨ρ, G, _, IR, hw, fun r ρ1 v H1 G1 le1 I1 q1 k1 => by
      cases r <;> try exact k1.elim
      rename_i j a
      obtain ⟨rfl, _⟩ := q1
      obtain ⟨⟨m, ds, hs0⟩, k1⟩ := k1
      obtain ⟨_, vs, ha, _⟩ := I1.ownL hs0
      refine ⟨.inl ⟨rfl, vs, SqL.of ha⟩, ρ1, G1, _, I1, k1, fun r2 ρ2 u H2 G2 le2 I2 q2 k2 => ?_⟩
      obtain ⟨d, ρ3, G3, le3, I3, rp, k3, _⟩ := I2.settle q2 k2
      split at k3
      · rename_i m2 b ds2 hs2
        obtain ⟨rfl, hl, k3⟩ := k3
        obtain ⟨_, vs2, ha2, rs2⟩ := I3.ownL hs2
        refine ⟨_, vs2, u, rfl, rfl, ha2, by rw [rs2.length]; exact hl, ?_⟩
        exact l.nx _ _ _ G3 ((le1.trans le2).trans le3) (I3.write hs2 (Root.lst upd_same (rs2.append (Reps.cons rp Reps.nil)))) k3
      · exact k3.elim⟩⟩
def sRevE (wx : EW) : SW := fun xk ρ K => wx xk ρ fun r ρ1 => match r with
  | .gh j a => match ρ1[j]? with
    | some (.own m b (.lst ds)) => b = a ∧ K.nx (ρ1.set j (.own m b (.lst ds.reverse)))
    | _ => False
  | _ => False
def sPopE (wx : EW) : SW := fun xk ρ K => wx xk ρ fun r ρ1 => match r with
  | .gh j a => match ρ1[j]? with
    | some (.own m b (.lst ds)) => b = a ∧ ds ≠ [] ∧ K.nx (ρ1.set j (.own m b (.lst ds.dropLast)))
    | _ => False
  | _ => False
end

/-! ### ghosts are given up to what is known -/
/-- the roots of one's own, with their trees -/
def gF : REnv → List (Addr × D)
  | [] => []
  | .own false a d :: ρ => (a, d) :: gF ρ
  | _ :: ρ => gF ρ
theorem gF_mem {a : Addr} {d : D} : ∀ {ρ : REnv}, (a, d) ∈ gF ρ → ∃ (i : Nat), ρ[i]? = some (Sl.own false a d)
  | s :: ρ, h => by
    have tl : (a, d) ∈ gF ρ → ∃ (i : Nat), (s :: ρ)[i]? = some (Sl.own false a d) := fun h => by
      obtain ⟨i, hi⟩ := gF_mem h
      exact ⟨i + 1, by simpa using hi⟩
    cases s with
    | no => exact tl h
    | sh d => exact tl h
    | own m b e =>
      cases m with
      | true => exact tl h
      | false =>
        rcases List.mem_cons.mp h with h | h
        · cases h; exact ⟨0, rfl⟩
        · exact tl h
theorem gF_nd : ∀ {ρ : REnv}, (∀ (i j : Nat) (a : Addr) (d : D) (b : Addr) (e : D), ρ[i]? = some (.own false a d) → ρ[j]? = some (.own false b e) → i ≠ j → a ≠ b) → ((gF ρ).map (·.1)).Nodup
  | [], _ => List.nodup_nil
  | s :: ρ, h => by
    have ih : ((gF ρ).map (·.1)).Nodup := gF_nd fun i j a d b e h1 h2 hn => h (i + 1) (j + 1) a d b e (by simpa using h1) (by simpa using h2) (by omega)
    cases s with
    | no => exact ih
    | sh d => exact ih
    | own m a d =>
      cases m with
      | true => exact ih
      | false =>
        refine List.nodup_cons.mpr ⟨fun hm => ?_, ih⟩
        obtain ⟨p, hp, e⟩ := List.mem_map.mp hm
        obtain ⟨i, hi⟩ := gF_mem (a := p.1) (d := p.2) hp
        exact h 0 (i + 1) a d p.1 p.2 rfl (by simpa using hi) (by omega) e.symm
theorem drop_get {ρ : REnv} {n i : Nat} {s : Sl} (h : (ρ.drop n)[i]? = some s) : ρ[n + i]? = some s := by rw [List.getElem?_drop] at h; exact h
section
variable {Z : Zone} {ρ : REnv} {G H : Hp} {σ : L2.St}
theorem Vw.root {cc : CC} {L : List (Addr × D)} {G G' H : Hp} (le : LE G G') (hL : ∀ a d, (a, d) ∈ L → Root cc G G' a d) {a : Addr} {d e : D} (q : Vw L d e) (rt : Root cc G H a d) : Root cc G' H a e := by
  cases q with
  | self => exact rt.mono le
  | ptr h2 q2 => exact rt.elim
  | tup q2 => exact rt.elim
  | lst q2 =>
    obtain ⟨vs, e1, rs⟩ := rt
    exact ⟨vs, e1, Vws.sound le hL q2 vs rs⟩
  | obj q2 =>
    obtain ⟨dx, vs, e1, l, rs⟩ := rt
    exact ⟨dx, vs, e1, l, Vws.sound le hL q2 vs rs⟩
  | dic q2 =>
    obtain ⟨vs, e1, rs⟩ := rt
    exact ⟨vs, e1, Vws.sound le hL q2 vs rs⟩
/-- all roots of one's own behind n are known from now on -/
theorem SR.fz (I : SR Z ρ G σ H) {n : Nat} (hn : Z.n ≤ n) : ∃ G', LE G G' ∧ SR Z (ρ.take n) G' σ H ∧ (∀ a d, (a, d) ∈ gF (ρ.drop n) → Root Z.cc G G' a d) ∧ ∀ a, G a = none → (∀ d, (a, d) ∉ gF (ρ.drop n)) → G' a = none := by
  have at_ : ∀ {a d}, (a, d) ∈ gF (ρ.drop n) → ∃ j, n ≤ j ∧ ρ[j]? = some (.own false a d) := fun {a d} h => by
    obtain ⟨i, hi⟩ := gF_mem h
    exact ⟨n + i, by omega, drop_get hi⟩
  have hB : ∀ a ∈ (gF (ρ.drop n)).map (·.1), ∃ j d, n ≤ j ∧ ρ[j]? = some (.own false a d) := fun a h => by
    obtain ⟨p, hp, rfl⟩ := List.mem_map.mp h
    obtain ⟨j, h1, h2⟩ := at_ (a := p.1) (d := p.2) hp
    exact ⟨j, p.2, h1, h2⟩
  have tk : ∀ {i : Nat} {s : Sl}, (ρ.take n)[i]? = some s → i < n ∧ ρ[i]? = some s := fun {i s} h => by
    rw [List.getElem?_take] at h
    split at h
    · exact ⟨‹_›, h⟩
    · cases h
  generalize hBe : (gF (ρ.drop n)).map (·.1) = B at hB
  have out : ∀ a ∈ B, G a = none := fun a h => by
    obtain ⟨j, d, _, hs⟩ := hB a h
    exact I.out j _ a d hs
  have le : LE G (cutG B G H) := fun a o e => by
    unfold cutG
    rw [if_neg (fun h => by rw [out a h] at e; cases e)]
    exact e
  have no : ∀ a, a ∉ B → cutG B G H a = G a := fun a h => by unfold cutG; rw [if_neg h]
  have len := I.len
  refine ⟨cutG B G H, le, ⟨⟨len.1, by rw [List.length_take]; omega⟩, fun a u e => ?_, fun i s q => ?_, fun i k m n b x c y q1 q2 hn => I.inj i k m n b x c y (tk q1).2 (tk q2).2 hn, fun i m b x q => ?_, I.ent, fun i m b x q => I.frs i m b x (tk q).2, fun a ha => ?_, fun a u e => le _ _ (I.g0 a u e), fun a ha => ?_, I.mux⟩, fun a d h => ?_, fun a h1 h2 => ?_⟩
  · unfold cutG at e
    split at e
    · exact e
    · exact I.sub a u e
  · exact (I.slot i s (tk q).2).mono le
  · obtain ⟨hi, q⟩ := tk q
    rw [no b fun h => ?_]
    · exact I.out i m b x q
    · obtain ⟨j, d, hj, hs⟩ := hB b h
      exact I.inj i j m false b x b d q hs (by omega) rfl
  · by_cases h : a ∈ B
    · obtain ⟨j, d, _, hs⟩ := hB a h
      have fr := I.frs j _ a d hs
      simp only [Bool.false_eq_true, if_false] at fr
      exact .inr fr.1
    · rw [no a h] at ha; exact I.gnew a ha
  · rw [no a fun h => ?_]
    · exact I.mout a ha
    · obtain ⟨j, d, _, hs⟩ := hB a h
      have fr := I.frs j _ a d hs
      simp only [Bool.false_eq_true, if_false] at fr
      exact fr.2 ha
  · obtain ⟨j, _, hs⟩ := at_ h
    refine (I.slot j _ hs).2.heap fun o ho => ?_
    unfold cutG
    rw [if_pos (by rw [← hBe]; exact List.mem_map.mpr ⟨_, h, rfl⟩)]
    exact ho
  · rw [no a fun h => ?_]
    · exact h1
    · rw [← hBe] at h
      obtain ⟨p, hp, rfl⟩ := List.mem_map.mp h
      exact h2 p.2 hp
end
def fzK (n : Nat) (r : Rv) (ρ : REnv) (K : Rv → REnv → Prop) : Prop := match r with
  | .sh d => ∃ e, Vw (gF (ρ.drop n)) d e ∧ K (.sh e) (ρ.take n)
  | .fr a d => ∃ e, Vw (gF (ρ.drop n)) d e ∧ K (.fr a e) (ρ.take n)
  | .gh _ a => ∃ e, Vw (gF (ρ.drop n)) (.ptr a) e ∧ K (.sh e) (ρ.take n)
  | .loc i => match ρ[i]? with
    | some (.sh d) => ∃ e, Vw (gF (ρ.drop n)) d e ∧ K (.sh e) (ρ.take n)
    | some (.own false a d) => ∃ e, Vw (gF ((ρ.set i .no).drop n)) d e ∧ K (.fr a e) ((ρ.set i .no).take n)
    | _ => False
  | .gx _ _ _ => False
def eFz (n : Nat) (w : EW) : EW := fun xk ρ K => w xk ρ fun r ρ1 => fzK n r ρ1 K
section
variable {X : Cx} {Z : Zone} {e a b : Expr} {w wa wb wx : EW} {pos : Pos}
theorem SR.fzr {ρ : REnv} {G H : Hp} {σ : L2.St} {n : Nat} {r : Rv} {v : V} {K : Rv → REnv → Prop} (hn : Z.n ≤ n) (I : SR Z ρ G σ H) (q : RvOk Z r ρ G σ H v) (h : fzK n r ρ K) : ∃ r' ρ' G', LE G G' ∧ SR Z ρ' G' σ H ∧ RvOk Z r' ρ' G' σ H v ∧ K r' ρ' := by
  have sh : ∀ {ρ : REnv} {d : D}, SR Z ρ G σ H → Rep Z.cc G v d → (∃ e, Vw (gF (ρ.drop n)) d e ∧ K (.sh e) (ρ.take n)) → ∃ r' ρ' G', LE G G' ∧ SR Z ρ' G' σ H ∧ RvOk Z r' ρ' G' σ H v ∧ K r' ρ' := fun {ρ d} I rp ⟨e, hv, k⟩ => by
    obtain ⟨G', le, I', rt, _⟩ := I.fz hn
    exact ⟨.sh e, _, G', le, I', hv.sound le rt v rp, k⟩
  have fr : ∀ {ρ : REnv} {a : Addr} {d : D}, SR Z ρ G σ H → v = .ref a → FrOk Z ρ G H a d → (∃ e, Vw (gF (ρ.drop n)) d e ∧ K (.fr a e) (ρ.take n)) → ∃ r' ρ' G', LE G G' ∧ SR Z ρ' G' σ H ∧ RvOk Z r' ρ' G' σ H v ∧ K r' ρ' := fun {ρ a d} I ev f ⟨e, hv, k⟩ => by
    obtain ⟨G', le, I', rt, no⟩ := I.fz hn
    refine ⟨.fr a e, _, G', le, I', ⟨ev, hv.root le rt f.1, no a f.2.1 fun d h => ?_, fun i p b x q => ?_, f.2.2.2.1, f.2.2.2.2⟩, k⟩
    · obtain ⟨i, hi⟩ := gF_mem h
      exact f.2.2.1 _ _ a d (drop_get hi) rfl
    · rw [List.getElem?_take] at q
      split at q
      · exact f.2.2.1 i p b x q
      · cases q
  cases r with
  | sh d => exact sh I q h
  | fr a d => exact fr I q.1 q.2 h
  | gh j a => exact sh (d := .ptr a) I (by unfold Rep; exact q.1) h
  | gx as cs t => exact h.elim
  | loc i =>
    obtain ⟨ev, _⟩ := q
    unfold fzK at h
    cases hs : ρ[i]? with
    | none => simp only [hs] at h
    | some s =>
      simp only [hs] at h
      have so := I.slot i s hs
      cases s with
      | no => exact h.elim
      | sh d =>
        obtain ⟨u, eu, r⟩ := so
        rw [ev] at eu; cases eu
        exact sh I r h
      | own m a d =>
        cases m with
        | true => exact h.elim
        | false => exact fr (I.drop i) (own_in ev so.1) (own_fr I hs) h
theorem de_fz {n : Nat} (h : PE X e (T Z w)) (hn : X.N.length ≤ n) : PE X e (T Z (eFz n w)) :=
  ⟨fun pins s σ H Q I ⟨ρ, G, K, IR, hw, q⟩ => h.run pins s σ H Q I ⟨ρ, G, _, IR, hw, fun r ρ1 v H1 G1 le1 I1 q1 k1 => by
    have hz : Z.n ≤ n := by rw [← IR.len.1, I.len]; exact hn
    obtain ⟨r', ρ', G', le, I', q', k'⟩ := I1.fzr hz q1 k1
    exact q r' ρ' v H1 G' (le1.trans le) I' q' k'⟩⟩
/-! ### ghosts are handed back with a result -/
def ePk (n : Nat) (w : EW) : EW := fun xk ρ K => w xk ρ fun r ρ1 => match r with
  | .sh t => ∃ as cs, as.length = cs.length ∧ List.Sublist (as.zip cs) (gF (ρ1.drop n)) ∧ K (.gx as cs t) (ρ1.take n)
  | _ => False
theorem zip_get {as : List Addr} {cs : List D} {i : Nat} {a : Addr} {d : D} (h1 : as[i]? = some a) (h2 : cs[i]? = some d) : (a, d) ∈ as.zip cs := by
  refine List.mem_of_getElem? (i := i) ?_
  rw [List.getElem?_zip_eq_some]
  exact ⟨h1, h2⟩
theorem de_pk {n : Nat} (h : PE X e (T Z w)) (hn : X.N.length ≤ n) : PE X e (T Z (ePk n w)) :=
  ⟨fun pins s σ H Q I ⟨ρ, G, K, IR, hw, q⟩ => h.run pins s σ H Q I ⟨ρ, G, _, IR, hw, fun r ρ1 v H1 G1 le1 I1 q1 k1 => by
    have hz : Z.n ≤ n := by rw [← IR.len.1, I.len]; exact hn
    cases r <;> try exact k1.elim
    rename_i t
    obtain ⟨as, cs, hl, sub, k⟩ := k1
    have nd : as.Nodup := by
      have h1 := gF_nd (ρ := ρ1.drop n) fun i j a d b e h1 h2 hn => I1.inj (n + i) (n + j) _ _ a d b e (drop_get h1) (drop_get h2) (by omega)
      have h2 := (sub.map (·.1)).nodup h1
      rw [List.map_fst_zip (by omega)] at h2
      exact h2
    refine q (.gx as cs t) _ v H1 G1 le1 (I1.cut hz) ⟨nd, hl, q1, fun i a d h1 h2 => ?_⟩ k
    obtain ⟨j, hj⟩ := gF_mem (sub.mem (zip_get h1 h2))
    have hj := drop_get hj
    have f := own_fr I1 hj
    refine ⟨f.1, f.2.1, fun l p b x q => ?_, f.2.2.2⟩
    rw [List.getElem?_take] at q
    split at q
    · exact I1.inj l (n + j) p false b x a d q hj (by omega)
    · cases q⟩⟩
end
/-! ### a call that is handed ghosts -/
section
variable {X : Cx} {Z : Zone} {C : Ccs} {k : Nat} {f : Addr} {fd : FuncData} {ps : List Str} {sp : FSpec} {aw : AgW} {x : Str} {p pos : Pos} {e : Expr} {es : List Expr}
def eCallG (np : Nat) (sp : FSpec) (aw : AgW) : EW := fun xk ρ K => aw xk ρ fun gs ρ1 => gs.length = np ∧ ∃ js : List Nat, callK sp (gs ++ js.map .gg) ρ1 xk K
end
end TL

namespace TL
open PySem PySem.Spec L2
/-! ### len(set(xs)), xs integers -/
section
variable {cc : CC}
end
section
variable {X : Cx} {Z : Zone} {a : Expr} {w : EW} {p p2 q pos : Pos}
end
end TL

/-! Ghosts: what the walks over trees rewrite with. -/
namespace TL
open PySem PySem.Spec L2
section
variable {ρ : REnv} {j i n : Nat} {a : Addr} {d : D} {K : Rv → REnv → Prop} {K1 : D → REnv → Prop} {as : List Addr} {cs : List D}
theorem get_gh : (Rv.gh j a).get ρ = getL ρ j := rfl
theorem stl_gh : stl (.gh j a) ρ K1 = K1 (.ptr a) ρ := rfl
theorem pok_gh : pok (.gh j a) ρ = ∃ p d, ρ[j]? = some (.own p a d) := rfl
theorem keep_fr : keepK (.fr a d) ρ K = (a ∉ owns ρ → K (.sh (.ptr a)) (ρ ++ [.own false a d])) := rfl
theorem keep_sh : keepK (.sh d) ρ K = K (.sh d) ρ := rfl
theorem keep_gh : keepK (.gh j a) ρ K = K (.sh (.ptr a)) ρ := rfl
theorem keep_loc : keepK (.loc i) ρ K = match ρ[i]? with
    | some (.own false a d) => K (.sh (.ptr a)) (ρ.set i (.sh (.ptr a)) ++ [.own false a d])
    | some (.sh d) => K (.sh d) ρ
    | _ => False := rfl
theorem fz_sh : fzK n (.sh d) ρ K = ∃ e, Vw (gF (ρ.drop n)) d e ∧ K (.sh e) (ρ.take n) := rfl
theorem fz_fr : fzK n (.fr a d) ρ K = ∃ e, Vw (gF (ρ.drop n)) d e ∧ K (.fr a e) (ρ.take n) := rfl
theorem fz_gh : fzK n (.gh j a) ρ K = ∃ e, Vw (gF (ρ.drop n)) (.ptr a) e ∧ K (.sh e) (ρ.take n) := rfl
theorem fz_loc : fzK n (.loc i) ρ K = match ρ[i]? with
    | some (.sh d) => ∃ e, Vw (gF (ρ.drop n)) d e ∧ K (.sh e) (ρ.take n)
    | some (.own false a d) => ∃ e, Vw (gF ((ρ.set i .no).drop n)) d e ∧ K (.fr a e) ((ρ.set i .no).take n)
    | _ => False := rfl
theorem ghs_nil : ghs [] cs = [] := by unfold ghs; rfl
theorem ghs_cons {c : D} : ghs (a :: as) (c :: cs) = .own false a c :: ghs as cs := by unfold ghs; rfl
theorem ghs_len (h : as.length = cs.length) : (ghs as cs).length = as.length := by unfold ghs; simp [h]
theorem ghs_at {q : Nat} {c : D} (h1 : as[q]? = some a) (h2 : cs[q]? = some c) : (ghs as cs)[q]? = some (.own false a c) := by
  unfold ghs
  rw [List.getElem?_zipWith, h1, h2]
theorem ghs_snoc {c : D} : ∀ {as : List Addr} {cs : List D}, as.length = cs.length → ghs (as ++ [a]) (cs ++ [c]) = ghs as cs ++ [.own false a c]
  | [], [], _ => rfl
  | x :: as, y :: cs, h => by
    have ih := ghs_snoc (c := c) (as := as) (cs := cs) (by simpa using h)
    show Sl.own false x y :: ghs (as ++ [a]) (cs ++ [c]) = _
    rw [ih]
    rfl
  | [], _ :: _, h => by simp at h
  | _ :: _, [], h => by simp at h
theorem gF_ghs : ∀ {as : List Addr} {cs : List D}, as.length = cs.length → gF (ghs as cs) = as.zip cs
  | [], [], _ => rfl
  | x :: as, y :: cs, h => by
    show (x, y) :: gF (ghs as cs) = (x, y) :: as.zip cs
    rw [gF_ghs (by simpa using h)]
  | [], _ :: _, h => by simp at h
  | _ :: _, [], h => by simp at h
theorem gF_app : ∀ {ρ τ : REnv}, gF (ρ ++ τ) = gF ρ ++ gF τ
  | [], _ => rfl
  | .no :: ρ, τ => gF_app (ρ := ρ)
  | .sh _ :: ρ, τ => gF_app (ρ := ρ)
  | .own true _ _ :: ρ, τ => gF_app (ρ := ρ)
  | .own false a d :: ρ, τ => by
    show (a, d) :: gF (ρ ++ τ) = (a, d) :: (gF ρ ++ gF τ)
    rw [gF_app (ρ := ρ)]
/-- a list of pointers reads as the list of what they point to -/
theorem vws_ptr {L : List (Addr × D)} : ∀ {as : List Addr} {cs : List D}, as.length = cs.length → (∀ p ∈ as.zip cs, p ∈ L) → Vws L (as.map .ptr) cs
  | [], [], _, _ => .nil
  | x :: as, y :: cs, h, q => .cons (.ptr (q (x, y) List.mem_cons_self) (.self y)) (vws_ptr (by simpa using h) fun p hp => q p (List.mem_cons_of_mem _ hp))
  | [], _ :: _, h, _ => by simp at h
  | _ :: _, [], h, _ => by simp at h
end
end TL

namespace TL
open PySem PySem.Spec L2
/-- behind a statement the ghosts are forgotten -/
def sCut (n : Nat) (s : SW) : SW := fun xk ρ K => s xk ρ { K with nx := fun ρ' => K.nx (ρ'.take n) }
theorem ds_cut {X : Cx} {Z : Zone} {st : Stmt} {sa : SW} {n : Nat} (h : PS X st (Ts Z sa)) (hn : X.N.length ≤ n) : PS X st (Ts Z (sCut n sa)) :=
  ⟨fun pins s σ H D I ⟨ρ, G, K, IR, hw, l⟩ => h.run pins s σ H D I ⟨ρ, G, _, IR, hw, ⟨fun ρ' σ' H' G' le I' k => by
    have hz : Z.n ≤ n := by rw [← IR.len.1, I.len]; exact hn
    exact l.nx _ σ' H' G' le (I'.cut hz) k, l.rt, l.bk, l.ct⟩⟩⟩
end TL

namespace TL
open PySem PySem.Spec PySem.Calls PyProof.Rows L2
/-! ### xs[l::k], l and k constants -/
end TL

namespace TL
open PySem PySem.Spec L2
/-! ### a call that is lent an own list and gives back other lists, of other lengths -/
section
variable {Z : Zone} {ρ : REnv} {G H : Hp} {σ : L2.St}
end
section
variable {X : Cx} {Z : Zone} {C : Ccs} {k : Nat} {f : Addr} {fd : FuncData} {ps : List Str} {sp : FSpec} {aw : AgW} {x : Str} {p pos : Pos} {e : Expr} {es : List Expr}
end
end TL

namespace TL
open PySem PySem.Spec L2
/-! ### range(i, j, c) -/
section
variable {X : Cx} {Z : Zone}
end
end TL

namespace TL
open PySem PySem.Spec L2
/-! ### max(xs, default=d), xs integers -/
end TL

namespace TL
open PySem PySem.Spec L2
/-! ### xs.count(k), xs integers -/
section
variable {X : Cx} {Z : Zone} {a b : Expr} {wa wb : EW}
end
end TL

/-! a != b, where a's class has an == of its own and no !=. -/
namespace TL
open PySem PySem.Spec L2
open PySem.W (findIn isFn mroIn notFirst InstAt)
section
variable {prog : Program} {w : World} {A : Around} {E : Value → Shared → Prop} {s : Shared} {K : PySem.W.Frag} {x C L f : Addr} {h₀ : Heap} {m : Str → Option Value} {ox : Obj} {od : Option Obj} {b tb : Value}
end
section
variable {X : Cx} {Z : Zone} {C : Ccs} {c k np : Nat} {fa : Addr} {fd : FuncData} {ps ks : List Str} {sp : FSpec} {e a b : Expr} {w wa wb : EW} {pos : Pos}
def neK (K : Rv → REnv → Prop) : Rv → REnv → Prop := fun r ρ => ∃ c, r = .sh (.bl c) ∧ K (.sh (.bl (!c))) ρ
def eNe2 (c : Nat) (sp : FSpec) (wa wb : EW) : EW := eTwo wa wb fun d1 d2 xk ρ K => isObj c d1 ∧ isObj c d2 ∧ callK sp [.ro d1, .ro d2] ρ xk (neK K)
end
end TL

/-! xs * n, xs any list. -/
namespace TL
open PySem PySem.Spec L2
open MeetsSeq MeetsSeq2 MeetsSeq3 in
section
variable {X : Cx} {Z : Zone} {a b : Expr} {wa wb : EW} {pos : Pos}
/-- xs * n, a new list -/
def opRep : D → D → OW
  | .lst ds, .int k => fun K => (-(2 ^ 63) ≤ k ∧ k < 2 ^ 63 ∧ ds.length * k.toNat ≤ sizeLine) ∧ K (.fr (.lst (List.replicate k.toNat ds).flatten))
  | _, _ => fun _ => False
theorem rep_l {ds : List D} {k : Int} {K : Ro → Prop} : opRep (.lst ds) (.int k) K = ((-(2 ^ 63) ≤ k ∧ k < 2 ^ 63 ∧ ds.length * k.toNat ≤ sizeLine) ∧ K (.fr (.lst (List.replicate k.toNat ds).flatten))) := rfl
end
end TL

namespace TL
open PySem PySem.Spec L2
/-! ### min(t), t a tuple of integers -/
def opMinT : D → OW
  | .tup ds => fun k => ∃ ns : List Int, ds = ns.map D.int ∧ 0 < ns.length ∧ ∀ m, m ∈ ns → (∀ y, y ∈ ns → m ≤ y) → k (.sh (.int m))
  | _ => fun _ => False
theorem minT_t {ds : List D} {k : Ro → Prop} : opMinT (.tup ds) k = ∃ ns : List Int, ds = ns.map D.int ∧ 0 < ns.length ∧ ∀ m, m ∈ ns → (∀ y, y ∈ ns → m ≤ y) → k (.sh (.int m)) := rfl
end TL

namespace TL
open PySem PySem.Spec L2
/-! ### xs < ys, lists of ints -/
def rLtL (K : PySem.W.Frag) : R2 := fun x y H Q => ∃ (a b : Addr) (ns ms : List Int), x = .ref a ∧ y = .ref b ∧ SqL K H a (ns.map V.int) ∧ SqL K H b (ms.map V.int) ∧ Q (.bl (decide (ns < ms))) H
theorem op_ltL {X : Cx} (hA : X.A.units + 6 < cLine) : OpR X (compareOp .Lt) (rLtL X.K) := by
  intro pins s σ H x y v u Q I rx ry h
  obtain ⟨a, b, ns, ms, rfl, rfl, ha, hb, q⟩ := h
  obtain ⟨as, ra⟩ := Dp.reads I (.list (ns.map PyData.int)) (.ref a) v (.lst ha (dpAll_ints ns)) rx
  obtain ⟨bs, rb⟩ := Dp.reads I (.list (ms.map PyData.int)) (.ref b) u (.lst hb (dpAll_ints ms)) ry
  refine PySem.W.lt_data ra rb (PySem.W.alike_ints ns ms) (by simp) ?_ ?_
  · have : (PyData.list (ns.map PyData.int)).depth ≤ 1 := by
      show PyData.depthAll (ns.map PyData.int) + 1 ≤ 1
      rw [depth_ints]; exact Nat.le_refl 1
    omega
  · have e : PySem.W.dataLt (.list (ns.map PyData.int)) (.list (ms.map PyData.int)) = decide (ns < ms) := by
      rw [PySem.W.dataLt_list]
      exact PySem.W.dataLt_ints ns ms
    rw [e]
    exact ⟨.bl _, H, I, rfl, q⟩
section
variable {cc : CC}
def opLtL : D → D → OW
  | .lst ds, .lst es => fun k => ∃ ns ms : List Int, ds = ns.map D.int ∧ es = ms.map D.int ∧ k (.sh (.bl (decide (ns < ms))))
  | _, _ => fun _ => False
theorem ops_ltL {K : PySem.W.Frag} (hK : cc.K = K) : OpS cc opLtL (rLtL K) := by
  subst hK
  intro G H x y d e k Q le v1 v2 _ _ ho fin
  unfold opLtL at ho
  split at ho
  · obtain ⟨a, vs, ea, ra, rs⟩ := v1
    obtain ⟨b, us, eb, rb, qs⟩ := v2
    obtain ⟨ns, ms, rfl, rfl, hk⟩ := ho
    have e1 := rs.ints
    have e2 := qs.ints
    subst e1 e2
    exact ⟨a, b, ns, ms, ea, eb, ra, rb, (fin _ hk).1 _ rep_bl⟩
  · exact ho.elim
end
theorem ltL_l {ds es : List D} {k : Ro → Prop} : opLtL (.lst ds) (.lst es) k = ∃ ns ms : List Int, ds = ns.map D.int ∧ es = ms.map D.int ∧ k (.sh (.bl (decide (ns < ms)))) := rfl
end TL

namespace TL
open PySem L2
/-! ### words of defs: how they are read -/
theorem mus0 {mus : List Addr} (h : mus.length = 0) : mus = [] := List.length_eq_zero_iff.mp h
theorem mus1 {mus : List Addr} (h : mus.length = 1) : ∃ a, mus = [a] := List.length_eq_one_iff.mp h
theorem atI0 {α : Type} {x : α} {xs : List α} : L2.atI (x :: xs) 0 = some x := by
  show (ixN (xs.length + 1) 0).bind _ = _
  unfold ixN
  rw [if_pos (by omega), if_pos (by omega)]
  rfl
theorem atI1 {α : Type} {x y : α} {xs : List α} : L2.atI (x :: y :: xs) 1 = some y := by
  show (ixN (xs.length + 2) 1).bind _ = _
  unfold ixN
  rw [if_pos (by omega), if_pos (by omega)]
  rfl
theorem atI2 {α : Type} {x y z : α} {xs : List α} : L2.atI (x :: y :: z :: xs) 2 = some z := by
  show (ixN (xs.length + 3) 2).bind _ = _
  unfold ixN
  rw [if_pos (by omega), if_pos (by omega)]
  rfl
theorem atI_int {α : Type} {xs : List α} {i : Int} (h0 : 0 ≤ i) (h1 : i < xs.length) : L2.atI xs i = some (xs[i.toNat]'(by omega)) := by
  unfold L2.atI ixN
  rw [if_pos h0, if_pos h1]
  exact List.getElem?_eq_getElem (by omega)
theorem ixN0 {n : Nat} : ixN (n + 1) 0 = some 0 := by unfold ixN; rw [if_pos (by omega), if_pos (by omega)]; rfl
theorem ixN1 {n : Nat} : ixN (n + 2) 1 = some 1 := by unfold ixN; rw [if_pos (by omega), if_pos (by omega)]; rfl
theorem ixN2 {n : Nat} : ixN (n + 3) 2 = some 2 := by unfold ixN; rw [if_pos (by omega), if_pos (by omega)]; rfl
theorem some_inj_ex {α : Type} {a : α} {p : α → Prop} : (∃ d, some a = some d ∧ p d) ↔ p a := ⟨fun ⟨d, e, h⟩ => by cases e; exact h, fun h => ⟨a, rfl, h⟩⟩
theorem eqD_int {a b : Int} : eqD (.int a) (.int b) = decide (a = b) := by
  unfold eqD
  simp only [pd, PyData.eqv]
  rw [Bool.beq_eq_decide_eq]
theorem okD_int {n : Nat} {a : Int} : okD n (.int a) = true := by unfold okD; rfl
theorem setAt0 {α : Type} {x : α} : setAt [] 0 x = [x] := rfl
theorem setAt1 {α : Type} {a x : α} : setAt [a] 1 x = [a, x] := rfl
theorem setAt2 {α : Type} {a b x : α} : setAt [a, b] 2 x = [a, b, x] := rfl
theorem setAt3 {α : Type} {a b c x : α} : setAt [a, b, c] 3 x = [a, b, c, x] := rfl
/-- bits -/
def Bt (n : Nat) (x : Int) : Prop := x.natAbs.log2 < n
theorem log2_lt_of {x n : Nat} (h : x < 2 ^ n) (hn : 0 < n) : x.log2 < n := by
  by_cases h0 : x = 0
  · subst h0; simpa using hn
  · exact (Nat.log2_lt h0).mpr h
theorem Bt.of {n : Nat} {x : Int} (hn : 0 < n) (h1 : -(2 ^ n : Int) < x) (h2 : x < 2 ^ n) : Bt n x := by
  refine log2_lt_of ?_ hn
  have : ((2 ^ n : Nat) : Int) = 2 ^ n := by simp
  omega
theorem Bt.mono {n m : Nat} {x : Int} (h : Bt n x) (hm : n ≤ m) : Bt m x := Nat.lt_of_lt_of_le h hm
theorem Bt.lt {n : Nat} {x : Int} (h : Bt n x) : x.natAbs < 2 ^ n := by
  unfold Bt at h
  by_cases h0 : x.natAbs = 0
  · rw [h0]; exact Nat.two_pow_pos _
  · exact (Nat.log2_lt h0).mp h
theorem Bt.mul {n m : Nat} {x y : Int} (h : Bt n x) (k : Bt m y) : Bt (n + m) (x * y) := by
  have hn : 0 < n := Nat.zero_lt_of_lt h
  refine log2_lt_of ?_ (by omega)
  rw [Int.natAbs_mul, Nat.pow_add]
  exact Nat.mul_lt_mul'' h.lt k.lt
theorem Bt.add {n : Nat} {x y : Int} (h : Bt n x) (k : Bt n y) : Bt (n + 1) (x + y) := by
  refine log2_lt_of ?_ (by omega)
  have h1 := h.lt
  have h2 := k.lt
  rw [Nat.pow_succ]
  omega
theorem Bt.neg {n : Nat} {x : Int} (h : Bt n x) : Bt n (-x) := by unfold Bt; rw [Int.natAbs_neg]; exact h
theorem Bt.sub {n : Nat} {x y : Int} (h : Bt n x) (k : Bt n y) : Bt (n + 1) (x - y) := by rw [Int.sub_eq_add_neg]; exact h.add k.neg
theorem Bt.le {n : Nat} {x y : Int} (h : Bt n y) (k : x.natAbs ≤ y.natAbs) : Bt n x := by
  have hn : 0 < n := Nat.zero_lt_of_lt h
  exact log2_lt_of (Nat.lt_of_le_of_lt k h.lt) hn
theorem Bt.mulOk {n m : Nat} {x y : Int} (h : Bt n x) (k : Bt m y) (hm : n + m ≤ 100000000) : MulOk x y := by
  unfold MulOk
  unfold Bt at h k
  omega
theorem Bt.small {x : Int} (h1 : -(1000000000000 : Int) < x) (h2 : x < 1000000000000) : Bt 40 x := Bt.of (by omega) (by omega) (by omega)
theorem DivOk.of {n : Nat} {x : Int} (h0 : 0 < x) (h : Bt n x) (hn : n ≤ 9000) : DivOk x := ⟨h0, Nat.lt_of_lt_of_le h hn⟩

theorem out_sh {d : D} {ρ : REnv} {K : Rv → REnv → Prop} : out (.sh d) ρ K = K (.sh d) ρ := rfl
theorem out_fr {d : D} {ρ : REnv} {K : Rv → REnv → Prop} : out (.fr d) ρ K = ∀ a, K (.fr a d) ρ := rfl
theorem get_loc {i : Nat} {ρ : REnv} : Rv.get (.loc i) ρ = getL ρ i := rfl
theorem get_sh {d : D} {ρ : REnv} : Rv.get (.sh d) ρ = d := rfl
theorem get_fr {a : Addr} {d : D} {ρ : REnv} : Rv.get (.fr a d) ρ = d := rfl
theorem getL_z {d : D} {ρ : REnv} : getL (.sh d :: ρ) 0 = d := rfl
theorem getL_o {m : Bool} {a : Addr} {d : D} {ρ : REnv} : getL (.own m a d :: ρ) 0 = d := rfl
theorem getL_s {s : Sl} {i : Nat} {ρ : REnv} : getL (s :: ρ) (i + 1) = getL ρ i := by unfold getL; rw [List.getElem?_cons_succ]
theorem bound_z {d : D} {ρ : REnv} : bound (.sh d :: ρ) 0 = True := rfl
theorem bound_o {m : Bool} {a : Addr} {d : D} {ρ : REnv} : bound (.own m a d :: ρ) 0 = True := rfl
theorem bound_s {s : Sl} {i : Nat} {ρ : REnv} : bound (s :: ρ) (i + 1) = bound ρ i := by unfold bound; rw [List.getElem?_cons_succ]
theorem isOwn_o {m : Bool} {a : Addr} {d : D} {ρ : REnv} : isOwn (.own m a d :: ρ) 0 = True := rfl
theorem isOwn_s {s : Sl} {i : Nat} {ρ : REnv} : isOwn (s :: ρ) (i + 1) = isOwn ρ i := by unfold isOwn; rw [List.getElem?_cons_succ]
theorem pok_loc {i : Nat} {ρ : REnv} : pok (.loc i) ρ = bound ρ i := rfl
theorem pok_sh {d : D} {ρ : REnv} : pok (.sh d) ρ = True := rfl
theorem pok_fr {a : Addr} {d : D} {ρ : REnv} : pok (.fr a d) ρ = True := rfl
/-- what stands in a slot, for a store -/
def stlS (s : Option Sl) (i : Nat) (ρ : REnv) (K : D → REnv → Prop) : Prop := match s with
    | some (.sh d) => K d ρ
    | some (.own false _ d) => K d (ρ.set i (.sh d))
    | _ => False
theorem stl_loc {i : Nat} {ρ : REnv} {K : D → REnv → Prop} : stl (.loc i) ρ K = stlS ρ[i]? i ρ K := rfl
theorem stlS_sh {i : Nat} {d : D} {ρ : REnv} {K : D → REnv → Prop} : stlS (some (.sh d)) i ρ K = K d ρ := rfl
theorem stlS_own {i : Nat} {a : Addr} {d : D} {ρ : REnv} {K : D → REnv → Prop} : stlS (some (.own false a d)) i ρ K = K d (ρ.set i (.sh d)) := rfl
theorem stl_sh {d : D} {ρ : REnv} {K : D → REnv → Prop} : stl (.sh d) ρ K = K d ρ := rfl
theorem stl_fr {a : Addr} {d : D} {ρ : REnv} {K : D → REnv → Prop} : stl (.fr a d) ρ K = K d ρ := rfl
theorem lay_fr {i : Nat} {a : Addr} {d : D} {ρ : REnv} {K : REnv → Prop} : lay i (.fr a d) ρ K = K (ρ.set i (.own false a d)) := rfl
theorem lay_sh {i : Nat} {d : D} {ρ : REnv} {K : REnv → Prop} : lay i (.sh d) ρ K = K (ρ.set i (.sh d)) := rfl
theorem lay_loc {i j : Nat} {ρ : REnv} {K : REnv → Prop} : lay i (.loc j) ρ K = stlS ρ[j]? j ρ fun d ρ2 => K (ρ2.set i (.sh d)) := rfl
/-- a truth value -/
def tstD (d : D) (K : Bool → Prop) : Prop := match d with | .bl b => K b | _ => False
theorem tVal_eq {w : EW} : tVal w = fun xk ρ K => w xk ρ fun r ρ' => tstD (r.get ρ') fun b => K b ρ' := by
  funext xk ρ K
  unfold tVal tstD
  rfl
theorem tstD_bl {b : Bool} {K : Bool → Prop} : tstD (.bl b) K = K b := rfl
theorem add_ii {i j : Int} {k} : opAdd (.int i) (.int j) k = k (.sh (.int (i + j))) := rfl
theorem add_ss {i j : Str} {k} : opAdd (.str i) (.str j) k = (i.length + j.length ≤ sizeLine ∧ k (.sh (.str (i ++ j)))) := rfl
theorem add_ll {i j : List D} {k} : opAdd (.lst i) (.lst j) k = (i.length + j.length ≤ sizeLine ∧ k (.fr (.lst (i ++ j)))) := rfl
theorem sub_ii {i j : Int} {k} : opSub (.int i) (.int j) k = k (.sh (.int (i - j))) := rfl
theorem mul_ii {i j : Int} {k} : opMul (.int i) (.int j) k = (MulOk i j ∧ k (.sh (.int (i * j)))) := rfl
theorem fdv_ii {i j : Int} {k} : opFdv (.int i) (.int j) k = (DivOk j ∧ k (.sh (.int (i / j)))) := rfl
theorem fdvN_ii {i j : Int} {k} : opFdvN (.int i) (.int j) k = (DivOkN j ∧ k (.sh (.int (i.fdiv j)))) := rfl
theorem mod_ii {i j : Int} {k} : opMod (.int i) (.int j) k = (0 < j ∧ k (.sh (.int (i % j)))) := rfl
theorem modN_ii {i j : Int} {k} : opModN (.int i) (.int j) k = (j ≠ 0 ∧ k (.sh (.int (i.fmod j)))) := rfl
theorem pow_ii {i j : Int} {k} : opPow (.int i) (.int j) k = (CPow i j ∧ k (.sh (.int (i ^ j.toNat)))) := rfl
theorem lt_ii {i j : Int} {k} : opLt (.int i) (.int j) k = k (.sh (.bl (decide (i < j)))) := rfl
theorem le_ii {i j : Int} {k} : opLe (.int i) (.int j) k = k (.sh (.bl (decide (i ≤ j)))) := rfl
theorem gt_ii {i j : Int} {k} : opGt (.int i) (.int j) k = k (.sh (.bl (decide (j < i)))) := rfl
theorem ge_ii {i j : Int} {k} : opGe (.int i) (.int j) k = k (.sh (.bl (decide (j ≤ i)))) := rfl
theorem eq_ii {i j : Int} {k} : opEq (.int i) (.int j) k = k (.sh (.bl (decide (i = j)))) := by unfold opEq; rw [eqD_int, okD_int, okD_int]; exact propext ⟨fun h => h.2, fun h => ⟨⟨rfl, rfl⟩, h⟩⟩
theorem ne_ii {i j : Int} {k} : opNe (.int i) (.int j) k = k (.sh (.bl (!decide (i = j)))) := by unfold opNe; rw [eqD_int, okD_int, okD_int]; exact propext ⟨fun h => h.2, fun h => ⟨⟨rfl, rfl⟩, h⟩⟩
theorem ix_li {ds : List D} {i : Int} {k} : opIx (.lst ds) (.int i) k = ∃ d, L2.atI ds i = some d ∧ k (.sh d) := rfl
theorem ix_ti {ds : List D} {i : Int} {k} : opIx (.tup ds) (.int i) k = ∃ d, L2.atI ds i = some d ∧ k (.sh d) := rfl
theorem neg_i {i : Int} {k} : opNeg (.int i) k = k (.sh (.int (-i))) := rfl
theorem abs_i {i : Int} {k} : opAbs (.int i) k = k (.sh (.int (if i < 0 then -i else i))) := rfl
theorem int_i {i : Int} {k} : opInt (.int i) k = k (.sh (.int i)) := rfl
theorem int_b {i : Bool} {k} : opInt (.bl i) k = k (.sh (.int (if i then 1 else 0))) := rfl
theorem max_ii {i j : Int} {k} : opMax2 (.int i) (.int j) k = k (.sh (.int (if j > i then j else i))) := rfl
theorem min_ii {i j : Int} {k} : opMin2 (.int i) (.int j) k = k (.sh (.int (if j < i then j else i))) := rfl
theorem len_l {ds : List D} {k} : opLen (.lst ds) k = k (.sh (.int ds.length)) := rfl
theorem len_t {ds : List D} {k} : opLen (.tup ds) k = k (.sh (.int ds.length)) := rfl
theorem list_l {ds : List D} {k} : opList (.lst ds) k = k (.fr (.lst ds)) := rfl
theorem sl_l {lo hi : Option Int} {ds : List D} {k} : opSl lo hi (.lst ds) k = k (.fr (.lst (cutL ds lo hi))) := rfl
theorem list_t {ds : List D} {k} : opList (.tup ds) k = k (.fr (.lst ds)) := rfl
theorem rev_l {ds : List D} {k} : opRev (.lst ds) k = k (.fr (.lst ds.reverse)) := rfl
theorem isi_int {t : Ty} {i : Int} {k} : opIsI t (.int i) k = k (.sh (.bl (isTy t (.int i)))) := propext ⟨fun h => h.2, fun h => ⟨rfl, h⟩⟩
theorem isi_bl {t : Ty} {i : Bool} {k} : opIsI t (.bl i) k = k (.sh (.bl (isTy t (.bl i)))) := propext ⟨fun h => h.2, fun h => ⟨rfl, h⟩⟩
theorem isi_tup {t : Ty} {i : List D} {k} : opIsI t (.tup i) k = k (.sh (.bl (isTy t (.tup i)))) := propext ⟨fun h => h.2, fun h => ⟨rfl, h⟩⟩
theorem isi_lst {t : Ty} {i : List D} {k} : opIsI t (.lst i) k = k (.sh (.bl (isTy t (.lst i)))) := propext ⟨fun h => h.2, fun h => ⟨rfl, h⟩⟩
theorem isi_non {t : Ty} {k} : opIsI t .non k = k (.sh (.bl (isTy t .non))) := propext ⟨fun h => h.2, fun h => ⟨rfl, h⟩⟩
theorem isN_i {i : Int} {k} : opIsN (.int i) k = k (.sh (.bl false)) := rfl
theorem isN_n {k} : opIsN .non k = k (.sh (.bl true)) := rfl
theorem isN_t {i : List D} {k} : opIsN (.tup i) k = k (.sh (.bl false)) := rfl
theorem isN_l {i : List D} {k} : opIsN (.lst i) k = k (.sh (.bl false)) := rfl
theorem notN_i {i : Int} {k} : opNotN (.int i) k = k (.sh (.bl true)) := rfl
theorem notN_n {k} : opNotN .non k = k (.sh (.bl false)) := rfl
theorem notN_t {i : List D} {k} : opNotN (.tup i) k = k (.sh (.bl true)) := rfl
theorem notN_l {i : List D} {k} : opNotN (.lst i) k = k (.sh (.bl true)) := rfl
def eFldD (c j : Nat) (d : D) (K : D → Prop) : Prop := match d with
  | .obj c' ds => c' = c ∧ match ds[j]? with | some d => K d | none => False
  | _ => False
theorem eFld_eq {c j : Nat} {w : EW} : eFld c j w = fun xk ρ K => w xk ρ fun r ρ1 => eFldD c j (r.get ρ1) fun d => K (.sh d) ρ1 := rfl
theorem eFldD_o {c c' j : Nat} {ds : List D} {K : D → Prop} : eFldD c j (.obj c' ds) K = (c' = c ∧ match ds[j]? with | some d => K d | none => False) := rfl
local macro_rules | `(tactic| walk_at "sx") => `(tactic| simp only [sSeq, sNil, sSet, sFrz, frz_o, frz_sh, frz_s, sIf, sRet, sRetN, sPass, sBrk, sPar, sSub, sApp, sExpr, sAsg, sAug, sFld, sRevI, sPop, eLoc, eC, eUn, eBin, eAnd, eOr, eNot, eIf, eTup, eLst, dNil, dCons, tVal_eq, tstD_bl, tAndW, tOrW, tNotW, eFld_eq, eFldD_o, eProp, eMeth, eMeth0, eSl, pNone, pSome, sl_l,
  out_sh, out_fr, get_loc, get_sh, get_fr, getL_z, getL_o, getL_s, bound_z, bound_o, bound_s, isOwn_o, isOwn_s, pok_loc, pok_sh, pok_fr, stl_loc, stlS_sh, stlS_own, stl_sh, stl_fr, lay_fr, lay_sh, lay_loc, envOf, slotsOf, valN, ghOf, endK, resK, exMu, muN, List.cons_append, List.nil_append, List.append_nil, List.length_cons, List.length_nil, Nat.reduceAdd, Nat.reduceSub, List.replicate_succ, List.replicate_zero, List.replicate,
  List.getElem?_cons_zero, List.getElem?_cons_succ, List.getElem?_nil, List.set_cons_zero, List.set_cons_succ,
  add_ii, add_ss, add_ll, sub_ii, mul_ii, fdv_ii, fdvN_ii, mod_ii, modN_ii, pow_ii, lt_ii, le_ii, gt_ii, ge_ii, eq_ii, ne_ii, ix_li, ix_ti, neg_i, abs_i, int_i, int_b, max_ii, min_ii, len_l, len_t, list_l, list_t, rev_l, isi_int, isi_bl, isi_tup, isi_lst, isi_non, isN_i, isN_n, isN_t, isN_l, notN_i, notN_n, notN_t, notN_l, isTy,
  atI0, atI1, atI2, ixN0, ixN1, ixN2, some_inj_ex, isObj, setAt0, setAt1, setAt2, setAt3, restE, keepS, wipeE, ↓reduceIte, if_false, if_true,
  eCall, eCallP, eMake, pm, List.filterMap_cons, List.filterMap_nil, agNil, agRo, agBo, agMu, agTm, callK, boIx, muIx, tms, argsK, upE, reown, hasBo, noTm, List.nodup_nil, List.nodup_cons, List.not_mem_nil, not_false_eq_true, Nat.zero_le, Nat.le_refl, Nat.reduceLeDiff, List.mem_cons, or_false, reduceCtorEq,
  gN, gTp, gCn, gNl, iR1, iR2, iLst, iTpl, iEnum, stab,
  true_and, and_true, Bool.true_eq_false, Bool.false_eq_true, false_imp_iff, forall_const, true_imp_iff, and_self, decide_eq_true_eq, decide_eq_false_iff_not, Bool.not_eq_true', Bool.not_eq_false'])
abbrev encR (p : Int × Int) : D := .tup [.int p.1, .int p.2]
end TL

namespace TL
open PySem L2
local macro_rules | `(tactic| walk_at "sx") => `(tactic| simp only [sSeq, sNil, sSet, sFrz, frz_o, frz_sh, frz_s, sIf, sRet, sRetN, sPass, sBrk, sPar, sSub, sApp, sExpr, sAsg, sAug, sFld, sRevI, sPop, eLoc, eC, eUn, eBin, eAnd, eOr, eNot, eIf, eTup, eLst, dNil, dCons, tVal_eq, tstD_bl, tAndW, tOrW, tNotW, eFld_eq, eFldD_o, eProp, eMeth, eMeth0, eSl, pNone, pSome, sl_l,
  out_sh, out_fr, get_loc, get_sh, get_fr, getL_z, getL_o, getL_s, bound_z, bound_o, bound_s, isOwn_o, isOwn_s, pok_loc, pok_sh, pok_fr, stl_loc, stlS_sh, stlS_own, stl_sh, stl_fr, lay_fr, lay_sh, lay_loc, envOf, slotsOf, valN, ghOf, endK, resK, exMu, muN, List.cons_append, List.nil_append, List.append_nil, List.length_cons, List.length_nil, Nat.reduceAdd, Nat.reduceSub, List.replicate_succ, List.replicate_zero, List.replicate,
  List.getElem?_cons_zero, List.getElem?_cons_succ, List.getElem?_nil, List.set_cons_zero, List.set_cons_succ,
  add_ii, add_ss, add_ll, sub_ii, mul_ii, fdv_ii, fdvN_ii, mod_ii, modN_ii, pow_ii, lt_ii, le_ii, gt_ii, ge_ii, eq_ii, ne_ii, ix_li, ix_ti, neg_i, abs_i, int_i, int_b, max_ii, min_ii, len_l, len_t, list_l, list_t, rev_l, isi_int, isi_bl, isi_tup, isi_lst, isi_non, isN_i, isN_n, isN_t, isN_l, notN_i, notN_n, notN_t, notN_l, isTy,
  atI0, atI1, atI2, ixN0, ixN1, ixN2, some_inj_ex, isObj, setAt0, setAt1, setAt2, setAt3, restE, keepS, wipeE, ↓reduceIte, if_false, if_true,
  eCall, eCallP, eMake, pm, List.filterMap_cons, List.filterMap_nil, agNil, agRo, agBo, agMu, agTm, callK, boIx, muIx, tms, argsK, upE, reown, hasBo, noTm, flatRo, noLstAll, noLst, noLsts, List.nodup_nil, List.nodup_cons, List.not_mem_nil, not_false_eq_true, Nat.zero_le, Nat.le_refl, Nat.reduceLeDiff, List.mem_cons, or_false, reduceCtorEq,
  gN, gTp, gCn, gNl, iR1, iR2, iLst, iTpl, iEnum, stab,
  true_and, and_true, Bool.true_eq_false, Bool.false_eq_true, false_imp_iff, forall_const, true_imp_iff, and_self, decide_eq_true_eq, decide_eq_false_iff_not, Bool.not_eq_true', Bool.not_eq_false'])
/-! ### numbers -/
theorem dvd_of_gcd {m b c : Int} (h : Int.gcd b m = 1) (d : m ∣ c * b) : m ∣ c := by
  have h1 : Nat.Coprime m.natAbs b.natAbs := by rw [Nat.coprime_comm]; exact h
  have h2 : m.natAbs ∣ c.natAbs * b.natAbs := by rw [← Int.natAbs_mul]; exact Int.natAbs_dvd_natAbs.mpr d
  exact Int.natAbs_dvd_natAbs.mp (h1.dvd_of_dvd_mul_right h2)
/-- the remainder of t / b by m: the first number r with r * b = t modulo m -/
def remF (m t b : Int) : Int := (((List.range m.toNat).find? fun (r : Nat) => decide (((r : Int) * b - t) % m = 0)).getD 0 : Nat)
theorem rem_uniq {m t b r s : Int} (hm : 0 < m) (hg : Int.gcd b m = 1) (r0 : 0 ≤ r) (r1 : r < m) (s0 : 0 ≤ s) (s1 : s < m) (hr : (r * b - t) % m = 0) (hs : (s * b - t) % m = 0) : r = s := by
  have h1 := Int.dvd_of_emod_eq_zero hr
  have h2 := Int.dvd_of_emod_eq_zero hs
  have h3 : m ∣ (r - s) * b := by
    have := Int.dvd_sub h1 h2
    have e : r * b - t - (s * b - t) = (r - s) * b := by rw [Int.sub_mul]; omega
    rw [e] at this; exact this
  obtain ⟨k, hk⟩ := dvd_of_gcd hg h3
  have : k = 0 := by
    rcases Int.lt_trichotomy k 0 with h | h | h
    · have : m * k ≤ m * (-1) := Int.mul_le_mul_of_nonneg_left (by omega) (by omega)
      omega
    · exact h
    · have : m * 1 ≤ m * k := Int.mul_le_mul_of_nonneg_left (by omega) (by omega)
      omega
  subst this
  omega
theorem remF_eq {m t b r : Int} (hm : 0 < m) (hg : Int.gcd b m = 1) (r0 : 0 ≤ r) (r1 : r < m) (hr : (r * b - t) % m = 0) : remF m t b = r := by
  unfold remF
  cases h : (List.range m.toNat).find? fun (r : Nat) => decide (((r : Int) * b - t) % m = 0) with
  | none =>
    have := List.find?_eq_none.mp h r.toNat (List.mem_range.mpr (by omega))
    rw [Int.toNat_of_nonneg r0] at this
    simp [hr] at this
  | some s =>
    have h1 := List.find?_some h
    have h2 := List.mem_range.mp (List.mem_of_find?_eq_some h)
    have h3 : ((s : Int) * b - t) % m = 0 := by simpa using h1
    exact rem_uniq hm hg (by omega) (by simp; omega) r0 r1 h3 hr

/-- the tuple is a fraction that is good for m -/
def Good (m : Int) (p : Int × Int) : Prop := 1 ≤ p.2 ∧ Int.gcd p.1 p.2 = 1 ∧ Int.gcd p.2 m = 1
instance (m : Int) (p : Int × Int) : Decidable (Good m p) := by unfold Good; exact inferInstance
end TL

namespace TL
open PySem L2
local macro_rules | `(tactic| walk_at "sx") => `(tactic| simp only [sSeq, sNil, sSet, sFrz, frz_o, frz_sh, frz_s, sIf, sRet, sRetN, sPass, sBrk, sPar, sSub, sApp, sExpr, sAsg, sAug, sFld, sRevI, sPop, eLoc, eC, eUn, eBin, eAnd, eOr, eNot, eIf, eTup, eLst, dNil, dCons, tVal_eq, tstD_bl, tAndW, tOrW, tNotW, eFld_eq, eFldD_o, eProp, eMeth, eMeth0, eSl, pNone, pSome, sl_l,
  out_sh, out_fr, get_loc, get_sh, get_fr, getL_z, getL_o, getL_s, bound_z, bound_o, bound_s, isOwn_o, isOwn_s, pok_loc, pok_sh, pok_fr, stl_loc, stlS_sh, stlS_own, stl_sh, stl_fr, lay_fr, lay_sh, lay_loc, envOf, slotsOf, valN, ghOf, endK, resK, exMu, muN, List.cons_append, List.nil_append, List.append_nil, List.length_cons, List.length_nil, Nat.reduceAdd, Nat.reduceSub, List.replicate_succ, List.replicate_zero, List.replicate,
  List.getElem?_cons_zero, List.getElem?_cons_succ, List.getElem?_nil, List.set_cons_zero, List.set_cons_succ,
  add_ii, add_ss, add_ll, sub_ii, mul_ii, fdv_ii, fdvN_ii, mod_ii, modN_ii, pow_ii, lt_ii, le_ii, gt_ii, ge_ii, eq_ii, ne_ii, ix_li, ix_ti, neg_i, abs_i, int_i, int_b, max_ii, min_ii, len_l, len_t, list_l, list_t, rev_l, isi_int, isi_bl, isi_tup, isi_lst, isi_non, isN_i, isN_n, isN_t, isN_l, notN_i, notN_n, notN_t, notN_l, isTy,
  atI0, atI1, atI2, ixN0, ixN1, ixN2, some_inj_ex, isObj, setAt0, setAt1, setAt2, setAt3, restE, keepS, wipeE, ↓reduceIte, if_false, if_true,
  eCall, eCallP, eMake, pm, List.filterMap_cons, List.filterMap_nil, agNil, agRo, agBo, agMu, agTm, callK, boIx, muIx, tms, argsK, upE, reown, hasBo, noTm, flatRo, noLstAll, noLst, noLsts, List.nodup_nil, List.nodup_cons, List.not_mem_nil, not_false_eq_true, Nat.zero_le, Nat.le_refl, Nat.reduceLeDiff, List.mem_cons, or_false, reduceCtorEq,
  gN, gTp, gCn, gNl, iR1, iR2, iLst, iTpl, iEnum, stab,
  true_and, and_true, Bool.true_eq_false, Bool.false_eq_true, false_imp_iff, forall_const, true_imp_iff, and_self, decide_eq_true_eq, decide_eq_false_iff_not, Bool.not_eq_true', Bool.not_eq_false'])
/-! ### maps -/
abbrev encRs (rs : List (Int × Int)) : D := .lst (rs.map encR)
abbrev mapD (rs : List (Int × Int)) : D := .obj 0 [.int rs.length, encRs rs]
/-- the rule p is one for the remainder r -/
def RuleOk (m r : Int) (p : Int × Int) : Prop := 1 ≤ p.1 ∧ Int.gcd p.1 m = 1 ∧ (p.1 * r + p.2) % m = 0
instance (m r : Int) (p : Int × Int) : Decidable (RuleOk m r p) := by unfold RuleOk; exact inferInstance
structure MapOk (rs : List (Int × Int)) : Prop where
  two : 2 ≤ rs.length
  few : rs.length ≤ 100000
  ok : ∀ (i : Nat) (p : Int × Int), rs[i]? = some p → RuleOk rs.length i p
  sz : ∀ p ∈ rs, Bt 1000000 p.1 ∧ Bt 1000000 p.2
def sp_Map_modulus : FSpec := fun args kr _ => ∃ rs, args = [.ro (mapD rs)] ∧ kr (.sh (.int rs.length)) []
def sp_Map_rules : FSpec := fun args kr _ => ∃ rs, args = [.ro (mapD rs)] ∧ kr (.fr (encRs rs)) []
def sp_remainder_of : FSpec := fun args kr _ => ∃ rs p, args = [.ro (mapD rs), .ro (encR p)] ∧ MapOk rs ∧ Good rs.length p ∧ Bt 90000000 p.1 ∧ kr (.sh (.int (remF rs.length p.1 p.2))) []
def sp_Map_init : FSpec := fun args kr _ => ∃ rs, args = [.mu (.obj 0 []), .ro (.int rs.length), .ro (encRs rs)] ∧ MapOk rs ∧ kr (.sh .non) [mapD rs]
theorem line_big {n : Nat} (h : n ≤ 10000000) : n < sizeLine := Nat.lt_of_le_of_lt h (by decide)
end TL

namespace TL
open PySem L2
local macro_rules | `(tactic| walk_at "sx") => `(tactic| simp only [sSeq, sNil, sSet, sFrz, frz_o, frz_sh, frz_s, sIf, sRet, sRetN, sPass, sBrk, sPar, sSub, sApp, sExpr, sAsg, sAug, sFld, sRevI, sPop, eLoc, eC, eUn, eBin, eAnd, eOr, eNot, eIf, eTup, eLst, dNil, dCons, tVal_eq, tstD_bl, tAndW, tOrW, tNotW, eFld_eq, eFldD_o, eProp, eMeth, eMeth0, eSl, pNone, pSome, sl_l,
  out_sh, out_fr, get_loc, get_sh, get_fr, getL_z, getL_o, getL_s, bound_z, bound_o, bound_s, isOwn_o, isOwn_s, pok_loc, pok_sh, pok_fr, stl_loc, stlS_sh, stlS_own, stl_sh, stl_fr, lay_fr, lay_sh, lay_loc, envOf, slotsOf, valN, ghOf, endK, resK, exMu, muN, List.cons_append, List.nil_append, List.append_nil, List.length_cons, List.length_nil, Nat.reduceAdd, Nat.reduceSub, List.replicate_succ, List.replicate_zero, List.replicate,
  List.getElem?_cons_zero, List.getElem?_cons_succ, List.getElem?_nil, List.set_cons_zero, List.set_cons_succ,
  add_ii, add_ss, add_ll, sub_ii, mul_ii, fdv_ii, fdvN_ii, mod_ii, modN_ii, pow_ii, lt_ii, le_ii, gt_ii, ge_ii, eq_ii, ne_ii, ix_li, ix_ti, neg_i, abs_i, int_i, int_b, max_ii, min_ii, len_l, len_t, list_l, list_t, rev_l, isi_int, isi_bl, isi_tup, isi_lst, isi_non, isN_i, isN_n, isN_t, isN_l, notN_i, notN_n, notN_t, notN_l, isTy,
  atI0, atI1, atI2, ixN0, ixN1, ixN2, some_inj_ex, isObj, setAt0, setAt1, setAt2, setAt3, restE, keepS, wipeE, ↓reduceIte, if_false, if_true,
  eCall, eCallP, eMake, pm, List.filterMap_cons, List.filterMap_nil, agNil, agRo, agBo, agMu, agTm, callK, boIx, muIx, tms, argsK, upE, reown, hasBo, noTm, flatRo, noLstAll, noLst, noLsts, List.nodup_nil, List.nodup_cons, List.not_mem_nil, not_false_eq_true, Nat.zero_le, Nat.le_refl, Nat.reduceLeDiff, List.mem_cons, or_false, reduceCtorEq,
  gN, gTp, gCn, gNl, iR1, iR2, iLst, iTpl, iEnum, stab,
  true_and, and_true, Bool.true_eq_false, Bool.false_eq_true, false_imp_iff, forall_const, true_imp_iff, and_self, decide_eq_true_eq, decide_eq_false_iff_not, Bool.not_eq_true', Bool.not_eq_false'])

abbrev src (x y z : Int) : D := .lst [.int x, .int y, .int z]
abbrev encZs (ns : List Int) : D := .lst (ns.map D.int)
def b_law_source : SW := (sSeq (sFrz 2 (sSet 2 (eUn opLen (eLoc 0))))
  (sSeq (sIf (tVal (eBin opLt (eLoc 1) (eUn opLen (eLoc 0)))) (sFrz 2 (sSet 2 (eBin opIx (eLoc 0) (eLoc 1)))) sNil)
  (sRet (eLst (dCons (eBin opMax2 (eC (.int 0)) (eBin opSub (eLoc 2) (eBin opPow (eC (.int 10)) (eC (.int 18))))) (dCons (eBin opAdd (eBin opMod (eUn opInt (eBin opAdd (eBin opMul (eC (.int 2)) (eUn opAbs (eLoc 2))) (eUn opInt (eBin opLt (eLoc 2) (eC (.int 0)))))) (eC (.int 999999999999999989))) (eC (.int 1))) (dCons (eC (.int 0)) dNil)))))))

def sp_law_source : FSpec := fun args kr _ => ∃ (ns : List Int) (k : Int), args = [.ro (encZs ns), .ro (.int k)] ∧ 0 ≤ k ∧ (∀ n ∈ ns, Bt 2000000 n) ∧ ns.length ≤ 1000 ∧ ∀ x y, kr (.fr (src x y 0)) []
theorem mulOk_small {a b : Int} (h : a.natAbs < 2 ^ 64) (hb : Bt 90000000 b) : MulOk a b := (show Bt 64 a from log2_lt_of h (by omega)).mulOk hb (by omega)
theorem bt_abs {n : Nat} {x : Int} (h : Bt n x) : Bt n (if x < 0 then -x else x) := by split; exact h.neg; exact h
theorem sat_law_source : Sat 3 sp_law_source b_law_source := by
  rintro args mus kr kx hm ⟨ns, k, rfl, hk0, hns, hl, hk⟩
  obtain rfl := mus0 hm
  unfold b_law_source
  walk_at "sx"
  have cp : CPow 10 18 := by unfold CPow; decide
  simp only [List.length_map]
  refine ⟨fun h => ?_, fun h => ⟨cp, ?_, by omega, hk _ _⟩⟩
  · rw [atI_int hk0 (by simpa using h)]
    simp only [List.getElem_map]
    refine ⟨_, rfl, ?_⟩
    walk_at "sx"
    have hb := hns _ (List.getElem_mem (l := ns) (n := k.toNat) (by omega))
    exact ⟨cp, mulOk_small (by decide) ((bt_abs hb).mono (by omega)), by omega, hk _ _⟩
  · exact mulOk_small (by decide) ((bt_abs (Bt.small (by omega) (by omega))).mono (by omega))
def b_law_take : SW := (sSeq (sIf (tVal (eBin opGt (eBin opIx (eLoc 0) (eC (.int 0))) (eC (.int 1)))) (sSeq (sFrz 2 (sSet 2 (eBin opMod (eUn opInt (eBin opIx (eLoc 0) (eC (.int 0)))) (eLoc 1))))
  (sSeq (sSub 0 (eC (.int 0)) (eBin opFdv (eBin opIx (eLoc 0) (eC (.int 0))) (eLoc 1)))
  (sRet (eLoc 2)))) sNil)
  (sSeq (sSub 0 (eC (.int 2)) (eBin opAdd (eBin opIx (eLoc 0) (eC (.int 2))) (eC (.int 1))))
  (sSeq (sFrz 3 (sSet 3 (eBin opMod (eUn opInt (eBin opAdd (eBin opIx (eLoc 0) (eC (.int 1))) (eBin opMul (eC (.int 7046029254386353131)) (eBin opIx (eLoc 0) (eC (.int 2)))))) (eC (.int 2305843009213693951)))))
  (sSeq (sFrz 3 (sSet 3 (eBin opMod (eUn opInt (eBin opAdd (eBin opAdd (eBin opMul (eLoc 3) (eLoc 3)) (eBin opMul (eC (.int 40503)) (eBin opIx (eLoc 0) (eC (.int 2))))) (eC (.int 7)))) (eC (.int 2305843009213693921)))))
  (sSeq (sFrz 3 (sSet 3 (eBin opMod (eUn opInt (eBin opAdd (eBin opMul (eBin opMul (eLoc 3) (eLoc 3)) (eLoc 3)) (eBin opIx (eLoc 0) (eC (.int 1))))) (eC (.int 2305843009213693951)))))
  (sRet (eBin opMod (eUn opInt (eBin opFdv (eLoc 3) (eC (.int 4099)))) (eLoc 1))))))))

/-- many draws leave the source a source -/
def sp_law_take : FSpec := fun args kr _ => ∃ x y z many N : Int, args = [.mu (src x y z), .ro (.int many)] ∧ 0 < many ∧ Bt 9000 many ∧ 0 ≤ z ∧ z ≤ N ∧ N ≤ 1000000000 ∧ ∀ t x' z', 0 ≤ t → t < many → 0 ≤ z' → z' ≤ N + 1 → kr (.sh (.int t)) [src x' y z']
theorem mul61 {a b : Int} (ha : 0 ≤ a) (ha' : a < 2305843009213693952) (hb : 0 ≤ b) (hb' : b < 2305843009213693952) : MulOk a b := (Bt.of (n := 61) (by omega) (by omega) (by omega)).mulOk (Bt.of (n := 61) (x := b) (by omega) (by omega) (by omega)) (by omega)
theorem sat_law_take : Sat 4 sp_law_take b_law_take := by
  rintro args mus kr kx hm ⟨x, y, z, many, N, rfl, hm0, hmb, hz0, hzN, hN, hk⟩
  obtain ⟨a, rfl⟩ := mus1 hm
  unfold b_law_take
  walk_at "sx"
  refine ⟨fun h => ⟨hm0, ⟨hm0, hmb⟩, hk _ _ _ (Int.emod_nonneg _ (by omega)) (Int.emod_lt_of_pos _ hm0) hz0 (by omega)⟩, fun h => ?_⟩
  have m61 : ∀ v M : Int, 0 < M → M ≤ 2305843009213693951 → 0 ≤ v % M ∧ v % M < 2305843009213693952 := fun v M h1 h2 => ⟨Int.emod_nonneg _ (by omega), by have := Int.emod_lt_of_pos v h1; omega⟩
  have z1 : Bt 40 (z + 1) := Bt.small (by omega) (by omega)
  have big : ∀ {c : Int}, c.natAbs < 2 ^ 64 → MulOk c (z + 1) := fun h => mulOk_small h (z1.mono (by omega))
  refine ⟨big (by decide), by omega, ?_, big (by decide), by omega, ?_, ?_, by omega, ⟨by omega, Bt.of (by omega) (by omega) (by omega)⟩, hm0, hk _ _ _ (Int.emod_nonneg _ (by omega)) (Int.emod_lt_of_pos _ hm0) (by omega) (by omega)⟩
  · have h := m61 (y + 7046029254386353131 * (z + 1)) 2305843009213693951 (by omega) (by omega)
    exact mul61 h.1 h.2 h.1 h.2
  · have h := m61 ((y + 7046029254386353131 * (z + 1)) % 2305843009213693951 * ((y + 7046029254386353131 * (z + 1)) % 2305843009213693951) + 40503 * (z + 1) + 7) 2305843009213693921 (by omega) (by omega)
    exact mul61 h.1 h.2 h.1 h.2
  · have h := m61 ((y + 7046029254386353131 * (z + 1)) % 2305843009213693951 * ((y + 7046029254386353131 * (z + 1)) % 2305843009213693951) + 40503 * (z + 1) + 7) 2305843009213693921 (by omega) (by omega)
    have b := Bt.of (n := 61) (by omega) (by omega : -(2 ^ 61 : Int) < _) (by omega : _ < (2 ^ 61 : Int)) |> fun (z : Bt 61 (((y + 7046029254386353131 * (z + 1)) % 2305843009213693951 * ((y + 7046029254386353131 * (z + 1)) % 2305843009213693951) + 40503 * (z + 1) + 7) % 2305843009213693921)) => z
    exact (b.mul b).mulOk b (by omega)
end TL

namespace TL
open PySem L2
local macro_rules | `(tactic| walk_at "sx") => `(tactic| simp only [sSeq, sNil, sSet, sFrz, frz_o, frz_sh, frz_s, sIf, sRet, sRetN, sPass, sBrk, sPar, sSub, sApp, sExpr, sAsg, sAug, sFld, sRevI, sPop, eLoc, eC, eUn, eBin, eAnd, eOr, eNot, eIf, eTup, eLst, dNil, dCons, tVal_eq, tstD_bl, tAndW, tOrW, tNotW, eFld_eq, eFldD_o, eProp, eMeth, eMeth0, eSl, pNone, pSome, sl_l,
  out_sh, out_fr, get_loc, get_sh, get_fr, getL_z, getL_o, getL_s, bound_z, bound_o, bound_s, isOwn_o, isOwn_s, pok_loc, pok_sh, pok_fr, stl_loc, stlS_sh, stlS_own, stl_sh, stl_fr, lay_fr, lay_sh, lay_loc, envOf, slotsOf, valN, ghOf, endK, resK, exMu, muN, List.cons_append, List.nil_append, List.append_nil, List.length_cons, List.length_nil, Nat.reduceAdd, Nat.reduceSub, List.replicate_succ, List.replicate_zero, List.replicate,
  List.getElem?_cons_zero, List.getElem?_cons_succ, List.getElem?_nil, List.set_cons_zero, List.set_cons_succ,
  add_ii, add_ss, add_ll, sub_ii, mul_ii, fdv_ii, fdvN_ii, mod_ii, modN_ii, pow_ii, lt_ii, le_ii, gt_ii, ge_ii, eq_ii, ne_ii, ix_li, ix_ti, neg_i, abs_i, int_i, int_b, max_ii, min_ii, len_l, len_t, list_l, list_t, rev_l, isi_int, isi_bl, isi_tup, isi_lst, isi_non, isN_i, isN_n, isN_t, isN_l, notN_i, notN_n, notN_t, notN_l, isTy,
  atI0, atI1, atI2, ixN0, ixN1, ixN2, some_inj_ex, isObj, setAt0, setAt1, setAt2, setAt3, restE, keepS, wipeE, ↓reduceIte, if_false, if_true,
  eCall, eCallP, eMake, pm, List.filterMap_cons, List.filterMap_nil, agNil, agRo, agBo, agMu, agTm, callK, boIx, muIx, tms, argsK, upE, reown, hasBo, noTm, flatRo, noLstAll, noLst, noLsts, List.nodup_nil, List.nodup_cons, List.not_mem_nil, not_false_eq_true, Nat.zero_le, Nat.le_refl, Nat.reduceLeDiff, List.mem_cons, or_false, reduceCtorEq,
  gN, gTp, gCn, gNl, iR1, iR2, iLst, iTpl, iEnum, stab,
  true_and, and_true, Bool.true_eq_false, Bool.false_eq_true, false_imp_iff, forall_const, true_imp_iff, and_self, decide_eq_true_eq, decide_eq_false_iff_not, Bool.not_eq_true', Bool.not_eq_false'])

/-! ### numbers without a common divisor, a few steps down or up -/
end TL

namespace TL
open PySem L2
local macro_rules | `(tactic| walk_at "sx") => `(tactic| simp only [sSeq, sNil, sSet, sFrz, frz_o, frz_sh, frz_s, sIf, sRet, sRetN, sPass, sBrk, sPar, sSub, sApp, sExpr, sAsg, sAug, sFld, sRevI, sPop, eLoc, eC, eUn, eBin, eAnd, eOr, eNot, eIf, eTup, eLst, dNil, dCons, tVal_eq, tstD_bl, tAndW, tOrW, tNotW, eFld_eq, eFldD_o, eProp, eMeth, eMeth0, eSl, pNone, pSome, sl_l,
  out_sh, out_fr, get_loc, get_sh, get_fr, getL_z, getL_o, getL_s, bound_z, bound_o, bound_s, isOwn_o, isOwn_s, pok_loc, pok_sh, pok_fr, stl_loc, stlS_sh, stlS_own, stl_sh, stl_fr, lay_fr, lay_sh, lay_loc, envOf, slotsOf, valN, ghOf, endK, resK, exMu, muN, List.cons_append, List.nil_append, List.append_nil, List.length_cons, List.length_nil, Nat.reduceAdd, Nat.reduceSub, List.replicate_succ, List.replicate_zero, List.replicate,
  List.getElem?_cons_zero, List.getElem?_cons_succ, List.getElem?_nil, List.set_cons_zero, List.set_cons_succ,
  add_ii, add_ss, add_ll, sub_ii, mul_ii, fdv_ii, fdvN_ii, mod_ii, modN_ii, pow_ii, lt_ii, le_ii, gt_ii, ge_ii, eq_ii, ne_ii, ix_li, ix_ti, neg_i, abs_i, int_i, int_b, max_ii, min_ii, len_l, len_t, list_l, list_t, rev_l, isi_int, isi_bl, isi_tup, isi_lst, isi_non, isN_i, isN_n, isN_t, isN_l, notN_i, notN_n, notN_t, notN_l, isTy,
  atI0, atI1, atI2, ixN0, ixN1, ixN2, some_inj_ex, isObj, setAt0, setAt1, setAt2, setAt3, restE, keepS, wipeE, ↓reduceIte, if_false, if_true,
  eCall, eCallP, eMake, pm, List.filterMap_cons, List.filterMap_nil, agNil, agRo, agBo, agMu, agTm, callK, boIx, muIx, tms, argsK, upE, reown, hasBo, noTm, flatRo, noLstAll, noLst, noLsts, List.nodup_nil, List.nodup_cons, List.not_mem_nil, not_false_eq_true, Nat.zero_le, Nat.le_refl, Nat.reduceLeDiff, List.mem_cons, or_false, reduceCtorEq,
  gN, gTp, gCn, gNl, iR1, iR2, iLst, iTpl, iEnum, stab,
  true_and, and_true, Bool.true_eq_false, Bool.false_eq_true, false_imp_iff, forall_const, true_imp_iff, and_self, decide_eq_true_eq, decide_eq_false_iff_not, Bool.not_eq_true', Bool.not_eq_false'])

/-- rules drawn for a modulus: each fits its remainder -/
structure RulesOk (base : Nat) (rs : List (Int × Int)) : Prop where
  len : rs.length = base
  ok : ∀ (i : Nat) (p : Int × Int), rs[i]? = some p → RuleOk base i p ∧ p.1 ≤ 1000 ∧ Bt 600 p.2
theorem RulesOk.map {base : Nat} {rs : List (Int × Int)} (h : RulesOk base rs) (h2 : 2 ≤ base) (h6 : base ≤ 100000) : MapOk rs := by
  have hl := h.len
  refine ⟨by omega, by omega, fun i p e => by rw [hl]; exact (h.ok i p e).1, fun p hp => ?_⟩
  obtain ⟨i, hi⟩ := List.getElem?_of_mem hp
  have q := h.ok i p hi
  exact ⟨(Bt.small (by have := q.1.1; omega) (by omega)).mono (by omega), q.2.2.mono (by omega)⟩
def sp_law_rules : FSpec := fun args kr _ => ∃ (x y z far N : Int) (base : Nat), args = [.mu (src x y z), .ro (.int base), .ro (.int far)] ∧ 2 ≤ base ∧ base ≤ 60 ∧ 1 ≤ far ∧ Bt 500 far ∧ 0 ≤ z ∧ z ≤ N ∧ N ≤ 10000000 ∧
  ∀ rs x' z', RulesOk base rs → 0 ≤ z' → z' ≤ N + 200 → kr (.fr (encRs rs)) [src x' y z']
theorem list3 {t a b c : Int} (h0 : 0 ≤ t) (h3 : t < 3) : ∃ l : Int, (l = a ∨ l = b ∨ l = c) ∧ L2.atI [D.int a, D.int b, D.int c] t = some (.int l) := by
  have : t = 0 ∨ t = 1 ∨ t = 2 := by omega
  rcases this with rfl | rfl | rfl
  · exact ⟨a, .inl rfl, rfl⟩
  · exact ⟨b, .inr (.inl rfl), rfl⟩
  · exact ⟨c, .inr (.inr rfl), rfl⟩
end TL

namespace TL
open PySem L2
local macro_rules | `(tactic| walk_at "sx") => `(tactic| simp only [sSeq, sNil, sSet, sFrz, frz_o, frz_sh, frz_s, sIf, sRet, sRetN, sPass, sBrk, sPar, sSub, sApp, sExpr, sAsg, sAug, sFld, sRevI, sPop, eLoc, eC, eUn, eBin, eAnd, eOr, eNot, eIf, eTup, eLst, dNil, dCons, tVal_eq, tstD_bl, tAndW, tOrW, tNotW, eFld_eq, eFldD_o, eProp, eMeth, eMeth0, eSl, pNone, pSome, sl_l,
  out_sh, out_fr, get_loc, get_sh, get_fr, getL_z, getL_o, getL_s, bound_z, bound_o, bound_s, isOwn_o, isOwn_s, pok_loc, pok_sh, pok_fr, stl_loc, stlS_sh, stlS_own, stl_sh, stl_fr, lay_fr, lay_sh, lay_loc, envOf, slotsOf, valN, ghOf, endK, resK, exMu, muN, List.cons_append, List.nil_append, List.append_nil, List.length_cons, List.length_nil, Nat.reduceAdd, Nat.reduceSub, List.replicate_succ, List.replicate_zero, List.replicate,
  List.getElem?_cons_zero, List.getElem?_cons_succ, List.getElem?_nil, List.set_cons_zero, List.set_cons_succ,
  add_ii, add_ss, add_ll, sub_ii, mul_ii, fdv_ii, fdvN_ii, mod_ii, modN_ii, pow_ii, lt_ii, le_ii, gt_ii, ge_ii, eq_ii, ne_ii, ix_li, ix_ti, neg_i, abs_i, int_i, int_b, max_ii, min_ii, len_l, len_t, list_l, list_t, rev_l, isi_int, isi_bl, isi_tup, isi_lst, isi_non, isN_i, isN_n, isN_t, isN_l, notN_i, notN_n, notN_t, notN_l, isTy,
  atI0, atI1, atI2, ixN0, ixN1, ixN2, some_inj_ex, isObj, setAt0, setAt1, setAt2, setAt3, restE, keepS, wipeE, ↓reduceIte, if_false, if_true,
  eCall, eCallP, eMake, pm, List.filterMap_cons, List.filterMap_nil, agNil, agRo, agBo, agMu, agTm, callK, boIx, muIx, tms, argsK, upE, reown, hasBo, noTm, flatRo, noLstAll, noLst, noLsts, List.nodup_nil, List.nodup_cons, List.not_mem_nil, not_false_eq_true, Nat.zero_le, Nat.le_refl, Nat.reduceLeDiff, List.mem_cons, or_false, reduceCtorEq,
  gN, gTp, gCn, gNl, iR1, iR2, iLst, iTpl, iEnum, stab,
  true_and, and_true, Bool.true_eq_false, Bool.false_eq_true, false_imp_iff, forall_const, true_imp_iff, and_self, decide_eq_true_eq, decide_eq_false_iff_not, Bool.not_eq_true', Bool.not_eq_false'])
def b_law_is_integer : SW := (sRet (eAnd (eUn (opIsI .int) (eLoc 0)) (eNot (eUn (opIsI .bool) (eLoc 0)))))

def sp_law_good : FSpec := fun args kr _ => ∃ (x y z N : Int) (base : Nat), args = [.mu (src x y z), .ro (.int base)] ∧ 2 ≤ base ∧ base ≤ 60 ∧ 0 ≤ z ∧ z ≤ N ∧ N ≤ 10000000 ∧
  ∀ p x' z', Good base p → Bt 300 p.1 → Bt 300 p.2 → 0 ≤ z' → z' ≤ N + 20 → kr (.sh (encR p)) [src x' y z']
theorem gcd_div {a b : Int} (hb : 1 ≤ b) : 1 ≤ b / (Int.gcd a b : Int) ∧ Int.gcd (a / (Int.gcd a b : Int)) (b / (Int.gcd a b : Int)) = 1 := by
  have hg : 0 < Int.gcd a b := Int.gcd_pos_of_ne_zero_right _ (by omega)
  obtain ⟨c, hc⟩ := Int.gcd_dvd_right a b
  refine ⟨?_, Int.gcd_ediv_gcd_ediv_gcd hg⟩
  have e : b / (Int.gcd a b : Int) = c := Int.ediv_eq_of_eq_mul_right (by omega) hc
  rw [e]
  rcases Int.lt_or_le c 1 with h | h
  · have : (Int.gcd a b : Int) * c ≤ (Int.gcd a b : Int) * 0 := Int.mul_le_mul_of_nonneg_left (by omega) (by omega)
    omega
  · exact h
theorem gcd_of_dvd {a b m : Int} (h : a ∣ b) (hg : Int.gcd b m = 1) : Int.gcd a m = 1 := by
  have : Int.gcd a m ∣ Int.gcd b m := Int.gcd_dvd_gcd_of_dvd_left _ h
  rw [hg] at this
  exact Nat.dvd_one.mp this
def sp_law_is_integer : FSpec := fun args kr _ => ∃ n : Int, args = [.ro (.int n)] ∧ kr (.sh (.bl true)) []
theorem sat_law_is_integer : Sat 1 sp_law_is_integer b_law_is_integer := by
  rintro args mus kr kx hm ⟨n, rfl, hk⟩
  obtain rfl := mus0 hm
  unfold b_law_is_integer
  walk_at "sx"
  exact hk
end TL

namespace TL
open PySem L2
local macro_rules | `(tactic| walk_at "sx") => `(tactic| simp only [sSeq, sNil, sSet, sFrz, frz_o, frz_sh, frz_s, sIf, sRet, sRetN, sPass, sBrk, sPar, sSub, sApp, sExpr, sAsg, sAug, sFld, sRevI, sPop, eLoc, eC, eUn, eBin, eAnd, eOr, eNot, eIf, eTup, eLst, dNil, dCons, tVal_eq, tstD_bl, tAndW, tOrW, tNotW, eFld_eq, eFldD_o, eProp, eMeth, eMeth0, eSl, pNone, pSome, sl_l,
  out_sh, out_fr, get_loc, get_sh, get_fr, getL_z, getL_o, getL_s, bound_z, bound_o, bound_s, isOwn_o, isOwn_s, pok_loc, pok_sh, pok_fr, stl_loc, stlS_sh, stlS_own, stl_sh, stl_fr, lay_fr, lay_sh, lay_loc, envOf, slotsOf, valN, ghOf, endK, resK, exMu, muN, List.cons_append, List.nil_append, List.append_nil, List.length_cons, List.length_nil, Nat.reduceAdd, Nat.reduceSub, List.replicate_succ, List.replicate_zero, List.replicate,
  List.getElem?_cons_zero, List.getElem?_cons_succ, List.getElem?_nil, List.set_cons_zero, List.set_cons_succ,
  add_ii, add_ss, add_ll, sub_ii, mul_ii, fdv_ii, fdvN_ii, mod_ii, modN_ii, pow_ii, lt_ii, le_ii, gt_ii, ge_ii, eq_ii, ne_ii, ix_li, ix_ti, neg_i, abs_i, int_i, int_b, max_ii, min_ii, len_l, len_t, list_l, list_t, rev_l, isi_int, isi_bl, isi_tup, isi_lst, isi_non, isN_i, isN_n, isN_t, isN_l, notN_i, notN_n, notN_t, notN_l, isTy,
  atI0, atI1, atI2, ixN0, ixN1, ixN2, some_inj_ex, isObj, setAt0, setAt1, setAt2, setAt3, restE, keepS, wipeE, ↓reduceIte, if_false, if_true,
  eCall, eCallP, eMake, pm, List.filterMap_cons, List.filterMap_nil, agNil, agRo, agBo, agMu, agTm, callK, boIx, muIx, tms, argsK, upE, reown, hasBo, noTm, flatRo, noLstAll, noLst, noLsts, List.nodup_nil, List.nodup_cons, List.not_mem_nil, not_false_eq_true, Nat.zero_le, Nat.le_refl, Nat.reduceLeDiff, List.mem_cons, or_false, reduceCtorEq,
  gN, gTp, gCn, gNl, iR1, iR2, iLst, iTpl, iEnum, stab,
  true_and, and_true, Bool.true_eq_false, Bool.false_eq_true, false_imp_iff, forall_const, true_imp_iff, and_self, decide_eq_true_eq, decide_eq_false_iff_not, Bool.not_eq_true', Bool.not_eq_false'])
def b_law : SW := (sSeq (sSet 1 (eCall 2 sp_law_source (agRo (eLoc 0) (agRo (eC (.int 0)) agNil))))
  (sSeq (sFrz 2 (sSet 2 (eBin opAdd (eC (.int 2)) (eCall 2 sp_law_take (agMu 1 (agRo (eBin opIx (eLst (dCons (eC (.int 3)) (dCons (eC (.int 11)) (dCons (eC (.int 59)) dNil)))) (eCall 2 sp_law_take (agMu 1 (agRo (eC (.int 3)) agNil)))) agNil))))))
  (sSeq (sFrz 3 (sSet 3 (eCall 3 sp_law_rules (agMu 1 (agRo (eLoc 2) (agRo (eBin opPow (eC (.int 10)) (eC (.int 27))) agNil))))))
  (sSeq (sFrz 4 (sSet 4 (eMake 0 3 sp_Map_init (agRo (eLoc 2) (agRo (eUn opList (eLoc 3)) agNil)))))
  (sSeq (sSet 5 (eLst dNil))
  (sSeq (sFor (iR2 (dCons (eC (.int 1)) (dCons (eBin opMax2 (eC (.int 2)) (eBin opMin2 (eC (.int 31)) (eUn opLen (eLoc 0)))) dNil))) (gN 6) (sSeq (sFrz 7 (sSet 7 (eCall 2 sp_law_good (agTm (eCall 2 sp_law_source (agRo (eLoc 0) (agRo (eLoc 6) agNil))) (agRo (eLoc 2) agNil)))))
  (sSeq (sFrz 8 (sSet 8 (eCall 2 sp_remainder_of (agRo (eLoc 4) (agRo (eLoc 7) agNil)))))
  (sSeq (sIf (tOrW (tNotW (tVal (eCall 1 sp_law_is_integer (agRo (eLoc 8) agNil)))) (tOrW (tVal (eBin opLt (eLoc 8) (eC (.int 0)))) (tVal (eBin opGe (eLoc 8) (eLoc 2))))) (sRet (eC (.bl false))) sNil)
  (sSeq (sIf (tVal (eBin opNe (eBin opMod (eUn opInt (eBin opSub (eBin opMul (eLoc 8) (eBin opIx (eLoc 7) (eC (.int 1)))) (eBin opIx (eLoc 7) (eC (.int 0))))) (eLoc 2)) (eC (.int 0)))) (sRet (eC (.bl false))) sNil)
  (sApp 5 (eTup (dCons (eLoc 7) (dCons (eLoc 8) dNil)))))))))
  (sSeq (sFor (iLst (eUn opRev (eLoc 5))) (gTp 2 (gCn (gN 7) (gCn (gN 8) gNl))) (sIf (tVal (eBin opNe (eCallP 2 [0, 1] sp_remainder_of (agRo (eLoc 4) (agRo (eLoc 7) agNil))) (eLoc 8))) (sRet (eC (.bl false))) sNil))
  (sRet (eAnd (eBin opEq (eProp 0 sp_Map_modulus (eLoc 4)) (eLoc 2)) (eBin opEq (eProp 0 sp_Map_rules (eLoc 4)) (eLoc 3)))))))))))

theorem bez (a b : Nat) : ∃ u v : Int, u * a + v * b = Nat.gcd a b := by
  induction a, b using Nat.gcd.induction with
  | H0 n => exact ⟨0, 1, by simp⟩
  | H1 m n h ih =>
    obtain ⟨u, v, e⟩ := ih
    refine ⟨v - u * (n / m : Nat), u, ?_⟩
    rw [Nat.gcd_rec m n, ← e]
    have : ((n % m : Nat) : Int) = n - m * (n / m : Nat) := by
      have := Nat.mod_add_div n m
      omega
    rw [this]
    grind
theorem inv_ex {n m : Int} (hm : 0 < m) (hg : Int.gcd n m = 1) : ∃ u, m ∣ u * n - 1 := by
  obtain ⟨u, v, e⟩ := bez n.natAbs m.natAbs
  have h : Nat.gcd n.natAbs m.natAbs = 1 := hg
  rw [h] at e
  have em : (m.natAbs : Int) = m := by omega
  rw [em] at e
  rcases Int.natAbs_eq n with hn | hn
  · exact ⟨u, -v, by rw [hn]; grind⟩
  · refine ⟨-u, -v, ?_⟩
    have : n = -(n.natAbs : Int) := hn
    rw [this]; grind
theorem remF_spec {m t b : Int} (hm : 0 < m) (hg : Int.gcd b m = 1) : 0 ≤ remF m t b ∧ remF m t b < m ∧ (remF m t b * b - t) % m = 0 := by
  obtain ⟨u, hu⟩ := inv_ex hm hg
  have key : remF m t b = (t * u) % m := by
    refine remF_eq hm hg (Int.emod_nonneg _ (by omega)) (Int.emod_lt_of_pos _ hm) ?_
    apply Int.emod_eq_zero_of_dvd
    have e := Int.emod_add_mul_ediv (t * u) m
    have : (t * u) % m * b - t = t * (u * b - 1) - m * (t * u / m * b) := by
      have : (t * u) % m = t * u - m * (t * u / m) := by omega
      rw [this]; grind
    rw [this]
    exact Int.dvd_sub (Int.dvd_mul_of_dvd_right hu) (Int.dvd_mul_right _ _)
  refine ⟨by rw [key]; exact Int.emod_nonneg _ (by omega), by rw [key]; exact Int.emod_lt_of_pos _ hm, ?_⟩
  rw [key]
  apply Int.emod_eq_zero_of_dvd
  have e := Int.emod_add_mul_ediv (t * u) m
  have : (t * u) % m * b - t = t * (u * b - 1) - m * (t * u / m * b) := by
    have : (t * u) % m = t * u - m * (t * u / m) := by omega
    rw [this]; grind
  rw [this]
  exact Int.dvd_sub (Int.dvd_mul_of_dvd_right hu) (Int.dvd_mul_right _ _)

theorem eqDs_map {α : Type} [DecidableEq α] {f : α → D} (hf : ∀ a b, eqD (f a) (f b) = decide (a = b)) : ∀ xs ys : List α, eqDs (xs.map f) (ys.map f) = decide (xs = ys)
  | [], [] => rfl
  | [], y :: ys => rfl
  | x :: xs, [] => rfl
  | x :: xs, y :: ys => by
    have h1 := hf x y
    have h2 := eqDs_map hf xs ys
    have : eqDs ((x :: xs).map f) ((y :: ys).map f) = (eqD (f x) (f y) && eqDs (xs.map f) (ys.map f)) := rfl
    rw [this, h1, h2]
    simp
theorem okDs_map {α : Type} {n : Nat} {f : α → D} (hf : ∀ a, okD n (f a) = true) : ∀ xs : List α, okDs n (xs.map f) = true
  | [] => rfl
  | x :: xs => by
    have h1 := hf x
    have h2 := okDs_map hf xs
    have : okDs n ((x :: xs).map f) = (okD n (f x) && okDs n (xs.map f)) := rfl
    rw [this, h1, h2]; rfl
theorem eqD_encR (p q : Int × Int) : eqD (encR p) (encR q) = decide (p = q) := by
  have : eqD (encR p) (encR q) = (eqD (.int p.1) (.int q.1) && (eqD (.int p.2) (.int q.2) && true)) := rfl
  rw [this, eqD_int, eqD_int]
  rcases p with ⟨a, b⟩; rcases q with ⟨c, d⟩
  simp
theorem eqD_encRs (p q : List (Int × Int)) : eqD (encRs p) (encRs q) = decide (p = q) := eqDs_map eqD_encR p q
theorem okD_encR {n : Nat} (p : Int × Int) : okD (n + 1) (encR p) = true := rfl
theorem okD_encRs {n : Nat} (p : List (Int × Int)) : okD (n + 2) (encRs p) = true := okDs_map okD_encR p
theorem eq_rr {p q : List (Int × Int)} {k} : opEq (encRs p) (encRs q) k = k (.sh (.bl (decide (p = q)))) := by unfold opEq; rw [eqD_encRs, okD_encRs, okD_encRs]; exact propext ⟨fun h => h.2, fun h => ⟨⟨rfl, rfl⟩, h⟩⟩
def sp_law : FSpec := fun args kr _ => ∃ ns : List Int, args = [.ro (encZs ns)] ∧ (∀ n ∈ ns, Bt 2000000 n) ∧ ns.length ≤ 1000 ∧ kr (.sh (.bl true)) []
theorem sat_law : Sat 9 sp_law b_law := by
  rintro args mus kr kx hm ⟨ns, rfl, hns, hln, hk⟩
  obtain rfl := mus0 hm
  have cp : CPow 10 27 := by unfold CPow; decide
  have e27 : (10 : Int) ^ (Int.toNat 27) = 1000000000000000000000000000 := by decide
  unfold b_law
  walk_at "sx"
  rw [e27]
  refine ⟨ns, 0, rfl, by omega, hns, hln, fun x y c => ?_⟩
  walk_at "sx"
  refine ⟨x, y, 0, 3, 0, rfl, by omega, by unfold Bt; decide, by omega, by omega, by omega, fun t x z ht0 ht hz0 hzN => ?_⟩
  walk_at "sx"
  obtain ⟨top, htop, en⟩ := list3 (a := 3) (b := 11) (c := 59) ht0 ht
  rw [en]
  refine ⟨_, rfl, ?_⟩
  have ht : 3 ≤ top ∧ top ≤ 59 := by omega
  refine ⟨x, y, z, top, 1, rfl, by omega, (Bt.small (by omega) (by omega)).mono (by omega), hz0, by omega, by omega, fun t x z ht0 ht hz0 hzN => ?_⟩
  walk_at "sx"
  obtain ⟨base, hbase⟩ := Int.eq_ofNat_of_zero_le (show 0 ≤ 2 + t by omega)
  rw [hbase]
  refine ⟨cp, x, y, z, 1000000000000000000000000000, 2, base, rfl, by omega, by omega, by omega, (Bt.of (n := 100) (by omega) (by omega) (by omega)).mono (by omega), hz0, by omega, by omega, fun rs x z hrs hz0 hzN c2 => ?_⟩
  walk_at "sx"
  have hmap := hrs.map (by omega) (by omega)
  have hlen := hrs.len
  refine ⟨rs, by rw [hlen], hmap, fun c5 => ?_⟩
  unfold sFor
  walk_at "sx"
  simp only [List.length_map]
  refine ⟨by split <;> split <;> omega, fun i ρ => ∃ (as : List (Int × Int)) (e6 e7 e8 : Sl), ρ = [.sh (encZs ns), .own false c (src x y z), .sh (.int base), .sh (encRs rs), .sh (mapD rs), .own false c5 (.lst (as.map fun p => .tup [encR p, .int (remF base p.1 p.2)])), e6, e7, e8] ∧
    as.length = i ∧ ∀ p ∈ as, Good base p ∧ Bt 300 p.1, ⟨[], _, _, _, rfl, rfl, by simp⟩, fun _ _ _ _ => trivial, ?_, ?_⟩
  · rintro i d ρ hi hd ⟨as, e6, e7, e8, rfl, hal, has⟩
    have hi : i < 31 := by revert hi; split <;> split <;> omega
    subst hd
    walk_at "sx"
    refine ⟨ns, 1 + i, rfl, by omega, hns, hln, fun x' y' c6 => ?_⟩
    walk_at "sx"
    refine ⟨x', y', 0, 0, base, rfl, by omega, by omega, by omega, by omega, by omega, fun p x2 z2 hg hbt hbt2 _ _ => ?_⟩
    walk_at "sx"
    refine ⟨rs, p, rfl, hmap, by rw [hlen]; exact hg, hbt.mono (by omega), ?_⟩
    rw [hlen]
    walk_at "sx"
    refine ⟨_, rfl, ?_⟩
    walk_at "sx"
    obtain ⟨r0, r1, r2⟩ := remF_spec (t := p.1) (by omega) hg.2.2
    refine ⟨fun h => by omega, fun h => ⟨fun h => by omega, fun h => ?_⟩⟩
    have br : Bt 100 (remF base p.1 p.2) := (Bt.small (by omega) (by omega)).mono (by omega)
    refine ⟨br.mulOk hbt2 (by omega), by omega, fun h => absurd r2 h, fun _ => ⟨⟨_, _, _, rfl⟩, line_big (by simp; omega), as ++ [p], .sh (.int (1 + i)), .sh (encR p), .sh (.int (remF base p.1 p.2)), by simp, by simp; omega, ?_⟩⟩
    intro q hq
    rcases List.mem_append.mp hq with h | h
    · exact has q h
    · rw [List.mem_singleton.mp h]; exact ⟨hg, hbt⟩
  · rintro ρ ⟨as, e6, e7, e8, rfl, hal, has⟩
    walk_at "sx"
    refine ⟨fun i ρ => ∃ (e6 e7 e8 : Sl), ρ = [.sh (encZs ns), .own false c (src x y z), .sh (.int base), .sh (encRs rs), .sh (mapD rs), .own false c5 (.lst (as.map fun p => .tup [encR p, .int (remF base p.1 p.2)])), e6, e7, e8], ⟨_, _, _, rfl⟩, fun _ _ _ _ => trivial, ?_, ?_⟩
    · rintro i d ρ hi hd ⟨e6, e7, e8, rfl⟩
      rw [← List.map_reverse, List.getElem?_map] at hd
      cases hp : as.reverse[i]? with
      | none => rw [hp] at hd; cases hd
      | some p =>
        rw [hp] at hd
        cases hd
        have hpp := has p (List.mem_reverse.mp (List.mem_of_getElem? hp))
        walk_at "sx"
        refine ⟨rs, p, rfl, hmap, by rw [hlen]; exact hpp.1, hpp.2.mono (by omega), ?_⟩
        rw [hlen]
        walk_at "sx"
        simp
    · rintro ρ ⟨e6, e7, e8, rfl⟩
      walk_at "sx"
      refine ⟨rs, rfl, ?_⟩
      walk_at "sx"
      rw [hlen]
      simp only [decide_true, Bool.true_eq_false, forall_const, false_imp_iff, and_true]
      refine ⟨⟨rs, rfl, ?_⟩, fun h => absurd trivial h⟩
      walk_at "sx"
      rw [eq_rr, decide_eq_true rfl]
      walk_at "sx"
      exact hk
end TL

namespace TL
open PySem L2
local macro_rules | `(tactic| walk_at "sx") => `(tactic| simp only [sSeq, sNil, sSet, sFrz, frz_o, frz_sh, frz_s, sIf, sRet, sRetN, sPass, sBrk, sPar, sSub, sApp, sExpr, sAsg, sAug, sFld, sRevI, sPop, eLoc, eC, eUn, eBin, eAnd, eOr, eNot, eIf, eTup, eLst, dNil, dCons, tVal_eq, tstD_bl, tAndW, tOrW, tNotW, eFld_eq, eFldD_o, eProp, eMeth, eMeth0, eSl, pNone, pSome, sl_l,
  out_sh, out_fr, get_loc, get_sh, get_fr, getL_z, getL_o, getL_s, bound_z, bound_o, bound_s, isOwn_o, isOwn_s, pok_loc, pok_sh, pok_fr, stl_loc, stlS_sh, stlS_own, stl_sh, stl_fr, lay_fr, lay_sh, lay_loc, envOf, slotsOf, valN, ghOf, endK, resK, exMu, muN, List.cons_append, List.nil_append, List.append_nil, List.length_cons, List.length_nil, Nat.reduceAdd, Nat.reduceSub, List.replicate_succ, List.replicate_zero, List.replicate,
  List.getElem?_cons_zero, List.getElem?_cons_succ, List.getElem?_nil, List.set_cons_zero, List.set_cons_succ,
  add_ii, add_ss, add_ll, sub_ii, mul_ii, fdv_ii, fdvN_ii, mod_ii, modN_ii, pow_ii, lt_ii, le_ii, gt_ii, ge_ii, eq_ii, ne_ii, ix_li, ix_ti, neg_i, abs_i, int_i, int_b, max_ii, min_ii, len_l, len_t, list_l, list_t, rev_l, isi_int, isi_bl, isi_tup, isi_lst, isi_non, isN_i, isN_n, isN_t, isN_l, notN_i, notN_n, notN_t, notN_l, isTy,
  atI0, atI1, atI2, ixN0, ixN1, ixN2, some_inj_ex, isObj, setAt0, setAt1, setAt2, setAt3, restE, keepS, wipeE, ↓reduceIte, if_false, if_true,
  eCall, eCallP, eMake, pm, List.filterMap_cons, List.filterMap_nil, agNil, agRo, agBo, agMu, agTm, callK, boIx, muIx, tms, argsK, upE, reown, hasBo, noTm, flatRo, noLstAll, noLst, noLsts, List.nodup_nil, List.nodup_cons, List.not_mem_nil, not_false_eq_true, Nat.zero_le, Nat.le_refl, Nat.reduceLeDiff, List.mem_cons, or_false, reduceCtorEq,
  gN, gTp, gCn, gNl, iR1, iR2, iLst, iTpl, iEnum, stab,
  true_and, and_true, Bool.true_eq_false, Bool.false_eq_true, false_imp_iff, forall_const, true_imp_iff, and_self, decide_eq_true_eq, decide_eq_false_iff_not, Bool.not_eq_true', Bool.not_eq_false'])
def stepF (rs : List (Int × Int)) (p : Int × Int) : Int × Int :=
  ((((rs.getD (remF rs.length p.1 p.2).toNat (1, 0)).1 * p.1 + (rs.getD (remF rs.length p.1 p.2).toNat (1, 0)).2 * p.2) / rs.length) / (Int.gcd (((rs.getD (remF rs.length p.1 p.2).toNat (1, 0)).1 * p.1 + (rs.getD (remF rs.length p.1 p.2).toNat (1, 0)).2 * p.2) / rs.length) p.2 : Int),
   p.2 / (Int.gcd (((rs.getD (remF rs.length p.1 p.2).toNat (1, 0)).1 * p.1 + (rs.getD (remF rs.length p.1 p.2).toNat (1, 0)).2 * p.2) / rs.length) p.2 : Int))
def walkF (rs : List (Int × Int)) : Nat → Int × Int → Int × Int
  | 0, p => p
  | n + 1, p => stepF rs (walkF rs n p)
theorem walkF_add (rs : List (Int × Int)) (m : Nat) (p : Int × Int) : ∀ n, walkF rs n (walkF rs m p) = walkF rs (m + n) p
  | 0 => rfl
  | n + 1 => by
    show stepF rs (walkF rs n (walkF rs m p)) = stepF rs (walkF rs (m + n) p)
    rw [walkF_add rs m p n]
theorem stepF_good {rs : List (Int × Int)} {p : Int × Int} {m : Int} (h : Good m p) : Good m (stepF rs p) := by
  obtain ⟨h1, h2, h3⟩ := h
  have g := gcd_div (a := ((rs.getD (remF rs.length p.1 p.2).toNat (1, 0)).1 * p.1 + (rs.getD (remF rs.length p.1 p.2).toNat (1, 0)).2 * p.2) / rs.length) h1
  exact ⟨g.1, g.2, gcd_of_dvd (Int.ediv_dvd_of_dvd (Int.gcd_dvd_right _ _)) h3⟩
theorem walkF_good {rs : List (Int × Int)} {p : Int × Int} {m : Int} (h : Good m p) : ∀ n, Good m (walkF rs n p)
  | 0 => h
  | n + 1 => stepF_good (walkF_good h n)
theorem DivOk.gcd {t b : Int} (h1 : 1 ≤ b) (h : Bt 8000 b) : DivOk (Int.gcd t b : Int) := by
  have gp : 0 < Int.gcd t b := Int.gcd_pos_of_ne_zero_right _ (by omega)
  have gl : (Int.gcd t b : Int) ≤ b := Int.le_of_dvd (by omega) (Int.gcd_dvd_right _ _)
  exact DivOk.of (by omega) (h.le (by omega)) (by omega)
/- lowest: 0:top 1:bottom 2:common -/
theorem mem_getD {α : Type} {rs : List α} {i : Int} {x : α} (h0 : 0 ≤ i) (h1 : i < rs.length) : rs.getD i.toNat x ∈ rs := by
  rw [List.getD_eq_getElem?_getD, List.getElem?_eq_getElem (by omega)]
  exact List.getElem_mem _
theorem MapOk.pos {rs : List (Int × Int)} (h : MapOk rs) : 0 < (rs.length : Int) := by have := h.two; omega
/- stepped: 0:modulus 1:rules 2:number 3:top 4:bottom 5:a 6:b -/
def sp_check_number : FSpec := fun args kr _ => ∃ a b : Int, args = [.ro (.int a), .ro (.int b)] ∧ b ≤ a ∧ kr (.sh .non) []
/- check_number: 0:number 1:least -/
def b_check_number : SW := (sIf (tVal (eBin opLt (eLoc 0) (eLoc 1))) sNever sNil)
theorem sat_check_number : Sat 2 sp_check_number b_check_number := by
  rintro args mus kr kx hm ⟨a, b, rfl, h, hk⟩
  obtain rfl := mus0 hm
  unfold b_check_number
  walk_at "sx"
  exact ⟨fun z => absurd z (by omega), fun _ => hk⟩
abbrev trk (rs : List (Int × Int)) (p : Int × Int) (n : Nat) : List (Int × Int) := (List.range n).map fun i => walkF rs i p
/- walk: 0:rule_map 1:number 2:steps 3:modulus 4:rules 5:found 6:turn -/
/- after: 0:rule_map 1:number 2:steps -/
/-! ### the law's own steps -/
/- _law_step: 0:base 1:rules 2:value 3:top 4:bottom 5:spot 6:remainder 7:a 8:b 9:common -/
/- _law_walked: 0:base 1:rules 2:value 3:count 4:places 5:path 6:turn 7:spot -/
/- _law_is_pair: 0:value -/
theorem get_map {α β : Type} {f : α → β} {rs : List α} {i : Nat} {d : β} (h : (rs.map f)[i]? = some d) : ∃ p, rs[i]? = some p ∧ d = f p := by
  rw [List.getElem?_map] at h
  cases hp : rs[i]? with
  | none => rw [hp] at h; cases h
  | some p => rw [hp] at h; cases h; exact ⟨p, rfl, rfl⟩
theorem all_true {n : Nat} : (List.replicate n true).all id = true := by induction n <;> simp_all
/- _law_are_pairs: 0:value 1:many 2:entry -/
end TL

namespace TL
open PySem L2
local macro_rules | `(tactic| walk_at "sx") => `(tactic| simp only [sSeq, sNil, sSet, sFrz, frz_o, frz_sh, frz_s, sIf, sRet, sRetN, sPass, sBrk, sPar, sSub, sApp, sExpr, sAsg, sAug, sFld, sRevI, sPop, eLoc, eC, eUn, eBin, eAnd, eOr, eNot, eIf, eTup, eLst, dNil, dCons, tVal_eq, tstD_bl, tAndW, tOrW, tNotW, eFld_eq, eFldD_o, eProp, eMeth, eMeth0, eSl, pNone, pSome, sl_l,
  out_sh, out_fr, get_loc, get_sh, get_fr, getL_z, getL_o, getL_s, bound_z, bound_o, bound_s, isOwn_o, isOwn_s, pok_loc, pok_sh, pok_fr, stl_loc, stlS_sh, stlS_own, stl_sh, stl_fr, lay_fr, lay_sh, lay_loc, envOf, slotsOf, valN, ghOf, endK, resK, exMu, muN, List.cons_append, List.nil_append, List.append_nil, List.length_cons, List.length_nil, Nat.reduceAdd, Nat.reduceSub, List.replicate_succ, List.replicate_zero, List.replicate,
  List.getElem?_cons_zero, List.getElem?_cons_succ, List.getElem?_nil, List.set_cons_zero, List.set_cons_succ,
  add_ii, add_ss, add_ll, sub_ii, mul_ii, fdv_ii, fdvN_ii, mod_ii, modN_ii, pow_ii, lt_ii, le_ii, gt_ii, ge_ii, eq_ii, ne_ii, ix_li, ix_ti, neg_i, abs_i, int_i, int_b, max_ii, min_ii, len_l, len_t, list_l, list_t, rev_l, isi_int, isi_bl, isi_tup, isi_lst, isi_non, isN_i, isN_n, isN_t, isN_l, notN_i, notN_n, notN_t, notN_l, isTy,
  atI0, atI1, atI2, ixN0, ixN1, ixN2, some_inj_ex, isObj, setAt0, setAt1, setAt2, setAt3, restE, keepS, wipeE, ↓reduceIte, if_false, if_true,
  eCall, eCallP, eMake, pm, List.filterMap_cons, List.filterMap_nil, agNil, agRo, agBo, agMu, agTm, callK, boIx, muIx, tms, argsK, upE, reown, hasBo, noTm, flatRo, noLstAll, noLst, noLsts, List.nodup_nil, List.nodup_cons, List.not_mem_nil, not_false_eq_true, Nat.zero_le, Nat.le_refl, Nat.reduceLeDiff, List.mem_cons, or_false, reduceCtorEq,
  gN, gTp, gCn, gNl, iR1, iR2, iLst, iTpl, iEnum, stab,
  true_and, and_true, Bool.true_eq_false, Bool.false_eq_true, false_imp_iff, forall_const, true_imp_iff, and_self, decide_eq_true_eq, decide_eq_false_iff_not, Bool.not_eq_true', Bool.not_eq_false'])
/-! ### sizes along a walk -/
namespace K14
/- _law_right: 0:chart 1:base 2:rules 3:value 4:count 5:found 6:last 7:kept 8:half -/
/- law: 0:script 1:source 2:base 3:rules 4:chart 5:k 6:value 7:count -/
end K14
end TL

namespace TL
open PySem L2
local macro_rules | `(tactic| walk_at "sx") => `(tactic| simp only [sSeq, sNil, sSet, sFrz, frz_o, frz_sh, frz_s, sIf, sRet, sRetN, sPass, sBrk, sPar, sSub, sApp, sExpr, sAsg, sAug, sFld, sRevI, sPop, eLoc, eC, eUn, eBin, eAnd, eOr, eNot, eIf, eTup, eLst, dNil, dCons, tVal_eq, tstD_bl, tAndW, tOrW, tNotW, eFld_eq, eFldD_o, eProp, eMeth, eMeth0, eSl, pNone, pSome, sl_l,
  out_sh, out_fr, get_loc, get_sh, get_fr, getL_z, getL_o, getL_s, bound_z, bound_o, bound_s, isOwn_o, isOwn_s, pok_loc, pok_sh, pok_fr, stl_loc, stlS_sh, stlS_own, stl_sh, stl_fr, lay_fr, lay_sh, lay_loc, envOf, slotsOf, valN, ghOf, endK, resK, exMu, muN, List.cons_append, List.nil_append, List.append_nil, List.length_cons, List.length_nil, Nat.reduceAdd, Nat.reduceSub, List.replicate_succ, List.replicate_zero, List.replicate,
  List.getElem?_cons_zero, List.getElem?_cons_succ, List.getElem?_nil, List.set_cons_zero, List.set_cons_succ,
  add_ii, add_ss, add_ll, sub_ii, mul_ii, fdv_ii, fdvN_ii, mod_ii, modN_ii, pow_ii, lt_ii, le_ii, gt_ii, ge_ii, eq_ii, ne_ii, ix_li, ix_ti, neg_i, abs_i, int_i, int_b, max_ii, min_ii, len_l, len_t, list_l, list_t, rev_l, isi_int, isi_bl, isi_tup, isi_lst, isi_non, isN_i, isN_n, isN_t, isN_l, notN_i, notN_n, notN_t, notN_l, isTy,
  atI0, atI1, atI2, ixN0, ixN1, ixN2, some_inj_ex, isObj, setAt0, setAt1, setAt2, setAt3, restE, keepS, wipeE, ↓reduceIte, if_false, if_true,
  eCall, eCallP, eMake, pm, List.filterMap_cons, List.filterMap_nil, agNil, agRo, agBo, agMu, agTm, callK, boIx, muIx, tms, argsK, upE, reown, hasBo, noTm, flatRo, noLstAll, noLst, noLsts, List.nodup_nil, List.nodup_cons, List.not_mem_nil, not_false_eq_true, Nat.zero_le, Nat.le_refl, Nat.reduceLeDiff, List.mem_cons, or_false, reduceCtorEq,
  gN, gTp, gCn, gNl, iR1, iR2, iLst, iTpl, iEnum, stab,
  true_and, and_true, Bool.true_eq_false, Bool.false_eq_true, false_imp_iff, forall_const, true_imp_iff, and_self, decide_eq_true_eq, decide_eq_false_iff_not, Bool.not_eq_true', Bool.not_eq_false'])
/-! ### lists of numbers, slices -/
theorem eqD_encZs (p q : List Int) : eqD (encZs p) (encZs q) = decide (p = q) := eqDs_map (fun _ _ => eqD_int) p q
theorem okD_encZs {n : Nat} (p : List Int) : okD (n + 1) (encZs p) = true := okDs_map (fun _ => okD_int) p
theorem cutL_take {α : Type} {xs : List α} {n : Nat} (h : n ≤ xs.length) : cutL xs none (some (n : Int)) = xs.take n := by
  unfold cutL
  rw [HT.sIx_none, HT.sIx_nat, Nat.min_eq_left h]
  rfl
theorem cutL_drop {α : Type} {xs : List α} {n : Nat} (h : n ≤ xs.length) : cutL xs (some (n : Int)) none = xs.drop n := by
  unfold cutL
  rw [HT.sIx_none, HT.sIx_nat, Nat.min_eq_left h]
  exact List.take_of_length_le (by simp)
def wordF (rs : List (Int × Int)) (p : Int × Int) (n : Nat) : List Int := (List.range n).map fun i => remF rs.length (walkF rs i p).1 (walkF rs i p).2
theorem wordF_succ (rs : List (Int × Int)) (p : Int × Int) (n : Nat) : wordF rs p (n + 1) = wordF rs p n ++ [remF rs.length (walkF rs n p).1 (walkF rs n p).2] := by
  unfold wordF
  rw [List.range_succ, List.map_append]
  rfl
theorem wordF_len (rs : List (Int × Int)) (p : Int × Int) (n : Nat) : (wordF rs p n).length = n := by unfold wordF; simp
theorem wordF_add (rs : List (Int × Int)) (p : Int × Int) (a : Nat) : ∀ b, wordF rs p (a + b) = wordF rs p a ++ wordF rs (walkF rs a p) b
  | 0 => by simp [wordF]
  | b + 1 => by
    rw [← Nat.add_assoc, wordF_succ, wordF_succ, wordF_add rs p a b, walkF_add, List.append_assoc]
/- word_of: 0:rule_map 1:number 2:steps 3:modulus 4:place -/
def sp_law_is_word : FSpec := fun args kr _ => ∃ (ws : List Int) (m : Int), args = [.ro (encZs ws), .ro (.int m)] ∧ ws.length ≤ 1000000 ∧ kr (.sh (.bl (decide ((ws.length : Int) = m)))) []
/- _law_is_word: 0:value 1:many 2:entry -/
def b_law_is_word : SW := (sRet (eAnd (eUn (opIsI .list) (eLoc 0)) (eAnd (eBin opEq (eUn opLen (eLoc 0)) (eLoc 1)) (eUn opAll (eComp (iLst (eLoc 0)) (gN 2) tYesW (eCall 1 sp_law_is_integer (agRo (eLoc 2) agNil)) [2])))))
theorem sat_law_is_word : Sat 3 sp_law_is_word b_law_is_word := by
  rintro args mus kr kx hm ⟨rs, m, rfl, hl, hk⟩
  obtain rfl := mus0 hm
  unfold b_law_is_word
  walk_at "sx"
  simp only [List.length_map]
  refine ⟨fun h => ?_, fun h => ?_⟩
  · simp only [eComp, iLst, tYesW]
    walk_at "sx"
    refine ⟨fun i acc ρ => acc = (List.replicate i true).map D.bl ∧ ρ = [.sh (encZs rs), .sh (.int m), .no], ⟨rfl, rfl⟩, fun _ _ _ _ _ => trivial, ?_, ?_⟩
    · rintro i d acc ρ hi hd ⟨rfl, rfl⟩
      obtain ⟨p, hp, rfl⟩ := get_map hd
      have hi : i < rs.length := by simpa using hi
      walk_at "sx"
      refine ⟨p, rfl, ?_⟩
      walk_at "sx"
      refine ⟨line_big (by simp; omega), ?_⟩
      rw [← List.replicate_succ, List.replicate_succ', List.map_append]
      rfl
    · rintro acc ρ ⟨rfl, rfl⟩
      walk_at "sx"
      refine ⟨_, rfl, ?_⟩
      rw [all_true]
      walk_at "sx"
      simpa [h] using hk
  · simpa [h] using hk
end TL

namespace TL
open PySem L2
local macro_rules | `(tactic| walk_at "sx") => `(tactic| simp only [sSeq, sNil, sSet, sFrz, frz_o, frz_sh, frz_s, sIf, sRet, sRetN, sPass, sBrk, sPar, sSub, sApp, sExpr, sAsg, sAug, sFld, sRevI, sPop, eLoc, eC, eUn, eBin, eAnd, eOr, eNot, eIf, eTup, eLst, dNil, dCons, tVal_eq, tstD_bl, tAndW, tOrW, tNotW, eFld_eq, eFldD_o, eProp, eMeth, eMeth0, eSl, pNone, pSome, sl_l,
  out_sh, out_fr, get_loc, get_sh, get_fr, getL_z, getL_o, getL_s, bound_z, bound_o, bound_s, isOwn_o, isOwn_s, pok_loc, pok_sh, pok_fr, stl_loc, stlS_sh, stlS_own, stl_sh, stl_fr, lay_fr, lay_sh, lay_loc, envOf, slotsOf, valN, ghOf, endK, resK, exMu, muN, List.cons_append, List.nil_append, List.append_nil, List.length_cons, List.length_nil, Nat.reduceAdd, Nat.reduceSub, List.replicate_succ, List.replicate_zero, List.replicate,
  List.getElem?_cons_zero, List.getElem?_cons_succ, List.getElem?_nil, List.set_cons_zero, List.set_cons_succ,
  add_ii, add_ss, add_ll, sub_ii, mul_ii, fdv_ii, fdvN_ii, mod_ii, modN_ii, pow_ii, lt_ii, le_ii, gt_ii, ge_ii, eq_ii, ne_ii, ix_li, ix_ti, neg_i, abs_i, int_i, int_b, max_ii, min_ii, len_l, len_t, list_l, list_t, rev_l, isi_int, isi_bl, isi_tup, isi_lst, isi_non, isN_i, isN_n, isN_t, isN_l, notN_i, notN_n, notN_t, notN_l, isTy,
  atI0, atI1, atI2, ixN0, ixN1, ixN2, some_inj_ex, isObj, setAt0, setAt1, setAt2, setAt3, restE, keepS, wipeE, ↓reduceIte, if_false, if_true,
  eCall, eCallP, eMake, pm, List.filterMap_cons, List.filterMap_nil, agNil, agRo, agBo, agMu, agTm, callK, boIx, muIx, tms, argsK, upE, reown, hasBo, noTm, flatRo, noLstAll, noLst, noLsts, List.nodup_nil, List.nodup_cons, List.not_mem_nil, not_false_eq_true, Nat.zero_le, Nat.le_refl, Nat.reduceLeDiff, List.mem_cons, or_false, reduceCtorEq,
  gN, gTp, gCn, gNl, iR1, iR2, iLst, iTpl, iEnum, stab,
  true_and, and_true, Bool.true_eq_false, Bool.false_eq_true, false_imp_iff, forall_const, true_imp_iff, and_self, decide_eq_true_eq, decide_eq_false_iff_not, Bool.not_eq_true', Bool.not_eq_false'])
theorem snocRec {α : Type} {motive : List α → Prop} (nil : motive []) (append_singleton : ∀ (ws : List α) (e : α), motive ws → motive (ws ++ [e])) (ws : List α) : motive ws := by
  have h : ∀ n (xs : List α), xs.length = n → motive xs := by
    intro n
    induction n with
    | zero => intro xs h; rw [List.length_eq_zero_iff.mp h]; exact nil
    | succ n ih =>
      intro xs h
      have hne : xs ≠ [] := by intro z; subst z; simp at h
      rw [← List.dropLast_concat_getLast hne]
      exact append_singleton _ _ (ih _ (by simp; omega))
  exact h _ ws rfl
/-! ### whole numbers walk -/
def ruleAt (rs : List (Int × Int)) (e : Int) : Int × Int := rs.getD e.toNat (1, 0)
def zStep (rs : List (Int × Int)) (x : Int) : Int := ((ruleAt rs (x % rs.length)).1 * x + (ruleAt rs (x % rs.length)).2) / rs.length
def zWalk (rs : List (Int × Int)) (x : Int) : Nat → Int
  | 0 => x
  | n + 1 => zStep rs (zWalk rs x n)
/-! ### forms -/
abbrev Fm := Int × Int × Int
def joinF (f : Fm) (r : Int × Int) (m : Int) : Fm := (r.1 * f.1, r.1 * f.2.1 + r.2 * f.2.2, m * f.2.2)
def formF (rs : List (Int × Int)) (ws : List Int) : Fm := ws.foldl (fun f e => joinF f (ruleAt rs e) rs.length) (1, 0, 1)
theorem formF_snoc (rs : List (Int × Int)) (ws : List Int) (e : Int) : formF rs (ws ++ [e]) = joinF (formF rs ws) (ruleAt rs e) rs.length := by
  unfold formF
  rw [List.foldl_append]
  rfl
theorem formF_scale (rs : List (Int × Int)) (ws : List Int) : (formF rs ws).2.2 = (rs.length : Int) ^ ws.length := by
  induction ws using snocRec with
  | nil => rfl
  | append_singleton ws e ih =>
    rw [formF_snoc, List.length_append, List.length_singleton, Int.pow_succ, ← ih]
    exact Int.mul_comm _ _
/-- all entries are remainders -/
def Wd (m : Int) (ws : List Int) : Prop := ∀ e ∈ ws, 0 ≤ e ∧ e < m
theorem ruleAt_ok {rs : List (Int × Int)} (h : MapOk rs) {e : Int} (h0 : 0 ≤ e) (h1 : e < rs.length) : RuleOk rs.length e (ruleAt rs e) := by
  unfold ruleAt
  rw [List.getD_eq_getElem?_getD]
  cases hh : rs[e.toNat]? with
  | none => rw [List.getElem?_eq_none_iff] at hh; omega
  | some p =>
    have := h.ok _ _ hh
    rw [Int.toNat_of_nonneg h0] at this
    exact this
theorem gcd_mul {a b m : Int} (h1 : Int.gcd a m = 1) (h2 : Int.gcd b m = 1) : Int.gcd (a * b) m = 1 := by
  have : Nat.Coprime a.natAbs m.natAbs := h1
  have h2 : Nat.Coprime b.natAbs m.natAbs := h2
  have := Nat.Coprime.mul_left this h2
  unfold Int.gcd
  rw [Int.natAbs_mul]
  exact this
theorem gcd_pow {a m : Int} (h : Int.gcd a m = 1) : ∀ n : Nat, Int.gcd a (m ^ n) = 1
  | 0 => by simp
  | n + 1 => by
    rw [Int.pow_succ, Int.gcd_comm]
    exact gcd_mul (by rw [Int.gcd_comm]; exact gcd_pow h n) (by rw [Int.gcd_comm]; exact h)
theorem form_gcd {rs : List (Int × Int)} (h : MapOk rs) {ws : List Int} (hw : Wd rs.length ws) : Int.gcd (formF rs ws).1 rs.length = 1 := by
  induction ws using snocRec with
  | nil => simp [formF]
  | append_singleton ws e ih =>
    rw [formF_snoc]
    have := hw e (by simp)
    exact gcd_mul (ruleAt_ok h this.1 this.2).2.1 (ih fun x hx => hw x (by simp [hx]))
theorem form_gcd_scale {rs : List (Int × Int)} (h : MapOk rs) {ws : List Int} (hw : Wd rs.length ws) : Int.gcd (formF rs ws).1 (formF rs ws).2.2 = 1 := by
  rw [formF_scale]
  exact gcd_pow (form_gcd h hw) _
/-! ### defs -/
/-- sizes of a form, and of all on its way -/
def FmB (n : Nat) (f : Fm) : Prop := Bt n f.1 ∧ Bt n f.2.1 ∧ Bt n f.2.2
def sp_law_power : FSpec := fun args kr _ => ∃ b n : Nat, args = [.ro (.int b), .ro (.int n)] ∧ b ≤ 60 ∧ n ≤ 1000000 ∧ kr (.sh (.int ((b : Int) ^ n))) []
theorem pow_bt {b : Nat} (h : b ≤ 60) : ∀ n : Nat, Bt (1 + 6 * n) ((b : Int) ^ n)
  | 0 => by rw [Int.pow_zero]; unfold Bt; decide
  | n + 1 => by
    rw [Int.pow_succ]
    have := (pow_bt h n).mul (Bt.of (n := 6) (x := b) (by omega) (by omega) (by omega))
    exact this.mono (by omega)
/- _law_power: 0:base 1:count 2:scale 3:turn -/
def b_law_power : SW := (sSeq (sSet 2 (eC (.int 1)))
  (sSeq (sFor (iR1 (dCons (eLoc 1) dNil)) (gN 3) (sFrz 2 (sSet 2 (eBin opMul (eLoc 2) (eLoc 0)))))
  (sRet (eLoc 2))))
theorem sat_law_power : Sat 4 sp_law_power b_law_power := by
  rintro args mus kr kx hm ⟨b, n, rfl, hb, hn, hk⟩
  obtain rfl := mus0 hm
  unfold b_law_power
  unfold sFor
  walk_at "sx"
  refine ⟨by omega, fun i ρ => ∃ e3, ρ = [.sh (.int b), .sh (.int n), .sh (.int ((b : Int) ^ i)), e3], ⟨_, rfl⟩, fun _ _ _ _ => trivial, ?_, ?_⟩
  · rintro i d ρ hi rfl ⟨e3, rfl⟩
    have hi : i < n := by simpa using hi
    walk_at "sx"
    exact ⟨(pow_bt hb i).mulOk (Bt.of (n := 6) (x := b) (by omega) (by omega) (by omega)) (by omega), _, rfl⟩
  · rintro ρ ⟨e3, rfl⟩
    walk_at "sx"
    exact hk
/- check_word: 0:modulus 1:word 2:entry -/
/- joined_form: 0:form 1:rule 2:modulus 3:a 4:b 5:scale -/
/- form_of: 0:rule_map 1:word 2:modulus 3:rules 4:form 5:entry -/
/- class_by: 0:form 1:a 2:b 3:scale -/
/- class_of: 0:rule_map 1:word -/
theorem form_pos {rs : List (Int × Int)} (h : MapOk rs) (ws : List Int) : 0 < (formF rs ws).2.2 := by rw [formF_scale]; exact Int.pow_pos h.pos
end TL

namespace TL
open PySem L2
local macro_rules | `(tactic| walk_at "sx") => `(tactic| simp only [sSeq, sNil, sSet, sFrz, frz_o, frz_sh, frz_s, sIf, sRet, sRetN, sPass, sBrk, sPar, sSub, sApp, sExpr, sAsg, sAug, sFld, sRevI, sPop, eLoc, eC, eUn, eBin, eAnd, eOr, eNot, eIf, eTup, eLst, dNil, dCons, tVal_eq, tstD_bl, tAndW, tOrW, tNotW, eFld_eq, eFldD_o, eProp, eMeth, eMeth0, eSl, pNone, pSome, sl_l,
  out_sh, out_fr, get_loc, get_sh, get_fr, getL_z, getL_o, getL_s, bound_z, bound_o, bound_s, isOwn_o, isOwn_s, pok_loc, pok_sh, pok_fr, stl_loc, stlS_sh, stlS_own, stl_sh, stl_fr, lay_fr, lay_sh, lay_loc, envOf, slotsOf, valN, ghOf, endK, resK, exMu, muN, List.cons_append, List.nil_append, List.append_nil, List.length_cons, List.length_nil, Nat.reduceAdd, Nat.reduceSub, List.replicate_succ, List.replicate_zero, List.replicate,
  List.getElem?_cons_zero, List.getElem?_cons_succ, List.getElem?_nil, List.set_cons_zero, List.set_cons_succ,
  add_ii, add_ss, add_ll, sub_ii, mul_ii, fdv_ii, fdvN_ii, mod_ii, modN_ii, pow_ii, lt_ii, le_ii, gt_ii, ge_ii, eq_ii, ne_ii, ix_li, ix_ti, neg_i, abs_i, int_i, int_b, max_ii, min_ii, len_l, len_t, list_l, list_t, rev_l, isi_int, isi_bl, isi_tup, isi_lst, isi_non, isN_i, isN_n, isN_t, isN_l, notN_i, notN_n, notN_t, notN_l, isTy,
  atI0, atI1, atI2, ixN0, ixN1, ixN2, some_inj_ex, isObj, setAt0, setAt1, setAt2, setAt3, restE, keepS, wipeE, ↓reduceIte, if_false, if_true,
  eCall, eCallP, eMake, pm, List.filterMap_cons, List.filterMap_nil, agNil, agRo, agBo, agMu, agTm, callK, boIx, muIx, tms, argsK, upE, reown, hasBo, noTm, flatRo, noLstAll, noLst, noLsts, List.nodup_nil, List.nodup_cons, List.not_mem_nil, not_false_eq_true, Nat.zero_le, Nat.le_refl, Nat.reduceLeDiff, List.mem_cons, or_false, reduceCtorEq,
  gN, gTp, gCn, gNl, iR1, iR2, iLst, iTpl, iEnum, stab,
  true_and, and_true, Bool.true_eq_false, Bool.false_eq_true, false_imp_iff, forall_const, true_imp_iff, and_self, decide_eq_true_eq, decide_eq_false_iff_not, Bool.not_eq_true', Bool.not_eq_false'])
namespace K19
/- _law_right: 0:chart 1:base 2:rules 3:start 4:count 5:times 6:places 7:path 8:scale 9:farther 10:same 11:passed 12:found 13:entry -/
/- law: 0:script 1:source 2:base 3:rules 4:chart 5:k 6:size 7:start 8:count -/
end K19
end TL

namespace TL
open PySem L2
local macro_rules | `(tactic| walk_at "sx") => `(tactic| simp only [sSeq, sNil, sSet, sFrz, frz_o, frz_sh, frz_s, sIf, sRet, sRetN, sPass, sBrk, sPar, sSub, sApp, sExpr, sAsg, sAug, sFld, sRevI, sPop, eLoc, eC, eUn, eBin, eAnd, eOr, eNot, eIf, eTup, eLst, dNil, dCons, tVal_eq, tstD_bl, tAndW, tOrW, tNotW, eFld_eq, eFldD_o, eProp, eMeth, eMeth0, eSl, pNone, pSome, sl_l,
  out_sh, out_fr, get_loc, get_sh, get_fr, getL_z, getL_o, getL_s, bound_z, bound_o, bound_s, isOwn_o, isOwn_s, pok_loc, pok_sh, pok_fr, stl_loc, stlS_sh, stlS_own, stl_sh, stl_fr, lay_fr, lay_sh, lay_loc, envOf, slotsOf, valN, ghOf, endK, resK, exMu, muN, List.cons_append, List.nil_append, List.append_nil, List.length_cons, List.length_nil, Nat.reduceAdd, Nat.reduceSub, List.replicate_succ, List.replicate_zero, List.replicate,
  List.getElem?_cons_zero, List.getElem?_cons_succ, List.getElem?_nil, List.set_cons_zero, List.set_cons_succ,
  add_ii, add_ss, add_ll, sub_ii, mul_ii, fdv_ii, fdvN_ii, mod_ii, modN_ii, pow_ii, lt_ii, le_ii, gt_ii, ge_ii, eq_ii, ne_ii, ix_li, ix_ti, neg_i, abs_i, int_i, int_b, max_ii, min_ii, len_l, len_t, list_l, list_t, rev_l, isi_int, isi_bl, isi_tup, isi_lst, isi_non, isN_i, isN_n, isN_t, isN_l, notN_i, notN_n, notN_t, notN_l, isTy,
  atI0, atI1, atI2, ixN0, ixN1, ixN2, some_inj_ex, isObj, setAt0, setAt1, setAt2, setAt3, restE, keepS, wipeE, ↓reduceIte, if_false, if_true,
  eCall, eCallP, eMake, pm, List.filterMap_cons, List.filterMap_nil, agNil, agRo, agBo, agMu, agTm, callK, boIx, muIx, tms, argsK, upE, reown, hasBo, noTm, flatRo, noLstAll, noLst, noLsts, List.nodup_nil, List.nodup_cons, List.not_mem_nil, not_false_eq_true, Nat.zero_le, Nat.le_refl, Nat.reduceLeDiff, List.mem_cons, or_false, reduceCtorEq,
  gN, gTp, gCn, gNl, iR1, iR2, iLst, iTpl, iEnum, stab,
  true_and, and_true, Bool.true_eq_false, Bool.false_eq_true, false_imp_iff, forall_const, true_imp_iff, and_self, decide_eq_true_eq, decide_eq_false_iff_not, Bool.not_eq_true', Bool.not_eq_false'])
/-! ### words drawn -/
/- _law_path: 0:source 1:base 2:count 3:turn -/
/-! ### fractions walk: over one bottom -/
def uStep (rs : List (Int × Int)) (q u : Int) : Int := ((ruleAt rs (remF rs.length u q)).1 * u + (ruleAt rs (remF rs.length u q)).2 * q) / rs.length
def uWalk (rs : List (Int × Int)) (q u : Int) : Nat → Int
  | 0 => u
  | n + 1 => uStep rs q (uWalk rs q u n)
def uWord (rs : List (Int × Int)) (q u : Int) (n : Nat) : List Int := (List.range n).map fun i => remF rs.length (uWalk rs q u i) q
theorem uWord_succ (rs : List (Int × Int)) (q u : Int) (n : Nat) : uWord rs q u (n + 1) = uWord rs q u n ++ [remF rs.length (uWalk rs q u n) q] := by
  unfold uWord
  rw [List.range_succ, List.map_append]
  rfl
/-- the fraction u / q in lowest terms -/
def low (u q : Int) : Int × Int := (u / (Int.gcd u q : Int), q / (Int.gcd u q : Int))
theorem low_self {p : Int × Int} (h : Int.gcd p.1 p.2 = 1) : low p.1 p.2 = p := by unfold low; rw [h]; simp
theorem remF_mul {m u q k : Int} (hm : 0 < m) (hg : Int.gcd (q * k) m = 1) : remF m (u * k) (q * k) = remF m u q := by
  have hq : Int.gcd q m = 1 := gcd_of_dvd (Int.dvd_mul_right _ _) hg
  obtain ⟨a, b, c⟩ := remF_spec (t := u) hm hq
  refine remF_eq hm hg a b ?_
  apply Int.emod_eq_zero_of_dvd
  have : remF m u q * (q * k) - u * k = (remF m u q * q - u) * k := by grind
  rw [this]
  exact Int.dvd_mul_of_dvd_left (Int.dvd_of_emod_eq_zero c)
theorem uStep_eq {rs : List (Int × Int)} (h : MapOk rs) {q : Int} (hq : Int.gcd q rs.length = 1) (u : Int) : (rs.length : Int) * uStep rs q u = (ruleAt rs (remF rs.length u q)).1 * u + (ruleAt rs (remF rs.length u q)).2 * q := by
  have hp := h.pos
  obtain ⟨r0, r1, r2⟩ := remF_spec (t := u) hp hq
  have k := ruleAt_ok h r0 r1
  unfold uStep
  apply Int.mul_ediv_cancel'
  have d := Int.dvd_of_emod_eq_zero k.2.2
  have d2 := Int.dvd_of_emod_eq_zero r2
  generalize remF rs.length u q = e at *
  have : (ruleAt rs e).1 * u + (ruleAt rs e).2 * q = ((ruleAt rs e).1 * e + (ruleAt rs e).2) * q - (e * q - u) * (ruleAt rs e).1 := by grind
  rw [this]
  exact Int.dvd_sub (Int.dvd_mul_of_dvd_left d) (Int.dvd_mul_of_dvd_left d2)
theorem low_mul {t b k : Int} (hk : 0 < k) (hb : 1 ≤ b) : low (t * k) (b * k) = low t b := by
  unfold low
  have e : (Int.gcd (t * k) (b * k) : Int) = (Int.gcd t b : Int) * k := by
    rw [Int.gcd_mul_right]
    have : (k.natAbs : Int) = k := by omega
    rw [Int.natCast_mul, this]
  rw [e]
  have g : 0 < Int.gcd t b := Int.gcd_pos_of_ne_zero_right _ (by omega)
  rw [Int.mul_ediv_mul_of_pos_left _ _ hk, Int.mul_ediv_mul_of_pos_left _ _ hk]
theorem low_gcd {u q : Int} (hq : 1 ≤ q) : ∃ k, 0 < k ∧ u = (low u q).1 * k ∧ q = (low u q).2 * k := by
  have g : 0 < Int.gcd u q := Int.gcd_pos_of_ne_zero_right _ (by omega)
  exact ⟨Int.gcd u q, by omega, (Int.ediv_mul_cancel (Int.gcd_dvd_left _ _)).symm, (Int.ediv_mul_cancel (Int.gcd_dvd_right _ _)).symm⟩
theorem stepF_low {rs : List (Int × Int)} (h : MapOk rs) {q u : Int} (h1 : 1 ≤ q) (hq : Int.gcd q rs.length = 1) : stepF rs (low u q) = low (uStep rs q u) q ∧ remF rs.length (low u q).1 (low u q).2 = remF rs.length u q := by
  obtain ⟨k, hk, eu, eq⟩ := low_gcd (u := u) h1
  have g := gcd_div (a := u) h1
  have hb : 1 ≤ (low u q).2 := g.1
  generalize low u q = p at *
  subst eu eq
  have hm := h.pos
  have e := remF_mul (u := p.1) hm hq
  refine ⟨?_, e.symm⟩
  have hq2 : Int.gcd p.2 rs.length = 1 := gcd_of_dvd (Int.dvd_mul_right _ _) hq
  have s1 := uStep_eq h hq (p.1 * k)
  have s2 := uStep_eq h hq2 p.1
  rw [e] at s1
  have : uStep rs (p.2 * k) (p.1 * k) = uStep rs p.2 p.1 * k := by
    have : (rs.length : Int) * uStep rs (p.2 * k) (p.1 * k) = (rs.length : Int) * (uStep rs p.2 p.1 * k) := by
      rw [s1, ← Int.mul_assoc (rs.length : Int) (uStep rs p.2 p.1) k, s2]; grind
    exact Int.eq_of_mul_eq_mul_left (by omega) this
  rw [this, low_mul hk hb]
  rfl
theorem walkF_low {rs : List (Int × Int)} (h : MapOk rs) {q u : Int} (h1 : 1 ≤ q) (hq : Int.gcd q rs.length = 1) : ∀ n, walkF rs n (low u q) = low (uWalk rs q u n) q
  | 0 => rfl
  | n + 1 => by
    show stepF rs (walkF rs n (low u q)) = _
    rw [walkF_low h h1 hq n, (stepF_low h h1 hq).1]
    rfl
theorem wordF_low {rs : List (Int × Int)} (h : MapOk rs) {q u : Int} (h1 : 1 ≤ q) (hq : Int.gcd q rs.length = 1) (n : Nat) : wordF rs (low u q) n = uWord rs q u n := by
  unfold wordF uWord
  apply List.map_congr_left
  intro i _
  rw [walkF_low h h1 hq, (stepF_low h h1 hq).2]
theorem form_walkU {rs : List (Int × Int)} (h : MapOk rs) {q : Int} (hq : Int.gcd q rs.length = 1) (u : Int) : ∀ n, (formF rs (uWord rs q u n)).1 * u + (formF rs (uWord rs q u n)).2.1 * q = (formF rs (uWord rs q u n)).2.2 * uWalk rs q u n
  | 0 => by simp [uWord, formF, uWalk]
  | n + 1 => by
    have ih := form_walkU h hq u n
    have e := uStep_eq h hq (uWalk rs q u n)
    rw [uWord_succ, formF_snoc]
    unfold joinF
    show _ * _ * u + (_ * _ + _ * _) * q = _ * _ * uStep rs q (uWalk rs q u n)
    generalize formF rs (uWord rs q u n) = f at *
    generalize ruleAt rs (remF rs.length (uWalk rs q u n) q) = r at *
    generalize uWalk rs q u n = y at *
    have : (rs.length : Int) * f.2.2 * uStep rs q y = f.2.2 * ((rs.length : Int) * uStep rs q y) := by grind
    rw [this, e]
    have : f.2.1 * q = f.2.2 * y - f.1 * u := by omega
    have e2 : (r.1 * f.2.1 + r.2 * f.2.2) * q = r.1 * (f.2.1 * q) + r.2 * f.2.2 * q := by grind
    rw [e2, this]; grind
theorem form_iffU {rs : List (Int × Int)} (h : MapOk rs) {q : Int} (hq : Int.gcd q rs.length = 1) (u : Int) {ws : List Int} (hw : Wd rs.length ws) : uWord rs q u ws.length = ws ↔ (formF rs ws).2.2 ∣ (formF rs ws).1 * u + (formF rs ws).2.1 * q := by
  constructor
  · intro e
    have := form_walkU h hq u ws.length
    rw [e] at this
    rw [this]
    exact Int.dvd_mul_right _ _
  · induction ws using snocRec with
    | nil => intro _; rfl
    | append_singleton ws e ih =>
      intro hd
      have hw0 : Wd rs.length ws := fun x hx => hw x (by simp [hx])
      have he := hw e (by simp)
      have k := ruleAt_ok h he.1 he.2
      have fw := form_walkU h hq u ws.length
      rw [formF_snoc] at hd
      unfold joinF at hd
      have hsc := formF_scale rs ws
      have hp := h.pos
      have hs : 0 < (formF rs ws).2.2 := by rw [hsc]; exact Int.pow_pos hp
      have gr : Int.gcd (ruleAt rs e).1 (formF rs ws).2.2 = 1 := by rw [hsc]; exact gcd_pow k.2.1 _
      have hd : (rs.length : Int) * (formF rs ws).2.2 ∣ (ruleAt rs e).1 * (formF rs ws).1 * u + ((ruleAt rs e).1 * (formF rs ws).2.1 + (ruleAt rs e).2 * (formF rs ws).2.2) * q := hd
      have d1 : (formF rs ws).2.2 ∣ (formF rs ws).1 * u + (formF rs ws).2.1 * q := by
        have d2 : (formF rs ws).2.2 ∣ (ruleAt rs e).1 * (formF rs ws).1 * u + ((ruleAt rs e).1 * (formF rs ws).2.1 + (ruleAt rs e).2 * (formF rs ws).2.2) * q := Int.dvd_trans (Int.dvd_mul_left _ _) hd
        have d3 : (formF rs ws).2.2 ∣ ((formF rs ws).1 * u + (formF rs ws).2.1 * q) * (ruleAt rs e).1 := by
          have := Int.dvd_sub d2 (Int.dvd_mul_left ((ruleAt rs e).2 * q) (formF rs ws).2.2)
          have e2 : (ruleAt rs e).1 * (formF rs ws).1 * u + ((ruleAt rs e).1 * (formF rs ws).2.1 + (ruleAt rs e).2 * (formF rs ws).2.2) * q - (ruleAt rs e).2 * q * (formF rs ws).2.2 = ((formF rs ws).1 * u + (formF rs ws).2.1 * q) * (ruleAt rs e).1 := by grind
          rw [e2] at this; exact this
        exact dvd_of_gcd gr d3
      have ih := ih hw0 d1
      rw [ih] at fw
      have d4 : (rs.length : Int) ∣ (ruleAt rs e).1 * uWalk rs q u ws.length + (ruleAt rs e).2 * q := by
        have e3 : (ruleAt rs e).1 * (formF rs ws).1 * u + ((ruleAt rs e).1 * (formF rs ws).2.1 + (ruleAt rs e).2 * (formF rs ws).2.2) * q = ((ruleAt rs e).1 * uWalk rs q u ws.length + (ruleAt rs e).2 * q) * (formF rs ws).2.2 := by
          have e4 : (formF rs ws).2.1 * q = (formF rs ws).2.2 * uWalk rs q u ws.length - (formF rs ws).1 * u := by omega
          have e5 : ((ruleAt rs e).1 * (formF rs ws).2.1 + (ruleAt rs e).2 * (formF rs ws).2.2) * q = (ruleAt rs e).1 * ((formF rs ws).2.1 * q) + (ruleAt rs e).2 * (formF rs ws).2.2 * q := by grind
          rw [e5, e4]; grind
        rw [e3] at hd
        exact Int.dvd_of_mul_dvd_mul_right (by omega) hd
      have d5 : (rs.length : Int) ∣ (e * q - uWalk rs q u ws.length) * (ruleAt rs e).1 := by
        have := Int.dvd_sub (Int.dvd_mul_of_dvd_left (c := q) (Int.dvd_of_emod_eq_zero k.2.2)) d4
        have e2 : ((ruleAt rs e).1 * e + (ruleAt rs e).2) * q - ((ruleAt rs e).1 * uWalk rs q u ws.length + (ruleAt rs e).2 * q) = (e * q - uWalk rs q u ws.length) * (ruleAt rs e).1 := by grind
        rw [e2] at this; exact this
      have d6 := dvd_of_gcd k.2.1 d5
      have : remF rs.length (uWalk rs q u ws.length) q = e := remF_eq hp hq he.1 he.2 (Int.emod_eq_zero_of_dvd d6)
      rw [List.length_append, List.length_singleton, uWord_succ, ih, this]
end TL

namespace TL
open PySem L2
local macro_rules | `(tactic| walk_at "sx") => `(tactic| simp only [sSeq, sNil, sSet, sFrz, frz_o, frz_sh, frz_s, sIf, sRet, sRetN, sPass, sBrk, sPar, sSub, sApp, sExpr, sAsg, sAug, sFld, sRevI, sPop, eLoc, eC, eUn, eBin, eAnd, eOr, eNot, eIf, eTup, eLst, dNil, dCons, tVal_eq, tstD_bl, tAndW, tOrW, tNotW, eFld_eq, eFldD_o, eProp, eMeth, eMeth0, eSl, pNone, pSome, sl_l,
  out_sh, out_fr, get_loc, get_sh, get_fr, getL_z, getL_o, getL_s, bound_z, bound_o, bound_s, isOwn_o, isOwn_s, pok_loc, pok_sh, pok_fr, stl_loc, stlS_sh, stlS_own, stl_sh, stl_fr, lay_fr, lay_sh, lay_loc, envOf, slotsOf, valN, ghOf, endK, resK, exMu, muN, List.cons_append, List.nil_append, List.append_nil, List.length_cons, List.length_nil, Nat.reduceAdd, Nat.reduceSub, List.replicate_succ, List.replicate_zero, List.replicate,
  List.getElem?_cons_zero, List.getElem?_cons_succ, List.getElem?_nil, List.set_cons_zero, List.set_cons_succ,
  add_ii, add_ss, add_ll, sub_ii, mul_ii, fdv_ii, fdvN_ii, mod_ii, modN_ii, pow_ii, lt_ii, le_ii, gt_ii, ge_ii, eq_ii, ne_ii, ix_li, ix_ti, neg_i, abs_i, int_i, int_b, max_ii, min_ii, len_l, len_t, list_l, list_t, rev_l, isi_int, isi_bl, isi_tup, isi_lst, isi_non, isN_i, isN_n, isN_t, isN_l, notN_i, notN_n, notN_t, notN_l, isTy,
  atI0, atI1, atI2, ixN0, ixN1, ixN2, some_inj_ex, isObj, setAt0, setAt1, setAt2, setAt3, restE, keepS, wipeE, ↓reduceIte, if_false, if_true,
  eCall, eCallP, eMake, pm, List.filterMap_cons, List.filterMap_nil, agNil, agRo, agBo, agMu, agTm, callK, boIx, muIx, tms, argsK, upE, reown, hasBo, noTm, flatRo, noLstAll, noLst, noLsts, List.nodup_nil, List.nodup_cons, List.not_mem_nil, not_false_eq_true, Nat.zero_le, Nat.le_refl, Nat.reduceLeDiff, List.mem_cons, or_false, reduceCtorEq,
  gN, gTp, gCn, gNl, iR1, iR2, iLst, iTpl, iEnum, stab,
  true_and, and_true, Bool.true_eq_false, Bool.false_eq_true, false_imp_iff, forall_const, true_imp_iff, and_self, decide_eq_true_eq, decide_eq_false_iff_not, Bool.not_eq_true', Bool.not_eq_false'])
/-! ### counts, least numbers -/
def FmOk (f : Fm) : Prop := 0 < f.2.2 ∧ Int.gcd f.1 f.2.2 = 1 ∧ Bt 9000 f.2.2 ∧ Bt 80000000 f.2.1
/- count_in: 0:form 1:low 2:high 3:start 4:scale -/
/-- a word whose form is told without trouble -/
structure WOk (rs : List (Int × Int)) (ws : List Int) : Prop where
  mp : MapOk rs
  wd : Wd rs.length ws
  sz : ∀ i, i ≤ ws.length → FmB 40000000 (formF rs (ws.take i))
  sc : Bt 9000 (formF rs ws).2.2
theorem WOk.ok {rs : List (Int × Int)} {ws : List Int} (h : WOk rs ws) : FmOk (formF rs ws) := by
  have := h.sz ws.length (Nat.le_refl _)
  rw [List.take_length] at this
  exact ⟨form_pos h.mp ws, form_gcd_scale h.mp h.wd, h.sc, this.2.1.mono (by omega)⟩
/- count_with: 0:rule_map 1:word 2:low 3:high -/
/- least_from: 0:start 1:scale 2:low -/
/- nth_with: 0:rule_map 1:word 2:low 3:index 4:form -/
end TL

namespace TL
open PySem L2
local macro_rules | `(tactic| walk_at "sx") => `(tactic| simp only [sSeq, sNil, sSet, sFrz, frz_o, frz_sh, frz_s, sIf, sRet, sRetN, sPass, sBrk, sPar, sSub, sApp, sExpr, sAsg, sAug, sFld, sRevI, sPop, eLoc, eC, eUn, eBin, eAnd, eOr, eNot, eIf, eTup, eLst, dNil, dCons, tVal_eq, tstD_bl, tAndW, tOrW, tNotW, eFld_eq, eFldD_o, eProp, eMeth, eMeth0, eSl, pNone, pSome, sl_l,
  out_sh, out_fr, get_loc, get_sh, get_fr, getL_z, getL_o, getL_s, bound_z, bound_o, bound_s, isOwn_o, isOwn_s, pok_loc, pok_sh, pok_fr, stl_loc, stlS_sh, stlS_own, stl_sh, stl_fr, lay_fr, lay_sh, lay_loc, envOf, slotsOf, valN, ghOf, endK, resK, exMu, muN, List.cons_append, List.nil_append, List.append_nil, List.length_cons, List.length_nil, Nat.reduceAdd, Nat.reduceSub, List.replicate_succ, List.replicate_zero, List.replicate,
  List.getElem?_cons_zero, List.getElem?_cons_succ, List.getElem?_nil, List.set_cons_zero, List.set_cons_succ,
  add_ii, add_ss, add_ll, sub_ii, mul_ii, fdv_ii, fdvN_ii, mod_ii, modN_ii, pow_ii, lt_ii, le_ii, gt_ii, ge_ii, eq_ii, ne_ii, ix_li, ix_ti, neg_i, abs_i, int_i, int_b, max_ii, min_ii, len_l, len_t, list_l, list_t, rev_l, isi_int, isi_bl, isi_tup, isi_lst, isi_non, isN_i, isN_n, isN_t, isN_l, notN_i, notN_n, notN_t, notN_l, isTy,
  atI0, atI1, atI2, ixN0, ixN1, ixN2, some_inj_ex, isObj, setAt0, setAt1, setAt2, setAt3, restE, keepS, wipeE, ↓reduceIte, if_false, if_true,
  eCall, eCallP, eMake, pm, List.filterMap_cons, List.filterMap_nil, agNil, agRo, agBo, agMu, agTm, callK, boIx, muIx, tms, argsK, upE, reown, hasBo, noTm, flatRo, noLstAll, noLst, noLsts, List.nodup_nil, List.nodup_cons, List.not_mem_nil, not_false_eq_true, Nat.zero_le, Nat.le_refl, Nat.reduceLeDiff, List.mem_cons, or_false, reduceCtorEq,
  gN, gTp, gCn, gNl, iR1, iR2, iLst, iTpl, iEnum, stab,
  true_and, and_true, Bool.true_eq_false, Bool.false_eq_true, false_imp_iff, forall_const, true_imp_iff, and_self, decide_eq_true_eq, decide_eq_false_iff_not, Bool.not_eq_true', Bool.not_eq_false'])
namespace CD
/- _law_cards: 0:script 1:k 2:cell 3:digits -/
/- _law_card: 0:cards 1:top 2:found 3:mixed -/
/- _law_gcd: 0:first 1:second -/
/- _law_large: 0:cards 1:places 2:figures 3:k -/
/- _law_integer: 0:cards 1:kind -/
/- _law_modulus: 0:cards -/
end CD
end TL

namespace TL
open PySem L2
local macro_rules | `(tactic| walk_at "sx") => `(tactic| simp only [sSeq, sNil, sSet, sFrz, frz_o, frz_sh, frz_s, sIf, sRet, sRetN, sPass, sBrk, sPar, sSub, sApp, sExpr, sAsg, sAug, sFld, sRevI, sPop, eLoc, eC, eUn, eBin, eAnd, eOr, eNot, eIf, eTup, eLst, dNil, dCons, tVal_eq, tstD_bl, tAndW, tOrW, tNotW, eFld_eq, eFldD_o, eProp, eMeth, eMeth0, eSl, pNone, pSome, sl_l,
  out_sh, out_fr, get_loc, get_sh, get_fr, getL_z, getL_o, getL_s, bound_z, bound_o, bound_s, isOwn_o, isOwn_s, pok_loc, pok_sh, pok_fr, stl_loc, stlS_sh, stlS_own, stl_sh, stl_fr, lay_fr, lay_sh, lay_loc, envOf, slotsOf, valN, ghOf, endK, resK, exMu, muN, List.cons_append, List.nil_append, List.append_nil, List.length_cons, List.length_nil, Nat.reduceAdd, Nat.reduceSub, List.replicate_succ, List.replicate_zero, List.replicate,
  List.getElem?_cons_zero, List.getElem?_cons_succ, List.getElem?_nil, List.set_cons_zero, List.set_cons_succ,
  add_ii, add_ss, add_ll, sub_ii, mul_ii, fdv_ii, fdvN_ii, mod_ii, modN_ii, pow_ii, lt_ii, le_ii, gt_ii, ge_ii, eq_ii, ne_ii, ix_li, ix_ti, neg_i, abs_i, int_i, int_b, max_ii, min_ii, len_l, len_t, list_l, list_t, rev_l, isi_int, isi_bl, isi_tup, isi_lst, isi_non, isN_i, isN_n, isN_t, isN_l, notN_i, notN_n, notN_t, notN_l, isTy,
  atI0, atI1, atI2, ixN0, ixN1, ixN2, some_inj_ex, isObj, setAt0, setAt1, setAt2, setAt3, restE, keepS, wipeE, ↓reduceIte, if_false, if_true,
  eCall, eCallP, eMake, pm, List.filterMap_cons, List.filterMap_nil, agNil, agRo, agBo, agMu, agTm, callK, boIx, muIx, tms, argsK, upE, reown, hasBo, noTm, flatRo, noLstAll, noLst, noLsts, List.nodup_nil, List.nodup_cons, List.not_mem_nil, not_false_eq_true, Nat.zero_le, Nat.le_refl, Nat.reduceLeDiff, List.mem_cons, or_false, reduceCtorEq,
  gN, gTp, gCn, gNl, iR1, iR2, iLst, iTpl, iEnum, stab,
  true_and, and_true, Bool.true_eq_false, Bool.false_eq_true, false_imp_iff, forall_const, true_imp_iff, and_self, decide_eq_true_eq, decide_eq_false_iff_not, Bool.not_eq_true', Bool.not_eq_false'])
namespace CD
/- _law_rules: 0:cards 1:modulus 2:reach 3:far 4:rules 5:k 6:a 7:step 8:b -/
end CD
end TL

namespace TL
open PySem L2
local macro_rules | `(tactic| walk_at "sx") => `(tactic| simp only [sSeq, sNil, sSet, sFrz, frz_o, frz_sh, frz_s, sIf, sRet, sRetN, sPass, sBrk, sPar, sSub, sApp, sExpr, sAsg, sAug, sFld, sRevI, sPop, eLoc, eC, eUn, eBin, eAnd, eOr, eNot, eIf, eTup, eLst, dNil, dCons, tVal_eq, tstD_bl, tAndW, tOrW, tNotW, eFld_eq, eFldD_o, eProp, eMeth, eMeth0, eSl, pNone, pSome, sl_l,
  out_sh, out_fr, get_loc, get_sh, get_fr, getL_z, getL_o, getL_s, bound_z, bound_o, bound_s, isOwn_o, isOwn_s, pok_loc, pok_sh, pok_fr, stl_loc, stlS_sh, stlS_own, stl_sh, stl_fr, lay_fr, lay_sh, lay_loc, envOf, slotsOf, valN, ghOf, endK, resK, exMu, muN, List.cons_append, List.nil_append, List.append_nil, List.length_cons, List.length_nil, Nat.reduceAdd, Nat.reduceSub, List.replicate_succ, List.replicate_zero, List.replicate,
  List.getElem?_cons_zero, List.getElem?_cons_succ, List.getElem?_nil, List.set_cons_zero, List.set_cons_succ,
  add_ii, add_ss, add_ll, sub_ii, mul_ii, fdv_ii, fdvN_ii, mod_ii, modN_ii, pow_ii, lt_ii, le_ii, gt_ii, ge_ii, eq_ii, ne_ii, ix_li, ix_ti, neg_i, abs_i, int_i, int_b, max_ii, min_ii, len_l, len_t, list_l, list_t, rev_l, isi_int, isi_bl, isi_tup, isi_lst, isi_non, isN_i, isN_n, isN_t, isN_l, notN_i, notN_n, notN_t, notN_l, isTy,
  atI0, atI1, atI2, ixN0, ixN1, ixN2, some_inj_ex, isObj, setAt0, setAt1, setAt2, setAt3, restE, keepS, wipeE, ↓reduceIte, if_false, if_true,
  eCall, eCallP, eMake, pm, List.filterMap_cons, List.filterMap_nil, agNil, agRo, agBo, agMu, agTm, callK, boIx, muIx, tms, argsK, upE, reown, hasBo, noTm, flatRo, noLstAll, noLst, noLsts, List.nodup_nil, List.nodup_cons, List.not_mem_nil, not_false_eq_true, Nat.zero_le, Nat.le_refl, Nat.reduceLeDiff, List.mem_cons, or_false, reduceCtorEq,
  gN, gTp, gCn, gNl, iR1, iR2, iLst, iTpl, iEnum, stab,
  true_and, and_true, Bool.true_eq_false, Bool.false_eq_true, false_imp_iff, forall_const, true_imp_iff, and_self, decide_eq_true_eq, decide_eq_false_iff_not, Bool.not_eq_true', Bool.not_eq_false'])
namespace CD
/- _law_lowest: 0:top 1:bottom 2:common -/
theorem low_good {t b m : Int} (h1 : 1 ≤ b) (hg : Int.gcd b m = 1) : Good m (low t b) :=
  ⟨(gcd_div (a := t) h1).1, (gcd_div (a := t) h1).2, gcd_of_dvd (Int.ediv_dvd_of_dvd (Int.gcd_dvd_right _ _)) hg⟩
/- _law_good: 0:cards 1:modulus 2:top 3:bottom 4:k 5:common -/
end CD
end TL

namespace TL
open PySem L2
local macro_rules | `(tactic| walk_at "sx") => `(tactic| simp only [sSeq, sNil, sSet, sFrz, frz_o, frz_sh, frz_s, sIf, sRet, sRetN, sPass, sBrk, sPar, sSub, sApp, sExpr, sAsg, sAug, sFld, sRevI, sPop, eLoc, eC, eUn, eBin, eAnd, eOr, eNot, eIf, eTup, eLst, dNil, dCons, tVal_eq, tstD_bl, tAndW, tOrW, tNotW, eFld_eq, eFldD_o, eProp, eMeth, eMeth0, eSl, pNone, pSome, sl_l,
  out_sh, out_fr, get_loc, get_sh, get_fr, getL_z, getL_o, getL_s, bound_z, bound_o, bound_s, isOwn_o, isOwn_s, pok_loc, pok_sh, pok_fr, stl_loc, stlS_sh, stlS_own, stl_sh, stl_fr, lay_fr, lay_sh, lay_loc, envOf, slotsOf, valN, ghOf, endK, resK, exMu, muN, List.cons_append, List.nil_append, List.append_nil, List.length_cons, List.length_nil, Nat.reduceAdd, Nat.reduceSub, List.replicate_succ, List.replicate_zero, List.replicate,
  List.getElem?_cons_zero, List.getElem?_cons_succ, List.getElem?_nil, List.set_cons_zero, List.set_cons_succ,
  add_ii, add_ss, add_ll, sub_ii, mul_ii, fdv_ii, fdvN_ii, mod_ii, modN_ii, pow_ii, lt_ii, le_ii, gt_ii, ge_ii, eq_ii, ne_ii, ix_li, ix_ti, neg_i, abs_i, int_i, int_b, max_ii, min_ii, len_l, len_t, list_l, list_t, rev_l, isi_int, isi_bl, isi_tup, isi_lst, isi_non, isN_i, isN_n, isN_t, isN_l, notN_i, notN_n, notN_t, notN_l, isTy,
  atI0, atI1, atI2, ixN0, ixN1, ixN2, some_inj_ex, isObj, setAt0, setAt1, setAt2, setAt3, restE, keepS, wipeE, ↓reduceIte, if_false, if_true,
  eCall, eCallP, eMake, pm, List.filterMap_cons, List.filterMap_nil, agNil, agRo, agBo, agMu, agTm, callK, boIx, muIx, tms, argsK, upE, reown, hasBo, noTm, flatRo, noLstAll, noLst, noLsts, List.nodup_nil, List.nodup_cons, List.not_mem_nil, not_false_eq_true, Nat.zero_le, Nat.le_refl, Nat.reduceLeDiff, List.mem_cons, or_false, reduceCtorEq,
  gN, gTp, gCn, gNl, iR1, iR2, iLst, iTpl, iEnum, stab,
  true_and, and_true, Bool.true_eq_false, Bool.false_eq_true, false_imp_iff, forall_const, true_imp_iff, and_self, decide_eq_true_eq, decide_eq_false_iff_not, Bool.not_eq_true', Bool.not_eq_false'])
namespace CD
/- _law_whole: 0:value -/
/- _law_is_fraction: 0:value -/
/- _law_walked: 0:rules 1:top 2:bottom 3:many 4:modulus 5:unit 6:line 7:k 8:entry -/
/- before: 0:rule_map 1:number 2:top 3:bottom 4:modulus 5:a 6:b -/
theorem pos_mul {a b : Int} (h1 : 1 ≤ a) (h2 : 1 ≤ b) : 1 ≤ a * b := by
  have : 1 * 1 ≤ a * b := Int.mul_le_mul h1 h2 (by omega) (by omega)
  omega
/- _law_steps_to: 0:rules 1:found 2:entry 3:number 4:line 5:top -/
end CD
end TL

namespace TL
open PySem L2
local macro_rules | `(tactic| walk_at "sx") => `(tactic| simp only [sSeq, sNil, sSet, sFrz, frz_o, frz_sh, frz_s, sIf, sRet, sRetN, sPass, sBrk, sPar, sSub, sApp, sExpr, sAsg, sAug, sFld, sRevI, sPop, eLoc, eC, eUn, eBin, eAnd, eOr, eNot, eIf, eTup, eLst, dNil, dCons, tVal_eq, tstD_bl, tAndW, tOrW, tNotW, eFld_eq, eFldD_o, eProp, eMeth, eMeth0, eSl, pNone, pSome, sl_l,
  out_sh, out_fr, get_loc, get_sh, get_fr, getL_z, getL_o, getL_s, bound_z, bound_o, bound_s, isOwn_o, isOwn_s, pok_loc, pok_sh, pok_fr, stl_loc, stlS_sh, stlS_own, stl_sh, stl_fr, lay_fr, lay_sh, lay_loc, envOf, slotsOf, valN, ghOf, endK, resK, exMu, muN, List.cons_append, List.nil_append, List.append_nil, List.length_cons, List.length_nil, Nat.reduceAdd, Nat.reduceSub, List.replicate_succ, List.replicate_zero, List.replicate,
  List.getElem?_cons_zero, List.getElem?_cons_succ, List.getElem?_nil, List.set_cons_zero, List.set_cons_succ,
  add_ii, add_ss, add_ll, sub_ii, mul_ii, fdv_ii, fdvN_ii, mod_ii, modN_ii, pow_ii, lt_ii, le_ii, gt_ii, ge_ii, eq_ii, ne_ii, ix_li, ix_ti, neg_i, abs_i, int_i, int_b, max_ii, min_ii, len_l, len_t, list_l, list_t, rev_l, isi_int, isi_bl, isi_tup, isi_lst, isi_non, isN_i, isN_n, isN_t, isN_l, notN_i, notN_n, notN_t, notN_l, isTy,
  atI0, atI1, atI2, ixN0, ixN1, ixN2, some_inj_ex, isObj, setAt0, setAt1, setAt2, setAt3, restE, keepS, wipeE, ↓reduceIte, if_false, if_true,
  eCall, eCallP, eMake, pm, List.filterMap_cons, List.filterMap_nil, agNil, agRo, agBo, agMu, agTm, callK, boIx, muIx, tms, argsK, upE, reown, hasBo, noTm, flatRo, noLstAll, noLst, noLsts, List.nodup_nil, List.nodup_cons, List.not_mem_nil, not_false_eq_true, Nat.zero_le, Nat.le_refl, Nat.reduceLeDiff, List.mem_cons, or_false, reduceCtorEq,
  gN, gTp, gCn, gNl, iR1, iR2, iLst, iTpl, iEnum, stab,
  true_and, and_true, Bool.true_eq_false, Bool.false_eq_true, false_imp_iff, forall_const, true_imp_iff, and_self, decide_eq_true_eq, decide_eq_false_iff_not, Bool.not_eq_true', Bool.not_eq_false'])
namespace CD
namespace K42
/- _law_right: 0:cards 1:modulus 2:rules 3:number 4:built 5:found 6:kept 7:k -/
/- law: 0:script 1:k -/
end K42
end CD
end TL

namespace TL
open PySem L2
local macro_rules | `(tactic| walk_at "sx") => `(tactic| simp only [sSeq, sNil, sSet, sFrz, frz_o, frz_sh, frz_s, sIf, sRet, sRetN, sPass, sBrk, sPar, sSub, sApp, sExpr, sAsg, sAug, sFld, sRevI, sPop, eLoc, eC, eUn, eBin, eAnd, eOr, eNot, eIf, eTup, eLst, dNil, dCons, tVal_eq, tstD_bl, tAndW, tOrW, tNotW, eFld_eq, eFldD_o, eProp, eMeth, eMeth0, eSl, pNone, pSome, sl_l,
  out_sh, out_fr, get_loc, get_sh, get_fr, getL_z, getL_o, getL_s, bound_z, bound_o, bound_s, isOwn_o, isOwn_s, pok_loc, pok_sh, pok_fr, stl_loc, stlS_sh, stlS_own, stl_sh, stl_fr, lay_fr, lay_sh, lay_loc, envOf, slotsOf, valN, ghOf, endK, resK, exMu, muN, List.cons_append, List.nil_append, List.append_nil, List.length_cons, List.length_nil, Nat.reduceAdd, Nat.reduceSub, List.replicate_succ, List.replicate_zero, List.replicate,
  List.getElem?_cons_zero, List.getElem?_cons_succ, List.getElem?_nil, List.set_cons_zero, List.set_cons_succ,
  add_ii, add_ss, add_ll, sub_ii, mul_ii, fdv_ii, fdvN_ii, mod_ii, modN_ii, pow_ii, lt_ii, le_ii, gt_ii, ge_ii, eq_ii, ne_ii, ix_li, ix_ti, neg_i, abs_i, int_i, int_b, max_ii, min_ii, len_l, len_t, list_l, list_t, rev_l, isi_int, isi_bl, isi_tup, isi_lst, isi_non, isN_i, isN_n, isN_t, isN_l, notN_i, notN_n, notN_t, notN_l, isTy,
  atI0, atI1, atI2, ixN0, ixN1, ixN2, some_inj_ex, isObj, setAt0, setAt1, setAt2, setAt3, restE, keepS, wipeE, ↓reduceIte, if_false, if_true,
  eCall, eCallP, eMake, pm, List.filterMap_cons, List.filterMap_nil, agNil, agRo, agBo, agMu, agTm, callK, boIx, muIx, tms, argsK, upE, reown, hasBo, noTm, flatRo, noLstAll, noLst, noLsts, List.nodup_nil, List.nodup_cons, List.not_mem_nil, not_false_eq_true, Nat.zero_le, Nat.le_refl, Nat.reduceLeDiff, List.mem_cons, or_false, reduceCtorEq,
  gN, gTp, gCn, gNl, iR1, iR2, iLst, iTpl, iEnum, stab,
  true_and, and_true, Bool.true_eq_false, Bool.false_eq_true, false_imp_iff, forall_const, true_imp_iff, and_self, decide_eq_true_eq, decide_eq_false_iff_not, Bool.not_eq_true', Bool.not_eq_false'])
namespace CD
/-! ### ahead of a number by a word -/
theorem form_a_size {base : Nat} {rs : List (Int × Int)} (hr : RulesOk base rs) {ws : List Int} (hw : Wd rs.length ws) : Bt (1 + 12 * ws.length) (formF rs ws).1 ∧ 1 ≤ (formF rs ws).1 := by
  induction ws using snocRec with
  | nil => exact ⟨by show Bt 1 (1 : Int); unfold Bt; decide, by show (1 : Int) ≤ 1; decide⟩
  | append_singleton ws e ih =>
    have ih := ih fun x hx => hw x (by simp [hx])
    have he := hw e (by simp)
    rw [formF_snoc, List.length_append, List.length_singleton]
    obtain ⟨i, hi⟩ := List.getElem?_of_mem (mem_getD (x := ((1 : Int), (0 : Int))) he.1 he.2)
    have q := hr.ok i _ hi
    have g1 : 1 ≤ (ruleAt rs e).1 := q.1.1
    have g2 : (ruleAt rs e).1 ≤ 1000 := q.2.1
    have q1 : Bt 12 (ruleAt rs e).1 := Bt.of (by omega) (by omega) (by omega)
    exact ⟨(q1.mul ih.1).mono (by omega), pos_mul g1 ih.2⟩
def backW (rs : List (Int × Int)) (p : Int × Int) (ws : List Int) : Int × Int := low ((formF rs ws).2.2 * p.1 - (formF rs ws).2.1 * p.2) ((formF rs ws).1 * p.2)
theorem backW_spec {base : Nat} {rs : List (Int × Int)} (hr : RulesOk base rs) (h2 : 2 ≤ base) (h6 : base ≤ 60) {p : Int × Int} (hg : Good rs.length p) {ws : List Int} (hw : Wd rs.length ws) :
    Good rs.length (backW rs p ws) ∧ uWord rs (backW rs p ws).2 (backW rs p ws).1 ws.length = ws ∧ uWalk rs (backW rs p ws).2 (backW rs p ws).1 ws.length * p.2 = p.1 * (backW rs p ws).2 := by
  have h := hr.map h2 (by omega)
  have ha := (form_a_size hr hw).2
  have hb : 1 ≤ (formF rs ws).1 * p.2 := pos_mul ha hg.1
  have hbg : Int.gcd ((formF rs ws).1 * p.2) rs.length = 1 := gcd_mul (form_gcd h hw) hg.2.2
  have g : Good rs.length (backW rs p ws) := low_good (t := (formF rs ws).2.2 * p.1 - (formF rs ws).2.1 * p.2) hb hbg
  obtain ⟨c, hc, eu, eq⟩ := low_gcd (u := (formF rs ws).2.2 * p.1 - (formF rs ws).2.1 * p.2) hb
  have eu : (formF rs ws).2.2 * p.1 - (formF rs ws).2.1 * p.2 = (backW rs p ws).1 * c := eu
  have eq : (formF rs ws).1 * p.2 = (backW rs p ws).2 * c := eq
  have hcg : Int.gcd c rs.length = 1 := gcd_of_dvd ⟨(backW rs p ws).2, by rw [eq]; exact Int.mul_comm _ _⟩ hbg
  have hs0 : 0 < (formF rs ws).2.2 := by rw [formF_scale]; exact Int.pow_pos h.pos
  have hcs : Int.gcd c (formF rs ws).2.2 = 1 := by rw [formF_scale]; exact gcd_pow hcg _
  have fi := form_iffU h g.2.2 (backW rs p ws).1 hw
  have key : ((formF rs ws).1 * (backW rs p ws).1 + (formF rs ws).2.1 * (backW rs p ws).2) * c = (formF rs ws).2.2 * ((formF rs ws).1 * p.1) := by
    have a1 : ((formF rs ws).1 * (backW rs p ws).1 + (formF rs ws).2.1 * (backW rs p ws).2) * c = (formF rs ws).1 * ((backW rs p ws).1 * c) + (formF rs ws).2.1 * ((backW rs p ws).2 * c) := by grind
    rw [a1, ← eu, ← eq]; grind
  have d := dvd_of_gcd hcs (show (formF rs ws).2.2 ∣ ((formF rs ws).1 * (backW rs p ws).1 + (formF rs ws).2.1 * (backW rs p ws).2) * c by rw [key]; exact Int.dvd_mul_right _ _)
  have uw := fi.mpr d
  refine ⟨g, uw, ?_⟩
  have fw := form_walkU h g.2.2 (backW rs p ws).1 ws.length
  rw [uw] at fw
  rw [fw] at key
  have k1 : uWalk rs (backW rs p ws).2 (backW rs p ws).1 ws.length * c = (formF rs ws).1 * p.1 := by
    rw [Int.mul_assoc] at key
    exact Int.eq_of_mul_eq_mul_left (by omega) key
  have k2 : (uWalk rs (backW rs p ws).2 (backW rs p ws).1 ws.length * p.2) * c = (p.1 * (backW rs p ws).2) * c := by
    have a1 : (uWalk rs (backW rs p ws).2 (backW rs p ws).1 ws.length * p.2) * c = (uWalk rs (backW rs p ws).2 (backW rs p ws).1 ws.length * c) * p.2 := by grind
    have a2 : (p.1 * (backW rs p ws).2) * c = p.1 * ((backW rs p ws).2 * c) := by grind
    rw [a1, k1, a2, ← eq]; grind
  exact Int.eq_of_mul_eq_mul_right (by omega) k2
/- back_by: 0:rule_map 1:number 2:word 3:a 4:b 5:whole 6:top 7:bottom -/
/- _law_word: 0:cards 1:modulus 2:size 3:k -/
/- _law_leads: 0:rules 1:found 2:line 3:number 4:told 5:top -/
end CD
end TL

namespace TL
open PySem L2
local macro_rules | `(tactic| walk_at "sx") => `(tactic| simp only [sSeq, sNil, sSet, sFrz, frz_o, frz_sh, frz_s, sIf, sRet, sRetN, sPass, sBrk, sPar, sSub, sApp, sExpr, sAsg, sAug, sFld, sRevI, sPop, eLoc, eC, eUn, eBin, eAnd, eOr, eNot, eIf, eTup, eLst, dNil, dCons, tVal_eq, tstD_bl, tAndW, tOrW, tNotW, eFld_eq, eFldD_o, eProp, eMeth, eMeth0, eSl, pNone, pSome, sl_l,
  out_sh, out_fr, get_loc, get_sh, get_fr, getL_z, getL_o, getL_s, bound_z, bound_o, bound_s, isOwn_o, isOwn_s, pok_loc, pok_sh, pok_fr, stl_loc, stlS_sh, stlS_own, stl_sh, stl_fr, lay_fr, lay_sh, lay_loc, envOf, slotsOf, valN, ghOf, endK, resK, exMu, muN, List.cons_append, List.nil_append, List.append_nil, List.length_cons, List.length_nil, Nat.reduceAdd, Nat.reduceSub, List.replicate_succ, List.replicate_zero, List.replicate,
  List.getElem?_cons_zero, List.getElem?_cons_succ, List.getElem?_nil, List.set_cons_zero, List.set_cons_succ,
  add_ii, add_ss, add_ll, sub_ii, mul_ii, fdv_ii, fdvN_ii, mod_ii, modN_ii, pow_ii, lt_ii, le_ii, gt_ii, ge_ii, eq_ii, ne_ii, ix_li, ix_ti, neg_i, abs_i, int_i, int_b, max_ii, min_ii, len_l, len_t, list_l, list_t, rev_l, isi_int, isi_bl, isi_tup, isi_lst, isi_non, isN_i, isN_n, isN_t, isN_l, notN_i, notN_n, notN_t, notN_l, isTy,
  atI0, atI1, atI2, ixN0, ixN1, ixN2, some_inj_ex, isObj, setAt0, setAt1, setAt2, setAt3, restE, keepS, wipeE, ↓reduceIte, if_false, if_true,
  eCall, eCallP, eMake, pm, List.filterMap_cons, List.filterMap_nil, agNil, agRo, agBo, agMu, agTm, callK, boIx, muIx, tms, argsK, upE, reown, hasBo, noTm, flatRo, noLstAll, noLst, noLsts, List.nodup_nil, List.nodup_cons, List.not_mem_nil, not_false_eq_true, Nat.zero_le, Nat.le_refl, Nat.reduceLeDiff, List.mem_cons, or_false, reduceCtorEq,
  gN, gTp, gCn, gNl, iR1, iR2, iLst, iTpl, iEnum, stab,
  true_and, and_true, Bool.true_eq_false, Bool.false_eq_true, false_imp_iff, forall_const, true_imp_iff, and_self, decide_eq_true_eq, decide_eq_false_iff_not, Bool.not_eq_true', Bool.not_eq_false'])
namespace CD
namespace K45
/- _law_right: 0:cards 1:modulus 2:rules 3:number 4:built 5:size 6:line 7:passed -/
/- law: 0:script 1:k -/
end K45
end CD
end TL

namespace TL
open PySem L2
local macro_rules | `(tactic| walk_at "sx") => `(tactic| simp only [sSeq, sNil, sSet, sFrz, frz_o, frz_sh, frz_s, sIf, sRet, sRetN, sPass, sBrk, sPar, sSub, sApp, sExpr, sAsg, sAug, sFld, sRevI, sPop, eLoc, eC, eUn, eBin, eAnd, eOr, eNot, eIf, eTup, eLst, dNil, dCons, tVal_eq, tstD_bl, tAndW, tOrW, tNotW, eFld_eq, eFldD_o, eProp, eMeth, eMeth0, eSl, pNone, pSome, sl_l,
  out_sh, out_fr, get_loc, get_sh, get_fr, getL_z, getL_o, getL_s, bound_z, bound_o, bound_s, isOwn_o, isOwn_s, pok_loc, pok_sh, pok_fr, stl_loc, stlS_sh, stlS_own, stl_sh, stl_fr, lay_fr, lay_sh, lay_loc, envOf, slotsOf, valN, ghOf, endK, resK, exMu, muN, List.cons_append, List.nil_append, List.append_nil, List.length_cons, List.length_nil, Nat.reduceAdd, Nat.reduceSub, List.replicate_succ, List.replicate_zero, List.replicate,
  List.getElem?_cons_zero, List.getElem?_cons_succ, List.getElem?_nil, List.set_cons_zero, List.set_cons_succ,
  add_ii, add_ss, add_ll, sub_ii, mul_ii, fdv_ii, fdvN_ii, mod_ii, modN_ii, pow_ii, lt_ii, le_ii, gt_ii, ge_ii, eq_ii, ne_ii, ix_li, ix_ti, neg_i, abs_i, int_i, int_b, max_ii, min_ii, len_l, len_t, list_l, list_t, rev_l, isi_int, isi_bl, isi_tup, isi_lst, isi_non, isN_i, isN_n, isN_t, isN_l, notN_i, notN_n, notN_t, notN_l, isTy,
  atI0, atI1, atI2, ixN0, ixN1, ixN2, some_inj_ex, isObj, setAt0, setAt1, setAt2, setAt3, restE, keepS, wipeE, ↓reduceIte, if_false, if_true,
  eCall, eCallP, eMake, pm, List.filterMap_cons, List.filterMap_nil, agNil, agRo, agBo, agMu, agTm, callK, boIx, muIx, tms, argsK, upE, reown, hasBo, noTm, flatRo, noLstAll, noLst, noLsts, List.nodup_nil, List.nodup_cons, List.not_mem_nil, not_false_eq_true, Nat.zero_le, Nat.le_refl, Nat.reduceLeDiff, List.mem_cons, or_false, reduceCtorEq,
  gN, gTp, gCn, gNl, iR1, iR2, iLst, iTpl, iEnum, stab,
  true_and, and_true, Bool.true_eq_false, Bool.false_eq_true, false_imp_iff, forall_const, true_imp_iff, and_self, decide_eq_true_eq, decide_eq_false_iff_not, Bool.not_eq_true', Bool.not_eq_false'])
namespace CD
/-! ### falling words -/
/- is_falling: 0:rule_map 1:word 2:rules 3:product 4:whole 5:k -/
/- _law_falls: 0:rules 1:line 2:product 3:whole 4:k -/
/- _law_standing: 0:cards 1:rules 2:size 3:great 4:high 5:line 6:product 7:whole 8:k 9:drawn 10:rule -/
/- _law_fallen: 0:rules 1:line 2:limit 3:small 4:low 5:found 6:product 7:whole 8:k 9:entry 10:rule -/
end CD
end TL

namespace TL
open PySem L2
local macro_rules | `(tactic| walk_at "sx") => `(tactic| simp only [sSeq, sNil, sSet, sFrz, frz_o, frz_sh, frz_s, sIf, sRet, sRetN, sPass, sBrk, sPar, sSub, sApp, sExpr, sAsg, sAug, sFld, sRevI, sPop, eLoc, eC, eUn, eBin, eAnd, eOr, eNot, eIf, eTup, eLst, dNil, dCons, tVal_eq, tstD_bl, tAndW, tOrW, tNotW, eFld_eq, eFldD_o, eProp, eMeth, eMeth0, eSl, pNone, pSome, sl_l,
  out_sh, out_fr, get_loc, get_sh, get_fr, getL_z, getL_o, getL_s, bound_z, bound_o, bound_s, isOwn_o, isOwn_s, pok_loc, pok_sh, pok_fr, stl_loc, stlS_sh, stlS_own, stl_sh, stl_fr, lay_fr, lay_sh, lay_loc, envOf, slotsOf, valN, ghOf, endK, resK, exMu, muN, List.cons_append, List.nil_append, List.append_nil, List.length_cons, List.length_nil, Nat.reduceAdd, Nat.reduceSub, List.replicate_succ, List.replicate_zero, List.replicate,
  List.getElem?_cons_zero, List.getElem?_cons_succ, List.getElem?_nil, List.set_cons_zero, List.set_cons_succ,
  add_ii, add_ss, add_ll, sub_ii, mul_ii, fdv_ii, fdvN_ii, mod_ii, modN_ii, pow_ii, lt_ii, le_ii, gt_ii, ge_ii, eq_ii, ne_ii, ix_li, ix_ti, neg_i, abs_i, int_i, int_b, max_ii, min_ii, len_l, len_t, list_l, list_t, rev_l, isi_int, isi_bl, isi_tup, isi_lst, isi_non, isN_i, isN_n, isN_t, isN_l, notN_i, notN_n, notN_t, notN_l, isTy,
  atI0, atI1, atI2, ixN0, ixN1, ixN2, some_inj_ex, isObj, setAt0, setAt1, setAt2, setAt3, restE, keepS, wipeE, ↓reduceIte, if_false, if_true,
  eCall, eCallP, eMake, pm, List.filterMap_cons, List.filterMap_nil, agNil, agRo, agBo, agMu, agTm, callK, boIx, muIx, tms, argsK, upE, reown, hasBo, noTm, flatRo, noLstAll, noLst, noLsts, List.nodup_nil, List.nodup_cons, List.not_mem_nil, not_false_eq_true, Nat.zero_le, Nat.le_refl, Nat.reduceLeDiff, List.mem_cons, or_false, reduceCtorEq,
  gN, gTp, gCn, gNl, iR1, iR2, iLst, iTpl, iEnum, stab,
  true_and, and_true, Bool.true_eq_false, Bool.false_eq_true, false_imp_iff, forall_const, true_imp_iff, and_self, decide_eq_true_eq, decide_eq_false_iff_not, Bool.not_eq_true', Bool.not_eq_false'])
namespace CD
namespace K35
/- _law_right: 0:cards 1:modulus 2:rules 3:built 4:start 5:low 6:lines 7:line 8:passed 9:found -/
/- law: 0:script 1:k -/
end K35
end CD
end TL

namespace TL
open PySem L2
local macro_rules | `(tactic| walk_at "sx") => `(tactic| simp only [sSeq, sNil, sSet, sFrz, frz_o, frz_sh, frz_s, sIf, sRet, sRetN, sPass, sBrk, sPar, sSub, sApp, sExpr, sAsg, sAug, sFld, sRevI, sPop, eLoc, eC, eUn, eBin, eAnd, eOr, eNot, eIf, eTup, eLst, dNil, dCons, tVal_eq, tstD_bl, tAndW, tOrW, tNotW, eFld_eq, eFldD_o, eProp, eMeth, eMeth0, eSl, pNone, pSome, sl_l,
  out_sh, out_fr, get_loc, get_sh, get_fr, getL_z, getL_o, getL_s, bound_z, bound_o, bound_s, isOwn_o, isOwn_s, pok_loc, pok_sh, pok_fr, stl_loc, stlS_sh, stlS_own, stl_sh, stl_fr, lay_fr, lay_sh, lay_loc, envOf, slotsOf, valN, ghOf, endK, resK, exMu, muN, List.cons_append, List.nil_append, List.append_nil, List.length_cons, List.length_nil, Nat.reduceAdd, Nat.reduceSub, List.replicate_succ, List.replicate_zero, List.replicate,
  List.getElem?_cons_zero, List.getElem?_cons_succ, List.getElem?_nil, List.set_cons_zero, List.set_cons_succ,
  add_ii, add_ss, add_ll, sub_ii, mul_ii, fdv_ii, fdvN_ii, mod_ii, modN_ii, pow_ii, lt_ii, le_ii, gt_ii, ge_ii, eq_ii, ne_ii, ix_li, ix_ti, neg_i, abs_i, int_i, int_b, max_ii, min_ii, len_l, len_t, list_l, list_t, rev_l, isi_int, isi_bl, isi_tup, isi_lst, isi_non, isN_i, isN_n, isN_t, isN_l, notN_i, notN_n, notN_t, notN_l, isTy,
  atI0, atI1, atI2, ixN0, ixN1, ixN2, some_inj_ex, isObj, setAt0, setAt1, setAt2, setAt3, restE, keepS, wipeE, ↓reduceIte, if_false, if_true,
  eCall, eCallP, eMake, pm, List.filterMap_cons, List.filterMap_nil, agNil, agRo, agBo, agMu, agTm, callK, boIx, muIx, tms, argsK, upE, reown, hasBo, noTm, flatRo, noLstAll, noLst, noLsts, List.nodup_nil, List.nodup_cons, List.not_mem_nil, not_false_eq_true, Nat.zero_le, Nat.le_refl, Nat.reduceLeDiff, List.mem_cons, or_false, reduceCtorEq,
  gN, gTp, gCn, gNl, iR1, iR2, iLst, iTpl, iEnum, stab,
  true_and, and_true, Bool.true_eq_false, Bool.false_eq_true, false_imp_iff, forall_const, true_imp_iff, and_self, decide_eq_true_eq, decide_eq_false_iff_not, Bool.not_eq_true', Bool.not_eq_false'])
namespace CD
/-! ### where falling begins -/
/- falls_from: 0:rule_map 1:word 2:a 3:b 4:whole 5:border -/
/- _law_step: 0:rules 1:number 2:a 3:b -/
/- _law_taken: 0:rules 1:word 2:number 3:entry -/
/- _law_falls_at: 0:rules 1:word 2:number 3:taken -/
end CD
end TL

namespace TL
open PySem L2
local macro_rules | `(tactic| walk_at "sx") => `(tactic| simp only [sSeq, sNil, sSet, sFrz, frz_o, frz_sh, frz_s, sIf, sRet, sRetN, sPass, sBrk, sPar, sSub, sApp, sExpr, sAsg, sAug, sFld, sRevI, sPop, eLoc, eC, eUn, eBin, eAnd, eOr, eNot, eIf, eTup, eLst, dNil, dCons, tVal_eq, tstD_bl, tAndW, tOrW, tNotW, eFld_eq, eFldD_o, eProp, eMeth, eMeth0, eSl, pNone, pSome, sl_l,
  out_sh, out_fr, get_loc, get_sh, get_fr, getL_z, getL_o, getL_s, bound_z, bound_o, bound_s, isOwn_o, isOwn_s, pok_loc, pok_sh, pok_fr, stl_loc, stlS_sh, stlS_own, stl_sh, stl_fr, lay_fr, lay_sh, lay_loc, envOf, slotsOf, valN, ghOf, endK, resK, exMu, muN, List.cons_append, List.nil_append, List.append_nil, List.length_cons, List.length_nil, Nat.reduceAdd, Nat.reduceSub, List.replicate_succ, List.replicate_zero, List.replicate,
  List.getElem?_cons_zero, List.getElem?_cons_succ, List.getElem?_nil, List.set_cons_zero, List.set_cons_succ,
  add_ii, add_ss, add_ll, sub_ii, mul_ii, fdv_ii, fdvN_ii, mod_ii, modN_ii, pow_ii, lt_ii, le_ii, gt_ii, ge_ii, eq_ii, ne_ii, ix_li, ix_ti, neg_i, abs_i, int_i, int_b, max_ii, min_ii, len_l, len_t, list_l, list_t, rev_l, isi_int, isi_bl, isi_tup, isi_lst, isi_non, isN_i, isN_n, isN_t, isN_l, notN_i, notN_n, notN_t, notN_l, isTy,
  atI0, atI1, atI2, ixN0, ixN1, ixN2, some_inj_ex, isObj, setAt0, setAt1, setAt2, setAt3, restE, keepS, wipeE, ↓reduceIte, if_false, if_true,
  eCall, eCallP, eMake, pm, List.filterMap_cons, List.filterMap_nil, agNil, agRo, agBo, agMu, agTm, callK, boIx, muIx, tms, argsK, upE, reown, hasBo, noTm, flatRo, noLstAll, noLst, noLsts, List.nodup_nil, List.nodup_cons, List.not_mem_nil, not_false_eq_true, Nat.zero_le, Nat.le_refl, Nat.reduceLeDiff, List.mem_cons, or_false, reduceCtorEq,
  gN, gTp, gCn, gNl, iR1, iR2, iLst, iTpl, iEnum, stab,
  true_and, and_true, Bool.true_eq_false, Bool.false_eq_true, false_imp_iff, forall_const, true_imp_iff, and_self, decide_eq_true_eq, decide_eq_false_iff_not, Bool.not_eq_true', Bool.not_eq_false'])
namespace CD
namespace K37
/- _law_right: 0:cards 1:modulus 2:rules 3:low 4:size 5:start 6:line 7:built 8:passed 9:found 10:whole 11:taken 12:far -/
/- law: 0:script 1:k -/
end K37
end CD
end TL

namespace TL
open PySem L2
local macro_rules | `(tactic| walk_at "sx") => `(tactic| simp only [sSeq, sNil, sSet, sFrz, frz_o, frz_sh, frz_s, sIf, sRet, sRetN, sPass, sBrk, sPar, sSub, sApp, sExpr, sAsg, sAug, sFld, sRevI, sPop, eLoc, eC, eUn, eBin, eAnd, eOr, eNot, eIf, eTup, eLst, dNil, dCons, tVal_eq, tstD_bl, tAndW, tOrW, tNotW, eFld_eq, eFldD_o, eProp, eMeth, eMeth0, eSl, pNone, pSome, sl_l,
  out_sh, out_fr, get_loc, get_sh, get_fr, getL_z, getL_o, getL_s, bound_z, bound_o, bound_s, isOwn_o, isOwn_s, pok_loc, pok_sh, pok_fr, stl_loc, stlS_sh, stlS_own, stl_sh, stl_fr, lay_fr, lay_sh, lay_loc, envOf, slotsOf, valN, ghOf, endK, resK, exMu, muN, List.cons_append, List.nil_append, List.append_nil, List.length_cons, List.length_nil, Nat.reduceAdd, Nat.reduceSub, List.replicate_succ, List.replicate_zero, List.replicate,
  List.getElem?_cons_zero, List.getElem?_cons_succ, List.getElem?_nil, List.set_cons_zero, List.set_cons_succ,
  add_ii, add_ss, add_ll, sub_ii, mul_ii, fdv_ii, fdvN_ii, mod_ii, modN_ii, pow_ii, lt_ii, le_ii, gt_ii, ge_ii, eq_ii, ne_ii, ix_li, ix_ti, neg_i, abs_i, int_i, int_b, max_ii, min_ii, len_l, len_t, list_l, list_t, rev_l, isi_int, isi_bl, isi_tup, isi_lst, isi_non, isN_i, isN_n, isN_t, isN_l, notN_i, notN_n, notN_t, notN_l, isTy,
  atI0, atI1, atI2, ixN0, ixN1, ixN2, some_inj_ex, isObj, setAt0, setAt1, setAt2, setAt3, restE, keepS, wipeE, ↓reduceIte, if_false, if_true,
  eCall, eCallP, eMake, pm, List.filterMap_cons, List.filterMap_nil, agNil, agRo, agBo, agMu, agTm, callK, boIx, muIx, tms, argsK, upE, reown, hasBo, noTm, flatRo, noLstAll, noLst, noLsts, List.nodup_nil, List.nodup_cons, List.not_mem_nil, not_false_eq_true, Nat.zero_le, Nat.le_refl, Nat.reduceLeDiff, List.mem_cons, or_false, reduceCtorEq,
  gN, gTp, gCn, gNl, iR1, iR2, iLst, iTpl, iEnum, stab,
  true_and, and_true, Bool.true_eq_false, Bool.false_eq_true, false_imp_iff, forall_const, true_imp_iff, and_self, decide_eq_true_eq, decide_eq_false_iff_not, Bool.not_eq_true', Bool.not_eq_false'])
namespace CD
/- _law_form: 0:rules 1:line 2:a 3:b 4:whole 5:entry -/
/- distance_of: 0:rule_map 1:one 2:other 3:a 4:b 5:whole 6:other_a 7:other_b -/
/- _law_meet: 0:rules 1:first 2:second 3:found 4:there 5:a 6:b 7:whole 8:top 9:bottom -/
end CD
end TL

namespace TL
open PySem L2
local macro_rules | `(tactic| walk_at "sx") => `(tactic| simp only [sSeq, sNil, sSet, sFrz, frz_o, frz_sh, frz_s, sIf, sRet, sRetN, sPass, sBrk, sPar, sSub, sApp, sExpr, sAsg, sAug, sFld, sRevI, sPop, eLoc, eC, eUn, eBin, eAnd, eOr, eNot, eIf, eTup, eLst, dNil, dCons, tVal_eq, tstD_bl, tAndW, tOrW, tNotW, eFld_eq, eFldD_o, eProp, eMeth, eMeth0, eSl, pNone, pSome, sl_l,
  out_sh, out_fr, get_loc, get_sh, get_fr, getL_z, getL_o, getL_s, bound_z, bound_o, bound_s, isOwn_o, isOwn_s, pok_loc, pok_sh, pok_fr, stl_loc, stlS_sh, stlS_own, stl_sh, stl_fr, lay_fr, lay_sh, lay_loc, envOf, slotsOf, valN, ghOf, endK, resK, exMu, muN, List.cons_append, List.nil_append, List.append_nil, List.length_cons, List.length_nil, Nat.reduceAdd, Nat.reduceSub, List.replicate_succ, List.replicate_zero, List.replicate,
  List.getElem?_cons_zero, List.getElem?_cons_succ, List.getElem?_nil, List.set_cons_zero, List.set_cons_succ,
  add_ii, add_ss, add_ll, sub_ii, mul_ii, fdv_ii, fdvN_ii, mod_ii, modN_ii, pow_ii, lt_ii, le_ii, gt_ii, ge_ii, eq_ii, ne_ii, ix_li, ix_ti, neg_i, abs_i, int_i, int_b, max_ii, min_ii, len_l, len_t, list_l, list_t, rev_l, isi_int, isi_bl, isi_tup, isi_lst, isi_non, isN_i, isN_n, isN_t, isN_l, notN_i, notN_n, notN_t, notN_l, isTy,
  atI0, atI1, atI2, ixN0, ixN1, ixN2, some_inj_ex, isObj, setAt0, setAt1, setAt2, setAt3, restE, keepS, wipeE, ↓reduceIte, if_false, if_true,
  eCall, eCallP, eMake, pm, List.filterMap_cons, List.filterMap_nil, agNil, agRo, agBo, agMu, agTm, callK, boIx, muIx, tms, argsK, upE, reown, hasBo, noTm, flatRo, noLstAll, noLst, noLsts, List.nodup_nil, List.nodup_cons, List.not_mem_nil, not_false_eq_true, Nat.zero_le, Nat.le_refl, Nat.reduceLeDiff, List.mem_cons, or_false, reduceCtorEq,
  gN, gTp, gCn, gNl, iR1, iR2, iLst, iTpl, iEnum, stab,
  true_and, and_true, Bool.true_eq_false, Bool.false_eq_true, false_imp_iff, forall_const, true_imp_iff, and_self, decide_eq_true_eq, decide_eq_false_iff_not, Bool.not_eq_true', Bool.not_eq_false'])
namespace CD
namespace K51
/- _law_other: 0:cards 1:modulus 2:line 3:kind 4:at -/
/- _law_right: 0:cards 1:modulus 2:rules 3:size 4:first 5:second 6:built 7:passed 8:found 9:back -/
/- law: 0:script 1:k -/
end K51
end CD
end TL

namespace TL
open PySem L2
local macro_rules | `(tactic| walk_at "sx") => `(tactic| simp only [sSeq, sNil, sSet, sFrz, frz_o, frz_sh, frz_s, sIf, sRet, sRetN, sPass, sBrk, sPar, sSub, sApp, sExpr, sAsg, sAug, sFld, sRevI, sPop, eLoc, eC, eUn, eBin, eAnd, eOr, eNot, eIf, eTup, eLst, dNil, dCons, tVal_eq, tstD_bl, tAndW, tOrW, tNotW, eFld_eq, eFldD_o, eProp, eMeth, eMeth0, eSl, pNone, pSome, sl_l,
  out_sh, out_fr, get_loc, get_sh, get_fr, getL_z, getL_o, getL_s, bound_z, bound_o, bound_s, isOwn_o, isOwn_s, pok_loc, pok_sh, pok_fr, stl_loc, stlS_sh, stlS_own, stl_sh, stl_fr, lay_fr, lay_sh, lay_loc, envOf, slotsOf, valN, ghOf, endK, resK, exMu, muN, List.cons_append, List.nil_append, List.append_nil, List.length_cons, List.length_nil, Nat.reduceAdd, Nat.reduceSub, List.replicate_succ, List.replicate_zero, List.replicate,
  List.getElem?_cons_zero, List.getElem?_cons_succ, List.getElem?_nil, List.set_cons_zero, List.set_cons_succ,
  add_ii, add_ss, add_ll, sub_ii, mul_ii, fdv_ii, fdvN_ii, mod_ii, modN_ii, pow_ii, lt_ii, le_ii, gt_ii, ge_ii, eq_ii, ne_ii, ix_li, ix_ti, neg_i, abs_i, int_i, int_b, max_ii, min_ii, len_l, len_t, list_l, list_t, rev_l, isi_int, isi_bl, isi_tup, isi_lst, isi_non, isN_i, isN_n, isN_t, isN_l, notN_i, notN_n, notN_t, notN_l, isTy,
  atI0, atI1, atI2, ixN0, ixN1, ixN2, some_inj_ex, isObj, setAt0, setAt1, setAt2, setAt3, restE, keepS, wipeE, ↓reduceIte, if_false, if_true,
  eCall, eCallP, eMake, pm, List.filterMap_cons, List.filterMap_nil, agNil, agRo, agBo, agMu, agTm, callK, boIx, muIx, tms, argsK, upE, reown, hasBo, noTm, flatRo, noLstAll, noLst, noLsts, List.nodup_nil, List.nodup_cons, List.not_mem_nil, not_false_eq_true, Nat.zero_le, Nat.le_refl, Nat.reduceLeDiff, List.mem_cons, or_false, reduceCtorEq,
  gN, gTp, gCn, gNl, iR1, iR2, iLst, iTpl, iEnum, stab,
  true_and, and_true, Bool.true_eq_false, Bool.false_eq_true, false_imp_iff, forall_const, true_imp_iff, and_self, decide_eq_true_eq, decide_eq_false_iff_not, Bool.not_eq_true', Bool.not_eq_false'])
namespace CD
/- _law_length: 0:cards 1:modulus 2:limit 3:greatest 4:whole 5:k -/
/- twin: 0:one 1:other 2:number 3:steps -/
namespace CH
/- _law_changed: 0:cards 1:rules 2:found 3:k 4:kind -/
end CH
end CD
end TL

namespace TL
open PySem L2
local macro_rules | `(tactic| walk_at "sx") => `(tactic| simp only [sSeq, sNil, sSet, sFrz, frz_o, frz_sh, frz_s, sIf, sRet, sRetN, sPass, sBrk, sPar, sSub, sApp, sExpr, sAsg, sAug, sFld, sRevI, sPop, eLoc, eC, eUn, eBin, eAnd, eOr, eNot, eIf, eTup, eLst, dNil, dCons, tVal_eq, tstD_bl, tAndW, tOrW, tNotW, eFld_eq, eFldD_o, eProp, eMeth, eMeth0, eSl, pNone, pSome, sl_l,
  out_sh, out_fr, get_loc, get_sh, get_fr, getL_z, getL_o, getL_s, bound_z, bound_o, bound_s, isOwn_o, isOwn_s, pok_loc, pok_sh, pok_fr, stl_loc, stlS_sh, stlS_own, stl_sh, stl_fr, lay_fr, lay_sh, lay_loc, envOf, slotsOf, valN, ghOf, endK, resK, exMu, muN, List.cons_append, List.nil_append, List.append_nil, List.length_cons, List.length_nil, Nat.reduceAdd, Nat.reduceSub, List.replicate_succ, List.replicate_zero, List.replicate,
  List.getElem?_cons_zero, List.getElem?_cons_succ, List.getElem?_nil, List.set_cons_zero, List.set_cons_succ,
  add_ii, add_ss, add_ll, sub_ii, mul_ii, fdv_ii, fdvN_ii, mod_ii, modN_ii, pow_ii, lt_ii, le_ii, gt_ii, ge_ii, eq_ii, ne_ii, ix_li, ix_ti, neg_i, abs_i, int_i, int_b, max_ii, min_ii, len_l, len_t, list_l, list_t, rev_l, isi_int, isi_bl, isi_tup, isi_lst, isi_non, isN_i, isN_n, isN_t, isN_l, notN_i, notN_n, notN_t, notN_l, isTy,
  atI0, atI1, atI2, ixN0, ixN1, ixN2, some_inj_ex, isObj, setAt0, setAt1, setAt2, setAt3, restE, keepS, wipeE, ↓reduceIte, if_false, if_true,
  eCall, eCallP, eMake, pm, List.filterMap_cons, List.filterMap_nil, agNil, agRo, agBo, agMu, agTm, callK, boIx, muIx, tms, argsK, upE, reown, hasBo, noTm, flatRo, noLstAll, noLst, noLsts, List.nodup_nil, List.nodup_cons, List.not_mem_nil, not_false_eq_true, Nat.zero_le, Nat.le_refl, Nat.reduceLeDiff, List.mem_cons, or_false, reduceCtorEq,
  gN, gTp, gCn, gNl, iR1, iR2, iLst, iTpl, iEnum, stab,
  true_and, and_true, Bool.true_eq_false, Bool.false_eq_true, false_imp_iff, forall_const, true_imp_iff, and_self, decide_eq_true_eq, decide_eq_false_iff_not, Bool.not_eq_true', Bool.not_eq_false'])
namespace CD
namespace CH
namespace K55
/- _law_right: 0:cards 1:modulus 2:rules 3:second 4:number 5:many 6:whole 7:built 8:line 9:turn 10:found 11:itself -/
/- law: 0:script 1:k -/
end K55
end CH
end CD
end TL

namespace TL
open PySem L2
local macro_rules | `(tactic| walk_at "sx") => `(tactic| simp only [sSeq, sNil, sSet, sFrz, frz_o, frz_sh, frz_s, sIf, sRet, sRetN, sPass, sBrk, sPar, sSub, sApp, sExpr, sAsg, sAug, sFld, sRevI, sPop, eLoc, eC, eUn, eBin, eAnd, eOr, eNot, eIf, eTup, eLst, dNil, dCons, tVal_eq, tstD_bl, tAndW, tOrW, tNotW, eFld_eq, eFldD_o, eProp, eMeth, eMeth0, eSl, pNone, pSome, sl_l,
  out_sh, out_fr, get_loc, get_sh, get_fr, getL_z, getL_o, getL_s, bound_z, bound_o, bound_s, isOwn_o, isOwn_s, pok_loc, pok_sh, pok_fr, stl_loc, stlS_sh, stlS_own, stl_sh, stl_fr, lay_fr, lay_sh, lay_loc, envOf, slotsOf, valN, ghOf, endK, resK, exMu, muN, List.cons_append, List.nil_append, List.append_nil, List.length_cons, List.length_nil, Nat.reduceAdd, Nat.reduceSub, List.replicate_succ, List.replicate_zero, List.replicate,
  List.getElem?_cons_zero, List.getElem?_cons_succ, List.getElem?_nil, List.set_cons_zero, List.set_cons_succ,
  add_ii, add_ss, add_ll, sub_ii, mul_ii, fdv_ii, fdvN_ii, mod_ii, modN_ii, pow_ii, lt_ii, le_ii, gt_ii, ge_ii, eq_ii, ne_ii, ix_li, ix_ti, neg_i, abs_i, int_i, int_b, max_ii, min_ii, len_l, len_t, list_l, list_t, rev_l, isi_int, isi_bl, isi_tup, isi_lst, isi_non, isN_i, isN_n, isN_t, isN_l, notN_i, notN_n, notN_t, notN_l, isTy,
  atI0, atI1, atI2, ixN0, ixN1, ixN2, some_inj_ex, isObj, setAt0, setAt1, setAt2, setAt3, restE, keepS, wipeE, ↓reduceIte, if_false, if_true,
  eCall, eCallP, eMake, pm, List.filterMap_cons, List.filterMap_nil, agNil, agRo, agBo, agMu, agTm, callK, boIx, muIx, tms, argsK, upE, reown, hasBo, noTm, flatRo, noLstAll, noLst, noLsts, List.nodup_nil, List.nodup_cons, List.not_mem_nil, not_false_eq_true, Nat.zero_le, Nat.le_refl, Nat.reduceLeDiff, List.mem_cons, or_false, reduceCtorEq,
  gN, gTp, gCn, gNl, iR1, iR2, iLst, iTpl, iEnum, stab,
  true_and, and_true, Bool.true_eq_false, Bool.false_eq_true, false_imp_iff, forall_const, true_imp_iff, and_self, decide_eq_true_eq, decide_eq_false_iff_not, Bool.not_eq_true', Bool.not_eq_false'])
namespace CD
/-! ### the forms of all classes -/
/- forms_by_class: 0:rule_map 1:steps 2:rules 3:modulus 4:forms 5:whole 6:step 7:longer 8:number 9:a 10:b 11:rule_a 12:rule_b -/
/- meeting_classes: 0:rule_map 1:apart 2:steps 3:forms 4:whole 5:found 6:number 7:a 8:b 9:other_a 10:other_b -/
end CD
end TL

namespace TL
open PySem L2
local macro_rules | `(tactic| walk_at "sx") => `(tactic| simp only [sSeq, sNil, sSet, sFrz, frz_o, frz_sh, frz_s, sIf, sRet, sRetN, sPass, sBrk, sPar, sSub, sApp, sExpr, sAsg, sAug, sFld, sRevI, sPop, eLoc, eC, eUn, eBin, eAnd, eOr, eNot, eIf, eTup, eLst, dNil, dCons, tVal_eq, tstD_bl, tAndW, tOrW, tNotW, eFld_eq, eFldD_o, eProp, eMeth, eMeth0, eSl, pNone, pSome, sl_l,
  out_sh, out_fr, get_loc, get_sh, get_fr, getL_z, getL_o, getL_s, bound_z, bound_o, bound_s, isOwn_o, isOwn_s, pok_loc, pok_sh, pok_fr, stl_loc, stlS_sh, stlS_own, stl_sh, stl_fr, lay_fr, lay_sh, lay_loc, envOf, slotsOf, valN, ghOf, endK, resK, exMu, muN, List.cons_append, List.nil_append, List.append_nil, List.length_cons, List.length_nil, Nat.reduceAdd, Nat.reduceSub, List.replicate_succ, List.replicate_zero, List.replicate,
  List.getElem?_cons_zero, List.getElem?_cons_succ, List.getElem?_nil, List.set_cons_zero, List.set_cons_succ,
  add_ii, add_ss, add_ll, sub_ii, mul_ii, fdv_ii, fdvN_ii, mod_ii, modN_ii, pow_ii, lt_ii, le_ii, gt_ii, ge_ii, eq_ii, ne_ii, ix_li, ix_ti, neg_i, abs_i, int_i, int_b, max_ii, min_ii, len_l, len_t, list_l, list_t, rev_l, isi_int, isi_bl, isi_tup, isi_lst, isi_non, isN_i, isN_n, isN_t, isN_l, notN_i, notN_n, notN_t, notN_l, isTy,
  atI0, atI1, atI2, ixN0, ixN1, ixN2, some_inj_ex, isObj, setAt0, setAt1, setAt2, setAt3, restE, keepS, wipeE, ↓reduceIte, if_false, if_true,
  eCall, eCallP, eMake, pm, List.filterMap_cons, List.filterMap_nil, agNil, agRo, agBo, agMu, agTm, callK, boIx, muIx, tms, argsK, upE, reown, hasBo, noTm, flatRo, noLstAll, noLst, noLsts, List.nodup_nil, List.nodup_cons, List.not_mem_nil, not_false_eq_true, Nat.zero_le, Nat.le_refl, Nat.reduceLeDiff, List.mem_cons, or_false, reduceCtorEq,
  gN, gTp, gCn, gNl, iR1, iR2, iLst, iTpl, iEnum, stab,
  true_and, and_true, Bool.true_eq_false, Bool.false_eq_true, false_imp_iff, forall_const, true_imp_iff, and_self, decide_eq_true_eq, decide_eq_false_iff_not, Bool.not_eq_true', Bool.not_eq_false'])
namespace CD
/- _law_wholes: 0:value 1:entry -/
/- _law_after: 0:rules 1:number 2:many 3:k -/
end CD
end TL

namespace TL
open PySem L2
local macro_rules | `(tactic| walk_at "sx") => `(tactic| simp only [sSeq, sNil, sSet, sFrz, frz_o, frz_sh, frz_s, sIf, sRet, sRetN, sPass, sBrk, sPar, sSub, sApp, sExpr, sAsg, sAug, sFld, sRevI, sPop, eLoc, eC, eUn, eBin, eAnd, eOr, eNot, eIf, eTup, eLst, dNil, dCons, tVal_eq, tstD_bl, tAndW, tOrW, tNotW, eFld_eq, eFldD_o, eProp, eMeth, eMeth0, eSl, pNone, pSome, sl_l,
  out_sh, out_fr, get_loc, get_sh, get_fr, getL_z, getL_o, getL_s, bound_z, bound_o, bound_s, isOwn_o, isOwn_s, pok_loc, pok_sh, pok_fr, stl_loc, stlS_sh, stlS_own, stl_sh, stl_fr, lay_fr, lay_sh, lay_loc, envOf, slotsOf, valN, ghOf, endK, resK, exMu, muN, List.cons_append, List.nil_append, List.append_nil, List.length_cons, List.length_nil, Nat.reduceAdd, Nat.reduceSub, List.replicate_succ, List.replicate_zero, List.replicate,
  List.getElem?_cons_zero, List.getElem?_cons_succ, List.getElem?_nil, List.set_cons_zero, List.set_cons_succ,
  add_ii, add_ss, add_ll, sub_ii, mul_ii, fdv_ii, fdvN_ii, mod_ii, modN_ii, pow_ii, lt_ii, le_ii, gt_ii, ge_ii, eq_ii, ne_ii, ix_li, ix_ti, neg_i, abs_i, int_i, int_b, max_ii, min_ii, len_l, len_t, list_l, list_t, rev_l, isi_int, isi_bl, isi_tup, isi_lst, isi_non, isN_i, isN_n, isN_t, isN_l, notN_i, notN_n, notN_t, notN_l, isTy,
  atI0, atI1, atI2, ixN0, ixN1, ixN2, some_inj_ex, isObj, setAt0, setAt1, setAt2, setAt3, restE, keepS, wipeE, ↓reduceIte, if_false, if_true,
  eCall, eCallP, eMake, pm, List.filterMap_cons, List.filterMap_nil, agNil, agRo, agBo, agMu, agTm, callK, boIx, muIx, tms, argsK, upE, reown, hasBo, noTm, flatRo, noLstAll, noLst, noLsts, List.nodup_nil, List.nodup_cons, List.not_mem_nil, not_false_eq_true, Nat.zero_le, Nat.le_refl, Nat.reduceLeDiff, List.mem_cons, or_false, reduceCtorEq,
  gN, gTp, gCn, gNl, iR1, iR2, iLst, iTpl, iEnum, stab,
  true_and, and_true, Bool.true_eq_false, Bool.false_eq_true, false_imp_iff, forall_const, true_imp_iff, and_self, decide_eq_true_eq, decide_eq_false_iff_not, Bool.not_eq_true', Bool.not_eq_false'])
namespace CD
namespace K48
/- _law_apart: 0:cards 1:rules 2:many 3:kind 4:line 5:a 6:b 7:whole 8:turned -/
/- _law_right: 0:cards 1:modulus 2:rules 3:many 4:gap 5:whole 6:far 7:due 8:number 9:pairs 10:built 11:turn 12:found 13:at 14:pair -/
/- law: 0:script 1:k -/
end K48
end CD
end TL

namespace TL
open PySem L2
theorem isC_o {c c' : Nat} {ds : List D} {k} : opIsC c (.obj c' ds) k = (c' = c ∧ k (.sh (.bl true))) := rfl
theorem lr1_i {j : Int} {k} : opLR1 (.int j) k = (RgOk 0 j ∧ k (.fr (.lst (rgD 0 j)))) := rfl
theorem lr2_i {i j : Int} {k} : opLR2 (.int i) (.int j) k = (RgOk i j ∧ k (.fr (.lst (rgD i j)))) := rfl
end TL

namespace TL
open PySem L2
set_option maxHeartbeats 2000000
local macro_rules | `(tactic| walk_at "sx") => `(tactic| simp only [sSeq, sNil, sSet, sFrz, frz_o, frz_sh, frz_s, sIf, sRet, sRetN, sPass, sBrk, sPar, sSub, sApp, sExpr, sAsg, sAug, sFld, sRevI, sPop, eLoc, eC, eUn, eBin, eAnd, eOr, eNot, eIf, eTup, eLst, dNil, dCons, tVal_eq, tstD_bl, tAndW, tOrW, tNotW, eFld_eq, eFldD_o, eProp, eMeth, eMeth0, eSl, pNone, pSome, sl_l,
  out_sh, out_fr, get_loc, get_sh, get_fr, getL_z, getL_o, getL_s, bound_z, bound_o, bound_s, isOwn_o, isOwn_s, pok_loc, pok_sh, pok_fr, stl_loc, stlS_sh, stlS_own, stl_sh, stl_fr, lay_fr, lay_sh, lay_loc, envOf, slotsOf, valN, ghOf, endK, resK, exMu, muN, List.cons_append, List.nil_append, List.append_nil, List.length_cons, List.length_nil, Nat.reduceAdd, Nat.reduceSub, List.replicate_succ, List.replicate_zero, List.replicate,
  List.getElem?_cons_zero, List.getElem?_cons_succ, List.getElem?_nil, List.set_cons_zero, List.set_cons_succ,
  add_ii, add_ss, add_ll, sub_ii, mul_ii, fdv_ii, fdvN_ii, mod_ii, modN_ii, pow_ii, lt_ii, le_ii, gt_ii, ge_ii, eq_ii, ne_ii, ix_li, ix_ti, neg_i, abs_i, int_i, int_b, max_ii, min_ii, len_l, len_t, list_l, list_t, rev_l, isi_int, isi_bl, isi_tup, isi_lst, isi_non, isN_i, isN_n, isN_t, isN_l, notN_i, notN_n, notN_t, notN_l, isTy,
  atI0, atI1, atI2, ixN0, ixN1, ixN2, some_inj_ex, isObj, setAt0, setAt1, setAt2, setAt3, restE, keepS, wipeE, ↓reduceIte, if_false, if_true,
  eCall, eCallP, eMake, pm, eTwo, dLit, eOwn2, eLenO, okLen, eMethP, eMakeP, isC_o, eRepL, lr1_i, lr2_i, List.filterMap_cons, List.filterMap_nil, agNil, agRo, agBo, agMu, agTm, callK, boIx, muIx, tms, argsK, upE, reown, hasBo, noTm, flatRo, noLstAll, noLst, noLsts, List.nodup_nil, List.nodup_cons, List.not_mem_nil, not_false_eq_true, Nat.zero_le, Nat.le_refl, Nat.reduceLeDiff, List.mem_cons, or_false, reduceCtorEq,
  gN, gTp, gLs, gCn, gNl, iR1, iR2, iLst, iTpl, iEnum, stab,
  e0_is, t0_is, d0_is, s0_is, i0_is, sTry, hXk_n, hXk_s, sRaise, eCallX, eCallXP, eMethX, eMakeX, ePropX, eOwn2X, callX, roA, opXv_exn, opIsX_exn, List.map_cons, List.map_nil, Nat.lt_irrefl, Nat.zero_lt_one, Nat.reduceLT, Nat.zero_lt_succ, some_inj_ex,
  true_and, and_true, eq_self, List.length_map, decide_true, decide_false, Bool.not_true, Bool.not_false, not_true_eq_false, Bool.true_eq_false, Bool.false_eq_true, false_imp_iff, forall_const, true_imp_iff, and_self, decide_eq_true_eq, decide_eq_false_iff_not, Bool.not_eq_true', Bool.not_eq_false'])
namespace CD
/-! ### integers one step before -/
def hits (m n : Int) (p : Int × Int) : Prop := (m * n - p.2) % p.1 = 0
instance (m n : Int) (p : Int × Int) : Decidable (hits m n p) := by unfold hits; exact inferInstance
/- whole_before: 0:rule_map 1:number 2:modulus 3:found 4:a 5:b -/
/- classes_before: 0:rule_map 1:rules 2:found 3:k 4:a 5:b -/
end CD
end TL

namespace TL
open PySem L2
set_option maxHeartbeats 2000000
local macro_rules | `(tactic| walk_at "sx") => `(tactic| simp only [sSeq, sNil, sSet, sFrz, frz_o, frz_sh, frz_s, sIf, sRet, sRetN, sPass, sBrk, sPar, sSub, sApp, sExpr, sAsg, sAug, sFld, sRevI, sPop, eLoc, eC, eUn, eBin, eAnd, eOr, eNot, eIf, eTup, eLst, dNil, dCons, tVal_eq, tstD_bl, tAndW, tOrW, tNotW, eFld_eq, eFldD_o, eProp, eMeth, eMeth0, eSl, pNone, pSome, sl_l,
  out_sh, out_fr, get_loc, get_sh, get_fr, getL_z, getL_o, getL_s, bound_z, bound_o, bound_s, isOwn_o, isOwn_s, pok_loc, pok_sh, pok_fr, stl_loc, stlS_sh, stlS_own, stl_sh, stl_fr, lay_fr, lay_sh, lay_loc, envOf, slotsOf, valN, ghOf, endK, resK, exMu, muN, List.cons_append, List.nil_append, List.append_nil, List.length_cons, List.length_nil, Nat.reduceAdd, Nat.reduceSub, List.replicate_succ, List.replicate_zero, List.replicate,
  List.getElem?_cons_zero, List.getElem?_cons_succ, List.getElem?_nil, List.set_cons_zero, List.set_cons_succ,
  add_ii, add_ss, add_ll, sub_ii, mul_ii, fdv_ii, fdvN_ii, mod_ii, modN_ii, pow_ii, lt_ii, le_ii, gt_ii, ge_ii, eq_ii, ne_ii, ix_li, ix_ti, neg_i, abs_i, int_i, int_b, max_ii, min_ii, len_l, len_t, list_l, list_t, rev_l, isi_int, isi_bl, isi_tup, isi_lst, isi_non, isN_i, isN_n, isN_t, isN_l, notN_i, notN_n, notN_t, notN_l, isTy,
  atI0, atI1, atI2, ixN0, ixN1, ixN2, some_inj_ex, isObj, setAt0, setAt1, setAt2, setAt3, restE, keepS, wipeE, ↓reduceIte, if_false, if_true,
  eCall, eCallP, eMake, pm, eTwo, dLit, eOwn2, eLenO, okLen, eMethP, eMakeP, isC_o, eRepL, lr1_i, lr2_i, List.filterMap_cons, List.filterMap_nil, agNil, agRo, agBo, agMu, agTm, callK, boIx, muIx, tms, argsK, upE, reown, hasBo, noTm, flatRo, noLstAll, noLst, noLsts, List.nodup_nil, List.nodup_cons, List.not_mem_nil, not_false_eq_true, Nat.zero_le, Nat.le_refl, Nat.reduceLeDiff, List.mem_cons, or_false, reduceCtorEq,
  gN, gTp, gLs, gCn, gNl, iR1, iR2, iLst, iTpl, iEnum, stab,
  e0_is, t0_is, d0_is, s0_is, i0_is, sTry, hXk_n, hXk_s, sRaise, eCallX, eCallXP, eMethX, eMakeX, ePropX, eOwn2X, callX, roA, opXv_exn, opIsX_exn, List.map_cons, List.map_nil, Nat.lt_irrefl, Nat.zero_lt_one, Nat.reduceLT, Nat.zero_lt_succ, some_inj_ex,
  true_and, and_true, eq_self, List.length_map, decide_true, decide_false, Bool.not_true, Bool.not_false, not_true_eq_false, Bool.true_eq_false, Bool.false_eq_true, false_imp_iff, forall_const, true_imp_iff, and_self, decide_eq_true_eq, decide_eq_false_iff_not, Bool.not_eq_true', Bool.not_eq_false'])
namespace CD
/- _law_classes: 0:value 1:rules 2:k 3:pair -/
/- _law_fits: 0:rules 1:classes 2:number 3:found 4:one 5:due 6:k -/
end CD
end TL

namespace TL
open PySem L2
set_option maxHeartbeats 2000000
local macro_rules | `(tactic| walk_at "sx") => `(tactic| simp only [sSeq, sNil, sSet, sFrz, frz_o, frz_sh, frz_s, sIf, sRet, sRetN, sPass, sBrk, sPar, sSub, sApp, sExpr, sAsg, sAug, sFld, sRevI, sPop, eLoc, eC, eUn, eBin, eAnd, eOr, eNot, eIf, eTup, eLst, dNil, dCons, tVal_eq, tstD_bl, tAndW, tOrW, tNotW, eFld_eq, eFldD_o, eProp, eMeth, eMeth0, eSl, pNone, pSome, sl_l,
  out_sh, out_fr, get_loc, get_sh, get_fr, getL_z, getL_o, getL_s, bound_z, bound_o, bound_s, isOwn_o, isOwn_s, pok_loc, pok_sh, pok_fr, stl_loc, stlS_sh, stlS_own, stl_sh, stl_fr, lay_fr, lay_sh, lay_loc, envOf, slotsOf, valN, ghOf, endK, resK, exMu, muN, List.cons_append, List.nil_append, List.append_nil, List.length_cons, List.length_nil, Nat.reduceAdd, Nat.reduceSub, List.replicate_succ, List.replicate_zero, List.replicate,
  List.getElem?_cons_zero, List.getElem?_cons_succ, List.getElem?_nil, List.set_cons_zero, List.set_cons_succ,
  add_ii, add_ss, add_ll, sub_ii, mul_ii, fdv_ii, fdvN_ii, mod_ii, modN_ii, pow_ii, lt_ii, le_ii, gt_ii, ge_ii, eq_ii, ne_ii, ix_li, ix_ti, neg_i, abs_i, int_i, int_b, max_ii, min_ii, len_l, len_t, list_l, list_t, rev_l, isi_int, isi_bl, isi_tup, isi_lst, isi_non, isN_i, isN_n, isN_t, isN_l, notN_i, notN_n, notN_t, notN_l, isTy,
  atI0, atI1, atI2, ixN0, ixN1, ixN2, some_inj_ex, isObj, setAt0, setAt1, setAt2, setAt3, restE, keepS, wipeE, ↓reduceIte, if_false, if_true,
  eCall, eCallP, eMake, pm, eTwo, dLit, eOwn2, eLenO, okLen, eMethP, eMakeP, isC_o, eRepL, lr1_i, lr2_i, List.filterMap_cons, List.filterMap_nil, agNil, agRo, agBo, agMu, agTm, callK, boIx, muIx, tms, argsK, upE, reown, hasBo, noTm, flatRo, noLstAll, noLst, noLsts, List.nodup_nil, List.nodup_cons, List.not_mem_nil, not_false_eq_true, Nat.zero_le, Nat.le_refl, Nat.reduceLeDiff, List.mem_cons, or_false, reduceCtorEq,
  gN, gTp, gLs, gCn, gNl, iR1, iR2, iLst, iTpl, iEnum, stab,
  e0_is, t0_is, d0_is, s0_is, i0_is, sTry, hXk_n, hXk_s, sRaise, eCallX, eCallXP, eMethX, eMakeX, ePropX, eOwn2X, callX, roA, opXv_exn, opIsX_exn, List.map_cons, List.map_nil, Nat.lt_irrefl, Nat.zero_lt_one, Nat.reduceLT, Nat.zero_lt_succ, some_inj_ex,
  true_and, and_true, eq_self, List.length_map, decide_true, decide_false, Bool.not_true, Bool.not_false, not_true_eq_false, Bool.true_eq_false, Bool.false_eq_true, false_imp_iff, forall_const, true_imp_iff, and_self, decide_eq_true_eq, decide_eq_false_iff_not, Bool.not_eq_true', Bool.not_eq_false'])
namespace CD
namespace K43
/- _law_right: 0:cards 1:modulus 2:rules 3:built 4:classes 5:kept 6:k 7:number 8:first 9:second 10:found 11:again -/
/- law: 0:script 1:k -/
end K43
end CD
end TL

namespace TL
open PySem L2
set_option maxHeartbeats 2000000
local macro_rules | `(tactic| walk_at "sx") => `(tactic| simp only [sSeq, sNil, sSet, sFrz, frz_o, frz_sh, frz_s, sIf, sRet, sRetN, sPass, sBrk, sPar, sSub, sApp, sExpr, sAsg, sAug, sFld, sRevI, sPop, eLoc, eC, eUn, eBin, eAnd, eOr, eNot, eIf, eTup, eLst, dNil, dCons, tVal_eq, tstD_bl, tAndW, tOrW, tNotW, eFld_eq, eFldD_o, eProp, eMeth, eMeth0, eSl, pNone, pSome, sl_l,
  out_sh, out_fr, get_loc, get_sh, get_fr, getL_z, getL_o, getL_s, bound_z, bound_o, bound_s, isOwn_o, isOwn_s, pok_loc, pok_sh, pok_fr, stl_loc, stlS_sh, stlS_own, stl_sh, stl_fr, lay_fr, lay_sh, lay_loc, envOf, slotsOf, valN, ghOf, endK, resK, exMu, muN, List.cons_append, List.nil_append, List.append_nil, List.length_cons, List.length_nil, Nat.reduceAdd, Nat.reduceSub, List.replicate_succ, List.replicate_zero, List.replicate,
  List.getElem?_cons_zero, List.getElem?_cons_succ, List.getElem?_nil, List.set_cons_zero, List.set_cons_succ,
  add_ii, add_ss, add_ll, sub_ii, mul_ii, fdv_ii, fdvN_ii, mod_ii, modN_ii, pow_ii, lt_ii, le_ii, gt_ii, ge_ii, eq_ii, ne_ii, ix_li, ix_ti, neg_i, abs_i, int_i, int_b, max_ii, min_ii, len_l, len_t, list_l, list_t, rev_l, isi_int, isi_bl, isi_tup, isi_lst, isi_non, isN_i, isN_n, isN_t, isN_l, notN_i, notN_n, notN_t, notN_l, isTy,
  atI0, atI1, atI2, ixN0, ixN1, ixN2, some_inj_ex, isObj, setAt0, setAt1, setAt2, setAt3, restE, keepS, wipeE, ↓reduceIte, if_false, if_true,
  eCall, eCallP, eMake, pm, eTwo, dLit, eOwn2, eLenO, okLen, eMethP, eMakeP, isC_o, eRepL, lr1_i, lr2_i, List.filterMap_cons, List.filterMap_nil, agNil, agRo, agBo, agMu, agTm, callK, boIx, muIx, tms, argsK, upE, reown, hasBo, noTm, flatRo, noLstAll, noLst, noLsts, List.nodup_nil, List.nodup_cons, List.not_mem_nil, not_false_eq_true, Nat.zero_le, Nat.le_refl, Nat.reduceLeDiff, List.mem_cons, or_false, reduceCtorEq,
  gN, gTp, gLs, gCn, gNl, iR1, iR2, iRL, iLst, iTpl, iEnum, stab,
  ite_self, isB_b, notB_b, any_l, tup_l, sExt, e0_is, t0_is, d0_is, s0_is, i0_is, sTry, hXk_n, hXk_s, sRaise, eCallX, eCallXP, eMethX, eMakeX, ePropX, eOwn2X, callX, roA, opXv_exn, opIsX_exn, List.map_cons, List.map_nil, Nat.lt_irrefl, Nat.zero_lt_one, Nat.reduceLT, Nat.zero_lt_succ, some_inj_ex,
  true_and, and_true, eq_self, List.length_map, decide_true, decide_false, Bool.not_true, Bool.not_false, not_true_eq_false, Bool.true_eq_false, Bool.false_eq_true, false_imp_iff, forall_const, true_imp_iff, and_self, decide_eq_true_eq, decide_eq_false_iff_not, Bool.not_eq_true', Bool.not_eq_false'])
/-! ### the beginning of the laws over one map: source, base, rules, chart -/
/-! ### counts -/
namespace K21
/- _law_is_count: 0:found 1:due -/
/- _law_short: 0:source 1:chart 2:base 3:rules 4:floor 5:width 6:count 7:path 8:due 9:at 10:passed -/
/- _law_long: 0:source 1:chart 2:base 3:floor 4:path 5:times 6:whole 7:part 8:first -/
/- _law_alone: 0:source 1:chart 2:base 3:rules 4:floor 5:path 6:limit 7:left 8:right -/
/- law: 0:script 1:source 2:base 3:rules 4:chart 5:k 6:size 7:floor -/
end K21
end TL

namespace TL
open PySem L2
set_option maxHeartbeats 2000000
local macro_rules | `(tactic| walk_at "sx") => `(tactic| simp only [sSeq, sNil, sSet, sFrz, frz_o, frz_sh, frz_s, sIf, sRet, sRetN, sPass, sBrk, sPar, sSub, sApp, sExpr, sAsg, sAug, sFld, sRevI, sPop, eLoc, eC, eUn, eBin, eAnd, eOr, eNot, eIf, eTup, eLst, dNil, dCons, tVal_eq, tstD_bl, tAndW, tOrW, tNotW, eFld_eq, eFldD_o, eProp, eMeth, eMeth0, eSl, pNone, pSome, sl_l,
  out_sh, out_fr, get_loc, get_sh, get_fr, getL_z, getL_o, getL_s, bound_z, bound_o, bound_s, isOwn_o, isOwn_s, pok_loc, pok_sh, pok_fr, stl_loc, stlS_sh, stlS_own, stl_sh, stl_fr, lay_fr, lay_sh, lay_loc, envOf, slotsOf, valN, ghOf, endK, resK, exMu, muN, List.cons_append, List.nil_append, List.append_nil, List.length_cons, List.length_nil, Nat.reduceAdd, Nat.reduceSub, List.replicate_succ, List.replicate_zero, List.replicate,
  List.getElem?_cons_zero, List.getElem?_cons_succ, List.getElem?_nil, List.set_cons_zero, List.set_cons_succ,
  add_ii, add_ss, add_ll, sub_ii, mul_ii, fdv_ii, fdvN_ii, mod_ii, modN_ii, pow_ii, lt_ii, le_ii, gt_ii, ge_ii, eq_ii, ne_ii, ix_li, ix_ti, neg_i, abs_i, int_i, int_b, max_ii, min_ii, len_l, len_t, list_l, list_t, rev_l, isi_int, isi_bl, isi_tup, isi_lst, isi_non, isN_i, isN_n, isN_t, isN_l, notN_i, notN_n, notN_t, notN_l, isTy,
  atI0, atI1, atI2, ixN0, ixN1, ixN2, some_inj_ex, isObj, setAt0, setAt1, setAt2, setAt3, restE, keepS, wipeE, ↓reduceIte, if_false, if_true,
  eCall, eCallP, eMake, pm, eTwo, dLit, eOwn2, eLenO, okLen, eMethP, eMakeP, isC_o, eRepL, lr1_i, lr2_i, List.filterMap_cons, List.filterMap_nil, agNil, agRo, agBo, agMu, agTm, callK, boIx, muIx, tms, argsK, upE, reown, hasBo, noTm, flatRo, noLstAll, noLst, noLsts, List.nodup_nil, List.nodup_cons, List.not_mem_nil, not_false_eq_true, Nat.zero_le, Nat.le_refl, Nat.reduceLeDiff, List.mem_cons, or_false, reduceCtorEq,
  gN, gTp, gLs, gCn, gNl, iR1, iR2, iRL, iLst, iTpl, iEnum, stab,
  ite_self, isB_b, notB_b, any_l, tup_l, sExt, e0_is, t0_is, d0_is, s0_is, i0_is, sTry, hXk_n, hXk_s, sRaise, eCallX, eCallXP, eMethX, eMakeX, ePropX, eOwn2X, callX, roA, opXv_exn, opIsX_exn, List.map_cons, List.map_nil, Nat.lt_irrefl, Nat.zero_lt_one, Nat.reduceLT, Nat.zero_lt_succ, some_inj_ex,
  true_and, and_true, eq_self, List.length_map, decide_true, decide_false, Bool.not_true, Bool.not_false, not_true_eq_false, Bool.true_eq_false, Bool.false_eq_true, false_imp_iff, forall_const, true_imp_iff, and_self, decide_eq_true_eq, decide_eq_false_iff_not, Bool.not_eq_true', Bool.not_eq_false'])
/-! ### all words of a length -/
def allW (m : Nat) : Nat → List (List Int)
  | 0 => [[]]
  | n + 1 => (allW m n).flatMap fun p => (List.range m).map fun s : Nat => p ++ [(s : Int)]
theorem allW_mem {m : Nat} : ∀ {n : Nat} {p : List Int}, p ∈ allW m n ↔ p.length = n ∧ Wd m p
  | 0, p => by
    show p ∈ [[]] ↔ _
    rw [List.mem_singleton]
    constructor
    · rintro rfl; exact ⟨rfl, fun e he => by simp at he⟩
    · rintro ⟨h, _⟩; exact List.length_eq_zero_iff.mp h
  | n + 1, p => by
    show p ∈ (allW m n).flatMap _ ↔ _
    rw [List.mem_flatMap]
    constructor
    · rintro ⟨q, hq, hp⟩
      obtain ⟨s, hs, rfl⟩ := List.mem_map.mp hp
      obtain ⟨h1, h2⟩ := allW_mem.mp hq
      have hs := List.mem_range.mp hs
      refine ⟨by simp [h1], fun e he => ?_⟩
      rcases List.mem_append.mp he with h | h
      · exact h2 e h
      · rw [List.mem_singleton.mp h]; omega
    · rintro ⟨h1, h2⟩
      have hne : p ≠ [] := by rintro rfl; simp at h1
      have e := List.dropLast_concat_getLast hne
      have hl := h2 _ (List.getLast_mem hne)
      refine ⟨p.dropLast, allW_mem.mpr ⟨by rw [List.length_dropLast]; omega, fun e he => h2 e (List.dropLast_subset p he)⟩, List.mem_map.mpr ⟨(p.getLast hne).toNat, List.mem_range.mpr (by omega), ?_⟩⟩
      rw [Int.toNat_of_nonneg hl.1]
      exact e
theorem allW_len (m : Nat) : ∀ n, (allW m n).length = m ^ n
  | 0 => rfl
  | n + 1 => by
    show ((allW m n).flatMap _).length = _
    rw [List.length_flatMap]
    simp only [List.length_map, List.length_range]
    rw [List.map_const', List.sum_replicate_nat, allW_len m n, Nat.pow_succ]
theorem allW_nodup (m : Nat) : ∀ n, (allW m n).Nodup
  | 0 => by show ([[]] : List (List Int)).Nodup; simp
  | n + 1 => by
    show ((allW m n).flatMap _).Nodup
    refine List.pairwise_flatMap.mpr ⟨fun p _ => ?_, ?_⟩
    · rw [List.pairwise_map]
      refine List.Pairwise.imp ?_ (List.nodup_range (n := m))
      intro a b hab h
      have := (List.append_inj' h rfl).2
      simp at this
      exact hab (by omega)
    · refine List.Pairwise.imp ?_ (allW_nodup m n)
      intro p q hpq x hx y hy h
      obtain ⟨s, _, rfl⟩ := List.mem_map.mp hx
      obtain ⟨t, _, rfl⟩ := List.mem_map.mp hy
      exact hpq (List.append_inj' h rfl).1
/-! ### sums of counts -/
abbrev encWs (ps : List (List Int)) : D := .lst (ps.map encZs)
namespace K86
def sp_law_steps : FSpec := fun args kr _ => ∃ (x y z N : Int) (base : Nat), args = [.mu (src x y z), .ro (.int base)] ∧ 2 ≤ base ∧ base ≤ 60 ∧ 0 ≤ z ∧ z ≤ N ∧ N ≤ 1000000 ∧ ∀ (n : Nat) x' z', n ≤ 9 → (base : Int) ^ n ≤ 512 → 0 ≤ z' → z' ≤ N + 2 → kr (.sh (.int n)) [src x' y z']
/- _law_steps: 0:source 1:base 2:limit 3:most 4:scale 5:turn -/
def b_law_steps : SW := (sSeq (sFrz 2 (sSet 2 (eBin opIx (eLst (dLit [(.int 64), (.int 512)] dNil)) (eUn opInt (eBin opEq (eCall 2 sp_law_take (agMu 0 (agRo (eC (.int 8)) agNil))) (eC (.int 7)))))))
  (sSeq (sSet 3 (eC (.int 0)))
  (sSeq (sSet 4 (eLoc 1))
  (sSeq (sFor (iR1 (dCons (eC (.int 9)) dNil)) (gN 5) (sIf (tVal (eBin opLe (eLoc 4) (eLoc 2))) (sSeq (sFrz 3 (sSet 3 (eBin opAdd (eLoc 3) (eC (.int 1)))))
  (sFrz 4 (sSet 4 (eBin opMul (eLoc 4) (eLoc 1))))) sNil))
  (sRet (eCall 2 sp_law_take (agMu 0 (agRo (eBin opAdd (eLoc 3) (eC (.int 1))) agNil))))))))
/- _law_all: 0:base 1:count 2:paths 3:turn 4:longer 5:path 6:spot -/
/- _law_right: 0:source 1:chart 2:base 3:paths 4:count 5:size 6:floor 7:roof 8:start 9:path 10:found -/
theorem powM {m : Int} (hm : 1 ≤ m) {a b : Nat} (h : a ≤ b) : m ^ a ≤ m ^ b := by
  obtain ⟨c, rfl⟩ := Nat.exists_eq_add_of_le h
  rw [Int.pow_add]
  have : m ^ a * 1 ≤ m ^ a * m ^ c := Int.mul_le_mul_of_nonneg_left (Int.pow_pos (by omega)) (Int.le_of_lt (Int.pow_pos (by omega)))
  omega
theorem two2 {t a b : Int} (h : t = 0 ∨ t = 1) : ∃ l : Int, (l = a ∨ l = b) ∧ L2.atI [D.int a, D.int b] t = some (.int l) := by
  rcases h with rfl | rfl
  · exact ⟨a, .inl rfl, rfl⟩
  · exact ⟨b, .inr rfl, rfl⟩
theorem sat_law_steps : Sat 6 sp_law_steps b_law_steps := by
  rintro args mus kr kx hm ⟨x, y, z, N, m, rfl, hm2, hm6, hz0, hzN, hN, hk⟩
  obtain ⟨a, rfl⟩ := mus1 hm
  unfold b_law_steps
  unfold sFor
  walk_at "sx"
  refine ⟨x, y, z, 8, N, rfl, by omega, by unfold Bt; decide, hz0, hzN, by omega, fun t x z ht0 ht1 hz0 hzN => ?_⟩
  walk_at "sx"
  obtain ⟨lim, hlim, es⟩ := two2 (a := 64) (b := 512) (t := if t = 7 then 1 else 0) (by split <;> omega)
  refine ⟨_, es, ?_⟩
  refine ⟨by omega, fun i ρ => ∃ (g : Nat) (e5 : Sl), ρ = [.own true a (src x y z), .sh (.int m), .sh (.int lim), .sh (.int g), .sh (.int ((m : Int) ^ (g + 1))), e5] ∧ g ≤ i ∧ (m : Int) ^ g ≤ lim, ⟨0, .no, by rw [Int.pow_succ, Int.pow_zero, Int.one_mul]; rfl, by omega, by simp; omega⟩, fun _ _ _ _ => trivial, ?_, ?_⟩
  · rintro i d ρ hi rfl ⟨g, e5, rfl, hg, hp⟩
    have hi : i < 9 := by simpa using hi
    walk_at "sx"
    refine ⟨fun h => ?_, fun h => ⟨g, _, rfl, by omega, hp⟩⟩
    refine ⟨((pow_bt (b := m) (by omega) (g + 1)).mono (show _ ≤ 1000 by omega)).mulOk (Bt.small (x := (m : Int)) (by omega) (by omega)) (by omega), g + 1, .sh (.int i), ?_, by omega, h⟩
    rw [Int.pow_succ (m : Int) (g + 1)]
    rfl
  · rintro ρ ⟨g, e5, rfl, hg, hp⟩
    have hg : g ≤ 9 := by simpa using hg
    walk_at "sx"
    refine ⟨x, y, z, _, N + 1, rfl, by omega, (Bt.small (by omega) (by omega)).mono (by omega), hz0, hzN, by omega, fun t x z ht0 ht hz0 hzN => ?_⟩
    walk_at "sx"
    obtain ⟨n, rfl⟩ := Int.eq_ofNat_of_zero_le ht0
    exact hk n x z (by omega) (Int.le_trans (Int.le_trans (powM (by omega) (by omega)) hp) (by omega)) hz0 (by omega)
/- law: 0:script 1:source 2:base 3:rules 4:chart 5:short 6:paths 7:k 8:count 9:path -/
end K86
end TL

namespace TL
open PySem L2
set_option maxHeartbeats 2000000
local macro_rules | `(tactic| walk_at "sx") => `(tactic| try simp only [sSeq, sNil, sSet, sFrz, frz_o, frz_sh, frz_s, sIf, sRet, sRetN, sPass, sBrk, sPar, sSub, sApp, sExpr, sAsg, sAug, sFld, sRevI, sPop, eLoc, eC, eUn, eBin, eAnd, eOr, eNot, eIf, eTup, eLst, dNil, dCons, tVal_eq, tstD_bl, tAndW, tOrW, tNotW, eFld_eq, eFldD_o, eProp, eMeth, eMeth0, eSl, pNone, pSome, sl_l,
  out_sh, out_fr, get_loc, get_sh, get_fr, getL_z, getL_o, getL_s, bound_z, bound_o, bound_s, isOwn_o, isOwn_s, pok_loc, pok_sh, pok_fr, stl_loc, stlS_sh, stlS_own, stl_sh, stl_fr, lay_fr, lay_sh, lay_loc, envOf, slotsOf, valN, ghOf, endK, resK, exMu, muN, List.cons_append, List.nil_append, List.append_nil, List.length_cons, List.length_nil, Nat.reduceAdd, Nat.reduceSub, List.replicate_succ, List.replicate_zero, List.replicate,
  List.getElem?_cons_zero, List.getElem?_cons_succ, List.getElem?_nil, List.set_cons_zero, List.set_cons_succ,
  add_ii, add_ss, add_ll, sub_ii, mul_ii, fdv_ii, fdvN_ii, mod_ii, modN_ii, pow_ii, lt_ii, le_ii, gt_ii, ge_ii, eq_ii, ne_ii, ix_li, ix_ti, neg_i, abs_i, int_i, int_b, max_ii, min_ii, len_l, len_t, list_l, list_t, rev_l, isi_int, isi_bl, isi_tup, isi_lst, isi_non, isN_i, isN_n, isN_t, isN_l, notN_i, notN_n, notN_t, notN_l, isTy,
  atI0, atI1, atI2, ixN0, ixN1, ixN2, some_inj_ex, isObj, setAt0, setAt1, setAt2, setAt3, restE, keepS, wipeE, ↓reduceIte, if_false, if_true,
  eCall, eCallP, eMake, pm, eTwo, dLit, eOwn2, eLenO, okLen, eMethP, eMakeP, isC_o, eRepL, lr1_i, lr2_i, List.filterMap_cons, List.filterMap_nil, agNil, agRo, agBo, agMu, agTm, callK, boIx, muIx, tms, argsK, upE, reown, hasBo, noTm, flatRo, noLstAll, noLst, noLsts, List.nodup_nil, List.nodup_cons, List.not_mem_nil, not_false_eq_true, Nat.zero_le, Nat.le_refl, Nat.reduceLeDiff, List.mem_cons, or_false, reduceCtorEq,
  gN, gTp, gLs, gCn, gNl, iR1, iR2, iRL, iLst, iTpl, iEnum, stab,
  ite_self, str_i, fmt_i, fmt_s, isB_b, notB_b, any_l, tup_l, sExt, e0_is, t0_is, d0_is, s0_is, i0_is, sTry, hXk_n, hXk_s, sRaise, eCallX, eCallXP, eMethX, eMakeX, ePropX, eOwn2X, callX, roA, opXv_exn, opIsX_exn, List.map_cons, List.map_nil, Nat.lt_irrefl, Nat.zero_lt_one, Nat.reduceLT, Nat.zero_lt_succ, some_inj_ex,
  true_and, and_true, eq_self, List.length_map, decide_true, decide_false, Bool.not_true, Bool.not_false, not_true_eq_false, Bool.true_eq_false, Bool.false_eq_true, false_imp_iff, forall_const, true_imp_iff, and_self, decide_eq_true_eq, decide_eq_false_iff_not, Bool.not_eq_true', Bool.not_eq_false'])
namespace K17
/- first_integer: 0:rule_map 1:number 2:steps 3:modulus 4:rules 5:at -/
/- _law_is_integer: 0:value -/
/- _law_behind: 0:base 1:rules 2:value 3:spot 4:a 5:b 6:top 7:bottom 8:common -/
/- _law_start: 0:source 1:base 2:rules 3:value 4:turn 5:farther -/
/- _law_right: 0:chart 1:value 2:bottoms 3:most 4:due 5:limit 6:found -/
/- law: 0:script 1:source 2:base 3:rules 4:chart 5:k 6:value 7:places 8:place -/
end K17
end TL

namespace TL
open PySem L2
set_option maxHeartbeats 2000000
local macro_rules | `(tactic| walk_at "sx") => `(tactic| try simp only [sSeq, sNil, sSet, sFrz, frz_o, frz_sh, frz_s, sIf, sRet, sRetN, sPass, sBrk, sPar, sSub, sApp, sExpr, sAsg, sAug, sFld, sRevI, sPop, eLoc, eC, eUn, eBin, eAnd, eOr, eNot, eIf, eTup, eLst, dNil, dCons, tVal_eq, tstD_bl, tAndW, tOrW, tNotW, eFld_eq, eFldD_o, eProp, eMeth, eMeth0, eSl, pNone, pSome, sl_l,
  out_sh, out_fr, get_loc, get_sh, get_fr, getL_z, getL_o, getL_s, bound_z, bound_o, bound_s, isOwn_o, isOwn_s, pok_loc, pok_sh, pok_fr, stl_loc, stlS_sh, stlS_own, stl_sh, stl_fr, lay_fr, lay_sh, lay_loc, envOf, slotsOf, valN, ghOf, endK, resK, exMu, muN, List.cons_append, List.nil_append, List.append_nil, List.length_cons, List.length_nil, Nat.reduceAdd, Nat.reduceSub, List.replicate_succ, List.replicate_zero, List.replicate,
  List.getElem?_cons_zero, List.getElem?_cons_succ, List.getElem?_nil, List.set_cons_zero, List.set_cons_succ,
  add_ii, add_ss, add_ll, sub_ii, mul_ii, fdv_ii, fdvN_ii, mod_ii, modN_ii, pow_ii, lt_ii, le_ii, gt_ii, ge_ii, eq_ii, ne_ii, ix_li, ix_ti, neg_i, abs_i, int_i, int_b, max_ii, min_ii, len_l, len_t, list_l, list_t, rev_l, isi_int, isi_bl, isi_tup, isi_lst, isi_non, isN_i, isN_n, isN_t, isN_l, notN_i, notN_n, notN_t, notN_l, isTy,
  atI0, atI1, atI2, ixN0, ixN1, ixN2, some_inj_ex, isObj, setAt0, setAt1, setAt2, setAt3, restE, keepS, wipeE, ↓reduceIte, if_false, if_true,
  eCall, eCallP, eMake, pm, eTwo, dLit, eOwn2, eLenO, okLen, eMethP, eMakeP, isC_o, eRepL, lr1_i, lr2_i, List.filterMap_cons, List.filterMap_nil, agNil, agRo, agBo, agMu, agTm, callK, boIx, muIx, tms, argsK, upE, reown, hasBo, noTm, flatRo, noLstAll, noLst, noLsts, List.nodup_nil, List.nodup_cons, List.not_mem_nil, not_false_eq_true, Nat.zero_le, Nat.le_refl, Nat.reduceLeDiff, List.mem_cons, or_false, reduceCtorEq,
  gN, gTp, gLs, gCn, gNl, iR1, iR2, iRL, iLst, iTpl, iEnum, stab,
  ite_self, str_i, fmt_i, fmt_s, isB_b, notB_b, any_l, tup_l, sExt, e0_is, t0_is, d0_is, s0_is, i0_is, sTry, hXk_n, hXk_s, sRaise, eCallX, eCallXP, eMethX, eMakeX, ePropX, eOwn2X, callX, roA, opXv_exn, opIsX_exn, List.map_cons, List.map_nil, Nat.lt_irrefl, Nat.zero_lt_one, Nat.reduceLT, Nat.zero_lt_succ, some_inj_ex,
  true_and, and_true, eq_self, List.length_map, decide_true, decide_false, Bool.not_true, Bool.not_false, not_true_eq_false, Bool.true_eq_false, Bool.false_eq_true, false_imp_iff, forall_const, true_imp_iff, and_self, decide_eq_true_eq, decide_eq_false_iff_not, Bool.not_eq_true', Bool.not_eq_false'])
namespace CD
namespace K46
theorem low_uniq {p : Int × Int} (h1 : 1 ≤ p.2) (hg : Int.gcd p.1 p.2 = 1) {t b : Int} (hb : 1 ≤ b) (h : p.1 * b = t * p.2) : low t b = p := by
  have d : p.2 ∣ b := dvd_of_gcd hg ⟨t, by rw [Int.mul_comm b, h, Int.mul_comm]⟩
  obtain ⟨k, hk⟩ := d
  have hk0 : 0 < k := by
    rcases Int.lt_or_le 0 k with h | h
    · exact h
    · have : p.2 * k ≤ p.2 * 0 := Int.mul_le_mul_of_nonneg_left h (by omega)
      omega
  have ht : t = p.1 * k := by
    have : t * p.2 = (p.1 * k) * p.2 := by rw [← h, hk]; grind
    exact Int.eq_of_mul_eq_mul_right (by omega) this
  rw [ht, hk, low_mul hk0 h1, low_self hg]
variable {base : Nat} {rs : List (Int × Int)} {p : Int × Int}
theorem walkF_u (h : MapOk rs) (hg : Good rs.length p) (n : Nat) : walkF rs n p = low (uWalk rs p.2 p.1 n) p.2 := by
  have := walkF_low h (u := p.1) hg.1 hg.2.2 n
  rwa [low_self hg.2.1] at this
theorem wordF_u (h : MapOk rs) (hg : Good rs.length p) (n : Nat) : wordF rs p n = uWord rs p.2 p.1 n := by
  have := wordF_low h (u := p.1) hg.1 hg.2.2 n
  rwa [low_self hg.2.1] at this
theorem wd_word {rs : List (Int × Int)} (h : MapOk rs) {p : Int × Int} (hg : Good rs.length p) (n : Nat) : Wd rs.length (wordF rs p n) := by
  intro e he
  unfold wordF at he
  obtain ⟨i, _, rfl⟩ := List.mem_map.mp he
  obtain ⟨a, b, _⟩ := remF_spec (t := (walkF rs i p).1) h.pos (walkF_good hg i).2.2
  exact ⟨a, b⟩
/-- from what back leads to, the word leads to where it began -/
theorem walk_back (hr : RulesOk base rs) (h2 : 2 ≤ base) (h6 : base ≤ 60) (hg : Good rs.length p) {ws : List Int} (hw : Wd rs.length ws) : walkF rs ws.length (backW rs p ws) = p ∧ wordF rs (backW rs p ws) ws.length = ws := by
  have h := hr.map h2 (by omega)
  obtain ⟨g, uw, us⟩ := backW_spec hr h2 h6 hg hw
  rw [wordF_u h g, walkF_u h g]
  refine ⟨low_uniq hg.1 hg.2.1 g.1 us.symm, uw⟩
/-! ### the functions -/
/- back_by: 0:rule_map 1:number 2:word 3:a 4:b 5:whole 6:top 7:bottom -/
/- numbers_before: 0:rule_map 1:number 2:steps 3:found 4:step 5:earlier 6:one -/
/- _law_integers: 0:built 1:number 2:firsts 3:seconds 4:one 5:pair -/
/- _law_right: 0:cards 1:modulus 2:built 3:number 4:count 5:one 6:two 7:found 8:start 9:there -/
/- law: 0:script 1:k -/
end K46
end CD
end TL

namespace TL
open PySem L2
set_option maxHeartbeats 2000000
local macro_rules | `(tactic| walk_at "sx") => `(tactic| try simp only [sSeq, sNil, sSet, sFrz, frz_o, frz_sh, frz_s, sIf, sRet, sRetN, sPass, sBrk, sPar, sSub, sApp, sExpr, sAsg, sAug, sFld, sRevI, sPop, eLoc, eC, eUn, eBin, eAnd, eOr, eNot, eIf, eTup, eLst, dNil, dCons, tVal_eq, tstD_bl, tAndW, tOrW, tNotW, eFld_eq, eFldD_o, eProp, eMeth, eMeth0, eSl, pNone, pSome, sl_l,
  out_sh, out_fr, get_loc, get_sh, get_fr, getL_z, getL_o, getL_s, bound_z, bound_o, bound_s, isOwn_o, isOwn_s, pok_loc, pok_sh, pok_fr, stl_loc, stlS_sh, stlS_own, stl_sh, stl_fr, lay_fr, lay_sh, lay_loc, envOf, slotsOf, valN, ghOf, endK, resK, exMu, muN, List.cons_append, List.nil_append, List.append_nil, List.length_cons, List.length_nil, Nat.reduceAdd, Nat.reduceSub, List.replicate_succ, List.replicate_zero, List.replicate,
  List.getElem?_cons_zero, List.getElem?_cons_succ, List.getElem?_nil, List.set_cons_zero, List.set_cons_succ,
  add_ii, add_ss, add_ll, sub_ii, mul_ii, fdv_ii, fdvN_ii, mod_ii, modN_ii, pow_ii, lt_ii, le_ii, gt_ii, ge_ii, eq_ii, ne_ii, ix_li, ix_ti, neg_i, abs_i, int_i, int_b, max_ii, min_ii, len_l, len_t, list_l, list_t, rev_l, isi_int, isi_bl, isi_tup, isi_lst, isi_non, isN_i, isN_n, isN_t, isN_l, notN_i, notN_n, notN_t, notN_l, isTy,
  atI0, atI1, atI2, ixN0, ixN1, ixN2, some_inj_ex, isObj, setAt0, setAt1, setAt2, setAt3, restE, keepS, wipeE, ↓reduceIte, if_false, if_true,
  eCall, eCallP, eMake, pm, eTwo, dLit, eOwn2, eLenO, okLen, eMethP, eMakeP, isC_o, eRepL, lr1_i, lr2_i, List.filterMap_cons, List.filterMap_nil, agNil, agRo, agBo, agMu, agTm, callK, boIx, muIx, tms, argsK, upE, reown, hasBo, noTm, flatRo, noLstAll, noLst, noLsts, List.nodup_nil, List.nodup_cons, List.not_mem_nil, not_false_eq_true, Nat.zero_le, Nat.le_refl, Nat.reduceLeDiff, List.mem_cons, or_false, reduceCtorEq,
  gN, gTp, gLs, gCn, gNl, iR1, iR2, iRL, iLst, iTpl, iEnum, stab,
  ite_self, str_i, fmt_i, fmt_s, isB_b, notB_b, any_l, tup_l, sExt, e0_is, t0_is, d0_is, s0_is, i0_is, sTry, hXk_n, hXk_s, sRaise, eCallX, eCallXP, eMethX, eMakeX, ePropX, eOwn2X, callX, roA, opXv_exn, opIsX_exn, List.map_cons, List.map_nil, Nat.lt_irrefl, Nat.zero_lt_one, Nat.reduceLT, Nat.zero_lt_succ, some_inj_ex,
  true_and, and_true, eq_self, List.length_map, decide_true, decide_false, Bool.not_true, Bool.not_false, not_true_eq_false, Bool.true_eq_false, Bool.false_eq_true, false_imp_iff, forall_const, true_imp_iff, and_self, decide_eq_true_eq, decide_eq_false_iff_not, Bool.not_eq_true', Bool.not_eq_false'])
/-! ### the fraction that comes round by a word -/
def lowS (t b : Int) : Int × Int := if b < 0 then low (-t) (-b) else low t b
def ringP (rs : List (Int × Int)) (ws : List Int) : Int × Int := lowS (formF rs ws).2.1 ((formF rs ws).2.2 - (formF rs ws).1)
theorem low_cross {t b : Int} (h : 1 ≤ b) : (low t b).1 * b = t * (low t b).2 := by
  obtain ⟨k, hk, e1, e2⟩ := low_gcd (u := t) h
  have a1 : (low t b).1 * b = (low t b).1 * ((low t b).2 * k) := by rw [← e2]
  have a2 : t * (low t b).2 = ((low t b).1 * k) * (low t b).2 := by rw [← e1]
  rw [a1, a2]; grind
theorem low_cop {t b m : Int} (h1 : 1 ≤ b) (hg : Int.gcd b m = 1) : Good m (low t b) :=
  ⟨(gcd_div (a := t) h1).1, (gcd_div (a := t) h1).2, gcd_of_dvd (Int.ediv_dvd_of_dvd (Int.gcd_dvd_right _ _)) hg⟩
theorem lowS_spec {t b m : Int} (h0 : b ≠ 0) (hg : Int.gcd b m = 1) : Good m (lowS t b) ∧ (lowS t b).1 * b = t * (lowS t b).2 := by
  unfold lowS
  split
  · have hg2 : Int.gcd (-b) m = 1 := by rw [Int.gcd_comm, Int.gcd_neg, Int.gcd_comm]; exact hg
    have h := low_cross (t := -t) (b := -b) (by omega)
    refine ⟨low_cop (by omega) hg2, ?_⟩
    rw [Int.mul_neg, Int.neg_mul] at h
    omega
  · exact ⟨low_cop (by omega) hg, low_cross (by omega)⟩
theorem gcd_sub_scale {rs : List (Int × Int)} (h : MapOk rs) {ws : List Int} (hw : Wd rs.length ws) (h1 : 1 ≤ ws.length) : Int.gcd ((formF rs ws).2.2 - (formF rs ws).1) rs.length = 1 := by
  have g := form_gcd h hw
  have e : ((rs.length : Nat) : Int) ∣ (formF rs ws).2.2 := by
    rw [formF_scale]
    obtain ⟨k, hk⟩ : ∃ k, ws.length = k + 1 := ⟨ws.length - 1, by omega⟩
    rw [hk, Int.pow_succ]
    exact Int.dvd_mul_left _ _
  obtain ⟨c, hc⟩ := e
  rw [hc, show (rs.length : Int) * c - (formF rs ws).1 = -(formF rs ws).1 + rs.length * c by omega]
  first | rw [Int.gcd_add_mul_left_left] | rw [Int.gcd_add_mul_self_left] | rw [Int.gcd_add_left_mul_self] | rw [Int.gcd_add_mul_left_right]
  rw [Int.gcd_comm, Int.gcd_neg, Int.gcd_comm]
  exact g
theorem ne_scale {rs : List (Int × Int)} (h : MapOk rs) {ws : List Int} (hw : Wd rs.length ws) (h1 : 1 ≤ ws.length) : (formF rs ws).2.2 - (formF rs ws).1 ≠ 0 := by
  intro z
  have g := gcd_sub_scale h hw h1
  rw [z] at g
  have := h.two
  simp at g
  omega
theorem ringP_spec {rs : List (Int × Int)} (h : MapOk rs) {ws : List Int} (hw : Wd rs.length ws) (h1 : 1 ≤ ws.length) :
    Good rs.length (ringP rs ws) ∧ (formF rs ws).1 * (ringP rs ws).1 + (formF rs ws).2.1 * (ringP rs ws).2 = (formF rs ws).2.2 * (ringP rs ws).1 ∧ uWord rs (ringP rs ws).2 (ringP rs ws).1 ws.length = ws ∧ uWalk rs (ringP rs ws).2 (ringP rs ws).1 ws.length = (ringP rs ws).1 := by
  obtain ⟨g, c⟩ := lowS_spec (t := (formF rs ws).2.1) (ne_scale h hw h1) (gcd_sub_scale h hw h1)
  have g : Good rs.length (ringP rs ws) := g
  have c : (ringP rs ws).1 * ((formF rs ws).2.2 - (formF rs ws).1) = (formF rs ws).2.1 * (ringP rs ws).2 := c
  have e : (formF rs ws).1 * (ringP rs ws).1 + (formF rs ws).2.1 * (ringP rs ws).2 = (formF rs ws).2.2 * (ringP rs ws).1 := by rw [← c]; grind
  have uw := (form_iffU h g.2.2 (ringP rs ws).1 hw).mpr (by rw [e]; exact Int.dvd_mul_right _ _)
  refine ⟨g, e, uw, ?_⟩
  have fw := form_walkU h g.2.2 (ringP rs ws).1 ws.length
  rw [uw, e] at fw
  have hs : 0 < (formF rs ws).2.2 := by rw [formF_scale]; exact Int.pow_pos h.pos
  exact (Int.eq_of_mul_eq_mul_left (by omega) fw).symm
/- check_again: 0:modulus 1:word -/
/- ring_of: 0:rule_map 1:word 2:modulus 3:rules 4:a 5:b 6:scale 7:top 8:bottom 9:ring 10:entry -/
end TL

namespace TL
open PySem L2
set_option maxHeartbeats 2000000
local macro_rules | `(tactic| walk_at "sx") => `(tactic| try simp only [sSeq, sNil, sSet, sFrz, frz_o, frz_sh, frz_s, sIf, sRet, sRetN, sPass, sBrk, sPar, sSub, sApp, sExpr, sAsg, sAug, sFld, sRevI, sPop, eLoc, eC, eUn, eBin, eAnd, eOr, eNot, eIf, eTup, eLst, dNil, dCons, tVal_eq, tstD_bl, tAndW, tOrW, tNotW, eFld_eq, eFldD_o, eProp, eMeth, eMeth0, eSl, pNone, pSome, sl_l,
  out_sh, out_fr, get_loc, get_sh, get_fr, getL_z, getL_o, getL_s, bound_z, bound_o, bound_s, isOwn_o, isOwn_s, pok_loc, pok_sh, pok_fr, stl_loc, stlS_sh, stlS_own, stl_sh, stl_fr, lay_fr, lay_sh, lay_loc, envOf, slotsOf, valN, ghOf, endK, resK, exMu, muN, List.cons_append, List.nil_append, List.append_nil, List.length_cons, List.length_nil, Nat.reduceAdd, Nat.reduceSub, List.replicate_succ, List.replicate_zero, List.replicate,
  List.getElem?_cons_zero, List.getElem?_cons_succ, List.getElem?_nil, List.set_cons_zero, List.set_cons_succ,
  add_ii, add_ss, add_ll, sub_ii, mul_ii, fdv_ii, fdvN_ii, mod_ii, modN_ii, pow_ii, lt_ii, le_ii, gt_ii, ge_ii, eq_ii, ne_ii, ix_li, ix_ti, neg_i, abs_i, int_i, int_b, max_ii, min_ii, len_l, len_t, list_l, list_t, rev_l, isi_int, isi_bl, isi_tup, isi_lst, isi_non, isN_i, isN_n, isN_t, isN_l, notN_i, notN_n, notN_t, notN_l, isTy,
  atI0, atI1, atI2, ixN0, ixN1, ixN2, some_inj_ex, isObj, setAt0, setAt1, setAt2, setAt3, restE, keepS, wipeE, ↓reduceIte, if_false, if_true,
  eCall, eCallP, eMake, pm, eTwo, dLit, eOwn2, eLenO, okLen, eMethP, eMakeP, isC_o, eRepL, lr1_i, lr2_i, List.filterMap_cons, List.filterMap_nil, agNil, agRo, agBo, agMu, agTm, callK, boIx, muIx, tms, argsK, upE, reown, hasBo, noTm, flatRo, noLstAll, noLst, noLsts, List.nodup_nil, List.nodup_cons, List.not_mem_nil, not_false_eq_true, Nat.zero_le, Nat.le_refl, Nat.reduceLeDiff, List.mem_cons, or_false, reduceCtorEq,
  gN, gTp, gLs, gCn, gNl, iR1, iR2, iRL, iLst, iTpl, iEnum, stab,
  ite_self, str_i, fmt_i, fmt_s, isB_b, notB_b, any_l, tup_l, sExt, e0_is, t0_is, d0_is, s0_is, i0_is, sTry, hXk_n, hXk_s, sRaise, eCallX, eCallXP, eMethX, eMakeX, ePropX, eOwn2X, callX, roA, opXv_exn, opIsX_exn, List.map_cons, List.map_nil, Nat.lt_irrefl, Nat.zero_lt_one, Nat.reduceLT, Nat.zero_lt_succ, some_inj_ex,
  true_and, and_true, eq_self, List.length_map, decide_true, decide_false, Bool.not_true, Bool.not_false, not_true_eq_false, Bool.true_eq_false, Bool.false_eq_true, false_imp_iff, forall_const, true_imp_iff, and_self, decide_eq_true_eq, decide_eq_false_iff_not, Bool.not_eq_true', Bool.not_eq_false'])
/-! ### the places of a ring are in lowest terms -/
theorem walkF_dvd (rs : List (Int × Int)) (p : Int × Int) (m : Nat) : ∀ n, (walkF rs (m + n) p).2 ∣ (walkF rs m p).2
  | 0 => Int.dvd_refl _
  | n + 1 => by
    refine Int.dvd_trans ?_ (walkF_dvd rs p m n)
    show (stepF rs (walkF rs (m + n) p)).2 ∣ _
    exact Int.ediv_dvd_of_dvd (Int.gcd_dvd_right _ _)
theorem ring_place {rs : List (Int × Int)} (h : MapOk rs) {ws : List Int} (hw : Wd rs.length ws) (h1 : 1 ≤ ws.length) {i : Nat} (hi : i ≤ ws.length) : walkF rs i (ringP rs ws) = (uWalk rs (ringP rs ws).2 (ringP rs ws).1 i, (ringP rs ws).2) := by
  obtain ⟨g, _, _, ur⟩ := ringP_spec h hw h1
  have wl : ∀ n, walkF rs n (ringP rs ws) = low (uWalk rs (ringP rs ws).2 (ringP rs ws).1 n) (ringP rs ws).2 := fun n => by
    have := walkF_low h (u := (ringP rs ws).1) g.1 g.2.2 n
    rwa [low_self g.2.1] at this
  have wn : walkF rs ws.length (ringP rs ws) = ringP rs ws := by rw [wl, ur, low_self g.2.1]
  have d1 : (walkF rs i (ringP rs ws)).2 ∣ (ringP rs ws).2 := by
    have := walkF_dvd rs (ringP rs ws) 0 i
    rw [Nat.zero_add] at this
    exact this
  have d2 : (ringP rs ws).2 ∣ (walkF rs i (ringP rs ws)).2 := by
    have := walkF_dvd rs (ringP rs ws) i (ws.length - i)
    rw [show i + (ws.length - i) = ws.length by omega, wn] at this
    exact this
  have e2 : (walkF rs i (ringP rs ws)).2 = (ringP rs ws).2 := by
    have a : 1 ≤ (walkF rs i (ringP rs ws)).2 := (walkF_good g i).1
    exact Int.dvd_antisymm (by omega) (by have := g.1; omega) d1 d2
  have gp := g.1
  have key := wl i
  generalize ringP rs ws = p at *
  obtain ⟨k, hk, e3, e4⟩ := low_gcd (u := uWalk rs p.2 p.1 i) gp
  rw [← key, e2] at e4
  have k1 : k = 1 := by
    have : p.2 * k = p.2 * 1 := by rw [← e4, Int.mul_one]
    exact Int.eq_of_mul_eq_mul_left (by omega) this
  rw [k1, Int.mul_one, ← key] at e3
  rw [e3]
  exact Prod.ext rfl e2
theorem ring_round {rs : List (Int × Int)} (h : MapOk rs) {ws : List Int} (hw : Wd rs.length ws) (h1 : 1 ≤ ws.length) : walkF rs ws.length (ringP rs ws) = ringP rs ws := by
  rw [ring_place h hw h1 (Nat.le_refl _), (ringP_spec h hw h1).2.2.2]
/- is_whole_ring: 0:rule_map 1:word 2:a 3:b 4:scale -/
namespace K28
/- _law_closing: 0:source 1:base 2:rules 3:left 4:some 5:turn 6:spot 7:closed 8:k -/
/- _law_right: 0:chart 1:base 2:rules 3:path 4:passed 5:found 6:k 7:top 8:bottom 9:whole 10:kept 11:place -/
/- law: 0:script 1:source 2:base 3:rules 4:some 5:chart 6:k 7:path 8:entry -/
section
variable {kx : Nat → D → Prop} {K : SK} {ns ss ws : List Int} {c : Addr} {x y z k : Int} {base : Nat} {rs : List (Int × Int)}
end
end K28
end TL

namespace TL
open PySem L2
set_option maxHeartbeats 2000000
local macro_rules | `(tactic| walk_at "sx") => `(tactic| try simp only [sSeq, sNil, sSet, sFrz, frz_o, frz_sh, frz_s, sIf, sRet, sRetN, sPass, sBrk, sPar, sSub, sApp, sExpr, sAsg, sAug, sFld, sRevI, sPop, eLoc, eC, eUn, eBin, eAnd, eOr, eNot, eIf, eTup, eLst, dNil, dCons, tVal_eq, tstD_bl, tAndW, tOrW, tNotW, eFld_eq, eFldD_o, eProp, eMeth, eMeth0, eSl, pNone, pSome, sl_l,
  out_sh, out_fr, get_loc, get_sh, get_fr, getL_z, getL_o, getL_s, bound_z, bound_o, bound_s, isOwn_o, isOwn_s, pok_loc, pok_sh, pok_fr, stl_loc, stlS_sh, stlS_own, stl_sh, stl_fr, lay_fr, lay_sh, lay_loc, envOf, slotsOf, valN, ghOf, endK, resK, exMu, muN, List.cons_append, List.nil_append, List.append_nil, List.length_cons, List.length_nil, Nat.reduceAdd, Nat.reduceSub, List.replicate_succ, List.replicate_zero, List.replicate,
  List.getElem?_cons_zero, List.getElem?_cons_succ, List.getElem?_nil, List.set_cons_zero, List.set_cons_succ,
  add_ii, add_ss, add_ll, sub_ii, mul_ii, fdv_ii, fdvN_ii, mod_ii, modN_ii, pow_ii, lt_ii, le_ii, gt_ii, ge_ii, eq_ii, ne_ii, ix_li, ix_ti, neg_i, abs_i, int_i, int_b, max_ii, min_ii, len_l, len_t, list_l, list_t, rev_l, isi_int, isi_bl, isi_tup, isi_lst, isi_non, isN_i, isN_n, isN_t, isN_l, notN_i, notN_n, notN_t, notN_l, isTy,
  atI0, atI1, atI2, ixN0, ixN1, ixN2, some_inj_ex, isObj, setAt0, setAt1, setAt2, setAt3, restE, keepS, wipeE, ↓reduceIte, if_false, if_true,
  eCall, eCallP, eMake, pm, eTwo, dLit, eOwn2, eLenO, okLen, eMethP, eMakeP, isC_o, eRepL, lr1_i, lr2_i, List.filterMap_cons, List.filterMap_nil, agNil, agRo, agBo, agMu, agTm, callK, boIx, muIx, tms, argsK, upE, reown, hasBo, noTm, flatRo, noLstAll, noLst, noLsts, List.nodup_nil, List.nodup_cons, List.not_mem_nil, not_false_eq_true, Nat.zero_le, Nat.le_refl, Nat.reduceLeDiff, List.mem_cons, or_false, reduceCtorEq,
  gN, gTp, gLs, gCn, gNl, iR1, iR2, iRL, iLst, iTpl, iEnum, stab,
  ite_self, str_i, fmt_i, fmt_s, isB_b, notB_b, any_l, tup_l, sExt, e0_is, t0_is, d0_is, s0_is, i0_is, sTry, hXk_n, hXk_s, sRaise, eCallX, eCallXP, eMethX, eMakeX, ePropX, eOwn2X, callX, roA, opXv_exn, opIsX_exn, List.map_cons, List.map_nil, Nat.lt_irrefl, Nat.zero_lt_one, Nat.reduceLT, Nat.zero_lt_succ, some_inj_ex,
  true_and, and_true, eq_self, List.length_map, decide_true, decide_false, Bool.not_true, Bool.not_false, not_true_eq_false, Bool.true_eq_false, Bool.false_eq_true, false_imp_iff, forall_const, true_imp_iff, and_self, decide_eq_true_eq, decide_eq_false_iff_not, Bool.not_eq_true', Bool.not_eq_false'])
/- forms_of_length: 0:rule_map 1:length 2:modulus 3:rules 4:forms 5:turn 6:form 7:rule -/
/-! ### the greatest number after n steps -/
/-- x is the first of the best among those with P -/
def Opt (val : Int → Int) (P : Int → Prop) : Option Int → Prop
  | none => ∀ x, ¬ P x
  | some x => P x ∧ ∀ y, P y → val y < val x ∨ (val y = val x ∧ x ≤ y)
namespace K25
/- _law_steps: 0:source 1:base 2:limit 3:most 4:scale 5:turn -/
/- _law_ahead: 0:base 1:rules 2:start 3:count 4:found 5:turn 6:a 7:b -/
/- _law_due: 0:base 1:rules 2:count 3:floor 4:roof 5:best 6:start 7:reached -/
/- greatest_after: 0:rule_map 1:steps 2:low 3:high 4:best 5:form 6:a 7:b 8:scale 9:x 10:number -/
theorem _root_.TL.Opt.add {val : Int → Int} {P : Int → Prop} {x : Int} {b : Option Int} (h : Opt val P b) : Opt val (fun y => P y ∨ y = x) (match b with | none => some x | some y => if val y < val x ∨ (val x = val y ∧ x < y) then some x else some y) := by
  cases b with
  | none =>
    refine ⟨.inr rfl, fun y hy => ?_⟩
    rcases hy with hy | rfl
    · exact absurd hy (h y)
    · exact .inr ⟨rfl, Int.le_refl _⟩
  | some z =>
    obtain ⟨h1, h2⟩ := h
    show Opt val _ (if val z < val x ∨ (val x = val z ∧ x < z) then some x else some z)
    split
    · rename_i hlt
      refine ⟨.inr rfl, fun y hy => ?_⟩
      rcases hy with hy | rfl
      · have := h2 y hy
        omega
      · exact .inr ⟨rfl, Int.le_refl _⟩
    · rename_i hlt
      refine ⟨.inl h1, fun y hy => ?_⟩
      rcases hy with hy | rfl
      · exact h2 y hy
      · omega
end K25
end TL

namespace TL
open PySem L2
set_option maxHeartbeats 2000000
local macro_rules | `(tactic| walk_at "sx") => `(tactic| try simp only [sSeq, sNil, sSet, sFrz, frz_o, frz_sh, frz_s, sIf, sRet, sRetN, sPass, sBrk, sPar, sSub, sApp, sExpr, sAsg, sAug, sFld, sRevI, sPop, eLoc, eC, eUn, eBin, eAnd, eOr, eNot, eIf, eTup, eLst, dNil, dCons, tVal_eq, tstD_bl, tAndW, tOrW, tNotW, eFld_eq, eFldD_o, eProp, eMeth, eMeth0, eSl, pNone, pSome, sl_l,
  out_sh, out_fr, get_loc, get_sh, get_fr, getL_z, getL_o, getL_s, bound_z, bound_o, bound_s, isOwn_o, isOwn_s, pok_loc, pok_sh, pok_fr, stl_loc, stlS_sh, stlS_own, stl_sh, stl_fr, lay_fr, lay_sh, lay_loc, envOf, slotsOf, valN, ghOf, endK, resK, exMu, muN, List.cons_append, List.nil_append, List.append_nil, List.length_cons, List.length_nil, Nat.reduceAdd, Nat.reduceSub, List.replicate_succ, List.replicate_zero, List.replicate,
  List.getElem?_cons_zero, List.getElem?_cons_succ, List.getElem?_nil, List.set_cons_zero, List.set_cons_succ,
  add_ii, add_ss, add_ll, sub_ii, mul_ii, fdv_ii, fdvN_ii, mod_ii, modN_ii, pow_ii, lt_ii, le_ii, gt_ii, ge_ii, eq_ii, ne_ii, ix_li, ix_ti, neg_i, abs_i, int_i, int_b, max_ii, min_ii, len_l, len_t, list_l, list_t, rev_l, isi_int, isi_bl, isi_tup, isi_lst, isi_non, isN_i, isN_n, isN_t, isN_l, notN_i, notN_n, notN_t, notN_l, isTy,
  atI0, atI1, atI2, ixN0, ixN1, ixN2, some_inj_ex, isObj, setAt0, setAt1, setAt2, setAt3, restE, keepS, wipeE, ↓reduceIte, if_false, if_true,
  eCall, eCallP, eMake, pm, eTwo, dLit, eOwn2, eLenO, okLen, eMethP, eMakeP, isC_o, eRepL, lr1_i, lr2_i, List.filterMap_cons, List.filterMap_nil, agNil, agRo, agBo, agMu, agTm, callK, boIx, muIx, tms, argsK, upE, reown, hasBo, noTm, flatRo, noLstAll, noLst, noLsts, List.nodup_nil, List.nodup_cons, List.not_mem_nil, not_false_eq_true, Nat.zero_le, Nat.le_refl, Nat.reduceLeDiff, List.mem_cons, or_false, reduceCtorEq,
  gN, gTp, gLs, gCn, gNl, iR1, iR2, iRL, iLst, iTpl, iEnum, stab,
  ite_self, str_i, fmt_i, fmt_s, isB_b, notB_b, any_l, tup_l, sExt, e0_is, t0_is, d0_is, s0_is, i0_is, sTry, hXk_n, hXk_s, sRaise, eCallX, eCallXP, eMethX, eMakeX, ePropX, eOwn2X, callX, roA, opXv_exn, opIsX_exn, List.map_cons, List.map_nil, Nat.lt_irrefl, Nat.zero_lt_one, Nat.reduceLT, Nat.zero_lt_succ, some_inj_ex,
  true_and, and_true, eq_self, List.length_map, decide_true, decide_false, Bool.not_true, Bool.not_false, not_true_eq_false, Bool.true_eq_false, Bool.false_eq_true, false_imp_iff, forall_const, true_imp_iff, and_self, decide_eq_true_eq, decide_eq_false_iff_not, Bool.not_eq_true', Bool.not_eq_false'])
namespace K25
/- _law_right: 0:source 1:chart 2:base 3:rules 4:count 5:size 6:floor 7:roof 8:due 9:found -/
/- law: 0:script 1:source 2:base 3:rules 4:chart 5:k -/
end K25
end TL

namespace TL
open PySem L2
set_option maxHeartbeats 2000000
local macro_rules | `(tactic| walk_at "sx") => `(tactic| try simp only [sSeq, sNil, sSet, sFrz, frz_o, frz_sh, frz_s, sIf, sRet, sRetN, sPass, sBrk, sPar, sSub, sApp, sExpr, sAsg, sAug, sFld, sRevI, sPop, eLoc, eC, eUn, eBin, eAnd, eOr, eNot, eIf, eTup, eLst, dNil, dCons, tVal_eq, tstD_bl, tAndW, tOrW, tNotW, eFld_eq, eFldD_o, eProp, eMeth, eMeth0, eSl, pNone, pSome, sl_l,
  out_sh, out_fr, get_loc, get_sh, get_fr, getL_z, getL_o, getL_s, bound_z, bound_o, bound_s, isOwn_o, isOwn_s, pok_loc, pok_sh, pok_fr, stl_loc, stlS_sh, stlS_own, stl_sh, stl_fr, lay_fr, lay_sh, lay_loc, envOf, slotsOf, valN, ghOf, endK, resK, exMu, muN, List.cons_append, List.nil_append, List.append_nil, List.length_cons, List.length_nil, Nat.reduceAdd, Nat.reduceSub, List.replicate_succ, List.replicate_zero, List.replicate,
  List.getElem?_cons_zero, List.getElem?_cons_succ, List.getElem?_nil, List.set_cons_zero, List.set_cons_succ,
  add_ii, add_ss, add_ll, sub_ii, mul_ii, fdv_ii, fdvN_ii, mod_ii, modN_ii, pow_ii, lt_ii, le_ii, gt_ii, ge_ii, eq_ii, ne_ii, ix_li, ix_ti, neg_i, abs_i, int_i, int_b, max_ii, min_ii, len_l, len_t, list_l, list_t, rev_l, isi_int, isi_bl, isi_tup, isi_lst, isi_non, isN_i, isN_n, isN_t, isN_l, notN_i, notN_n, notN_t, notN_l, isTy,
  atI0, atI1, atI2, ixN0, ixN1, ixN2, some_inj_ex, isObj, setAt0, setAt1, setAt2, setAt3, restE, keepS, wipeE, ↓reduceIte, if_false, if_true,
  eCall, eCallP, eMake, pm, eTwo, dLit, eOwn2, eLenO, okLen, eMethP, eMakeP, isC_o, eRepL, lr1_i, lr2_i, List.filterMap_cons, List.filterMap_nil, agNil, agRo, agBo, agMu, agTm, callK, boIx, muIx, tms, argsK, upE, reown, hasBo, noTm, flatRo, noLstAll, noLst, noLsts, List.nodup_nil, List.nodup_cons, List.not_mem_nil, not_false_eq_true, Nat.zero_le, Nat.le_refl, Nat.reduceLeDiff, List.mem_cons, or_false, reduceCtorEq,
  gN, gTp, gLs, gCn, gNl, iR1, iR2, iRL, iLst, iTpl, iEnum, stab,
  ite_self, str_i, fmt_i, fmt_s, isB_b, notB_b, any_l, tup_l, sExt, e0_is, t0_is, d0_is, s0_is, i0_is, sTry, hXk_n, hXk_s, sRaise, eCallX, eCallXP, eMethX, eMakeX, ePropX, eOwn2X, callX, roA, opXv_exn, opIsX_exn, List.map_cons, List.map_nil, Nat.lt_irrefl, Nat.zero_lt_one, Nat.reduceLT, Nat.zero_lt_succ, some_inj_ex,
  true_and, and_true, eq_self, List.length_map, decide_true, decide_false, Bool.not_true, Bool.not_false, not_true_eq_false, Bool.true_eq_false, Bool.false_eq_true, false_imp_iff, forall_const, true_imp_iff, and_self, decide_eq_true_eq, decide_eq_false_iff_not, Bool.not_eq_true', Bool.not_eq_false'])
/-! ### fallen parts of classes -/
section
variable {base : Nat} {rs : List (Int × Int)}
end
namespace K24
/- _law_steps: 0:source 1:base 2:limit 3:most 4:scale 5:turn -/
/- _law_ahead: 0:base 1:rules 2:start 3:count 4:found 5:turn 6:a 7:b -/
/- fallen_part: 0:form 1:low 2:high 3:a 4:b 5:scale -/
/- count_fallen: 0:rule_map 1:steps 2:low 3:high 4:total 5:form 6:first 7:last -/
/- _law_due: 0:base 1:rules 2:count 3:floor 4:width 5:due 6:start -/
/- _law_is_count: 0:found 1:due -/
end K24
end TL

namespace TL
open PySem L2
set_option maxHeartbeats 2000000
local macro_rules | `(tactic| walk_at "sx") => `(tactic| try simp only [sSeq, sNil, sSet, sFrz, frz_o, frz_sh, frz_s, sIf, sRet, sRetN, sPass, sBrk, sPar, sSub, sApp, sExpr, sAsg, sAug, sFld, sRevI, sPop, eLoc, eC, eUn, eBin, eAnd, eOr, eNot, eIf, eTup, eLst, dNil, dCons, tVal_eq, tstD_bl, tAndW, tOrW, tNotW, eFld_eq, eFldD_o, eProp, eMeth, eMeth0, eSl, pNone, pSome, sl_l,
  out_sh, out_fr, get_loc, get_sh, get_fr, getL_z, getL_o, getL_s, bound_z, bound_o, bound_s, isOwn_o, isOwn_s, pok_loc, pok_sh, pok_fr, stl_loc, stlS_sh, stlS_own, stl_sh, stl_fr, lay_fr, lay_sh, lay_loc, envOf, slotsOf, valN, ghOf, endK, resK, exMu, muN, List.cons_append, List.nil_append, List.append_nil, List.length_cons, List.length_nil, Nat.reduceAdd, Nat.reduceSub, List.replicate_succ, List.replicate_zero, List.replicate,
  List.getElem?_cons_zero, List.getElem?_cons_succ, List.getElem?_nil, List.set_cons_zero, List.set_cons_succ,
  add_ii, add_ss, add_ll, sub_ii, mul_ii, fdv_ii, fdvN_ii, mod_ii, modN_ii, pow_ii, lt_ii, le_ii, gt_ii, ge_ii, eq_ii, ne_ii, ix_li, ix_ti, neg_i, abs_i, int_i, int_b, max_ii, min_ii, len_l, len_t, list_l, list_t, rev_l, isi_int, isi_bl, isi_tup, isi_lst, isi_non, isN_i, isN_n, isN_t, isN_l, notN_i, notN_n, notN_t, notN_l, isTy,
  atI0, atI1, atI2, ixN0, ixN1, ixN2, some_inj_ex, isObj, setAt0, setAt1, setAt2, setAt3, restE, keepS, wipeE, ↓reduceIte, if_false, if_true,
  eCall, eCallP, eMake, pm, eTwo, dLit, eOwn2, eLenO, okLen, eMethP, eMakeP, isC_o, eRepL, lr1_i, lr2_i, List.filterMap_cons, List.filterMap_nil, agNil, agRo, agBo, agMu, agTm, callK, boIx, muIx, tms, argsK, upE, reown, hasBo, noTm, flatRo, noLstAll, noLst, noLsts, List.nodup_nil, List.nodup_cons, List.not_mem_nil, not_false_eq_true, Nat.zero_le, Nat.le_refl, Nat.reduceLeDiff, List.mem_cons, or_false, reduceCtorEq,
  gN, gTp, gLs, gCn, gNl, iR1, iR2, iRL, iLst, iTpl, iEnum, stab,
  ite_self, str_i, fmt_i, fmt_s, isB_b, notB_b, any_l, tup_l, sExt, e0_is, t0_is, d0_is, s0_is, i0_is, sTry, hXk_n, hXk_s, sRaise, eCallX, eCallXP, eMethX, eMakeX, ePropX, eOwn2X, callX, roA, opXv_exn, opIsX_exn, List.map_cons, List.map_nil, Nat.lt_irrefl, Nat.zero_lt_one, Nat.reduceLT, Nat.zero_lt_succ, some_inj_ex,
  true_and, and_true, eq_self, List.length_map, decide_true, decide_false, Bool.not_true, Bool.not_false, not_true_eq_false, Bool.true_eq_false, Bool.false_eq_true, false_imp_iff, forall_const, true_imp_iff, and_self, decide_eq_true_eq, decide_eq_false_iff_not, Bool.not_eq_true', Bool.not_eq_false'])
namespace K24
/- _law_rules: 0:source 1:base 2:far 3:limit 4:near 5:rules 6:remainder 7:a 8:more -/
/- _law_right: 0:source 1:chart 2:base 3:rules 4:count 5:size 6:floor 7:width 8:due 9:scale 10:times 11:far -/
/- law: 0:script 1:source 2:base 3:rules 4:chart 5:k -/
def sp_law : FSpec := fun args kr _ => ∃ ns : List Int, args = [.ro (encZs ns)] ∧ (∀ n ∈ ns, Bt 2000000 n) ∧ ns.length ≤ 1000 ∧ kr (.sh (.bl true)) []
end K24
end TL

namespace TL
open PySem L2
set_option maxHeartbeats 2000000
local macro_rules | `(tactic| walk_at "sx") => `(tactic| try simp only [sSeq, sNil, sSet, sFrz, frz_o, frz_sh, frz_s, sIf, sRet, sRetN, sPass, sBrk, sPar, sSub, sApp, sExpr, sAsg, sAug, sFld, sRevI, sPop, eLoc, eC, eUn, eBin, eAnd, eOr, eNot, eIf, eTup, eLst, dNil, dCons, tVal_eq, tstD_bl, tAndW, tOrW, tNotW, eFld_eq, eFldD_o, eProp, eMeth, eMeth0, eSl, pNone, pSome, sl_l,
  out_sh, out_fr, get_loc, get_sh, get_fr, getL_z, getL_o, getL_s, bound_z, bound_o, bound_s, isOwn_o, isOwn_s, pok_loc, pok_sh, pok_fr, stl_loc, stlS_sh, stlS_own, stl_sh, stl_fr, lay_fr, lay_sh, lay_loc, envOf, slotsOf, valN, ghOf, endK, resK, exMu, muN, List.cons_append, List.nil_append, List.append_nil, List.length_cons, List.length_nil, Nat.reduceAdd, Nat.reduceSub, List.replicate_succ, List.replicate_zero, List.replicate,
  List.getElem?_cons_zero, List.getElem?_cons_succ, List.getElem?_nil, List.set_cons_zero, List.set_cons_succ,
  add_ii, add_ss, add_ll, sub_ii, mul_ii, fdv_ii, fdvN_ii, mod_ii, modN_ii, pow_ii, lt_ii, le_ii, gt_ii, ge_ii, eq_ii, ne_ii, ix_li, ix_ti, neg_i, abs_i, int_i, int_b, max_ii, min_ii, len_l, len_t, list_l, list_t, rev_l, isi_int, isi_bl, isi_tup, isi_lst, isi_non, isN_i, isN_n, isN_t, isN_l, notN_i, notN_n, notN_t, notN_l, isTy,
  atI0, atI1, atI2, ixN0, ixN1, ixN2, some_inj_ex, isObj, setAt0, setAt1, setAt2, setAt3, restE, keepS, wipeE, ↓reduceIte, if_false, if_true,
  eCall, eCallP, eMake, pm, eTwo, dLit, eOwn2, eLenO, okLen, eMethP, eMakeP, isC_o, eRepL, lr1_i, lr2_i, List.filterMap_cons, List.filterMap_nil, agNil, agRo, agBo, agMu, agTm, callK, boIx, muIx, tms, argsK, upE, reown, hasBo, noTm, flatRo, noLstAll, noLst, noLsts, List.nodup_nil, List.nodup_cons, List.not_mem_nil, not_false_eq_true, Nat.zero_le, Nat.le_refl, Nat.reduceLeDiff, List.mem_cons, or_false, reduceCtorEq,
  gN, gTp, gLs, gCn, gNl, iR1, iR2, iRL, iLst, iTpl, iEnum, stab,
  ite_self, str_i, fmt_i, fmt_s, isB_b, notB_b, any_l, tup_l, sExt, e0_is, t0_is, d0_is, s0_is, i0_is, sTry, hXk_n, hXk_s, sRaise, eCallX, eCallXP, eMethX, eMakeX, ePropX, eOwn2X, callX, roA, opXv_exn, opIsX_exn, List.map_cons, List.map_nil, Nat.lt_irrefl, Nat.zero_lt_one, Nat.reduceLT, Nat.zero_lt_succ, some_inj_ex,
  true_and, and_true, eq_self, List.length_map, decide_true, decide_false, Bool.not_true, Bool.not_false, not_true_eq_false, Bool.true_eq_false, Bool.false_eq_true, false_imp_iff, forall_const, true_imp_iff, and_self, decide_eq_true_eq, decide_eq_false_iff_not, Bool.not_eq_true', Bool.not_eq_false'])
/-! ### first falls -/
/-- x falls for the first time at the step t + 1 -/
def FirstAt (rs : List (Int × Int)) (t : Nat) (x : Int) : Prop := zWalk rs x (t + 1) < x ∧ ∀ j, j < t → ¬ zWalk rs x (j + 1) < x
instance (rs : List (Int × Int)) (t : Nat) (x : Int) : Decidable (FirstAt rs t x) := by unfold FirstAt; exact inferInstance
section
variable {base : Nat} {rs : List (Int × Int)}
end
end TL

namespace TL
open PySem L2
set_option maxHeartbeats 2000000
local macro_rules | `(tactic| walk_at "sx") => `(tactic| try simp only [sSeq, sNil, sSet, sFrz, frz_o, frz_sh, frz_s, sIf, sRet, sRetN, sPass, sBrk, sPar, sSub, sApp, sExpr, sAsg, sAug, sFld, sRevI, sPop, eLoc, eC, eUn, eBin, eAnd, eOr, eNot, eIf, eTup, eLst, dNil, dCons, tVal_eq, tstD_bl, tAndW, tOrW, tNotW, eFld_eq, eFldD_o, eProp, eMeth, eMeth0, eSl, pNone, pSome, sl_l,
  out_sh, out_fr, get_loc, get_sh, get_fr, getL_z, getL_o, getL_s, bound_z, bound_o, bound_s, isOwn_o, isOwn_s, pok_loc, pok_sh, pok_fr, stl_loc, stlS_sh, stlS_own, stl_sh, stl_fr, lay_fr, lay_sh, lay_loc, envOf, slotsOf, valN, ghOf, endK, resK, exMu, muN, List.cons_append, List.nil_append, List.append_nil, List.length_cons, List.length_nil, Nat.reduceAdd, Nat.reduceSub, List.replicate_succ, List.replicate_zero, List.replicate,
  List.getElem?_cons_zero, List.getElem?_cons_succ, List.getElem?_nil, List.set_cons_zero, List.set_cons_succ,
  add_ii, add_ss, add_ll, sub_ii, mul_ii, fdv_ii, fdvN_ii, mod_ii, modN_ii, pow_ii, lt_ii, le_ii, gt_ii, ge_ii, eq_ii, ne_ii, ix_li, ix_ti, neg_i, abs_i, int_i, int_b, max_ii, min_ii, len_l, len_t, list_l, list_t, rev_l, isi_int, isi_bl, isi_tup, isi_lst, isi_non, isN_i, isN_n, isN_t, isN_l, notN_i, notN_n, notN_t, notN_l, isTy,
  atI0, atI1, atI2, ixN0, ixN1, ixN2, some_inj_ex, isObj, setAt0, setAt1, setAt2, setAt3, restE, keepS, wipeE, ↓reduceIte, if_false, if_true,
  eCall, eCallP, eMake, pm, eTwo, dLit, eOwn2, eLenO, okLen, eMethP, eMakeP, isC_o, eRepL, lr1_i, lr2_i, List.filterMap_cons, List.filterMap_nil, agNil, agRo, agBo, agMu, agTm, callK, boIx, muIx, tms, argsK, upE, reown, hasBo, noTm, flatRo, noLstAll, noLst, noLsts, List.nodup_nil, List.nodup_cons, List.not_mem_nil, not_false_eq_true, Nat.zero_le, Nat.le_refl, Nat.reduceLeDiff, List.mem_cons, or_false, reduceCtorEq,
  gN, gTp, gLs, gCn, gNl, iR1, iR2, iRL, iLst, iTpl, iEnum, stab,
  ite_self, str_i, fmt_i, fmt_s, isB_b, notB_b, any_l, tup_l, sExt, e0_is, t0_is, d0_is, s0_is, i0_is, sTry, hXk_n, hXk_s, sRaise, eCallX, eCallXP, eMethX, eMakeX, ePropX, eOwn2X, callX, roA, opXv_exn, opIsX_exn, List.map_cons, List.map_nil, Nat.lt_irrefl, Nat.zero_lt_one, Nat.reduceLT, Nat.zero_lt_succ, some_inj_ex,
  true_and, and_true, eq_self, List.length_map, decide_true, decide_false, Bool.not_true, Bool.not_false, not_true_eq_false, Bool.true_eq_false, Bool.false_eq_true, false_imp_iff, forall_const, true_imp_iff, and_self, decide_eq_true_eq, decide_eq_false_iff_not, Bool.not_eq_true', Bool.not_eq_false'])
namespace K26
/- _law_steps: 0:source 1:base 2:limit 3:most 4:scale 5:turn -/
/- _law_ahead: 0:base 1:rules 2:start 3:count 4:found 5:turn 6:a 7:b -/
/- fallen_part: 0:form 1:low 2:high 3:a 4:b 5:scale -/
/- _law_rules: 0:source 1:base 2:far 3:limit 4:near 5:rules 6:remainder 7:a 8:more -/
/- first_falls: 0:rule_map 1:most 2:low 3:high 4:modulus 5:rules 6:counts 7:stretches 8:turn 9:total 10:later 11:form 12:first 13:last 14:rule 15:longer 16:left 17:right -/
/- _law_is_word: 0:value 1:many 2:entry -/
/- _law_is_told: 0:found 1:due -/
/- _law_due: 0:base 1:rules 2:count 3:floor 4:width 5:due 6:start 7:places 8:lesser 9:k -/
end K26
end TL

namespace TL
open PySem L2
set_option maxHeartbeats 2000000
local macro_rules | `(tactic| walk_at "sx") => `(tactic| try simp only [sSeq, sNil, eDisp1, eDispN, eDIn, eDNotIn, eDSetd, eDNew, eDGet, eDGet2, sDSet, eTake, isDc, sSet, sFrz, frz_o, frz_sh, frz_s, sIf, sRet, sRetN, sPass, sBrk, sPar, sSub, sApp, sExpr, sAsg, sAug, sFld, sRevI, sPop, eLoc, eC, eUn, eBin, eAnd, eOr, eNot, eIf, eTup, eLst, dNil, dCons, tVal_eq, tstD_bl, tAndW, tOrW, tNotW, eFld_eq, eFldD_o, eProp, eMeth, eMeth0, eSl, pNone, pSome, sl_l,
  out_sh, out_fr, get_loc, get_sh, get_fr, getL_z, getL_o, getL_s, bound_z, bound_o, bound_s, isOwn_o, isOwn_s, pok_loc, pok_sh, pok_fr, stl_loc, stlS_sh, stlS_own, stl_sh, stl_fr, lay_fr, lay_sh, lay_loc, envOf, slotsOf, valN, ghOf, endK, resK, exMu, muN, List.cons_append, List.nil_append, List.append_nil, List.length_cons, List.length_nil, Nat.reduceAdd, Nat.reduceSub, List.replicate_succ, List.replicate_zero, List.replicate,
  List.getElem?_cons_zero, List.getElem?_cons_succ, List.getElem?_nil, List.set_cons_zero, List.set_cons_succ,
  add_ii, add_ss, add_ll, sub_ii, mul_ii, fdv_ii, fdvN_ii, mod_ii, modN_ii, pow_ii, lt_ii, le_ii, gt_ii, ge_ii, eq_ii, ne_ii, ix_li, ix_ti, neg_i, abs_i, int_i, int_b, max_ii, min_ii, len_l, len_t, list_l, list_t, rev_l, isi_int, isi_bl, isi_tup, isi_lst, isi_non, isN_i, isN_n, isN_t, isN_l, notN_i, notN_n, notN_t, notN_l, isTy,
  atI0, atI1, atI2, ixN0, ixN1, ixN2, some_inj_ex, isObj, setAt0, setAt1, setAt2, setAt3, restE, keepS, wipeE, ↓reduceIte, if_false, if_true,
  eCall, eCallP, eMake, pm, eTwo, dLit, eOwn2, eLenO, okLen, eMethP, eMakeP, isC_o, eRepL, lr1_i, lr2_i, List.filterMap_cons, List.filterMap_nil, agNil, agRo, agBo, agMu, agTm, callK, boIx, muIx, tms, argsK, upE, reown, hasBo, noTm, flatRo, noLstAll, noLst, noLsts, List.nodup_nil, List.nodup_cons, List.not_mem_nil, not_false_eq_true, Nat.zero_le, Nat.le_refl, Nat.reduceLeDiff, List.mem_cons, or_false, reduceCtorEq,
  gN, gTp, gLs, gCn, gNl, iR1, iR2, iRL, iLst, iTpl, iEnum, stab,
  ite_self, str_i, fmt_i, fmt_s, isB_b, notB_b, any_l, tup_l, sExt, e0_is, t0_is, d0_is, s0_is, i0_is, sTry, hXk_n, hXk_s, sRaise, eCallX, eCallXP, eMethX, eMakeX, ePropX, eOwn2X, callX, roA, opXv_exn, opIsX_exn, List.map_cons, List.map_nil, Nat.lt_irrefl, Nat.zero_lt_one, Nat.reduceLT, Nat.zero_lt_succ, some_inj_ex,
  Option.isSome_some, Option.isSome_none, true_and, and_true, eq_self, List.length_map, decide_true, decide_false, Bool.not_true, Bool.not_false, not_true_eq_false, Bool.true_eq_false, Bool.false_eq_true, false_imp_iff, forall_const, true_imp_iff, and_self, decide_eq_true_eq, decide_eq_false_iff_not, Bool.not_eq_true', Bool.not_eq_false'])
/-! ### places as keys of a dict -/
def idxQ (q : Int × Int) : List (Int × Int) → Nat → Option Nat
  | [], _ => none
  | p :: r, o => if p = q then some o else idxQ q r (o + 1)
theorem idxQ_some {q : Int × Int} : ∀ {L : List (Int × Int)} {o j : Nat}, idxQ q L o = some j → o ≤ j ∧ L[j - o]? = some q
  | [], _, _, h => by simp [idxQ] at h
  | p :: r, o, j, h => by
    unfold idxQ at h
    split at h
    · rename_i e
      cases h
      exact ⟨Nat.le_refl _, by rw [Nat.sub_self]; simp [e]⟩
    · obtain ⟨h1, h2⟩ := idxQ_some h
      refine ⟨by omega, ?_⟩
      rw [show j - o = (j - (o + 1)) + 1 by omega]
      simpa using h2
theorem idxQ_none {q : Int × Int} : ∀ {L : List (Int × Int)} {o : Nat}, idxQ q L o = none → q ∉ L
  | [], _, _ => by simp
  | p :: r, o, h => by
    unfold idxQ at h
    split at h
    · cases h
    · rename_i e
      have := idxQ_none h
      rw [List.mem_cons]
      rintro (z | z)
      · exact e z.symm
      · exact this z
/-! ### the first place that comes again -/
def comesF (rs : List (Int × Int)) (p : Int × Int) : Nat → Option (Nat × Nat)
  | 0 => none
  | n + 1 => match comesF rs p n with
    | some r => some r
    | none => (idxQ (walkF rs (n + 1) p) (trk rs p (n + 1)) 0).map fun j => (j, n + 1 - j)
theorem comesF_stay {rs : List (Int × Int)} {p : Int × Int} {n : Nat} {r : Nat × Nat} (h : comesF rs p n = some r) : ∀ m, n ≤ m → comesF rs p m = some r
  | 0, hm => by obtain rfl : n = 0 := by omega
                exact h
  | m + 1, hm => by
    rcases Nat.lt_or_eq_of_le hm with h1 | h1
    · have := comesF_stay h m (by omega)
      show (match comesF rs p m with | some r => some r | none => _) = _
      rw [this]
    · subst h1; exact h
theorem comesF_none {rs : List (Int × Int)} {p : Int × Int} {n : Nat} (h : comesF rs p n = none) (m : Nat) (hm : m ≤ n) : comesF rs p m = none := by
  cases e : comesF rs p m with
  | none => rfl
  | some r => rw [comesF_stay e n hm] at h; cases h
theorem comesF_at {rs : List (Int × Int)} {p : Int × Int} : ∀ {n : Nat} {r : Nat × Nat}, comesF rs p n = some r → 1 ≤ r.2 ∧ r.1 + r.2 ≤ n ∧ comesF rs p (r.1 + r.2) = some r ∧ comesF rs p (r.1 + r.2 - 1) = none ∧ walkF rs r.1 p = walkF rs (r.1 + r.2) p
  | 0, r, h => by cases h
  | n + 1, r, h => by
    have h0 := h
    unfold comesF at h
    split at h
    · rename_i r' e
      cases h
      obtain ⟨a, b, c, d, f⟩ := comesF_at e
      exact ⟨a, by omega, c, d, f⟩
    · rename_i e
      cases hi : idxQ (walkF rs (n + 1) p) (trk rs p (n + 1)) 0 with
      | none => rw [hi] at h; cases h
      | some j =>
        rw [hi] at h
        cases h
        obtain ⟨_, h2⟩ := idxQ_some hi
        rw [Nat.sub_zero] at h2
        have hj : j < n + 1 := by
          have := (List.getElem?_eq_some_iff.mp h2).1
          simpa [trk] using this
        unfold trk at h2
        rw [List.getElem?_map, List.getElem?_range hj] at h2
        have e2 : j + (n + 1 - j) = n + 1 := by omega
        refine ⟨by show 1 ≤ n + 1 - j; omega, by show j + (n + 1 - j) ≤ n + 1; omega, ?_, ?_, ?_⟩
        · show comesF rs p (j + (n + 1 - j)) = _
          rw [e2]; exact h0
        · show comesF rs p (j + (n + 1 - j) - 1) = _
          rw [e2]; exact e
        · show walkF rs j p = walkF rs (j + (n + 1 - j)) p
          rw [e2]
          exact Option.some.inj h2
/- comes_round: 0:rule_map 1:number 2:most 3:modulus 4:rules 5:visits 6:at -/
end TL

namespace TL
open PySem L2
set_option maxHeartbeats 2000000
local macro_rules | `(tactic| walk_at "sx") => `(tactic| try simp only [sSeq, sNil, eDisp1, eDispN, eDIn, eDNotIn, eDSetd, eDNew, eDGet, eDGet2, sDSet, eTake, isDc, sSet, sFrz, frz_o, frz_sh, frz_s, sIf, sRet, sRetN, sPass, sBrk, sPar, sSub, sApp, sExpr, sAsg, sAug, sFld, sRevI, sPop, eLoc, eC, eUn, eBin, eAnd, eOr, eNot, eIf, eTup, eLst, dNil, dCons, tVal_eq, tstD_bl, tAndW, tOrW, tNotW, eFld_eq, eFldD_o, eProp, eMeth, eMeth0, eSl, pNone, pSome, sl_l,
  out_sh, out_fr, get_loc, get_sh, get_fr, getL_z, getL_o, getL_s, bound_z, bound_o, bound_s, isOwn_o, isOwn_s, pok_loc, pok_sh, pok_fr, stl_loc, stlS_sh, stlS_own, stl_sh, stl_fr, lay_fr, lay_sh, lay_loc, envOf, slotsOf, valN, ghOf, endK, resK, exMu, muN, List.cons_append, List.nil_append, List.append_nil, List.length_cons, List.length_nil, Nat.reduceAdd, Nat.reduceSub, List.replicate_succ, List.replicate_zero, List.replicate,
  List.getElem?_cons_zero, List.getElem?_cons_succ, List.getElem?_nil, List.set_cons_zero, List.set_cons_succ,
  add_ii, add_ss, add_ll, sub_ii, mul_ii, fdv_ii, fdvN_ii, mod_ii, modN_ii, pow_ii, lt_ii, le_ii, gt_ii, ge_ii, eq_ii, ne_ii, ix_li, ix_ti, neg_i, abs_i, int_i, int_b, max_ii, min_ii, len_l, len_t, list_l, list_t, rev_l, isi_int, isi_bl, isi_tup, isi_lst, isi_non, isN_i, isN_n, isN_t, isN_l, notN_i, notN_n, notN_t, notN_l, isTy,
  atI0, atI1, atI2, ixN0, ixN1, ixN2, some_inj_ex, isObj, setAt0, setAt1, setAt2, setAt3, restE, keepS, wipeE, ↓reduceIte, if_false, if_true,
  eCall, eCallP, eMake, pm, eTwo, dLit, eOwn2, eLenO, okLen, eMethP, eMakeP, isC_o, eRepL, lr1_i, lr2_i, List.filterMap_cons, List.filterMap_nil, agNil, agRo, agBo, agMu, agTm, callK, boIx, muIx, tms, argsK, upE, reown, hasBo, noTm, flatRo, noLstAll, noLst, noLsts, List.nodup_nil, List.nodup_cons, List.not_mem_nil, not_false_eq_true, Nat.zero_le, Nat.le_refl, Nat.reduceLeDiff, List.mem_cons, or_false, reduceCtorEq,
  gN, gTp, gLs, gCn, gNl, iR1, iR2, iRL, iLst, iTpl, iEnum, stab,
  ite_self, str_i, fmt_i, fmt_s, isB_b, notB_b, any_l, tup_l, sExt, e0_is, t0_is, d0_is, s0_is, i0_is, sTry, hXk_n, hXk_s, sRaise, eCallX, eCallXP, eMethX, eMakeX, ePropX, eOwn2X, callX, roA, opXv_exn, opIsX_exn, List.map_cons, List.map_nil, Nat.lt_irrefl, Nat.zero_lt_one, Nat.reduceLT, Nat.zero_lt_succ, some_inj_ex,
  Option.isSome_some, Option.isSome_none, true_and, and_true, eq_self, List.length_map, decide_true, decide_false, Bool.not_true, Bool.not_false, not_true_eq_false, Bool.true_eq_false, Bool.false_eq_true, false_imp_iff, forall_const, true_imp_iff, and_self, decide_eq_true_eq, decide_eq_false_iff_not, Bool.not_eq_true', Bool.not_eq_false'])
namespace K16
/- _law_form: 0:base 1:rules 2:path 3:a 4:b 5:scale 6:spot -/
/- _law_around: 0:base 1:rules 2:path 3:a 4:b 5:scale 6:top 7:bottom 8:common -/
/- _law_start: 0:source 1:base 2:rules 3:value 4:path 5:turn 6:farther -/
/- _law_due: 0:base 1:rules 2:value 3:places 4:visits 5:at -/
/- _law_right: 0:chart 1:value 2:due 3:limit 4:whole 5:found -/
/- law: 0:script 1:source 2:base 3:rules 4:chart 5:asked 6:k 7:value 8:due -/
end K16
end TL

namespace TL
open PySem L2
set_option maxHeartbeats 2000000
local macro_rules | `(tactic| walk_at "sx") => `(tactic| try simp only [sSeq, sNil, eDisp1, eDispN, ltT_l, sumT_l, eDIn, eDNotIn, eDSetd, eDNew, eDGet, eDGet2, sDSet, eTake, sAugL, isDc, sCut, ghs_cons, ghs_nil, eKeep, keep_fr, keep_sh, keep_gh, keep_loc, eAd, eDr, eBinG, sAppE, sRevE, sPopE, eFz, fz_sh, fz_fr, fz_gh, fz_loc, ePk, gF, gP, agBg, agMg, agBd, pvw, eCallG, get_gh, stl_gh, pok_gh, owns, List.drop_succ_cons, List.drop_zero, List.take_succ_cons, List.take_zero, List.mem_cons, List.not_mem_nil, or_false, sSet, sFrz, frz_o, frz_sh, frz_s, sIf, sRet, sRetN, sPass, sBrk, sPar, sSub, sApp, sExpr, sAsg, sAug, sFld, sRevI, sPop, eLoc, eC, eUn, eBin, eAnd, eOr, eNot, eIf, eTup, eLst, dNil, dCons, tVal_eq, tstD_bl, tAndW, tOrW, tNotW, eFld_eq, eFldD_o, eProp, eMeth, eMeth0, eSl, pNone, pSome, sl_l,
  out_sh, out_fr, get_loc, get_sh, get_fr, getL_z, getL_o, getL_s, bound_z, bound_o, bound_s, isOwn_o, isOwn_s, pok_loc, pok_sh, pok_fr, stl_loc, stlS_sh, stlS_own, stl_sh, stl_fr, lay_fr, lay_sh, lay_loc, envOf, slotsOf, valN, ghOf, endK, resK, exMu, muN, List.cons_append, List.nil_append, List.append_nil, List.length_cons, List.length_nil, Nat.reduceAdd, Nat.reduceSub, List.replicate_succ, List.replicate_zero, List.replicate,
  List.getElem?_cons_zero, List.getElem?_cons_succ, List.getElem?_nil, List.set_cons_zero, List.set_cons_succ,
  add_ii, add_ss, add_ll, sub_ii, mul_ii, fdv_ii, fdvN_ii, mod_ii, modN_ii, pow_ii, lt_ii, le_ii, gt_ii, ge_ii, eq_ii, ne_ii, ix_li, ix_ti, neg_i, abs_i, int_i, int_b, max_ii, min_ii, len_l, len_t, list_l, list_t, rev_l, isi_int, isi_bl, isi_tup, isi_lst, isi_non, isN_i, isN_n, isN_t, isN_l, notN_i, notN_n, notN_t, notN_l, isTy,
  atI0, atI1, atI2, ixN0, ixN1, ixN2, some_inj_ex, isObj, setAt0, setAt1, setAt2, setAt3, restE, keepS, wipeE, ↓reduceIte, if_false, if_true,
  eCall, eCallP, eMake, pm, eTwo, dLit, eOwn2, eLenO, okLen, eMethP, eMakeP, isC_o, eRepL, lr1_i, lr2_i, List.filterMap_cons, List.filterMap_nil, agNil, agRo, agBo, agMu, agTm, callK, boIx, muIx, tms, argsK, upE, reown, hasBo, noTm, flatRo, noLstAll, noLst, noLsts, List.nodup_nil, List.nodup_cons, List.not_mem_nil, not_false_eq_true, Nat.zero_le, Nat.le_refl, Nat.reduceLeDiff, List.mem_cons, or_false, reduceCtorEq,
  gN, gTp, gLs, gCn, gNl, iR1, iR2, iRL, iLst, iTpl, iEnum, stab,
  ite_self, str_i, fmt_i, fmt_s, isB_b, notB_b, any_l, tup_l, sExt, e0_is, t0_is, d0_is, s0_is, i0_is, sTry, hXk_n, hXk_s, sRaise, eCallX, eCallXP, eMethX, eMakeX, ePropX, eOwn2X, callX, roA, opXv_exn, opIsX_exn, List.map_cons, List.map_nil, Nat.lt_irrefl, Nat.zero_lt_one, Nat.reduceLT, Nat.zero_lt_succ, some_inj_ex,
  Option.isSome_some, Option.isSome_none, true_and, and_true, eq_self, List.length_map, decide_true, decide_false, Bool.not_true, Bool.not_false, not_true_eq_false, Bool.true_eq_false, Bool.false_eq_true, false_imp_iff, forall_const, true_imp_iff, and_self, decide_eq_true_eq, decide_eq_false_iff_not, Bool.not_eq_true', Bool.not_eq_false'])
/-! ### words that go round -/
namespace K32
/- word_round: 0:rule_map 1:fraction 2:length -/
/- endless_word: 0:rule_map 1:fraction 2:most 3:found 4:first 5:every 6:word -/
/- _law_due: 0:places 1:visits 2:at -/
/- _law_is_round: 0:chart 1:value 2:places 3:path 4:count 5:found -/
/- _law_is_endless: 0:chart 1:value 2:path 3:due 4:first 5:every 6:ends 7:limit 8:found 9:front 10:again -/
/- law: 0:script 1:source 2:base 3:rules 4:chart 5:k 6:value 7:places 8:path 9:due 10:counts 11:count -/
section
variable {kx : Nat → D → Prop} {K : SK} {ns cs : List Int} {c : Addr} {x y z k : Int} {base : Nat} {rs : List (Int × Int)} {v : Int × Int} {e11 : Sl}
end
end K32
end TL

namespace TL
open PySem L2
set_option maxHeartbeats 2000000
local macro_rules | `(tactic| walk_at "sx") => `(tactic| try simp only [sSeq, sNil, eDisp1, eDispN, ltT_l, sumT_l, eDIn, eDNotIn, eDSetd, eDNew, eDGet, eDGet2, sDSet, eTake, sAugL, isDc, sCut, eNe2, neK, rep_l, ghs_cons, ghs_nil, eKeep, keep_fr, keep_sh, keep_gh, keep_loc, eAd, eDr, eBinG, sAppE, sRevE, sPopE, eFz, fz_sh, fz_fr, fz_gh, fz_loc, ePk, gF, gP, agBg, agMg, agBd, pvw, eCallG, get_gh, stl_gh, pok_gh, owns, List.drop_succ_cons, List.drop_zero, List.take_succ_cons, List.take_zero, List.mem_cons, List.not_mem_nil, or_false, sSet, sFrz, frz_o, frz_sh, frz_s, sIf, sRet, sRetN, sPass, sBrk, sPar, sSub, sApp, sExpr, sAsg, sAug, sFld, sRevI, sPop, eLoc, eC, eUn, eBin, eAnd, eOr, eNot, eIf, eTup, eLst, dNil, dCons, tVal_eq, tstD_bl, tAndW, tOrW, tNotW, eFld_eq, eFldD_o, eProp, eMeth, eMeth0, eSl, pNone, pSome, sl_l,
  out_sh, out_fr, get_loc, get_sh, get_fr, getL_z, getL_o, getL_s, bound_z, bound_o, bound_s, isOwn_o, isOwn_s, pok_loc, pok_sh, pok_fr, stl_loc, stlS_sh, stlS_own, stl_sh, stl_fr, lay_fr, lay_sh, lay_loc, envOf, slotsOf, valN, ghOf, endK, resK, exMu, muN, List.cons_append, List.nil_append, List.append_nil, List.length_cons, List.length_nil, Nat.reduceAdd, Nat.reduceSub, List.replicate_succ, List.replicate_zero, List.replicate,
  List.getElem?_cons_zero, List.getElem?_cons_succ, List.getElem?_nil, List.set_cons_zero, List.set_cons_succ,
  add_ii, add_ss, add_ll, sub_ii, mul_ii, fdv_ii, fdvN_ii, mod_ii, modN_ii, pow_ii, lt_ii, le_ii, gt_ii, ge_ii, eq_ii, ne_ii, ix_li, ix_ti, neg_i, abs_i, int_i, int_b, max_ii, min_ii, len_l, len_t, list_l, list_t, rev_l, isi_int, isi_bl, isi_tup, isi_lst, isi_non, isN_i, isN_n, isN_t, isN_l, notN_i, notN_n, notN_t, notN_l, isTy,
  atI0, atI1, atI2, ixN0, ixN1, ixN2, some_inj_ex, isObj, setAt0, setAt1, setAt2, setAt3, restE, keepS, wipeE, ↓reduceIte, if_false, if_true,
  eCall, eCallP, eMake, pm, eTwo, dLit, eOwn2, eLenO, okLen, eMethP, eMakeP, isC_o, eRepL, lr1_i, lr2_i, List.filterMap_cons, List.filterMap_nil, agNil, agRo, agBo, agMu, agTm, callK, boIx, muIx, tms, argsK, upE, reown, hasBo, noTm, flatRo, noLstAll, noLst, noLsts, List.nodup_nil, List.nodup_cons, List.not_mem_nil, not_false_eq_true, Nat.zero_le, Nat.le_refl, Nat.reduceLeDiff, List.mem_cons, or_false, reduceCtorEq,
  gN, gTp, gLs, gCn, gNl, iR1, iR2, iRL, iLst, iTpl, iEnum, stab,
  ite_self, str_i, fmt_i, fmt_s, isB_b, notB_b, any_l, tup_l, sExt, e0_is, t0_is, d0_is, s0_is, i0_is, sTry, hXk_n, hXk_s, sRaise, eCallX, eCallXP, eMethX, eMakeX, ePropX, eOwn2X, callX, roA, opXv_exn, opIsX_exn, List.map_cons, List.map_nil, Nat.lt_irrefl, Nat.zero_lt_one, Nat.reduceLT, Nat.zero_lt_succ, some_inj_ex,
  Option.isSome_some, Option.isSome_none, true_and, and_true, eq_self, List.length_map, decide_true, decide_false, Bool.not_true, Bool.not_false, not_true_eq_false, Bool.true_eq_false, Bool.false_eq_true, false_imp_iff, forall_const, true_imp_iff, and_self, decide_eq_true_eq, decide_eq_false_iff_not, Bool.not_eq_true', Bool.not_eq_false'])
/-! ### numbers by their endless words -/
namespace NW
open CD (backW backW_spec form_a_size)
open CD.K46 (walk_back low_uniq walkF_u wordF_u wd_word)
section
variable {base : Nat} {rs : List (Int × Int)}
/-- if two places of a walk are one, it comes round -/
theorem comes_some {p : Int × Int} {n i k : Nat} (hik : i < k) (hk : k ≤ n) (h : walkF rs i p = walkF rs k p) : ∃ r, comesF rs p n = some r := by
  cases e : comesF rs p n with
  | some r => exact ⟨r, rfl⟩
  | none =>
    exfalso
    obtain ⟨m, rfl⟩ : ∃ m, k = m + 1 := ⟨k - 1, by omega⟩
    have e1 := comesF_none e (m + 1) hk
    have e0 := comesF_none e m (by omega)
    unfold comesF at e1
    rw [e0] at e1
    have e1 : (idxQ (walkF rs (m + 1) p) (trk rs p (m + 1)) 0).map (fun j => (j, m + 1 - j)) = none := e1
    have e2 := Option.map_eq_none_iff.mp e1
    refine idxQ_none e2 ?_
    unfold trk
    exact List.mem_map.mpr ⟨i, List.mem_range.mpr hik, h⟩
/-- the fraction that goes round by a word: there is one -/
theorem ring_uniq (hr : RulesOk base rs) (h2 : 2 ≤ base) (h6 : base ≤ 60) {q : Int × Int} (hg : Good rs.length q) {n : Nat} (hn : 1 ≤ n) (hw : walkF rs n q = q) : q = ringP rs (wordF rs q n) := by
  have ho := hr.map h2 (by omega)
  have wd := wd_word ho hg n
  have wl : (wordF rs q n).length = n := wordF_len rs q n
  have fw := form_walkU ho hg.2.2 q.1 n
  rw [← wordF_u ho hg] at fw
  have wu := walkF_u ho hg n
  rw [hw] at wu
  obtain ⟨c, hc, e1, e2⟩ := low_gcd (u := uWalk rs q.2 q.1 n) hg.1
  rw [← wu] at e1 e2
  have c1 : c = 1 := by
    have : q.2 * 1 = q.2 * c := by omega
    exact (Int.eq_of_mul_eq_mul_left (by have := hg.1; omega) this).symm
  rw [c1, Int.mul_one] at e1
  rw [e1] at fw
  obtain ⟨g, c, _, _⟩ := ringP_spec ho wd (by omega)
  have ne := ne_scale ho wd (by omega)
  generalize wordF rs q n = ws at *
  generalize ringP rs ws = p at *
  generalize formF rs ws = f at *
  -- both solve one equation
  have h1 : q.1 * (f.2.2 - f.1) = f.2.1 * q.2 := by rw [Int.mul_sub, Int.mul_comm q.1, Int.mul_comm q.1]; omega
  have h3 : p.1 * (f.2.2 - f.1) = f.2.1 * p.2 := by rw [Int.mul_sub, Int.mul_comm p.1, Int.mul_comm p.1]; omega
  have cross : q.1 * p.2 = p.1 * q.2 := by
    have : (q.1 * p.2) * (f.2.2 - f.1) = (p.1 * q.2) * (f.2.2 - f.1) := by
      have a1 : (q.1 * p.2) * (f.2.2 - f.1) = (q.1 * (f.2.2 - f.1)) * p.2 := by grind
      have a2 : (p.1 * q.2) * (f.2.2 - f.1) = (p.1 * (f.2.2 - f.1)) * q.2 := by grind
      rw [a1, a2, h1, h3]; grind
    exact Int.eq_of_mul_eq_mul_right ne this
  have u1 := low_uniq hg.1 hg.2.1 g.1 (t := p.1) (by rw [cross])
  rw [low_self g.2.1] at u1
  exact u1.symm
/-- the number of a word and then another one again and again -/
def numP (rs : List (Int × Int)) (vs ws : List Int) : Int × Int := backW rs (ringP rs ws) vs
theorem num_walk (hr : RulesOk base rs) (h2 : 2 ≤ base) (h6 : base ≤ 60) {vs ws : List Int} (hv : Wd rs.length vs) (hw : Wd rs.length ws) (h1 : 1 ≤ ws.length) : walkF rs vs.length (numP rs vs ws) = ringP rs ws ∧ wordF rs (numP rs vs ws) vs.length = vs :=
  walk_back hr h2 h6 (ringP_spec (hr.map h2 (by omega)) hw h1).1 hv
/-- rounds -/
theorem ring_rounds (ho : MapOk rs) {ws : List Int} (hw : Wd rs.length ws) (h1 : 1 ≤ ws.length) : ∀ t : Nat, walkF rs (t * ws.length) (ringP rs ws) = ringP rs ws ∧ wordF rs (ringP rs ws) (t * ws.length) = (List.replicate t ws).flatten
  | 0 => by rw [Nat.zero_mul]; exact ⟨rfl, rfl⟩
  | t + 1 => by
    obtain ⟨a, b⟩ := ring_rounds ho hw h1 t
    have rr := ring_round ho hw h1
    have rw1 : wordF rs (ringP rs ws) ws.length = ws := by
      obtain ⟨g, _, u, _⟩ := ringP_spec ho hw h1
      rw [wordF_u ho g]
      exact u
    rw [Nat.succ_mul]
    constructor
    · rw [← walkF_add, a, rr]
    · rw [wordF_add, a, b, rw1, List.replicate_succ', List.flatten_append]
      simp
/-! ### the shortest words -/
def endF (rs : List (Int × Int)) (p : Int × Int) (n : Nat) : Option (List Int × List Int) := (comesF rs p n).map fun r => (wordF rs p r.1, (wordF rs p (r.1 + r.2)).drop r.1)
theorem num_comes (hr : RulesOk base rs) (h2 : 2 ≤ base) (h6 : base ≤ 60) {vs ws : List Int} (hv : Wd rs.length vs) (hw : Wd rs.length ws) (h1 : 1 ≤ ws.length) {n : Nat} (hn : vs.length + ws.length ≤ n) : ∃ e, endF rs (numP rs vs ws) n = some e := by
  have ho := hr.map h2 (by omega)
  obtain ⟨a, _⟩ := num_walk hr h2 h6 hv hw h1
  obtain ⟨r, hr1⟩ := comes_some (rs := rs) (p := numP rs vs ws) (n := n) (i := vs.length) (k := vs.length + ws.length) (by omega) hn (by
    rw [← walkF_add, a, ring_round ho hw h1])
  exact ⟨_, by unfold endF; rw [hr1]; rfl⟩
end
end NW
end TL

namespace TL
open PySem L2
set_option maxHeartbeats 2000000
local macro_rules | `(tactic| walk_at "sx") => `(tactic| try simp only [sSeq, sNil, eDisp1, eDispN, ltT_l, sumT_l, eDIn, eDNotIn, eDSetd, eDNew, eDGet, eDGet2, sDSet, eTake, sAugL, isDc, sCut, eNe2, neK, rep_l, ghs_cons, ghs_nil, eKeep, keep_fr, keep_sh, keep_gh, keep_loc, eAd, eDr, eBinG, sAppE, sRevE, sPopE, eFz, fz_sh, fz_fr, fz_gh, fz_loc, ePk, gF, gP, agBg, agMg, agBd, pvw, eCallG, get_gh, stl_gh, pok_gh, owns, List.drop_succ_cons, List.drop_zero, List.take_succ_cons, List.take_zero, List.mem_cons, List.not_mem_nil, or_false, sSet, sFrz, frz_o, frz_sh, frz_s, sIf, sRet, sRetN, sPass, sBrk, sPar, sSub, sApp, sExpr, sAsg, sAug, sFld, sRevI, sPop, eLoc, eC, eUn, eBin, eAnd, eOr, eNot, eIf, eTup, eLst, dNil, dCons, tVal_eq, tstD_bl, tAndW, tOrW, tNotW, eFld_eq, eFldD_o, eProp, eMeth, eMeth0, eSl, pNone, pSome, sl_l,
  out_sh, out_fr, get_loc, get_sh, get_fr, getL_z, getL_o, getL_s, bound_z, bound_o, bound_s, isOwn_o, isOwn_s, pok_loc, pok_sh, pok_fr, stl_loc, stlS_sh, stlS_own, stl_sh, stl_fr, lay_fr, lay_sh, lay_loc, envOf, slotsOf, valN, ghOf, endK, resK, exMu, muN, List.cons_append, List.nil_append, List.append_nil, List.length_cons, List.length_nil, Nat.reduceAdd, Nat.reduceSub, List.replicate_succ, List.replicate_zero, List.replicate,
  List.getElem?_cons_zero, List.getElem?_cons_succ, List.getElem?_nil, List.set_cons_zero, List.set_cons_succ,
  add_ii, add_ss, add_ll, sub_ii, mul_ii, fdv_ii, fdvN_ii, mod_ii, modN_ii, pow_ii, lt_ii, le_ii, gt_ii, ge_ii, eq_ii, ne_ii, ix_li, ix_ti, neg_i, abs_i, int_i, int_b, max_ii, min_ii, len_l, len_t, list_l, list_t, rev_l, isi_int, isi_bl, isi_tup, isi_lst, isi_non, isN_i, isN_n, isN_t, isN_l, notN_i, notN_n, notN_t, notN_l, isTy,
  atI0, atI1, atI2, ixN0, ixN1, ixN2, some_inj_ex, isObj, setAt0, setAt1, setAt2, setAt3, restE, keepS, wipeE, ↓reduceIte, if_false, if_true,
  eCall, eCallP, eMake, pm, eTwo, dLit, eOwn2, eLenO, okLen, eMethP, eMakeP, isC_o, eRepL, lr1_i, lr2_i, List.filterMap_cons, List.filterMap_nil, agNil, agRo, agBo, agMu, agTm, callK, boIx, muIx, tms, argsK, upE, reown, hasBo, noTm, flatRo, noLstAll, noLst, noLsts, List.nodup_nil, List.nodup_cons, List.not_mem_nil, not_false_eq_true, Nat.zero_le, Nat.le_refl, Nat.reduceLeDiff, List.mem_cons, or_false, reduceCtorEq,
  gN, gTp, gLs, gCn, gNl, iR1, iR2, iRL, iLst, iTpl, iEnum, stab,
  ite_self, str_i, fmt_i, fmt_s, isB_b, notB_b, any_l, tup_l, sExt, e0_is, t0_is, d0_is, s0_is, i0_is, sTry, hXk_n, hXk_s, sRaise, eCallX, eCallXP, eMethX, eMakeX, ePropX, eOwn2X, callX, roA, opXv_exn, opIsX_exn, List.map_cons, List.map_nil, Nat.lt_irrefl, Nat.zero_lt_one, Nat.reduceLT, Nat.zero_lt_succ, some_inj_ex,
  Option.isSome_some, Option.isSome_none, true_and, and_true, eq_self, List.length_map, decide_true, decide_false, Bool.not_true, Bool.not_false, not_true_eq_false, Bool.true_eq_false, Bool.false_eq_true, false_imp_iff, forall_const, true_imp_iff, and_self, decide_eq_true_eq, decide_eq_false_iff_not, Bool.not_eq_true', Bool.not_eq_false'])
namespace NW
open CD (backW backW_spec form_a_size)
open CD.K46 (walk_back low_uniq walkF_u wordF_u wd_word)
/- number_of: 0:rule_map 1:ahead 2:again 3:top 4:bottom 5:a 6:b 7:scale -/
/- endless_word: 0:rule_map 1:fraction 2:most 3:found 4:first 5:every 6:word -/
end NW
end TL

namespace TL
open PySem L2
set_option maxHeartbeats 2000000
local macro_rules | `(tactic| walk_at "sx") => `(tactic| try simp only [sSeq, sNil, eDisp1, eDispN, ltT_l, sumT_l, eDIn, eDNotIn, eDSetd, eDNew, eDGet, eDGet2, sDSet, eTake, sAugL, isDc, sCut, eNe2, neK, rep_l, ghs_cons, ghs_nil, eKeep, keep_fr, keep_sh, keep_gh, keep_loc, eAd, eDr, eBinG, sAppE, sRevE, sPopE, eFz, fz_sh, fz_fr, fz_gh, fz_loc, ePk, gF, gP, agBg, agMg, agBd, pvw, eCallG, get_gh, stl_gh, pok_gh, owns, List.drop_succ_cons, List.drop_zero, List.take_succ_cons, List.take_zero, List.mem_cons, List.not_mem_nil, or_false, sSet, sFrz, frz_o, frz_sh, frz_s, sIf, sRet, sRetN, sPass, sBrk, sPar, sSub, sApp, sExpr, sAsg, sAug, sFld, sRevI, sPop, eLoc, eC, eUn, eBin, eAnd, eOr, eNot, eIf, eTup, eLst, dNil, dCons, tVal_eq, tstD_bl, tAndW, tOrW, tNotW, eFld_eq, eFldD_o, eProp, eMeth, eMeth0, eSl, pNone, pSome, sl_l,
  out_sh, out_fr, get_loc, get_sh, get_fr, getL_z, getL_o, getL_s, bound_z, bound_o, bound_s, isOwn_o, isOwn_s, pok_loc, pok_sh, pok_fr, stl_loc, stlS_sh, stlS_own, stl_sh, stl_fr, lay_fr, lay_sh, lay_loc, envOf, slotsOf, valN, ghOf, endK, resK, exMu, muN, List.cons_append, List.nil_append, List.append_nil, List.length_cons, List.length_nil, Nat.reduceAdd, Nat.reduceSub, List.replicate_succ, List.replicate_zero, List.replicate,
  List.getElem?_cons_zero, List.getElem?_cons_succ, List.getElem?_nil, List.set_cons_zero, List.set_cons_succ,
  add_ii, add_ss, add_ll, sub_ii, mul_ii, fdv_ii, fdvN_ii, mod_ii, modN_ii, pow_ii, lt_ii, le_ii, gt_ii, ge_ii, eq_ii, ne_ii, ix_li, ix_ti, neg_i, abs_i, int_i, int_b, max_ii, min_ii, len_l, len_t, list_l, list_t, rev_l, isi_int, isi_bl, isi_tup, isi_lst, isi_non, isN_i, isN_n, isN_t, isN_l, notN_i, notN_n, notN_t, notN_l, isTy,
  atI0, atI1, atI2, ixN0, ixN1, ixN2, some_inj_ex, isObj, setAt0, setAt1, setAt2, setAt3, restE, keepS, wipeE, ↓reduceIte, if_false, if_true,
  eCall, eCallP, eMake, pm, eTwo, dLit, eOwn2, eLenO, okLen, eMethP, eMakeP, isC_o, eRepL, lr1_i, lr2_i, List.filterMap_cons, List.filterMap_nil, agNil, agRo, agBo, agMu, agTm, callK, boIx, muIx, tms, argsK, upE, reown, hasBo, noTm, flatRo, noLstAll, noLst, noLsts, List.nodup_nil, List.nodup_cons, List.not_mem_nil, not_false_eq_true, Nat.zero_le, Nat.le_refl, Nat.reduceLeDiff, List.mem_cons, or_false, reduceCtorEq,
  gN, gTp, gLs, gCn, gNl, iR1, iR2, iRL, iLst, iTpl, iEnum, stab,
  ite_self, str_i, fmt_i, fmt_s, isB_b, notB_b, any_l, tup_l, sExt, e0_is, t0_is, d0_is, s0_is, i0_is, sTry, hXk_n, hXk_s, sRaise, eCallX, eCallXP, eMethX, eMakeX, ePropX, eOwn2X, callX, roA, opXv_exn, opIsX_exn, List.map_cons, List.map_nil, Nat.lt_irrefl, Nat.zero_lt_one, Nat.reduceLT, Nat.zero_lt_succ, some_inj_ex,
  Option.isSome_some, Option.isSome_none, true_and, and_true, eq_self, List.length_map, decide_true, decide_false, Bool.not_true, Bool.not_false, not_true_eq_false, Bool.true_eq_false, Bool.false_eq_true, false_imp_iff, forall_const, true_imp_iff, and_self, decide_eq_true_eq, decide_eq_false_iff_not, Bool.not_eq_true', Bool.not_eq_false'])
namespace NW
namespace K87
open CD (backW backW_spec form_a_size)
open CD.K46 (walk_back low_uniq walkF_u wordF_u wd_word)
section
variable {base : Nat} {rs : List (Int × Int)}
structure PairOk (rs : List (Int × Int)) (p : List Int × List Int) : Prop where
  w1 : Wd rs.length p.1
  w2 : Wd rs.length p.2
  l0 : 1 ≤ p.2.length
  l1 : p.1.length ≤ 40
  l2 : p.2.length ≤ 40
  en : ∃ e, endF rs (numP rs p.1 p.2) 12 = some e
end
/- _law_alike: 0:chart 1:pairs 2:values 3:ends 4:k 5:other 6:front 7:back 8:value -/
end K87
end NW
end TL

namespace TL
open PySem L2
namespace NW
namespace K87
open CD (backW backW_spec form_a_size)
open CD.K46 (walk_back low_uniq walkF_u wordF_u wd_word)
set_option maxHeartbeats 2000000
local macro_rules | `(tactic| walk_at "sx") => `(tactic| try simp only [sSeq, sNil, eDisp1, eDispN, ltT_l, sumT_l, eDIn, eDNotIn, eDSetd, eDNew, eDGet, eDGet2, sDSet, eTake, sAugL, isDc, sCut, eNe2, neK, rep_l, ghs_cons, ghs_nil, eKeep, keep_fr, keep_sh, keep_gh, keep_loc, eAd, eDr, eBinG, sAppE, sRevE, sPopE, eFz, fz_sh, fz_fr, fz_gh, fz_loc, ePk, gF, gP, agBg, agMg, agBd, pvw, eCallG, get_gh, stl_gh, pok_gh, owns, List.drop_succ_cons, List.drop_zero, List.take_succ_cons, List.take_zero, List.mem_cons, List.not_mem_nil, or_false, sSet, sFrz, frz_o, frz_sh, frz_s, sIf, sRet, sRetN, sPass, sBrk, sPar, sSub, sApp, sExpr, sAsg, sAug, sFld, sRevI, sPop, eLoc, eC, eUn, eBin, eAnd, eOr, eNot, eIf, eTup, eLst, dNil, dCons, tVal_eq, tstD_bl, tAndW, tOrW, tNotW, eFld_eq, eFldD_o, eProp, eMeth, eMeth0, eSl, pNone, pSome, sl_l,
  out_sh, out_fr, get_loc, get_sh, get_fr, getL_z, getL_o, getL_s, bound_z, bound_o, bound_s, isOwn_o, isOwn_s, pok_loc, pok_sh, pok_fr, stl_loc, stlS_sh, stlS_own, stl_sh, stl_fr, lay_fr, lay_sh, lay_loc, envOf, slotsOf, valN, ghOf, endK, resK, exMu, muN, List.cons_append, List.nil_append, List.append_nil, List.length_cons, List.length_nil, Nat.reduceAdd, Nat.reduceSub, List.replicate_succ, List.replicate_zero, List.replicate,
  List.getElem?_cons_zero, List.getElem?_cons_succ, List.getElem?_nil, List.set_cons_zero, List.set_cons_succ,
  add_ii, add_ss, add_ll, sub_ii, mul_ii, fdv_ii, fdvN_ii, mod_ii, modN_ii, pow_ii, lt_ii, le_ii, gt_ii, ge_ii, eq_ii, ne_ii, ix_li, ix_ti, neg_i, abs_i, int_i, int_b, max_ii, min_ii, len_l, len_t, list_l, list_t, rev_l, isi_int, isi_bl, isi_tup, isi_lst, isi_non, isN_i, isN_n, isN_t, isN_l, notN_i, notN_n, notN_t, notN_l, isTy,
  atI0, atI1, atI2, ixN0, ixN1, ixN2, some_inj_ex, isObj, setAt0, setAt1, setAt2, setAt3, restE, keepS, wipeE, ↓reduceIte, if_false, if_true,
  eCall, eCallP, eMake, pm, eTwo, dLit, eOwn2, eLenO, okLen, eMethP, eMakeP, isC_o, eRepL, lr1_i, lr2_i, List.filterMap_cons, List.filterMap_nil, agNil, agRo, agBo, agMu, agTm, callK, boIx, muIx, tms, argsK, upE, reown, hasBo, noTm, flatRo, noLstAll, noLst, noLsts, List.nodup_nil, List.nodup_cons, List.not_mem_nil, not_false_eq_true, Nat.zero_le, Nat.le_refl, Nat.reduceLeDiff, List.mem_cons, or_false, reduceCtorEq,
  gN, gTp, gLs, gCn, gNl, iR1, iR2, iRL, iLst, iTpl, iEnum, stab,
  ite_self, str_i, fmt_i, fmt_s, isB_b, notB_b, any_l, tup_l, sExt, e0_is, t0_is, d0_is, s0_is, i0_is, sTry, hXk_n, hXk_s, sRaise, eCallX, eCallXP, eMethX, eMakeX, ePropX, eOwn2X, callX, roA, opXv_exn, opIsX_exn, List.map_cons, List.map_nil, Nat.lt_irrefl, Nat.zero_lt_one, Nat.reduceLT, Nat.zero_lt_succ, some_inj_ex,
  Option.isSome_some, Option.isSome_none, true_and, and_true, eq_self, List.length_map, decide_true, decide_false, Bool.not_true, Bool.not_false, not_true_eq_false, Bool.true_eq_false, Bool.false_eq_true, false_imp_iff, forall_const, true_imp_iff, and_self, decide_eq_true_eq, decide_eq_false_iff_not, Bool.not_eq_true', Bool.not_eq_false'])
section
variable {base : Nat} {rs : List (Int × Int)}
theorem wd_apK {m : Int} {a b : List Int} (h1 : Wd m a) (h2 : Wd m b) : Wd m (a ++ b) := fun e he => (List.mem_append.mp he).elim (h1 e) (h2 e)
theorem wd_takeK {m : Int} {a : List Int} (h : Wd m a) (n : Nat) : Wd m (a.take n) := fun e he => h e (List.mem_of_mem_take he)
theorem wd_dropK {m : Int} {a : List Int} (h : Wd m a) (n : Nat) : Wd m (a.drop n) := fun e he => h e (List.mem_of_mem_drop he)
theorem PairOk.of (hr : RulesOk base rs) (h2 : 2 ≤ base) (h6 : base ≤ 60) {v w : List Int} (w1 : Wd rs.length v) (w2 : Wd rs.length w) (l0 : 1 ≤ w.length) (hl : v.length + w.length ≤ 12) : PairOk rs (v, w) :=
  ⟨w1, w2, l0, by show v.length ≤ 40; omega, by show w.length ≤ 40; omega, num_comes hr h2 h6 w1 w2 l0 hl⟩
end
/- _law_right: 0:source 1:chart 2:base 3:front 4:middle 5:back 6:spot 7:pairs 8:first 9:value 10:times 11:count -/
/- law: 0:script 1:source 2:base 3:rules 4:chart 5:k -/
end K87
end NW
end TL

namespace TL
open PySem L2
set_option maxHeartbeats 2000000
local macro_rules | `(tactic| walk_at "sx") => `(tactic| try simp only [sSeq, sNil, eDisp1, eDispN, ltT_l, sumT_l, eDIn, eDNotIn, eDSetd, eDNew, eDGet, eDGet2, sDSet, eTake, sAugL, isDc, sCut, eNe2, neK, rep_l, ghs_cons, ghs_nil, eKeep, keep_fr, keep_sh, keep_gh, keep_loc, eAd, eDr, eBinG, sAppE, sRevE, sPopE, eFz, fz_sh, fz_fr, fz_gh, fz_loc, ePk, gF, gP, agBg, agMg, agBd, pvw, eCallG, get_gh, stl_gh, pok_gh, owns, List.drop_succ_cons, List.drop_zero, List.take_succ_cons, List.take_zero, List.mem_cons, List.not_mem_nil, or_false, sSet, sFrz, frz_o, frz_sh, frz_s, sIf, sRet, sRetN, sPass, sBrk, sPar, sSub, sApp, sExpr, sAsg, sAug, sFld, sRevI, sPop, eLoc, eC, eUn, eBin, eAnd, eOr, eNot, eIf, eTup, eLst, dNil, dCons, tVal_eq, tstD_bl, tAndW, tOrW, tNotW, eFld_eq, eFldD_o, eProp, eMeth, eMeth0, eSl, pNone, pSome, sl_l,
  out_sh, out_fr, get_loc, get_sh, get_fr, getL_z, getL_o, getL_s, bound_z, bound_o, bound_s, isOwn_o, isOwn_s, pok_loc, pok_sh, pok_fr, stl_loc, stlS_sh, stlS_own, stl_sh, stl_fr, lay_fr, lay_sh, lay_loc, envOf, slotsOf, valN, ghOf, endK, resK, exMu, muN, List.cons_append, List.nil_append, List.append_nil, List.length_cons, List.length_nil, Nat.reduceAdd, Nat.reduceSub, List.replicate_succ, List.replicate_zero, List.replicate,
  List.getElem?_cons_zero, List.getElem?_cons_succ, List.getElem?_nil, List.set_cons_zero, List.set_cons_succ,
  add_ii, add_ss, add_ll, sub_ii, mul_ii, fdv_ii, fdvN_ii, mod_ii, modN_ii, pow_ii, lt_ii, le_ii, gt_ii, ge_ii, eq_ii, ne_ii, ix_li, ix_ti, neg_i, abs_i, int_i, int_b, max_ii, min_ii, len_l, len_t, list_l, list_t, rev_l, isi_int, isi_bl, isi_tup, isi_lst, isi_non, isN_i, isN_n, isN_t, isN_l, notN_i, notN_n, notN_t, notN_l, isTy,
  atI0, atI1, atI2, ixN0, ixN1, ixN2, some_inj_ex, isObj, setAt0, setAt1, setAt2, setAt3, restE, keepS, wipeE, ↓reduceIte, if_false, if_true,
  eCall, eCallP, eMake, pm, eTwo, dLit, eOwn2, eLenO, okLen, eMethP, eMakeP, isC_o, eRepL, lr1_i, lr2_i, List.filterMap_cons, List.filterMap_nil, agNil, agRo, agBo, agMu, agTm, callK, boIx, muIx, tms, argsK, upE, reown, hasBo, noTm, flatRo, noLstAll, noLst, noLsts, List.nodup_nil, List.nodup_cons, List.not_mem_nil, not_false_eq_true, Nat.zero_le, Nat.le_refl, Nat.reduceLeDiff, List.mem_cons, or_false, reduceCtorEq,
  gN, gTp, gLs, gCn, gNl, iR1, iR2, iRL, iLst, iTpl, iEnum, stab,
  ite_self, str_i, fmt_i, fmt_s, isB_b, notB_b, any_l, tup_l, sExt, e0_is, t0_is, d0_is, s0_is, i0_is, sTry, hXk_n, hXk_s, sRaise, eCallX, eCallXP, eMethX, eMakeX, ePropX, eOwn2X, callX, roA, opXv_exn, opIsX_exn, List.map_cons, List.map_nil, Nat.lt_irrefl, Nat.zero_lt_one, Nat.reduceLT, Nat.zero_lt_succ, some_inj_ex,
  Option.isSome_some, Option.isSome_none, true_and, and_true, eq_self, List.length_map, decide_true, decide_false, Bool.not_true, Bool.not_false, not_true_eq_false, Bool.true_eq_false, Bool.false_eq_true, false_imp_iff, forall_const, true_imp_iff, and_self, decide_eq_true_eq, decide_eq_false_iff_not, Bool.not_eq_true', Bool.not_eq_false'])
namespace NW
namespace K33
open CD (backW backW_spec form_a_size)
open CD.K46 (walk_back low_uniq walkF_u wordF_u wd_word)
open K87 (wd_apK wd_takeK wd_dropK)
section
variable {base : Nat} {rs : List (Int × Int)} {p : Int × Int} {n j k : Nat}
theorem apart (h : comesF rs p n = some (j, k)) {i t : Nat} (hi : i < t) (ht : t < j + k) : walkF rs i p ≠ walkF rs t p := fun e => by
  obtain ⟨c1, _, _, c4, _⟩ := comesF_at h
  have c4 : comesF rs p (j + k - 1) = none := c4
  obtain ⟨r, hr⟩ := comes_some (n := j + k - 1) hi (by omega) e
  rw [c4] at hr
  cases hr
theorem rep_walk {e : Nat} {x : Int × Int} (h : walkF rs e x = x) : ∀ t, walkF rs (e * t) x = x
  | 0 => rfl
  | t + 1 => by
    rw [Nat.mul_succ, ← walkF_add, rep_walk h t, h]
theorem per_ge (h : comesF rs p n = some (j, k)) {m : Nat} (hm : j ≤ m) : walkF rs k (walkF rs m p) = walkF rs m p := by
  obtain ⟨_, _, _, _, c5⟩ := comesF_at h
  have c5 : walkF rs j p = walkF rs (j + k) p := c5
  obtain ⟨d, rfl⟩ := Nat.exists_eq_add_of_le hm
  rw [walkF_add, show j + d + k = j + k + d by omega, ← walkF_add rs (j + k) p d, ← c5, walkF_add]
/-- where the walk goes round, by steps that the least period divides -/
theorem per_of (h : comesF rs p n = some (j, k)) {m e : Nat} (he : 1 ≤ e) (hw : walkF rs e (walkF rs m p) = walkF rs m p) : j ≤ m ∧ k ∣ e := by
  obtain ⟨c1, _, _, _, c5⟩ := comesF_at h
  have c1 : 1 ≤ k := c1
  have hj : j ≤ m := by
    by_cases hj : j ≤ m
    · exact hj
    exfalso
    have r := rep_walk hw j
    have e1 : walkF rs k (walkF rs m p) = walkF rs m p := by
      have q := per_ge h (m := m + e * j) (by have : j ≤ e * j := Nat.le_mul_of_pos_left j (by omega)
                                              omega)
      rw [← walkF_add rs m p (e * j), r] at q
      exact q
    rw [walkF_add] at e1
    exact apart h (show m < m + k by omega) (by omega) e1.symm
  refine ⟨hj, ?_⟩
  obtain ⟨d, rfl⟩ := Nat.exists_eq_add_of_le hj
  have pk := per_ge h hj
  have er : walkF rs (e % k) (walkF rs (j + d) p) = walkF rs (j + d) p := by
    have e0 : k * (e / k) + e % k = e := Nat.div_add_mod e k
    have q := hw
    rw [← e0, ← walkF_add, rep_walk pk (e / k)] at q
    exact q
  by_cases h0 : e % k = 0
  · exact Nat.dvd_of_mod_eq_zero h0
  exfalso
  have lt : e % k < k := Nat.mod_lt _ (by omega)
  have kd : d ≤ k * d := Nat.le_mul_of_pos_left d (by omega)
  have s1 : walkF rs (k * d - d) (walkF rs (j + d) p) = walkF rs j p := by
    rw [walkF_add, show j + d + (k * d - d) = j + k * d by omega, ← walkF_add, rep_walk (per_ge h (Nat.le_refl j)) d]
  have s2 : walkF rs (e % k) (walkF rs j p) = walkF rs j p := by
    rw [← s1, walkF_add, walkF_add, show j + d + (k * d - d + e % k) = (j + d + e % k) + (k * d - d) by omega, ← walkF_add, ← walkF_add rs (j + d) p (e % k), er]
  rw [walkF_add] at s2
  exact apart h (show j < j + e % k by omega) (by omega) s2.symm
/-- the ring of a word turned -/
theorem rot_ring (hr : RulesOk base rs) (h2 : 2 ≤ base) (h6 : base ≤ 60) {ws : List Int} (hw : Wd rs.length ws) (h1 : 1 ≤ ws.length) {s : Nat} (hs : s ≤ ws.length) : walkF rs s (ringP rs ws) = ringP rs (ws.drop s ++ ws.take s) ∧ wordF rs (ringP rs ws) s = ws.take s := by
  have ho := hr.map h2 (by omega)
  obtain ⟨g, _⟩ := ringP_spec ho hw h1
  obtain ⟨w1, w2⟩ := ring_rounds ho hw h1 1
  rw [Nat.one_mul] at w1 w2
  have w2 : wordF rs (ringP rs ws) ws.length = ws := by rw [w2]; simp
  have hsp := wordF_add rs (ringP rs ws) s (ws.length - s)
  rw [show s + (ws.length - s) = ws.length by omega, w2] at hsp
  have hT : wordF rs (ringP rs ws) s = ws.take s := by
    have := congrArg (List.take s) hsp
    rw [List.take_left' (wordF_len _ _ _)] at this
    exact this.symm
  have hD : wordF rs (walkF rs s (ringP rs ws)) (ws.length - s) = ws.drop s := by
    have := congrArg (List.drop s) hsp
    rw [List.drop_left' (wordF_len _ _ _)] at this
    exact this.symm
  have e1 := wordF_add rs (walkF rs s (ringP rs ws)) (ws.length - s) s
  rw [walkF_add, show s + (ws.length - s) = ws.length by omega, w1, hT, hD, show ws.length - s + s = ws.length by omega] at e1
  have e2 : walkF rs ws.length (walkF rs s (ringP rs ws)) = walkF rs s (ringP rs ws) := by
    rw [walkF_add, Nat.add_comm, ← walkF_add, w1]
  have q := ring_uniq hr h2 h6 (walkF_good g s) h1 e2
  rw [e1] at q
  exact ⟨q, hT⟩
/-- a word that repeats its beginning: the ring is round after it -/
theorem pow_round (hr : RulesOk base rs) (h2 : 2 ≤ base) (h6 : base ≤ 60) {ws : List Int} (hw : Wd rs.length ws) (h1 : 1 ≤ ws.length) {c : Nat} (hc : c ≤ ws.length) (he : (List.replicate (ws.length / c) (ws.take c)).flatten = ws) : walkF rs c (ringP rs ws) = ringP rs ws := by
  rw [(rot_ring hr h2 h6 hw h1 hc).1]
  congr 1
  obtain ⟨q, hq⟩ : ∃ q, ws.length / c = q := ⟨_, rfl⟩
  rw [hq] at he
  cases q with
  | zero =>
    rw [← he] at h1
    simp at h1
  | succ q =>
    have lt : (ws.take c).length = c := by rw [List.length_take]; omega
    have hd : ws.drop c = (List.replicate q (ws.take c)).flatten := by
      conv => lhs; rw [← he]
      rw [List.replicate_succ, List.flatten_cons, List.drop_left' lt]
    have hs : (List.replicate (q + 1) (ws.take c)).flatten = (List.replicate q (ws.take c)).flatten ++ ws.take c := by
      rw [List.replicate_succ', List.flatten_append]
      simp
    rw [hd, ← hs, he]
/-- of the words that a word repeats the shortest is as long as the ring -/
theorem root (hr : RulesOk base rs) (h2 : 2 ≤ base) (h6 : base ≤ 60) {vs ws : List Int} (hv : Wd rs.length vs) (hw : Wd rs.length ws) (h1 : 1 ≤ ws.length) (h : comesF rs (numP rs vs ws) n = some (j, k)) : j ≤ vs.length ∧ 1 ≤ k ∧ k ∣ ws.length ∧ (List.replicate (ws.length / k) (ws.take k)).flatten = ws ∧ ∀ c, 1 ≤ c → c ≤ ws.length → (List.replicate (ws.length / c) (ws.take c)).flatten = ws → k ∣ c := by
  have ho := hr.map h2 (by omega)
  obtain ⟨a, b⟩ := num_walk hr h2 h6 hv hw h1
  have rr := ring_round ho hw h1
  rw [← a] at rr
  obtain ⟨e1, e2⟩ := per_of h h1 rr
  have k1 : 1 ≤ k := (comesF_at h).1
  obtain ⟨t, ht⟩ := e2
  have hk : k ≤ ws.length := Nat.le_of_dvd (by omega) ⟨t, ht⟩
  have pk := per_ge h e1
  rw [a] at pk
  refine ⟨e1, k1, ⟨t, ht⟩, ?_, fun c c1 c2 hc => ?_⟩
  · have et : ws.length / k = t := by rw [ht]; exact Nat.mul_div_cancel_left t (by omega)
    rw [et, ← (rot_ring hr h2 h6 hw h1 hk).2]
    have wl : (wordF rs (ringP rs ws) k).length = k := wordF_len _ _ _
    obtain ⟨g, _⟩ := ringP_spec ho hw h1
    have q := ring_uniq hr h2 h6 g k1 pk
    have r := (ring_rounds ho (wd_word ho g k) (by rw [wl]; exact k1) t).2
    rw [← q, wl] at r
    rw [← r, Nat.mul_comm, ← ht]
    have w2 := (ring_rounds ho hw h1 1).2
    rw [Nat.one_mul] at w2
    rw [w2]
    simp
  · have := pow_round hr h2 h6 hw h1 c2 hc
    rw [← a] at this
    exact (per_of h c1 this).2
end
end K33
end NW
end TL

namespace TL
open PySem L2
namespace NW
namespace K33
open CD (backW backW_spec form_a_size)
open CD.K46 (walk_back low_uniq walkF_u wordF_u wd_word)
open K87 (wd_apK wd_takeK wd_dropK)
set_option maxHeartbeats 2000000
local macro_rules | `(tactic| walk_at "sx") => `(tactic| try simp only [sSeq, sNil, eDisp1, eDispN, ltT_l, sumT_l, eDIn, eDNotIn, eDSetd, eDNew, eDGet, eDGet2, sDSet, eTake, sAugL, isDc, sCut, eNe2, neK, rep_l, ghs_cons, ghs_nil, eKeep, keep_fr, keep_sh, keep_gh, keep_loc, eAd, eDr, eBinG, sAppE, sRevE, sPopE, eFz, fz_sh, fz_fr, fz_gh, fz_loc, ePk, gF, gP, agBg, agMg, agBd, pvw, eCallG, get_gh, stl_gh, pok_gh, owns, List.drop_succ_cons, List.drop_zero, List.take_succ_cons, List.take_zero, List.mem_cons, List.not_mem_nil, or_false, sSet, sFrz, frz_o, frz_sh, frz_s, sIf, sRet, sRetN, sPass, sBrk, sPar, sSub, sApp, sExpr, sAsg, sAug, sFld, sRevI, sPop, eLoc, eC, eUn, eBin, eAnd, eOr, eNot, eIf, eTup, eLst, dNil, dCons, tVal_eq, tstD_bl, tAndW, tOrW, tNotW, eFld_eq, eFldD_o, eProp, eMeth, eMeth0, eSl, pNone, pSome, sl_l,
  out_sh, out_fr, get_loc, get_sh, get_fr, getL_z, getL_o, getL_s, bound_z, bound_o, bound_s, isOwn_o, isOwn_s, pok_loc, pok_sh, pok_fr, stl_loc, stlS_sh, stlS_own, stl_sh, stl_fr, lay_fr, lay_sh, lay_loc, envOf, slotsOf, valN, ghOf, endK, resK, exMu, muN, List.cons_append, List.nil_append, List.append_nil, List.length_cons, List.length_nil, Nat.reduceAdd, Nat.reduceSub, List.replicate_succ, List.replicate_zero, List.replicate,
  List.getElem?_cons_zero, List.getElem?_cons_succ, List.getElem?_nil, List.set_cons_zero, List.set_cons_succ,
  add_ii, add_ss, add_ll, sub_ii, mul_ii, fdv_ii, fdvN_ii, mod_ii, modN_ii, pow_ii, lt_ii, le_ii, gt_ii, ge_ii, eq_ii, ne_ii, ix_li, ix_ti, neg_i, abs_i, int_i, int_b, max_ii, min_ii, len_l, len_t, list_l, list_t, rev_l, isi_int, isi_bl, isi_tup, isi_lst, isi_non, isN_i, isN_n, isN_t, isN_l, notN_i, notN_n, notN_t, notN_l, isTy,
  atI0, atI1, atI2, ixN0, ixN1, ixN2, some_inj_ex, isObj, setAt0, setAt1, setAt2, setAt3, restE, keepS, wipeE, ↓reduceIte, if_false, if_true,
  eCall, eCallP, eMake, pm, eTwo, dLit, eOwn2, eLenO, okLen, eMethP, eMakeP, isC_o, eRepL, lr1_i, lr2_i, List.filterMap_cons, List.filterMap_nil, agNil, agRo, agBo, agMu, agTm, callK, boIx, muIx, tms, argsK, upE, reown, hasBo, noTm, flatRo, noLstAll, noLst, noLsts, List.nodup_nil, List.nodup_cons, List.not_mem_nil, not_false_eq_true, Nat.zero_le, Nat.le_refl, Nat.reduceLeDiff, List.mem_cons, or_false, reduceCtorEq,
  gN, gTp, gLs, gCn, gNl, iR1, iR2, iRL, iLst, iTpl, iEnum, stab,
  ite_self, str_i, fmt_i, fmt_s, isB_b, notB_b, any_l, tup_l, sExt, e0_is, t0_is, d0_is, s0_is, i0_is, sTry, hXk_n, hXk_s, sRaise, eCallX, eCallXP, eMethX, eMakeX, ePropX, eOwn2X, callX, roA, opXv_exn, opIsX_exn, List.map_cons, List.map_nil, Nat.lt_irrefl, Nat.zero_lt_one, Nat.reduceLT, Nat.zero_lt_succ, some_inj_ex,
  Option.isSome_some, Option.isSome_none, true_and, and_true, eq_self, List.length_map, decide_true, decide_false, Bool.not_true, Bool.not_false, not_true_eq_false, Bool.true_eq_false, Bool.false_eq_true, false_imp_iff, forall_const, true_imp_iff, and_self, decide_eq_true_eq, decide_eq_false_iff_not, Bool.not_eq_true', Bool.not_eq_false'])
/- _law_later: 0:front 1:back 2:count 3:spot -/
/- _law_shortest: 0:front 1:back 2:shorter 3:count 4:turn -/
end K33
end NW
end TL

namespace TL
open PySem L2
namespace NW
namespace K33
open CD (backW backW_spec form_a_size)
open CD.K46 (walk_back low_uniq walkF_u wordF_u wd_word)
open K87 (wd_apK wd_takeK wd_dropK)
set_option maxHeartbeats 2000000
local macro_rules | `(tactic| walk_at "sx") => `(tactic| try simp only [sSeq, sNil, eDisp1, eDispN, ltT_l, sumT_l, eDIn, eDNotIn, eDSetd, eDNew, eDGet, eDGet2, sDSet, eTake, sAugL, isDc, sCut, eNe2, neK, rep_l, ghs_cons, ghs_nil, eKeep, keep_fr, keep_sh, keep_gh, keep_loc, eAd, eDr, eBinG, sAppE, sRevE, sPopE, eFz, fz_sh, fz_fr, fz_gh, fz_loc, ePk, gF, gP, agBg, agMg, agBd, pvw, eCallG, get_gh, stl_gh, pok_gh, owns, List.drop_succ_cons, List.drop_zero, List.take_succ_cons, List.take_zero, List.mem_cons, List.not_mem_nil, or_false, sSet, sFrz, frz_o, frz_sh, frz_s, sIf, sRet, sRetN, sPass, sBrk, sPar, sSub, sApp, sExpr, sAsg, sAug, sFld, sRevI, sPop, eLoc, eC, eUn, eBin, eAnd, eOr, eNot, eIf, eTup, eLst, dNil, dCons, tVal_eq, tstD_bl, tAndW, tOrW, tNotW, eFld_eq, eFldD_o, eProp, eMeth, eMeth0, eSl, pNone, pSome, sl_l,
  out_sh, out_fr, get_loc, get_sh, get_fr, getL_z, getL_o, getL_s, bound_z, bound_o, bound_s, isOwn_o, isOwn_s, pok_loc, pok_sh, pok_fr, stl_loc, stlS_sh, stlS_own, stl_sh, stl_fr, lay_fr, lay_sh, lay_loc, envOf, slotsOf, valN, ghOf, endK, resK, exMu, muN, List.cons_append, List.nil_append, List.append_nil, List.length_cons, List.length_nil, Nat.reduceAdd, Nat.reduceSub, List.replicate_succ, List.replicate_zero, List.replicate,
  List.getElem?_cons_zero, List.getElem?_cons_succ, List.getElem?_nil, List.set_cons_zero, List.set_cons_succ,
  add_ii, add_ss, add_ll, sub_ii, mul_ii, fdv_ii, fdvN_ii, mod_ii, modN_ii, pow_ii, lt_ii, le_ii, gt_ii, ge_ii, eq_ii, ne_ii, ix_li, ix_ti, neg_i, abs_i, int_i, int_b, max_ii, min_ii, len_l, len_t, list_l, list_t, rev_l, isi_int, isi_bl, isi_tup, isi_lst, isi_non, isN_i, isN_n, isN_t, isN_l, notN_i, notN_n, notN_t, notN_l, isTy,
  atI0, atI1, atI2, ixN0, ixN1, ixN2, some_inj_ex, isObj, setAt0, setAt1, setAt2, setAt3, restE, keepS, wipeE, ↓reduceIte, if_false, if_true,
  eCall, eCallP, eMake, pm, eTwo, dLit, eOwn2, eLenO, okLen, eMethP, eMakeP, isC_o, eRepL, lr1_i, lr2_i, List.filterMap_cons, List.filterMap_nil, agNil, agRo, agBo, agMu, agTm, callK, boIx, muIx, tms, argsK, upE, reown, hasBo, noTm, flatRo, noLstAll, noLst, noLsts, List.nodup_nil, List.nodup_cons, List.not_mem_nil, not_false_eq_true, Nat.zero_le, Nat.le_refl, Nat.reduceLeDiff, List.mem_cons, or_false, reduceCtorEq,
  gN, gTp, gLs, gCn, gNl, iR1, iR2, iRL, iLst, iTpl, iEnum, stab,
  ite_self, str_i, fmt_i, fmt_s, isB_b, notB_b, any_l, tup_l, sExt, e0_is, t0_is, d0_is, s0_is, i0_is, sTry, hXk_n, hXk_s, sRaise, eCallX, eCallXP, eMethX, eMakeX, ePropX, eOwn2X, callX, roA, opXv_exn, opIsX_exn, List.map_cons, List.map_nil, Nat.lt_irrefl, Nat.zero_lt_one, Nat.reduceLT, Nat.zero_lt_succ, some_inj_ex,
  Option.isSome_some, Option.isSome_none, true_and, and_true, eq_self, List.length_map, decide_true, decide_false, Bool.not_true, Bool.not_false, not_true_eq_false, Bool.true_eq_false, Bool.false_eq_true, false_imp_iff, forall_const, true_imp_iff, and_self, decide_eq_true_eq, decide_eq_false_iff_not, Bool.not_eq_true', Bool.not_eq_false'])
/- _law_right: 0:chart 1:base 2:rules 3:front 4:back 5:count 6:passed 7:found 8:places 9:path 10:later 11:short -/
end K33
end NW
end TL

namespace TL
open PySem L2
namespace NW
namespace K33
open CD (backW backW_spec form_a_size)
open CD.K46 (walk_back low_uniq walkF_u wordF_u wd_word)
open K87 (wd_apK wd_takeK wd_dropK)
set_option maxHeartbeats 2000000
local macro_rules | `(tactic| walk_at "sx") => `(tactic| try simp only [sSeq, sNil, eDisp1, eDispN, ltT_l, sumT_l, eDIn, eDNotIn, eDSetd, eDNew, eDGet, eDGet2, sDSet, eTake, sAugL, isDc, sCut, eNe2, neK, rep_l, ghs_cons, ghs_nil, eKeep, keep_fr, keep_sh, keep_gh, keep_loc, eAd, eDr, eBinG, sAppE, sRevE, sPopE, eFz, fz_sh, fz_fr, fz_gh, fz_loc, ePk, gF, gP, agBg, agMg, agBd, pvw, eCallG, get_gh, stl_gh, pok_gh, owns, List.drop_succ_cons, List.drop_zero, List.take_succ_cons, List.take_zero, List.mem_cons, List.not_mem_nil, or_false, sSet, sFrz, frz_o, frz_sh, frz_s, sIf, sRet, sRetN, sPass, sBrk, sPar, sSub, sApp, sExpr, sAsg, sAug, sFld, sRevI, sPop, eLoc, eC, eUn, eBin, eAnd, eOr, eNot, eIf, eTup, eLst, dNil, dCons, tVal_eq, tstD_bl, tAndW, tOrW, tNotW, eFld_eq, eFldD_o, eProp, eMeth, eMeth0, eSl, pNone, pSome, sl_l,
  out_sh, out_fr, get_loc, get_sh, get_fr, getL_z, getL_o, getL_s, bound_z, bound_o, bound_s, isOwn_o, isOwn_s, pok_loc, pok_sh, pok_fr, stl_loc, stlS_sh, stlS_own, stl_sh, stl_fr, lay_fr, lay_sh, lay_loc, envOf, slotsOf, valN, ghOf, endK, resK, exMu, muN, List.cons_append, List.nil_append, List.append_nil, List.length_cons, List.length_nil, Nat.reduceAdd, Nat.reduceSub, List.replicate_succ, List.replicate_zero, List.replicate,
  List.getElem?_cons_zero, List.getElem?_cons_succ, List.getElem?_nil, List.set_cons_zero, List.set_cons_succ,
  add_ii, add_ss, add_ll, sub_ii, mul_ii, fdv_ii, fdvN_ii, mod_ii, modN_ii, pow_ii, lt_ii, le_ii, gt_ii, ge_ii, eq_ii, ne_ii, ix_li, ix_ti, neg_i, abs_i, int_i, int_b, max_ii, min_ii, len_l, len_t, list_l, list_t, rev_l, isi_int, isi_bl, isi_tup, isi_lst, isi_non, isN_i, isN_n, isN_t, isN_l, notN_i, notN_n, notN_t, notN_l, isTy,
  atI0, atI1, atI2, ixN0, ixN1, ixN2, some_inj_ex, isObj, setAt0, setAt1, setAt2, setAt3, restE, keepS, wipeE, ↓reduceIte, if_false, if_true,
  eCall, eCallP, eMake, pm, eTwo, dLit, eOwn2, eLenO, okLen, eMethP, eMakeP, isC_o, eRepL, lr1_i, lr2_i, List.filterMap_cons, List.filterMap_nil, agNil, agRo, agBo, agMu, agTm, callK, boIx, muIx, tms, argsK, upE, reown, hasBo, noTm, flatRo, noLstAll, noLst, noLsts, List.nodup_nil, List.nodup_cons, List.not_mem_nil, not_false_eq_true, Nat.zero_le, Nat.le_refl, Nat.reduceLeDiff, List.mem_cons, or_false, reduceCtorEq,
  gN, gTp, gLs, gCn, gNl, iR1, iR2, iRL, iLst, iTpl, iEnum, stab,
  ite_self, str_i, fmt_i, fmt_s, isB_b, notB_b, any_l, tup_l, sExt, e0_is, t0_is, d0_is, s0_is, i0_is, sTry, hXk_n, hXk_s, sRaise, eCallX, eCallXP, eMethX, eMakeX, ePropX, eOwn2X, callX, roA, opXv_exn, opIsX_exn, List.map_cons, List.map_nil, Nat.lt_irrefl, Nat.zero_lt_one, Nat.reduceLT, Nat.zero_lt_succ, some_inj_ex,
  Option.isSome_some, Option.isSome_none, true_and, and_true, eq_self, List.length_map, decide_true, decide_false, Bool.not_true, Bool.not_false, not_true_eq_false, Bool.true_eq_false, Bool.false_eq_true, false_imp_iff, forall_const, true_imp_iff, and_self, decide_eq_true_eq, decide_eq_false_iff_not, Bool.not_eq_true', Bool.not_eq_false'])
/- law: 0:script 1:source 2:base 3:rules 4:chart 5:k 6:front 7:back -/
section
variable {kx : Nat → D → Prop} {K : SK} {c : Addr} {x y z : Int} {base : Nat} {k : Int} {rs : List (Int × Int)} {f b ns : List Int}
end
end K33
end NW
end TL

namespace TL
open PySem L2
set_option maxHeartbeats 2000000
local macro_rules | `(tactic| walk_at "sx") => `(tactic| try simp only [sSeq, sNil, eDisp1, eDispN, ltT_l, sumT_l, eDIn, eDNotIn, eDSetd, eDNew, eDGet, eDGet2, sDSet, eTake, sAugL, isDc, sCut, eNe2, neK, rep_l, minT_t, ghs_cons, ghs_nil, eKeep, keep_fr, keep_sh, keep_gh, keep_loc, eAd, eDr, eBinG, sAppE, sRevE, sPopE, eFz, fz_sh, fz_fr, fz_gh, fz_loc, ePk, gF, gP, agBg, agMg, agBd, pvw, eCallG, get_gh, stl_gh, pok_gh, owns, List.drop_succ_cons, List.drop_zero, List.take_succ_cons, List.take_zero, List.mem_cons, List.not_mem_nil, or_false, sSet, sFrz, frz_o, frz_sh, frz_s, sIf, sRet, sRetN, sPass, sBrk, sPar, sSub, sApp, sExpr, sAsg, sAug, sFld, sRevI, sPop, eLoc, eC, eUn, eBin, eAnd, eOr, eNot, eIf, eTup, eLst, dNil, dCons, tVal_eq, tstD_bl, tAndW, tOrW, tNotW, eFld_eq, eFldD_o, eProp, eMeth, eMeth0, eSl, pNone, pSome, sl_l,
  out_sh, out_fr, get_loc, get_sh, get_fr, getL_z, getL_o, getL_s, bound_z, bound_o, bound_s, isOwn_o, isOwn_s, pok_loc, pok_sh, pok_fr, stl_loc, stlS_sh, stlS_own, stl_sh, stl_fr, lay_fr, lay_sh, lay_loc, envOf, slotsOf, valN, ghOf, endK, resK, exMu, muN, List.cons_append, List.nil_append, List.append_nil, List.length_cons, List.length_nil, Nat.reduceAdd, Nat.reduceSub, List.replicate_succ, List.replicate_zero, List.replicate,
  List.getElem?_cons_zero, List.getElem?_cons_succ, List.getElem?_nil, List.set_cons_zero, List.set_cons_succ,
  add_ii, add_ss, add_ll, sub_ii, mul_ii, fdv_ii, fdvN_ii, mod_ii, modN_ii, pow_ii, lt_ii, le_ii, gt_ii, ge_ii, eq_ii, ne_ii, ix_li, ix_ti, neg_i, abs_i, int_i, int_b, max_ii, min_ii, len_l, len_t, list_l, list_t, rev_l, isi_int, isi_bl, isi_tup, isi_lst, isi_non, isN_i, isN_n, isN_t, isN_l, notN_i, notN_n, notN_t, notN_l, isTy,
  atI0, atI1, atI2, ixN0, ixN1, ixN2, some_inj_ex, isObj, setAt0, setAt1, setAt2, setAt3, restE, keepS, wipeE, ↓reduceIte, if_false, if_true,
  eCall, eCallP, eMake, pm, eTwo, dLit, eOwn2, eLenO, okLen, eMethP, eMakeP, isC_o, eRepL, lr1_i, lr2_i, List.filterMap_cons, List.filterMap_nil, agNil, agRo, agBo, agMu, agTm, callK, boIx, muIx, tms, argsK, upE, reown, hasBo, noTm, flatRo, noLstAll, noLst, noLsts, List.nodup_nil, List.nodup_cons, List.not_mem_nil, not_false_eq_true, Nat.zero_le, Nat.le_refl, Nat.reduceLeDiff, List.mem_cons, or_false, reduceCtorEq,
  gN, gTp, gLs, gCn, gNl, iR1, iR2, iRL, iLst, iTpl, iEnum, stab,
  ite_self, str_i, fmt_i, fmt_s, isB_b, notB_b, any_l, tup_l, sExt, e0_is, t0_is, d0_is, s0_is, i0_is, sTry, hXk_n, hXk_s, sRaise, eCallX, eCallXP, eMethX, eMakeX, ePropX, eOwn2X, callX, roA, opXv_exn, opIsX_exn, List.map_cons, List.map_nil, Nat.lt_irrefl, Nat.zero_lt_one, Nat.reduceLT, Nat.zero_lt_succ, some_inj_ex,
  Option.isSome_some, Option.isSome_none, true_and, and_true, eq_self, List.length_map, decide_true, decide_false, Bool.not_true, Bool.not_false, not_true_eq_false, Bool.true_eq_false, Bool.false_eq_true, false_imp_iff, forall_const, true_imp_iff, and_self, decide_eq_true_eq, decide_eq_false_iff_not, Bool.not_eq_true', Bool.not_eq_false'])
/-! ### plain words: each ring of fractions has one, and the rings count the words -/
namespace NW
namespace PW
open CD (backW)
open CD.K46 (walk_back wd_word)
open K33 (per_of per_ge rot_ring rep_walk apart root)
open K87 (wd_apK wd_takeK wd_dropK)
def rotL (k : Nat) (w : List Int) : List Int := w.drop k ++ w.take k
theorem rotL_len (k : Nat) (w : List Int) : (rotL k w).length = w.length := by unfold rotL; simp; omega
def Plain (w : List Int) : Prop := ∀ k, 1 ≤ k → k < w.length → w < rotL k w
section
variable {base : Nat} {rs : List (Int × Int)}
theorem word_ring (ho : MapOk rs) {w : List Int} (hw : Wd rs.length w) (h1 : 1 ≤ w.length) : wordF rs (ringP rs w) w.length = w := by
  have := (ring_rounds ho hw h1 1).2
  rw [Nat.one_mul] at this
  rw [this]
  simp
theorem rot_wd {w : List Int} (hw : Wd rs.length w) (k : Nat) : Wd rs.length (rotL k w) := wd_apK (wd_dropK hw k) (wd_takeK hw k)
/-- the least period of a ring's first place -/
theorem ring_per (hr : RulesOk base rs) (h2 : 2 ≤ base) (h6 : base ≤ 60) {x : Int × Int} {n : Nat} (hn : 1 ≤ n) (hx : walkF rs n x = x) : ∃ k, comesF rs x n = some (0, k) ∧ 1 ≤ k ∧ k ∣ n := by
  obtain ⟨⟨j, k⟩, h⟩ := comes_some (rs := rs) (p := x) (i := 0) (k := n) (n := n) hn (Nat.le_refl _) (by rw [hx]; rfl)
  obtain ⟨a, b⟩ := per_of h (m := 0) hn (by show walkF rs n x = x; exact hx)
  have k1 : 1 ≤ k := (comesF_at h).1
  obtain rfl : j = 0 := by omega
  exact ⟨k, h, k1, b⟩
theorem plain_per (hr : RulesOk base rs) (h2 : 2 ≤ base) (h6 : base ≤ 60) {p : List Int} (hp : Wd rs.length p) (h1 : 1 ≤ p.length) (hpl : Plain p) : comesF rs (ringP rs p) p.length = some (0, p.length) := by
  have ho := hr.map h2 (by omega)
  have rr := ring_round ho hp h1
  obtain ⟨k, h, k1, kd⟩ := ring_per hr h2 h6 h1 rr
  have kl := Nat.le_of_dvd (by omega) kd
  by_cases e : k = p.length
  · rw [h, e]
  exfalso
  have pk := per_ge h (Nat.le_refl 0)
  have pk : walkF rs k (ringP rs p) = ringP rs p := pk
  have q := (rot_ring hr h2 h6 hp h1 kl).1
  rw [pk] at q
  have e2 := word_ring ho (rot_wd hp k) (by rw [rotL_len]; exact h1)
  rw [rotL_len] at e2
  have e3 := word_ring ho hp h1
  have : rotL k p = p := by
    rw [← e2, show ringP rs (rotL k p) = ringP rs p from q.symm, e3]
  have lt := hpl k k1 (by omega)
  rw [this] at lt
  exact absurd lt (List.lt_irrefl p)
/-- two plain words on one ring are one, and at one place -/
theorem plain_same (hr : RulesOk base rs) (h2 : 2 ≤ base) (h6 : base ≤ 60) {p q : List Int} (hp : Wd rs.length p) (hq : Wd rs.length q) (p1 : 1 ≤ p.length) (q1 : 1 ≤ q.length) (pp : Plain p) (pq : Plain q) {s t : Nat} (hs : s < p.length) (ht : t < q.length) (h : walkF rs s (ringP rs p) = walkF rs t (ringP rs q)) : p = q ∧ s = t := by
  have ho := hr.map h2 (by omega)
  have cp := plain_per hr h2 h6 hp p1 pp
  have cq := plain_per hr h2 h6 hq q1 pq
  have rp := ring_round ho hp p1
  have rq := ring_round ho hq q1
  -- q's ring goes round by p's length, and p's by q's
  have a1 : walkF rs p.length (walkF rs t (ringP rs q)) = walkF rs t (ringP rs q) := by
    rw [← h, walkF_add, Nat.add_comm, ← walkF_add, rp]
  have a2 : walkF rs q.length (walkF rs s (ringP rs p)) = walkF rs s (ringP rs p) := by
    rw [h, walkF_add, Nat.add_comm, ← walkF_add, rq]
  have d1 := (per_of cq p1 a1).2
  have d2 := (per_of cp q1 a2).2
  have el : p.length = q.length := Nat.dvd_antisymm d2 d1
  -- the first place of q is a place of p
  obtain ⟨j, hj, ej⟩ : ∃ j, j < p.length ∧ walkF rs j (ringP rs p) = ringP rs q := by
    have e : walkF rs (s + (q.length - t)) (ringP rs p) = ringP rs q := by
      rw [← walkF_add, h, walkF_add, show t + (q.length - t) = q.length by omega, rq]
    refine ⟨(s + (q.length - t)) % p.length, Nat.mod_lt _ (by omega), ?_⟩
    have e0 : p.length * ((s + (q.length - t)) / p.length) + (s + (q.length - t)) % p.length = s + (q.length - t) := Nat.div_add_mod _ _
    rw [← e0, ← walkF_add, rep_walk rp] at e
    exact e
  have eq : q = rotL j p := by
    have r := (rot_ring hr h2 h6 hp p1 (by omega : j ≤ p.length)).1
    rw [ej] at r
    have e2 := word_ring ho (rot_wd hp j) (by rw [rotL_len]; exact p1)
    rw [rotL_len, show ringP rs (rotL j p) = ringP rs q from r.symm, el, word_ring ho hq q1] at e2
    exact e2
  have j0 : j = 0 := by
    by_cases h0 : j = 0
    · exact h0
    exfalso
    have l1 := pp j (by omega) hj
    rw [← eq] at l1
    have l2 := pq (q.length - j) (by omega) (by omega)
    have back : rotL (q.length - j) q = p := by
      rw [eq, rotL_len]
      unfold rotL
      rw [List.drop_left' (by rw [List.length_drop]), List.take_left' (by rw [List.length_drop])]
      exact List.take_append_drop j p
    rw [back] at l2
    exact absurd (List.lt_trans l1 l2) (List.lt_irrefl p)
  subst j0
  have pq2 : p = q := by rw [eq]; unfold rotL; simp
  refine ⟨pq2, ?_⟩
  subst pq2
  rcases Nat.lt_trichotomy s t with z | z | z
  · exact absurd h (apart cp z (by omega))
  · exact z
  · exact absurd h.symm (apart cp z (by omega))
theorem least_of {f : Nat → List Int} : ∀ {n : Nat}, 1 ≤ n → ∃ s, s < n ∧ ∀ t, t < n → ¬ f t < f s
  | 1, _ => ⟨0, by omega, fun t ht => by
    obtain rfl : t = 0 := by omega
    exact List.lt_irrefl _⟩
  | n + 2, _ => by
    obtain ⟨s, hs, h⟩ := least_of (f := f) (n := n + 1) (by omega)
    by_cases c : f (n + 1) < f s
    · refine ⟨n + 1, by omega, fun t ht => ?_⟩
      by_cases e : t = n + 1
      · subst e; exact List.lt_irrefl _
      · intro z
        exact h t (by omega) (List.lt_trans z c)
    · refine ⟨s, by omega, fun t ht => ?_⟩
      by_cases e : t = n + 1
      · subst e; exact c
      · exact h t (by omega)
/-- each place that comes round is a place of the ring of a plain word -/
theorem orb_of (hr : RulesOk base rs) (h2 : 2 ≤ base) (h6 : base ≤ 60) {x : Int × Int} (g : Good rs.length x) {n : Nat} (hn : 1 ≤ n) (hx : walkF rs n x = x) : ∃ p, Wd rs.length p ∧ 1 ≤ p.length ∧ p.length ∣ n ∧ Plain p ∧ ∃ t, t < p.length ∧ walkF rs t (ringP rs p) = x := by
  have ho := hr.map h2 (by omega)
  obtain ⟨k, h, k1, kd⟩ := ring_per hr h2 h6 hn hx
  have pk : ∀ s, walkF rs k (walkF rs s x) = walkF rs s x := fun s => per_ge h (Nat.zero_le s)
  have px : walkF rs k x = x := pk 0
  obtain ⟨s, hs, hm⟩ := least_of (f := fun s => wordF rs (walkF rs s x) k) k1
  have gy := walkF_good (rs := rs) g s
  have ey := ring_uniq hr h2 h6 gy k1 (pk s)
  have wp := wd_word ho gy k
  have lp : (wordF rs (walkF rs s x) k).length = k := wordF_len _ _ _
  refine ⟨wordF rs (walkF rs s x) k, wp, by omega, by rw [lp]; exact kd, fun i i1 i2 => ?_, ?_⟩
  · rw [lp] at i2
    have r := (rot_ring hr h2 h6 wp (by omega) (by omega : i ≤ _)).1
    rw [← ey] at r
    have er : rotL i (wordF rs (walkF rs s x) k) = wordF rs (walkF rs i (walkF rs s x)) k := by
      have e := word_ring ho (rot_wd wp i) (by rw [rotL_len]; omega)
      rw [rotL_len, lp] at e
      rw [← e, show ringP rs (rotL i (wordF rs (walkF rs s x) k)) = walkF rs i (walkF rs s x) from r.symm]
    have ne : wordF rs (walkF rs i (walkF rs s x)) k ≠ wordF rs (walkF rs s x) k := fun e => by
      have gi := walkF_good (rs := rs) gy i
      have q := ring_uniq hr h2 h6 gi k1 (by rw [walkF_add rs s x i]; exact pk (s + i))
      rw [e, ← ey] at q
      have := Nat.le_of_dvd (by omega) (per_of h i1 q).2
      omega
    have nl : ¬ wordF rs (walkF rs i (walkF rs s x)) k < wordF rs (walkF rs s x) k := by
      rw [walkF_add]
      by_cases c : s + i < k
      · exact hm (s + i) c
      · have e : walkF rs (s + i) x = walkF rs (s + i - k) x := by
          have := pk (s + i - k)
          rw [walkF_add, show s + i - k + k = s + i by omega] at this
          exact this
        rw [e]
        exact hm (s + i - k) (by omega)
    rw [er]
    by_cases c : wordF rs (walkF rs s x) k < wordF rs (walkF rs i (walkF rs s x)) k
    · exact c
    · exact absurd (List.le_antisymm (List.not_lt.mp c) (List.not_lt.mp nl)) ne
  · rw [lp, ← ey]
    by_cases s0 : s = 0
    · subst s0
      exact ⟨0, by omega, rfl⟩
    · refine ⟨k - s, by omega, ?_⟩
      rw [walkF_add, show s + (k - s) = k by omega, px]
def orbL (rs : List (Int × Int)) (p : List Int) : List (Int × Int) := (List.range p.length).map fun s => walkF rs s (ringP rs p)
theorem orbs_nodup (hr : RulesOk base rs) (h2 : 2 ≤ base) (h6 : base ≤ 60) : ∀ {Q : List (List Int)}, Q.Nodup → (∀ p ∈ Q, Wd rs.length p ∧ 1 ≤ p.length ∧ Plain p) → (Q.flatMap (orbL rs)).Nodup
  | [], _, _ => List.nodup_nil
  | p :: Q, hq, h => by
    obtain ⟨n1, n2⟩ := List.nodup_cons.mp hq
    obtain ⟨a1, a2, a3⟩ := h p List.mem_cons_self
    have ih := orbs_nodup hr h2 h6 n2 fun q hq => h q (List.mem_cons_of_mem _ hq)
    rw [List.flatMap_cons, List.nodup_append]
    refine ⟨?_, ih, ?_⟩
    · have nr : (List.range p.length).Nodup := List.nodup_range
      unfold orbL
      unfold List.Nodup at nr ⊢
      rw [List.pairwise_map]
      refine nr.imp_of_mem fun {s t} hs ht hne e => ?_
      exact hne (plain_same hr h2 h6 a1 a1 a2 a2 a3 a3 (List.mem_range.mp hs) (List.mem_range.mp ht) e).2
    · intro u hu v hv e
      subst e
      obtain ⟨q, hq, hv⟩ := List.mem_flatMap.mp hv
      obtain ⟨b1, b2, b3⟩ := h q (List.mem_cons_of_mem _ hq)
      obtain ⟨s, hs, es⟩ := List.mem_map.mp hu
      obtain ⟨t, ht, et⟩ := List.mem_map.mp hv
      have := (plain_same hr h2 h6 a1 b1 a2 b2 a3 b3 (List.mem_range.mp hs) (List.mem_range.mp ht) (es.trans et.symm)).1
      subst this
      exact n1 hq
def plainB (w : List Int) : Bool := (List.range w.length).all fun k => decide (k = 0 ∨ w < rotL k w)
theorem plainB_iff {w : List Int} : plainB w = true ↔ Plain w := by
  unfold plainB Plain
  rw [List.all_eq_true]
  constructor
  · intro h k k1 k2
    have := of_decide_eq_true (h k (List.mem_range.mpr k2))
    exact this.resolve_left (by omega)
  · intro h k hk
    refine decide_eq_true ?_
    by_cases k0 : k = 0
    · exact .inl k0
    · exact .inr (h k (by omega) (List.mem_range.mp hk))
def plainL (m d : Nat) : List (List Int) := (allW m d).filter plainB
def divQ (m n : Nat) : List (List Int) := ((List.range (n + 1)).filter fun d => decide (1 ≤ d ∧ n % d = 0)).flatMap (plainL m)
theorem plainL_mem {m d : Nat} {p : List Int} : p ∈ plainL m d ↔ p.length = d ∧ Wd m p ∧ Plain p := by
  unfold plainL
  rw [List.mem_filter, allW_mem, plainB_iff, and_assoc]
theorem flat_nodup {α : Type} {f : Nat → List α} {g : α → Nat} (hf : ∀ d, (f d).Nodup) (hg : ∀ d x, x ∈ f d → g x = d) : ∀ {L : List Nat}, L.Nodup → (L.flatMap f).Nodup
  | [], _ => List.nodup_nil
  | d :: L, h => by
    obtain ⟨n1, n2⟩ := List.nodup_cons.mp h
    rw [List.flatMap_cons, List.nodup_append]
    refine ⟨hf d, flat_nodup hf hg n2, ?_⟩
    intro u hu v hv e
    subst e
    obtain ⟨d', hd, hv⟩ := List.mem_flatMap.mp hv
    have := (hg d u hu).symm.trans (hg d' u hv)
    subst this
    exact n1 hd
theorem plainL_nodup (m d : Nat) : (plainL m d).Nodup := (allW_nodup m d).filter _
theorem divQ_nodup (m n : Nat) : (divQ m n).Nodup := flat_nodup (g := List.length) (plainL_nodup m) (fun d x hx => (plainL_mem.mp hx).1) (List.nodup_range.filter _)
theorem divQ_mem {m n : Nat} (hn : 1 ≤ n) {p : List Int} : p ∈ divQ m n ↔ 1 ≤ p.length ∧ p.length ∣ n ∧ Wd m p ∧ Plain p := by
  unfold divQ
  rw [List.mem_flatMap]
  constructor
  · rintro ⟨d, hd, hp⟩
    obtain ⟨rfl, a, b⟩ := plainL_mem.mp hp
    have := of_decide_eq_true (List.mem_filter.mp hd).2
    exact ⟨this.1, Nat.dvd_of_mod_eq_zero this.2, a, b⟩
  · rintro ⟨a, b, c, d⟩
    have := Nat.le_of_dvd (by omega) b
    exact ⟨p.length, List.mem_filter.mpr ⟨List.mem_range.mpr (by omega), decide_eq_true ⟨a, Nat.mod_eq_zero_of_dvd b⟩⟩, plainL_mem.mpr ⟨rfl, c, d⟩⟩
/-- the rings of the plain words whose lengths divide n count the words of length n -/
theorem ring_count (hr : RulesOk base rs) (h2 : 2 ≤ base) (h6 : base ≤ 60) {n : Nat} (hn : 1 ≤ n) : ((divQ base n).flatMap (orbL rs)).length = base ^ n := by
  have ho := hr.map h2 (by omega)
  have hl := hr.len
  have perm : ((divQ base n).flatMap (orbL rs)).Perm ((allW base n).map (ringP rs)) := by
    refine (List.perm_ext_iff_of_nodup (orbs_nodup hr h2 h6 (divQ_nodup base n) fun p hp => ?_) ?_).mpr fun x => ?_
    · obtain ⟨a, b, c, d⟩ := (divQ_mem hn).mp hp
      exact ⟨by rw [hl]; exact c, a, d⟩
    · have nd := allW_nodup base n
      unfold List.Nodup at nd ⊢
      rw [List.pairwise_map]
      refine nd.imp_of_mem fun {v w} hv hw hne e => hne ?_
      obtain ⟨v1, v2⟩ := allW_mem.mp hv
      obtain ⟨w1, w2⟩ := allW_mem.mp hw
      have a := word_ring ho (w := v) (by rw [hl]; exact v2) (by omega)
      have b := word_ring ho (w := w) (by rw [hl]; exact w2) (by omega)
      rw [v1] at a
      rw [w1] at b
      rw [← a, ← b, e]
    · rw [List.mem_flatMap, List.mem_map]
      constructor
      · rintro ⟨p, hp, hx⟩
        obtain ⟨a, b, c, d⟩ := (divQ_mem hn).mp hp
        have c : Wd rs.length p := by rw [hl]; exact c
        obtain ⟨s, _, rfl⟩ := List.mem_map.mp hx
        obtain ⟨g, _⟩ := ringP_spec ho c a
        obtain ⟨q, hq⟩ := b
        have rp := rep_walk (ring_round ho c a) q
        rw [← hq] at rp
        have rx : walkF rs n (walkF rs s (ringP rs p)) = walkF rs s (ringP rs p) := by
          rw [walkF_add, Nat.add_comm, ← walkF_add, rp]
        have gx := walkF_good (rs := rs) g s
        refine ⟨wordF rs (walkF rs s (ringP rs p)) n, allW_mem.mpr ⟨wordF_len _ _ _, ?_⟩, (ring_uniq hr h2 h6 gx hn rx).symm⟩
        have := wd_word ho gx n
        rw [hl] at this
        exact this
      · rintro ⟨w, hw, rfl⟩
        obtain ⟨w1, w2⟩ := allW_mem.mp hw
        have w2 : Wd rs.length w := by rw [hl]; exact w2
        obtain ⟨g, _⟩ := ringP_spec ho w2 (by omega)
        have rw' := ring_round ho w2 (by omega)
        rw [w1] at rw'
        obtain ⟨p, p1, p2, p3, p4, t, ht, e⟩ := orb_of hr h2 h6 g hn rw'
        exact ⟨p, (divQ_mem hn).mpr ⟨p2, p3, by rw [← hl]; exact p1, p4⟩, List.mem_map.mpr ⟨t, List.mem_range.mpr ht, e⟩⟩
  rw [perm.length_eq, List.length_map, allW_len]
end
end PW
end NW
end TL

namespace TL
open PySem L2
set_option maxHeartbeats 2000000
local macro_rules | `(tactic| walk_at "sx") => `(tactic| try simp only [sSeq, sNil, eDisp1, eDispN, ltT_l, sumT_l, eDIn, eDNotIn, eDSetd, eDNew, eDGet, eDGet2, sDSet, eTake, sAugL, isDc, sCut, eNe2, neK, rep_l, minT_t, ltL_l, ghs_cons, ghs_nil, eKeep, keep_fr, keep_sh, keep_gh, keep_loc, eAd, eDr, eBinG, sAppE, sRevE, sPopE, eFz, fz_sh, fz_fr, fz_gh, fz_loc, ePk, gF, gP, agBg, agMg, agBd, pvw, eCallG, get_gh, stl_gh, pok_gh, owns, List.drop_succ_cons, List.drop_zero, List.take_succ_cons, List.take_zero, List.mem_cons, List.not_mem_nil, or_false, sSet, sFrz, frz_o, frz_sh, frz_s, sIf, sRet, sRetN, sPass, sBrk, sPar, sSub, sApp, sExpr, sAsg, sAug, sFld, sRevI, sPop, eLoc, eC, eUn, eBin, eAnd, eOr, eNot, eIf, eTup, eLst, dNil, dCons, tVal_eq, tstD_bl, tAndW, tOrW, tNotW, eFld_eq, eFldD_o, eProp, eMeth, eMeth0, eSl, pNone, pSome, sl_l,
  out_sh, out_fr, get_loc, get_sh, get_fr, getL_z, getL_o, getL_s, bound_z, bound_o, bound_s, isOwn_o, isOwn_s, pok_loc, pok_sh, pok_fr, stl_loc, stlS_sh, stlS_own, stl_sh, stl_fr, lay_fr, lay_sh, lay_loc, envOf, slotsOf, valN, ghOf, endK, resK, exMu, muN, List.cons_append, List.nil_append, List.append_nil, List.length_cons, List.length_nil, Nat.reduceAdd, Nat.reduceSub, List.replicate_succ, List.replicate_zero, List.replicate,
  List.getElem?_cons_zero, List.getElem?_cons_succ, List.getElem?_nil, List.set_cons_zero, List.set_cons_succ,
  add_ii, add_ss, add_ll, sub_ii, mul_ii, fdv_ii, fdvN_ii, mod_ii, modN_ii, pow_ii, lt_ii, le_ii, gt_ii, ge_ii, eq_ii, ne_ii, ix_li, ix_ti, neg_i, abs_i, int_i, int_b, max_ii, min_ii, len_l, len_t, list_l, list_t, rev_l, isi_int, isi_bl, isi_tup, isi_lst, isi_non, isN_i, isN_n, isN_t, isN_l, notN_i, notN_n, notN_t, notN_l, isTy,
  atI0, atI1, atI2, ixN0, ixN1, ixN2, some_inj_ex, isObj, setAt0, setAt1, setAt2, setAt3, restE, keepS, wipeE, ↓reduceIte, if_false, if_true,
  eCall, eCallP, eMake, pm, eTwo, dLit, eOwn2, eLenO, okLen, eMethP, eMakeP, isC_o, eRepL, lr1_i, lr2_i, List.filterMap_cons, List.filterMap_nil, agNil, agRo, agBo, agMu, agTm, callK, boIx, muIx, tms, argsK, upE, reown, hasBo, noTm, flatRo, noLstAll, noLst, noLsts, List.nodup_nil, List.nodup_cons, List.not_mem_nil, not_false_eq_true, Nat.zero_le, Nat.le_refl, Nat.reduceLeDiff, List.mem_cons, or_false, reduceCtorEq,
  gN, gTp, gLs, gCn, gNl, iR1, iR2, iRL, iLst, iTpl, iEnum, stab,
  ite_self, str_i, fmt_i, fmt_s, isB_b, notB_b, any_l, tup_l, sExt, e0_is, t0_is, d0_is, s0_is, i0_is, sTry, hXk_n, hXk_s, sRaise, eCallX, eCallXP, eMethX, eMakeX, ePropX, eOwn2X, callX, roA, opXv_exn, opIsX_exn, List.map_cons, List.map_nil, Nat.lt_irrefl, Nat.zero_lt_one, Nat.reduceLT, Nat.zero_lt_succ, some_inj_ex,
  Option.isSome_some, Option.isSome_none, true_and, and_true, eq_self, List.length_map, decide_true, decide_false, Bool.not_true, Bool.not_false, not_true_eq_false, Bool.true_eq_false, Bool.false_eq_true, false_imp_iff, forall_const, true_imp_iff, and_self, decide_eq_true_eq, decide_eq_false_iff_not, Bool.not_eq_true', Bool.not_eq_false'])
namespace NW
namespace K29
open PW (rotL rotL_len Plain plainB plainB_iff plainL plainL_mem)
theorem rot_cut {ws : List Int} {k : Nat} (h : k ≤ ws.length) : cutL (ws.map D.int) (some (k : Int)) none ++ cutL (ws.map D.int) none (some (k : Int)) = (rotL k ws).map D.int := by
  rw [cutL_drop (by rw [List.length_map]; exact h), cutL_take (by rw [List.length_map]; exact h), ← List.map_drop, ← List.map_take, ← List.map_append]
  rfl
theorem cut_len {ws : List Int} {k : Nat} (h : k ≤ ws.length) : (cutL (ws.map D.int) (some (k : Int)) none).length + (cutL (ws.map D.int) none (some (k : Int))).length = ws.length := by
  rw [← List.length_append, rot_cut h, List.length_map, rotL_len]
def sp_is_plain_and_least : FSpec := fun args kr _ => ∃ ws : List Int, args = [.ro (encZs ws)] ∧ ws.length ≤ 1000 ∧ kr (.sh (.bl (plainB ws))) []
def sp_law_is_plain : FSpec := fun args kr _ => ∃ (b : Nat) (ws : List Int), args = [.ro (.int b), .ro (encZs ws)] ∧ Wd b ws ∧ 1 ≤ ws.length ∧ ws.length ≤ 1000 ∧ Plain ws ∧ kr (.sh (.bl true)) []
/- is_plain_and_least: 0:word 1:k -/
def b_is_plain_and_least : SW := (sSeq (sFor (iR2 (dCons (eC (.int 1)) (dCons (eUn opLen (eLoc 0)) dNil))) (gN 1) (sIf (tVal (eBin opLeL (eBin opAdd (eSl (eLoc 0) (pSome (eLoc 1)) pNone) (eSl (eLoc 0) pNone (pSome (eLoc 1)))) (eLoc 0))) (sRet (eC (.bl false))) sNil))
  (sRet (eC (.bl true))))
/- _law_is_plain: 0:base 1:path 2:k -/
def b_law_is_plain : SW := (sSeq (sIf (tOrW (tVal (eBin opLt (eUn opMin1 (eLoc 1)) (eC (.int 0)))) (tVal (eBin opGe (eUn opMax1 (eLoc 1)) (eLoc 0)))) (sRet (eC (.bl false))) sNil)
  (sSeq (sFor (iR2 (dCons (eC (.int 1)) (dCons (eUn opLen (eLoc 1)) dNil))) (gN 2) (sIf (tVal (eBin opLeL (eBin opAdd (eSl (eLoc 1) (pSome (eLoc 2)) pNone) (eSl (eLoc 1) pNone (pSome (eLoc 2)))) (eLoc 1))) (sRet (eC (.bl false))) sNil))
  (sRet (eC (.bl true)))))
theorem sat_is_plain_and_least : Sat 2 sp_is_plain_and_least b_is_plain_and_least := by
  rintro args mus kr kx hm ⟨ws, rfl, hl, hk⟩
  obtain rfl := mus0 hm
  unfold b_is_plain_and_least
  unfold sFor
  walk_at "sx"
  refine ⟨by omega, fun i ρ => ∃ e1 : Sl, ρ = [.sh (encZs ws), e1] ∧ ∀ k, 1 ≤ k → k < 1 + i → k < ws.length → ws < rotL k ws, ⟨_, rfl, fun k h1 h2 => by omega⟩, fun _ _ _ _ => trivial, ?_, ?_⟩
  · rintro i d ρ hi rfl ⟨e1, rfl, hm⟩
    have hi : 1 + i < ws.length := by omega
    rw [show (1 : Int) + (i : Int) = ((1 + i : Nat) : Int) by omega]
    walk_at "sx"
    rw [rot_cut (by omega)]
    refine ⟨Nat.le_of_lt (line_big (by rw [cut_len (by omega)]; omega)), ?_⟩
    refine ⟨rotL (1 + i) ws, ws, rfl, rfl, ?_⟩
    by_cases c : ws < rotL (1 + i) ws
    · rw [decide_eq_true c]
      walk_at "sx"
      refine ⟨_, rfl, fun k h1 h2 h3 => ?_⟩
      by_cases e : k = 1 + i
      · rw [e]; exact c
      · exact hm k h1 (by omega) h3
    · rw [decide_eq_false c]
      walk_at "sx"
      have : plainB ws = false := by
        cases e : plainB ws with
        | false => rfl
        | true => exact absurd (plainB_iff.mp e (1 + i) (by omega) hi) c
      rw [this] at hk
      exact hk
  rintro ρ ⟨e1, rfl, hm⟩
  walk_at "sx"
  have : plainB ws = true := plainB_iff.mpr fun k h1 h2 => hm k h1 (by omega) h2
  rw [this] at hk
  exact hk
theorem sat_law_is_plain : Sat 3 sp_law_is_plain b_law_is_plain := by
  rintro args mus kr kx hm ⟨b, ws, rfl, hw, h1, hl, hp, hk⟩
  obtain rfl := mus0 hm
  unfold b_law_is_plain
  unfold sFor
  walk_at "sx"
  refine ⟨ws, rfl, by omega, fun mn hm1 _ => ?_⟩
  have m1 := hw mn hm1
  walk_at "sx"
  refine ⟨fun h => by omega, fun _ => ?_⟩
  refine ⟨ws, rfl, by omega, fun mx hm1 _ => ?_⟩
  have m2 := hw mx hm1
  walk_at "sx"
  refine ⟨fun h => by omega, fun _ => ?_⟩
  refine ⟨by omega, fun i ρ => ∃ e1 : Sl, ρ = [.sh (.int b), .sh (encZs ws), e1], ⟨_, rfl⟩, fun _ _ _ _ => trivial, ?_, ?_⟩
  · rintro i d ρ hi rfl ⟨e1, rfl⟩
    have hi : 1 + i < ws.length := by omega
    rw [show (1 : Int) + (i : Int) = ((1 + i : Nat) : Int) by omega]
    walk_at "sx"
    rw [rot_cut (by omega)]
    refine ⟨Nat.le_of_lt (line_big (by rw [cut_len (by omega)]; omega)), ?_⟩
    refine ⟨rotL (1 + i) ws, ws, rfl, rfl, ?_⟩
    rw [decide_eq_true (hp (1 + i) (by omega) hi)]
    walk_at "sx"
    exact ⟨_, rfl⟩
  rintro ρ ⟨e1, rfl⟩
  walk_at "sx"
  exact hk
def growL (b : Nat) (L : List (List Int)) : List (List Int) := L.flatMap fun p => (List.range b).map fun s : Nat => p ++ [(s : Int)]
theorem take_nx {α : Type} {xs : List α} {i : Nat} {x : α} (h : xs[i]? = some x) : xs.take (i + 1) = xs.take i ++ [x] := by rw [List.take_succ, h]; rfl
theorem zip_maps {α β γ : Type} {f : β → γ} : ∀ F : List (α × β), (F.map Prod.fst).zip ((F.map Prod.snd).map f) = F.map fun x => (x.1, f x.2)
  | [] => rfl
  | x :: F => by
    rw [List.map_cons, List.map_cons, List.map_cons, List.zip_cons_cons, zip_maps F]
    rfl
def sp_plain_words : FSpec := fun args kr _ => ∃ (b k : Nat), args = [.ro (.int b), .ro (.int k)] ∧ 2 ≤ b ∧ 1 ≤ k ∧ k ≤ 12 ∧ (∀ i, i ≤ k → b ^ i ≤ 4096) ∧
  ∀ (fs : List Addr) (a : Addr), fs.length = (plainL b k).length → kr (.gx (fs ++ [a]) ((plainL b k).map encZs ++ [.lst (fs.map .ptr)]) (.ptr a)) []
/- plain_words: 0:modulus 1:length 2:words 3:turn 4:word 5:entry -/
def b_plain_words : SW := (sSeq (sIf (tVal (eBin opLt (eLoc 0) (eC (.int 2)))) sNever sNil)
  (sSeq (sExpr (eCall 2 sp_check_number (agRo (eLoc 1) (agRo (eC (.int 1)) agNil))))
  (sSeq (sFrz 2 (sSet 2 (eLst (dCons (eKeep (eLst dNil)) dNil))))
  (sSeq (sFor (iR1 (dCons (eLoc 1) dNil)) (gN 3) (sFrz 2 (sSet 2 (eComp2 (iLst (eLoc 2)) (gN 4) (iR1 (dCons (eLoc 0) dNil)) (gN 5) (eKeep (eBin opAdd (eDr (eLoc 4)) (eLst (dCons (eLoc 5) dNil)))) [4, 5] [5]))))
  (sRet (ePk 6 (eKeep (eComp (iLst (eLoc 2)) (gN 4) (tVal (eCall 1 sp_is_plain_and_least (agBg (eDr (eLoc 4)) agNil))) (eDr (eLoc 4)) [4]))))))))
theorem sat_plain_words : Sat 6 sp_plain_words b_plain_words := by
  rintro args mus kr kx hm ⟨b, k, rfl, hb, k1, k12, hp, hk⟩
  obtain rfl := mus0 hm
  unfold b_plain_words
  unfold sFor
  walk_at "sx"
  refine ⟨fun h => by omega, fun _ => ⟨k, 1, rfl, by omega, ?_⟩⟩
  walk_at "sx"
  have wl : ∀ i, i ≤ k → (allW b i).length ≤ 4096 := fun i hi => by rw [allW_len]; exact hp i hi
  intro a0
  walk_at "sx"
  refine ⟨by omega, fun i ρ => ∃ (e3 : Sl) (as0 : List Addr) (cs0 : List D) (as1 : List Addr), ρ = [.sh (.int b), .sh (.int k), .sh (.lst (as1.map .ptr)), e3, .no, .no] ++ ghs (as0 ++ as1) (cs0 ++ (allW b i).map encZs) ∧ as0.length = cs0.length ∧ as1.length = (allW b i).length, ⟨.no, [], [], [a0], rfl, rfl, rfl⟩, fun _ _ _ _ => trivial, ?_, ?_⟩
  · rintro i d ρ hi rfl ⟨e3, as0, cs0, as1, rfl, l0, l1⟩
    have hi : i < k := by omega
    have pw := hp (i + 1) (by omega)
    have ml : b * b ^ i ≤ 4096 := by rw [Nat.mul_comm, ← Nat.pow_succ]; exact pw
    have nx : allW b (i + 1) = growL b (allW b i) := rfl
    have lA : (as0 ++ as1).length = (cs0 ++ (allW b i).map encZs).length := by simp [l0, l1]
    obtain ⟨A, eA⟩ : ∃ A, A = allW b i := ⟨_, rfl⟩
    have al := allW_len b i
    have wm : ∀ {w}, w ∈ A → w.length = i := fun h => by rw [eA] at h; exact (allW_mem.mp h).1
    rw [← eA] at l1 nx lA al ⊢
    simp only [eComp2, iLst]
    walk_at "sx"
    refine ⟨fun j acc ρ => ∃ bs : List Addr, acc = bs.map .ptr ∧ bs.length = (growL b (A.take j)).length ∧ ρ = [.sh (.int b), .sh (.int k), .sh (.lst (as1.map .ptr)), .sh (.int i), .no, .no] ++ ghs ((as0 ++ as1) ++ bs) ((cs0 ++ A.map encZs) ++ (growL b (A.take j)).map encZs), ⟨[], rfl, rfl, by simp [growL]⟩, fun _ _ _ _ _ => trivial, ?_, ?_⟩
    · rintro j d acc ρ hj hd ⟨bs, rfl, lb, rfl⟩
      obtain ⟨a, ha, rfl⟩ := get_map hd
      have hj : j < A.length := by rw [← l1]; simpa using hj
      obtain ⟨w, hw⟩ : ∃ w, A[j]? = some w := ⟨_, List.getElem?_eq_getElem hj⟩
      have wl1 := wm (List.mem_of_getElem? hw)
      have jl : j * b + b ≤ 4096 := by
        have : (j + 1) * b ≤ b ^ i * b := Nat.mul_le_mul_right _ (by omega)
        rw [Nat.succ_mul, Nat.mul_comm (b ^ i)] at this
        omega
      have fl : (growL b (A.take j)).length ≤ j * b := by
        unfold growL
        rw [List.length_flatMap]
        simp only [List.length_map, List.length_range]
        rw [List.map_const', List.sum_replicate_nat, List.length_take]
        exact Nat.mul_le_mul_right _ (Nat.min_le_left _ _)
      have a1 : ∀ T, (as0 ++ as1 ++ T)[as0.length + j]? = some a := fun T => by
        rw [List.append_assoc, List.getElem?_append_right (by omega), Nat.add_sub_cancel_left, List.getElem?_append_left (by omega), ha]
      have c1 : ∀ T, (cs0 ++ A.map encZs ++ T)[as0.length + j]? = some (encZs w) := fun T => by
        rw [List.append_assoc, List.getElem?_append_right (by omega), l0, Nat.add_sub_cancel_left, List.getElem?_append_left (by rw [List.length_map]; omega), List.getElem?_map, hw]
        rfl
      walk_at "sx"
      refine ⟨by omega, fun l acc ρ => ∃ bs : List Addr, acc = bs.map .ptr ∧ bs.length = (growL b (A.take j) ++ (List.range l).map fun s : Nat => w ++ [(s : Int)]).length ∧ ρ = [.sh (.int b), .sh (.int k), .sh (.lst (as1.map .ptr)), .sh (.int i), .sh (.ptr a), .no] ++ ghs ((as0 ++ as1) ++ bs) ((cs0 ++ A.map encZs) ++ (growL b (A.take j) ++ (List.range l).map fun s : Nat => w ++ [(s : Int)]).map encZs), ⟨bs, rfl, by simp [lb], by simp⟩, fun _ _ _ _ _ => trivial, ?_, ?_⟩
      · rintro l e acc ρ hl2 rfl ⟨bs, rfl, lb, rfl⟩
        have hl2 : l < b := by omega
        have hg := ghs_at (a1 bs) (c1 ((growL b (A.take j) ++ (List.range l).map fun s : Nat => w ++ [(s : Int)]).map encZs))
        walk_at "sx"
        refine ⟨as0.length + j + 6, ⟨false, _, hg⟩, ?_⟩
        walk_at "sx"
        rw [show getL (ghs (as0 ++ as1 ++ bs) (cs0 ++ A.map encZs ++ (growL b (A.take j) ++ (List.range l).map fun s : Nat => w ++ [(s : Int)]).map encZs)) (as0.length + j) = encZs w by unfold getL; rw [hg]]
        walk_at "sx"
        have lb2 : bs.length ≤ 4096 := by rw [lb, List.length_append, List.length_map, List.length_range]; omega
        have e : (growL b (A.take j) ++ (List.range (l + 1)).map fun s : Nat => w ++ [(s : Int)]).map encZs = (growL b (A.take j) ++ (List.range l).map fun s : Nat => w ++ [(s : Int)]).map encZs ++ [encZs (w ++ [(l : Int)])] := by
          rw [List.range_succ]
          simp
        refine ⟨⟨false, _, hg⟩, Nat.le_of_lt (line_big (by omega)), fun a9 _ => ⟨line_big (by omega), bs ++ [a9], by simp, ?_, ?_⟩⟩
        · rw [List.length_append, lb, List.range_succ]
          simp
          omega
        · rw [e, ← List.append_assoc, ← List.append_assoc, ghs_snoc (by rw [List.length_append, lA, lb]; simp; omega), show D.lst (w.map D.int ++ [D.int (l : Int)]) = encZs (w ++ [(l : Int)]) by simp [encZs]]
      · rintro acc ρ ⟨bs, rfl, lb, rfl⟩
        rw [Int.toNat_natCast] at lb ⊢
        have e : growL b (A.take (j + 1)) = growL b (A.take j) ++ (List.range b).map fun s : Nat => w ++ [(s : Int)] := by
          unfold growL
          rw [take_nx hw, List.flatMap_append]
          simp
        rw [e]
        exact ⟨bs, rfl, lb, rfl⟩
    · rintro acc ρ ⟨bs, rfl, lb, rfl⟩
      rw [l1, List.take_length, ← nx] at lb
      rw [l1, List.take_length, ← nx]
      walk_at "sx"
      exact ⟨_, as0 ++ as1, cs0 ++ A.map encZs, bs, rfl, lA, lb⟩
  · rintro ρ ⟨e3, as0, cs0, as1, rfl, l0, l1⟩
    rw [Int.toNat_natCast] at l1 ⊢
    simp only [eComp, iLst]
    walk_at "sx"
    have kl := wl k (Nat.le_refl _)
    obtain ⟨A, eA⟩ : ∃ A, A = allW b k := ⟨_, rfl⟩
    have wm : ∀ {w}, w ∈ A → w.length = k := fun h => by rw [eA] at h; exact (allW_mem.mp h).1
    have ePl : plainL b k = A.filter plainB := by rw [eA]; rfl
    rw [← eA] at l1 kl ⊢
    obtain ⟨Z, eZ⟩ : ∃ Z, Z = as1.zip A := ⟨_, rfl⟩
    have lZ : Z.length = as1.length := by rw [eZ, List.length_zip, l1, Nat.min_self]
    refine ⟨fun t acc ρ => acc = ((Z.take t).filter fun x => plainB x.2).map (fun x => D.ptr x.1) ∧ ρ = [.sh (.int b), .sh (.int k), .sh (.lst (as1.map .ptr)), e3, .no, .no] ++ ghs (as0 ++ as1) (cs0 ++ A.map encZs), ⟨rfl, rfl⟩, fun _ _ _ _ _ => trivial, ?_, ?_⟩
    · rintro t d acc ρ ht hd ⟨rfl, rfl⟩
      obtain ⟨a, ha, rfl⟩ := get_map hd
      obtain ⟨w, hw⟩ : ∃ w, A[t]? = some w := ⟨_, List.getElem?_eq_getElem (by omega)⟩
      have wl1 := wm (List.mem_of_getElem? hw)
      have hz : Z[t]? = some (a, w) := by rw [eZ, List.getElem?_zip_eq_some]; exact ⟨ha, hw⟩
      have a1 : (as0 ++ as1)[as0.length + t]? = some a := by
        rw [List.getElem?_append_right (by omega), Nat.add_sub_cancel_left, ha]
      have c1 : (cs0 ++ A.map encZs)[as0.length + t]? = some (encZs w) := by
        rw [List.getElem?_append_right (by omega), l0, Nat.add_sub_cancel_left, List.getElem?_map, hw]
        rfl
      have hg := ghs_at a1 c1
      have lF : ((Z.take t).filter fun x => plainB x.2).length ≤ t := by
        refine Nat.le_trans (List.length_filter_le _ _) ?_
        rw [List.length_take]
        exact Nat.min_le_left _ _
      have en : ((Z.take (t + 1)).filter fun x => plainB x.2).map (fun x => D.ptr x.1) = ((Z.take t).filter fun x => plainB x.2).map (fun x => D.ptr x.1) ++ ([(a, w)].filter fun x => plainB x.2).map (fun x => D.ptr x.1) := by
        rw [take_nx hz, List.filter_append, List.map_append]
      walk_at "sx"
      refine ⟨as0.length + t + 6, ⟨false, _, hg⟩, ?_⟩
      walk_at "sx"
      rw [hg]
      refine ⟨rfl, w, rfl, by omega, ⟨rfl, rfl⟩, ?_⟩
      walk_at "sx"
      exact ⟨fun hpb => ⟨as0.length + t + 6, ⟨false, _, hg⟩, line_big (by omega), by rw [en]; simp [hpb]⟩, fun hpb => by rw [en]; simp [hpb]⟩
    rintro acc ρ ⟨rfl, rfl⟩
    rw [← lZ, List.take_length]
    walk_at "sx"
    intro a9 _
    obtain ⟨F, eF⟩ : ∃ F, F = Z.filter fun x => plainB x.2 := ⟨_, rfl⟩
    rw [← eF]
    have lA : (as0 ++ as1).length = (cs0 ++ A.map encZs).length := by simp [l0, l1]
    have sndZ : Z.map Prod.snd = A := by rw [eZ]; exact List.map_snd_zip (by omega)
    have plF : plainL b k = F.map Prod.snd := by
      rw [ePl, eF, ← sndZ, List.filter_map]
      rfl
    have fstF : F.map (fun x => D.ptr x.1) = (F.map Prod.fst).map .ptr := by rw [List.map_map]; rfl
    have kk := hk (F.map Prod.fst) a9 (by rw [plF]; simp)
    rw [plF] at kk
    rw [fstF]
    refine ⟨F.map Prod.fst ++ [a9], (F.map Prod.snd).map encZs ++ [.lst ((F.map Prod.fst).map .ptr)], by simp, ?_, kk⟩
    rw [← ghs_snoc lA, gF_ghs (by rw [List.length_append, lA]; simp; omega), List.zip_append (by simp), List.zip_append lA]
    refine List.Sublist.append ?_ (List.Sublist.refl _)
    rw [List.zip_append l0]
    refine List.Sublist.trans ?_ (List.sublist_append_right _ _)
    have z1 : (F.map Prod.fst).zip ((F.map Prod.snd).map encZs) = F.map fun x => (x.1, encZs x.2) := by
      exact zip_maps F
    have z2 : as1.zip (A.map encZs) = Z.map fun x => (x.1, encZs x.2) := by
      rw [eZ, List.zip_map_right]
      rfl
    rw [z1, z2, eF]
    exact (List.filter_sublist).map _
end K29
end NW
end TL

namespace TL
open PySem L2
set_option maxHeartbeats 2000000
local macro_rules | `(tactic| walk_at "sx") => `(tactic| try simp only [sSeq, sNil, eDisp1, eDispN, ltT_l, sumT_l, eDIn, eDNotIn, eDSetd, eDNew, eDGet, eDGet2, sDSet, eTake, sAugL, isDc, sCut, eNe2, neK, rep_l, minT_t, ltL_l, ghs_cons, ghs_nil, eKeep, keep_fr, keep_sh, keep_gh, keep_loc, eAd, eDr, eBinG, sAppE, sRevE, sPopE, eFz, fz_sh, fz_fr, fz_gh, fz_loc, ePk, gF, gP, agBg, agMg, agBd, pvw, eCallG, get_gh, stl_gh, pok_gh, owns, List.drop_succ_cons, List.drop_zero, List.take_succ_cons, List.take_zero, List.mem_cons, List.not_mem_nil, or_false, sSet, sFrz, frz_o, frz_sh, frz_s, sIf, sRet, sRetN, sPass, sBrk, sPar, sSub, sApp, sExpr, sAsg, sAug, sFld, sRevI, sPop, eLoc, eC, eUn, eBin, eAnd, eOr, eNot, eIf, eTup, eLst, dNil, dCons, tVal_eq, tstD_bl, tAndW, tOrW, tNotW, eFld_eq, eFldD_o, eProp, eMeth, eMeth0, eSl, pNone, pSome, sl_l,
  out_sh, out_fr, get_loc, get_sh, get_fr, getL_z, getL_o, getL_s, bound_z, bound_o, bound_s, isOwn_o, isOwn_s, pok_loc, pok_sh, pok_fr, stl_loc, stlS_sh, stlS_own, stl_sh, stl_fr, lay_fr, lay_sh, lay_loc, envOf, slotsOf, valN, ghOf, endK, resK, exMu, muN, List.cons_append, List.nil_append, List.append_nil, List.length_cons, List.length_nil, Nat.reduceAdd, Nat.reduceSub, List.replicate_succ, List.replicate_zero, List.replicate,
  List.getElem?_cons_zero, List.getElem?_cons_succ, List.getElem?_nil, List.set_cons_zero, List.set_cons_succ,
  add_ii, add_ss, add_ll, sub_ii, mul_ii, fdv_ii, fdvN_ii, mod_ii, modN_ii, pow_ii, lt_ii, le_ii, gt_ii, ge_ii, eq_ii, ne_ii, ix_li, ix_ti, neg_i, abs_i, int_i, int_b, max_ii, min_ii, len_l, len_t, list_l, list_t, rev_l, isi_int, isi_bl, isi_tup, isi_lst, isi_non, isN_i, isN_n, isN_t, isN_l, notN_i, notN_n, notN_t, notN_l, isTy,
  atI0, atI1, atI2, ixN0, ixN1, ixN2, some_inj_ex, isObj, setAt0, setAt1, setAt2, setAt3, restE, keepS, wipeE, ↓reduceIte, if_false, if_true,
  eCall, eCallP, eMake, pm, eTwo, dLit, eOwn2, eLenO, okLen, eMethP, eMakeP, isC_o, eRepL, lr1_i, lr2_i, List.filterMap_cons, List.filterMap_nil, agNil, agRo, agBo, agMu, agTm, callK, boIx, muIx, tms, argsK, upE, reown, hasBo, noTm, flatRo, noLstAll, noLst, noLsts, List.nodup_nil, List.nodup_cons, List.not_mem_nil, not_false_eq_true, Nat.zero_le, Nat.le_refl, Nat.reduceLeDiff, List.mem_cons, or_false, reduceCtorEq,
  gN, gTp, gLs, gCn, gNl, iR1, iR2, iRL, iLst, iTpl, iEnum, stab,
  ite_self, str_i, fmt_i, fmt_s, isB_b, notB_b, any_l, tup_l, sExt, e0_is, t0_is, d0_is, s0_is, i0_is, sTry, hXk_n, hXk_s, sRaise, eCallX, eCallXP, eMethX, eMakeX, ePropX, eOwn2X, callX, roA, opXv_exn, opIsX_exn, List.map_cons, List.map_nil, Nat.lt_irrefl, Nat.zero_lt_one, Nat.reduceLT, Nat.zero_lt_succ, some_inj_ex,
  Option.isSome_some, Option.isSome_none, true_and, and_true, eq_self, List.length_map, decide_true, decide_false, Bool.not_true, Bool.not_false, not_true_eq_false, Bool.true_eq_false, Bool.false_eq_true, false_imp_iff, forall_const, true_imp_iff, and_self, decide_eq_true_eq, decide_eq_false_iff_not, Bool.not_eq_true', Bool.not_eq_false'])
namespace NW
namespace K29
open PW (rotL rotL_len Plain plainB plainB_iff plainL plainL_mem orbL divQ ring_count)
abbrev sp_law_steps : FSpec := K86.sp_law_steps
theorem sat_law_steps : Sat 6 sp_law_steps K86.b_law_steps := K86.sat_law_steps
theorem atI_natC {xs : List D} {q : Nat} (h : q < xs.length) : L2.atI xs (q : Int) = xs[q]? := by
  unfold L2.atI ixN
  rw [if_pos (by omega), if_pos (by omega), Option.bind_some, Int.toNat_natCast]
theorem lt_app : ∀ {p q : List Int} (x y : List Int), p < q → p.length = q.length → p ++ x < q ++ y
  | [], [], _, _, h, _ => absurd h (List.lt_irrefl _)
  | [], _ :: _, _, _, _, h => by simp at h
  | _ :: _, [], _, _, _, h => by simp at h
  | a :: p, b :: q, x, y, h, hl => by
    rw [List.cons_append, List.cons_append, List.cons_lt_cons_iff]
    rcases List.cons_lt_cons_iff.mp h with z | ⟨z1, z2⟩
    · exact .inl z
    · exact .inr ⟨z1, lt_app x y z2 (by simpa using hl)⟩
theorem app_lt {x y : List Int} (h : x < y) : ∀ p : List Int, p ++ x < p ++ y
  | [] => h
  | a :: p => by
    rw [List.cons_append, List.cons_append, List.cons_lt_cons_iff]
    exact .inr ⟨rfl, app_lt h p⟩
theorem allW_sorted (m : Nat) : ∀ n, (allW m n).Pairwise (· < ·)
  | 0 => by unfold allW; exact List.pairwise_singleton _ _
  | n + 1 => by
    unfold allW
    rw [List.pairwise_flatMap]
    refine ⟨fun p _ => ?_, (allW_sorted m n).imp_of_mem fun {p q} hp hq h x hx y hy => ?_⟩
    · rw [List.pairwise_map]
      refine List.pairwise_lt_range.imp fun {s t} h => app_lt ?_ p
      rw [List.cons_lt_cons_iff]
      exact .inl (by omega)
    · obtain ⟨s, _, rfl⟩ := List.mem_map.mp hx
      obtain ⟨t, _, rfl⟩ := List.mem_map.mp hy
      exact lt_app _ _ h ((allW_mem.mp hp).1.trans (allW_mem.mp hq).1.symm)
theorem plain_sorted (m n : Nat) : (plainL m n).Pairwise (· < ·) := (allW_sorted m n).filter _
/-- a map for each modulus -/
def triv (b : Nat) : List (Int × Int) := (List.range b).map fun r : Nat => (1, -(r : Int))
theorem triv_ok {b : Nat} (h2 : 2 ≤ b) (h6 : b ≤ 60) : RulesOk b (triv b) := by
  refine ⟨by unfold triv; simp, fun i p h => ?_⟩
  unfold triv at h
  rw [List.getElem?_map] at h
  obtain ⟨r, hr, rfl⟩ := Option.map_eq_some_iff.mp h
  have hi := (List.getElem?_eq_some_iff.mp hr).1
  rw [List.length_range] at hi
  rw [List.getElem?_range hi] at hr
  cases hr
  refine ⟨?_, by omega, ((Bt.small (x := -(i : Int)) (by omega) (by omega)).mono (by omega))⟩
  unfold RuleOk
  refine ⟨by simp, by simp, ?_⟩
  show ((1 : Int) * (i : Int) + -(i : Int)) % (b : Int) = 0
  rw [Int.one_mul, Int.add_right_neg, Int.zero_emod]
def totF (b n i : Nat) : Nat := (((List.range (i + 1)).filter fun d => decide (1 ≤ d ∧ n % d = 0)).map fun d => d * (plainL b d).length).sum
theorem totF_yes {b n i : Nat} (h : n % (i + 1) = 0) : totF b n (i + 1) = totF b n i + (i + 1) * (plainL b (i + 1)).length := by
  unfold totF
  rw [List.range_succ (n := i + 1), List.filter_append, List.map_append, List.sum_append, List.filter_cons_of_pos (by simpa using h)]
  simp
theorem totF_no {b n i : Nat} (h : ¬ n % (i + 1) = 0) : totF b n (i + 1) = totF b n i := by
  unfold totF
  rw [List.range_succ (n := i + 1), List.filter_append, List.map_append, List.sum_append, List.filter_cons_of_neg (by simpa using h)]
  simp
theorem sum_len (L : List Nat) (b : Nat) : ((L.flatMap (plainL b)).map List.length).sum = (L.map fun d => d * (plainL b d).length).sum := by
  induction L with
  | nil => rfl
  | cons d L ih =>
    rw [List.flatMap_cons, List.map_append, List.sum_append, ih, List.map_cons, List.sum_cons]
    congr 1
    have : (plainL b d).map List.length = (plainL b d).map fun _ => d := List.map_congr_left fun p hp => (plainL_mem.mp hp).1
    rw [this, List.map_const', List.sum_replicate_nat, Nat.mul_comm]
theorem tot_all {b n : Nat} (h2 : 2 ≤ b) (h6 : b ≤ 60) (hn : 1 ≤ n) : totF b n n = b ^ n := by
  rw [← ring_count (triv_ok h2 h6) h2 h6 hn, List.length_flatMap]
  unfold totF divQ
  rw [← sum_len]
  congr 1
  apply List.map_congr_left
  intro p _
  unfold orbL
  simp
theorem plain_pos {b n : Nat} (h2 : 2 ≤ b) (h6 : b ≤ 60) (hn : 1 ≤ n) : 1 ≤ (plainL b n).length := by
  have hm : (List.replicate (n - 1) (0 : Int) ++ [1]) ∈ plainL b n := by
    refine plainL_mem.mpr ⟨by simp; omega, fun e he => ?_, fun k k1 k2 => ?_⟩
    · rcases List.mem_append.mp he with h | h
      · rw [List.eq_of_mem_replicate h]; omega
      · rw [List.mem_singleton.mp h]; omega
    · rw [List.length_append, List.length_replicate, List.length_singleton] at k2
      have e1 : rotL k (List.replicate (n - 1) (0 : Int) ++ [1]) = List.replicate (n - 1 - k) 0 ++ (1 :: List.replicate k 0) := by
        unfold rotL
        rw [List.drop_append_of_le_length (by rw [List.length_replicate]; omega), List.take_append_of_le_length (by rw [List.length_replicate]; omega), List.drop_replicate, List.take_replicate, Nat.min_eq_left (by omega), List.append_assoc]
        rfl
      have e2 : List.replicate (n - 1) (0 : Int) ++ [1] = List.replicate (n - 1 - k) 0 ++ (List.replicate k 0 ++ [1]) := by
        rw [← List.append_assoc, List.replicate_append_replicate, show n - 1 - k + k = n - 1 by omega]
      rw [e1, e2]
      refine app_lt ?_ _
      obtain ⟨k, rfl⟩ : ∃ j, k = j + 1 := ⟨k - 1, by omega⟩
      rw [List.replicate_succ, List.cons_append, List.cons_lt_cons_iff]
      exact .inl (by omega)
  exact List.length_pos_iff.mpr (List.ne_nil_of_mem hm)
theorem plain_len {b n : Nat} : (plainL b n).length ≤ b ^ n := by
  unfold plainL
  have := List.length_filter_le plainB (allW b n)
  rw [allW_len] at this
  exact this
def sp_law_are_plain : FSpec := fun args kr _ => ∃ (b d : Nat), args = [.ro (.int b), .ro (.int d), .ro (encWs (plainL b d))] ∧ 1 ≤ d ∧ d ≤ 9 ∧ (plainL b d).length ≤ 4096 ∧ kr (.sh (.bl true)) []
/- _law_are_plain: 0:base 1:count 2:found 3:path 4:k -/
def b_law_are_plain : SW := (sSeq (sIf (tNotW (tVal (eUn (opIsI .list) (eLoc 2)))) (sRet (eC (.bl false))) sNil)
  (sSeq (sFor (iLst (eLoc 2)) (gN 3) (sIf (tOrW (tNotW (tVal (eCall 2 sp_law_is_word (agRo (eLoc 3) (agRo (eLoc 1) agNil))))) (tNotW (tVal (eCall 2 sp_law_is_plain (agRo (eLoc 0) (agRo (eLoc 3) agNil)))))) (sRet (eC (.bl false))) sNil))
  (sRet (eUn opAll (eComp (iR2 (dCons (eC (.int 1)) (dCons (eUn opLen (eLoc 2)) dNil))) (gN 4) tYesW (eBin opLtL (eBin opIx (eLoc 2) (eBin opSub (eLoc 4) (eC (.int 1)))) (eBin opIx (eLoc 2) (eLoc 4))) [4])))))
theorem sat_law_are_plain : Sat 5 sp_law_are_plain b_law_are_plain := by
  rintro args mus kr kx hm ⟨b, d, rfl, d1, d9, hl, hk⟩
  obtain rfl := mus0 hm
  have mem : ∀ {w}, w ∈ plainL b d → w.length = d ∧ Wd b w ∧ Plain w := fun h => plainL_mem.mp h
  have srt := plain_sorted b d
  generalize plainL b d = L at *
  unfold b_law_are_plain
  walk_at "sx"
  simp only [sFor]
  walk_at "sx"
  refine ⟨fun i ρ => ∃ e3 : Sl, ρ = [.sh (.int b), .sh (.int d), .sh (encWs L), e3, .no], ⟨_, rfl⟩, fun _ _ _ _ => trivial, ?_, ?_⟩
  · rintro i e ρ hi hd ⟨e3, rfl⟩
    obtain ⟨w, hw, rfl⟩ := get_map hd
    obtain ⟨m1, m2, m3⟩ := mem (List.mem_of_getElem? hw)
    walk_at "sx"
    refine ⟨w, d, rfl, by omega, ?_⟩
    rw [decide_eq_true (by omega : (w.length : Int) = d)]
    walk_at "sx"
    refine ⟨b, w, rfl, m2, by omega, by omega, m3, ?_⟩
    walk_at "sx"
    exact ⟨_, rfl⟩
  rintro ρ ⟨e3, rfl⟩
  walk_at "sx"
  simp only [eComp, tYesW]
  walk_at "sx"
  refine ⟨by omega, fun i acc ρ => acc = List.replicate i (.bl true) ∧ ρ = [.sh (.int b), .sh (.int d), .sh (encWs L), e3, .no], ⟨rfl, rfl⟩, fun _ _ _ _ _ => trivial, ?_, ?_⟩
  · rintro i e acc ρ hi rfl ⟨rfl, rfl⟩
    have hi : 1 + i < L.length := by omega
    obtain ⟨v, hv⟩ : ∃ v, L[i]? = some v := ⟨_, List.getElem?_eq_getElem (by omega)⟩
    obtain ⟨w, hw⟩ : ∃ w, L[1 + i]? = some w := ⟨_, List.getElem?_eq_getElem hi⟩
    have lt : v < w := by
      obtain ⟨h1, e1⟩ := List.getElem?_eq_some_iff.mp hv
      obtain ⟨h2, e2⟩ := List.getElem?_eq_some_iff.mp hw
      rw [← e1, ← e2]
      exact List.pairwise_iff_getElem.mp srt i (1 + i) h1 h2 (by omega)
    have g : ∀ {q : Nat} {w}, L[q]? = some w → L2.atI (L.map encZs) (q : Int) = some (encZs w) := fun {q w} h => by
      rw [atI_natC (by rw [List.length_map]; exact (List.getElem?_eq_some_iff.mp h).1), List.getElem?_map, h]; rfl
    walk_at "sx"
    rw [show (1 : Int) + (i : Int) - 1 = (i : Int) by omega, show (1 : Int) + (i : Int) = ((1 + i : Nat) : Int) by omega]
    refine ⟨_, g hv, ?_⟩
    walk_at "sx"
    refine ⟨_, g hw, ?_⟩
    walk_at "sx"
    refine ⟨v, w, rfl, rfl, ?_⟩
    rw [decide_eq_true lt]
    walk_at "sx"
    exact ⟨line_big (by rw [List.length_replicate]; omega), by rw [← List.replicate_succ']; rfl⟩
  rintro acc ρ ⟨rfl, rfl⟩
  walk_at "sx"
  refine ⟨List.replicate _ true, by rw [List.map_replicate], ?_⟩
  rw [all_true]
  walk_at "sx"
  exact hk
theorem gget (G : REnv) (o : Sl) : (G ++ [o])[G.length]? = some o := by simp
theorem gset (G : REnv) (o p : Sl) : (G ++ [o]).set G.length p = G ++ [p] := by
  rw [List.set_append_right _ _ (Nat.le_refl _), Nat.sub_self]; rfl
def sp_law_right : FSpec := fun args kr _ => ∃ (b n : Nat), args = [.ro (.int b), .ro (.int n)] ∧ 2 ≤ b ∧ b ≤ 60 ∧ 1 ≤ n ∧ n ≤ 9 ∧ b ^ n ≤ 512 ∧ kr (.sh (.bl true)) []
/- _law_right: 0:base 1:count 2:total 3:part 4:found 5:kept 6:path -/
def b_law_right : SW := (sSeq (sSet 2 (eC (.int 0)))
  (sSeq (sFor (iR2 (dCons (eC (.int 1)) (dCons (eBin opAdd (eLoc 1) (eC (.int 1))) dNil))) (gN 3) (sIf (tVal (eBin opEq (eBin opMod (eUn opInt (eLoc 1)) (eLoc 3)) (eC (.int 0)))) (sSeq (sSet 4 (eFz 7 (eAd (eCall 2 sp_plain_words (agRo (eLoc 0) (agRo (eLoc 3) agNil))))))
  (sSeq (sIf (tNotW (tVal (eCall 3 sp_law_are_plain (agRo (eLoc 0) (agRo (eLoc 3) (agBo 4 agNil)))))) (sRet (eC (.bl false))) sNil)
  (sFrz 2 (sSet 2 (eBin opAdd (eLoc 2) (eBin opMul (eLoc 3) (eUn opLen (eLoc 4)))))))) sNil))
  (sSeq (sIf (tVal (eBin opNe (eLoc 2) (eCall 2 sp_law_power (agRo (eLoc 0) (agRo (eLoc 1) agNil))))) (sRet (eC (.bl false))) sNil)
  (sSeq (sSet 4 (eAd (eCall 2 sp_plain_words (agRo (eLoc 0) (agRo (eLoc 1) agNil)))))
  (sSeq (sFrz 5 (sSet 5 (eComp (iLst (eLoc 4)) (gN 6) tYesW (eUn opList (eDr (eLoc 6))) [6])))
  (sSeq (sAppE (eDr (eBin opIx (eLoc 4) (eC (.int 0)))) (eC (.int 0)))
  (sSeq (sCut 7 (sRevI 4))
  (sRet (eBin opEq (eFz 7 (eCallP 2 [0, 1] sp_plain_words (agRo (eLoc 0) (agRo (eLoc 1) agNil)))) (eLoc 5))))))))))
theorem sat_law_right : Sat 7 sp_law_right b_law_right := by
  rintro args mus kr kx hm ⟨b, n, rfl, h2, h6, n1, n9, hp, hk⟩
  obtain rfl := mus0 hm
  have pw : ∀ i, i ≤ n → b ^ i ≤ 512 := fun i hi => Nat.le_trans (Nat.pow_le_pow_right (by omega) hi) hp
  have pl : ∀ i, i ≤ n → (plainL b i).length ≤ 512 := fun i hi => Nat.le_trans plain_len (pw i hi)
  unfold b_law_right
  walk_at "sx"
  simp only [sFor]
  walk_at "sx"
  refine ⟨by omega, fun i ρ => ∃ e3 e4 : Sl, ρ = [.sh (.int b), .sh (.int n), .sh (.int (totF b n i : Nat)), e3, e4, .no, .no], ⟨_, _, rfl⟩, fun _ _ _ _ => trivial, ?_, ?_⟩
  · rintro i d ρ hi rfl ⟨e3, e4, rfl⟩
    have hi : i < n := by omega
    rw [show (1 : Int) + (i : Int) = ((i + 1 : Nat) : Int) by omega]
    walk_at "sx"
    refine ⟨by omega, fun hd => ?_, fun hd => ?_⟩
    · have hd : n % (i + 1) = 0 := by
        have e : (n : Int) % ((i + 1 : Nat) : Int) = ((n % (i + 1) : Nat) : Int) := (Int.natCast_emod _ _).symm
        omega
      have pl1 := pl (i + 1) (by omega)
      refine ⟨b, i + 1, rfl, h2, by omega, by omega, fun j hj => Nat.le_trans (pw j (by omega)) (by omega), fun fs a hfl => ?_⟩
      show out _ _ _
      rw [out_gx]
      intro nd nin
      have lc : fs.length = ((plainL b (i + 1)).map encZs).length := by rw [List.length_map, hfl]
      rw [ghs_snoc lc]
      walk_at "sx"
      refine ⟨(ghs fs ((plainL b (i + 1)).map encZs)).length + 7, .lst (fs.map .ptr), gget _ _, ?_⟩
      walk_at "sx"
      rw [gset]
      walk_at "sx"
      refine ⟨encWs (plainL b (i + 1)), .lst (vws_ptr lc fun p hp => by rw [gF_app, gF_ghs lc]; exact List.mem_append_left _ hp), b, i + 1, rfl, by omega, by omega, by omega, ⟨rfl, rfl⟩, ?_⟩
      walk_at "sx"
      refine ⟨mulOk_small (by omega) ((Bt.small (x := ((plainL b (i + 1)).length : Int)) (by omega) (by omega)).mono (by omega)), .sh (.int (i + 1 : Nat)), .own false a (encWs (plainL b (i + 1))), ?_⟩
      rw [totF_yes hd, show (totF b n i : Int) + ((i + 1 : Nat) : Int) * ((plainL b (i + 1)).length : Int) = ((totF b n i + (i + 1) * (plainL b (i + 1)).length : Nat) : Int) by simp]
    · have hd : ¬ n % (i + 1) = 0 := fun z => hd (by
        have e : (n : Int) % ((i + 1 : Nat) : Int) = ((n % (i + 1) : Nat) : Int) := (Int.natCast_emod _ _).symm
        omega)
      rw [totF_no hd]
      exact ⟨_, _, rfl⟩
  rintro ρ ⟨e3, e4, rfl⟩
  rw [show ((n : Int) + 1 - 1).toNat = n by omega, tot_all h2 h6 n1]
  walk_at "sx"
  refine ⟨b, n, rfl, by omega, by omega, ?_⟩
  rw [show (b : Int) ^ n = ((b ^ n : Nat) : Int) by simp]
  walk_at "sx"
  have pos := plain_pos h2 h6 n1
  have pln := pl n (Nat.le_refl _)
  have wlen : ∀ {w}, w ∈ plainL b n → w.length = n := fun h => (plainL_mem.mp h).1
  refine ⟨b, n, rfl, h2, n1, by omega, fun j hj => Nat.le_trans (pw j hj) (by omega), fun fs a hfl => ?_⟩
  show out _ _ _
  rw [out_gx]
  intro nd nin
  have lc : fs.length = ((plainL b n).map encZs).length := by rw [List.length_map, hfl]
  rw [ghs_snoc lc]
  walk_at "sx"
  refine ⟨(ghs fs ((plainL b n).map encZs)).length + 7, .lst (fs.map .ptr), gget _ _, ?_⟩
  walk_at "sx"
  rw [gset]
  simp only [eComp, tYesW, iLst]
  walk_at "sx"
  obtain ⟨L, eL⟩ : ∃ L, L = plainL b n := ⟨_, rfl⟩
  rw [← eL] at pos pln hfl lc ⊢
  have wlen : ∀ {w}, w ∈ L → w.length = n := fun h => wlen (by rw [← eL]; exact h)
  have gd : ∀ {T : REnv} {t : Nat} {f : Addr} {w : List Int}, fs[t]? = some f → L[t]? = some w → (ghs fs (L.map encZs) ++ T)[t]? = some (.own false f (encZs w)) := fun {T t f w} h1 h2 => by
    rw [List.getElem?_append_left (by rw [ghs_len lc]; exact (List.getElem?_eq_some_iff.mp h1).1), ghs_at h1 (by rw [List.getElem?_map, h2]; rfl)]
  refine ⟨fun t acc ρ => acc = (L.take t).map encZs ∧ ρ = [.sh (.int b), .sh (.int n), .sh (.int (b ^ n : Nat)), e3, .own false a (.lst (fs.map .ptr)), .no, .no] ++ (ghs fs (L.map encZs) ++ [.no]), ⟨rfl, rfl⟩, fun t acc ρ _ h => by obtain ⟨_, rfl⟩ := h; rfl, ?_, ?_⟩
  · rintro t d acc ρ ht hd ⟨rfl, rfl⟩
    obtain ⟨f, hf, rfl⟩ := get_map hd
    obtain ⟨w, hw⟩ : ∃ w, L[t]? = some w := ⟨_, List.getElem?_eq_getElem (by omega)⟩
    have wl := wlen (List.mem_of_getElem? hw)
    walk_at "sx"
    refine ⟨t + 7, ⟨false, _, gd hf hw⟩, ?_⟩
    walk_at "sx"
    rw [show getL (ghs fs (L.map encZs) ++ [.no]) t = encZs w by unfold getL; rw [gd hf hw]]
    walk_at "sx"
    refine ⟨line_big (by rw [List.length_take]; omega), ?_⟩
    rw [take_nx hw, List.map_append]
    rfl
  rintro acc ρ ⟨rfl, rfl⟩
  rw [hfl, List.take_length]
  intro a5
  obtain ⟨f0, hf0⟩ : ∃ f, fs[0]? = some f := ⟨_, List.getElem?_eq_getElem (by omega)⟩
  obtain ⟨w0, hw0⟩ : ∃ w, L[0]? = some w := ⟨_, List.getElem?_eq_getElem (by omega)⟩
  have wl0 := wlen (List.mem_of_getElem? hw0)
  have g0 : L2.atI (fs.map D.ptr) 0 = some (.ptr f0) := by
    have := atI_natC (xs := fs.map D.ptr) (q := 0) (by rw [List.length_map]; omega)
    rw [List.getElem?_map, hf0] at this
    exact this
  walk_at "sx"
  refine ⟨_, g0, 0 + 7, ⟨false, _, gd hf0 hw0⟩, ⟨false, _, gd hf0 hw0⟩, ?_⟩
  walk_at "sx"
  rw [gd hf0 hw0]
  refine ⟨rfl, line_big (by rw [List.length_map]; omega), b, n, rfl, h2, n1, by omega, fun j hj => Nat.le_trans (pw j hj) (by omega), fun fs2 a2 hfl2 => ?_⟩
  rw [← eL] at hfl2 ⊢
  show out _ _ _
  rw [out_gx]
  intro nd2 nin2
  have lc2 : fs2.length = (L.map encZs).length := by rw [List.length_map, hfl2]
  rw [ghs_snoc lc2]
  walk_at "sx"
  refine ⟨encWs L, .ptr (d := .lst (fs2.map .ptr)) ?_ (.lst (vws_ptr lc2 fun p hp => ?_)), ?_⟩
  · rw [gF_app]
    exact List.mem_append_right _ (List.mem_singleton.mpr rfl)
  · rw [gF_app, gF_ghs lc2]
    exact List.mem_append_left _ hp
  walk_at "sx"
  refine ⟨⟨okDs_map (n := 63) (fun w => okD_encZs (n := 62) w) L, okDs_map (n := 63) (fun w => okD_encZs (n := 62) w) L⟩, ?_⟩
  rw [show eqD (encWs L) (.lst (L.map encZs)) = true from (eqDs_map eqD_encZs L L).trans (decide_eq_true rfl)]
  walk_at "sx"
  exact hk
abbrev sp_law : FSpec := K24.sp_law
/- law: 0:script 1:k 2:source 3:base -/
def b_law : SW := (sSeq (sFor (iR1 (dCons (eBin opMax2 (eC (.int 1)) (eBin opMin2 (eC (.int 6)) (eUn opLen (eLoc 0)))) dNil)) (gN 1) (sSeq (sSet 2 (eCall 2 sp_law_source (agRo (eLoc 0) (agRo (eLoc 1) agNil))))
  (sSeq (sFrz 3 (sSet 3 (eBin opAdd (eC (.int 2)) (eCall 2 sp_law_take (agMu 2 (agRo (eBin opIx (eLst (dLit [(.int 1), (.int 11), (.int 59)] dNil)) (eCall 2 sp_law_take (agMu 2 (agRo (eC (.int 3)) agNil)))) agNil))))))
  (sIf (tNotW (tVal (eCall 2 sp_law_right (agRo (eLoc 3) (agRo (eBin opMax2 (eC (.int 1)) (eCall 2 sp_law_steps (agMu 2 (agRo (eLoc 3) agNil)))) agNil))))) (sRet (eC (.bl false))) sNil))))
  (sRet (eC (.bl true))))
theorem sat_law : Sat 4 sp_law b_law := by
  rintro args mus kr kx hm ⟨ns, rfl, hns, hln, hk⟩
  obtain rfl := mus0 hm
  unfold b_law
  unfold sFor
  walk_at "sx"
  try simp only [List.length_map]
  refine ⟨by (repeat' split) <;> omega, fun i ρ => ∃ e1 e2 e3, ρ = [.sh (encZs ns), e1, e2, e3], ⟨_, _, _, rfl⟩, fun _ _ _ _ => trivial, ?_, ?_⟩
  · rintro i d ρ hi rfl ⟨e1, e2, e3, rfl⟩
    have hi : i < 31 := by revert hi; (repeat' split) <;> omega
    walk_at "sx"
    refine ⟨ns, i, rfl, by omega, hns, hln, fun x y c => ?_⟩
    walk_at "sx"
    refine ⟨x, y, 0, 3, 0, rfl, by omega, by unfold Bt; decide, by omega, by omega, by omega, fun t x z ht0 ht hz0 hzN => ?_⟩
    walk_at "sx"
    obtain ⟨top, htop, en⟩ := list3 (a := 1) (b := 11) (c := 59) ht0 ht
    rw [en]
    refine ⟨_, rfl, ?_⟩
    have ht : 1 ≤ top ∧ top ≤ 59 := by omega
    refine ⟨x, y, z, top, 1, rfl, by omega, (Bt.small (by omega) (by omega)).mono (by omega), hz0, by omega, by omega, fun t x z ht0 ht hz0 hzN => ?_⟩
    walk_at "sx"
    obtain ⟨base, hbase⟩ := Int.eq_ofNat_of_zero_le (show 0 ≤ 2 + t by omega)
    rw [hbase]
    refine ⟨x, y, z, 10, base, rfl, by omega, by omega, hz0, by omega, by omega, fun n x z hn hp hz0 hzN => ?_⟩
    walk_at "sx"
    obtain ⟨q, hq, q1, q9, hp2⟩ : ∃ q : Nat, (if (n : Int) > 1 then (n : Int) else 1) = (q : Int) ∧ 1 ≤ q ∧ q ≤ 9 ∧ base ^ q ≤ 512 := by
      by_cases h : (n : Int) > 1
      · have e : ((base ^ n : Nat) : Int) = (base : Int) ^ n := by simp
        exact ⟨n, by rw [if_pos h], by omega, hn, by omega⟩
      · exact ⟨1, by rw [if_neg h]; rfl, by omega, by omega, by rw [Nat.pow_one]; omega⟩
    rw [hq]
    refine ⟨base, q, rfl, by omega, by omega, q1, q9, hp2, ?_⟩
    walk_at "sx"
    exact ⟨_, _, _, rfl⟩
  · rintro ρ ⟨e1, e2, e3, rfl⟩
    walk_at "sx"
    exact hk
end K29
end NW
end TL

namespace TL
open PySem PySem.Spec L2
namespace NW.K29
def top (i : Nat) : Stmt := PySem.Challenge.pw_reststeps_k29_plain_words.main.body.getD i (.Pass ⟨0, 0, 0, 0⟩)
abbrev s_is_plain_and_least : Stmt := top 7
abbrev s_check_number : Stmt := top 5
abbrev s_plain_words : Stmt := top 8
abbrev s_law_power : Stmt := top 14
abbrev s_law_is_integer : Stmt := top 12
abbrev s_law_is_word : Stmt := top 13
abbrev s_law_is_plain : Stmt := top 16
abbrev s_law_are_plain : Stmt := top 17
abbrev s_law_right : Stmt := top 18
abbrev s_law_take : Stmt := top 11
abbrev s_law_steps : Stmt := top 15
abbrev s_law_source : Stmt := top 10
abbrev s_law : Stmt := top 19
section
variable {P : Program} {w : World} {K : PySem.W.Frag} {mg : Str → Option Value} {base : Heap} {C : Ccs}
theorem sc_is_plain_and_least : FnScope ["word", "k"] ["word"] (defScope s_is_plain_and_least) := ⟨rfl, rfl, rfl, by decide +kernel, rfl, by decide +kernel, by decide +kernel⟩
theorem ok_is_plain_and_least {f_is_plain_and_least : Addr} {d_is_plain_and_least : FuncData} (F : Fun K "is_plain_and_least" "is_plain_and_least" s_is_plain_and_least f_is_plain_and_least d_is_plain_and_least) (cK : C.cc.K = K) (n_len : mg "len" = none) (n_range : mg "range" = none) : FnOk P w K mg base CX0 1 f_is_plain_and_least d_is_plain_and_least ["word"] (LSp0 C sp_is_plain_and_least 1) :=
  fn_ok F sc_is_plain_and_least sat_is_plain_and_least (by decide) fun cdv A outer s H E Z hcc hz hr => have hK : Z.cc.K = K := by rw [hcc]; exact cK
  (ds_cons (ds_for PassesOwn.never rfl (di_r2 rfl n_range (da_cons de_int (da_cons (de_b1 call_lenA (ops_len hK) n_len (de_loc 0)) da_nil))) (dg_name (i := 1) sc_is_plain_and_least.nd) (ds_one (ds_if (dt_cmp (op_leL (room6 hr)) (ops_leL hK) (de_bin op_addA (ops_add hK) (de_slice hK (de_loc 0) (dp_some (de_loc 1)) dp_none) (de_slice hK (de_loc 0) dp_none (dp_some (de_loc 1)))) (de_loc 0) (nomark _)) (ds_one (ds_ret de_bl)) ds_nil)))
  (ds_one (ds_ret de_bl)))
theorem sc_check_number : FnScope ["number", "least"] ["number", "least"] (defScope s_check_number) := ⟨rfl, rfl, rfl, by decide +kernel, rfl, by decide +kernel, by decide +kernel⟩
theorem ok_check_number {f_check_number : Addr} {d_check_number : FuncData} (F : Fun K "check_number" "check_number" s_check_number f_check_number d_check_number) (cK : C.cc.K = K)  : FnOk P w K mg base CX0 1 f_check_number d_check_number ["number", "least"] (LSp0 C sp_check_number 2) :=
  fn_ok F sc_check_number sat_check_number (by decide) fun cdv A outer s H E Z hcc hz hr => have hK : Z.cc.K = K := by rw [hcc]; exact cK
  (ds_one (ds_if (dt_cmp op_lt ops_lt (de_loc 0) (de_loc 1) (nomark _)) (ds_one ds_never) ds_nil))
theorem sc_plain_words : FnScope ["modulus", "length", "words", "turn", "word", "entry"] ["modulus", "length"] (defScope s_plain_words) := ⟨rfl, rfl, rfl, by decide +kernel, rfl, by decide +kernel, by decide +kernel⟩
theorem ok_plain_words {f_plain_words : Addr} {d_plain_words : FuncData} (F : Fun K "plain_words" "plain_words" s_plain_words f_plain_words d_plain_words) (cK : C.cc.K = K) (n_range : mg "range" = none) {f_is_plain_and_least : Addr} {d_is_plain_and_least : FuncData} (ok_is_plain_and_least : FnOk P w K mg base CX0 1 f_is_plain_and_least d_is_plain_and_least ["word"] (LSp0 C sp_is_plain_and_least 1)) (B_is_plain_and_least : Binds K d_is_plain_and_least ["word"] []) (M_is_plain_and_least : mg "is_plain_and_least" = some (.ref f_is_plain_and_least)) (K_is_plain_and_least : PySem.W.keepIn K (.ref f_is_plain_and_least) = true) {f_check_number : Addr} {d_check_number : FuncData} (ok_check_number : FnOk P w K mg base CX0 1 f_check_number d_check_number ["number", "least"] (LSp0 C sp_check_number 2)) (B_check_number : Binds K d_check_number ["number", "least"] []) (M_check_number : mg "check_number" = some (.ref f_check_number)) (K_check_number : PySem.W.keepIn K (.ref f_check_number) = true) : FnOk P w K mg base CX0 2 f_plain_words d_plain_words ["modulus", "length"] (LSp0 C sp_plain_words 2) :=
  fn_ok F sc_plain_words sat_plain_words (by decide) fun cdv A outer s H E Z hcc hz hr => have hK : Z.cc.K = K := by rw [hcc]; exact cK
  (ds_cons (ds_if (dt_cmp op_lt ops_lt (de_loc 0) de_int (nomark _)) (ds_one ds_never) ds_nil)
  (ds_cons (ds_expr (de_callN hcc hz ok_check_number (hr.mono (by decide)) M_check_number K_check_number B_check_number (dag_ro (de_loc 1) (dag_ro de_int dag_nil))))
  (ds_cons (ds_frz (i := 2) (ds_set (i := 2) sc_plain_words.nd (de_lst (da_cons (de_keep (de_lst da_nil)) da_nil))))
  (ds_cons (ds_for PassesOwn.never rfl (di_r1 rfl n_range (da_cons (de_loc 1) da_nil)) (dg_name (i := 3) sc_plain_words.nd) (ds_one (ds_frz (i := 2) (ds_setLc2 (i := 2) (own := [("word", 4), ("entry", 5)]) (vs1 := [5]) rfl sc_plain_words.nd (di_lst hK (de_loc 2)) (blkOk_by (own := [("word", 4), ("entry", 5)]) (N := ["modulus", "length", "words", "turn", "word", "entry"]) (sc := defScope s_plain_words) (by decide +kernel)) (fun _ _ _ _ _ => (dgc_name (i := 4) sc_plain_words.nd)) (fun _ _ _ _ _ _ _ => (di_r1 rfl n_range (da_cons (de_loc 0) da_nil))) (fun _ _ _ _ _ => (dgc_name (i := 5) sc_plain_words.nd)) (fun _ _ _ _ _ _ _ => (de_keep (de_bin op_addA (ops_add hK) (de_dr (de_loc 4)) (de_lst (da_cons (de_loc 5) da_nil))))) (sw_true rfl rfl rfl (by decide +kernel))))))
  (ds_one (ds_ret (de_pk (de_keep (de_comp (own := [("word", 4)]) rfl sc_plain_words.nd (di_lst hK (de_loc 2)) (blkOk_by (own := [("word", 4)]) (N := ["modulus", "length", "words", "turn", "word", "entry"]) (sc := defScope s_plain_words) (by decide +kernel)) (fun _ _ _ _ _ => (dgc_name (i := 4) sc_plain_words.nd)) (fun _ _ _ _ _ _ _ => (dts_one (dt_val (de_callN hcc rfl ok_is_plain_and_least (hr.mono (by decide)) M_is_plain_and_least K_is_plain_and_least B_is_plain_and_least (dag_bg (de_dr (de_loc 4)) dag_nil))))) (fun _ _ _ _ _ _ _ => (de_dr (de_loc 4))))) (Nat.le_of_ble_eq_true rfl))))))))
theorem sc_law_power : FnScope ["base", "count", "scale", "turn"] ["base", "count"] (defScope s_law_power) := ⟨rfl, rfl, rfl, by decide +kernel, rfl, by decide +kernel, by decide +kernel⟩
theorem ok_law_power {f_law_power : Addr} {d_law_power : FuncData} (F : Fun K "_law_power" "_law_power" s_law_power f_law_power d_law_power) (cK : C.cc.K = K) (n_range : mg "range" = none) : FnOk P w K mg base CX0 1 f_law_power d_law_power ["base", "count"] (LSp0 C sp_law_power 2) :=
  fn_ok F sc_law_power sat_law_power (by decide) fun cdv A outer s H E Z hcc hz hr => have hK : Z.cc.K = K := by rw [hcc]; exact cK
  (ds_cons (ds_set (i := 2) sc_law_power.nd de_int)
  (ds_cons (ds_for PassesOwn.never rfl (di_r1 rfl n_range (da_cons (de_loc 1) da_nil)) (dg_name (i := 3) sc_law_power.nd) (ds_one (ds_frz (i := 2) (ds_set (i := 2) sc_law_power.nd (de_bin op_mulX ops_mul (de_loc 2) (de_loc 0))))))
  (ds_one (ds_ret (de_loc 2)))))
theorem sc_law_is_integer : FnScope ["value"] ["value"] (defScope s_law_is_integer) := ⟨rfl, rfl, rfl, by decide +kernel, rfl, by decide +kernel, by decide +kernel⟩
theorem ok_law_is_integer {f_law_is_integer : Addr} {d_law_is_integer : FuncData} (F : Fun K "_law_is_integer" "_law_is_integer" s_law_is_integer f_law_is_integer d_law_is_integer) (cK : C.cc.K = K) (n_bool : mg "bool" = none) (n_int : mg "int" = none) (n_isinstance : mg "isinstance" = none) : FnOk P w K mg base CX0 1 f_law_is_integer d_law_is_integer ["value"] (LSp0 C sp_law_is_integer 1) :=
  fn_ok F sc_law_is_integer sat_law_is_integer (by decide) fun cdv A outer s H E Z hcc hz hr => have hK : Z.cc.K = K := by rw [hcc]; exact cK
  (ds_one (ds_ret (de_and (de_isI .int rfl hK n_isinstance n_int (de_loc 0)) (de_one (de_not (de_isI .bool rfl hK n_isinstance n_bool (de_loc 0)))))))
theorem sc_law_is_word : FnScope ["value", "many", "entry"] ["value", "many"] (defScope s_law_is_word) := ⟨rfl, rfl, rfl, by decide +kernel, rfl, by decide +kernel, by decide +kernel⟩
theorem ok_law_is_word {f_law_is_word : Addr} {d_law_is_word : FuncData} (F : Fun K "_law_is_word" "_law_is_word" s_law_is_word f_law_is_word d_law_is_word) (cK : C.cc.K = K) (n_all : mg "all" = none) (n_isinstance : mg "isinstance" = none) (n_len : mg "len" = none) (n_list : mg "list" = none) {f_law_is_integer : Addr} {d_law_is_integer : FuncData} (ok_law_is_integer : FnOk P w K mg base CX0 1 f_law_is_integer d_law_is_integer ["value"] (LSp0 C sp_law_is_integer 1)) (B_law_is_integer : Binds K d_law_is_integer ["value"] []) (M_law_is_integer : mg "_law_is_integer" = some (.ref f_law_is_integer)) (K_law_is_integer : PySem.W.keepIn K (.ref f_law_is_integer) = true) : FnOk P w K mg base CX0 2 f_law_is_word d_law_is_word ["value", "many"] (LSp0 C sp_law_is_word 2) :=
  fn_ok F sc_law_is_word sat_law_is_word (by decide) fun cdv A outer s H E Z hcc hz hr => have hK : Z.cc.K = K := by rw [hcc]; exact cK
  (ds_one (ds_ret (de_and (de_isI .list rfl hK n_isinstance n_list (de_loc 0)) (de_and (de_cmp (op_eqD hr.units) (ops_eq hK) (de_b1 call_lenA (ops_len hK) n_len (de_loc 0)) (de_loc 1) (nomark _)) (de_one (de_b1 (cr_all rfl) (ops_all hK) n_all (de_comp (own := [("entry", 2)]) rfl sc_law_is_word.nd (di_lst hK (de_loc 0)) (blkOk_by (own := [("entry", 2)]) (N := ["value", "many", "entry"]) (sc := defScope s_law_is_word) (by decide +kernel)) (fun _ _ _ _ _ => (dgc_name (i := 2) sc_law_is_word.nd)) (fun _ _ _ _ _ _ _ => dts_nil) (fun _ _ _ _ _ _ _ => (de_callN hcc rfl ok_law_is_integer (hr.mono (by decide)) M_law_is_integer K_law_is_integer B_law_is_integer (dag_ro (de_loc 2) dag_nil))))))))))
theorem sc_law_is_plain : FnScope ["base", "path", "k"] ["base", "path"] (defScope s_law_is_plain) := ⟨rfl, rfl, rfl, by decide +kernel, rfl, by decide +kernel, by decide +kernel⟩
theorem ok_law_is_plain {f_law_is_plain : Addr} {d_law_is_plain : FuncData} (F : Fun K "_law_is_plain" "_law_is_plain" s_law_is_plain f_law_is_plain d_law_is_plain) (cK : C.cc.K = K) (n_len : mg "len" = none) (n_max : mg "max" = none) (n_min : mg "min" = none) (n_range : mg "range" = none) : FnOk P w K mg base CX0 1 f_law_is_plain d_law_is_plain ["base", "path"] (LSp0 C sp_law_is_plain 2) :=
  fn_ok F sc_law_is_plain sat_law_is_plain (by decide) fun cdv A outer s H E Z hcc hz hr => have hK : Z.cc.K = K := by rw [hcc]; exact cK
  (ds_cons (ds_if (PW.pt (dw_or (dt_cmp op_lt ops_lt (de_b1 (cr_min rfl) (ops_min1 hK) n_min (de_loc 1)) de_int (nomark _)) (dw_or1 (dt_cmp op_ge ops_ge (de_b1 (cr_max rfl) (ops_max1 hK) n_max (de_loc 1)) (de_loc 0) (nomark _))))) (ds_one (ds_ret de_bl)) ds_nil)
  (ds_cons (ds_for PassesOwn.never rfl (di_r2 rfl n_range (da_cons de_int (da_cons (de_b1 call_lenA (ops_len hK) n_len (de_loc 1)) da_nil))) (dg_name (i := 2) sc_law_is_plain.nd) (ds_one (ds_if (dt_cmp (op_leL (room6 hr)) (ops_leL hK) (de_bin op_addA (ops_add hK) (de_slice hK (de_loc 1) (dp_some (de_loc 2)) dp_none) (de_slice hK (de_loc 1) dp_none (dp_some (de_loc 2)))) (de_loc 1) (nomark _)) (ds_one (ds_ret de_bl)) ds_nil)))
  (ds_one (ds_ret de_bl))))
theorem sc_law_are_plain : FnScope ["base", "count", "found", "path", "k"] ["base", "count", "found"] (defScope s_law_are_plain) := ⟨rfl, rfl, rfl, by decide +kernel, rfl, by decide +kernel, by decide +kernel⟩
theorem ok_law_are_plain {f_law_are_plain : Addr} {d_law_are_plain : FuncData} (F : Fun K "_law_are_plain" "_law_are_plain" s_law_are_plain f_law_are_plain d_law_are_plain) (cK : C.cc.K = K) (n_all : mg "all" = none) (n_isinstance : mg "isinstance" = none) (n_len : mg "len" = none) (n_list : mg "list" = none) (n_range : mg "range" = none) {f_law_is_word : Addr} {d_law_is_word : FuncData} (ok_law_is_word : FnOk P w K mg base CX0 2 f_law_is_word d_law_is_word ["value", "many"] (LSp0 C sp_law_is_word 2)) (B_law_is_word : Binds K d_law_is_word ["value", "many"] []) (M_law_is_word : mg "_law_is_word" = some (.ref f_law_is_word)) (K_law_is_word : PySem.W.keepIn K (.ref f_law_is_word) = true) {f_law_is_plain : Addr} {d_law_is_plain : FuncData} (ok_law_is_plain : FnOk P w K mg base CX0 1 f_law_is_plain d_law_is_plain ["base", "path"] (LSp0 C sp_law_is_plain 2)) (B_law_is_plain : Binds K d_law_is_plain ["base", "path"] []) (M_law_is_plain : mg "_law_is_plain" = some (.ref f_law_is_plain)) (K_law_is_plain : PySem.W.keepIn K (.ref f_law_is_plain) = true) : FnOk P w K mg base CX0 3 f_law_are_plain d_law_are_plain ["base", "count", "found"] (LSp0 C sp_law_are_plain 3) :=
  fn_ok F sc_law_are_plain sat_law_are_plain (by decide) fun cdv A outer s H E Z hcc hz hr => have hK : Z.cc.K = K := by rw [hcc]; exact cK
  (ds_cons (ds_if (dt_not (dt_val (de_isI .list rfl hK n_isinstance n_list (de_loc 2)))) (ds_one (ds_ret de_bl)) ds_nil)
  (ds_cons (ds_for PassesOwn.never rfl (di_lst hK (de_loc 2)) (dg_name (i := 3) sc_law_are_plain.nd) (ds_one (ds_if (PW.pt (dw_or (dt_not (dt_val (de_callN hcc hz ok_law_is_word (hr.mono (by decide)) M_law_is_word K_law_is_word B_law_is_word (dag_ro (de_loc 3) (dag_ro (de_loc 1) dag_nil))))) (dw_or1 (dt_not (dt_val (de_callN hcc hz ok_law_is_plain (hr.mono (by decide)) M_law_is_plain K_law_is_plain B_law_is_plain (dag_ro (de_loc 0) (dag_ro (de_loc 3) dag_nil)))))))) (ds_one (ds_ret de_bl)) ds_nil)))
  (ds_one (ds_ret (de_b1 (cr_all rfl) (ops_all hK) n_all (de_comp (own := [("k", 4)]) rfl sc_law_are_plain.nd (di_r2 rfl n_range (da_cons de_int (da_cons (de_b1 call_lenA (ops_len hK) n_len (de_loc 2)) da_nil))) (blkOk_by (own := [("k", 4)]) (N := ["base", "count", "found", "path", "k"]) (sc := defScope s_law_are_plain) (by decide +kernel)) (fun _ _ _ _ _ => (dgc_name (i := 4) sc_law_are_plain.nd)) (fun _ _ _ _ _ _ _ => dts_nil) (fun _ _ _ _ _ _ _ => (de_cmp (op_ltL (room6 hr)) (ops_ltL hK) (de_ix hK (de_loc 2) (de_bin op_sub ops_sub (de_loc 4) de_int)) (de_ix hK (de_loc 2) (de_loc 4)) (nomark _)))))))))
theorem sc_law_right : FnScope ["base", "count", "total", "part", "found", "kept", "path"] ["base", "count"] (defScope s_law_right) := ⟨rfl, rfl, rfl, by decide +kernel, rfl, by decide +kernel, by decide +kernel⟩
theorem ok_law_right {f_law_right : Addr} {d_law_right : FuncData} (F : Fun K "_law_right" "_law_right" s_law_right f_law_right d_law_right) (cK : C.cc.K = K) (n_int : mg "int" = none) (n_len : mg "len" = none) (n_list : mg "list" = none) (n_range : mg "range" = none) {f_plain_words : Addr} {d_plain_words : FuncData} (ok_plain_words : FnOk P w K mg base CX0 2 f_plain_words d_plain_words ["modulus", "length"] (LSp0 C sp_plain_words 2)) (B_plain_words : Binds K d_plain_words ["modulus", "length"] []) (M_plain_words : mg "plain_words" = some (.ref f_plain_words)) (K_plain_words : PySem.W.keepIn K (.ref f_plain_words) = true) {f_law_power : Addr} {d_law_power : FuncData} (ok_law_power : FnOk P w K mg base CX0 1 f_law_power d_law_power ["base", "count"] (LSp0 C sp_law_power 2)) (B_law_power : Binds K d_law_power ["base", "count"] []) (M_law_power : mg "_law_power" = some (.ref f_law_power)) (K_law_power : PySem.W.keepIn K (.ref f_law_power) = true) {f_law_are_plain : Addr} {d_law_are_plain : FuncData} (ok_law_are_plain : FnOk P w K mg base CX0 3 f_law_are_plain d_law_are_plain ["base", "count", "found"] (LSp0 C sp_law_are_plain 3)) (B_law_are_plain : Binds K d_law_are_plain ["base", "count", "found"] []) (M_law_are_plain : mg "_law_are_plain" = some (.ref f_law_are_plain)) (K_law_are_plain : PySem.W.keepIn K (.ref f_law_are_plain) = true) (KB_plain_words_01 : KBp K d_plain_words ["modulus", "length"] ["modulus", "length"] [0, 1]) : FnOk P w K mg base CX0 4 f_law_right d_law_right ["base", "count"] (LSp0 C sp_law_right 2) :=
  fn_ok F sc_law_right sat_law_right (by decide) fun cdv A outer s H E Z hcc hz hr => have hK : Z.cc.K = K := by rw [hcc]; exact cK
  (ds_cons (ds_set (i := 2) sc_law_right.nd de_int)
  (ds_cons (ds_for PassesOwn.never rfl (di_r2 rfl n_range (da_cons de_int (da_cons (de_bin op_addA (ops_add hK) (de_loc 1) de_int) da_nil))) (dg_name (i := 3) sc_law_right.nd) (ds_one (ds_if (dt_cmp (op_eqD hr.units) (ops_eq hK) (de_bin op_mod ops_mod (de_t1 call_int1 ops_int1 n_int (de_loc 1)) (de_loc 3)) de_int (nomark _)) (ds_cons (ds_set (i := 4) sc_law_right.nd (de_fz (de_ad (de_callN hcc hz ok_plain_words (hr.mono (by decide)) M_plain_words K_plain_words B_plain_words (dag_ro (de_loc 0) (dag_ro (de_loc 3) dag_nil)))) (Nat.le_of_ble_eq_true rfl)))
  (ds_cons (ds_if (dt_not (dt_val (de_callN hcc hz ok_law_are_plain (hr.mono (by decide)) M_law_are_plain K_law_are_plain B_law_are_plain (dag_ro (de_loc 0) (dag_ro (de_loc 3) (dag_bo (i := 4) dag_nil)))))) (ds_one (ds_ret de_bl)) ds_nil)
  (ds_one (ds_frz (i := 2) (ds_set (i := 2) sc_law_right.nd (de_bin op_addA (ops_add hK) (de_loc 2) (de_bin op_mulX ops_mul (de_loc 3) (de_b1 call_lenA (ops_len hK) n_len (de_loc 4))))))))) ds_nil)))
  (ds_cons (ds_if (dt_cmp (op_neD hr.units) (ops_ne hK) (de_loc 2) (de_callN hcc hz ok_law_power (hr.mono (by decide)) M_law_power K_law_power B_law_power (dag_ro (de_loc 0) (dag_ro (de_loc 1) dag_nil))) (nomark _)) (ds_one (ds_ret de_bl)) ds_nil)
  (ds_cons (ds_set (i := 4) sc_law_right.nd (de_ad (de_callN hcc hz ok_plain_words (hr.mono (by decide)) M_plain_words K_plain_words B_plain_words (dag_ro (de_loc 0) (dag_ro (de_loc 1) dag_nil)))))
  (ds_cons (ds_frz (i := 5) (ds_setLc (i := 5) (own := [("path", 6)]) rfl sc_law_right.nd (di_lst hK (de_loc 4)) (blkOk_by (own := [("path", 6)]) (N := ["base", "count", "total", "part", "found", "kept", "path"]) (sc := defScope s_law_right) (by decide +kernel)) (fun _ _ _ _ _ => (dgc_name (i := 6) sc_law_right.nd)) (fun _ _ _ _ _ _ _ => dts_nil) (fun _ _ _ _ _ _ _ => (de_t1 call_list_of (ops_list hK) n_list (de_dr (de_loc 6)))) (sw_true rfl rfl rfl (by decide +kernel))))
  (ds_cons (ds_appE (de_dr (de_ix hK (de_loc 4) de_int)) de_int)
  (ds_cons (ds_cut (ds_revI (j := 4)) (Nat.le_of_ble_eq_true rfl))
  (ds_one (ds_ret (de_cmp (op_eqD hr.units) (ops_eq hK) (de_fz (de_callPN hcc hz ok_plain_words (hr.mono (by decide)) M_plain_words K_plain_words KB_plain_words_01 rfl (dkg_ro (de_loc 0) (dkg_ro (de_loc 1) dkg_nil))) (Nat.le_of_ble_eq_true rfl)) (de_loc 5) (nomark _)))))))))))
theorem sc_law_take : FnScope ["source", "many", "taken", "mixed"] ["source", "many"] (defScope s_law_take) := ⟨rfl, rfl, rfl, by decide +kernel, rfl, by decide +kernel, by decide +kernel⟩
theorem ok_law_take {f_law_take : Addr} {d_law_take : FuncData} (F : Fun K "_law_take" "_law_take" s_law_take f_law_take d_law_take) (cK : C.cc.K = K) (n_int : mg "int" = none) : FnOk P w K mg base CX0 1 f_law_take d_law_take ["source", "many"] (LSp0 C sp_law_take 2) :=
  fn_ok F sc_law_take sat_law_take (by decide) fun cdv A outer s H E Z hcc hz hr => have hK : Z.cc.K = K := by rw [hcc]; exact cK
  (ds_cons (ds_if (dt_cmp op_gt ops_gt (de_ix hK (de_loc 0) de_int) de_int (nomark _)) (ds_cons (ds_frz (i := 2) (ds_set (i := 2) sc_law_take.nd (de_bin op_mod ops_mod (de_t1 call_int1 ops_int1 n_int (de_ix hK (de_loc 0) de_int)) (de_loc 1))))
  (ds_cons (ds_sub (j := 0) (de_bin op_fdvX ops_fdv (de_ix hK (de_loc 0) de_int) (de_loc 1)) de_int)
  (ds_one (ds_ret (de_loc 2))))) ds_nil)
  (ds_cons (ds_sub (j := 0) (de_bin op_addA (ops_add hK) (de_ix hK (de_loc 0) de_int) de_int) de_int)
  (ds_cons (ds_frz (i := 3) (ds_set (i := 3) sc_law_take.nd (de_bin op_mod ops_mod (de_t1 call_int1 ops_int1 n_int (de_bin op_addA (ops_add hK) (de_ix hK (de_loc 0) de_int) (de_bin op_mulX ops_mul de_int (de_ix hK (de_loc 0) de_int)))) de_int)))
  (ds_cons (ds_frz (i := 3) (ds_set (i := 3) sc_law_take.nd (de_bin op_mod ops_mod (de_t1 call_int1 ops_int1 n_int (de_bin op_addA (ops_add hK) (de_bin op_addA (ops_add hK) (de_bin op_mulX ops_mul (de_loc 3) (de_loc 3)) (de_bin op_mulX ops_mul de_int (de_ix hK (de_loc 0) de_int))) de_int)) de_int)))
  (ds_cons (ds_frz (i := 3) (ds_set (i := 3) sc_law_take.nd (de_bin op_mod ops_mod (de_t1 call_int1 ops_int1 n_int (de_bin op_addA (ops_add hK) (de_bin op_mulX ops_mul (de_bin op_mulX ops_mul (de_loc 3) (de_loc 3)) (de_loc 3)) (de_ix hK (de_loc 0) de_int))) de_int)))
  (ds_one (ds_ret (de_bin op_mod ops_mod (de_t1 call_int1 ops_int1 n_int (de_bin op_fdvX ops_fdv (de_loc 3) de_int)) (de_loc 1)))))))))
theorem sc_law_steps : FnScope ["source", "base", "limit", "most", "scale", "turn"] ["source", "base"] (defScope s_law_steps) := ⟨rfl, rfl, rfl, by decide +kernel, rfl, by decide +kernel, by decide +kernel⟩
theorem ok_law_steps {f_law_steps : Addr} {d_law_steps : FuncData} (F : Fun K "_law_steps" "_law_steps" s_law_steps f_law_steps d_law_steps) (cK : C.cc.K = K) (n_int : mg "int" = none) (n_range : mg "range" = none) {f_law_take : Addr} {d_law_take : FuncData} (ok_law_take : FnOk P w K mg base CX0 1 f_law_take d_law_take ["source", "many"] (LSp0 C sp_law_take 2)) (B_law_take : Binds K d_law_take ["source", "many"] []) (M_law_take : mg "_law_take" = some (.ref f_law_take)) (K_law_take : PySem.W.keepIn K (.ref f_law_take) = true) : FnOk P w K mg base CX0 2 f_law_steps d_law_steps ["source", "base"] (LSp0 C sp_law_steps 2) :=
  fn_ok F sc_law_steps sat_law_steps (by decide) fun cdv A outer s H E Z hcc hz hr => have hK : Z.cc.K = K := by rw [hcc]; exact cK
  (ds_cons (ds_frz (i := 2) (ds_set (i := 2) sc_law_steps.nd (de_ix hK (de_lst (da_lit de_int (da_lit de_int (da_lit0 da_nil)))) (de_t1 call_int1 ops_int1 n_int (de_cmp (op_eqD hr.units) (ops_eq hK) (de_callN hcc hz ok_law_take (hr.mono (by decide)) M_law_take K_law_take B_law_take (dag_mu (i := 0) (dag_ro de_int dag_nil))) de_int (nomark _))))))
  (ds_cons (ds_set (i := 3) sc_law_steps.nd de_int)
  (ds_cons (ds_set (i := 4) sc_law_steps.nd (de_loc 1))
  (ds_cons (ds_for PassesOwn.never rfl (di_r1 rfl n_range (da_cons de_int da_nil)) (dg_name (i := 5) sc_law_steps.nd) (ds_one (ds_if (dt_cmp op_le ops_le (de_loc 4) (de_loc 2) (nomark _)) (ds_cons (ds_frz (i := 3) (ds_set (i := 3) sc_law_steps.nd (de_bin op_addA (ops_add hK) (de_loc 3) de_int)))
  (ds_one (ds_frz (i := 4) (ds_set (i := 4) sc_law_steps.nd (de_bin op_mulX ops_mul (de_loc 4) (de_loc 1)))))) ds_nil)))
  (ds_one (ds_ret (de_callN hcc hz ok_law_take (hr.mono (by decide)) M_law_take K_law_take B_law_take (dag_mu (i := 0) (dag_ro (de_bin op_addA (ops_add hK) (de_loc 3) de_int) dag_nil)))))))))
theorem sc_law_source : FnScope ["script", "k", "cell"] ["script", "k"] (defScope s_law_source) := ⟨rfl, rfl, rfl, by decide +kernel, rfl, by decide +kernel, by decide +kernel⟩
theorem ok_law_source {f_law_source : Addr} {d_law_source : FuncData} (F : Fun K "_law_source" "_law_source" s_law_source f_law_source d_law_source) (cK : C.cc.K = K) (n_abs : mg "abs" = none) (n_int : mg "int" = none) (n_len : mg "len" = none) (n_max : mg "max" = none) : FnOk P w K mg base CX0 1 f_law_source d_law_source ["script", "k"] (LSp0 C sp_law_source 2) :=
  fn_ok F sc_law_source sat_law_source (by decide) fun cdv A outer s H E Z hcc hz hr => have hK : Z.cc.K = K := by rw [hcc]; exact cK
  (ds_cons (ds_frz (i := 2) (ds_set (i := 2) sc_law_source.nd (de_b1 call_lenA (ops_len hK) n_len (de_loc 0))))
  (ds_cons (ds_if (dt_cmp op_lt ops_lt (de_loc 1) (de_b1 call_lenA (ops_len hK) n_len (de_loc 0)) (nomark _)) (ds_one (ds_frz (i := 2) (ds_set (i := 2) sc_law_source.nd (de_ix hK (de_loc 0) (de_loc 1))))) ds_nil)
  (ds_one (ds_ret (de_lst (da_cons (de_b2 (call_max2 rfl) ops_max2 n_max de_int (de_bin op_sub ops_sub (de_loc 2) (de_bin op_pow ops_pow de_int de_int))) (da_cons (de_bin op_addA (ops_add hK) (de_bin op_mod ops_mod (de_t1 call_int1 ops_int1 n_int (de_bin op_addA (ops_add hK) (de_bin op_mulX ops_mul de_int (de_b1 call_abs ops_abs n_abs (de_loc 2))) (de_t1 call_int1 ops_int1 n_int (de_cmp op_lt ops_lt (de_loc 2) de_int (nomark _))))) de_int) de_int) (da_cons de_int da_nil))))))))
theorem sc_law : FnScope ["script", "k", "source", "base"] ["script"] (defScope s_law) := ⟨rfl, rfl, rfl, by decide +kernel, rfl, by decide +kernel, by decide +kernel⟩
theorem ok_law {f_law : Addr} {d_law : FuncData} (F : Fun K "law" "law" s_law f_law d_law) (cK : C.cc.K = K) (n_len : mg "len" = none) (n_max : mg "max" = none) (n_min : mg "min" = none) (n_range : mg "range" = none) {f_law_right : Addr} {d_law_right : FuncData} (ok_law_right : FnOk P w K mg base CX0 4 f_law_right d_law_right ["base", "count"] (LSp0 C sp_law_right 2)) (B_law_right : Binds K d_law_right ["base", "count"] []) (M_law_right : mg "_law_right" = some (.ref f_law_right)) (K_law_right : PySem.W.keepIn K (.ref f_law_right) = true) {f_law_steps : Addr} {d_law_steps : FuncData} (ok_law_steps : FnOk P w K mg base CX0 2 f_law_steps d_law_steps ["source", "base"] (LSp0 C sp_law_steps 2)) (B_law_steps : Binds K d_law_steps ["source", "base"] []) (M_law_steps : mg "_law_steps" = some (.ref f_law_steps)) (K_law_steps : PySem.W.keepIn K (.ref f_law_steps) = true) {f_law_take : Addr} {d_law_take : FuncData} (ok_law_take : FnOk P w K mg base CX0 1 f_law_take d_law_take ["source", "many"] (LSp0 C sp_law_take 2)) (B_law_take : Binds K d_law_take ["source", "many"] []) (M_law_take : mg "_law_take" = some (.ref f_law_take)) (K_law_take : PySem.W.keepIn K (.ref f_law_take) = true) {f_law_source : Addr} {d_law_source : FuncData} (ok_law_source : FnOk P w K mg base CX0 1 f_law_source d_law_source ["script", "k"] (LSp0 C sp_law_source 2)) (B_law_source : Binds K d_law_source ["script", "k"] []) (M_law_source : mg "_law_source" = some (.ref f_law_source)) (K_law_source : PySem.W.keepIn K (.ref f_law_source) = true) : FnOk P w K mg base CX0 5 f_law d_law ["script"] (LSp0 C sp_law 1) :=
  fn_ok F sc_law sat_law (by decide) fun cdv A outer s H E Z hcc hz hr => have hK : Z.cc.K = K := by rw [hcc]; exact cK
  (ds_cons (ds_for PassesOwn.never rfl (di_r1 rfl n_range (da_cons (de_b2 (call_max2 rfl) ops_max2 n_max de_int (de_b2 (call_min2 rfl) ops_min2 n_min de_int (de_b1 call_lenA (ops_len hK) n_len (de_loc 0)))) da_nil)) (dg_name (i := 1) sc_law.nd) (ds_cons (ds_set (i := 2) sc_law.nd (de_callN hcc hz ok_law_source (hr.mono (by decide)) M_law_source K_law_source B_law_source (dag_ro (de_loc 0) (dag_ro (de_loc 1) dag_nil))))
  (ds_cons (ds_frz (i := 3) (ds_set (i := 3) sc_law.nd (de_bin op_addA (ops_add hK) de_int (de_callN hcc hz ok_law_take (hr.mono (by decide)) M_law_take K_law_take B_law_take (dag_mu (i := 2) (dag_ro (de_ix hK (de_lst (da_lit de_int (da_lit de_int (da_lit de_int (da_lit0 da_nil))))) (de_callN hcc hz ok_law_take (hr.mono (by decide)) M_law_take K_law_take B_law_take (dag_mu (i := 2) (dag_ro de_int dag_nil)))) dag_nil))))))
  (ds_one (ds_if (dt_not (dt_val (de_callN hcc hz ok_law_right (hr.mono (by decide)) M_law_right K_law_right B_law_right (dag_ro (de_loc 3) (dag_ro (de_b2 (call_max2 rfl) ops_max2 n_max de_int (de_callN hcc hz ok_law_steps (hr.mono (by decide)) M_law_steps K_law_steps B_law_steps (dag_mu (i := 2) (dag_ro (de_loc 3) dag_nil)))) dag_nil))))) (ds_one (ds_ret de_bl)) ds_nil)))))
  (ds_one (ds_ret de_bl)))
end
theorem all_mk {l : PySem.W.OpenLaw} {w : World} {K : PySem.W.Frag} {h : Heap} {mg : Str → Option Value} {fa f_is_plain_and_least f_check_number f_plain_words f_law_power f_law_is_integer f_law_is_word f_law_is_plain f_law_are_plain f_law_right f_law_take f_law_steps f_law_source f_law : Addr} (X : K.In h) (G : h.Ns mainGlobals mg) (hfa : mg "law" = some (.ref fa))
    {od_is_plain_and_least an_is_plain_and_least od_check_number an_check_number od_plain_words an_plain_words od_law_power an_law_power od_law_is_integer an_law_is_integer od_law_is_word an_law_is_word od_law_is_plain an_law_is_plain od_law_are_plain an_law_are_plain od_law_right an_law_right od_law_take an_law_take od_law_steps an_law_steps od_law_source an_law_source od_law an_law : Option Addr} {sl_is_plain_and_least sl_check_number sl_plain_words sl_law_power sl_law_is_integer sl_law_is_word sl_law_is_plain sl_law_are_plain sl_law_right sl_law_take sl_law_steps sl_law_source sl_law : Array (Option Value)} {oc_is_plain_and_least kV_is_plain_and_least dc_is_plain_and_least pm_is_plain_and_least cd_is_plain_and_least ct_is_plain_and_least oc_check_number kV_check_number dc_check_number pm_check_number cd_check_number ct_check_number oc_plain_words kV_plain_words dc_plain_words pm_plain_words cd_plain_words ct_plain_words oc_law_power kV_law_power dc_law_power pm_law_power cd_law_power ct_law_power oc_law_is_integer kV_law_is_integer dc_law_is_integer pm_law_is_integer cd_law_is_integer ct_law_is_integer oc_law_is_word kV_law_is_word dc_law_is_word pm_law_is_word cd_law_is_word ct_law_is_word oc_law_is_plain kV_law_is_plain dc_law_is_plain pm_law_is_plain cd_law_is_plain ct_law_is_plain oc_law_are_plain kV_law_are_plain dc_law_are_plain pm_law_are_plain cd_law_are_plain ct_law_are_plain oc_law_right kV_law_right dc_law_right pm_law_right cd_law_right ct_law_right oc_law_take kV_law_take dc_law_take pm_law_take cd_law_take ct_law_take oc_law_steps kV_law_steps dc_law_steps pm_law_steps cd_law_steps ct_law_steps oc_law_source kV_law_source dc_law_source pm_law_source cd_law_source ct_law_source oc_law kV_law dc_law pm_law cd_law ct_law : Value}
    (at_is_plain_and_least : PySem.W.nsIn K mainGlobals "is_plain_and_least" = some (some (.ref f_is_plain_and_least)))
    (lo_is_plain_and_least : K.lookup f_is_plain_and_least = some ⟨oc_is_plain_and_least, od_is_plain_and_least, .func (PySem.W.fnOf "is_plain_and_least" "is_plain_and_least" (defArgs s_is_plain_and_least) (defBody s_is_plain_and_least) (defScope s_is_plain_and_least) .none kV_is_plain_and_least dc_is_plain_and_least pm_is_plain_and_least an_is_plain_and_least cd_is_plain_and_least ct_is_plain_and_least), sl_is_plain_and_least⟩)
    (co_is_plain_and_least : PySem.W.codeIn K cd_is_plain_and_least "is_plain_and_least" = true)
    (ke_is_plain_and_least : PySem.W.keepIn K (.ref f_is_plain_and_least) = true)
    (at_check_number : PySem.W.nsIn K mainGlobals "check_number" = some (some (.ref f_check_number)))
    (lo_check_number : K.lookup f_check_number = some ⟨oc_check_number, od_check_number, .func (PySem.W.fnOf "check_number" "check_number" (defArgs s_check_number) (defBody s_check_number) (defScope s_check_number) .none kV_check_number dc_check_number pm_check_number an_check_number cd_check_number ct_check_number), sl_check_number⟩)
    (co_check_number : PySem.W.codeIn K cd_check_number "check_number" = true)
    (ke_check_number : PySem.W.keepIn K (.ref f_check_number) = true)
    (at_plain_words : PySem.W.nsIn K mainGlobals "plain_words" = some (some (.ref f_plain_words)))
    (lo_plain_words : K.lookup f_plain_words = some ⟨oc_plain_words, od_plain_words, .func (PySem.W.fnOf "plain_words" "plain_words" (defArgs s_plain_words) (defBody s_plain_words) (defScope s_plain_words) .none kV_plain_words dc_plain_words pm_plain_words an_plain_words cd_plain_words ct_plain_words), sl_plain_words⟩)
    (co_plain_words : PySem.W.codeIn K cd_plain_words "plain_words" = true)
    (ke_plain_words : PySem.W.keepIn K (.ref f_plain_words) = true)
    (at_law_power : PySem.W.nsIn K mainGlobals "_law_power" = some (some (.ref f_law_power)))
    (lo_law_power : K.lookup f_law_power = some ⟨oc_law_power, od_law_power, .func (PySem.W.fnOf "_law_power" "_law_power" (defArgs s_law_power) (defBody s_law_power) (defScope s_law_power) .none kV_law_power dc_law_power pm_law_power an_law_power cd_law_power ct_law_power), sl_law_power⟩)
    (co_law_power : PySem.W.codeIn K cd_law_power "_law_power" = true)
    (ke_law_power : PySem.W.keepIn K (.ref f_law_power) = true)
    (at_law_is_integer : PySem.W.nsIn K mainGlobals "_law_is_integer" = some (some (.ref f_law_is_integer)))
    (lo_law_is_integer : K.lookup f_law_is_integer = some ⟨oc_law_is_integer, od_law_is_integer, .func (PySem.W.fnOf "_law_is_integer" "_law_is_integer" (defArgs s_law_is_integer) (defBody s_law_is_integer) (defScope s_law_is_integer) .none kV_law_is_integer dc_law_is_integer pm_law_is_integer an_law_is_integer cd_law_is_integer ct_law_is_integer), sl_law_is_integer⟩)
    (co_law_is_integer : PySem.W.codeIn K cd_law_is_integer "_law_is_integer" = true)
    (ke_law_is_integer : PySem.W.keepIn K (.ref f_law_is_integer) = true)
    (at_law_is_word : PySem.W.nsIn K mainGlobals "_law_is_word" = some (some (.ref f_law_is_word)))
    (lo_law_is_word : K.lookup f_law_is_word = some ⟨oc_law_is_word, od_law_is_word, .func (PySem.W.fnOf "_law_is_word" "_law_is_word" (defArgs s_law_is_word) (defBody s_law_is_word) (defScope s_law_is_word) .none kV_law_is_word dc_law_is_word pm_law_is_word an_law_is_word cd_law_is_word ct_law_is_word), sl_law_is_word⟩)
    (co_law_is_word : PySem.W.codeIn K cd_law_is_word "_law_is_word" = true)
    (ke_law_is_word : PySem.W.keepIn K (.ref f_law_is_word) = true)
    (at_law_is_plain : PySem.W.nsIn K mainGlobals "_law_is_plain" = some (some (.ref f_law_is_plain)))
    (lo_law_is_plain : K.lookup f_law_is_plain = some ⟨oc_law_is_plain, od_law_is_plain, .func (PySem.W.fnOf "_law_is_plain" "_law_is_plain" (defArgs s_law_is_plain) (defBody s_law_is_plain) (defScope s_law_is_plain) .none kV_law_is_plain dc_law_is_plain pm_law_is_plain an_law_is_plain cd_law_is_plain ct_law_is_plain), sl_law_is_plain⟩)
    (co_law_is_plain : PySem.W.codeIn K cd_law_is_plain "_law_is_plain" = true)
    (ke_law_is_plain : PySem.W.keepIn K (.ref f_law_is_plain) = true)
    (at_law_are_plain : PySem.W.nsIn K mainGlobals "_law_are_plain" = some (some (.ref f_law_are_plain)))
    (lo_law_are_plain : K.lookup f_law_are_plain = some ⟨oc_law_are_plain, od_law_are_plain, .func (PySem.W.fnOf "_law_are_plain" "_law_are_plain" (defArgs s_law_are_plain) (defBody s_law_are_plain) (defScope s_law_are_plain) .none kV_law_are_plain dc_law_are_plain pm_law_are_plain an_law_are_plain cd_law_are_plain ct_law_are_plain), sl_law_are_plain⟩)
    (co_law_are_plain : PySem.W.codeIn K cd_law_are_plain "_law_are_plain" = true)
    (ke_law_are_plain : PySem.W.keepIn K (.ref f_law_are_plain) = true)
    (at_law_right : PySem.W.nsIn K mainGlobals "_law_right" = some (some (.ref f_law_right)))
    (lo_law_right : K.lookup f_law_right = some ⟨oc_law_right, od_law_right, .func (PySem.W.fnOf "_law_right" "_law_right" (defArgs s_law_right) (defBody s_law_right) (defScope s_law_right) .none kV_law_right dc_law_right pm_law_right an_law_right cd_law_right ct_law_right), sl_law_right⟩)
    (co_law_right : PySem.W.codeIn K cd_law_right "_law_right" = true)
    (ke_law_right : PySem.W.keepIn K (.ref f_law_right) = true)
    (at_law_take : PySem.W.nsIn K mainGlobals "_law_take" = some (some (.ref f_law_take)))
    (lo_law_take : K.lookup f_law_take = some ⟨oc_law_take, od_law_take, .func (PySem.W.fnOf "_law_take" "_law_take" (defArgs s_law_take) (defBody s_law_take) (defScope s_law_take) .none kV_law_take dc_law_take pm_law_take an_law_take cd_law_take ct_law_take), sl_law_take⟩)
    (co_law_take : PySem.W.codeIn K cd_law_take "_law_take" = true)
    (ke_law_take : PySem.W.keepIn K (.ref f_law_take) = true)
    (at_law_steps : PySem.W.nsIn K mainGlobals "_law_steps" = some (some (.ref f_law_steps)))
    (lo_law_steps : K.lookup f_law_steps = some ⟨oc_law_steps, od_law_steps, .func (PySem.W.fnOf "_law_steps" "_law_steps" (defArgs s_law_steps) (defBody s_law_steps) (defScope s_law_steps) .none kV_law_steps dc_law_steps pm_law_steps an_law_steps cd_law_steps ct_law_steps), sl_law_steps⟩)
    (co_law_steps : PySem.W.codeIn K cd_law_steps "_law_steps" = true)
    (ke_law_steps : PySem.W.keepIn K (.ref f_law_steps) = true)
    (at_law_source : PySem.W.nsIn K mainGlobals "_law_source" = some (some (.ref f_law_source)))
    (lo_law_source : K.lookup f_law_source = some ⟨oc_law_source, od_law_source, .func (PySem.W.fnOf "_law_source" "_law_source" (defArgs s_law_source) (defBody s_law_source) (defScope s_law_source) .none kV_law_source dc_law_source pm_law_source an_law_source cd_law_source ct_law_source), sl_law_source⟩)
    (co_law_source : PySem.W.codeIn K cd_law_source "_law_source" = true)
    (ke_law_source : PySem.W.keepIn K (.ref f_law_source) = true)
    (at_law : PySem.W.nsIn K mainGlobals "law" = some (some (.ref f_law)))
    (lo_law : K.lookup f_law = some ⟨oc_law, od_law, .func (PySem.W.fnOf "law" "law" (defArgs s_law) (defBody s_law) (defScope s_law) .none kV_law dc_law pm_law an_law cd_law ct_law), sl_law⟩)
    (co_law : PySem.W.codeIn K cd_law "law" = true)
    (ke_law : PySem.W.keepIn K (.ref f_law) = true)
    (z_abs : PySem.W.nsIn K mainGlobals "abs" = some none)
    (z_all : PySem.W.nsIn K mainGlobals "all" = some none)
    (z_bool : PySem.W.nsIn K mainGlobals "bool" = some none)
    (z_int : PySem.W.nsIn K mainGlobals "int" = some none)
    (z_isinstance : PySem.W.nsIn K mainGlobals "isinstance" = some none)
    (z_len : PySem.W.nsIn K mainGlobals "len" = some none)
    (z_list : PySem.W.nsIn K mainGlobals "list" = some none)
    (z_max : PySem.W.nsIn K mainGlobals "max" = some none)
    (z_min : PySem.W.nsIn K mainGlobals "min" = some none)
    (z_range : PySem.W.nsIn K mainGlobals "range" = some none)
    : ∃ fd : FuncData, (∀ (s : Shared) (v : Value), BindsTo s fd ⟨[v], []⟩ [("script", v)]) ∧ ∀ base : Heap, K.In base → base.Ns mainGlobals mg → FnOk l.prog w K mg base CX0 5 fa fd ["script"] (endSp K) := by
  have e := hfa.symm.trans (PySem.W.mg_of X G at_law)
  cases e
  let C : Ccs := ⟨⟨(fun i =>  (0, [])), K⟩, fun _ => fa⟩
  have n_abs := PySem.W.mg_none_of X G z_abs
  have n_all := PySem.W.mg_none_of X G z_all
  have n_bool := PySem.W.mg_none_of X G z_bool
  have n_int := PySem.W.mg_none_of X G z_int
  have n_isinstance := PySem.W.mg_none_of X G z_isinstance
  have n_len := PySem.W.mg_none_of X G z_len
  have n_list := PySem.W.mg_none_of X G z_list
  have n_max := PySem.W.mg_none_of X G z_max
  have n_min := PySem.W.mg_none_of X G z_min
  have n_range := PySem.W.mg_none_of X G z_range
  have F_is_plain_and_least := fun_mk (st := s_is_plain_and_least) lo_is_plain_and_least co_is_plain_and_least ke_is_plain_and_least
  have B_is_plain_and_least := F_is_plain_and_least.binds (ps := ["word"]) fun _ _ _ _ _ _ us hl => match us, hl with | [_], _ => rfl
  have M_is_plain_and_least := PySem.W.mg_of X G at_is_plain_and_least
  have K_is_plain_and_least := ke_is_plain_and_least
  have F_check_number := fun_mk (st := s_check_number) lo_check_number co_check_number ke_check_number
  have B_check_number := F_check_number.binds (ps := ["number", "least"]) fun _ _ _ _ _ _ us hl => match us, hl with | [_, _], _ => rfl
  have M_check_number := PySem.W.mg_of X G at_check_number
  have K_check_number := ke_check_number
  have F_plain_words := fun_mk (st := s_plain_words) lo_plain_words co_plain_words ke_plain_words
  have B_plain_words := F_plain_words.binds (ps := ["modulus", "length"]) fun _ _ _ _ _ _ us hl => match us, hl with | [_, _], _ => rfl
  have M_plain_words := PySem.W.mg_of X G at_plain_words
  have K_plain_words := ke_plain_words
  have F_law_power := fun_mk (st := s_law_power) lo_law_power co_law_power ke_law_power
  have B_law_power := F_law_power.binds (ps := ["base", "count"]) fun _ _ _ _ _ _ us hl => match us, hl with | [_, _], _ => rfl
  have M_law_power := PySem.W.mg_of X G at_law_power
  have K_law_power := ke_law_power
  have F_law_is_integer := fun_mk (st := s_law_is_integer) lo_law_is_integer co_law_is_integer ke_law_is_integer
  have B_law_is_integer := F_law_is_integer.binds (ps := ["value"]) fun _ _ _ _ _ _ us hl => match us, hl with | [_], _ => rfl
  have M_law_is_integer := PySem.W.mg_of X G at_law_is_integer
  have K_law_is_integer := ke_law_is_integer
  have F_law_is_word := fun_mk (st := s_law_is_word) lo_law_is_word co_law_is_word ke_law_is_word
  have B_law_is_word := F_law_is_word.binds (ps := ["value", "many"]) fun _ _ _ _ _ _ us hl => match us, hl with | [_, _], _ => rfl
  have M_law_is_word := PySem.W.mg_of X G at_law_is_word
  have K_law_is_word := ke_law_is_word
  have F_law_is_plain := fun_mk (st := s_law_is_plain) lo_law_is_plain co_law_is_plain ke_law_is_plain
  have B_law_is_plain := F_law_is_plain.binds (ps := ["base", "path"]) fun _ _ _ _ _ _ us hl => match us, hl with | [_, _], _ => rfl
  have M_law_is_plain := PySem.W.mg_of X G at_law_is_plain
  have K_law_is_plain := ke_law_is_plain
  have F_law_are_plain := fun_mk (st := s_law_are_plain) lo_law_are_plain co_law_are_plain ke_law_are_plain
  have B_law_are_plain := F_law_are_plain.binds (ps := ["base", "count", "found"]) fun _ _ _ _ _ _ us hl => match us, hl with | [_, _, _], _ => rfl
  have M_law_are_plain := PySem.W.mg_of X G at_law_are_plain
  have K_law_are_plain := ke_law_are_plain
  have F_law_right := fun_mk (st := s_law_right) lo_law_right co_law_right ke_law_right
  have B_law_right := F_law_right.binds (ps := ["base", "count"]) fun _ _ _ _ _ _ us hl => match us, hl with | [_, _], _ => rfl
  have M_law_right := PySem.W.mg_of X G at_law_right
  have K_law_right := ke_law_right
  have F_law_take := fun_mk (st := s_law_take) lo_law_take co_law_take ke_law_take
  have B_law_take := F_law_take.binds (ps := ["source", "many"]) fun _ _ _ _ _ _ us hl => match us, hl with | [_, _], _ => rfl
  have M_law_take := PySem.W.mg_of X G at_law_take
  have K_law_take := ke_law_take
  have F_law_steps := fun_mk (st := s_law_steps) lo_law_steps co_law_steps ke_law_steps
  have B_law_steps := F_law_steps.binds (ps := ["source", "base"]) fun _ _ _ _ _ _ us hl => match us, hl with | [_, _], _ => rfl
  have M_law_steps := PySem.W.mg_of X G at_law_steps
  have K_law_steps := ke_law_steps
  have F_law_source := fun_mk (st := s_law_source) lo_law_source co_law_source ke_law_source
  have B_law_source := F_law_source.binds (ps := ["script", "k"]) fun _ _ _ _ _ _ us hl => match us, hl with | [_, _], _ => rfl
  have M_law_source := PySem.W.mg_of X G at_law_source
  have K_law_source := ke_law_source
  have F_law := fun_mk (st := s_law) lo_law co_law ke_law
  have B_law := F_law.binds (ps := ["script"]) fun _ _ _ _ _ _ us hl => match us, hl with | [_], _ => rfl
  have M_law := PySem.W.mg_of X G at_law
  have K_law := ke_law
  have KB_plain_words_01 : KBp K (PySem.W.fnOf "plain_words" "plain_words" (defArgs s_plain_words) (defBody s_plain_words) (defScope s_plain_words) .none kV_plain_words dc_plain_words pm_plain_words an_plain_words cd_plain_words ct_plain_words) ["modulus", "length"] ["modulus", "length"] [0, 1] := ⟨fun s ws hl => match ws, hl with | [_, _], _ => .of_eq rfl⟩
  refine ⟨PySem.W.fnOf "law" "law" (defArgs s_law) (defBody s_law) (defScope s_law) .none kV_law dc_law pm_law an_law cd_law ct_law, fun s v => .of_eq rfl, fun base _ _ => ?_⟩
  have ok_is_plain_and_least := ok_is_plain_and_least (P := l.prog) (w := w) (mg := mg) (base := base) (C := C) F_is_plain_and_least rfl n_len n_range
  have ok_check_number := ok_check_number (P := l.prog) (w := w) (mg := mg) (base := base) (C := C) F_check_number rfl 
  have ok_plain_words := ok_plain_words (P := l.prog) (w := w) (mg := mg) (base := base) (C := C) F_plain_words rfl n_range ok_is_plain_and_least B_is_plain_and_least M_is_plain_and_least K_is_plain_and_least ok_check_number B_check_number M_check_number K_check_number
  have ok_law_power := ok_law_power (P := l.prog) (w := w) (mg := mg) (base := base) (C := C) F_law_power rfl n_range
  have ok_law_is_integer := ok_law_is_integer (P := l.prog) (w := w) (mg := mg) (base := base) (C := C) F_law_is_integer rfl n_bool n_int n_isinstance
  have ok_law_is_word := ok_law_is_word (P := l.prog) (w := w) (mg := mg) (base := base) (C := C) F_law_is_word rfl n_all n_isinstance n_len n_list ok_law_is_integer B_law_is_integer M_law_is_integer K_law_is_integer
  have ok_law_is_plain := ok_law_is_plain (P := l.prog) (w := w) (mg := mg) (base := base) (C := C) F_law_is_plain rfl n_len n_max n_min n_range
  have ok_law_are_plain := ok_law_are_plain (P := l.prog) (w := w) (mg := mg) (base := base) (C := C) F_law_are_plain rfl n_all n_isinstance n_len n_list n_range ok_law_is_word B_law_is_word M_law_is_word K_law_is_word ok_law_is_plain B_law_is_plain M_law_is_plain K_law_is_plain
  have ok_law_right := ok_law_right (P := l.prog) (w := w) (mg := mg) (base := base) (C := C) F_law_right rfl n_int n_len n_list n_range ok_plain_words B_plain_words M_plain_words K_plain_words ok_law_power B_law_power M_law_power K_law_power ok_law_are_plain B_law_are_plain M_law_are_plain K_law_are_plain KB_plain_words_01
  have ok_law_take := ok_law_take (P := l.prog) (w := w) (mg := mg) (base := base) (C := C) F_law_take rfl n_int
  have ok_law_steps := ok_law_steps (P := l.prog) (w := w) (mg := mg) (base := base) (C := C) F_law_steps rfl n_int n_range ok_law_take B_law_take M_law_take K_law_take
  have ok_law_source := ok_law_source (P := l.prog) (w := w) (mg := mg) (base := base) (C := C) F_law_source rfl n_abs n_int n_len n_max
  have ok_law := ok_law (P := l.prog) (w := w) (mg := mg) (base := base) (C := C) F_law rfl n_len n_max n_min n_range ok_law_right B_law_right M_law_right K_law_right ok_law_steps B_law_steps M_law_steps K_law_steps ok_law_take B_law_take M_law_take K_law_take ok_law_source B_law_source M_law_source K_law_source
  exact law_end ok_law rfl fun ns h1 h2 => ⟨ns, rfl, h2, by omega, rfl⟩
end NW.K29
end TL
open PySem PySem.W PyProof.Rows
set_option maxRecDepth 100000 in
set_option maxHeartbeats 0 in
theorem PySem.Challenge.cw_reststeps_k29_plain_words_holds : PySem.Challenge.rw_reststeps_k29_plain_words.Holds := by
  w_on; o_law; k_head; (case hw => w_witness2)
  k_fill
  refine TL.walkT (l := PySem.Challenge.rw_reststeps_k29_plain_words) (k := 5) rfl rfl ⟨rfl, by decide, by decide⟩ (fun w h Y => PySem.W.kIn_of Y) ?F
  case F =>
    intro w mg fa h KX G hmg
    refine' TL.NW.K29.all_mk KX G hmg ?at_is_plain_and_least ?lo_is_plain_and_least ?co_is_plain_and_least ?ke_is_plain_and_least ?at_check_number ?lo_check_number ?co_check_number ?ke_check_number ?at_plain_words ?lo_plain_words ?co_plain_words ?ke_plain_words ?at_law_power ?lo_law_power ?co_law_power ?ke_law_power ?at_law_is_integer ?lo_law_is_integer ?co_law_is_integer ?ke_law_is_integer ?at_law_is_word ?lo_law_is_word ?co_law_is_word ?ke_law_is_word ?at_law_is_plain ?lo_law_is_plain ?co_law_is_plain ?ke_law_is_plain ?at_law_are_plain ?lo_law_are_plain ?co_law_are_plain ?ke_law_are_plain ?at_law_right ?lo_law_right ?co_law_right ?ke_law_right ?at_law_take ?lo_law_take ?co_law_take ?ke_law_take ?at_law_steps ?lo_law_steps ?co_law_steps ?ke_law_steps ?at_law_source ?lo_law_source ?co_law_source ?ke_law_source ?at_law ?lo_law ?co_law ?ke_law ?z_abs ?z_all ?z_bool ?z_int ?z_isinstance ?z_len ?z_list ?z_max ?z_min ?z_range
    (case at_is_plain_and_least => k_is)
    (case lo_is_plain_and_least => k_is)
    (case co_is_plain_and_least => k_is)
    (case ke_is_plain_and_least => k_is)
    (case at_check_number => k_is)
    (case lo_check_number => k_is)
    (case co_check_number => k_is)
    (case ke_check_number => k_is)
    (case at_plain_words => k_is)
    (case lo_plain_words => k_is)
    (case co_plain_words => k_is)
    (case ke_plain_words => k_is)
    (case at_law_power => k_is)
    (case lo_law_power => k_is)
    (case co_law_power => k_is)
    (case ke_law_power => k_is)
    (case at_law_is_integer => k_is)
    (case lo_law_is_integer => k_is)
    (case co_law_is_integer => k_is)
    (case ke_law_is_integer => k_is)
    (case at_law_is_word => k_is)
    (case lo_law_is_word => k_is)
    (case co_law_is_word => k_is)
    (case ke_law_is_word => k_is)
    (case at_law_is_plain => k_is)
    (case lo_law_is_plain => k_is)
    (case co_law_is_plain => k_is)
    (case ke_law_is_plain => k_is)
    (case at_law_are_plain => k_is)
    (case lo_law_are_plain => k_is)
    (case co_law_are_plain => k_is)
    (case ke_law_are_plain => k_is)
    (case at_law_right => k_is)
    (case lo_law_right => k_is)
    (case co_law_right => k_is)
    (case ke_law_right => k_is)
    (case at_law_take => k_is)
    (case lo_law_take => k_is)
    (case co_law_take => k_is)
    (case ke_law_take => k_is)
    (case at_law_steps => k_is)
    (case lo_law_steps => k_is)
    (case co_law_steps => k_is)
    (case ke_law_steps => k_is)
    (case at_law_source => k_is)
    (case lo_law_source => k_is)
    (case co_law_source => k_is)
    (case ke_law_source => k_is)
    (case at_law => k_is)
    (case lo_law => k_is)
    (case co_law => k_is)
    (case ke_law => k_is)
    (case z_abs => k_is)
    (case z_all => k_is)
    (case z_bool => k_is)
    (case z_int => k_is)
    (case z_isinstance => k_is)
    (case z_len => k_is)
    (case z_list => k_is)
    (case z_max => k_is)
    (case z_min => k_is)
    (case z_range => k_is)

