import PyProof.Rows.All
import Wide.All
import OpenK.AllK
import Wide.FinOn
import HandS.ForMost
import HandS.Deep
import HandS.Wide
import HandS.More
import HandS.SortInts
import HandS.TupAny
import PyProof.ReprRoads
import HandS.Small
import HandS.EndBits
import KE.KDictPairs
import HandS.Conv
import HandS.SortRule
import HandS.Strs
import HandS.SetFor
import KE.SortData
import HandS.Zip
import KE.KDictZip
import KE.KDictCopyH
import HandS.IsInst
import HandS.DictTup
import HandS.Finally
import PyProof.EqAt
import PyProof.EqKinds
import PyProof.TupleCall
import HandS.ForExc
import HandS.ExcSuper
import HandS.ExcOwn
import PyProof.NeKinds
import PyProof.Rows.EqBoolInt
import HandS.Style
import HandS.ClsMeth
import PySem.Challenge.RW_fewsaves_k42_what_the_cheapest_costs
set_option Elab.async false
set_option linter.all false
set_option maxRecDepth 100000
set_option maxHeartbeats 4000000
set_option pp.maxSteps 400
/-! Core1: values by depth (D), owned cells (Cell, Mem), the judgements WE, WT, WG, WI, WS over HandS. -/
namespace DL
open PySem PySem.Spec PyProof.Rows L2

/-- a value by what it holds: lst, tup stand for ever; ref a points at an owned cell; slst is a list that is read alone -/
inductive D where
  | non | bl (b : Bool) | int (i : Int) | str (x : Str) | ref (a : Addr)
  | lst (xs : List D) | tup (xs : List D) | slst (xs : List D)

inductive Cell where
  | lst (xs : List D)
  | dK (kvs : List (Key × D))
  | dT (kvs : List (List Key × D))
  | set (S : Int → Bool) (n : Nat)
  | ins (C : Addr) (fs : List (Str × D)) (lo : Hp)
  | raw (o : HO)
  | fzK (o : Obj) (us : List (Key × V)) (kvs : List (Key × D))
abbrev Mem := List (Addr × Cell)
abbrev VEnv := List (Str × Option D)

mutual
inductive Rep (K : PySem.W.Frag) (S : Hp) : V → D → Prop
  | non : Rep K S .non .non
  | bl (b : Bool) : Rep K S (.bl b) (.bl b)
  | int (i : Int) : Rep K S (.int i) (.int i)
  | str (x : Str) : Rep K S (.str x) (.str x)
  | ref (a : Addr) : Rep K S (.ref a) (.ref a)
  | lst {a : Addr} {xs : List V} {ds : List D} : S a = some (.lst xs) → Reps K S xs ds → Rep K S (.ref a) (.lst ds)
  | tup {a : Addr} {xs : List V} {ds : List D} : S a = some (.tup xs) → Reps K S xs ds → Rep K S (.ref a) (.tup ds)
  | slst {a : Addr} {xs : List V} {ds : List D} : SqL K S a xs → Reps K S xs ds → Rep K S (.ref a) (.slst ds)
inductive Reps (K : PySem.W.Frag) (S : Hp) : List V → List D → Prop
  | nil : Reps K S [] []
  | cons {v : V} {vs : List V} {d : D} {ds : List D} : Rep K S v d → Reps K S vs ds → Reps K S (v :: vs) (d :: ds)
end

section
variable {K : PySem.W.Frag} {S S' S1 S2 H H' : Hp} {v : V} {d : D} {vs ws : List V} {ds es : List D}
theorem Same.of_new {p : Addr} {o : HO} (h : S p = none) : Same S (upd S p o) := fun b o' e => by
  rw [upd_ne (ne_of_none e h)]; exact e
mutual
theorem Rep.mono (e : Same S S') : ∀ {v : V} {d : D}, Rep K S v d → Rep K S' v d
  | _, _, .non => .non
  | _, _, .bl b => .bl b
  | _, _, .int i => .int i
  | _, _, .str x => .str x
  | _, _, .ref a => .ref a
  | _, _, .lst h r => .lst (e _ _ h) (Reps.mono e r)
  | _, _, .tup h r => .tup (e _ _ h) (Reps.mono e r)
  | _, _, .slst h r => .slst (e.seq h) (Reps.mono e r)
theorem Reps.mono (e : Same S S') : ∀ {vs : List V} {ds : List D}, Reps K S vs ds → Reps K S' vs ds
  | _, _, .nil => .nil
  | _, _, .cons h r => .cons (Rep.mono e h) (Reps.mono e r)
end
theorem Reps.length : ∀ {vs : List V} {ds : List D}, Reps K S vs ds → vs.length = ds.length
  | _, _, .nil => rfl
  | _, _, .cons _ r => by rw [List.length_cons, List.length_cons, Reps.length r]
theorem Reps.get : ∀ {vs : List V} {ds : List D} {i : Nat} {d : D}, Reps K S vs ds → ds[i]? = some d → ∃ v, vs[i]? = some v ∧ Rep K S v d
  | _, _, _, _, .nil, h => by simp at h
  | _, _, 0, _, .cons h _, e => by simp at e; subst e; exact ⟨_, rfl, h⟩
  | _, _, i + 1, d, .cons _ r, e => by
    obtain ⟨v, a, b⟩ := Reps.get (i := i) (d := d) r (by simpa using e)
    exact ⟨v, by simpa using a, b⟩
theorem Reps.getV : ∀ {vs : List V} {ds : List D} {i : Nat} {v : V}, Reps K S vs ds → vs[i]? = some v → ∃ d, ds[i]? = some d ∧ Rep K S v d
  | _, _, _, _, .nil, h => by simp at h
  | _, _, 0, _, .cons h _, e => by simp at e; subst e; exact ⟨_, rfl, h⟩
  | _, _, i + 1, v, .cons _ r, e => by
    obtain ⟨d, a, b⟩ := Reps.getV (i := i) (v := v) r (by simpa using e)
    exact ⟨d, by simpa using a, b⟩
theorem Reps.append : ∀ {vs ws : List V} {ds es : List D}, Reps K S vs ds → Reps K S ws es → Reps K S (vs ++ ws) (ds ++ es)
  | _, _, _, _, .nil, r => r
  | _, _, _, _, .cons h t, r => .cons h (Reps.append t r)
theorem Reps.take : ∀ {vs : List V} {ds : List D} (n : Nat), Reps K S vs ds → Reps K S (vs.take n) (ds.take n)
  | _, _, 0, _ => .nil
  | _, _, _ + 1, .nil => .nil
  | _, _, n + 1, .cons h t => .cons h (Reps.take n t)
theorem Reps.drop : ∀ {vs : List V} {ds : List D} (n : Nat), Reps K S vs ds → Reps K S (vs.drop n) (ds.drop n)
  | _, _, 0, r => r
  | _, _, _ + 1, .nil => .nil
  | _, _, n + 1, .cons _ t => Reps.drop n t
theorem Reps.set {x : V} {y : D} (h : Rep K S x y) : ∀ {vs : List V} {ds : List D} (n : Nat), Reps K S vs ds → Reps K S (vs.set n x) (ds.set n y)
  | _, _, _, .nil => .nil
  | _, _, 0, .cons _ t => .cons h t
  | _, _, n + 1, .cons a t => .cons a (Reps.set h n t)
theorem Reps.one (h : Rep K S v d) : Reps K S [v] [d] := .cons h .nil
theorem Rep.int_inv {i : Int} (h : Rep K S v (.int i)) : v = .int i := by cases h; rfl
theorem Rep.bl_inv {b : Bool} (h : Rep K S v (.bl b)) : v = .bl b := by cases h; rfl
theorem Rep.str_inv {x : Str} (h : Rep K S v (.str x)) : v = .str x := by cases h; rfl
theorem Rep.non_inv (h : Rep K S v .non) : v = .non := by cases h; rfl
theorem Rep.ref_inv {a : Addr} (h : Rep K S v (.ref a)) : v = .ref a := by cases h; rfl
theorem Rep.tup_inv (h : Rep K S v (.tup ds)) : ∃ a xs, v = .ref a ∧ S a = some (.tup xs) ∧ Reps K S xs ds := by
  cases h with
  | tup h r => exact ⟨_, _, rfl, h, r⟩
theorem Rep.lst_inv (h : Rep K S v (.lst ds)) : ∃ a xs, v = .ref a ∧ S a = some (.lst xs) ∧ Reps K S xs ds := by
  cases h with
  | lst h r => exact ⟨_, _, rfl, h, r⟩
theorem Rep.slst_inv (h : Rep K S v (.slst ds)) : ∃ a xs, v = .ref a ∧ SqL K S a xs ∧ Reps K S xs ds := by
  cases h with
  | slst h r => exact ⟨_, _, rfl, h, r⟩
theorem Reps.of_map {α : Type} {f : α → V} {g : α → D} {l : List α} (h : ∀ a ∈ l, Rep K S (f a) (g a)) : Reps K S (l.map f) (l.map g) := by
  induction l with
  | nil => exact .nil
  | cons a l ih => exact .cons (h a List.mem_cons_self) (ih fun b hb => h b (List.mem_cons_of_mem _ hb))
theorem Reps.ints : ∀ {ns : List Int}, Reps K S (ns.map V.int) (ns.map D.int) := Reps.of_map fun a _ => .int a
theorem Reps.strs : ∀ {ns : List Str}, Reps K S (ns.map V.str) (ns.map D.str) := Reps.of_map fun a _ => .str a
theorem Reps.ints_inv : ∀ {vs : List V} {ns : List Int}, Reps K S vs (ns.map D.int) → vs = ns.map V.int
  | _, [], .nil => rfl
  | _, n :: ns, .cons h r => by rw [h.int_inv, Reps.ints_inv r]; rfl
theorem Reps.strs_inv : ∀ {vs : List V} {ns : List Str}, Reps K S vs (ns.map D.str) → vs = ns.map V.str
  | _, [], .nil => rfl
  | _, n :: ns, .cons h r => by rw [h.str_inv, Reps.strs_inv r]; rfl
theorem Reps.bls_inv : ∀ {vs : List V} {ns : List Bool}, Reps K S vs (ns.map D.bl) → vs = ns.map V.bl
  | _, [], .nil => rfl
  | _, n :: ns, .cons h r => by rw [h.bl_inv, Reps.bls_inv r]; rfl
end

/-- what an owned cell holds -/
def PK {κ : Type} (K : PySem.W.Frag) (S : Hp) (kvs : List (κ × V)) (ds : List (κ × D)) : Prop := kvs.map (·.1) = ds.map (·.1) ∧ Reps K S (kvs.map (·.2)) (ds.map (·.2))
def CellOk (K : PySem.W.Frag) (S H : Hp) (a : Addr) : Cell → Prop
  | .lst ds => ∃ xs, H a = some (.lst xs) ∧ Reps K S xs ds
  | .dK ds => ∃ kvs, H a = some (.dK kvs) ∧ PK K S kvs ds
  | .dT ds => ∃ kvs, H a = some (.dT kvs) ∧ PK K S kvs ds
  | .set f n => H a = some (.set f n)
  | .ins C ds lo => (∃ dx fs, H a = some (.ins C dx fs) ∧ PK K S fs ds) ∧ Same lo S
  | .raw o => H a = some o ∧ ∀ xs, o ≠ .tup xs
  | .fzK o us ds => H a = some (.frz o (.dK us)) ∧ PK K S us ds
structure MO (K : PySem.W.Frag) (S : Hp) (M : Mem) (H : Hp) : Prop where
  sub : Same S H
  own : ∀ p ∈ M, S p.1 = none ∧ CellOk K S H p.1 p.2
  nd : (M.map (·.1)).Nodup

section
variable {K : PySem.W.Frag} {S S' S1 S2 H H' : Hp} {M M' : Mem} {a p : Addr} {c c' : Cell}
theorem PK.mono {κ : Type} {kvs : List (κ × V)} {ds : List (κ × D)} (e : Same S S') (h : PK K S kvs ds) : PK K S' kvs ds := ⟨h.1, h.2.mono e⟩
theorem CellOk.mono (e : Same S S') : ∀ {c : Cell}, CellOk K S H a c → CellOk K S' H a c
  | .lst _, ⟨xs, h, r⟩ => ⟨xs, h, r.mono e⟩
  | .dK _, ⟨xs, h, r⟩ => ⟨xs, h, r.mono e⟩
  | .dT _, ⟨xs, h, r⟩ => ⟨xs, h, r.mono e⟩
  | .set _ _, h => h
  | .ins _ _ _, ⟨⟨dx, fs, h, r⟩, l⟩ => ⟨⟨dx, fs, h, r.mono e⟩, l.trans e⟩
  | .raw _, h => h
  | .fzK _ _ _, ⟨h, r⟩ => ⟨h, r.mono e⟩
theorem CellOk.there : ∀ {c : Cell}, CellOk K S H a c → ∃ o, H a = some o
  | .lst _, ⟨_, h, _⟩ => ⟨_, h⟩
  | .dK _, ⟨_, h, _⟩ => ⟨_, h⟩
  | .dT _, ⟨_, h, _⟩ => ⟨_, h⟩
  | .set _ _, h => ⟨_, h⟩
  | .ins _ _ _, ⟨⟨_, _, h, _⟩, _⟩ => ⟨_, h⟩
  | .raw o, h => ⟨o, h.1⟩
  | .fzK _ _ _, ⟨h, _⟩ => ⟨_, h⟩
theorem CellOk.heap (e : H' a = H a) : ∀ {c : Cell}, CellOk K S H a c → CellOk K S H' a c
  | .lst _, ⟨xs, h, r⟩ => ⟨xs, e.trans h, r⟩
  | .dK _, ⟨xs, h, r⟩ => ⟨xs, e.trans h, r⟩
  | .dT _, ⟨xs, h, r⟩ => ⟨xs, e.trans h, r⟩
  | .set _ _, h => e.trans h
  | .ins _ _ _, ⟨⟨dx, fs, h, r⟩, l⟩ => ⟨⟨dx, fs, e.trans h, r⟩, l⟩
  | .raw _, h => ⟨e.trans h.1, h.2⟩
  | .fzK _ _ _, ⟨h, r⟩ => ⟨e.trans h, r⟩
theorem MO.free (m : MO K S M H) (h : H p = none) : S p = none := m.sub.free h
theorem MO.notin (m : MO K S M H) (h : H p = none) : ∀ q ∈ M, q.1 ≠ p := fun q hq e => by
  obtain ⟨o, ho⟩ := (m.own q hq).2.there
  rw [e, h] at ho
  cases ho

/-- the owned cell at a, and how the memory stands when it is another one -/
inductive At (a : Addr) : Mem → Cell → (Cell → Mem) → Prop
  | here {c : Cell} {M : Mem} : At a ((a, c) :: M) c (fun c' => (a, c') :: M)
  | there {q : Addr × Cell} {c : Cell} {M : Mem} {f : Cell → Mem} : At a M c f → At a (q :: M) c (fun c' => q :: f c')
theorem At.mem {f : Cell → Mem} (h : At a M c f) : (a, c) ∈ M := by
  induction h with
  | here => exact List.mem_cons_self
  | there _ ih => exact List.mem_cons_of_mem _ ih
theorem At.put {f : Cell → Mem} (h : At a M c f) (c' : Cell) : At a (f c') c' f := by
  induction h with
  | here => exact .here
  | there _ ih => exact .there ih
theorem At.self {f : Cell → Mem} (h : At a M c f) : f c = M := by
  induction h with
  | here => rfl
  | there _ ih => exact congrArg (_ :: ·) ih
theorem At.keys {f : Cell → Mem} (h : At a M c f) (c' : Cell) : (f c').map (·.1) = M.map (·.1) := by
  induction h with
  | here => rfl
  | there _ ih => rw [List.map_cons, List.map_cons, ih]
theorem At.of_put {f : Cell → Mem} (h : At a M c f) (c' : Cell) : ∀ p ∈ f c', p = (a, c') ∨ p ∈ M := by
  induction h with
  | here => exact fun p hp => (List.mem_cons.mp hp).imp id (List.mem_cons_of_mem _)
  | there _ ih =>
    intro p hp
    rcases List.mem_cons.mp hp with e | hp
    · exact .inr (e ▸ List.mem_cons_self)
    · exact (ih p hp).imp id (List.mem_cons_of_mem _)
theorem At.perm {f : Cell → Mem} (h : At a M c f) : ∃ M1, ∀ c', List.Perm (f c') ((a, c') :: M1) := by
  induction h with
  | @here c M => exact ⟨M, fun c' => List.Perm.refl _⟩
  | @there q c M f h ih =>
    obtain ⟨M1, e⟩ := ih
    exact ⟨q :: M1, fun c' => ((e c').cons q).trans (List.Perm.swap ..)⟩

theorem MO.perm (m : MO K S M H) (e : List.Perm M M') : MO K S M' H :=
  ⟨m.sub, fun p hp => m.own p (e.mem_iff.mpr hp), (e.map (·.1)).nodup_iff.mp m.nd⟩
theorem MO.at_ok {f : Cell → Mem} (m : MO K S M H) (h : At a M c f) : CellOk K S H a c := (m.own (a, c) h.mem).2
theorem MO.at_free {f : Cell → Mem} (m : MO K S M H) (h : At a M c f) : S a = none := (m.own (a, c) h.mem).1
theorem MO.uniq {c1 c2 : Cell} (m : MO K S M H) (h1 : (a, c1) ∈ M) (h2 : (a, c2) ∈ M) : c1 = c2 := by
  have nd := m.nd
  clear m
  induction M with
  | nil => cases h1
  | cons q M ih =>
    rw [List.map_cons, List.nodup_cons] at nd
    rcases List.mem_cons.mp h1 with e1 | h1
    · rcases List.mem_cons.mp h2 with e2 | h2
      · exact (Prod.mk.inj (e1.trans e2.symm)).2
      · exact absurd (List.mem_map.mpr ⟨_, h2, by rw [← e1]⟩) nd.1
    · rcases List.mem_cons.mp h2 with e2 | h2
      · exact absurd (List.mem_map.mpr ⟨_, h1, by rw [← e2]⟩) nd.1
      · exact ih h1 h2 nd.2
/-- the cell at a is written -/
theorem MO.write {f : Cell → Mem} {o : HO} (m : MO K S M H) (h : At a M c f) (new : CellOk K S (upd H a o) a c') : MO K S (f c') (upd H a o) := by
  have fa := m.at_free h
  refine ⟨fun b o' e => ?_, fun p hp => ?_, by rw [h.keys]; exact m.nd⟩
  · rw [upd_ne (fun q => by rw [q, fa] at e; cases e)]
    exact m.sub b o' e
  · by_cases ep : p.1 = a
    · have nd : ((f c').map (·.1)).Nodup := by rw [h.keys]; exact m.nd
      have e : p.2 = c' := by
        have h2 : (a, c') ∈ f c' := (h.put c').mem
        have h1 : (a, p.2) ∈ f c' := by rw [← ep]; exact hp
        clear hp
        generalize f c' = L at nd h1 h2
        induction L with
        | nil => cases h1
        | cons q L ih =>
          rw [List.map_cons, List.nodup_cons] at nd
          rcases List.mem_cons.mp h1 with e1 | h1
          · rcases List.mem_cons.mp h2 with e2 | h2
            · exact (Prod.mk.inj (e1.trans e2.symm)).2
            · exact absurd (List.mem_map.mpr ⟨_, h2, by rw [← e1]⟩) nd.1
          · rcases List.mem_cons.mp h2 with e2 | h2
            · exact absurd (List.mem_map.mpr ⟨_, h1, by rw [← e2]⟩) nd.1
            · exact ih nd.2 h1 h2
      rw [ep, e]
      exact ⟨fa, new⟩
    · rcases h.of_put c' p hp with e | hm
      · exact absurd (by rw [e]) ep
      · exact ⟨(m.own p hm).1, (m.own p hm).2.heap (upd_ne ep)⟩
theorem MO.writeL {f : Cell → Mem} {xs : List V} {ds : List D} (m : MO K S M H) (h : At a M c f) (r : Reps K S xs ds) : MO K S (f (.lst ds)) (upd H a (.lst xs)) :=
  m.write h (c' := .lst ds) ⟨xs, upd_same, r⟩
/-- a new owned cell -/
theorem MO.alloc {o : HO} (m : MO K S M H) (h : H p = none) (new : CellOk K S (upd H p o) p c) : MO K S ((p, c) :: M) (upd H p o) := by
  refine ⟨m.sub.trans (Same.of_new h), fun q hq => ?_, ?_⟩
  · rcases List.mem_cons.mp hq with e | hq
    · subst e; exact ⟨m.free h, new⟩
    · exact ⟨(m.own q hq).1, (m.own q hq).2.heap (upd_ne (m.notin h q hq))⟩
  · rw [List.map_cons, List.nodup_cons]
    refine ⟨fun hm => ?_, m.nd⟩
    obtain ⟨q, hq, e⟩ := List.mem_map.mp hm
    exact m.notin h q hq e
/-- a new object that stands for ever -/
theorem MO.laid {o : HO} (m : MO K S M H) (h : H p = none) : Same S (upd S p o) ∧ MO K (upd S p o) M (upd H p o) := by
  have fs := m.free h
  refine ⟨Same.of_new fs, fun b o' e => ?_, fun q hq => ?_, m.nd⟩
  · by_cases hb : b = p
    · subst hb; rw [upd_same] at e ⊢; exact e
    · rw [upd_ne hb] at e ⊢; exact m.sub b o' e
  · have ne := m.notin h q hq
    exact ⟨by rw [upd_ne ne]; exact (m.own q hq).1, ((m.own q hq).2.heap (upd_ne ne)).mono (Same.of_new fs)⟩
/-- an owned list is owned no more -/
theorem MO.freeze {ds : List D} (m : MO K S ((p, .lst ds) :: M) H) : ∃ S', Same S S' ∧ MO K S' M H ∧ Rep K S' (.ref p) (.lst ds) := by
  obtain ⟨fs, xs, hx, r⟩ := m.own (p, .lst ds) List.mem_cons_self
  have fs : S p = none := fs
  have hx : H p = some (.lst xs) := hx
  have nd := m.nd
  rw [List.map_cons, List.nodup_cons] at nd
  have s1 : Same S (upd S p (.lst xs)) := Same.of_new fs
  refine ⟨upd S p (.lst xs), s1, ⟨fun b o' e => ?_, fun q hq => ?_, nd.2⟩, .lst upd_same (r.mono s1)⟩
  · by_cases hb : b = p
    · subst hb; rw [upd_same] at e; rw [← e]; exact hx
    · rw [upd_ne hb] at e; exact m.sub b o' e
  · have ne : q.1 ≠ p := fun e => nd.1 (List.mem_map.mpr ⟨q, hq, e⟩)
    have o := m.own q (List.mem_cons_of_mem _ hq)
    exact ⟨by rw [upd_ne ne]; exact o.1, o.2.mono s1⟩
/-- an owned cell is forgotten -/
theorem MO.drop {q : Addr × Cell} (m : MO K S (q :: M) H) : MO K S M H := by
  have nd := m.nd
  rw [List.map_cons, List.nodup_cons] at nd
  exact ⟨m.sub, fun p hp => m.own p (List.mem_cons_of_mem _ hp), nd.2⟩

/-- d is a list of ds, owned or not -/
def IsL (M : Mem) (d : D) (ds : List D) : Prop := d = .lst ds ∨ ∃ a f, d = .ref a ∧ At a M (.lst ds) f
/-- .. or one that is read alone -/
def IsR (M : Mem) (d : D) (ds : List D) : Prop := IsL M d ds ∨ d = .slst ds
theorem IsL.get {v : V} {d : D} {ds : List D} (h : IsL M d ds) (m : MO K S M H) (r : Rep K S v d) : ∃ a xs, v = .ref a ∧ H a = some (.lst xs) ∧ Reps K S xs ds := by
  rcases h with rfl | ⟨a, f, rfl, h⟩
  · obtain ⟨a, xs, e, h, r⟩ := r.lst_inv
    exact ⟨a, xs, e, m.sub _ _ h, r⟩
  · obtain ⟨xs, hx, rs⟩ := m.at_ok h
    exact ⟨a, xs, r.ref_inv, hx, rs⟩
theorem IsR.get {v : V} {d : D} {ds : List D} (h : IsR M d ds) (m : MO K S M H) (r : Rep K S v d) : ∃ a xs, v = .ref a ∧ SqL K H a xs ∧ Reps K S xs ds := by
  rcases h with h | rfl
  · obtain ⟨a, xs, e, h, r⟩ := h.get m r
    exact ⟨a, xs, e, .of h, r⟩
  · obtain ⟨a, xs, e, h, r⟩ := r.slst_inv
    exact ⟨a, xs, e, m.sub.seq h, r⟩
theorem Rep.tup_get {v : V} {ds : List D} (m : MO K S M H) (r : Rep K S v (.tup ds)) : ∃ a xs, v = .ref a ∧ H a = some (.tup xs) ∧ Reps K S xs ds := by
  obtain ⟨a, xs, e, h, r⟩ := r.tup_inv
  exact ⟨a, xs, e, m.sub _ _ h, r⟩
end

/-! ### judgements -/
def Post (K : PySem.W.Frag) (S : Hp) (Q : D → Mem → Prop) (v : V) (H : Hp) : Prop := ∃ d M S', Q d M ∧ Same S S' ∧ MO K S' M H ∧ Rep K S' v d
def PostB (K : PySem.W.Frag) (S : Hp) (Q : Bool → Mem → Prop) (b : Bool) (H : Hp) : Prop := ∃ M S', Q b M ∧ Same S S' ∧ MO K S' M H
def PostA (K : PySem.W.Frag) (S : Hp) (Q : List D → Mem → Prop) (vs : List V) (H : Hp) : Prop := ∃ ds M S', Q ds M ∧ Same S S' ∧ MO K S' M H ∧ Reps K S' vs ds
structure SR (X : Cx) (S : Hp) (σ : L2.St) (Γ : VEnv) : Prop where
  len : σ.length = X.N.length
  names : Γ.map (·.1) = X.N
  vals : ∀ (i : Nat) (x : Str) (d : D), Γ[i]? = some (x, some d) → ∃ v, σ[i]? = some (some v) ∧ Rep X.K S v d
theorem SR.mono {X : Cx} {S S' : Hp} {σ : L2.St} {Γ : VEnv} (r : SR X S σ Γ) (e : Same S S') : SR X S' σ Γ :=
  ⟨r.len, r.names, fun i x d h => let ⟨v, a, b⟩ := r.vals i x d h; ⟨v, a, b.mono e⟩⟩

def tE (X : Cx) (e : Expr) : TE := fun σ H R => ∀ pins s, Inv X pins σ H s → wpAny (model X.prog X.w) X.A (eval e X.env) (EP X pins σ R) X.xe s
def tT (X : Cx) (e : Expr) : TT := fun σ H R => ∀ pins s, Inv X pins σ H s → wpAny (model X.prog X.w) X.A (isTrue e X.env (eval e X.env)) (TP X pins σ R) X.xe s
def tW (X : Cx) (e : Expr) : TT := fun σ H R => ∀ (whole : Sem Value) pins s, Inv X pins σ H s → wpAny (model X.prog X.w) X.A (isTrue e X.env whole) (TP X pins σ R) X.xe s
def tA (X : Cx) (es : List Expr) : TA := fun σ H R => ∀ pos pins s, Inv X pins σ H s → wpAny (model X.prog X.w) X.A (spliced (backTo pos (starEach es X.env))) (AP X pins σ R) X.xe s
def tS (X : Cx) (st : Stmt) : TS := fun D σ H => ∀ pins s, Inv X pins σ H s → wpAny (model X.prog X.w) X.A (exec st X.env) (SP X pins D) X.xe s
def tSs (X : Cx) (st : List Stmt) : TS := fun D σ H => ∀ pins s, Inv X pins σ H s → wpAny (model X.prog X.w) X.A (execs st X.env) (SP X pins D) X.xe s
def tG (X : Cx) (tg : Expr) : TG := fun v σ H R => ∀ pins s u, Inv X pins σ H s → RelV v u → wpAny (model X.prog X.w) X.A (assign tg X.env u) (fun _ s' => ∃ σ' H', Inv X pins σ' H' s' ∧ R σ' H') X.xe s
def tI (X : Cx) (tg iter : Expr) : TI := fun σ H R => ∀ pins s, Inv X pins σ H s → wpAny (model X.prog X.w) X.A (eval iter X.env) (fun v s1 => wpAny (model X.prog X.w) X.A (pyIter v) (PIE X pins σ tg R) X.xe s1) X.xe s
def rC (X : Cx) (f : Value → Value → Sem Value) : R2 := fun x y H R => ∀ pins s σ v u, Inv X pins σ H s → RelV x v → RelV y u → wpAny (model X.prog X.w) X.A (f v u) (EP X pins σ R) X.xe s
section
variable {X : Cx} {e : Expr} {es : List Expr} {st : Stmt} {sts : List Stmt} {tg : Expr} {σ : L2.St} {H : Hp}
theorem pe_c : PE X e (tE X e) := ⟨fun pins s σ H Q I h => h pins s I⟩
theorem pt_c : PT X e (tT X e) := ⟨fun pins s σ H Q I h => h pins s I⟩
theorem pw_c : PW X e (tW X e) := ⟨fun w pins s σ H Q I h => h w pins s I⟩
theorem pa_c : PA X es (tA X es) := ⟨fun pos pins s σ H Q I h => h pos pins s I⟩
theorem ps_c : PS X st (tS X st) := ⟨fun pins s σ H Q I h => h pins s I⟩
theorem pss_c : PSs X sts (tSs X sts) := ⟨fun pins s σ H Q I h => h pins s I⟩
theorem pg_c : PG X tg (tG X tg) := ⟨fun pins s σ H v u Q I r h => h pins s u I r⟩
theorem pi_c {it : Expr} : PI X tg it (tI X tg it) := ⟨fun pins s σ H Q I h => h pins s I⟩
theorem or_c {f : Value → Value → Sem Value} : OpR X f (rC X f) := fun pins s σ H x y v u Q I rx ry h => h pins s σ v u I rx ry
theorem tE_of {t : TE} {R : VK} (h : PE X e t) (q : t σ H R) : tE X e σ H R := fun pins s I => h.run pins s σ H R I q
theorem tT_of {t : TT} {R : Bool → Hp → Prop} (h : PT X e t) (q : t σ H R) : tT X e σ H R := fun pins s I => h.run pins s σ H R I q
theorem tW_of {t : TT} {R : Bool → Hp → Prop} (h : PW X e t) (q : t σ H R) : tW X e σ H R := fun w pins s I => h.run w pins s σ H R I q
theorem tA_of {t : TA} {R : List V → Hp → Prop} (h : PA X es t) (q : t σ H R) : tA X es σ H R := fun p pins s I => h.run p pins s σ H R I q
theorem tS_of {t : TS} {R : Ends} (h : PS X st t) (q : t R σ H) : tS X st R σ H := fun pins s I => h.run pins s σ H R I q
theorem tSs_of {t : TS} {R : Ends} (h : PSs X sts t) (q : t R σ H) : tSs X sts R σ H := fun pins s I => h.run pins s σ H R I q
theorem tE_mono {R R' : VK} (h : tE X e σ H R) (m : ∀ v H', R v H' → R' v H') : tE X e σ H R' := fun pins s I =>
  thn (h pins s I) fun _ _ ⟨v, H', I', r, q⟩ => ⟨v, H', I', r, m _ _ q⟩
theorem tT_mono {R R' : Bool → Hp → Prop} (h : tT X e σ H R) (m : ∀ v H', R v H' → R' v H') : tT X e σ H R' := fun pins s I =>
  thn (h pins s I) fun _ _ ⟨H', I', q⟩ => ⟨H', I', m _ _ q⟩
theorem tW_mono {R R' : Bool → Hp → Prop} (h : tW X e σ H R) (m : ∀ v H', R v H' → R' v H') : tW X e σ H R' := fun w pins s I =>
  thn (h w pins s I) fun _ _ ⟨H', I', q⟩ => ⟨H', I', m _ _ q⟩
theorem tA_mono {R R' : List V → Hp → Prop} (h : tA X es σ H R) (m : ∀ v H', R v H' → R' v H') : tA X es σ H R' := fun p pins s I =>
  thn (h p pins s I) fun _ _ ⟨v, H', I', r, q⟩ => ⟨v, H', I', r, m _ _ q⟩
theorem tG_mono {v : V} {R R' : L2.St → Hp → Prop} (h : tG X tg v σ H R) (m : ∀ v H', R v H' → R' v H') : tG X tg v σ H R' := fun pins s u I r =>
  thn (h pins s u I r) fun _ _ ⟨v, H', I', q⟩ => ⟨v, H', I', m _ _ q⟩
theorem rC_mono {f : Value → Value → Sem Value} {x y : V} {R R' : VK} (h : rC X f x y H R) (m : ∀ v H', R v H' → R' v H') : rC X f x y H R' := fun pins s σ v u I rx ry =>
  thn (h pins s σ v u I rx ry) fun _ _ ⟨v, H', I', r, q⟩ => ⟨v, H', I', r, m _ _ q⟩
end
def WE (X : Cx) (Γ : VEnv) (M : Mem) (e : Expr) (Q : D → Mem → Prop) : Prop := ∀ S σ H, SR X S σ Γ → MO X.K S M H → tE X e σ H (Post X.K S Q)
def WT (X : Cx) (Γ : VEnv) (M : Mem) (e : Expr) (Q : Bool → Mem → Prop) : Prop := ∀ S σ H, SR X S σ Γ → MO X.K S M H → tT X e σ H (PostB X.K S Q)
def WW (X : Cx) (Γ : VEnv) (M : Mem) (e : Expr) (Q : Bool → Mem → Prop) : Prop := ∀ S σ H, SR X S σ Γ → MO X.K S M H → tW X e σ H (PostB X.K S Q)
def WA (X : Cx) (Γ : VEnv) (M : Mem) (es : List Expr) (Q : List D → Mem → Prop) : Prop := ∀ S σ H, SR X S σ Γ → MO X.K S M H → tA X es σ H (PostA X.K S Q)
def OD (X : Cx) (f : Value → Value → Sem Value) (da db : D) (M : Mem) (Q : D → Mem → Prop) : Prop := ∀ S H x y, Rep X.K S x da → Rep X.K S y db → MO X.K S M H → rC X f x y H (Post X.K S Q)
structure DE where
  nx : VEnv → Mem → Prop
  rt : D → Mem → Prop
  bk : VEnv → Mem → Prop := fun _ _ => False
  ct : VEnv → Mem → Prop := fun _ _ => False
abbrev DE.thn (E : DE) (n : VEnv → Mem → Prop) : DE := { E with nx := n }
def PostG (X : Cx) (S : Hp) (Q : VEnv → Mem → Prop) (σ : L2.St) (H : Hp) : Prop := ∃ Γ M S', Q Γ M ∧ Same S S' ∧ SR X S' σ Γ ∧ MO X.K S' M H
def ends (X : Cx) (S : Hp) (E : DE) : Ends := { nx := PostG X S E.nx, rt := Post X.K S E.rt, bk := PostG X S E.bk, ct := PostG X S E.ct }
def WS (X : Cx) (Γ : VEnv) (M : Mem) (st : Stmt) (E : DE) : Prop := ∀ S σ H, SR X S σ Γ → MO X.K S M H → tS X st (ends X S E) σ H
def WSs (X : Cx) (Γ : VEnv) (M : Mem) (st : List Stmt) (E : DE) : Prop := ∀ S σ H, SR X S σ Γ → MO X.K S M H → tSs X st (ends X S E) σ H
def WG (X : Cx) (Γ : VEnv) (M : Mem) (tg : Expr) (d : D) (Q : VEnv → Mem → Prop) : Prop := ∀ S σ H v, SR X S σ Γ → MO X.K S M H → Rep X.K S v d → tG X tg v σ H (PostG X S Q)
section
variable {K : PySem.W.Frag} {X : Cx} {S S' S1 H : Hp} {v : V} {Q Q' : D → Mem → Prop} {b : Bool} {vs : List V} {σ : L2.St}
theorem Post.weak (h : Post K S' Q v H) (e : Same S S') : Post K S Q v H := let ⟨d, M, S1, q, s, m, r⟩ := h; ⟨d, M, S1, q, e.trans s, m, r⟩
theorem PostB.weak {Q : Bool → Mem → Prop} (h : PostB K S' Q b H) (e : Same S S') : PostB K S Q b H := let ⟨M, S1, q, s, m⟩ := h; ⟨M, S1, q, e.trans s, m⟩
theorem PostA.weak {Q : List D → Mem → Prop} (h : PostA K S' Q vs H) (e : Same S S') : PostA K S Q vs H := let ⟨d, M, S1, q, s, m, r⟩ := h; ⟨d, M, S1, q, e.trans s, m, r⟩
theorem PostG.weak {Q : VEnv → Mem → Prop} (h : PostG X S' Q σ H) (e : Same S S') : PostG X S Q σ H := let ⟨d, M, S1, q, s, m, r⟩ := h; ⟨d, M, S1, q, e.trans s, m, r⟩
theorem Post.imp (h : Post K S Q v H) (e : ∀ d M, Q d M → Q' d M) : Post K S Q' v H := let ⟨d, M, S1, q, s, m, r⟩ := h; ⟨d, M, S1, e _ _ q, s, m, r⟩
theorem PostG.imp {Q Q' : VEnv → Mem → Prop} (h : PostG X S Q σ H) (e : ∀ d M, Q d M → Q' d M) : PostG X S Q' σ H := let ⟨d, M, S1, q, s, m, r⟩ := h; ⟨d, M, S1, e _ _ q, s, m, r⟩
theorem Post.of {d : D} {M : Mem} (m : MO K S M H) (r : Rep K S v d) (q : Q d M) : Post K S Q v H := ⟨d, M, S, q, .refl _, m, r⟩
theorem SP.imp {pins : List (Addr × Obj)} {D D' : Ends} {f : Flow} {s : Shared} (h : SP X pins D f s) (h1 : ∀ σ H, D.nx σ H → D'.nx σ H) (h2 : ∀ v H, D.rt v H → D'.rt v H) (h3 : ∀ σ H, D.bk σ H → D'.bk σ H) (h4 : ∀ σ H, D.ct σ H → D'.ct σ H) : SP X pins D' f s := by
  cases f with
  | next => exact let ⟨σ', H', I, q⟩ := h; ⟨σ', H', I, h1 _ _ q⟩
  | brk => exact let ⟨σ', H', I, q⟩ := h; ⟨σ', H', I, h3 _ _ q⟩
  | cont => exact let ⟨σ', H', I, q⟩ := h; ⟨σ', H', I, h4 _ _ q⟩
  | ret u => exact let ⟨v, σ', H', I, r, q⟩ := h; ⟨v, σ', H', I, r, h2 _ _ q⟩
theorem SP.weak {pins : List (Addr × Obj)} {E : DE} {f : Flow} {s : Shared} (h : SP X pins (ends X S' E) f s) (e : Same S S') : SP X pins (ends X S E) f s :=
  SP.imp h (fun _ _ q => PostG.weak q e) (fun _ _ q => Post.weak q e) (fun _ _ q => PostG.weak q e) (fun _ _ q => PostG.weak q e)
end
end DL

/-! Core2: rules for expressions. -/
namespace DL
open PySem PySem.Spec PyProof.Rows L2

/-- what stands fast in a body: L the names that may be stored, V those that may be read, B the built-ins, F the defs that it names -/
structure Stat (X : Cx) (Ln Vn Bn Fn : List Str) : Prop where
  calm : X.calm = true
  vis : ∀ x ∈ Vn, Vis X.env.scope x ∧ (x == ("__debug__" : Str)) = false ∧ (x == ("__classdict__" : Str)) = false
  po : PassesOwn (model X.prog X.w) X.A X.env X.xe
  nd : X.N.Nodup
  loc : ∀ x ∈ Ln, Loc X.env.scope x ∧ (X.fn x = true ∨ X.env.scope.names.lookup x = some .local)
  blt : ∀ x ∈ Bn, Gl X x ∧ X.mg x = none ∧ x ≠ "__name__" ∧ (x == ("__debug__" : Str)) = false
  gfn : ∀ x ∈ Fn, Gl X x ∧ (x == ("__debug__" : Str)) = false
  hu : X.A.units + 100 < cLine
  gd : X.A.guards = some []

inductive Look : VEnv → Str → D → Prop
  | here {Γ : VEnv} {x : Str} {d : D} : Look ((x, some d) :: Γ) x d
  | there {Γ : VEnv} {x : Str} {d : D} {p : Str × Option D} : Look Γ x d → Look (p :: Γ) x d
theorem Look.at {Γ : VEnv} {x : Str} {d : D} (h : Look Γ x d) : ∃ i : Nat, Γ[i]? = some (x, some d) := by
  induction h with
  | here => exact ⟨0, rfl⟩
  | there _ ih => exact let ⟨i, e⟩ := ih; ⟨i + 1, by simpa using e⟩
inductive SetAt : VEnv → Str → D → VEnv → Prop
  | here {Γ : VEnv} {x : Str} {d : D} {o : Option D} : SetAt ((x, o) :: Γ) x d ((x, some d) :: Γ)
  | there {Γ Γ' : VEnv} {x : Str} {d : D} {p : Str × Option D} : SetAt Γ x d Γ' → SetAt (p :: Γ) x d (p :: Γ')
theorem SetAt.at {Γ Γ' : VEnv} {x : Str} {d : D} (h : SetAt Γ x d Γ') : ∃ (i : Nat) (o : Option D), Γ[i]? = some (x, o) ∧ Γ' = Γ.set i (x, some d) := by
  induction h with
  | here => exact ⟨0, _, rfl, rfl⟩
  | there _ ih => exact let ⟨i, o, e, q⟩ := ih; ⟨i + 1, o, by simpa using e, by rw [q]; rfl⟩

section
variable {X : Cx} {S S' H : Hp} {σ : L2.St} {Γ Γ' : VEnv} {M : Mem} {x : Str} {d : D} {v : V} {Ln Vn Bn Fn : List Str}
theorem SR.name {i : Nat} {o : Option D} (r : SR X S σ Γ) (h : Γ[i]? = some (x, o)) : X.N[i]? = some x := by
  rw [← r.names, List.getElem?_map, h]; rfl
theorem SR.put {i : Nat} {o : Option D} (r : SR X S σ Γ) (h : Γ[i]? = some (x, o)) (rv : Rep X.K S v d) (hx : Loc X.env.scope x ∧ (X.fn x = true ∨ X.env.scope.names.lookup x = some .local)) :
    SR X S (σ.set i (some v)) (Γ.set i (x, some d)) := by
  have hN := r.name h
  have hi : i < σ.length := by rw [r.len]; exact (List.getElem?_eq_some_iff.mp hN).1
  refine ⟨by rw [List.length_set]; exact r.len, ?_, fun j y e hj => ?_⟩
  · rw [List.map_set, r.names]
    obtain ⟨hlt, e⟩ := List.getElem?_eq_some_iff.mp hN
    show X.N.set i x = X.N
    rw [← e]; exact List.set_getElem_self hlt
  · by_cases hji : i = j
    · subst hji
      rw [List.getElem?_set_self (by rw [← List.length_map (f := (·.1)), r.names]; exact (List.getElem?_eq_some_iff.mp hN).1)] at hj
      cases hj
      exact ⟨v, List.getElem?_set_self hi, rv⟩
    · rw [List.getElem?_set_ne hji] at hj
      obtain ⟨w, a, b⟩ := r.vals j y e hj
      exact ⟨w, by rw [List.getElem?_set_ne hji]; exact a, b⟩
end

section
variable {X : Cx} {Γ : VEnv} {M : Mem} {Q : D → Mem → Prop} {QB : Bool → Mem → Prop} {QA : List D → Mem → Prop} {x : Str} {d : D} {pos p : Pos} {a b c e : Expr} {es : List Expr} {Ln Vn Bn Fn : List Str}

/-- the closing of a reading: the heap grew as told -/
theorem tE_post {S : Hp} {σ : L2.St} {H : Hp} {R : VK} {Q : D → Mem → Prop} (h : tE X e σ H (Post X.K S Q)) (m : ∀ d M S' v H', Q d M → Same S S' → MO X.K S' M H' → Rep X.K S' v d → R v H') : tE X e σ H R :=
  tE_mono h fun v H' ⟨d, M, S', q, s, mo, r⟩ => m d M S' v H' q s mo r
theorem WE.imp {Q' : D → Mem → Prop} (h : WE X Γ M e Q) (m : ∀ d M', Q d M' → Q' d M') : WE X Γ M e Q' := fun S σ H hΓ hM => tE_mono (h S σ H hΓ hM) fun _ _ p => p.imp m
theorem WE.perm {M' : Mem} (h : WE X Γ M' e Q) (pm : List.Perm M M') : WE X Γ M e Q := fun S σ H hΓ hM => h S σ H hΓ (hM.perm pm)

theorem we_name (st : Stat X Ln Vn Bn Fn) (hv : x ∈ Vn) (h : Look Γ x d) (q : Q d M) : WE X Γ M (.Name x pos) Q := by
  intro S σ H hΓ hM
  obtain ⟨i, e⟩ := h.at
  obtain ⟨v, hv', rv⟩ := hΓ.vals i x d e
  obtain ⟨vis, d1, d2⟩ := st.vis x hv
  exact tE_of (pe_var (hΓ.name e) vis d1 d2) ⟨v, hv', .of hM rv q⟩
theorem we_int {i : Int} {j} (q : Q (.int i) M) : WE X Γ M (.Constant (.int i) j pos) Q := fun S σ H hΓ hM => tE_of pe_int (Post.of hM (.int i) q)
theorem we_str {s : Str} {j} (q : Q (.str s) M) : WE X Γ M (.Constant (.str s) j pos) Q := fun S σ H hΓ hM => tE_of pe_str (Post.of hM (.str s) q)
theorem we_bl {s : Bool} {j} (q : Q (.bl s) M) : WE X Γ M (.Constant (.bool s) j pos) Q := fun S σ H hΓ hM => tE_of pe_bl (Post.of hM (.bl s) q)
theorem we_non {j} (q : Q .non M) : WE X Γ M (.Constant .none j pos) Q := fun S σ H hΓ hM => tE_of pe_non (Post.of hM .non q)
/-- a whole number that the module names -/
theorem we_const {i : Int} {t : Tok} (st : Stat X Ln Vn Bn Fn) (hx : x ∈ Fn) (hm : X.mg x = some (.int i t)) (q : Q (.int i) M) : WE X Γ M (.Name x pos) Q := fun S σ H hΓ hM =>
  tE_of (pe_glob (v := V.int i) (st.gfn x hx).1 hm ⟨t, rfl⟩ (st.gfn x hx).2) (Post.of hM (.int i) q)

theorem two {S : Hp} {σ : L2.St} {H : Hp} {R : V → V → Hp → Prop} (hΓ : SR X S σ Γ) (hM : MO X.K S M H) {Q2 : D → D → Mem → Prop} (h : WE X Γ M a fun da M1 => WE X Γ M1 b fun db M2 => Q2 da db M2)
    (k : ∀ x y H2 S2 da db M2, Same S S2 → MO X.K S2 M2 H2 → Rep X.K S2 x da → Rep X.K S2 y db → Q2 da db M2 → R x y H2) : tE X a σ H fun x H1 => tE X b σ H1 fun y H2 => R x y H2 := by
  refine tE_post (h S σ H hΓ hM) fun da M1 S1 x H1 q1 s1 m1 r1 => ?_
  refine tE_post (q1 S1 σ H1 (hΓ.mono s1) m1) fun db M2 S2 y H2 q2 s2 m2 r2 => ?_
  exact k x y H2 S2 da db M2 (s1.trans s2) m2 (r1.mono s2) r2 q2
theorem we_bin {op : Operator} (h : WE X Γ M a fun da M1 => WE X Γ M1 b fun db M2 => OD X (binaryOp op) da db M2 Q) : WE X Γ M (.BinOp a op b pos) Q := by
  intro S σ H hΓ hM
  exact tE_of (pe_op or_c pe_c pe_c) (two hΓ hM h fun x y H2 S2 da db M2 s m rx ry q => rC_mono (q S2 H2 x y rx ry m) fun _ _ p => p.weak s)
theorem we_cmp {op : CmpOp} (h : WE X Γ M a fun da M1 => WE X Γ M1 b fun db M2 => OD X (compareOp op) da db M2 Q) (hm : behindInMarks op b = false) : WE X Γ M (.Compare a [op] [b] pos) Q := by
  intro S σ H hΓ hM
  exact tE_of (pe_cmpR or_c pe_c pe_c hm) (two hΓ hM h fun x y H2 S2 da db M2 s m rx ry q => rC_mono (q S2 H2 x y rx ry m) fun _ _ p => p.weak s)
theorem wt_cmp {op : CmpOp} (h : WE X Γ M a fun da M1 => WE X Γ M1 b fun db M2 => OD X (compareOp op) da db M2 fun d M3 => ∃ k, d = .bl k ∧ QB k M3) (hm : behindInMarks op b = false) : WT X Γ M (.Compare a [op] [b] pos) QB := by
  intro S σ H hΓ hM
  refine tT_of (pt_cmpR or_c pe_c pe_c hm) (two hΓ hM h fun x y H2 S2 da db M2 s m rx ry q => rC_mono (q S2 H2 x y rx ry m) ?_)
  rintro z H3 ⟨d3, M3, S3, ⟨k, rfl, qk⟩, s3, m3, r3⟩
  exact ⟨k, r3.bl_inv, M3, S3, qk, s.trans s3, m3⟩
/-- a op1 b op2 c -/
theorem chainR {op op' : CmpOp} {S : Hp} {σ : L2.St} {H : Hp} {R : VK} (hΓ : SR X S σ Γ) (hM : MO X.K S M H) (h : WE X Γ M a fun da M1 => WE X Γ M1 b fun db M2 => OD X (compareOp op) da db M2 fun d M3 => ∃ k, d = .bl k ∧
      (if k = true then WE X Γ M3 c fun dc M4 => OD X (compareOp op') db dc M4 Q else Q (.bl false) M3)) (w : ∀ v H', Post X.K S Q v H' → R v H') : tChain (rC X (compareOp op)) (rC X (compareOp op')) (tE X a) (tE X b) (tE X c) σ H R := by
  refine tE_post (h S σ H hΓ hM) fun da M1 S1 x H1 q1 s1 m1 r1 => ?_
  refine tE_post (q1 S1 σ H1 (hΓ.mono s1) m1) fun db M2 S2 y H2 q2 s2 m2 r2 => ?_
  refine rC_mono (q2 S2 H2 x y (r1.mono s2) r2 m2) ?_
  rintro z H3 ⟨d3, M3, S3, ⟨k, rfl, qk⟩, s3, m3, r3⟩
  refine ⟨k, r3.bl_inv, ?_⟩
  have s123 := (s1.trans s2).trans s3
  cases k with
  | true =>
    rw [if_pos rfl] at qk ⊢
    refine tE_post (qk S3 σ H3 (hΓ.mono s123) m3) fun dc M4 S4 w' H4 q4 s4 m4 r4 => ?_
    exact rC_mono (q4 S4 H4 y w' ((r2.mono s3).mono s4) r4 m4) fun _ _ p => w _ _ (p.weak (s123.trans s4))
  | false =>
    rw [if_neg Bool.false_ne_true] at qk ⊢
    exact w _ _ ⟨_, M3, S3, qk, s123, m3, .bl false⟩
theorem we_chain {op op' : CmpOp} (h : WE X Γ M a fun da M1 => WE X Γ M1 b fun db M2 => OD X (compareOp op) da db M2 fun d M3 => ∃ k, d = .bl k ∧
      (if k = true then WE X Γ M3 c fun dc M4 => OD X (compareOp op') db dc M4 Q else Q (.bl false) M3)) (hm : lastMarks [op, op'] [b, c] = false := by with_unfolding_all rfl) : WE X Γ M (.Compare a [op, op'] [b, c] pos) Q := by
  intro S σ H hΓ hM
  exact tE_of (pe_chain or_c or_c pe_c pe_c pe_c hm) (chainR hΓ hM h fun _ _ p => p)
theorem wt_chain {op op' : CmpOp} (h : WE X Γ M a fun da M1 => WE X Γ M1 b fun db M2 => OD X (compareOp op) da db M2 fun d M3 => ∃ k, d = .bl k ∧
      (if k = true then WE X Γ M3 c fun dc M4 => OD X (compareOp op') db dc M4 (fun d M5 => ∃ k', d = .bl k' ∧ QB k' M5) else QB false M3)) (hm : lastMarks [op, op'] [b, c] = false := by with_unfolding_all rfl) : WT X Γ M (.Compare a [op, op'] [b, c] pos) QB := by
  intro S σ H hΓ hM
  refine tT_of (pt_chain or_c or_c pe_c pe_c pe_c hm) (chainR (Q := fun d M5 => ∃ k', d = .bl k' ∧ QB k' M5) hΓ hM (h.imp fun da M1 q => q.imp fun db M2 q S H x y rx ry m => rC_mono (q S H x y rx ry m) fun _ _ p => p.imp fun d M3 ⟨k, e, q⟩ => ⟨k, e, ?_⟩) ?_)
  · cases k with
    | true => exact q
    | false => exact ⟨false, rfl, q⟩
  · rintro z H3 ⟨d3, M3, S3, ⟨k, rfl, qk⟩, s3, m3, r3⟩
    exact ⟨k, r3.bl_inv, M3, S3, qk, s3, m3⟩

/-- a test that is a value's truth -/
def TrD (M : Mem) : D → Bool → Prop
  | .non, k => k = false
  | .bl b, k => k = b
  | .int i, k => k = (i != 0)
  | .lst ds, k => k = !ds.isEmpty
  | .tup ds, k => k = !ds.isEmpty
  | .ref a, k => ∃ ds f, At a M (.lst ds) f ∧ k = !ds.isEmpty
  | .str x, k => x.length ≤ sizeLine ∧ k = ((x.length : Int) != 0)
  | _, _ => False
theorem reps_empty {K : PySem.W.Frag} {S : Hp} {vs : List V} {ds : List D} (h : Reps K S vs ds) : vs.isEmpty = ds.isEmpty := by
  cases h <;> rfl
theorem TrD.tru {K : PySem.W.Frag} {S H : Hp} {k : Bool} {v : V} : ∀ {d : D}, TrD M d k → MO K S M H → Rep K S v d → TruV K v H k
  | .non, h, m, r => by cases r; exact h
  | .bl b, h, m, r => by cases r; exact h
  | .int i, h, m, r => by cases r; exact h
  | .str x, h, m, r => by cases r; exact h
  | .lst ds, h, m, r => by
    obtain ⟨a, xs, rfl, e, rs⟩ := r.lst_inv
    exact .inl ⟨xs, .of (m.sub _ _ e), by rw [reps_empty rs]; exact h⟩
  | .tup ds, h, m, r => by
    obtain ⟨a, xs, rfl, e, rs⟩ := r.tup_inv
    exact .inr (.inl ⟨xs, .of (m.sub _ _ e), by rw [reps_empty rs]; exact h⟩)
  | .ref a, ⟨ds, f, h, e⟩, m, r => by
    obtain ⟨xs, hx, rs⟩ := m.at_ok h
    rw [r.ref_inv]
    exact .inl ⟨xs, .of hx, by rw [reps_empty rs]; exact e⟩
  | .slst _, h, _, _ => h.elim
theorem wt_truth (h : WE X Γ M a fun d M1 => ∃ k, TrD M1 d k ∧ QB k M1) (he : ∀ whole, isTrue a X.env whole = (do let v ← whole; standAt a.pos; holding [v] (truthy v)) := by intro _; rfl) : WT X Γ M a QB := by
  intro S σ H hΓ hM
  refine tT_of (pt_truth pe_c he) (tE_post (h S σ H hΓ hM) fun d M1 S1 v H1 ⟨k, t, q⟩ s1 m1 r1 => ?_)
  exact ⟨k, t.tru m1 r1, M1, S1, q, s1, m1⟩
theorem tT_post {S : Hp} {σ : L2.St} {H : Hp} {R : Bool → Hp → Prop} (h : tT X e σ H (PostB X.K S QB)) (m : ∀ k M S' H', QB k M → Same S S' → MO X.K S' M H' → R k H') : tT X e σ H R :=
  tT_mono h fun k H' ⟨M, S', q, s, mo⟩ => m k M S' H' q s mo
theorem tW_post {S : Hp} {σ : L2.St} {H : Hp} {R : Bool → Hp → Prop} (h : tW X e σ H (PostB X.K S QB)) (m : ∀ k M S' H', QB k M → Same S S' → MO X.K S' M H' → R k H') : tW X e σ H R :=
  tW_mono h fun k H' ⟨M, S', q, s, mo⟩ => m k M S' H' q s mo
theorem wt_not (h : WT X Γ M a fun k M1 => QB (!k) M1) : WT X Γ M (.UnaryOp .Not a pos) QB := by
  intro S σ H hΓ hM
  exact tT_of (pt_not pt_c) (tT_post (h S σ H hΓ hM) fun k M1 S1 H1 q s1 m1 => ⟨M1, S1, q, s1, m1⟩)
theorem ww_and1 (h : WT X Γ M a QB) : WW X Γ M (.BoolOp .And [a] pos) QB := fun S σ H hΓ hM => tW_of (pw_and1 pt_c) (h S σ H hΓ hM)
theorem ww_or1 (h : WT X Γ M a QB) : WW X Γ M (.BoolOp .Or [a] pos) QB := fun S σ H hΓ hM => tW_of (pw_or1 pt_c) (h S σ H hΓ hM)
theorem ww_and (h : WT X Γ M a fun k M1 => if k = true then WW X Γ M1 (.BoolOp .And (b :: es) pos) QB else QB false M1) : WW X Γ M (.BoolOp .And (a :: b :: es) pos) QB := by
  intro S σ H hΓ hM
  refine tW_of (pw_and pt_c pw_c) (tT_post (h S σ H hΓ hM) fun k M1 S1 H1 q s1 m1 => ?_)
  cases k with
  | true => exact tW_mono (q S1 σ H1 (hΓ.mono s1) m1) fun _ _ p => PostB.weak p s1
  | false => exact ⟨M1, S1, q, s1, m1⟩
theorem ww_or (h : WT X Γ M a fun k M1 => if k = true then QB true M1 else WW X Γ M1 (.BoolOp .Or (b :: es) pos) QB) : WW X Γ M (.BoolOp .Or (a :: b :: es) pos) QB := by
  intro S σ H hΓ hM
  refine tW_of (pw_or pt_c pw_c) (tT_post (h S σ H hΓ hM) fun k M1 S1 H1 q s1 m1 => ?_)
  cases k with
  | true => exact ⟨M1, S1, q, s1, m1⟩
  | false => exact tW_mono (q S1 σ H1 (hΓ.mono s1) m1) fun _ _ p => PostB.weak p s1
theorem wt_bool {op} (h : WW X Γ M (.BoolOp op es pos) QB) : WT X Γ M (.BoolOp op es pos) QB := fun S σ H hΓ hM pins s I => h S σ H hΓ hM _ pins s I
/-- .. as values -/
theorem we_one {op} (h : WE X Γ M a Q) : WE X Γ M (.BoolOp op [a] pos) Q := fun S σ H hΓ hM => tE_of (pe_one pe_c) (h S σ H hΓ hM)
theorem we_and (h : WE X Γ M a fun d M1 => ∃ k, d = .bl k ∧ if k = true then WE X Γ M1 (.BoolOp .And (b :: es) pos) Q else Q (.bl false) M1) : WE X Γ M (.BoolOp .And (a :: b :: es) pos) Q := by
  intro S σ H hΓ hM
  refine tE_of (pe_and pe_c pe_c) (tE_post (h S σ H hΓ hM) fun d M1 S1 v H1 q s1 m1 r1 => ?_)
  obtain ⟨k, rfl, q⟩ := q
  refine ⟨k, r1.bl_inv, ?_⟩
  cases k with
  | true => exact tE_mono (q S1 σ H1 (hΓ.mono s1) m1) fun _ _ p => p.weak s1
  | false => exact ⟨_, M1, S1, q, s1, m1, .bl false⟩
theorem we_or (h : WE X Γ M a fun d M1 => ∃ k, d = .bl k ∧ if k = true then Q (.bl true) M1 else WE X Γ M1 (.BoolOp .Or (b :: es) pos) Q) : WE X Γ M (.BoolOp .Or (a :: b :: es) pos) Q := by
  intro S σ H hΓ hM
  refine tE_of (pe_or pe_c pe_c) (tE_post (h S σ H hΓ hM) fun d M1 S1 v H1 q s1 m1 r1 => ?_)
  obtain ⟨k, rfl, q⟩ := q
  refine ⟨k, r1.bl_inv, ?_⟩
  cases k with
  | false => exact tE_mono (q S1 σ H1 (hΓ.mono s1) m1) fun _ _ p => p.weak s1
  | true => exact ⟨_, M1, S1, q, s1, m1, .bl true⟩
theorem we_not (h : WE X Γ M a fun d M1 => ∃ k, d = .bl k ∧ Q (.bl (!k)) M1) : WE X Γ M (.UnaryOp .Not a pos) Q := by
  intro S σ H hΓ hM
  refine tE_of (pe_not pe_c) (tE_post (h S σ H hΓ hM) fun d M1 S1 v H1 q s1 m1 r1 => ?_)
  obtain ⟨k, rfl, q⟩ := q
  exact ⟨k, r1.bl_inv, _, M1, S1, q, s1, m1, .bl _⟩
theorem we_neg (h : WE X Γ M a fun d M1 => ∃ i, d = .int i ∧ Q (.int (-i)) M1) : WE X Γ M (.UnaryOp .USub a pos) Q := by
  intro S σ H hΓ hM
  refine tE_of (pe_un un_neg pe_c) (tE_post (h S σ H hΓ hM) fun d M1 S1 v H1 q s1 m1 r1 => ?_)
  obtain ⟨i, rfl, q⟩ := q
  exact ⟨i, r1.int_inv, _, M1, S1, q, s1, m1, .int _⟩
theorem we_if (h : WT X Γ M c fun k M1 => if k = true then WE X Γ M1 a Q else WE X Γ M1 b Q) : WE X Γ M (.IfExp c a b pos) Q := by
  intro S σ H hΓ hM
  refine tE_of (pe_ifExp pt_c pe_c pe_c) (tT_post (h S σ H hΓ hM) fun k M1 S1 H1 q s1 m1 => ?_)
  cases k with
  | true => exact tE_mono (q S1 σ H1 (hΓ.mono s1) m1) fun _ _ p => p.weak s1
  | false => exact tE_mono (q S1 σ H1 (hΓ.mono s1) m1) fun _ _ p => p.weak s1

/-! ### arguments, displays -/
theorem tA_post {S : Hp} {σ : L2.St} {H : Hp} {R : List V → Hp → Prop} (h : tA X es σ H (PostA X.K S QA)) (m : ∀ ds M S' vs H', QA ds M → Same S S' → MO X.K S' M H' → Reps X.K S' vs ds → R vs H') : tA X es σ H R :=
  tA_mono h fun v H' ⟨d, M, S', q, s, mo, r⟩ => m d M S' v H' q s mo r
theorem wa_nil (q : QA [] M) : WA X Γ M [] QA := fun S σ H hΓ hM => tA_of pa_nil ⟨[], M, S, q, .refl _, hM, .nil⟩
theorem wa_cons (h : WE X Γ M e fun d M1 => WA X Γ M1 es fun ds M2 => QA (d :: ds) M2) (hs : starEach (e :: es) X.env = (false, eval e X.env) :: starEach es X.env := by rfl) : WA X Γ M (e :: es) QA := by
  intro S σ H hΓ hM
  refine tA_of (pa_cons pe_c pa_c hs) (tE_post (h S σ H hΓ hM) fun d M1 S1 v H1 q s1 m1 r1 => ?_)
  exact tA_post (q S1 σ H1 (hΓ.mono s1) m1) fun ds M2 S2 vs H2 q2 s2 m2 r2 => ⟨_, M2, S2, q2, s1.trans s2, m2, .cons (r1.mono s2) r2⟩
theorem we_tup {x1} (h : WA X Γ M es fun ds M1 => ds.length ≤ sizeLine ∧ Q (.tup ds) M1) : WE X Γ M (.Tuple es x1 pos) Q := by
  intro S σ H hΓ hM
  refine tE_of (pe_tup pa_c) (tA_post (h S σ H hΓ hM) fun ds M1 S1 vs H1 ⟨hl, q⟩ s1 m1 r1 => ⟨by rw [r1.length]; exact hl, fun p hp => ?_⟩)
  obtain ⟨s2, m2⟩ := m1.laid (o := .tup vs) hp
  exact ⟨_, M1, _, q, s1.trans s2, m2, .tup upd_same (r1.mono s2)⟩
theorem we_lst (h : WA X Γ M es fun ds M1 => ds.length ≤ sizeLine ∧ Q (.lst ds) M1) : WE X Γ M (.List es pos) Q := by
  intro S σ H hΓ hM
  refine tE_of (pe_lst pa_c) (tA_post (h S σ H hΓ hM) fun ds M1 S1 vs H1 ⟨hl, q⟩ s1 m1 r1 => ⟨by rw [r1.length]; exact hl, fun p hp => ?_⟩)
  obtain ⟨s2, m2⟩ := m1.laid (o := .lst vs) hp
  exact ⟨_, M1, _, q, s1.trans s2, m2, .lst upd_same (r1.mono s2)⟩
/-- a list that will be changed -/
theorem we_lstO (h : WA X Γ M es fun ds M1 => ds.length ≤ sizeLine ∧ ∀ p, Q (.ref p) ((p, .lst ds) :: M1)) : WE X Γ M (.List es pos) Q := by
  intro S σ H hΓ hM
  refine tE_of (pe_lst pa_c) (tA_post (h S σ H hΓ hM) fun ds M1 S1 vs H1 ⟨hl, q⟩ s1 m1 r1 => ⟨by rw [r1.length]; exact hl, fun p hp => ?_⟩)
  exact ⟨_, _, S1, q p, s1, m1.alloc hp ⟨vs, upd_same, r1⟩, .ref p⟩
/-- an owned list is owned no more -/
theorem WE.frz (h : WE X Γ M e fun d M1 => (∃ p ds M2, d = .ref p ∧ M1 = (p, .lst ds) :: M2 ∧ Q (.lst ds) M2) ∨ Q d M1) : WE X Γ M e Q := by
  intro S σ H hΓ hM
  refine tE_mono (h S σ H hΓ hM) ?_
  rintro v H' ⟨d, M1, S1, q | q, s1, m1, r1⟩
  · obtain ⟨p, ds, M2, rfl, rfl, q⟩ := q
    obtain ⟨S2, s2, m2, r2⟩ := m1.freeze
    rw [← r1.ref_inv] at r2
    exact ⟨_, M2, S2, q, s1.trans s2, m2, r2⟩
  · exact ⟨d, M1, S1, q, s1, m1, r1⟩
end
end DL

/-! Core3: operators, subscripts, slices, equality, repr, calls. -/
namespace DL
open PySem PySem.Spec PyProof.Rows L2

section
variable {X : Cx} {Γ : VEnv} {M : Mem} {Q : D → Mem → Prop} {x : Str} {pos p apos : Pos} {a b c e : Expr} {es : List Expr} {Ln Vn Bn Fn : List Str}

theorem od_of {f : Value → Value → Sem Value} {da db : D} {r : R2} (ho : OpR X f r) (h : ∀ S H x y, Rep X.K S x da → Rep X.K S y db → MO X.K S M H → r x y H (Post X.K S Q)) : OD X f da db M Q :=
  fun S H x y rx ry m pins s σ v u I rv ru => ho pins s σ H x y v u _ I rv ru (h S H x y rx ry m)

/-! ### ints -/
theorem od_I {f : Value → Value → Sem Value} {C : Int → Int → Prop} {g : Int → Int → V} {g' : Int → Int → D} (ho : OpR X f (rI C g)) (hg : ∀ S i j, Rep X.K S (g i j) (g' i j)) {i j : Int} (hc : C i j) (q : Q (g' i j) M) : OD X f (.int i) (.int j) M Q :=
  od_of ho fun S H x y rx ry m => ⟨i, j, rx.int_inv, ry.int_inv, hc, .of m (hg S i j) q⟩
theorem od_I0 {f : Value → Value → Sem Value} {g : Int → Int → V} {g' : Int → Int → D} (ho : OpR X f (rI0 g)) (hg : ∀ S i j, Rep X.K S (g i j) (g' i j)) {i j : Int} (q : Q (g' i j) M) : OD X f (.int i) (.int j) M Q :=
  od_of ho fun S H x y rx ry m => ⟨i, j, rx.int_inv, ry.int_inv, .of m (hg S i j) q⟩
theorem od_add {i j : Int} (q : Q (.int (i + j)) M) : OD X (binaryOp .Add) (.int i) (.int j) M Q := od_I0 op_add (fun _ _ _ => .int _) q
theorem od_sub {i j : Int} (q : Q (.int (i - j)) M) : OD X (binaryOp .Sub) (.int i) (.int j) M Q := od_I0 op_sub (fun _ _ _ => .int _) q
theorem od_mul {i j : Int} (hc : CMul i j) (q : Q (.int (i * j)) M) : OD X (binaryOp .Mult) (.int i) (.int j) M Q := od_I op_mul (fun _ _ _ => .int _) hc q
theorem od_fdiv {i j : Int} (hc : CDiv i j) (q : Q (.int (i / j)) M) : OD X (binaryOp .FloorDiv) (.int i) (.int j) M Q := od_I op_fdiv (fun _ _ _ => .int _) hc q
theorem od_mod {i j : Int} (hc : 0 < j) (q : Q (.int (i % j)) M) : OD X (binaryOp .Mod) (.int i) (.int j) M Q := od_I op_mod (fun _ _ _ => .int _) hc q
theorem od_pow {i j : Int} (hc : CPow i j) (q : Q (.int (i ^ j.toNat)) M) : OD X (binaryOp .Pow) (.int i) (.int j) M Q := od_I op_pow (fun _ _ _ => .int _) hc q
theorem od_lt {i j : Int} (q : Q (.bl (decide (i < j))) M) : OD X (compareOp .Lt) (.int i) (.int j) M Q := od_I0 op_lt (fun _ _ _ => .bl _) q
theorem od_le {i j : Int} (q : Q (.bl (decide (i ≤ j))) M) : OD X (compareOp .LtE) (.int i) (.int j) M Q := od_I0 op_le (fun _ _ _ => .bl _) q
theorem od_gt {i j : Int} (q : Q (.bl (decide (j < i))) M) : OD X (compareOp .Gt) (.int i) (.int j) M Q := od_I0 op_gt (fun _ _ _ => .bl _) q
theorem od_ge {i j : Int} (q : Q (.bl (decide (j ≤ i))) M) : OD X (compareOp .GtE) (.int i) (.int j) M Q := od_I0 op_ge (fun _ _ _ => .bl _) q
theorem dec_i {i j : Int} : decide (V.int i = V.int j) = decide (i = j) := by rw [dec_int, Bool.beq_eq_decide_eq]
theorem dec_s {i j : Str} : decide (V.str i = V.str j) = decide (i = j) := by rw [dec_str, Bool.beq_eq_decide_eq]
theorem od_eqI {i j : Int} (q : Q (.bl (decide (i = j))) M) : OD X (compareOp .Eq) (.int i) (.int j) M Q :=
  od_of op_eq fun S H x y rx ry m => by rw [rx.int_inv, ry.int_inv]; exact ⟨rfl, by rw [dec_i]; exact .of m (.bl _) q⟩
theorem od_neI {i j : Int} (q : Q (.bl (!decide (i = j))) M) : OD X (compareOp .NotEq) (.int i) (.int j) M Q :=
  od_of op_ne fun S H x y rx ry m => by rw [rx.int_inv, ry.int_inv]; exact ⟨rfl, by rw [dec_i]; exact .of m (.bl _) q⟩
theorem od_eqS {i j : Str} (q : Q (.bl (decide (i = j))) M) : OD X (compareOp .Eq) (.str i) (.str j) M Q :=
  od_of op_eq fun S H x y rx ry m => by rw [rx.str_inv, ry.str_inv]; exact ⟨rfl, by rw [dec_s]; exact .of m (.bl _) q⟩
theorem od_neS {i j : Str} (q : Q (.bl (!decide (i = j))) M) : OD X (compareOp .NotEq) (.str i) (.str j) M Q :=
  od_of op_ne fun S H x y rx ry m => by rw [rx.str_inv, ry.str_inv]; exact ⟨rfl, by rw [dec_s]; exact .of m (.bl _) q⟩
def isNonD : D → Bool
  | .non => true
  | _ => false
theorem isNon_dec {K : PySem.W.Frag} {S : Hp} {v : V} {d : D} (r : Rep K S v d) : decide (v = V.non) = isNonD d := by
  cases r <;> first | rfl | exact decide_eq_false (fun q => nomatch q)
theorem od_isN {d : D} (q : Q (.bl (isNonD d)) M) : OD X (compareOp .Is) d .non M Q :=
  od_of op_isN fun S H x y rx ry m => ⟨ry.non_inv, by rw [isNon_dec rx]; exact .of m (.bl _) q⟩
theorem od_notN {d : D} (q : Q (.bl (!isNonD d)) M) : OD X (compareOp .IsNot) d .non M Q :=
  od_of op_notN fun S H x y rx ry m => ⟨ry.non_inv, by rw [isNon_dec rx]; exact .of m (.bl _) q⟩
theorem od_addS {i j : Str} (hl : i.length + j.length ≤ sizeLine) (q : Q (.str (i ++ j)) M) : OD X (binaryOp .Add) (.str i) (.str j) M Q :=
  od_of op_add_str fun S H x y rx ry m => ⟨i, j, rx.str_inv, ry.str_inv, hl, .of m (.str _) q⟩

/-! ### lists and tuples -/
theorem post_lst {K : PySem.W.Frag} {S H : Hp} {xs : List V} {ds : List D} (m : MO K S M H) (r : Reps K S xs ds) (q : Q (.lst ds) M) : ∀ p, H p = none → Post K S Q (.ref p) (upd H p (.lst xs)) := fun p hp => by
  obtain ⟨s2, m2⟩ := m.laid (o := .lst xs) hp
  exact ⟨_, M, _, q, s2, m2, .lst upd_same (r.mono s2)⟩
theorem post_tup {K : PySem.W.Frag} {S H : Hp} {xs : List V} {ds : List D} (m : MO K S M H) (r : Reps K S xs ds) (q : Q (.tup ds) M) : ∀ p, H p = none → Post K S Q (.ref p) (upd H p (.tup xs)) := fun p hp => by
  obtain ⟨s2, m2⟩ := m.laid (o := .tup xs) hp
  exact ⟨_, M, _, q, s2, m2, .tup upd_same (r.mono s2)⟩
theorem post_own {K : PySem.W.Frag} {S H : Hp} {xs : List V} {ds : List D} (m : MO K S M H) (r : Reps K S xs ds) (q : ∀ p, Q (.ref p) ((p, .lst ds) :: M)) : ∀ p, H p = none → Post K S Q (.ref p) (upd H p (.lst xs)) := fun p hp =>
  ⟨_, _, S, q p, .refl _, m.alloc hp ⟨xs, upd_same, r⟩, .ref p⟩
theorem od_cat {da db : D} {xs ys : List D} (ha : IsL M da xs) (hb : IsL M db ys) (hl : xs.length + ys.length ≤ sizeLine) (q : Q (.lst (xs ++ ys)) M) : OD X (binaryOp .Add) da db M Q :=
  od_of op_cat fun S H x y rx ry m => by
    obtain ⟨pa, us, rfl, h1, r1⟩ := ha.get m rx
    obtain ⟨pb, ws, rfl, h2, r2⟩ := hb.get m ry
    exact ⟨pa, pb, us, ws, rfl, rfl, h1, h2, by rw [r1.length, r2.length]; exact hl, post_lst m (r1.append r2) q⟩
theorem od_catO {da db : D} {xs ys : List D} (ha : IsL M da xs) (hb : IsL M db ys) (hl : xs.length + ys.length ≤ sizeLine) (q : ∀ p, Q (.ref p) ((p, .lst (xs ++ ys)) :: M)) : OD X (binaryOp .Add) da db M Q :=
  od_of op_cat fun S H x y rx ry m => by
    obtain ⟨pa, us, rfl, h1, r1⟩ := ha.get m rx
    obtain ⟨pb, ws, rfl, h2, r2⟩ := hb.get m ry
    exact ⟨pa, pb, us, ws, rfl, rfl, h1, h2, by rw [r1.length, r2.length]; exact hl, post_own m (r1.append r2) q⟩
theorem od_catT {xs ys : List D} (hl : xs.length + ys.length ≤ sizeLine) (q : Q (.tup (xs ++ ys)) M) : OD X (binaryOp .Add) (.tup xs) (.tup ys) M Q :=
  od_of op_catA fun S H x y rx ry m => by
    obtain ⟨pa, us, rfl, h1, r1⟩ := Rep.tup_inv rx
    obtain ⟨pb, ws, rfl, h2, r2⟩ := Rep.tup_inv ry
    refine ⟨pa, pb, us, ws, rfl, rfl, .of (m.sub _ _ h1), .of (m.sub _ _ h2), by rw [r1.length, r2.length]; exact hl, fun e => ?_, fun _ e => ?_, fun _ _ => post_tup m (r1.append r2) q⟩
    · subst e
      cases r1
      exact .of m (.tup h2 r2) q
    · subst e
      cases r2
      rw [List.append_nil] at q
      exact .of m (.tup h1 r1) q
theorem reps_rep {K : PySem.W.Frag} {S : Hp} {xs : List V} {ds : List D} (r : Reps K S xs ds) : ∀ n : Nat, Reps K S (List.replicate n xs).flatten (List.replicate n ds).flatten
  | 0 => .nil
  | n + 1 => by
    rw [List.replicate_succ, List.replicate_succ, List.flatten_cons, List.flatten_cons]
    exact r.append (reps_rep r n)
theorem od_rep {da : D} {xs : List D} {k : Int} (ha : IsL M da xs) (hk : 0 ≤ k ∧ k ≤ 1000000) (hl : xs.length * k.toNat ≤ sizeLine) (q : Q (.lst (List.replicate k.toNat xs).flatten) M) : OD X (binaryOp .Mult) da (.int k) M Q :=
  od_of op_rep fun S H x y rx ry m => by
    obtain ⟨pa, us, rfl, h1, r1⟩ := ha.get m rx
    exact ⟨pa, k, us, rfl, ry.int_inv, h1, by omega, by omega, by rw [r1.length]; exact hl, post_lst m (reps_rep r1 _) q⟩
theorem od_repO {da : D} {xs : List D} {k : Int} (ha : IsL M da xs) (hk : 0 ≤ k ∧ k ≤ 1000000) (hl : xs.length * k.toNat ≤ sizeLine) (q : ∀ p, Q (.ref p) ((p, .lst (List.replicate k.toNat xs).flatten) :: M)) : OD X (binaryOp .Mult) da (.int k) M Q :=
  od_of op_rep fun S H x y rx ry m => by
    obtain ⟨pa, us, rfl, h1, r1⟩ := ha.get m rx
    exact ⟨pa, k, us, rfl, ry.int_inv, h1, by omega, by omega, by rw [r1.length]; exact hl, post_own m (reps_rep r1 _) q⟩

/-! ### in, of ints and of texts -/
theorem inV_ints {i : Int} {ns : List Int} : inV (.int i) (ns.map V.int) = decide (i ∈ ns) := by
  unfold inV
  rw [List.any_map, Bool.eq_iff_iff]
  simp only [List.any_eq_true, decide_eq_true_eq, Function.comp_apply]
  constructor
  · rintro ⟨y, hy, e⟩
    have e' : y = i := by simpa [eqV] using e
    exact e' ▸ hy
  · exact fun h => ⟨i, h, by simp [eqV]⟩
theorem inV_strs {i : Str} {ns : List Str} : inV (.str i) (ns.map V.str) = decide (i ∈ ns) := by
  unfold inV
  rw [List.any_map, Bool.eq_iff_iff]
  simp only [List.any_eq_true, decide_eq_true_eq, Function.comp_apply]
  constructor
  · rintro ⟨y, hy, e⟩
    have e' : y = i := by simpa [eqV] using e
    exact e' ▸ hy
  · exact fun h => ⟨i, h, by simp [eqV]⟩
theorem flat_ints (ns : List Int) : (ns.map V.int).all flatV = true := by rw [List.all_map]; exact List.all_eq_true.mpr fun _ _ => rfl
theorem flat_strs (ns : List Str) : (ns.map V.str).all flatV = true := by rw [List.all_map]; exact List.all_eq_true.mpr fun _ _ => rfl
theorem od_inI {i : Int} {d : D} {ns : List Int} (h : IsR M d (ns.map D.int) ∨ d = .tup (ns.map D.int)) (q : Q (.bl (decide (i ∈ ns))) M) : OD X (compareOp .In) (.int i) d M Q :=
  od_of op_in_seq fun S H x y rx ry m => by
    rw [rx.int_inv]
    have fin : Post X.K S Q (.bl (if false = true then !inV (.int i) (ns.map V.int) else inV (.int i) (ns.map V.int))) H := by
      rw [if_neg Bool.false_ne_true, inV_ints]; exact .of m (.bl _) q
    rcases h with h | rfl
    · obtain ⟨pb, ws, rfl, h2, r2⟩ := h.get m ry
      rw [r2.ints_inv] at h2
      exact ⟨pb, _, rfl, .inl h2, rfl, flat_ints ns, fin⟩
    · obtain ⟨pb, ws, rfl, h2, r2⟩ := Rep.tup_get m ry
      rw [r2.ints_inv] at h2
      exact ⟨pb, _, rfl, .inr (.of h2), rfl, flat_ints ns, fin⟩
theorem od_notInI {i : Int} {d : D} {ns : List Int} (h : IsR M d (ns.map D.int) ∨ d = .tup (ns.map D.int)) (q : Q (.bl (!decide (i ∈ ns))) M) : OD X (compareOp .NotIn) (.int i) d M Q :=
  od_of op_notIn_seq fun S H x y rx ry m => by
    rw [rx.int_inv]
    have fin : Post X.K S Q (.bl (if true = true then !inV (.int i) (ns.map V.int) else inV (.int i) (ns.map V.int))) H := by
      rw [if_pos rfl, inV_ints]; exact .of m (.bl _) q
    rcases h with h | rfl
    · obtain ⟨pb, ws, rfl, h2, r2⟩ := h.get m ry
      rw [r2.ints_inv] at h2
      exact ⟨pb, _, rfl, .inl h2, rfl, flat_ints ns, fin⟩
    · obtain ⟨pb, ws, rfl, h2, r2⟩ := Rep.tup_get m ry
      rw [r2.ints_inv] at h2
      exact ⟨pb, _, rfl, .inr (.of h2), rfl, flat_ints ns, fin⟩
theorem od_inS {i : Str} {d : D} {ns : List Str} (h : IsR M d (ns.map D.str) ∨ d = .tup (ns.map D.str)) (q : Q (.bl (decide (i ∈ ns))) M) : OD X (compareOp .In) (.str i) d M Q :=
  od_of op_in_seq fun S H x y rx ry m => by
    rw [rx.str_inv]
    have fin : Post X.K S Q (.bl (if false = true then !inV (.str i) (ns.map V.str) else inV (.str i) (ns.map V.str))) H := by
      rw [if_neg Bool.false_ne_true, inV_strs]; exact .of m (.bl _) q
    rcases h with h | rfl
    · obtain ⟨pb, ws, rfl, h2, r2⟩ := h.get m ry
      rw [r2.strs_inv] at h2
      exact ⟨pb, _, rfl, .inl h2, rfl, flat_strs ns, fin⟩
    · obtain ⟨pb, ws, rfl, h2, r2⟩ := Rep.tup_get m ry
      rw [r2.strs_inv] at h2
      exact ⟨pb, _, rfl, .inr (.of h2), rfl, flat_strs ns, fin⟩
theorem od_notInS {i : Str} {d : D} {ns : List Str} (h : IsR M d (ns.map D.str) ∨ d = .tup (ns.map D.str)) (q : Q (.bl (!decide (i ∈ ns))) M) : OD X (compareOp .NotIn) (.str i) d M Q :=
  od_of op_notIn_seq fun S H x y rx ry m => by
    rw [rx.str_inv]
    have fin : Post X.K S Q (.bl (if true = true then !inV (.str i) (ns.map V.str) else inV (.str i) (ns.map V.str))) H := by
      rw [if_pos rfl, inV_strs]; exact .of m (.bl _) q
    rcases h with h | rfl
    · obtain ⟨pb, ws, rfl, h2, r2⟩ := h.get m ry
      rw [r2.strs_inv] at h2
      exact ⟨pb, _, rfl, .inl h2, rfl, flat_strs ns, fin⟩
    · obtain ⟨pb, ws, rfl, h2, r2⟩ := Rep.tup_get m ry
      rw [r2.strs_inv] at h2
      exact ⟨pb, _, rfl, .inr (.of h2), rfl, flat_strs ns, fin⟩

/-! ### data of any depth -/
mutual
inductive Py (M : Mem) : D → PyData → Prop
  | non : Py M .non .none
  | bl (b : Bool) : Py M (.bl b) (.bool b)
  | int (i : Int) : Py M (.int i) (.int i)
  | str (x : Str) : Py M (.str x) (.str x)
  | lst {ds : List D} {ps : List PyData} : Pys M ds ps → Py M (.lst ds) (.list ps)
  | slst {ds : List D} {ps : List PyData} : Pys M ds ps → Py M (.slst ds) (.list ps)
  | tup {ds : List D} {ps : List PyData} : Pys M ds ps → Py M (.tup ds) (.tuple ps)
  | ref {a : Addr} {ds : List D} {ps : List PyData} {f : Cell → Mem} : At a M (.lst ds) f → Pys M ds ps → Py M (.ref a) (.list ps)
inductive Pys (M : Mem) : List D → List PyData → Prop
  | nil : Pys M [] []
  | cons {d : D} {ds : List D} {p : PyData} {ps : List PyData} : Py M d p → Pys M ds ps → Pys M (d :: ds) (p :: ps)
end
mutual
theorem Py.dp {K : PySem.W.Frag} {S H : Hp} (m : MO K S M H) : ∀ {d : D} {p : PyData} {v : V}, Py M d p → Rep K S v d → Dp K H v p
  | _, _, _, .non, r => by cases r; exact .non
  | _, _, _, .bl b, r => by cases r; exact .bl b
  | _, _, _, .int i, r => by cases r; exact .int i
  | _, _, _, .str x, r => by cases r; exact .str x
  | _, _, _, .lst h, r => by
    obtain ⟨a, xs, rfl, e, rs⟩ := r.lst_inv
    exact .lst (.of (m.sub _ _ e)) (Pys.dp m h rs)
  | _, _, _, .slst h, r => by
    obtain ⟨a, xs, rfl, e, rs⟩ := r.slst_inv
    exact .lst (m.sub.seq e) (Pys.dp m h rs)
  | _, _, _, .tup h, r => by
    obtain ⟨a, xs, rfl, e, rs⟩ := r.tup_inv
    exact .tup (.of (m.sub _ _ e)) (Pys.dp m h rs)
  | _, _, _, .ref g h, r => by
    obtain ⟨xs, e, rs⟩ := m.at_ok g
    rw [r.ref_inv]
    exact .lst (.of e) (Pys.dp m h rs)
theorem Pys.dp {K : PySem.W.Frag} {S H : Hp} (m : MO K S M H) : ∀ {ds : List D} {ps : List PyData} {vs : List V}, Pys M ds ps → Reps K S vs ds → DpAll K H vs ps
  | _, _, _, .nil, r => by cases r; exact .nil
  | _, _, _, .cons h t, .cons r rs => .cons (Py.dp m h r) (Pys.dp m t rs)
end
theorem Pys.of_map {α : Type} {f : α → D} {g : α → PyData} {l : List α} (h : ∀ a ∈ l, Py M (f a) (g a)) : Pys M (l.map f) (l.map g) := by
  induction l with
  | nil => exact .nil
  | cons a l ih => exact .cons (h a List.mem_cons_self) (ih fun b hb => h b (List.mem_cons_of_mem _ hb))
theorem Pys.append {ds es : List D} {ps qs : List PyData} (h : Pys M ds ps) (g : Pys M es qs) : Pys M (ds ++ es) (ps ++ qs) := by
  induction ds generalizing ps with
  | nil => cases h; exact g
  | cons d ds ih =>
    cases h with
    | cons a b => exact .cons a (ih b)
theorem od_eqP {d e : D} {p q : PyData} (st : Stat X Ln Vn Bn Fn) (h1 : Py M d p) (h2 : Py M e q) (s1 : SeqAt.shaped p = true) (s2 : SeqAt.shaped q = true) (k : Q (.bl (PyData.eqv p q)) M) : OD X (compareOp .Eq) d e M Q :=
  od_of (op_eqD (by have := st.hu; omega)) fun S H x y rx ry m => ⟨p, q, h1.dp m rx, h2.dp m ry, s1, s2, .of m (.bl _) k⟩
theorem od_neP {d e : D} {p q : PyData} (st : Stat X Ln Vn Bn Fn) (h1 : Py M d p) (h2 : Py M e q) (s1 : SeqAt.shaped p = true) (s2 : SeqAt.shaped q = true) (k : Q (.bl (!PyData.eqv p q)) M) : OD X (compareOp .NotEq) d e M Q :=
  od_of (op_neD (by have := st.hu; omega)) fun S H x y rx ry m => ⟨p, q, h1.dp m rx, h2.dp m ry, s1, s2, .of m (.bl _) k⟩
theorem od_inP {d e : D} {p : PyData} {qs : List PyData} (st : Stat X Ln Vn Bn Fn) (h1 : Py M d p) (h2 : Py M e (.list qs)) (s1 : SeqAt.shaped p = true) (s2 : SeqAt.shaped (.list qs) = true) (k : Q (.bl (qs.any fun z => PyData.eqv z p)) M) : OD X (compareOp .In) d e M Q :=
  od_of (op_inD (by have := st.hu; omega)) fun S H x y rx ry m => ⟨p, qs, h1.dp m rx, h2.dp m ry, s1, s2, .of m (.bl _) k⟩
theorem od_notInP {d e : D} {p : PyData} {qs : List PyData} (st : Stat X Ln Vn Bn Fn) (h1 : Py M d p) (h2 : Py M e (.list qs)) (s1 : SeqAt.shaped p = true) (s2 : SeqAt.shaped (.list qs) = true) (k : Q (.bl (!qs.any fun z => PyData.eqv z p)) M) : OD X (compareOp .NotIn) d e M Q :=
  od_of (op_notInD (by have := st.hu; omega)) fun S H x y rx ry m => ⟨p, qs, h1.dp m rx, h2.dp m ry, s1, s2, .of m (.bl _) k⟩

/-! ### subscripts -/
theorem atI_rep {K : PySem.W.Frag} {S : Hp} {xs : List V} {ds : List D} {i : Int} {d : D} (r : Reps K S xs ds) (h : atI ds i = some d) : ∃ v, atI xs i = some v ∧ Rep K S v d := by
  unfold atI at h ⊢
  rw [r.length]
  cases e : ixN ds.length i with
  | none => rw [e] at h; cases h
  | some j =>
    rw [e] at h
    exact r.get h
theorem atI_ofNat {α : Type} {xs : List α} {i : Int} {d : α} (h0 : 0 ≤ i) (h : xs[i.toNat]? = some d) : atI xs i = some d := by
  have e := atI_nat h
  rw [Int.toNat_of_nonneg h0] at e
  exact e
/-- d[i] of a list, a tuple, a text -/
def IxD (M : Mem) (d : D) (i : Int) (r : D) : Prop := (∃ ds, (IsR M d ds ∨ d = .tup ds) ∧ atI ds i = some r) ∨ ∃ (z : Str) (c : Nat), d = .str z ∧ z.length ≤ sizeLine ∧ atI z.cps.toList i = some c ∧ r = .str ⟨#[c]⟩
theorem we_ix (h : WE X Γ M a fun da M1 => WE X Γ M1 b fun db M2 => ∃ i r, db = .int i ∧ IxD M2 da i r ∧ Q r M2) (hs : PlainIx b := by exact fun _ _ => rfl) : WE X Γ M (.Subscript a b pos) Q := by
  intro S σ H hΓ hM
  refine tE_of (pe_ix ix_seq pe_c pe_c hs) (two hΓ hM h fun x y H2 S2 da db M2 s m rx ry q => ?_)
  obtain ⟨i, r, rfl, hi, q⟩ := q
  rcases hi with ⟨ds, hd | rfl, he⟩ | ⟨z, c, rfl, hz, he, rfl⟩
  · obtain ⟨pa, us, rfl, h1, r1⟩ := hd.get m rx
    obtain ⟨v, hv, rv⟩ := atI_rep r1 he
    exact .inl ⟨pa, us, i, v, rfl, ry.int_inv, h1, hv, r, M2, S2, q, s, m, rv⟩
  · obtain ⟨pa, us, rfl, h1, r1⟩ := Rep.tup_get m rx
    obtain ⟨v, hv, rv⟩ := atI_rep r1 he
    exact .inr (.inl ⟨pa, us, i, v, rfl, ry.int_inv, .of h1, hv, r, M2, S2, q, s, m, rv⟩)
  · exact .inr (.inr ⟨z, i, c, rx.str_inv, ry.int_inv, hz, he, _, M2, S2, q, s, m, .str _⟩)

end
end DL

/-! Core4: slices, calls of defs and built-ins, methods, dicts. -/
namespace DL
open PySem PySem.Spec PyProof.Rows L2

section
variable {X : Cx} {Γ : VEnv} {M : Mem} {Q : D → Mem → Prop} {QB : Bool → Mem → Prop} {x : Str} {pos p p2 apos : Pos} {a b c e o : Expr} {es : List Expr} {Ln Vn Bn Fn : List Str}

/-! ### slices -/
def cutD {α : Type} (xs : List α) (lo hi : Option Int) : List α := (xs.drop (HT.sIx xs.length 0 lo)).take (HT.sIx xs.length xs.length hi - HT.sIx xs.length 0 lo)
theorem cut_rep {K : PySem.W.Frag} {S : Hp} {xs : List V} {ds : List D} (r : Reps K S xs ds) (lo hi : Option Int) : Reps K S (cutV xs lo hi) (cutD ds lo hi) := by
  unfold cutV cutD
  rw [r.length]
  exact (r.drop _).take _
def SlD (M : Mem) (d : D) (lo hi : Option Int) (r : D) : Prop := (∃ ds, IsR M d ds ∧ r = .lst (cutD ds lo hi)) ∨ (∃ ds, d = .tup ds ∧ r = .tup (cutD ds lo hi)) ∨ ∃ z : Str, d = .str z ∧ z.length ≤ sizeLine ∧ r = .str (cutS z lo hi)
def WO (X : Cx) (Γ : VEnv) (M : Mem) : Option Expr → (Option Int → Mem → Prop) → Prop
  | none, Q => Q none M
  | some e, Q => WE X Γ M e fun d M1 => ∃ i, d = .int i ∧ Q (some i) M1
def tO (X : Cx) : Option Expr → TO
  | none => tNoPart
  | some e => tPart (tE X e)
theorem po_c : ∀ o : Option Expr, PO X o (tO X o)
  | none => po_none
  | some _ => po_some pe_c
theorem tO_post {S : Hp} {σ : L2.St} {H : Hp} {R : Option Int → Hp → Prop} {QO : Option Int → Mem → Prop} : ∀ {o : Option Expr}, WO X Γ M o QO → SR X S σ Γ → MO X.K S M H → (∀ i M' S' H', QO i M' → Same S S' → MO X.K S' M' H' → R i H') → tO X o σ H R
  | none, h, hΓ, hM, m => m none M S H h (.refl _) hM
  | some e, h, hΓ, hM, m => tE_post (h S σ H hΓ hM) fun d M1 S1 v H1 ⟨i, ed, q⟩ s1 m1 r1 => ⟨i, by subst ed; exact r1.int_inv, m _ _ _ _ q s1 m1⟩
theorem we_slice {lo hi : Option Expr} (h : WE X Γ M e fun d M1 => WO X Γ M1 lo fun l M2 => WO X Γ M2 hi fun u M3 => ∃ r, SlD M3 d l u r ∧ Q r M3) : WE X Γ M (.Subscript e (.Slice lo hi none p2) pos) Q := by
  intro S σ H hΓ hM
  refine tE_of (pe_slice (SlR.or sl_list (SlR.or sl_tupA sl_str)) pe_c (po_c lo) (po_c hi)) ?_
  refine tE_post (h S σ H hΓ hM) fun d M1 S1 x H1 q1 s1 m1 r1 => ?_
  refine tO_post q1 (hΓ.mono s1) m1 fun l M2 S2 H2 q2 s2 m2 => ?_
  refine tO_post q2 ((hΓ.mono s1).mono s2) m2 fun u M3 S3 H3 q3 s3 m3 => ?_
  obtain ⟨r, hr, q⟩ := q3
  have rx := (r1.mono s2).mono s3
  have s13 := (s1.trans s2).trans s3
  rcases hr with ⟨ds, hd, rfl⟩ | ⟨ds, rfl, rfl⟩ | ⟨z, rfl, hz, rfl⟩
  · obtain ⟨pa, us, rfl, h1, r1⟩ := hd.get m3 rx
    exact .inl ⟨pa, us, rfl, h1, fun p hp => (post_lst m3 (cut_rep r1 l u) q p hp).weak s13⟩
  · obtain ⟨pa, us, rfl, h1, r1⟩ := Rep.tup_inv rx
    refine .inr (.inl ⟨pa, us, rfl, .of (m3.sub _ _ h1), fun e => ?_, fun _ p hp => (post_tup m3 (cut_rep r1 l u) q p hp).weak s13⟩)
    have e2 : cutV us l u = us := by unfold cutV; rw [e.1, e.2, List.drop_zero, Nat.sub_zero, List.take_length]
    have r2 := cut_rep r1 l u
    rw [e2] at r2
    exact ⟨_, M3, S3, q, s13, m3, .tup h1 r2⟩
  · exact .inr (.inr ⟨z, rx.str_inv, hz, _, M3, S3, q, s13, m3, .str _⟩)
theorem cutD_from {α : Type} (xs : List α) (k : Nat) : cutD xs (some (k : Int)) none = xs.drop k := by
  unfold cutD
  rw [HT.sIx_none, HT.sIx_nat, ← List.length_drop, List.take_length]
  by_cases h : k ≤ xs.length
  · rw [Nat.min_eq_left h]
  · rw [Nat.min_eq_right (by omega), List.drop_length, List.drop_eq_nil_of_le (by omega)]
theorem cutD_to {α : Type} (xs : List α) (k : Nat) : cutD xs none (some (k : Int)) = xs.take k := by
  unfold cutD
  rw [HT.sIx_none, HT.sIx_nat, List.drop_zero, Nat.sub_zero]
  by_cases h : k ≤ xs.length
  · rw [Nat.min_eq_left h]
  · rw [Nat.min_eq_right (by omega), List.take_length, List.take_of_length_le (by omega)]

/-! ### calls of what the text defines -/
/-- what a def does with values by depth: from arguments and memory what must hold so that Q holds behind it -/
abbrev DSp := List D → Mem → (D → Mem → Prop) → Prop
def spD (K : PySem.W.Frag) (n : Nat) (G : DSp) : Sp := fun vs H R _ => vs.length = n ∧ ∃ S M ds Q, MO K S M H ∧ Reps K S vs ds ∧ G ds M Q ∧ ∀ v H', Post K S Q v H' → R v H'
/-- a def's promise where nothing is being shown (repr) -/
structure GOk (P : Program) (w : World) (K : PySem.W.Frag) (mg : Str → Option Value) (base : Heap) (k : Nat) (f : Addr) (fd : FuncData) (ps : List Str) (sp : Sp) : Prop where
  len : ∀ vs H Q E, sp vs H Q E → vs.length = ps.length
  run : ∀ (A : Around), A.guards = some [] → ∀ (outer : List Env) (s : Shared) (H : Hp) (args : Args) (us : List Value) (vs : List V) (Q : VK) (E : XK),
    Room k A → Env0 P w K mg base A outer s H → BindsTo s fd args (ps.zip us) → Vals vs us → sp vs H Q E → codeAny (model P w) A (.call (.ref f) args) (CR CX0 outer P w H s Q E) s
/-- the name x stands for a def of n parameters that promises G, by at most level k -/
structure Fs (P : Program) (w : World) (K : PySem.W.Frag) (mg : Str → Option Value) (base : Heap) (k : Nat) (x : Str) (n : Nat) (G : DSp) : Prop where
  ex : ∃ (f : Addr) (fd : FuncData) (ps : List Str), mg x = some (.ref f) ∧ PySem.W.keepIn K (.ref f) = true ∧ Binds K fd ps [] ∧ ps.length = n ∧ GOk P w K mg base k f fd ps (spD K n G)
theorem run_g {pins : List (Addr × Obj)} {σ : L2.St} {H : Hp} {s : Shared} {R : VK} {us : List Value} {vs : List V} {k : Nat} {f : Addr} {fd : FuncData} {ps : List Str} {sp : Sp} (G : GOk X.prog X.w X.K X.mg X.base k f fd ps sp) (gd : X.A.guards = some [])
    (hr : Room k X.A) (hb : Binds X.K fd ps []) (I : Inv X pins σ H s) (r : Vals vs us) (h : sp vs H R E0) : wpAny (model X.prog X.w) X.A (call (.ref f) us) (EP X pins σ R) X.xe s := by
  have hl : (us ++ []).length = ps.length := by rw [List.append_nil, ← r.length]; exact G.len _ _ _ _ h
  have hbb := hb s us I.kIn hl
  rw [List.append_nil] at hbb
  refine wpAny_call (codeAny_mono (G.run X.A gd X.stack s H ⟨us, []⟩ us vs R E0 hr I.env0 hbb r h) fun r s' hq => ?_)
  cases r with
  | error e => exact False.elim hq
  | ok fl =>
    cases fl <;> first | exact I.after hq | exact False.elim hq
theorem we_call {k n : Nat} {G : DSp} (h : Fs X.prog X.w X.K X.mg X.base k x n G) (hr : Room k X.A) (st : Stat X Ln Vn Bn Fn) (hx : x ∈ Fn) (ha : WA X Γ M (e :: es) fun ds M1 => ds.length = n ∧ G ds M1 Q)
    (he : starEach (e :: es) X.env = (false, eval e X.env) :: starEach es X.env := by rfl) (hpl : (backTo pos (starEach es X.env)).any (·.1) = false := by rfl) : WE X Γ M (.Call (.Name x p) (e :: es) [] pos) Q := by
  obtain ⟨f, fd, ps, hm, hk, hb, hn, Gk⟩ := h.ex
  intro S σ H hΓ hM
  intro pins s I
  refine wpAny_Call_Name_kw (ld_glob I (st.gfn x hx).1 hm ?_ (st.gfn x hx).2)
  refine PySem.W.callWith_K (first := []) (h₀ := X.base) I.ok.mod.kin hk (thn (ha S σ H hΓ hM pos pins s I) ?_) he hpl
  rintro us s1 ⟨vs, H1, I1, r, ds, M1, S1, ⟨hl, q⟩, s01, m1, r1⟩
  exact ⟨I1.kIn, run_g Gk st.gd hr hb I1 r ⟨by rw [r1.length]; exact hl, S1, M1, ds, Q, m1, r1, q, fun v H' z => z.weak s01⟩⟩
theorem we_call0 {k : Nat} {G : DSp} (h : Fs X.prog X.w X.K X.mg X.base k x 0 G) (hr : Room k X.A) (st : Stat X Ln Vn Bn Fn) (hx : x ∈ Fn) (q : G [] M Q) : WE X Γ M (.Call (.Name x p) [] [] pos) Q := by
  obtain ⟨f, fd, ps, hm, hk, hb, hn, Gk⟩ := h.ex
  intro S σ H hΓ hM
  intro pins s I
  refine wpAny_Call_Name_kw (ld_glob I (st.gfn x hx).1 hm ?_ (st.gfn x hx).2)
  exact PySem.W.callWith_K0 (first := []) I.kIn hk (run_g Gk st.gd hr hb I .nil ⟨rfl, S, M, [], Q, hM, .nil, q, fun v H' z => z⟩)

/-! ### calls of built-ins -/
def CD (X : Cx) (f : Value) (ds : List D) (M : Mem) (Q : D → Mem → Prop) : Prop := ∀ S H xs, Reps X.K S xs ds → MO X.K S M H → ∃ r, CallR X f r ∧ r xs H (Post X.K S Q)
theorem cd_of {f : Value} {ds : List D} {r : List V → Hp → VK → Prop} (hc : CallR X f r) (h : ∀ S H xs, Reps X.K S xs ds → MO X.K S M H → r xs H (Post X.K S Q)) : CD X f ds M Q := fun S H xs rx m => ⟨r, hc, h S H xs rx m⟩
def rCd (X : Cx) (f : Value) : List V → Hp → VK → Prop := fun xs H R => ∃ r, CallR X f r ∧ r xs H R
theorem cr_c {f : Value} : CallR X f (rCd X f) := fun pins s σ H xs us Q I rx ⟨r, hc, q⟩ => hc pins s σ H xs us Q I rx q
theorem we_blt {id : String} (st : Stat X Ln Vn Bn Fn) (hx : x ∈ Bn) (hv : bootBuiltins x = some (.builtin id)) (ha : WA X Γ M (e :: es) fun ds M1 => CD X (.builtin id) ds M1 Q) (he : starEach (e :: es) X.env = (false, eval e X.env) :: starEach es X.env := by rfl)
    (hpl : (backTo pos (starEach es X.env)).any (·.1) = false := by rfl) : WE X Γ M (.Call (.Name x p) (e :: es) [] pos) Q := by
  intro S σ H hΓ hM
  obtain ⟨g1, g2, g3, g4⟩ := st.blt x hx
  exact tE_of (pe_callB cr_c g1 g2 hv pa_c g3 g4 he hpl) (tA_post (ha S σ H hΓ hM) fun ds M1 S1 vs H1 q s1 m1 r1 => let ⟨r, hc, q⟩ := q S1 H1 vs r1 m1; ⟨fun xs H R => R = Post X.K S Q ∧ r xs H (Post X.K S1 Q), fun pins s σ H xs us R I rx ⟨eR, z⟩ => by
    subst eR
    exact thn (hc pins s σ H xs us _ I rx z) fun _ _ ⟨v, H', I', rv, q⟩ => ⟨v, H', I', rv, Post.weak q s1⟩, rfl, q⟩)
theorem we_bty {T : String} (st : Stat X Ln Vn Bn Fn) (hx : x ∈ Bn) (hv : bootBuiltins x = some (.type T)) (ha : WA X Γ M (e :: es) fun ds M1 => CD X (.type T) ds M1 Q) (he : starEach (e :: es) X.env = (false, eval e X.env) :: starEach es X.env := by rfl)
    (hpl : (backTo pos (starEach es X.env)).any (·.1) = false := by rfl) : WE X Γ M (.Call (.Name x p) (e :: es) [] pos) Q := by
  intro S σ H hΓ hM
  obtain ⟨g1, g2, g3, g4⟩ := st.blt x hx
  exact tE_of (pe_callTy cr_c g1 g2 hv pa_c g3 g4 he hpl) (tA_post (ha S σ H hΓ hM) fun ds M1 S1 vs H1 q s1 m1 r1 => let ⟨r, hc, q⟩ := q S1 H1 vs r1 m1; ⟨fun xs H R => R = Post X.K S Q ∧ r xs H (Post X.K S1 Q), fun pins s σ H xs us R I rx ⟨eR, z⟩ => by
    subst eR
    exact thn (hc pins s σ H xs us _ I rx z) fun _ _ ⟨v, H', I', rv, q⟩ => ⟨v, H', I', rv, Post.weak q s1⟩, rfl, q⟩)
theorem reps_one {K : PySem.W.Frag} {S : Hp} {xs : List V} {d : D} (r : Reps K S xs [d]) : ∃ v, xs = [v] ∧ Rep K S v d := by
  cases r with
  | cons h t => cases t; exact ⟨_, rfl, h⟩
theorem reps_two {K : PySem.W.Frag} {S : Hp} {xs : List V} {d1 d2 : D} (r : Reps K S xs [d1, d2]) : ∃ v w, xs = [v, w] ∧ Rep K S v d1 ∧ Rep K S w d2 := by
  cases r with
  | cons h t => obtain ⟨w, rfl, hw⟩ := reps_one t; exact ⟨_, _, rfl, h, hw⟩
theorem cd_len {d : D} {ds : List D} (h : IsR M d ds ∨ d = .tup ds) (q : Q (.int ds.length) M) : CD X (.builtin "len") [d] M Q := cd_of call_len_seq fun S H xs rx m => by
  obtain ⟨v, rfl, rv⟩ := reps_one rx
  rcases h with h | rfl
  · obtain ⟨pa, us, rfl, h1, r1⟩ := h.get m rv
    exact ⟨pa, us, rfl, .inl h1, by rw [r1.length]; exact .of m (.int _) q⟩
  · obtain ⟨pa, us, rfl, h1, r1⟩ := Rep.tup_get m rv
    exact ⟨pa, us, rfl, .inr (.of h1), by rw [r1.length]; exact .of m (.int _) q⟩
theorem cd_lenS {z : Str} (hz : z.length ≤ sizeLine) (q : Q (.int z.length) M) : CD X (.builtin "len") [.str z] M Q := cd_of call_len_str fun S H xs rx m => by
  obtain ⟨v, rfl, rv⟩ := reps_one rx
  exact ⟨z, by rw [rv.str_inv], hz, .of m (.int _) q⟩
theorem cd_abs {i : Int} (q : Q (.int (if i < 0 then -i else i)) M) : CD X (.builtin "abs") [.int i] M Q := cd_of call_abs fun S H xs rx m => by
  obtain ⟨v, rfl, rv⟩ := reps_one rx
  exact ⟨i, by rw [rv.int_inv], .of m (.int _) q⟩
theorem cd_max {i j : Int} (st : Stat X Ln Vn Bn Fn) (q : Q (.int (if j > i then j else i)) M) : CD X (.builtin "max") [.int i, .int j] M Q := cd_of (call_max2 st.calm) fun S H xs rx m => by
  obtain ⟨v, w, rfl, rv, rw'⟩ := reps_two rx
  exact ⟨i, j, by rw [rv.int_inv, rw'.int_inv], .of m (.int _) q⟩
theorem cd_min {i j : Int} (st : Stat X Ln Vn Bn Fn) (q : Q (.int (if j < i then j else i)) M) : CD X (.builtin "min") [.int i, .int j] M Q := cd_of (call_min2 st.calm) fun S H xs rx m => by
  obtain ⟨v, w, rfl, rv, rw'⟩ := reps_two rx
  exact ⟨i, j, by rw [rv.int_inv, rw'.int_inv], .of m (.int _) q⟩
theorem cd_intB {k : Bool} (q : Q (.int (if k then 1 else 0)) M) : CD X (.type "int") [.bl k] M Q := cd_of call_int1 fun S H xs rx m => by
  obtain ⟨v, rfl, rv⟩ := reps_one rx
  exact .inr ⟨k, by rw [rv.bl_inv], .of m (.int _) q⟩
theorem cd_list {d : D} {ds : List D} (h : IsR M d ds ∨ d = .tup ds) (q : Q (.lst ds) M) : CD X (.type "list") [d] M Q := cd_of call_list_of fun S H xs rx m => by
  obtain ⟨v, rfl, rv⟩ := reps_one rx
  rcases h with h | rfl
  · obtain ⟨pa, us, rfl, h1, r1⟩ := h.get m rv
    exact ⟨pa, us, rfl, .inl h1, post_lst m r1 q⟩
  · obtain ⟨pa, us, rfl, h1, r1⟩ := Rep.tup_get m rv
    exact ⟨pa, us, rfl, .inr (.of h1), post_lst m r1 q⟩
theorem cd_listO {d : D} {ds : List D} (h : IsR M d ds ∨ d = .tup ds) (q : ∀ p, Q (.ref p) ((p, .lst ds) :: M)) : CD X (.type "list") [d] M Q := cd_of call_list_of fun S H xs rx m => by
  obtain ⟨v, rfl, rv⟩ := reps_one rx
  rcases h with h | rfl
  · obtain ⟨pa, us, rfl, h1, r1⟩ := h.get m rv
    exact ⟨pa, us, rfl, .inl h1, post_own m r1 q⟩
  · obtain ⟨pa, us, rfl, h1, r1⟩ := Rep.tup_get m rv
    exact ⟨pa, us, rfl, .inr (.of h1), post_own m r1 q⟩
/-- sorted of ints: the one rising arrangement -/
theorem cd_sortedI {d : D} {ns ms : List Int} (h : IsR M d (ns.map D.int)) (hp : ms.Perm ns) (hs : ms.Pairwise (· ≤ ·)) (q : Q (.lst (ms.map D.int)) M) : CD X (.builtin "sorted") [d] M Q := cd_of cr_sortedI fun S H xs rx m => by
  obtain ⟨v, rfl, rv⟩ := reps_one rx
  obtain ⟨pa, us, rfl, h1, r1⟩ := h.get m rv
  rw [r1.ints_inv] at h1
  refine ⟨pa, ns, rfl, h1, fun ns' p h2 h3 hp' => ?_⟩
  have e : ns' = ms := (h2.trans hp.symm).eq_of_pairwise (fun a b _ _ h1 h2 => Int.le_antisymm h1 h2) h3 hs
  subst e
  exact post_lst m Reps.ints q p hp'
/-- the text of data of any depth -/
theorem call_reprD (gd : X.A.guards = some []) (hu : X.A.units + 80 < cLine) : CallR X (.builtin "repr") (fun xs H R => ∃ v pd, xs = [v] ∧ (∃ a, v = .ref a) ∧ Dp X.K H v pd ∧ pd.showable = true ∧ pd.hasDict = false ∧ pd.depth ≤ 64 ∧ pd.shown.length ≤ sizeLine ∧ R (.str pd.shown) H) := by
  intro pins s σ H xs us R I rx h
  obtain ⟨v, pd, rfl, ⟨a, rfl⟩, hd, h1, h2, h3, h4, q⟩ := h
  cases rx with
  | cons ru rt =>
    cases rt
    cases (show _ = Value.ref a from ru)
    obtain ⟨as, rd⟩ := Dp.reads I pd (.ref a) (.ref a) hd rfl
    exact repr_of_reads' rd h1 (PyData.noDict_hsm h2) gd (by omega) (fun _ _ e => e) (fun h' u tk k => ⟨.str pd.shown, H, I.kept (t' := tk) k, ⟨u, rfl⟩, q⟩) h4
theorem cd_repr {d : D} {pd : PyData} (st : Stat X Ln Vn Bn Fn) (hr : (∃ ds, d = .lst ds) ∨ (∃ ds, d = .tup ds) ∨ ∃ a, d = .ref a) (hp : Py M d pd) (h1 : pd.showable = true) (h2 : pd.hasDict = false) (h3 : pd.depth ≤ 64) (h4 : pd.shown.length ≤ sizeLine) (q : Q (.str pd.shown) M) : CD X (.builtin "repr") [d] M Q :=
  cd_of (call_reprD st.gd (by have := st.hu; omega)) fun S H xs rx m => by
    obtain ⟨v, rfl, rv⟩ := reps_one rx
    refine ⟨v, pd, rfl, ?_, hp.dp m rv, h1, h2, h3, h4, .of m (.str _) q⟩
    rcases hr with ⟨ds, rfl⟩ | ⟨ds, rfl⟩ | ⟨a, rfl⟩
    · exact let ⟨a, _, e, _⟩ := rv.lst_inv; ⟨a, e⟩
    · exact let ⟨a, _, e, _⟩ := rv.tup_inv; ⟨a, e⟩
    · exact ⟨a, rv.ref_inv⟩

/-! ### methods -/
def TyD (M : Mem) : String → D → Prop := fun T d => (T = "list" ∧ ∃ ds, IsR M d ds) ∨ (T = "str" ∧ ∃ z, d = .str z) ∨ (T = "dict" ∧ ∃ a f, d = .ref a ∧ ((∃ kvs, At a M (.dK kvs) f) ∨ ∃ kvs, At a M (.dT kvs) f))
theorem TyD.ty {K : PySem.W.Frag} {S H : Hp} {T : String} {d : D} {v : V} (h : TyD M T d) (m : MO K S M H) (r : Rep K S v d) : tyV K T v H := by
  rcases h with ⟨rfl, ds, h⟩ | ⟨rfl, z, rfl⟩ | ⟨rfl, a, f, rfl, h⟩
  · obtain ⟨a, xs, rfl, h1, _⟩ := h.get m r
    exact .inl ⟨rfl, xs, h1⟩
  · rw [r.str_inv]; exact rfl
  · rw [r.ref_inv]
    rcases h with ⟨kvs, h⟩ | ⟨kvs, h⟩
    · obtain ⟨ks, hk, _⟩ := m.at_ok h
      exact .inr (.inr (.inl ⟨rfl, .inl ⟨ks, hk⟩⟩))
    · obtain ⟨ks, hk, _⟩ := m.at_ok h
      exact .inr (.inr (.inl ⟨rfl, .inr ⟨ks, hk⟩⟩))
def MD (X : Cx) (id : String) (d : D) (ds : List D) (M : Mem) (Q : D → Mem → Prop) : Prop := ∀ S H v xs, Rep X.K S v d → Reps X.K S xs ds → MO X.K S M H → ∃ r, MtR X id r ∧ r v xs H (Post X.K S Q)
def rMd (X : Cx) (id : String) : V → List V → Hp → VK → Prop := fun v xs H R => ∃ r, MtR X id r ∧ r v xs H R
theorem mr_c {id : String} : MtR X id (rMd X id) := fun pins s σ H x xs v us Q I rx rs ⟨r, hc, q⟩ => hc pins s σ H x xs v us Q I rx rs q
theorem md_of {id : String} {d : D} {ds : List D} {r : V → List V → Hp → VK → Prop} (hc : MtR X id r) (h : ∀ S H v xs, Rep X.K S v d → Reps X.K S xs ds → MO X.K S M H → r v xs H (Post X.K S Q)) : MD X id d ds M Q := fun S H v xs rv rx m => ⟨r, hc, h S H v xs rv rx m⟩
theorem md_weak {id : String} {S S' H : Hp} {v : V} {xs : List V} (s1 : Same S S') (h : ∃ r, MtR X id r ∧ r v xs H (Post X.K S' Q)) : rMd X id v xs H (Post X.K S Q) := by
  obtain ⟨r, hc, q⟩ := h
  refine ⟨fun v xs H R => R = Post X.K S Q ∧ r v xs H (Post X.K S' Q), fun pins s σ H x xs v us R I rx rs ⟨eR, z⟩ => ?_, rfl, q⟩
  subst eR
  exact thn (hc pins s σ H x xs v us _ I rx rs z) fun _ _ ⟨v, H', I', rv, q⟩ => ⟨v, H', I', rv, Post.weak q s1⟩
theorem we_meth {T id : String} {name : Str} (pa : PlainAttrs T) (slot : Slot T name id) (hty : typeOf (.builtin id) = pure (.type "method_descriptor")) (h : WE X Γ M o fun d M1 => TyD M1 T d ∧ WA X Γ M1 (e :: es) fun ds M2 => MD X id d ds M2 Q)
    (hbase : attributeBase o name X.env (eval o X.env) = eval o X.env := by rfl)
    (hfew : ((backTo pos (starEach (e :: es) X.env)).all (fun x => !x.1) && (backToKw pos (keywordEach [] X.env)).all (fun x => x.1.isSome) && decide ((e :: es).length + ([] : List Keyword).length + (if ([] : List Keyword).isEmpty then 0 else 1) < 30)) = true := by rfl)
    (hline : (apos.endLine == pos.line) = true := by rfl) (hs : starEach (e :: es) X.env = (false, eval e X.env) :: starEach es X.env := by rfl) (hplain : (backTo pos (starEach es X.env)).any (·.1) = false := by rfl) : WE X Γ M (.Call (.Attribute o name apos) (e :: es) [] pos) Q := by
  intro S σ H hΓ hM
  refine tE_of (pe_bm pa slot hty mr_c pe_c pa_c hbase hfew hline hs hplain) ?_
  refine tE_post (h S σ H hΓ hM) fun d M1 S1 v H1 ⟨ty, q⟩ s1 m1 r1 => ⟨ty.ty m1 r1, ?_⟩
  exact tA_post (q S1 σ H1 (hΓ.mono s1) m1) fun ds M2 S2 xs H2 q2 s2 m2 r2 => md_weak (s1.trans s2) (q2 S2 H2 v xs (r1.mono s2) r2 m2)
theorem we_meth0 {T id : String} {name : Str} (pa : PlainAttrs T) (slot : Slot T name id) (hty : typeOf (.builtin id) = pure (.type "method_descriptor")) (h : WE X Γ M o fun d M1 => TyD M1 T d ∧ MD X id d [] M1 Q)
    (hbase : attributeBase o name X.env (eval o X.env) = eval o X.env := by rfl) (hline : (apos.endLine == pos.line) = true := by rfl) : WE X Γ M (.Call (.Attribute o name apos) [] [] pos) Q := by
  intro S σ H hΓ hM
  refine tE_of (pe_bm0 pa slot hty mr_c pe_c hbase hline) ?_
  exact tE_post (h S σ H hΓ hM) fun d M1 S1 v H1 ⟨ty, q⟩ s1 m1 r1 => ⟨ty.ty m1 r1, md_weak s1 (q S1 H1 v [] r1 .nil m1)⟩
theorem md_append {a : Addr} {ds : List D} {d : D} {f : Cell → Mem} (h : At a M (.lst ds) f) (hl : ds.length < sizeLine) (q : Q .non (f (.lst (ds ++ [d])))) : MD X "list.append" (.ref a) [d] M Q := md_of mt_append fun S H v xs rv rx m => by
  obtain ⟨y, rfl, ry⟩ := reps_one rx
  obtain ⟨us, hx, r⟩ := m.at_ok h
  exact ⟨a, us, y, rv.ref_inv, rfl, hx, by rw [r.length]; exact hl, .of (m.writeL h (r.append (.one ry))) .non q⟩
theorem md_extend {a : Addr} {ds es : List D} {d : D} {f : Cell → Mem} (h : At a M (.lst ds) f) (hd : IsL M d es) (hl : ds.length + es.length ≤ sizeLine) (q : Q .non (f (.lst (ds ++ es)))) : MD X "list.extend" (.ref a) [d] M Q := md_of mt_extend fun S H v xs rv rx m => by
  obtain ⟨y, rfl, ry⟩ := reps_one rx
  obtain ⟨us, hx, r⟩ := m.at_ok h
  obtain ⟨b, ws, rfl, hb, r2⟩ := hd.get m ry
  exact ⟨a, b, us, ws, rv.ref_inv, rfl, hx, hb, by rw [r.length, r2.length]; exact hl, .of (m.writeL h (r.append r2)) .non q⟩
theorem md_pop {a : Addr} {ds : List D} {d : D} {f : Cell → Mem} (h : At a M (.lst (ds ++ [d])) f) (q : Q d (f (.lst ds))) : MD X "list.pop" (.ref a) [] M Q := md_of mt_pop fun S H v xs rv rx m => by
  cases rx
  obtain ⟨us, hx, r⟩ := m.at_ok h
  have hl := r.length
  rw [List.length_append, List.length_singleton] at hl
  obtain ⟨y, hy, ry⟩ := r.get (i := ds.length) (d := d) (by simp)
  have rd := r.take ds.length
  rw [List.take_left] at rd
  refine ⟨a, us, y, rv.ref_inv, rfl, hx, by rw [hl]; exact hy, .of (m.writeL h ?_) ry q⟩
  rw [List.dropLast_eq_take, hl, Nat.add_sub_cancel]; exact rd
theorem reps_erase {K : PySem.W.Frag} {S : Hp} : ∀ {xs : List V} {ds : List D} (k : Nat), Reps K S xs ds → Reps K S (xs.eraseIdx k) (ds.eraseIdx k)
  | _, _, _, .nil => .nil
  | _, _, 0, .cons _ t => t
  | _, _, k + 1, .cons h t => .cons h (reps_erase k t)
theorem md_popAt {a : Addr} {ds : List D} {d : D} {i : Int} {f : Cell → Mem} (h : At a M (.lst ds) f) (h0 : 0 ≤ i) (h2 : i < 2 ^ 62) (hi : ds[i.toNat]? = some d) (q : Q d (f (.lst (ds.eraseIdx i.toNat)))) : MD X "list.pop" (.ref a) [.int i] M Q := md_of mt_popAt fun S H v xs rv rx m => by
  obtain ⟨y, rfl, ry⟩ := reps_one rx
  obtain ⟨us, hx, r⟩ := m.at_ok h
  obtain ⟨y, hy, ry'⟩ := r.get hi
  have hlt : i.toNat < us.length := (List.getElem?_eq_some_iff.mp hy).1
  exact ⟨a, us, i, i.toNat, y, rv.ref_inv, by rw [ry.int_inv], hx, by omega, by omega, seqIndex_of h0 (by omega), hy, .of (m.writeL h (reps_erase _ r)) ry' q⟩
theorem md_insert {a : Addr} {ds : List D} {d : D} {i : Int} {f : Cell → Mem} (h : At a M (.lst ds) f) (h0 : 0 ≤ i) (h2 : i < 2 ^ 62) (hl : ds.length < sizeLine) (q : Q .non (f (.lst (ds.take i.toNat ++ [d] ++ ds.drop i.toNat)))) : MD X "list.insert" (.ref a) [.int i, d] M Q := md_of mt_insert fun S H v xs rv rx m => by
  obtain ⟨y, w, rfl, ry, rw'⟩ := reps_two rx
  obtain ⟨us, hx, r⟩ := m.at_ok h
  exact ⟨a, us, i, w, rv.ref_inv, by rw [ry.int_inv], hx, by rw [r.length]; exact hl, h0, by omega, .of (m.writeL h (((r.take _).append (.one rw')).append (r.drop _))) .non q⟩
theorem reps_rev {K : PySem.W.Frag} {S : Hp} : ∀ {xs : List V} {ds : List D}, Reps K S xs ds → Reps K S xs.reverse ds.reverse
  | _, _, .nil => .nil
  | _, _, .cons h t => by rw [List.reverse_cons, List.reverse_cons]; exact (reps_rev t).append (.one h)
theorem md_reverse {a : Addr} {ds : List D} {f : Cell → Mem} (h : At a M (.lst ds) f) (q : Q .non (f (.lst ds.reverse))) : MD X "list.reverse" (.ref a) [] M Q := md_of mt_reverse fun S H v xs rv rx m => by
  cases rx
  obtain ⟨us, hx, r⟩ := m.at_ok h
  exact ⟨a, us, rv.ref_inv, rfl, hx, .of (m.writeL h (reps_rev r)) .non q⟩
theorem md_clear {a : Addr} {ds : List D} {f : Cell → Mem} (h : At a M (.lst ds) f) (q : Q .non (f (.lst []))) : MD X "list.clear" (.ref a) [] M Q := md_of mt_clear fun S H v xs rv rx m => by
  cases rx
  obtain ⟨us, hx, r⟩ := m.at_ok h
  exact ⟨a, us, rv.ref_inv, rfl, hx, .of (m.writeL h .nil) .non q⟩
end
end DL

/-! Core5: targets, what is walked, statements, comprehensions, defs. -/
namespace DL
open PySem PySem.Spec PyProof.Rows L2

section
variable {X : Cx} {Γ Γ' : VEnv} {M : Mem} {Q : D → Mem → Prop} {QB : Bool → Mem → Prop} {QE : VEnv → Mem → Prop} {x : Str} {d : D} {pos p p2 apos : Pos} {a b c e o i tg iter : Expr} {es : List Expr} {Ln Vn Bn Fn : List Str} {E : DE}

/-! ### targets -/
theorem tG_of {σ : L2.St} {H : Hp} {v : V} {t : TG} {R : L2.St → Hp → Prop} (h : PG X tg t) (q : t v σ H R) : tG X tg v σ H R := fun pins s u I r => h.run pins s σ H v u R I r q
theorem wg_name (st : Stat X Ln Vn Bn Fn) (hx : x ∈ Ln) (h : SetAt Γ x d Γ') (q : QE Γ' M) : WG X Γ M (.Name x pos) d QE := by
  intro S σ H v hΓ hM rv
  obtain ⟨i, o, e, rfl⟩ := h.at
  exact tG_of (pg_name st.nd (hΓ.name e) (st.loc x hx).1 (st.loc x hx).2) ⟨_, M, S, q, .refl _, hΓ.put e rv (st.loc x hx), hM⟩
def tGs (X : Cx) (ts : List Expr) : TGs := fun vs σ H R => ∀ pins s us, Inv X pins σ H s → Vals vs us → wpAny (model X.prog X.w) X.A (assignInOrder ((assignEach ts X.env).map (·.2)) us) (fun _ s' => ∃ σ' H', Inv X pins σ' H' s' ∧ R σ' H') X.xe s
theorem pgs_c {ts : List Expr} : PGs X ts (tGs X ts) := ⟨fun pins s σ H vs us Q I r h => h pins s us I r⟩
theorem tGs_of {σ : L2.St} {H : Hp} {vs : List V} {t : TGs} {R : L2.St → Hp → Prop} (h : PGs X es t) (q : t vs σ H R) : tGs X es vs σ H R := fun pins s u I r => h.run pins s σ H vs u R I r q
theorem tGs_mono {σ : L2.St} {H : Hp} {vs : List V} {R R' : L2.St → Hp → Prop} (h : tGs X es vs σ H R) (m : ∀ v H', R v H' → R' v H') : tGs X es vs σ H R' := fun pins s u I r =>
  thn (h pins s u I r) fun _ _ ⟨v, H', I', q⟩ => ⟨v, H', I', m _ _ q⟩
def WGs (X : Cx) (Γ : VEnv) (M : Mem) (ts : List Expr) (ds : List D) (Q : VEnv → Mem → Prop) : Prop := ∀ S σ H vs, SR X S σ Γ → MO X.K S M H → Reps X.K S vs ds → tGs X ts vs σ H (PostG X S Q)
theorem wgs_nil (q : QE Γ M) : WGs X Γ M [] [] QE := fun S σ H vs hΓ hM r => tGs_of pgs_nil ⟨by cases r; rfl, Γ, M, S, q, .refl _, hΓ, hM⟩
theorem wgs_cons {ds : List D} (h : WG X Γ M tg d fun Γ1 M1 => WGs X Γ1 M1 es ds QE) (hs : (assignEach (tg :: es) X.env).map (·.2) = assign tg X.env :: (assignEach es X.env).map (·.2) := by rfl) : WGs X Γ M (tg :: es) (d :: ds) QE := by
  intro S σ H vs hΓ hM r
  cases r with
  | cons r rs =>
    refine tGs_of (pgs_cons pg_c pgs_c hs) ⟨_, _, rfl, tG_mono (h S σ H _ hΓ hM r) ?_⟩
    rintro σ1 H1 ⟨Γ1, M1, S1, q, s1, e1, m1⟩
    exact tGs_mono (q S1 σ1 H1 _ e1 m1 (rs.mono s1)) fun _ _ z => z.weak s1
theorem wg_tup {k n : Nat} {ds : List D} (st : Stat X Ln Vn Bn Fn) (hl : ds.length = n) (h : WGs X Γ M es ds QE) (hn : (assignEach es X.env).length = n := by rfl) (hst : (assignEach es X.env).findIdx? (·.1) = none := by rfl) : WG X Γ M (.Tuple es k pos) (.tup ds) QE := by
  intro S σ H v hΓ hM r
  obtain ⟨pa, us, rfl, h1, r1⟩ := Rep.tup_get hM r
  exact tG_of (pg_tup st.calm pgs_c hn hst) ⟨pa, us, rfl, .of h1, by rw [r1.length]; exact hl, h S σ H us hΓ hM r1⟩
/-- o[i] = .. of an owned list -/
theorem wg_ix (h : WE X Γ M o fun do_ M1 => WE X Γ M1 i fun di M2 => ∃ (q : Addr) (j : Int) (ds : List D) (f : Cell → Mem), do_ = .ref q ∧ di = .int j ∧ At q M2 (.lst ds) f ∧ 0 ≤ j ∧ j < ds.length ∧ QE Γ (f (.lst (ds.set j.toNat d))))
    (ha : ∀ v, assign (.Subscript o i pos) X.env v = (do
      let ov ← holding [v] (eval o X.env)
      let iv ← holding [v, ov] (eval i X.env)
      standAt pos
      holding [v, ov, iv] (setItem ov iv v)
      release [v, ov, iv] []) := by intro _; rfl) : WG X Γ M (.Subscript o i pos) d QE := by
  intro S σ H v hΓ hM r
  refine tG_of (pg_sub pe_c pe_c set_list ha) ?_
  refine tE_post (h S σ H hΓ hM) fun d1 M1 S1 v1 H1 q1 s1 m1 r1 => ?_
  refine tE_post (q1 S1 σ H1 (hΓ.mono s1) m1) fun d2 M2 S2 v2 H2 q2 s2 m2 r2 => ?_
  obtain ⟨q, j, ds, f, rfl, rfl, h, h0, hj, k⟩ := q2
  obtain ⟨us, hx, ru⟩ := m2.at_ok h
  have hl := ru.length
  refine ⟨q, us, j, j.toNat, (r1.mono s2).ref_inv, r2.int_inv, hx, ?_, _, _, S2, k, s1.trans s2, (hΓ.mono s1).mono s2, m2.writeL h (ru.set ((r.mono s1).mono s2) _)⟩
  unfold ixN
  rw [if_pos h0, if_pos (by omega)]

/-! ### what is walked -/
structure Walks (K : PySem.W.Frag) (J : It) (items : List D) (Stb : Mem → Prop) (S0 : Hp) : Prop where
  go : ∀ S M H i, Same S0 S → MO K S M H → Stb M → i < items.length → J.go i H
  stop : ∀ S M H i, Same S0 S → MO K S M H → Stb M → items.length ≤ i → J.stop i H
  yld : ∀ S M H i x H', Same S0 S → MO K S M H → Stb M → i < items.length → J.yld i H x H' → ∃ d S', items[i]? = some d ∧ Same S S' ∧ MO K S' M H' ∧ Rep K S' x d
def PostI (X : Cx) (S : Hp) (Q : List D → (Mem → Prop) → Mem → Prop) (J : It) (H : Hp) : Prop := ∃ items Stb M S', Q items Stb M ∧ Same S S' ∧ MO X.K S' M H ∧ Walks X.K J items Stb S'
def WI (X : Cx) (Γ : VEnv) (M : Mem) (tg iter : Expr) (Q : List D → (Mem → Prop) → Mem → Prop) : Prop := ∀ S σ H, SR X S σ Γ → MO X.K S M H → tI X tg iter σ H (PostI X S Q)
theorem tI_of {σ : L2.St} {H : Hp} {t : TI} {R : It → Hp → Prop} (h : PI X tg iter t) (q : t σ H R) : tI X tg iter σ H R := fun pins s I => h.run pins s σ H R I q
theorem tI_mono {σ : L2.St} {H : Hp} {R R' : It → Hp → Prop} (h : tI X tg iter σ H R) (m : ∀ v H', R v H' → R' v H') : tI X tg iter σ H R' := fun pins s I =>
  thn (h pins s I) fun v s1 h1 => thn h1 fun u s2 ⟨it, fp, tn, J, H', e, I', T, t0, f, q⟩ => ⟨it, fp, tn, J, H', e, I', T, t0, f, m _ _ q⟩
variable {QI : List D → (Mem → Prop) → Mem → Prop}
theorem wi_list (h : WE X Γ M iter fun d M1 => ∃ ds, IsR M1 d ds ∧ QI ds (fun M' => IsR M' d ds) M1) : WI X Γ M tg iter QI := by
  intro S σ H hΓ hM
  refine tI_of (pi_list pe_c) (tE_post (h S σ H hΓ hM) fun d M1 S1 v H1 ⟨ds, hd, q⟩ s1 m1 r1 => ?_)
  obtain ⟨pa, us, rfl, h1, ru⟩ := hd.get m1 r1
  have again : ∀ {S' : Hp} {M' : Mem} {H' : Hp}, Same S1 S' → MO X.K S' M' H' → IsR M' d ds → ∃ us, SqL X.K H' pa us ∧ Reps X.K S' us ds := fun s' m' hd' => by
    obtain ⟨pb, us', e, h', ru'⟩ := hd'.get m' (r1.mono s')
    cases e
    exact ⟨us', h', ru'⟩
  refine ⟨pa, rfl, ⟨us, h1⟩, ds, _, M1, S1, q, s1, m1, ⟨fun S' M' H' k s' m' hs hk => ?_, fun S' M' H' k s' m' hs hk => ?_, fun S' M' H' k x H'' s' m' hs hk y => ?_⟩⟩
  · obtain ⟨us', h', ru'⟩ := again s' m' hs
    exact ⟨us', us'[k]'(by rw [ru'.length]; exact hk), h', by simp⟩
  · obtain ⟨us', h', ru'⟩ := again s' m' hs
    exact ⟨us', h', by rw [ru'.length]; exact hk⟩
  · obtain ⟨us', h', ru'⟩ := again s' m' hs
    obtain ⟨rfl, y⟩ := y
    obtain ⟨dk, e1, e2⟩ := ru'.getV (y us' h')
    exact ⟨dk, S', e1, .refl _, m', e2⟩
theorem wi_tup (h : WE X Γ M iter fun d M1 => ∃ ds, d = .tup ds ∧ QI ds (fun _ => True) M1) : WI X Γ M tg iter QI := by
  intro S σ H hΓ hM
  refine tI_of (pi_tup pe_c) (tE_post (h S σ H hΓ hM) fun d M1 S1 v H1 ⟨ds, hd, q⟩ s1 m1 r1 => ?_)
  subst hd
  obtain ⟨pa, us, rfl, h1, ru⟩ := Rep.tup_inv r1
  have again : ∀ {S' : Hp} {M' : Mem} {H' : Hp}, Same S1 S' → MO X.K S' M' H' → SqT X.K H' pa us ∧ Reps X.K S' us ds := fun s' m' => ⟨.of (m'.sub _ _ (s' _ _ h1)), ru.mono s'⟩
  refine ⟨pa, rfl, ⟨us, .of (m1.sub _ _ h1)⟩, ds, _, M1, S1, q, s1, m1, ⟨fun S' M' H' k s' m' hs hk => ?_, fun S' M' H' k s' m' hs hk => ?_, fun S' M' H' k x H'' s' m' hs hk y => ?_⟩⟩
  · obtain ⟨h', ru'⟩ := again s' m'
    exact ⟨us, us[k]'(by rw [ru'.length]; exact hk), h', by simp⟩
  · obtain ⟨h', ru'⟩ := again s' m'
    exact ⟨us, h', by rw [ru'.length]; exact hk⟩
  · obtain ⟨h', ru'⟩ := again s' m'
    obtain ⟨rfl, y⟩ := y
    obtain ⟨dk, e1, e2⟩ := ru'.getV (y us h')
    exact ⟨dk, S', e1, .refl _, m', e2⟩
def rngD (lo : Int) (n : Nat) : List D := (List.range n).map fun (k : Nat) => D.int (lo + (k : Int))
theorem rngD_length (lo : Int) (n : Nat) : (rngD lo n).length = n := by unfold rngD; rw [List.length_map, List.length_range]
theorem rngD_get {lo : Int} {n k : Nat} (h : k < n) : (rngD lo n)[k]? = some (.int (lo + (k : Int))) := by
  unfold rngD; rw [List.getElem?_map, List.getElem?_range h]; rfl
theorem rngD_inv {lo : Int} {n k : Nat} {d : D} (h : (rngD lo n)[k]? = some d) : k < n ∧ d = .int (lo + (k : Int)) := by
  have hk : k < n := by have := (List.getElem?_eq_some_iff.mp h).1; rw [rngD_length] at this; exact this
  rw [rngD_get hk] at h
  exact ⟨hk, (Option.some.inj h).symm⟩
theorem walks_rng {K : PySem.W.Frag} {lo : Int} {n : Nat} {S0 : Hp} : Walks K (Itr lo n) (rngD lo n) (fun _ => True) S0 :=
  ⟨fun S M H i _ _ _ h => by rw [rngD_length] at h; exact h, fun S M H i _ _ _ h => by rw [rngD_length] at h; exact h, fun S M H i x H' _ m _ h ⟨e1, e2⟩ => by
    rw [rngD_length] at h
    subst e1 e2
    exact ⟨_, S, rngD_get h, .refl _, m, .int _⟩⟩
theorem boot_rng : True := trivial
theorem wi_range (st : Stat X Ln Vn Bn Fn) (hx : ("range" : Str) ∈ Bn) (h : WE X Γ M a fun d M1 => ∃ j, d = .int j ∧ -(2 ^ 62) ≤ j ∧ j < 2 ^ 62 ∧ QI (rngD 0 j.toNat) (fun _ => True) M1) (hs : starEach [a] X.env = [(false, eval a X.env)] := by rfl) :
    WI X Γ M tg (.Call (.Name "range" p) [a] [] pos) QI := by
  intro S σ H hΓ hM
  refine tI_of (pi_range1 (st.blt _ hx).1 (st.blt _ hx).2.1 pa_c hs) ?_
  refine tA_post (QA := fun ds M1 => ∃ j, ds = [.int j] ∧ -(2 ^ 62) ≤ j ∧ j < 2 ^ 62 ∧ QI (rngD 0 j.toNat) (fun _ => True) M1) (wa_cons (h.imp fun d M1 ⟨j, e, q⟩ => wa_nil ⟨j, by rw [e], q⟩) hs S σ H hΓ hM) ?_
  rintro ds M1 S1 vs H1 ⟨j, rfl, h1, h2, q⟩ s1 m1 r1
  obtain ⟨v, rfl, rv⟩ := reps_one r1
  exact ⟨j, by rw [rv.int_inv], h1, h2, _, _, M1, S1, q, s1, m1, walks_rng⟩
theorem wi_range2 (st : Stat X Ln Vn Bn Fn) (hx : ("range" : Str) ∈ Bn) (h : WE X Γ M a fun da M1 => WE X Γ M1 b fun db M2 => ∃ i j, da = .int i ∧ db = .int j ∧ (-(2 ^ 62) ≤ i ∧ i < 2 ^ 62 ∧ -(2 ^ 62) ≤ j ∧ j < 2 ^ 62) ∧ QI (rngD i (j - i).toNat) (fun _ => True) M2)
    (hs : starEach [a, b] X.env = [(false, eval a X.env), (false, eval b X.env)] := by rfl) (hs2 : starEach [b] X.env = [(false, eval b X.env)] := by rfl) : WI X Γ M tg (.Call (.Name "range" p) [a, b] [] pos) QI := by
  intro S σ H hΓ hM
  refine tI_of (pi_range2 (st.blt _ hx).1 (st.blt _ hx).2.1 pa_c hs hs2) ?_
  refine tA_post (QA := fun ds M1 => ∃ i j, ds = [.int i, .int j] ∧ (-(2 ^ 62) ≤ i ∧ i < 2 ^ 62 ∧ -(2 ^ 62) ≤ j ∧ j < 2 ^ 62) ∧ QI (rngD i (j - i).toNat) (fun _ => True) M1)
    (wa_cons (h.imp fun d M1 q => wa_cons (q.imp fun d2 M2 ⟨i, j, e1, e2, q⟩ => wa_nil ⟨i, j, by rw [e1, e2], q⟩) (by rw [hs2]; rfl)) (by rw [hs, hs2]) S σ H hΓ hM) ?_
  rintro ds M1 S1 vs H1 ⟨i, j, rfl, h1, q⟩ s1 m1 r1
  obtain ⟨v, w, rfl, rv, rw'⟩ := reps_two r1
  exact ⟨i, j, by rw [rv.int_inv, rw'.int_inv], h1, _, _, M1, S1, q, s1, m1, walks_rng⟩
def enumD (ds : List D) : List D := ds.mapIdx fun k d => .tup [.int (k : Int), d]
theorem wi_enum {elts : List Expr} {kk : Nat} {tpos : Pos} (st : Stat X Ln Vn Bn Fn) (hx : ("enumerate" : Str) ∈ Bn) (h : WE X Γ M e fun d M1 => ∃ ds, IsR M1 d ds ∧ QI (enumD ds) (fun M' => IsR M' d ds) M1) (hs : starEach [e] X.env = [(false, eval e X.env)] := by rfl) :
    WI X Γ M (.Tuple elts kk tpos) (.Call (.Name "enumerate" p) [e] [] pos) QI := by
  intro S σ H hΓ hM
  refine tI_of (pi_enum (st.blt _ hx).1 (st.blt _ hx).2.1 pa_c hs) ?_
  refine tA_post (QA := fun es M1 => ∃ d ds, es = [d] ∧ IsR M1 d ds ∧ QI (enumD ds) (fun M' => IsR M' d ds) M1) (wa_cons (h.imp fun d M1 ⟨ds, q⟩ => wa_nil ⟨d, ds, rfl, q⟩) hs S σ H hΓ hM) ?_
  rintro es M1 S1 vs H1 ⟨d, ds, rfl, hd, q⟩ s1 m1 r1
  obtain ⟨v, rfl, rv⟩ := reps_one r1
  obtain ⟨pa, us, rfl, h1, ru⟩ := hd.get m1 rv
  have again : ∀ {S' : Hp} {M' : Mem} {H' : Hp}, Same S1 S' → MO X.K S' M' H' → IsR M' d ds → ∃ us, SqL X.K H' pa us ∧ Reps X.K S' us ds := fun s' m' hd' => by
    obtain ⟨pb, us', e, h', ru'⟩ := hd'.get m' (rv.mono s')
    cases e
    exact ⟨us', h', ru'⟩
  have el : (enumD ds).length = ds.length := by unfold enumD; rw [List.length_mapIdx]
  refine ⟨pa, us, rfl, h1, _, _, M1, S1, q, s1, m1, ⟨fun S' M' H' k s' m' hs hk => ?_, fun S' M' H' k s' m' hs hk => ?_, fun S' M' H' k x H'' s' m' hs hk y => ?_⟩⟩
  · obtain ⟨us', h', ru'⟩ := again s' m' hs
    exact ⟨us', us'[k]'(by rw [ru'.length, ← el]; exact hk), h', by simp⟩
  · obtain ⟨us', h', ru'⟩ := again s' m' hs
    exact ⟨us', h', by rw [ru'.length, ← el]; exact hk⟩
  · obtain ⟨us', h', ru'⟩ := again s' m' hs
    obtain ⟨T, x, rfl, hT, rfl, y⟩ := y
    obtain ⟨dk, e1, e2⟩ := ru'.getV (y us' h')
    obtain ⟨s2, m2⟩ := m'.laid (o := .tup [.int (k : Nat), x]) hT
    exact ⟨.tup [.int (k : Int), dk], _, by unfold enumD; rw [List.getElem?_mapIdx, e1]; rfl, s2, m2, .tup upd_same (.cons (.int _) (.one (e2.mono s2)))⟩
def zipD (ds es : List D) : List D := List.zipWith (fun d e => .tup [d, e]) ds es
theorem wi_zip {elts : List Expr} {kk : Nat} {tpos : Pos} (st : Stat X Ln Vn Bn Fn) (hx : ("zip" : Str) ∈ Bn) (h : WE X Γ M a fun d M1 => WE X Γ M1 b fun d2 M2 => ∃ ds es, IsR M2 d ds ∧ IsR M2 d2 es ∧ QI (zipD ds es) (fun M' => IsR M' d ds ∧ IsR M' d2 es) M2)
    (hs : starEach [a, b] X.env = [(false, eval a X.env), (false, eval b X.env)] := by rfl) (hs2 : starEach [b] X.env = [(false, eval b X.env)] := by rfl) : WI X Γ M (.Tuple elts kk tpos) (.Call (.Name "zip" p) [a, b] [] pos) QI := by
  intro S σ H hΓ hM
  refine tI_of (pi_zip (st.blt _ hx).1 (st.blt _ hx).2.1 pa_c (by rw [hs, hs2]) (by rw [hs2]; rfl)) ?_
  refine tA_post (QA := fun xs M2 => ∃ d d2 ds es, xs = [d, d2] ∧ IsR M2 d ds ∧ IsR M2 d2 es ∧ QI (zipD ds es) (fun M' => IsR M' d ds ∧ IsR M' d2 es) M2)
    (wa_cons (h.imp fun d M1 q => wa_cons (q.imp fun d2 M2 ⟨ds, es, q⟩ => wa_nil ⟨d, d2, ds, es, rfl, q⟩) (by rw [hs2]; rfl)) (by rw [hs, hs2]) S σ H hΓ hM) ?_
  rintro xs M1 S1 vs H1 ⟨d, d2, ds, es, rfl, hd, hd2, q⟩ s1 m1 r1
  obtain ⟨v, w, rfl, rv, rw'⟩ := reps_two r1
  obtain ⟨pa, us, rfl, h1, ru⟩ := hd.get m1 rv
  obtain ⟨pb, ws, rfl, h2, rw2⟩ := hd2.get m1 rw'
  have again : ∀ {S' : Hp} {M' : Mem} {H' : Hp}, Same S1 S' → MO X.K S' M' H' → (IsR M' d ds ∧ IsR M' d2 es) → ∃ us ws, SqL X.K H' pa us ∧ Reps X.K S' us ds ∧ SqL X.K H' pb ws ∧ Reps X.K S' ws es := fun s' m' hd' => by
    obtain ⟨p1, us', e, h', ru'⟩ := hd'.1.get m' (rv.mono s')
    obtain ⟨p2, ws', e', h'', rw2'⟩ := hd'.2.get m' (rw'.mono s')
    cases e
    cases e'
    exact ⟨us', ws', h', ru', h'', rw2'⟩
  have el : (zipD ds es).length = min ds.length es.length := by unfold zipD; rw [List.length_zipWith]
  refine ⟨pa, pb, us, ws, rfl, h1, h2, _, _, M1, S1, q, s1, m1, ⟨fun S' M' H' k s' m' hs hk => ?_, fun S' M' H' k s' m' hs hk => ?_, fun S' M' H' k x H'' s' m' hs hk y => ?_⟩⟩
  · obtain ⟨us', ws', h', ru', h'', rw2'⟩ := again s' m' hs
    rw [el] at hk
    have l1 := ru'.length
    have l2 := rw2'.length
    exact ⟨us', ws', us'[k]'(by omega), ws'[k]'(by omega), h', h'', by simp, by simp⟩
  · obtain ⟨us', ws', h', ru', h'', rw2'⟩ := again s' m' hs
    rw [el] at hk
    have l1 := ru'.length
    have l2 := rw2'.length
    exact ⟨us', ws', h', h'', by omega⟩
  · obtain ⟨us', ws', h', ru', h'', rw2'⟩ := again s' m' hs
    obtain ⟨T, x, y, rfl, hT, rfl, y1, y2⟩ := y
    obtain ⟨dk, e1, e2⟩ := ru'.getV (y1 us' h')
    obtain ⟨ek, e3, e4⟩ := rw2'.getV (y2 ws' h'')
    obtain ⟨s2, m2⟩ := m'.laid (o := .tup [x, y]) hT
    exact ⟨.tup [dk, ek], _, by unfold zipD; rw [List.getElem?_zipWith, e1, e3], s2, m2, .tup upd_same (.cons (e2.mono s2) (.one (e4.mono s2)))⟩

/-! ### statements -/
theorem tS_weak {S S' : Hp} {σ : L2.St} {H : Hp} {s : Stmt} (h : tS X s (ends X S' E) σ H) (e : Same S S') : tS X s (ends X S E) σ H := fun pins s I => thn (h pins s I) fun f s' q => SP.weak q e
theorem tSs_weak {S S' : Hp} {σ : L2.St} {H : Hp} {s : List Stmt} (h : tSs X s (ends X S' E) σ H) (e : Same S S') : tSs X s (ends X S E) σ H := fun pins s I => thn (h pins s I) fun f s' q => SP.weak q e
theorem wss_nil (q : E.nx Γ M) : WSs X Γ M [] E := fun S σ H hΓ hM => tSs_of pss_nil ⟨Γ, M, S, q, .refl _, hΓ, hM⟩
theorem wss_cons {s : Stmt} {rest : List Stmt} (h : WS X Γ M s (E.thn fun Γ1 M1 => WSs X Γ1 M1 rest E)) : WSs X Γ M (s :: rest) E := by
  intro S σ H hΓ hM
  refine tSs_of (pss_cons ps_c pss_c) ?_
  intro pins s I
  refine thn (h S σ H hΓ hM pins s I) fun f s' q => SP.imp q ?_ (fun _ _ z => z) (fun _ _ z => z) (fun _ _ z => z)
  rintro σ1 H1 ⟨Γ1, M1, S1, q1, s1, e1, m1⟩
  exact tSs_weak (q1 S1 σ1 H1 e1 m1) s1
theorem wss_one {s : Stmt} (h : WS X Γ M s E) : WSs X Γ M [s] E := fun S σ H hΓ hM => tSs_of (pss_one ps_c) (h S σ H hΓ hM)
theorem ws_asg (h : WE X Γ M e fun d M1 => WG X Γ M1 tg d E.nx) (hs : swapsWithSole [tg] e pos.line X.env = pure false := by rfl) (hw : swappedStores [tg] e X.env = pure none := by rfl) (h1 : (assignEach [tg] X.env).map (·.2) = [assign tg X.env] := by rfl) : WS X Γ M (.Assign [tg] e pos) E := by
  intro S σ H hΓ hM
  refine tS_of (ps_asg pe_c pg_c hs hw h1) (tE_post (h S σ H hΓ hM) fun d M1 S1 v H1 q s1 m1 r1 => ?_)
  exact tG_mono (q S1 σ H1 v (hΓ.mono s1) m1 r1) fun _ _ z => PostG.weak z s1
/-- x = e -/
theorem ws_set {pos' : Pos} (st : Stat X Ln Vn Bn Fn) (hx : x ∈ Ln) (h : WE X Γ M e fun d M1 => ∃ Γ', SetAt Γ x d Γ' ∧ E.nx Γ' M1) (hs : swapsWith e (some (.Name x pos')) pos.line X.env = pure false := by rfl) : WS X Γ M (.Assign [.Name x pos'] e pos) E := by
  intro S σ H hΓ hM pins s I
  have fin : tE X e σ H fun v H1 => ∃ i, X.N[i]? = some x ∧ PostG X S E.nx (σ.set i (some v)) H1 := tE_post (h S σ H hΓ hM) fun d M1 S1 v H1 ⟨Γ', hp, q⟩ s1 m1 r1 => by
    obtain ⟨i, o, e, rfl⟩ := hp.at
    have hΓ1 := hΓ.mono s1
    exact ⟨i, hΓ1.name e, _, M1, S1, q, s1, hΓ1.put e r1 (st.loc x hx), m1⟩
  refine wpAny_Assign_Name (thn (fin pins s I) fun v s1 ⟨y, H1, I1, r1, i, hi, q⟩ => ?_) hs
  exact store_ok I1 st.nd hi (st.loc x hx).1 r1 (fun s2 I2 => ⟨_, H1, I2, q⟩) (st.loc x hx).2
/-- x, y = a, b with plain names: stored from the right -/
theorem sw_par {x y : Str} {px py pt pt2 : Pos} {kt k2 : Nat} {env : Env} (hk : env.scope.kind = .function) (hx : env.scope.names.lookup x = some .local) (hy : env.scope.names.lookup y = some .local) (hne : x ≠ y) (hl : (py.line == px.line) = true)
    (h1 : ([a, b].any fun | .Starred .. => true | _ => false) = false) (h2 : [a, b].all (foldedForSure 8) = false) (h3 : [a, b].all (constantsAlone 8) = false) :
    swappedStores [.Tuple [.Name x px, .Name y py] kt pt] (.Tuple [a, b] k2 pt2) env = pure (some [x, y]) := by
  have kx : env.kindOf x = some .local := hx
  have ky : env.kindOf y = some .local := hy
  have hb : env.blockKind = .function := by unfold Env.blockKind; rw [hk]; rfl
  have hxy : (y == x) = false := beq_eq_false_iff_ne.mpr (Ne.symm hne)
  unfold swappedStores
  simp [hb, kx, ky, h1, h2, h3, hl, hxy, Expr.pos, List.filterMap, List.eraseDups, List.eraseDupsBy, List.eraseDupsBy.loop]
  intro h
  exfalso
  simp only [List.any_cons, List.any_nil, Bool.or_false, Bool.or_eq_false_iff] at h1
  rcases h with h | h
  · have g := h1.1
    cases a <;> first | exact Bool.noConfusion h | exact Bool.noConfusion g
  · have g := h1.2
    cases b <;> first | exact Bool.noConfusion h | exact Bool.noConfusion g
theorem ws_par {x y : Str} {Γx Γy : VEnv} {px py pt pt2 : Pos} {kt k2 : Nat} (st : Stat X Ln Vn Bn Fn) (hx : x ∈ Ln) (hy : y ∈ Ln) (hxl : X.env.scope.names.lookup x = some .local) (hyl : X.env.scope.names.lookup y = some .local) (hk : X.env.scope.kind = .function) (hne : x ≠ y)
    (hx0 : SetAt Γ x .non Γx) (hy0 : SetAt Γ y .non Γy)
    (h : WA X Γ M [a, b] fun ds M1 => ∃ d e Γ1 Γ2, ds = [d, e] ∧ SetAt Γ x d Γ1 ∧ SetAt Γ1 y e Γ2 ∧ E.nx Γ2 M1)
    (hl : (py.line == px.line) = true := by rfl) (h1 : ([a, b].any fun | .Starred .. => true | _ => false) = false := by rfl) (h2 : [a, b].all (foldedForSure 8) = false := by rfl) (h3 : [a, b].all (constantsAlone 8) = false := by rfl)
    (hs : swapsWithSole [.Tuple [.Name x px, .Name y py] kt pt] (.Tuple [a, b] k2 pt2) pos.line X.env = pure false := by rfl) : WS X Γ M (.Assign [.Tuple [.Name x px, .Name y py] kt pt] (.Tuple [a, b] k2 pt2) pos) E := by
  intro S σ H hΓ hM
  obtain ⟨i, ox, gx, _⟩ := hx0.at
  obtain ⟨j, oy, gy, _⟩ := hy0.at
  have hi := hΓ.name gx
  have hj := hΓ.name gy
  have hij : i ≠ j := fun e => hne (by rw [e, hj] at hi; exact (Option.some.inj hi).symm)
  refine tS_of (ps_par st.calm st.nd hi hj hij hxl hyl pa_c (sw_par hk hxl hyl hne hl h1 h2 h3) hs) (tA_post (h S σ H hΓ hM) ?_)
  rintro ds M1 S1 vs H1 ⟨d, e, Γ1, Γ2, rfl, g1, g2, q⟩ s1 m1 r1
  obtain ⟨v, w, rfl, rv, rw'⟩ := reps_two r1
  obtain ⟨i', o1, e1, rfl⟩ := g1.at
  have gg := (hΓ.mono s1).put e1 rv (st.loc x hx)
  obtain ⟨j', o2, e2, rfl⟩ := g2.at
  have ei : i' = i := nodup_ix st.nd ((hΓ.mono s1).name e1) hi
  have ej : j' = j := nodup_ix st.nd (gg.name e2) hj
  subst ei ej
  exact ⟨v, w, rfl, _, M1, S1, q, s1, gg.put e2 rw' (st.loc y hy), m1⟩
theorem ws_expr (h : WE X Γ M e fun _ M1 => E.nx Γ M1) (hs : swapsWith e none pos.line X.env = pure false := by rfl) : WS X Γ M (.Expr e pos) E := by
  intro S σ H hΓ hM
  exact tS_of (ps_expr pe_c hs) (tE_post (h S σ H hΓ hM) fun d M1 S1 v H1 q s1 m1 _ => ⟨Γ, M1, S1, q, s1, hΓ.mono s1, m1⟩)
theorem ws_ret (h : WE X Γ M e E.rt) : WS X Γ M (.Return (some e) pos) E := fun S σ H hΓ hM => tS_of (ps_ret pe_c) (h S σ H hΓ hM)
theorem ws_retN (q : E.rt .non M) : WS X Γ M (.Return none pos) E := fun S σ H hΓ hM => tS_of ps_retN (Post.of hM .non q)
theorem ws_pass (q : E.nx Γ M) : WS X Γ M (.Pass pos) E := fun S σ H hΓ hM => tS_of ps_pass ⟨Γ, M, S, q, .refl _, hΓ, hM⟩
theorem ws_break (q : E.bk Γ M) : WS X Γ M (.Break pos) E := fun S σ H hΓ hM => tS_of ps_break ⟨Γ, M, S, q, .refl _, hΓ, hM⟩
theorem ws_cont (q : E.ct Γ M) : WS X Γ M (.Continue pos) E := fun S σ H hΓ hM => tS_of ps_continue ⟨Γ, M, S, q, .refl _, hΓ, hM⟩
theorem ws_if {s t : List Stmt} (h : WT X Γ M c fun k M1 => if k = true then WSs X Γ M1 s E else WSs X Γ M1 t E) : WS X Γ M (.If c s t pos) E := by
  intro S σ H hΓ hM
  refine tS_of (ps_if pt_c pss_c pss_c) (tT_post (h S σ H hΓ hM) fun k M1 S1 H1 q s1 m1 => ?_)
  cases k with
  | true => exact tSs_weak (q S1 σ H1 (hΓ.mono s1) m1) s1
  | false => exact tSs_weak (q S1 σ H1 (hΓ.mono s1) m1) s1
/-- x += e on ints -/
theorem ws_augI {op : Operator} {g : Int → Int → Int} {u : Int} {pos' : Pos} (st : Stat X Ln Vn Bn Fn) (hx : x ∈ Ln) (hop : PIp X op (ipI g)) (hl : Look Γ x (.int u)) (h : WE X Γ M e fun d M1 => ∃ (w : Int) (Γ' : VEnv), d = .int w ∧ SetAt Γ x (.int (g u w)) Γ' ∧ E.nx Γ' M1) : WS X Γ M (.AugAssign (.Name x pos') op e pos) E := by
  intro S σ H hΓ hM
  obtain ⟨i, ei⟩ := hl.at
  obtain ⟨v, hv, rv⟩ := hΓ.vals i x _ ei
  refine tS_of (ps_aug st.nd (hΓ.name ei) (st.loc x hx).1 pe_c hop (st.loc x hx).2) ⟨v, hv, tE_post (h S σ H hΓ hM) ?_⟩
  rintro d M1 S1 w' H1 ⟨w, Γ', rfl, h2, q⟩ s1 m1 r1
  obtain ⟨i', o, e2, rfl⟩ := h2.at
  have ii : i' = i := nodup_ix st.nd ((hΓ.mono s1).name e2) (hΓ.name ei)
  subst ii
  exact ⟨u, w, rv.int_inv, r1.int_inv, _, M1, S1, q, s1, (hΓ.mono s1).put e2 (.int _) (st.loc x hx), m1⟩

/-! ### loops -/
theorem ws_for {body : List Stmt} (st : Stat X Ln Vn Bn Fn) (h : WI X Γ M tg iter fun items Stb M1 => ∃ I : Nat → VEnv → Mem → Prop, I 0 Γ M1 ∧ (∀ i Γ' M', I i Γ' M' → Stb M') ∧
      (∀ i x Γ' M', items[i]? = some x → I i Γ' M' → WG X Γ' M' tg x fun Γ2 M2 => WSs X Γ2 M2 body { E with nx := I (i + 1), ct := I (i + 1), bk := E.nx }) ∧ ∀ Γ' M', I items.length Γ' M' → E.nx Γ' M')
    (hs : ∀ x, foldedSetIterable iter X.env x = pure x := by intro _; rfl) : WS X Γ M (.For tg iter body [] pos) E := by
  intro S σ H hΓ hM
  refine tS_of (ps_for st.po st.calm pi_c pg_c pss_c hs) (tI_mono (h S σ H hΓ hM) ?_)
  rintro J H1 ⟨items, Stb, M1, S1, ⟨I, i0, istb, step, done⟩, s1, m1, W⟩
  refine ⟨fun i m σ' H' => m = items.length - i ∧ i ≤ items.length ∧ ∃ Γ' M' S', I i Γ' M' ∧ Same S1 S' ∧ SR X S' σ' Γ' ∧ MO X.K S' M' H', ⟨items.length, by simp, Nat.zero_le _, Γ, M1, S1, i0, .refl _, hΓ.mono s1, m1⟩, ?_⟩
  rintro i m σ2 H2 ⟨rfl, hi, Γ2, M2, S2, p, s2, e2, m2⟩
  by_cases hlt : i < items.length
  · refine .inr ⟨W.go S2 M2 H2 i s2 m2 (istb _ _ _ p) hlt, fun σ' H' => ∃ Γ' M' S', I (i + 1) Γ' M' ∧ Same S1 S' ∧ SR X S' σ' Γ' ∧ MO X.K S' M' H', fun σ' H' q => ⟨items.length - (i + 1), by omega, rfl, hlt, q⟩, fun x H' y => ?_⟩
    obtain ⟨d, S3, ed, s3, m3, r3⟩ := W.yld S2 M2 H2 i x H' s2 m2 (istb _ _ _ p) hlt y
    refine tG_mono (step i d Γ2 M2 ed p S3 σ2 H' x (e2.mono s3) m3 r3) ?_
    rintro σ4 H4 ⟨Γ4, M4, S4, q4, s4, e4, m4⟩
    have s14 := (s2.trans s3).trans s4
    intro pins s Iv
    refine thn (q4 S4 σ4 H4 e4 m4 pins s Iv) fun f s' q => SP.imp q ?_ ?_ ?_ ?_
    · rintro σ5 H5 ⟨Γ5, M5, S5, q5, s5, e5, m5⟩
      exact ⟨Γ5, M5, S5, q5, s14.trans s5, e5, m5⟩
    · exact fun v H5 z => Post.weak z (s1.trans s14)
    · exact fun σ5 H5 z => PostG.weak z (s1.trans s14)
    · rintro σ5 H5 ⟨Γ5, M5, S5, q5, s5, e5, m5⟩
      exact ⟨Γ5, M5, S5, q5, s14.trans s5, e5, m5⟩
  · have e : i = items.length := by omega
    subst e
    exact .inl ⟨W.stop S2 M2 H2 _ s2 m2 (istb _ _ _ p) (Nat.le_refl _), Γ2, M2, S2, done _ _ p, s1.trans s2, e2, m2⟩
theorem ws_while {body : List Stmt} (st : Stat X Ln Vn Bn Fn) (I : Nat → VEnv → Mem → Prop) (m0 : Nat) (i0 : I m0 Γ M)
    (step : ∀ m Γ' M', I m Γ' M' → WT X Γ' M' c fun k M1 => if k = true then WSs X Γ' M1 body { E with nx := fun Γ2 M2 => ∃ m', m' < m ∧ I m' Γ2 M2, ct := fun Γ2 M2 => ∃ m', m' < m ∧ I m' Γ2 M2, bk := E.nx } else E.nx Γ' M1) : WS X Γ M (.While c body [] pos) E := by
  intro S σ H hΓ hM
  refine tS_of (ps_while st.po pt_c pss_c) ⟨fun m σ' H' => ∃ Γ' M' S', I m Γ' M' ∧ Same S S' ∧ SR X S' σ' Γ' ∧ MO X.K S' M' H', ⟨m0, Γ, M, S, i0, .refl _, hΓ, hM⟩, ?_⟩
  rintro m σ2 H2 ⟨Γ2, M2, S2, p, s2, e2, m2⟩
  refine tT_post (step m Γ2 M2 p S2 σ2 H2 e2 m2) fun k M3 S3 H3 q3 s3 m3 => ?_
  have s13 := s2.trans s3
  cases k with
  | true =>
    rw [if_pos rfl] at q3 ⊢
    refine ⟨fun σ' H' => ∃ m', m' < m ∧ ∃ Γ' M' S', I m' Γ' M' ∧ Same S S' ∧ SR X S' σ' Γ' ∧ MO X.K S' M' H', fun σ' H' q => q, ?_⟩
    intro pins s Iv
    refine thn (q3 S3 σ2 H3 (e2.mono s3) m3 pins s Iv) fun f s' q => SP.imp q ?_ ?_ ?_ ?_
    · rintro σ5 H5 ⟨Γ5, M5, S5, ⟨m', hm, q5⟩, s5, e5, m5⟩
      exact ⟨m', hm, Γ5, M5, S5, q5, s13.trans s5, e5, m5⟩
    · exact fun v H5 z => Post.weak z s13
    · exact fun σ5 H5 z => PostG.weak z s13
    · rintro σ5 H5 ⟨Γ5, M5, S5, ⟨m', hm, q5⟩, s5, e5, m5⟩
      exact ⟨m', hm, Γ5, M5, S5, q5, s13.trans s5, e5, m5⟩
  | false =>
    rw [if_neg Bool.false_ne_true] at q3 ⊢
    exact ⟨Γ2, M3, S3, q3, s13, e2.mono s3, m3⟩
end
end DL

/-! Core6: list comprehensions. -/
namespace DL
open PySem PySem.Spec PyProof.Rows L2

inductive Unset : VEnv → Str → VEnv → Prop
  | here {Γ : VEnv} {x : Str} {o : Option D} : Unset ((x, o) :: Γ) x ((x, none) :: Γ)
  | there {Γ Γ' : VEnv} {x : Str} {p : Str × Option D} : Unset Γ x Γ' → Unset (p :: Γ) x (p :: Γ')
inductive Wiped : VEnv → List (Str × Nat) → VEnv → Prop
  | nil {Γ : VEnv} : Wiped Γ [] Γ
  | cons {Γ Γ1 Γ2 : VEnv} {x : Str} {i : Nat} {own : List (Str × Nat)} : Unset Γ x Γ1 → Wiped Γ1 own Γ2 → Wiped Γ ((x, i) :: own) Γ2
theorem Unset.at {Γ Γ' : VEnv} {x : Str} (h : Unset Γ x Γ') : ∃ (i : Nat) (o : Option D), Γ[i]? = some (x, o) ∧ Γ' = Γ.set i (x, none) := by
  induction h with
  | here => exact ⟨0, _, rfl, rfl⟩
  | there _ ih => exact let ⟨i, o, e, q⟩ := ih; ⟨i + 1, o, by simpa using e, by rw [q]; rfl⟩
theorem set_name {Γ : VEnv} {i : Nat} {x : Str} {o o' : Option D} (h : Γ[i]? = some (x, o)) : (Γ.set i (x, o')).map (·.1) = Γ.map (·.1) := by
  rw [List.map_set]
  obtain ⟨hlt, e⟩ := List.getElem?_eq_some_iff.mp h
  have hl : i < (Γ.map (·.1)).length := by rw [List.length_map]; exact hlt
  have e2 : (Γ.map (·.1))[i] = x := by rw [List.getElem_map, e]
  show (Γ.map (·.1)).set i x = _
  rw [← e2]; exact List.set_getElem_self hl
theorem Wiped.names {Γ Γ' : VEnv} {own : List (Str × Nat)} (h : Wiped Γ own Γ') : Γ'.map (·.1) = Γ.map (·.1) := by
  induction h with
  | nil => rfl
  | cons u _ ih =>
    obtain ⟨i, o, e, rfl⟩ := u.at
    rw [ih, set_name e]
theorem Wiped.back {N : List Str} (nd : N.Nodup) {Γ Γ' : VEnv} {own : List (Str × Nat)} (h : Wiped Γ own Γ') : Γ.map (·.1) = N → (∀ p ∈ own, N[p.2]? = some p.1) → ∀ (j : Nat) (x : Str) (d : D), Γ'[j]? = some (x, some d) → Γ[j]? = some (x, some d) ∧ ∀ p ∈ own, j ≠ p.2 := by
  induction h with
  | nil => exact fun _ _ j x d h => ⟨h, fun p hp => by cases hp⟩
  | @cons Γ Γ1 Γ2 x i own u _ ih =>
    intro hn ho j y d hj
    obtain ⟨k, o, e, rfl⟩ := u.at
    obtain ⟨h1, h2⟩ := ih (by rw [set_name e]; exact hn) (fun p hp => ho p (List.mem_cons_of_mem _ hp)) j y d hj
    have hk : k < Γ.length := (List.getElem?_eq_some_iff.mp e).1
    have hjk : k ≠ j := fun q => by
      subst q
      rw [List.getElem?_set_self hk] at h1
      cases h1
    rw [List.getElem?_set_ne hjk] at h1
    refine ⟨h1, fun p hp => ?_⟩
    rcases List.mem_cons.mp hp with q | hp
    · subst q
      have a1 : N[k]? = some x := by rw [← hn, List.getElem?_map, e]; rfl
      exact fun q => hjk (nodup_ix nd a1 (by rw [q]; exact ho _ List.mem_cons_self))
    · exact h2 p hp
theorem wipe_idem {σ : L2.St} {i : Nat} {y : Option V} : ∀ {vs : List Nat}, i ∈ vs → wipe (σ.set i y) vs = wipe σ vs
  | [], h => by cases h
  | v :: vs, h => by
    unfold wipe
    by_cases hi : i ∈ vs
    · rw [wipe_idem hi]
    · have e : v = i := by
        rcases List.mem_cons.mp h with q | q
        · exact q.symm
        · exact absurd q hi
      subst e
      have comm : ∀ ws : List Nat, v ∉ ws → wipe (σ.set v y) ws = (wipe σ ws).set v y := by
        intro ws
        induction ws with
        | nil => intro _; rfl
        | cons w ws ih =>
          intro hw
          unfold wipe
          rw [ih fun z => hw (List.mem_cons_of_mem _ z), List.set_comm _ _ (fun q => hw (by rw [q]; exact List.mem_cons_self))]
      rw [comm vs hi, List.set_set]
theorem wipe_wipe {σ : L2.St} : ∀ {vs ws : List Nat}, (∀ v ∈ vs, v ∈ ws) → wipe (wipe σ vs) ws = wipe σ ws
  | [], ws, _ => rfl
  | v :: vs, ws, h => by
    show wipe ((wipe σ vs).set v none) ws = _
    rw [wipe_idem (h v List.mem_cons_self), wipe_wipe fun u hu => h u (List.mem_cons_of_mem _ hu)]

section
variable {X : Cx} {Γ Γ' Γb : VEnv} {M : Mem} {Q : D → Mem → Prop} {x : Str} {pos p px : Pos} {elt tg iter : Expr} {ifs : List Expr} {Ln Vn Bn Fn Vb Bb Fb : List Str} {E : DE} {scope : Scope} {own : List (Str × Nat)}

theorem SR.wipe {S : Hp} {σ : L2.St} (r : SR X S σ Γ) (nd : X.N.Nodup) (h : Wiped Γ own Γb) (ho : ∀ p ∈ own, X.N[p.2]? = some p.1) : SR X S (wipe σ (own.map (·.2))) Γb := by
  refine ⟨by rw [wipe_length]; exact r.len, by rw [h.names]; exact r.names, fun j y d hj => ?_⟩
  obtain ⟨h1, h2⟩ := h.back nd r.names ho j y d hj
  obtain ⟨v, hv, rv⟩ := r.vals j y d h1
  refine ⟨v, ?_, rv⟩
  rw [wipe_out fun hm => ?_]
  · exact hv
  · obtain ⟨q, hq, e⟩ := List.mem_map.mp hm
    exact h2 q hq e.symm
/-- the block's context -/
abbrev BX (X : Cx) (scope : Scope) (s : Shared) (H : Hp) (C : Addr) (cl : List (Str × Addr)) (fp : List Addr) : Cx := X.blk s H scope (compEnvC scope cl C X.env) fp
/-- of every block -/
def AB (X : Cx) (scope : Scope) (φ : Cx → Prop) : Prop := ∀ (s : Shared) (H : Hp) (C : Addr) (cl : List (Str × Addr)) (fp : List Addr), φ (BX X scope s H C cl fp)
def WTs (X : Cx) (Γ : VEnv) (M : Mem) : List Expr → (Bool → Mem → Prop) → Prop
  | [], Q => Q true M
  | [c], Q => WT X Γ M c Q
  | _, _ => False
def tTs (X : Cx) : List Expr → TT
  | [] => tYes
  | [c] => tT X c
  | _ => fun _ _ _ => False
theorem pts_c : ∀ {ifs : List Expr}, ifs.length ≤ 1 → PTs X ifs (tTs X ifs)
  | [], _ => pts_nil
  | [c], _ => pts_one pt_c
  | _ :: _ :: _, h => by simp at h
theorem tTs_post {S : Hp} {σ : L2.St} {H : Hp} {R : Bool → Hp → Prop} {QB : Bool → Mem → Prop} : ∀ {ifs : List Expr}, WTs X Γ M ifs QB → SR X S σ Γ → MO X.K S M H → (∀ k M S' H', QB k M → Same S S' → MO X.K S' M H' → R k H') → tTs X ifs σ H R
  | [], h, hΓ, hM, m => m true M S H h (.refl _) hM
  | [c], h, hΓ, hM, m => tT_post (h S σ H hΓ hM) m
  | _ :: _ :: _, h, _, _, _ => h.elim

/-- what a turn of a comprehension does: at the item d -/
def Turn1 (X : Cx) (scope : Scope) (Γ2 : VEnv) (ifs : List Expr) (elt : Expr) (I : Nat → List D → Mem → Prop) (k : Nat) (acc : List D) (M' : Mem) : Prop :=
  ∀ L : Addr, AB X scope fun X1 => WTs X1 Γ2 ((L, .lst acc) :: M') ifs fun b M3 => if b = true then AB X scope fun X2 => WE X2 Γ2 M3 elt fun d M4 => acc.length < sizeLine ∧ ∃ M5, M4 = (L, .lst acc) :: M5 ∧ I (k + 1) (acc ++ [d]) M5
    else ∃ M5, M3 = (L, .lst acc) :: M5 ∧ I (k + 1) acc M5
/-- the target: a name, or a tuple of names -/
inductive SetAts : VEnv → List Str → List D → VEnv → Prop
  | nil {Γ : VEnv} : SetAts Γ [] [] Γ
  | cons {Γ Γ1 Γ2 : VEnv} {x : Str} {d : D} {xs : List Str} {ds : List D} : SetAt Γ x d Γ1 → SetAts Γ1 xs ds Γ2 → SetAts Γ (x :: xs) (d :: ds) Γ2
def gNames : List Nat → TGs
  | [] => gNil
  | i :: is => gCons (gName i) (gNames is)

def tEall (X : Cx) (scope : Scope) (e : Expr) : TE := fun σ H R => AB X scope fun X1 => tE X1 e σ H R
def tTall (X : Cx) (scope : Scope) (ifs : List Expr) : TT := fun σ H R => AB X scope fun X1 => tTs X1 ifs σ H R
theorem lc_read {g : TG} {S : Hp} {σ : L2.St} {H : Hp} {R : VK} (hΓ : SR X S σ Γ) (hM : MO X.K S M H)
    (h : WI X Γ M tg iter fun items Stb M1 => ∃ I : Nat → List D → Mem → Prop, I 0 [] M1 ∧ (∀ i acc M' L, I i acc M' → Stb ((L, .lst acc) :: M')) ∧
      (∀ i d acc M', items[i]? = some d → I i acc M' → ∃ Γ2, (∀ (S' : Hp) (v : V) (H' : Hp) (k : L2.St → Hp → Prop), Rep X.K S' v d → SR X S' σ Γ → MO X.K S' M' H' → (∀ σ2, SR X S' σ2 Γ2 → wipe σ2 (own.map (·.2)) = wipe σ (own.map (·.2)) → k σ2 H') → g v (wipe σ (own.map (·.2))) H' k) ∧ Turn1 X scope Γ2 ifs elt I i acc M') ∧
      ∀ acc M', I items.length acc M' → ∀ p, Q (.ref p) ((p, .lst acc) :: M')) (hR : ∀ v H', Post X.K S Q v H' → R v H') : tLc (tI X tg iter) g (tTall X scope ifs) (tEall X scope elt) (own.map (·.2)) σ H R := by
  refine tI_mono (h S σ H hΓ hM) ?_
  rintro J H1 ⟨items, Stb, M1, S1, ⟨I, i0, istb, step, done⟩, s1, m1, W⟩
  intro L hL
  refine ⟨fun i m H' => m = items.length - i ∧ i ≤ items.length ∧ ∃ acc M' S', I i acc M' ∧ Same S1 S' ∧ MO X.K S' ((L, .lst acc) :: M') H', ⟨items.length, by simp, Nat.zero_le _, [], M1, S1, i0, .refl _, m1.alloc hL ⟨[], upd_same, .nil⟩⟩, ?_⟩
  rintro i m H2 ⟨rfl, hi, acc, M2, S2, p, s2, m2⟩
  by_cases hlt : i < items.length
  · refine .inr ⟨W.go S2 _ H2 i s2 m2 (istb _ _ _ _ p) hlt, fun H' => ∃ acc M' S', I (i + 1) acc M' ∧ Same S1 S' ∧ MO X.K S' ((L, .lst acc) :: M') H', fun H' q => ⟨items.length - (i + 1), by omega, rfl, hlt, q⟩, fun v H' y => ?_⟩
    obtain ⟨d, S3, ed, s3, m3, r3⟩ := W.yld S2 _ H2 i v H' s2 m2 (istb _ _ _ _ p) hlt y
    obtain ⟨Γ2, tgt, turn⟩ := step i d acc M2 ed p
    have s13 := s2.trans s3
    refine tgt S3 v H' _ r3 (hΓ.mono (s1.trans s13)) m3.drop fun σ2 e2 hw => ⟨hw, ?_⟩
    intro sa Ha Ca cla fpa
    refine tTs_post (turn L sa Ha Ca cla fpa) ⟨e2.len, e2.names, e2.vals⟩ m3 fun b M4 S4 H4 q4 s4 m4 => ?_
    cases b with
    | true =>
      rw [if_pos rfl] at q4 ⊢
      intro sb Hb Cb clb fpb
      have e4 := e2.mono s4
      refine tE_post (q4 sb Hb Cb clb fpb S4 σ2 H4 ⟨e4.len, e4.names, e4.vals⟩ m4) ?_
      rintro d5 M5 S5 v5 H5 ⟨hz, M6, rfl, q6⟩ s5 m5 r5
      obtain ⟨us, hx, ru⟩ := m5.at_ok At.here
      exact ⟨us, hx, by rw [ru.length]; exact hz, acc ++ [d5], M6, S5, q6, (s13.trans s4).trans s5, m5.writeL At.here (ru.append (.one r5))⟩
    | false =>
      rw [if_neg Bool.false_ne_true] at q4 ⊢
      obtain ⟨M5, rfl, q5⟩ := q4
      exact ⟨acc, M5, S4, q5, s13.trans s4, m4⟩
  · have e : i = items.length := by omega
    subst e
    exact .inl ⟨W.stop S2 _ H2 _ s2 m2 (istb _ _ _ _ p) (Nat.le_refl _), hR _ _ ⟨_, _, S2, done _ _ p L, s1.trans s2, m2, .ref L⟩⟩

theorem tgt_name {i : Nat} {d : D} {Γ2 : VEnv} {S : Hp} {σ : L2.St} (nd : X.N.Nodup) (hxi : (x, i) ∈ own) (ho : ∀ p ∈ own, X.N[p.2]? = some p.1) (hwp : Wiped Γ own Γb) (hs : SetAt Γb x d Γ2) :
    ∀ (S' : Hp) (v : V) (H' : Hp) (k : L2.St → Hp → Prop), Rep X.K S' v d → SR X S' σ Γ → MO X.K S' M H' → (∀ σ2, SR X S' σ2 Γ2 → wipe σ2 (own.map (·.2)) = wipe σ (own.map (·.2)) → k σ2 H') → gName i v (wipe σ (own.map (·.2))) H' k := by
  intro S' v H' k r e m hk
  have e1 := e.wipe nd hwp ho
  obtain ⟨j, o, ej, rfl⟩ := hs.at
  have hj := e1.name ej
  have ij : j = i := nodup_ix nd hj (ho _ hxi)
  subst ij
  have hmem : j ∈ own.map (·.2) := List.mem_map.mpr ⟨_, hxi, rfl⟩
  refine hk _ ⟨by rw [List.length_set]; exact e1.len, by rw [set_name ej]; exact e1.names, fun l y d' hl => ?_⟩ (by rw [wipe_idem hmem, wipe_wipe fun v hv => hv])
  have hjlt : j < (wipe σ (own.map (·.2))).length := by rw [e1.len]; exact (List.getElem?_eq_some_iff.mp hj).1
  by_cases hjl : j = l
  · subst hjl
    rw [List.getElem?_set_self (List.getElem?_eq_some_iff.mp ej).1] at hl
    cases hl
    exact ⟨v, List.getElem?_set_self hjlt, r⟩
  · rw [List.getElem?_set_ne hjl] at hl
    obtain ⟨w, a, b⟩ := e1.vals l y d' hl
    exact ⟨w, by rw [List.getElem?_set_ne hjl]; exact a, b⟩
theorem tgt_names : ∀ {xs : List Str} {is : List Nat} {ds : List D} {Γ1 Γ2 : VEnv} {S' : Hp} {vs : List V} {σ1 : L2.St} {ws : List Nat} {H' : Hp} {k : L2.St → Hp → Prop}, X.N.Nodup → Paired (fun x i => X.N[i]? = some x ∧ i ∈ ws) xs is → SetAts Γ1 xs ds Γ2 → Reps X.K S' vs ds → SR X S' σ1 Γ1 →
    (∀ σ2, SR X S' σ2 Γ2 → wipe σ2 ws = wipe σ1 ws → k σ2 H') → gNames is vs σ1 H' k
  | _, _, _, _, _, _, _, _, _, _, _, nd, .nil, .nil, .nil, e, hk => ⟨rfl, hk _ e rfl⟩
  | _, _, _, _, _, S', _, σ1, ws, H', k, nd, .cons (a := x) (b := i) hx t, .cons (d := d) h1 h2, .cons (v := v) r rs, e, hk => by
    refine ⟨_, _, rfl, ?_⟩
    obtain ⟨j, o, ej, rfl⟩ := h1.at
    have hj := e.name ej
    have ij : j = i := nodup_ix nd hj hx.1
    subst ij
    have hjlt : j < σ1.length := by rw [e.len]; exact (List.getElem?_eq_some_iff.mp hj).1
    have e1 : SR X S' (σ1.set j (some v)) _ := ⟨by rw [List.length_set]; exact e.len, by rw [set_name (o' := some d) ej]; exact e.names, fun l y d' hl => by
      by_cases hjl : j = l
      · subst hjl
        rw [List.getElem?_set_self (List.getElem?_eq_some_iff.mp ej).1] at hl
        cases hl
        exact ⟨v, List.getElem?_set_self hjlt, r⟩
      · rw [List.getElem?_set_ne hjl] at hl
        obtain ⟨w, a, b⟩ := e.vals l y d' hl
        exact ⟨w, by rw [List.getElem?_set_ne hjl]; exact a, b⟩⟩
    exact tgt_names nd t h2 rs e1 fun σ2 e2 hw => hk σ2 e2 (by rw [hw, wipe_idem hx.2])

theorem pg_nm {X : Cx} {Ln Vn Bn Fn : List Str} {x : Str} {i : Nat} {px : Pos} (st : Stat X Ln Vn Bn Fn) (hx : x ∈ Ln) (hi : X.N[i]? = some x) : PG X (.Name x px) (gName i) := pg_name st.nd hi (st.loc x hx).1 (st.loc x hx).2
/-- [elt for x in iter if ..] -/
theorem we_lc {i : Nat} (st : Stat X Ln Vn Bn Fn) (st' : AB X scope fun X1 => Stat X1 (own.map (·.1)) Vb Bb Fb) (hxi : (x, i) ∈ own) (ok : BlkOk X.N X.env.scope scope own) (hwp : Wiped Γ own Γb) (hif : ifs.length ≤ 1)
    (h : WI X Γ M (.Name x px) iter fun items Stb M1 => ∃ I : Nat → List D → Mem → Prop, I 0 [] M1 ∧ (∀ i acc M' L, I i acc M' → Stb ((L, .lst acc) :: M')) ∧
      (∀ i d acc M', items[i]? = some d → I i acc M' → ∃ Γ2, SetAt Γb x d Γ2 ∧ Turn1 X scope Γ2 ifs elt I i acc M') ∧ ∀ acc M', I items.length acc M' → ∀ p, Q (.ref p) ((p, .lst acc) :: M')) (hs : ∀ x, foldedSetIterable iter X.env x = pure x := by intro _; rfl) :
    WE X Γ M (.ListComp elt [⟨.Name x px, iter, ifs, 0⟩] scope pos) Q := by
  intro S σ H hΓ hM
  refine tE_of (pe_lc (g := gName i) (tt := tTall X scope ifs) (te := tEall X scope elt) st.calm st.nd pi_c ok (fun s H C cl fp => pg_nm (st' s H C cl fp) (List.mem_map.mpr ⟨_, hxi, rfl⟩) (ok.ix _ hxi)) (fun s H C cl fp => ?_) (fun s H C cl fp => ?_) hs) ?_
  · exact ⟨fun pins s' σ' H' R I q => (pts_c hif).run pins s' σ' H' R I (q s H C cl fp)⟩
  · exact ⟨fun pins s' σ' H' R I q => q s H C cl fp pins s' I⟩
  · refine lc_read (Γ := Γ) hΓ hM (fun S σ' H' a b => tI_mono (h S σ' H' a b) ?_) fun _ _ z => z
    rintro J H1 ⟨items, Stb, M1, S1, ⟨I, i0, istb, step, done⟩, s1, m1, W⟩
    exact ⟨items, Stb, M1, S1, ⟨I, i0, istb, fun i d acc M' e p => let ⟨Γ2, hs2, t⟩ := step i d acc M' e p; ⟨Γ2, tgt_name (S := S) st.nd hxi ok.ix hwp hs2, t⟩, done⟩, s1, m1, W⟩
/-- [elt for x, y, .. in iter if ..] -/
theorem we_lcT {xs : List Str} {is : List Nat} {ts : List Expr} {kk n : Nat} (st : Stat X Ln Vn Bn Fn) (st' : AB X scope fun X1 => Stat X1 (own.map (·.1)) Vb Bb Fb) (hxi : Paired (fun x i => (x, i) ∈ own) xs is) (ok : BlkOk X.N X.env.scope scope own) (hwp : Wiped Γ own Γb) (hif : ifs.length ≤ 1)
    (hts : AB X scope fun X1 => PGs X1 ts (gNames is)) (hn : AB X scope fun X1 => (assignEach ts X1.env).length = n ∧ (assignEach ts X1.env).findIdx? (·.1) = none)
    (h : WI X Γ M (.Tuple ts kk px) iter fun items Stb M1 => ∃ I : Nat → List D → Mem → Prop, I 0 [] M1 ∧ (∀ i acc M' L, I i acc M' → Stb ((L, .lst acc) :: M')) ∧
      (∀ i d acc M', items[i]? = some d → I i acc M' → ∃ ds Γ2, d = .tup ds ∧ ds.length = n ∧ SetAts Γb xs ds Γ2 ∧ Turn1 X scope Γ2 ifs elt I i acc M') ∧ ∀ acc M', I items.length acc M' → ∀ p, Q (.ref p) ((p, .lst acc) :: M')) (hs : ∀ x, foldedSetIterable iter X.env x = pure x := by intro _; rfl) :
    WE X Γ M (.ListComp elt [⟨.Tuple ts kk px, iter, ifs, 0⟩] scope pos) Q := by
  intro S σ H hΓ hM
  refine tE_of (pe_lc (g := gTup X.K n (gNames is)) (tt := tTall X scope ifs) (te := tEall X scope elt) st.calm st.nd pi_c ok (fun s H C cl fp => pg_tup (st' s H C cl fp).calm (hts s H C cl fp) (hn s H C cl fp).1 (hn s H C cl fp).2) (fun s H C cl fp => ?_) (fun s H C cl fp => ?_) hs) ?_
  · exact ⟨fun pins s' σ' H' R I q => (pts_c hif).run pins s' σ' H' R I (q s H C cl fp)⟩
  · exact ⟨fun pins s' σ' H' R I q => q s H C cl fp pins s' I⟩
  · refine lc_read (Γ := Γ) hΓ hM (fun S σ' H' a b => tI_mono (h S σ' H' a b) ?_) fun _ _ z => z
    rintro J H1 ⟨items, Stb, M1, S1, ⟨I, i0, istb, step, done⟩, s1, m1, W⟩
    refine ⟨items, Stb, M1, S1, ⟨I, i0, istb, fun i d acc M' e p => ?_, done⟩, s1, m1, W⟩
    obtain ⟨ds, Γ2, rfl, hl, hs2, t⟩ := step i d acc M' e p
    refine ⟨Γ2, fun S' v H' k r e m hk => ?_, t⟩
    obtain ⟨pa, us, rfl, h1, ru⟩ := Rep.tup_get m r
    refine ⟨pa, us, rfl, .of h1, by rw [ru.length]; exact hl, tgt_names (ws := own.map (·.2)) st.nd (Paired.mapP hxi fun a b q => ⟨ok.ix _ q, List.mem_map.mpr ⟨_, q, rfl⟩⟩) hs2 ru (e.wipe st.nd hwp ok.ix) fun σ2 e2 hw => hk σ2 e2 (by rw [hw, wipe_wipe fun v hv => hv])⟩

/-- name = [elt for x in iter if ..] on one line -/
theorem ws_setLc {i j : Nat} {y : Str} {py spos : Pos} (st : Stat X Ln Vn Bn Fn) (hy : y ∈ Ln) (hyl : X.env.scope.names.lookup y = some .local) (hk : X.env.scope.kind = .function) (hNy : X.N[j]? = some y) (ha : (scope.names.any fun (n, k) => n == y && (k == .local || k == .cell)) = false)
    (st' : AB X scope fun X1 => Stat X1 (own.map (·.1)) Vb Bb Fb) (hxi : (x, i) ∈ own) (ok : BlkOk X.N X.env.scope scope own) (hwp : Wiped Γ own Γb) (hif : ifs.length ≤ 1)
    (h : WI X Γ M (.Name x px) iter fun items Stb M1 => ∃ I : Nat → List D → Mem → Prop, I 0 [] M1 ∧ (∀ i acc M' L, I i acc M' → Stb ((L, .lst acc) :: M')) ∧
      (∀ i d acc M', items[i]? = some d → I i acc M' → ∃ Γ2, SetAt Γb x d Γ2 ∧ Turn1 X scope Γ2 ifs elt I i acc M') ∧ ∀ acc M', I items.length acc M' → ∀ p, ∃ Γ', SetAt Γ y (.ref p) Γ' ∧ E.nx Γ' ((p, .lst acc) :: M'))
    (hl : (py.line == pos.line) = true := by rfl) (hl2 : spos.line = py.line := by rfl) (hs : ∀ x, foldedSetIterable iter X.env x = pure x := by intro _; rfl) :
    WS X Γ M (.Assign [.Name y py] (.ListComp elt [⟨.Name x px, iter, ifs, 0⟩] scope pos) spos) E := by
  intro S σ H hΓ hM
  have sw : swapsWith (.ListComp elt [⟨.Name x px, iter, ifs, 0⟩] scope pos) (some (.Name y py)) spos.line X.env = pure true := sw_true hk hyl hl ha
  refine tS_of (ps_setLc (g := gName i) (tt := tTall X scope ifs) (te := tEall X scope elt) st.calm st.nd hNy hyl sw pi_c ok (fun s H C cl fp => pg_nm (st' s H C cl fp) (List.mem_map.mpr ⟨_, hxi, rfl⟩) (ok.ix _ hxi)) (fun s H C cl fp => ?_) (fun s H C cl fp => ?_) hs) ?_
  · exact ⟨fun pins s' σ' H' R I q => (pts_c hif).run pins s' σ' H' R I (q s H C cl fp)⟩
  · exact ⟨fun pins s' σ' H' R I q => q s H C cl fp pins s' I⟩
  · show tLc (tI X (.Name x px) iter) (gName i) (tTall X scope ifs) (tEall X scope elt) (own.map (·.2)) σ H (fun v H' => gName j v σ H' (PostG X S E.nx))
    refine lc_read (Γ := Γ) (Q := fun d M' => ∃ Γ', SetAt Γ y d Γ' ∧ E.nx Γ' M') hΓ hM (fun S σ' H' a b => tI_mono (h S σ' H' a b) ?_) ?_
    · rintro J H1 ⟨items, Stb, M1, S1, ⟨I, i0, istb, step, done⟩, s1, m1, W⟩
      exact ⟨items, Stb, M1, S1, ⟨I, i0, istb, fun i d acc M' e p => let ⟨Γ2, hs2, t⟩ := step i d acc M' e p; ⟨Γ2, tgt_name (S := S) st.nd hxi ok.ix hwp hs2, t⟩, done⟩, s1, m1, W⟩
    · rintro v H' ⟨d, M1, S1, ⟨Γ', hp, q⟩, s1, m1, r1⟩
      obtain ⟨l, o, e, rfl⟩ := hp.at
      have hΓ1 := hΓ.mono s1
      have lj : l = j := nodup_ix st.nd (hΓ1.name e) hNy
      subst lj
      exact ⟨_, M1, S1, q, s1, hΓ1.put e r1 (st.loc y hy), m1⟩
/-- name = [elt for x, y, .. in iter if ..] on one line -/
theorem ws_setLcT {j : Nat} {y : Str} {py spos : Pos} {xs : List Str} {is : List Nat} {ts : List Expr} {kk n : Nat} (st : Stat X Ln Vn Bn Fn) (hy : y ∈ Ln) (hyl : X.env.scope.names.lookup y = some .local) (hk : X.env.scope.kind = .function) (hNy : X.N[j]? = some y) (ha : (scope.names.any fun (n, k) => n == y && (k == .local || k == .cell)) = false)
    (st' : AB X scope fun X1 => Stat X1 (own.map (·.1)) Vb Bb Fb) (hxi : Paired (fun x i => (x, i) ∈ own) xs is) (ok : BlkOk X.N X.env.scope scope own) (hwp : Wiped Γ own Γb) (hif : ifs.length ≤ 1)
    (hts : AB X scope fun X1 => PGs X1 ts (gNames is)) (hn : AB X scope fun X1 => (assignEach ts X1.env).length = n ∧ (assignEach ts X1.env).findIdx? (·.1) = none)
    (h : WI X Γ M (.Tuple ts kk px) iter fun items Stb M1 => ∃ I : Nat → List D → Mem → Prop, I 0 [] M1 ∧ (∀ i acc M' L, I i acc M' → Stb ((L, .lst acc) :: M')) ∧
      (∀ i d acc M', items[i]? = some d → I i acc M' → ∃ ds Γ2, d = .tup ds ∧ ds.length = n ∧ SetAts Γb xs ds Γ2 ∧ Turn1 X scope Γ2 ifs elt I i acc M') ∧ ∀ acc M', I items.length acc M' → ∀ p, ∃ Γ', SetAt Γ y (.ref p) Γ' ∧ E.nx Γ' ((p, .lst acc) :: M'))
    (hl : (py.line == pos.line) = true := by rfl) (hs : ∀ x, foldedSetIterable iter X.env x = pure x := by intro _; rfl) :
    WS X Γ M (.Assign [.Name y py] (.ListComp elt [⟨.Tuple ts kk px, iter, ifs, 0⟩] scope pos) spos) E := by
  intro S σ H hΓ hM
  have sw : swapsWith (.ListComp elt [⟨.Tuple ts kk px, iter, ifs, 0⟩] scope pos) (some (.Name y py)) spos.line X.env = pure true := sw_true hk hyl hl ha
  refine tS_of (ps_setLc (g := gTup X.K n (gNames is)) (tt := tTall X scope ifs) (te := tEall X scope elt) st.calm st.nd hNy hyl sw pi_c ok (fun s H C cl fp => pg_tup (st' s H C cl fp).calm (hts s H C cl fp) (hn s H C cl fp).1 (hn s H C cl fp).2) (fun s H C cl fp => ?_) (fun s H C cl fp => ?_) hs) ?_
  · exact ⟨fun pins s' σ' H' R I q => (pts_c hif).run pins s' σ' H' R I (q s H C cl fp)⟩
  · exact ⟨fun pins s' σ' H' R I q => q s H C cl fp pins s' I⟩
  · show tLc (tI X (.Tuple ts kk px) iter) (gTup X.K n (gNames is)) (tTall X scope ifs) (tEall X scope elt) (own.map (·.2)) σ H (fun v H' => gName j v σ H' (PostG X S E.nx))
    refine lc_read (Γ := Γ) (Q := fun d M' => ∃ Γ', SetAt Γ y d Γ' ∧ E.nx Γ' M') hΓ hM (fun S σ' H' a b => tI_mono (h S σ' H' a b) ?_) ?_
    · rintro J H1 ⟨items, Stb, M1, S1, ⟨I, i0, istb, step, done⟩, s1, m1, W⟩
      refine ⟨items, Stb, M1, S1, ⟨I, i0, istb, fun i d acc M' e p => ?_, done⟩, s1, m1, W⟩
      obtain ⟨ds, Γ2, rfl, hl, hs2, t⟩ := step i d acc M' e p
      refine ⟨Γ2, fun S' v H' k r e m hk => ?_, t⟩
      obtain ⟨pa, us, rfl, h1, ru⟩ := Rep.tup_get m r
      refine ⟨pa, us, rfl, .of h1, by rw [ru.length]; exact hl, tgt_names (ws := own.map (·.2)) st.nd (Paired.mapP hxi fun a b q => ⟨ok.ix _ q, List.mem_map.mpr ⟨_, q, rfl⟩⟩) hs2 ru (e.wipe st.nd hwp ok.ix) fun σ2 e2 hw => hk σ2 e2 (by rw [hw, wipe_wipe fun v hv => hv])⟩
    · rintro v H' ⟨d, M1, S1, ⟨Γ', hp, q⟩, s1, m1, r1⟩
      obtain ⟨l, o, e, rfl⟩ := hp.at
      have hΓ1 := hΓ.mono s1
      have lj : l = j := nodup_ix st.nd (hΓ1.name e) hNy
      subst lj
      exact ⟨_, M1, S1, q, s1, hΓ1.put e r1 (st.loc y hy), m1⟩

/-! ### a block's own names, checked once -/
def blkChk (sc scope : Scope) (own Vb Bb Fb Bx : List Str) : Bool :=
  (Vb.all fun x => (match (relS scope sc).names.lookup x with | some .local => true | some .cell => true | some .free => true | _ => false) && !(x == ("__debug__" : Str)) && !(x == ("__classdict__" : Str))) &&
  (own.all fun x => (match (relS scope sc).names.lookup x with | some .local => true | some .cell => scope.names.lookup x == some .cell | _ => false)) &&
  ((Bb ++ Fb).all fun x => (relS scope sc).names.lookup x == some .globalImplicit) && (Bb.all fun x => decide (x ∈ Bx) && !(x == ("__name__" : Str))) && ((Bb ++ Fb).all fun x => !(x == ("__debug__" : Str)))
theorem blk_stat {sc : Scope} {ow Bx : List Str} (st : Stat X Ln Vn Bn Fn) (hBx : ∀ x ∈ Bx, X.mg x = none) (hsc : X.env.scope = sc) (c : blkChk sc scope ow Vb Bb Fb Bx = true) : AB X scope fun X1 => Stat X1 ow Vb Bb Fb := by
  intro s H C cl fp
  have hr : (BX X scope s H C cl fp).env.scope = relS scope sc := by rw [← hsc]; rfl
  unfold blkChk at c
  simp only [Bool.and_eq_true, List.all_eq_true] at c
  obtain ⟨⟨⟨⟨c1, c2⟩, c3⟩, c4⟩, c5⟩ := c
  refine ⟨st.calm, fun x hx => ?_, PassesOwn.never, st.nd, fun x hx => ?_, fun x hx => ?_, fun x hx => ?_, st.hu, st.gd⟩
  · have q := c1 x hx
    refine ⟨?_, by simpa using q.1.2, by simpa using q.2⟩
    show Vis (BX X scope s H C cl fp).env.scope x
    rw [hr]
    have q1 := q.1.1
    unfold Vis
    split at q1 <;> first | exact .inl (by assumption) | exact .inr (.inl (by assumption)) | exact .inr (.inr (by assumption)) | cases q1
  · have q := c2 x hx
    show Loc (BX X scope s H C cl fp).env.scope x ∧ ((scope.names.lookup x == some .cell) = true ∨ (BX X scope s H C cl fp).env.scope.names.lookup x = some .local)
    rw [hr]
    unfold L2.Loc
    split at q
    · rename_i h1
      exact ⟨.inl h1, .inr h1⟩
    · rename_i h1
      exact ⟨.inr h1, .inl q⟩
    · cases q
  · have g := c4 x hx
    have g5 := c5 x (List.mem_append_left _ hx)
    refine ⟨?_, hBx x (by simpa using g.1), by simpa using g.2, by simpa using g5⟩
    show (BX X scope s H C cl fp).env.scope.names.lookup x = some .globalImplicit
    rw [hr]
    simpa using c3 x (List.mem_append_left _ hx)
  · have g5 := c5 x (List.mem_append_right _ hx)
    refine ⟨?_, by simpa using g5⟩
    show (BX X scope s H C cl fp).env.scope.names.lookup x = some .globalImplicit
    rw [hr]
    simpa using c3 x (List.mem_append_right _ hx)
theorem pgs_n2 {x y : Str} {i j : Nat} {px py : Pos} (st' : AB X scope fun X1 => Stat X1 (own.map (·.1)) Vb Bb Fb) (ok : BlkOk X.N X.env.scope scope own) (hx : (x, i) ∈ own) (hy : (y, j) ∈ own) : AB X scope fun X1 => PGs X1 [.Name x px, .Name y py] (gNames [i, j]) := fun s H C cl fp =>
  pgs_cons (pg_nm (st' s H C cl fp) (List.mem_map.mpr ⟨_, hx, rfl⟩) (ok.ix _ hx)) (pgs_cons (pg_nm (st' s H C cl fp) (List.mem_map.mpr ⟨_, hy, rfl⟩) (ok.ix _ hy)) pgs_nil)
theorem pgs_n3 {x y z : Str} {i j k : Nat} {px py pz : Pos} (st' : AB X scope fun X1 => Stat X1 (own.map (·.1)) Vb Bb Fb) (ok : BlkOk X.N X.env.scope scope own) (hx : (x, i) ∈ own) (hy : (y, j) ∈ own) (hz : (z, k) ∈ own) : AB X scope fun X1 => PGs X1 [.Name x px, .Name y py, .Name z pz] (gNames [i, j, k]) := fun s H C cl fp =>
  pgs_cons (pg_nm (st' s H C cl fp) (List.mem_map.mpr ⟨_, hx, rfl⟩) (ok.ix _ hx)) (pgs_cons (pg_nm (st' s H C cl fp) (List.mem_map.mpr ⟨_, hy, rfl⟩) (ok.ix _ hy)) (pgs_cons (pg_nm (st' s H C cl fp) (List.mem_map.mpr ⟨_, hz, rfl⟩) (ok.ix _ hz)) pgs_nil))
end
end DL

/-! Core7: a def by its body, the law's end. -/
namespace DL
open PySem PySem.Spec PyProof.Rows L2

/-- the names at a def's entry -/
def startE : List Str → List D → VEnv
  | [], _ => []
  | x :: N, d :: ds => (x, some d) :: startE N ds
  | x :: N, [] => (x, none) :: startE N []
theorem startE_names : ∀ (N : List Str) (ds : List D), (startE N ds).map (·.1) = N
  | [], _ => rfl
  | x :: N, d :: ds => by rw [startE, List.map_cons, startE_names N ds]
  | x :: N, [] => by rw [startE, List.map_cons, startE_names N []]
theorem startE_at : ∀ {N : List Str} {ds : List D} {i : Nat} {x : Str} {d : D}, (startE N ds)[i]? = some (x, some d) → ds[i]? = some d
  | [], _, _, _, _, h => by simp [startE] at h
  | _ :: N, e :: ds, 0, x, d, h => by simp [startE] at h; simp [h.2]
  | _ :: N, e :: ds, i + 1, x, d, h => by
    simp only [startE, List.getElem?_cons_succ] at h ⊢
    exact startE_at h
  | _ :: N, [], 0, x, d, h => by simp [startE] at h
  | _ :: N, [], i + 1, x, d, h => by
    simp only [startE, List.getElem?_cons_succ] at h
    have := startE_at h
    simp at this

def defChk (sc : Scope) (Ln Bn Fn Bx : List Str) : Bool :=
  (Bn.all fun x => decide (x ∈ Bx)) && ((Ln.all fun x => (match sc.names.lookup x with | some .local => true | some .cell => true | _ => false) && !(x == ("__debug__" : Str)) && !(x == ("__classdict__" : Str))) &&
  ((Bn ++ Fn).all fun x => (sc.names.lookup x == some .globalImplicit) && !(x == ("__debug__" : Str))) && (Bn.all fun x => !(x == ("__name__" : Str))))

section
variable {P : Program} {w : World} {K : PySem.W.Frag} {mg : Str → Option Value} {base : Heap}
/-- what is known of the context of a def's body -/
structure Bod (P : Program) (w : World) (K : PySem.W.Frag) (mg : Str → Option Value) (base : Heap) (k : Nat) (sc : Scope) (N Ln Bn Fn Bx : List Str) (X : Cx) : Prop where
  st : Stat X Ln Ln Bn Fn
  sc : X.env.scope = sc
  N : X.N = N
  room : Room k X.A
  kind : X.env.scope.kind = .function
  tr : ∀ {j : Nat} {x : Str} {n : Nat} {G : DSp}, Fs P w K mg base j x n G → Fs X.prog X.w X.K X.mg X.base j x n G
  mg : X.mg = mg
  blt : ∀ x ∈ Bx, X.mg x = none
  base : X.base = base
  stk : X.stack = X.env :: X.outer
  frm : X.env.frame = some X.env.locals
  pr : X.prog = P
  wd : X.w = w
  fr : X.K = K
/-- THE RULE for a def by its body -/
theorem gok_body {x qual : Str} {sd : Stmt} {f : Addr} {fd : FuncData} {N Ln ps Bn Fn Bx : List Str} {k n : Nat} {G : DSp} (F : Fun K x qual sd f fd) (S : FnScope N ps (defScope sd)) (hn : ps.length = n) (c : defChk (defScope sd) Ln Bn Fn Bx = true) (hB : ∀ x ∈ Bx, mg x = none)
    (h : ∀ (X : Cx) (ds : List D) (M : Mem) (Q : D → Mem → Prop), Bod P w K mg base k (defScope sd) N Ln Bn Fn Bx X → G ds M Q → WSs X (startE N ds) M (defBody sd) { nx := fun _ M' => Q .non M', rt := Q }) : GOk P w K mg base (k + 1) f fd ps (spD K n G) := by
  obtain ⟨oc, od, kV, doc, pm, an, cdv, ct, osl, rfl, lk, hcd⟩ := F.ex
  have len : ∀ vs H Q E, spD K n G vs H Q E → vs.length = ps.length := fun vs H Q E h => h.1.trans hn.symm
  refine ⟨len, fun A gd outer s H args us vs R E hr e0 hb r hsp => ?_⟩
  have hl := len _ _ _ _ hsp
  have keep : ∀ b o, base.get? b = some o → s.heap.get? b = some o := fun b o e => (e0.bs b o e).1
  have KX : K.In s.heap := e0.mod.kin.keeps keep
  have lim : s.heap.NoLimit := e0.mod.nolimit.keeps keep
  refine codeAny_call_function hr.depth (KX _ _ lk) rfl S.co S.gen rfl (PySem.W.codeRec_of KX hcd) (hb _ _ _ _ ?_)
  refine wpAny_newFunctionEnv_cells S.kind (fun ⟨m, v⟩ hy => (S.par m (List.of_mem_zip hy).1).imp id fun q => ⟨q, PySem.W.cellsFrom_some _ _ _ (.inl q)⟩) fun env he s1 x1 => ?_
  subst he
  refine ⟨lim.keeps x1.toInCall.keep, codeAny_func ?_⟩
  have I := inv_start (CX := CX0) (E := E) S hr.hd e0 hl r x1
  generalize hX : (cxOf CX0 P w K mg base N qual (defScope sd) f cdv A outer s H E) = X0 at I
  obtain ⟨_, S0, M0, ds, Q, m0, r0, g0, hR⟩ := hsp
  have hc := c
  unfold defChk at hc
  simp only [Bool.and_eq_true, List.all_eq_true] at hc
  obtain ⟨c0, ⟨c1, c2⟩, c3⟩ := hc
  have room := hr.deeper (envOfC qual (defScope sd) s.heap.objs.size f cdv)
  have bod : Bod P w K mg base k (defScope sd) N Ln Bn Fn Bx X0.nox := by
    subst hX
    refine ⟨⟨rfl, fun y hy => ?_, PassesOwn.never, S.nd, fun y hy => ?_, fun y hy => ?_, fun y hy => ?_, ?_, gd⟩, rfl, rfl, room, S.kind, fun q => q, rfl, hB, rfl, rfl, rfl, rfl, rfl, rfl⟩
    · have q := c1 y hy
      have q1 := q.1.1
      refine ⟨?_, by simpa using q.1.2, by simpa using q.2⟩
      split at q1
      · exact .inl (by assumption)
      · exact .inr (.inl (by assumption))
      · cases q1
    · have q1 := (c1 y hy).1.1
      refine ⟨?_, .inl rfl⟩
      split at q1
      · exact .inl (by assumption)
      · exact .inr (by assumption)
      · cases q1
    · have q := c2 y (List.mem_append_left _ hy)
      exact ⟨(by simpa using q.1 : (defScope sd).names.lookup y = some .globalImplicit), hB y (by simpa using c0 y hy), by simpa using c3 y hy, by simpa using q.2⟩
    · have q := c2 y (List.mem_append_right _ hy)
      exact ⟨(by simpa using q.1 : (defScope sd).names.lookup y = some .globalImplicit), by simpa using q.2⟩
    · have u := room.un
      show (A.deeper (envOfC qual (defScope sd) s.heap.objs.size f cdv)).units + 100 < cLine
      omega
  have sr : SR X0.nox S0 (start N vs) (startE N ds) := by
    subst hX
    have hln : (start N vs).length = N.length := I.len
    refine ⟨hln, startE_names N ds, fun i y d hi => ?_⟩
    obtain ⟨v, hv, rv⟩ := r0.get (startE_at hi)
    refine ⟨v, ?_, rv⟩
    unfold L2.start
    rw [List.getElem?_append_left (by rw [List.length_map]; exact (List.getElem?_eq_some_iff.mp hv).1), List.getElem?_map, hv]
    rfl
  have hK : X0.K = K := by subst hX; rfl
  have main := h X0.nox ds M0 Q bod g0 S0 (start N vs) H sr (by rw [show X0.nox.K = K from hK]; exact m0) [] s1 (I.wish _)
  have eA : X0.A = A.deeper (envOfC qual (defScope sd) s.heap.objs.size f cdv) := by subst hX; rfl
  have eE : X0.env = envOfC qual (defScope sd) s.heap.objs.size f cdv := by subst hX; rfl
  have eM : model X0.prog X0.w = model P w := by subst hX; rfl
  have main2 : wpAny (model P w) (A.deeper (envOfC qual (defScope sd) s.heap.objs.size f cdv)) (execs (defBody sd) (envOfC qual (defScope sd) s.heap.objs.size f cdv)) (SP X0.nox [] (ends X0.nox S0 { nx := fun _ M' => Q .non M', rt := Q })) (fun _ _ => False) s1 := by
    rw [← eA, ← eE, ← eM]; exact main
  refine wpAny_mono main2 (fun fl s' hs => ?_) fun _ _ z => False.elim z
  have fin : ∀ {σ' : L2.St} {H' : Hp} {v : V} {u : Value}, Inv X0.nox [] σ' H' s' → RelV v u → Post K S0 Q v H' → CE outer P w H s R u s' := fun {σ' H' v u} J rv q => by
    subst hX
    exact ⟨v, H', J.os, J.bare, J.base, J.hok, rv, hR v H' q⟩
  cases fl with
  | ret u =>
    obtain ⟨v, σ', H', J, rv, q⟩ := hs
    exact fin J rv (by rw [← hK]; exact q)
  | next =>
    obtain ⟨σ', H', J, Γ', M', S', q, s2, _, m2⟩ := hs
    exact fin (v := V.non) (u := Value.none) J rfl ⟨.non, M', S', q, s2, by rw [← hK]; exact m2, .non⟩
  | brk =>
    obtain ⟨_, _, _, _, _, _, q, _⟩ := hs
    exact False.elim q
  | cont =>
    obtain ⟨_, _, _, _, _, _, q, _⟩ := hs
    exact False.elim q
/-- a def of the text, as what its callers want -/
theorem fs_of {x qual : Str} {sd : Stmt} {f : Addr} {fd : FuncData} {N Ln ps Bn Fn Bx : List Str} {k n : Nat} {G : DSp} (F : Fun K x qual sd f fd) (hm : mg x = some (.ref f)) (hb : Binds K fd ps []) (S : FnScope N ps (defScope sd)) (hn : ps.length = n) (c : defChk (defScope sd) Ln Bn Fn Bx = true) (hB : ∀ x ∈ Bx, mg x = none)
    (h : ∀ (X : Cx) (ds : List D) (M : Mem) (Q : D → Mem → Prop), Bod P w K mg base k (defScope sd) N Ln Bn Fn Bx X → G ds M Q → WSs X (startE N ds) M (defBody sd) { nx := fun _ M' => Q .non M', rt := Q }) : Fs P w K mg base (k + 1) x n G :=
  ⟨f, fd, ps, hm, F.kp, hb, hn, gok_body F S hn c hB h⟩
end

/-! ### the law's own call -/
/-- a heap in which the script alone is tracked, where it is no object of the module -/
def onlyAt (a : Addr) (o : HO) : Hp := fun b => if b = a then some o else none
theorem law_run {P : Program} {w : World} {K : PySem.W.Frag} {mg mb : Str → Option Value} {k : Nat} {fa a : Addr} {fd : FuncData} {x : Str} {G : DSp} {s : Shared} {vs : List Value} {ns : List Int} (KX : K.In s.heap) (g1 : s.heap.Ns mainGlobals mg) (g2 : s.heap.Ns builtinsNs mb)
    (g3 : ∀ x : Str, x ≠ "__name__" → mb x = bootBuiltins x) (g4 : s.heap.NoLimit) (g5 : s.gens = #[]) (ha : s.heap.get? a = some { cls := .type "list", data := .seq vs.toArray }) (hi : IntsAre vs ns) (hl : ns.length ≤ sizeLine) (hr : Room k callerA)
    (g6 : ∃ mm, s.heap.Ns sysModules mm) (F : ∀ base : Heap, K.In base → base.Ns mainGlobals mg → (∃ mm, base.Ns sysModules mm) → GOk P w K mg base k fa fd [x] (spD K 1 G)) (hb : ∀ (s : Shared) (u : Value), BindsTo s fd ⟨[u], []⟩ [(x, u)]) (hG : G [.slst (ns.map .int)] [] fun d _ => d = .bl true) :
    codeAny (model P w) callerA (.call (.ref fa) ⟨[.ref a], []⟩) (fun r s' => r = .ok (.ret (.bool true)) ∧ OldK s.heap s'.heap ∧ s'.os = s.os ∧ AllBare s'.gens) s := by
  have rv := vals_ints hi
  -- whichever way the script is seen
  have both : ∀ H : Hp, (∀ b o, H b = some o → b = a ∧ ∃ q xs, o = .frz q (.lst xs)) → SqL K H a (ns.map V.int) → HOk P w H s.heap → (H a ≠ none → K.lookup a = none) →
      codeAny (model P w) callerA (.call (.ref fa) ⟨[.ref a], []⟩) (fun r s' => r = .ok (.ret (.bool true)) ∧ OldK s.heap s'.heap ∧ s'.os = s.os ∧ AllBare s'.gens) s := by
    intro H hH hS hok hK
    have away : ∀ {b : Addr} {o : Obj} {es : Array DictEntry} {ep : Nat}, s.heap.get? b = some o → o.data = .dict es ep → H b = none := by
      intro b o es ep e d
      match q : H b with
      | none => rfl
      | some u =>
        rw [(hH b u q).1, ha] at e
        cases e
        exact nomatch (show Data.seq vs.toArray _ = Data.dict es ep from d)
    have ns_of : ∀ {b : Addr} {m : Str → Option Value}, s.heap.Ns b m → (hidT s.heap H).Ns b m := by
      rintro b m ⟨o, es, ep, e, d, r⟩
      exact ⟨o, es, ep, hidT_get e (away e d), d, r⟩
    have kin : K.In (hidT s.heap H) := by
      intro b o e
      refine hidT_get (KX b o e) ?_
      match q : H b with
      | none => rfl
      | some u =>
        have eb := (hH b u q).1
        subst eb
        rw [hK (by rw [q]; exact Option.some_ne_none u)] at e
        cases e
    have md : Mod K mg (hidT s.heap H) := by
      obtain ⟨mc, l1, l2⟩ := g4
      exact ⟨kin, ns_of g1, ⟨mb, ns_of g2, g3⟩, mc, ns_of l1, l2⟩
    have env : Env0 P w K mg (hidT s.heap H) callerA [] s H := ⟨rfl, md, fun b o e => of_hidT e, Nat.le_of_eq (hidT_size _ _), trivial, fun b hb => (by cases hb), hok, .of_eq g5⟩
    -- the script as data by depth: it stands in S
    have mo : MO K H [] H := ⟨.refl _, fun p hp => (by cases hp), List.nodup_nil⟩
    have run := (F _ kin (ns_of g1) (let ⟨mm, q⟩ := g6; ⟨mm, ns_of q⟩)).run callerA rfl [] s H ⟨[.ref a], []⟩ [.ref a] [.ref a] (fun v _ => v = .bl true) E0 hr env (hb s (.ref a)) (.cons rfl .nil)
      ⟨rfl, H, [], _, _, mo, .one (.slst hS Reps.ints), hG, fun v H' ⟨d, M', S', e, _, _, r⟩ => (by subst e; exact r.bl_inv)⟩
    refine codeAny_mono run fun r s' h => ?_
    match r, h with
    | .error e, h => exact h.elim
    | .ok (.ret u), h =>
      obtain ⟨v, H', os, bare, un, hok', rv', q⟩ := h
      subst q
      cases rv'
      refine ⟨rfl, OldK.of_keep fun b o e => ?_, os, bare⟩
      match q : H b with
      | none => exact un.keep b o e q (fun z => (by cases z)) (fun z => (by cases z))
      | some u =>
        obtain ⟨_, ob, xs, eu⟩ := hH b u q
        subst eu
        have t1 := (hok b _ q).1
        have t2 := (hok' b _ (un.frzs b ob _ q)).1
        rw [t1] at e
        cases e
        exact t2
    | .ok .next, h => exact h.elim
    | .ok .brk, h => exact h.elim
    | .ok .cont, h => exact h.elim
  match hk : K.lookup a with
  | some o =>
    have e := KX a o hk
    rw [ha] at e
    cases e
    refine both (fun _ => none) (fun b o z => nomatch z) (.inr ⟨_, vs.toArray, _, hk, rfl, rfl, rfl, ?_, by simpa using rv⟩) (fun b u z => nomatch z) fun z => absurd rfl z
    rw [List.size_toArray, hi.length]
    exact hl
  | none =>
    refine both (onlyAt a (.frz { cls := .type "list", data := .seq vs.toArray } (.lst (ns.map V.int)))) (fun b o z => ?_) (.inl (.inr ⟨_, if_pos rfl⟩)) (fun b u z => ?_) fun _ => hk
    all_goals
      unfold onlyAt at z
      split at z
      · cases z
        rename_i hba
        subst hba
        first
          | exact ⟨rfl, _, _, rfl⟩
          | exact ⟨ha, by rw [List.length_map]; exact hl, vs, _, rv, ha⟩
      · cases z
/-- the goal that k_head leaves, from the law's promise -/
theorem walk_g {l : PySem.W.OpenLaw} {n k : Nat} {q : Program} {loose : List Str} {XP : (Str → Option Value) → Heap → Prop} {YP : World → Heap → Prop} {d : DefRec} {K : Params → PySem.W.Frag} {G : DSp} {x : Str} (hn : l.most = some n) (hn2 : n ≤ sizeLine) (hi : importsNone q = true)
    (hdf : d.params.defaults = []) (hr : Room k callerA) (hY : ∀ (w : World) (h : Heap), YP w h → (K w.params).In h)
    (F : ∀ (w : World) (mg : Str → Option Value) (fa : Addr) (h : Heap), (K w.params).In h → h.Ns mainGlobals mg → mg d.name = some (.ref fa) → ∃ fd : FuncData, (∀ (s : Shared) (u : Value), BindsTo s fd ⟨[u], []⟩ [(x, u)]) ∧
      ∀ base : Heap, (K w.params).In base → base.Ns mainGlobals mg → (∃ mm, base.Ns sysModules mm) → GOk l.prog w (K w.params) mg base k fa fd [x] (spD (K w.params) 1 G))
    (hG : ∀ ns : List Int, ns.length ≤ n → (∀ z ∈ ns, Builtin.Int.intBits z ≤ 1048576) → G [.slst (ns.map .int)] [] fun d _ => d = .bl true) : PySem.W.WalkO q loose XP YP l.row.toRowW d [] (fun f vs => PySem.call f vs) := by
  refine Att.attach_callB hn hdf ?_
  intro w s0 s mg mb fa o pm cd doc a vs ns Gr Y ho hd hcd hm hobj hints hlen hbits hg
  obtain ⟨fd, hb, hF⟩ := F w mg fa _ (hY w _ Y) Gr.T.g hm
  exact law_run (hY w _ Y) Gr.T.g Gr.T.b Gr.T.builtins Gr.T.nolimit hg hobj hints (Nat.le_trans hlen hn2) hr (let ⟨mm, q, _⟩ := (Gr.T.seer hi).mods; ⟨mm, q⟩) hF hb (hG ns hlen hbits)
end DL

/-! Core8: dicts. -/
namespace DL
open PySem PySem.Spec PyProof.Rows L2

section
variable {κ α : Type} [DecidableEq κ]
def valA (kvs : List (κ × α)) (k : κ) : Option α := (kvs.find? fun kv => decide (kv.1 = k)).map (·.2)
def putA (kvs : List (κ × α)) (k : κ) (v : α) : List (κ × α) := if (kvs.any fun kv => decide (kv.1 = k)) = true then kvs.map (fun kv => if kv.1 = k then (kv.1, v) else kv) else kvs ++ [(k, v)]
theorem valA_nil {k : κ} : valA ([] : List (κ × α)) k = none := rfl
theorem valA_cons {p : κ × α} {r : List (κ × α)} {k : κ} : valA (p :: r) k = if p.1 = k then some p.2 else valA r k := by
  by_cases h : p.1 = k <;> simp [valA, List.find?_cons, h]
theorem valA_append {r s : List (κ × α)} {k : κ} : valA (r ++ s) k = (valA r k).or (valA s k) := by
  induction r with
  | nil => simp [valA_nil]
  | cons p r ih =>
    rw [List.cons_append, valA_cons, valA_cons]
    by_cases h : p.1 = k
    · rw [if_pos h, if_pos h]; rfl
    · rw [if_neg h, if_neg h]; exact ih
theorem valA_map (kvs : List (κ × α)) (k j : κ) (v : α) : valA (kvs.map fun kv => if kv.1 = k then (kv.1, v) else kv) j = if j = k then (valA kvs j).map (fun _ => v) else valA kvs j := by
  induction kvs with
  | nil => simp [valA_nil]
  | cons p r ih =>
    rw [List.map_cons, valA_cons, valA_cons, ih]
    by_cases hp : p.1 = k
    · rw [if_pos hp]
      by_cases hj : p.1 = j
      · have e : j = k := hj.symm.trans hp
        simp [hj, e]
      · have e : ¬ j = k := fun q => hj (hp.trans q.symm)
        simp [hj, e]
    · rw [if_neg hp]
      by_cases hj : p.1 = j
      · have e : ¬ j = k := fun q => hp (hj.trans q)
        simp [hj, e]
      · simp [hj]
theorem valA_any {kvs : List (κ × α)} {k : κ} : (kvs.any fun kv => decide (kv.1 = k)) = (valA kvs k).isSome := by
  induction kvs with
  | nil => rfl
  | cons p r ih =>
    rw [List.any_cons, valA_cons]
    by_cases h : p.1 = k
    · simp [h]
    · simp [h, ih]
theorem valA_put (kvs : List (κ × α)) (k j : κ) (v : α) : valA (putA kvs k v) j = if j = k then some v else valA kvs j := by
  unfold putA
  rw [valA_any]
  by_cases h : (valA kvs k).isSome = true
  · rw [if_pos h, valA_map]
    by_cases e : j = k
    · subst e
      obtain ⟨w, hw⟩ := Option.isSome_iff_exists.mp h
      simp [hw]
    · simp [e]
  · rw [if_neg h, valA_append, valA_cons, valA_nil]
    by_cases e : j = k
    · subst e
      rw [Option.not_isSome_iff_eq_none.mp h]
      simp
    · simp [e, Ne.symm e]
theorem putA_keys (kvs : List (κ × α)) (k : κ) (v : α) : (putA kvs k v).map (·.1) = if (valA kvs k).isSome = true then kvs.map (·.1) else kvs.map (·.1) ++ [k] := by
  unfold putA
  rw [valA_any]
  by_cases h : (valA kvs k).isSome = true
  · rw [if_pos h, if_pos h, List.map_map]
    refine List.map_congr_left fun p _ => ?_
    show (if p.1 = k then (p.1, v) else p).1 = p.1
    split <;> rfl
  · rw [if_neg h, if_neg h, List.map_append]; rfl
theorem putA_length_le (kvs : List (κ × α)) (k : κ) (v : α) : (putA kvs k v).length ≤ kvs.length + 1 := by
  unfold putA
  split
  · rw [List.length_map]; omega
  · rw [List.length_append, List.length_singleton]; exact Nat.le_refl _
theorem valA_mem_keys {kvs : List (κ × α)} {k : κ} : (valA kvs k).isSome = true ↔ k ∈ kvs.map (·.1) := by
  induction kvs with
  | nil => simp [valA_nil]
  | cons p r ih =>
    rw [valA_cons, List.map_cons, List.mem_cons]
    by_cases h : p.1 = k
    · simp [h]
    · rw [if_neg h, ih]
      constructor
      · exact .inr
      · rintro (q | q)
        · exact absurd q.symm h
        · exact q
end
section
variable {κ : Type} [DecidableEq κ] {K : PySem.W.Frag} {S : Hp}
theorem PK.nil : PK K S ([] : List (κ × V)) [] := ⟨rfl, .nil⟩
theorem PK.ind {kvs : List (κ × V)} {ds : List (κ × D)} (h : PK K S kvs ds) : (kvs = [] ∧ ds = []) ∨ ∃ k v d kr dr, kvs = (k, v) :: kr ∧ ds = (k, d) :: dr ∧ Rep K S v d ∧ PK K S kr dr := by
  obtain ⟨h1, h2⟩ := h
  cases kvs with
  | nil => cases ds with
    | nil => exact .inl ⟨rfl, rfl⟩
    | cons _ _ => cases h1
  | cons p kr => cases ds with
    | nil => cases h1
    | cons q dr =>
      rw [List.map_cons, List.map_cons] at h1 h2
      cases h2 with
      | cons r rs =>
        have e := (List.cons.inj h1)
        exact .inr ⟨p.1, p.2, q.2, kr, dr, rfl, by rw [e.1], r, e.2, rs⟩
theorem PK.cons {k : κ} {v : V} {d : D} {kr : List (κ × V)} {dr : List (κ × D)} (r : Rep K S v d) (h : PK K S kr dr) : PK K S ((k, v) :: kr) ((k, d) :: dr) := ⟨by rw [List.map_cons, List.map_cons, h.1], .cons r h.2⟩
theorem PK.length {kvs : List (κ × V)} {ds : List (κ × D)} (h : PK K S kvs ds) : kvs.length = ds.length := by
  have := congrArg List.length h.1
  simpa using this
theorem PK.val : ∀ {kvs : List (κ × V)} {ds : List (κ × D)} {k : κ}, PK K S kvs ds → (valV kvs k = none ∧ valA ds k = none) ∨ ∃ v d, valV kvs k = some v ∧ valA ds k = some d ∧ Rep K S v d
  | [], ds, k, h => by
    rcases h.ind with ⟨_, rfl⟩ | ⟨_, _, _, _, _, e, _⟩
    · exact .inl ⟨rfl, rfl⟩
    · cases e
  | p :: kr, ds, k, h => by
    rcases h.ind with ⟨e, _⟩ | ⟨k', v, d, kr', dr, e, rfl, r, t⟩
    · cases e
    · cases e
      by_cases hk : k' = k
      · exact .inr ⟨v, d, by rw [valV_pos (p := (k', v)) hk], by rw [valA_cons, if_pos hk], r⟩
      · rw [valV_neg (p := (k', v)) hk, valA_cons, if_neg hk]
        exact PK.val t
theorem PK.app : ∀ {kvs ks : List (κ × V)} {ds es : List (κ × D)}, PK K S kvs ds → PK K S ks es → PK K S (kvs ++ ks) (ds ++ es) := fun h g =>
  ⟨by rw [List.map_append, List.map_append, h.1, g.1], by rw [List.map_append, List.map_append]; exact h.2.append g.2⟩
theorem PK.map {k : κ} {v : V} {d : D} (r : Rep K S v d) : ∀ {kvs : List (κ × V)} {ds : List (κ × D)}, PK K S kvs ds → PK K S (kvs.map fun kv => if kv.1 = k then (kv.1, v) else kv) (ds.map fun kv => if kv.1 = k then (kv.1, d) else kv)
  | [], ds, h => by
    rcases h.ind with ⟨_, rfl⟩ | ⟨_, _, _, _, _, e, _⟩
    · exact .nil
    · cases e
  | p :: kr, ds, h => by
    rcases h.ind with ⟨e, _⟩ | ⟨k', v', d', kr', dr, e, rfl, r', t⟩
    · cases e
    · cases e
      rw [List.map_cons, List.map_cons]
      by_cases hk : k' = k
      · rw [if_pos hk, if_pos hk]; exact .cons r (PK.map r t)
      · rw [if_neg hk, if_neg hk]; exact .cons r' (PK.map r t)
theorem PK.put {k : κ} {v : V} {d : D} {kvs : List (κ × V)} {ds : List (κ × D)} (h : PK K S kvs ds) (r : Rep K S v d) : PK K S (putK kvs k v) (putA ds k d) := by
  have e : (kvs.any fun kv => decide (kv.1 = k)) = (ds.any fun kv => decide (kv.1 = k)) := by
    have e1 : (kvs.any fun kv => decide (kv.1 = k)) = (kvs.map (·.1)).any fun x => decide (x = k) := by rw [List.any_map]; rfl
    have e2 : (ds.any fun kv => decide (kv.1 = k)) = (ds.map (·.1)).any fun x => decide (x = k) := by rw [List.any_map]; rfl
    rw [e1, e2, h.1]
  unfold putK putA
  rw [e]
  split
  · exact PK.map r h
  · exact h.app ⟨rfl, .one r⟩
end

section
variable {X : Cx} {Γ : VEnv} {M : Mem} {Q : D → Mem → Prop} {QB : Bool → Mem → Prop} {QE : VEnv → Mem → Prop} {x : Str} {d : D} {pos p p2 apos : Pos} {a b c e o i : Expr} {es : List Expr} {Ln Vn Bn Fn : List Str}

theorem we_dnew (q : ∀ p, Q (.ref p) ((p, .dK []) :: M)) : WE X Γ M (.Dict [] [] pos) Q := fun S σ H hΓ hM => tE_of pe_dnewK fun p hp => ⟨_, _, S, q p, .refl _, hM.alloc hp ⟨[], upd_same, .nil⟩, .ref p⟩
theorem we_dnewT (q : ∀ p, Q (.ref p) ((p, .dT []) :: M)) : WE X Γ M (.Dict [] [] pos) Q := fun S σ H hΓ hM => tE_of pe_dnewT fun p hp => ⟨_, _, S, q p, .refl _, hM.alloc hp ⟨[], upd_same, .nil⟩, .ref p⟩
/-- a key by depth -/
def kD : Key → D
  | .inl i => .int i
  | .inr x => .str x
theorem rep_kD {K : PySem.W.Frag} {S : Hp} {v : V} {k : Key} (r : Rep K S v (kD k)) : v = kV k := by
  cases k with
  | inl i => exact r.int_inv
  | inr x => exact r.str_inv
theorem reps_kD {K : PySem.W.Frag} {S : Hp} : ∀ {vs : List V} {ks : List Key}, Reps K S vs (ks.map kD) → vs = ks.map kV
  | _, [], .nil => rfl
  | _, k :: ks, .cons h t => by rw [rep_kD h, reps_kD t]; rfl
theorem rep_of_key {K : PySem.W.Frag} {S : Hp} (k : Key) : Rep K S (kV k) (kD k) := by
  cases k with
  | inl i => exact .int i
  | inr x => exact .str x
/-- the dict at d holds r at the key y -/
def GetD (M : Mem) (d y : D) (r : Option D) : Prop := ∃ a f, d = .ref a ∧ ((∃ kvs k, (At a M (.dK kvs) f ∨ ∃ o us, At a M (.fzK o us kvs) f) ∧ y = kD k ∧ r = valA kvs k) ∨ ∃ kvs ks, At a M (.dT kvs) f ∧ y = .tup (ks.map kD) ∧ r = valA kvs ks)
theorem GetD.dk {a : Addr} {f : Cell → Mem} {kvs : List (Key × D)} {i : Int} (h : At a M (.dK kvs) f) : GetD M (.ref a) (.int i) (valA kvs (.inl i)) := ⟨a, f, rfl, .inl ⟨kvs, .inl i, .inl h, rfl, rfl⟩⟩
theorem GetD.fzK {a : Addr} {f : Cell → Mem} {o : Obj} {us : List (Key × V)} {kvs : List (Key × D)} {i : Int} (h : At a M (.fzK o us kvs) f) : GetD M (.ref a) (.int i) (valA kvs (.inl i)) := ⟨a, f, rfl, .inl ⟨kvs, .inl i, .inr ⟨o, us, h⟩, rfl, rfl⟩⟩
theorem GetD.get {K : PySem.W.Frag} {S H : Hp} {v w : V} {d y : D} {r : Option D} (g : GetD M d y r) (m : MO K S M H) (rv : Rep K S v d) (rw' : Rep K S w y) : ∃ a o, v = .ref a ∧ DGet H a w o ∧ ((o = none ∧ r = none) ∨ ∃ u z, o = some u ∧ r = some z ∧ Rep K S u z) := by
  obtain ⟨a, f, rfl, ⟨kvs, k, h | ⟨o, us, h⟩, rfl, rfl⟩ | ⟨kvs, ks, h, rfl, rfl⟩⟩ := g
  · obtain ⟨us, hx, pk⟩ := m.at_ok h
    rw [rv.ref_inv, rep_kD rw']
    refine ⟨a, _, rfl, .k hx, ?_⟩
    exact pk.val.imp id fun ⟨u, z, a, b, c⟩ => ⟨u, z, a, b, c⟩
  · obtain ⟨hx, pk⟩ := m.at_ok h
    rw [rv.ref_inv, rep_kD rw']
    refine ⟨a, _, rfl, .inl ⟨us, k, .inr ⟨o, hx⟩, rfl, rfl⟩, ?_⟩
    exact pk.val.imp id fun ⟨u, z, a, b, c⟩ => ⟨u, z, a, b, c⟩
  · obtain ⟨us, hx, pk⟩ := m.at_ok h
    obtain ⟨b, ws, rfl, hb, rs⟩ := Rep.tup_get m rw'
    rw [reps_kD rs] at hb
    rw [rv.ref_inv]
    refine ⟨a, _, rfl, .t hx hb, ?_⟩
    exact pk.val.imp id fun ⟨u, z, a, b, c⟩ => ⟨u, z, a, b, c⟩
theorem od_inD {d y : D} {r : Option D} (st : Stat X Ln Vn Bn Fn) (g : GetD M d y r) (q : Q (.bl r.isSome) M) : OD X (compareOp .In) y d M Q := by
  intro S H v w rv rw' m pins s σ u z I ru rz
  obtain ⟨a, ov, rfl, dg, ho⟩ := g.get m rw' rv
  cases (show z = Value.ref a from rz)
  have e : ov.isSome = r.isSome := by rcases ho with ⟨rfl, rfl⟩ | ⟨_, _, rfl, rfl, _⟩ <;> rfl
  exact d_in (by have := st.hu; omega) I dg ru fun s' I' => ⟨.bl ov.isSome, H, I', rfl, by rw [e]; exact .of m (.bl _) q⟩
theorem od_notInD {d y : D} {r : Option D} (st : Stat X Ln Vn Bn Fn) (g : GetD M d y r) (q : Q (.bl (!r.isSome)) M) : OD X (compareOp .NotIn) y d M Q := by
  intro S H v w rv rw' m pins s σ u z I ru rz
  obtain ⟨a, ov, rfl, dg, ho⟩ := g.get m rw' rv
  cases (show z = Value.ref a from rz)
  have e : ov.isSome = r.isSome := by rcases ho with ⟨rfl, rfl⟩ | ⟨_, _, rfl, rfl, _⟩ <;> rfl
  exact d_notIn (by have := st.hu; omega) I dg ru fun s' I' => ⟨.bl (!ov.isSome), H, I', rfl, by rw [e]; exact .of m (.bl _) q⟩
/-- d[k] -/
theorem we_dix (st : Stat X Ln Vn Bn Fn) (h : WE X Γ M o fun d M1 => WE X Γ M1 i fun y M2 => ∃ r, GetD M2 d y (some r) ∧ Q r M2) (hs : NoSl i := by exact fun _ _ => rfl) : WE X Γ M (.Subscript o i pos) Q := by
  intro S σ H hΓ hM
  refine tE_of (pe_dget (by have := st.hu; omega) pe_c pe_c hs) (two hΓ hM h fun x y H2 S2 da db M2 s m rx ry q => ?_)
  obtain ⟨r, g, q⟩ := q
  obtain ⟨pa, ov, e, dg, ho⟩ := g.get m rx ry
  rcases ho with ⟨_, e2⟩ | ⟨u, z, rfl, e2, rz⟩
  · cases e2
  · cases e2
    exact ⟨pa, u, e, dg, _, M2, S2, q, s, m, rz⟩
/-- d.get(k, v) -/
theorem we_get2 {fe : Expr} (st : Stat X Ln Vn Bn Fn) (h : WE X Γ M o fun d M1 => (∃ a f kvs, d = .ref a ∧ (At a M1 (.dK kvs) f ∨ ∃ kvs, At a M1 (.dT kvs) f)) ∧ WE X Γ M1 e fun y M2 => WE X Γ M2 fe fun z M3 => ∃ r, GetD M3 d y r ∧ Q (r.getD z) M3) (m2 : M2 X o "get" apos e fe pos) : WE X Γ M (.Call (.Attribute o "get" apos) [e, fe] [] pos) Q := by
  intro S σ H hΓ hM
  refine tE_of (pe_dget2 (by have := st.hu; omega) pe_c pe_c pe_c m2) ?_
  refine tE_post (h S σ H hΓ hM) fun d M1 S1 v H1 ⟨isd, q1⟩ s1 m1 r1 => ?_
  obtain ⟨a, f, kvs, rfl, isd⟩ := isd
  refine ⟨a, r1.ref_inv, ?_, ?_⟩
  · rcases isd with g | ⟨ks, g⟩
    · obtain ⟨us, hx, _⟩ := m1.at_ok g
      exact .inl ⟨us, .inl hx⟩
    · obtain ⟨us, hx, _⟩ := m1.at_ok g
      exact .inr ⟨us, .inl hx⟩
  refine tE_post (q1 S1 σ H1 (hΓ.mono s1) m1) fun y M2 S2 w H2 q2 s2 m2 r2 => ?_
  refine tE_post (q2 S2 σ H2 ((hΓ.mono s1).mono s2) m2) fun z M3 S3 u H3 q3 s3 m3 r3 => ?_
  obtain ⟨r, g, q⟩ := q3
  obtain ⟨pa, ov, e, dg, ho⟩ := g.get m3 ((r1.mono s2).mono s3) (r2.mono s3)
  rw [r1.ref_inv] at e
  cases e
  refine ⟨ov, dg, r.getD z, M3, S3, q, (s1.trans s2).trans s3, m3, ?_⟩
  rcases ho with ⟨rfl, rfl⟩ | ⟨u', z', rfl, rfl, rz⟩
  · exact r3
  · exact rz
/-- d[k] = v -/
theorem wg_dix (st : Stat X Ln Vn Bn Fn) (h : WE X Γ M o fun do_ M1 => WE X Γ M1 i fun y M2 => ∃ a f, do_ = .ref a ∧ ((∃ kvs k, At a M2 (.dK kvs) f ∧ y = kD k ∧ kvs.length < sizeLine ∧ QE Γ (f (.dK (putA kvs k d)))) ∨ ∃ kvs ks, At a M2 (.dT kvs) f ∧ y = .tup (ks.map kD) ∧ kvs.length < sizeLine ∧ QE Γ (f (.dT (putA kvs ks d)))))
    (ha : ∀ v, assign (.Subscript o i pos) X.env v = (do
      let ov ← holding [v] (eval o X.env)
      let iv ← holding [v, ov] (eval i X.env)
      standAt pos
      holding [v, ov, iv] (setItem ov iv v)
      release [v, ov, iv] []) := by intro _; rfl) : WG X Γ M (.Subscript o i pos) d QE := by
  intro S σ H v hΓ hM r
  refine tG_of (pg_sub pe_c pe_c (set_dict (by have := st.hu; omega)) ha) ?_
  refine tE_post (h S σ H hΓ hM) fun d1 M1 S1 v1 H1 q1 s1 m1 r1 => ?_
  refine tE_post (q1 S1 σ H1 (hΓ.mono s1) m1) fun d2 M2 S2 v2 H2 q2 s2 m2 r2 => ?_
  have rr := (r.mono s1).mono s2
  obtain ⟨q, f, rfl, ⟨kvs, k, h, rfl, hl, k'⟩ | ⟨kvs, ks, h, rfl, hl, k'⟩⟩ := q2
  · obtain ⟨us, hx, pk⟩ := m2.at_ok h
    have e2 := rep_kD r2
    subst e2
    exact ⟨q, _, (r1.mono s2).ref_inv, .k hx (by rw [pk.length]; exact hl), _, _, S2, k', s1.trans s2, (hΓ.mono s1).mono s2, m2.write h (c' := .dK (putA kvs k d)) ⟨_, upd_same, pk.put rr⟩⟩
  · obtain ⟨us, hx, pk⟩ := m2.at_ok h
    obtain ⟨b, ws, rfl, hb, rs⟩ := Rep.tup_get m2 r2
    rw [reps_kD rs] at hb
    exact ⟨q, _, (r1.mono s2).ref_inv, .t hx hb (by rw [pk.length]; exact hl), _, _, S2, k', s1.trans s2, (hΓ.mono s1).mono s2, m2.write h (c' := .dT (putA kvs ks d)) ⟨_, upd_same, pk.put rr⟩⟩
theorem cd_lenD {a : Addr} {kvs : List (Key × D)} {f : Cell → Mem} (h : At a M (.dK kvs) f) (q : Q (.int kvs.length) M) : CD X (.builtin "len") [.ref a] M Q := cd_of call_lenD fun S H xs rx m => by
  obtain ⟨v, rfl, rv⟩ := reps_one rx
  obtain ⟨us, hx, pk⟩ := m.at_ok h
  exact ⟨a, us, by rw [rv.ref_inv], hx, by rw [pk.length]; exact .of m (.int _) q⟩
/-- sorted(d) of a dict by whole numbers -/
theorem cd_sortedK {a : Addr} {kvs : List (Key × D)} {f : Cell → Mem} {ks ms : List Int} (st : Stat X Ln Vn Bn Fn) (h : At a M (.dK kvs) f) (hk : kvs.map (·.1) = ks.map Sum.inl) (h64 : ks.length < 64) (hp : ms.Perm ks) (hs : ms.Pairwise (· ≤ ·)) (q : Q (.lst (ms.map D.int)) M) : CD X (.builtin "sorted") [.ref a] M Q :=
  cd_of (call_sortedDI st.calm) fun S H xs rx m => by
    obtain ⟨v, rfl, rv⟩ := reps_one rx
    obtain ⟨us, hx, pk⟩ := m.at_ok h
    refine ⟨a, us, ks, by rw [rv.ref_inv], .inl hx, pk.1.trans hk, h64, fun ys p h2 h3 hp' => ?_⟩
    have e : ys = ms := (h2.trans hp.symm).eq_of_pairwise (fun a b _ _ h1 h2 => Int.le_antisymm h1 h2) h3 hs
    subst e
    exact post_lst m Reps.ints q p hp'

/-! ### dict(pairs), d.update(pairs) -/
def mergeA (kvs more : List (Key × D)) : List (Key × D) := more.foldl (fun acc kv => putA acc kv.1 kv.2) kvs
theorem PK.merge {K : PySem.W.Frag} {S : Hp} : ∀ {more : List (Key × V)} {mds : List (Key × D)} {kvs : List (Key × V)} {ds : List (Key × D)}, PK K S more mds → PK K S kvs ds → PK K S (mergeK kvs more) (mergeA ds mds)
  | [], mds, kvs, ds, h, g => by
    rcases h.ind with ⟨_, rfl⟩ | ⟨_, _, _, _, _, e, _⟩
    · exact g
    · cases e
  | p :: more, mds, kvs, ds, h, g => by
    rcases h.ind with ⟨e, _⟩ | ⟨k, v, d, kr, dr, e, rfl, r, t⟩
    · cases e
    · cases e
      exact PK.merge (kvs := putK kvs k v) (ds := putA ds k d) t (g.put r)
/-- a list of pairs by depth, its keys and values -/
theorem pairs_rep {K : PySem.W.Frag} {S H : Hp} (hs : Same S H) : ∀ {ps : List (Key × D)} {vs : List V}, Reps K S vs (ps.map fun p => .tup [kD p.1, p.2]) → ∃ (as : List Addr) (kvs : List (Key × V)), vs = as.map V.ref ∧ Paired (fun p kv => SqT K H p [kV kv.1, kv.2]) as kvs ∧ PK K S kvs ps
  | [], _, .nil => ⟨[], [], rfl, .nil, .nil⟩
  | p :: ps, _, .cons h t => by
    obtain ⟨as, kvs, rfl, hp, pk⟩ := pairs_rep hs t
    obtain ⟨a, us, rfl, ha, ru⟩ := h.tup_inv
    obtain ⟨u, w, rfl, r1, r2⟩ := reps_two ru
    rw [rep_kD r1] at ha
    exact ⟨a :: as, (p.1, w) :: kvs, rfl, .cons (.of (hs _ _ ha)) hp, .cons r2 pk⟩
theorem cd_dictP {d : D} {ps : List (Key × D)} (st : Stat X Ln Vn Bn Fn) (h : IsR M d (ps.map fun p => .tup [kD p.1, p.2])) (q : ∀ p, Q (.ref p) ((p, .dK (mergeA [] ps)) :: M)) : CD X (.type "dict") [d] M Q := cd_of (call_dictP st.calm) fun S H xs rx m => by
  obtain ⟨v, rfl, rv⟩ := reps_one rx
  obtain ⟨pa, us, rfl, h1, r1⟩ := h.get m rv
  obtain ⟨as, kvs, rfl, hp, pk⟩ := pairs_rep m.sub r1
  exact ⟨pa, as, kvs, rfl, h1, hp, fun p hp' => ⟨_, _, S, q p, .refl _, m.alloc hp' ⟨_, upd_same, PK.merge pk .nil⟩, .ref p⟩⟩
theorem pairsV {pins : List (Addr × Obj)} {σ : L2.St} {H : Hp} {s : Shared} (I : Inv X pins σ H s) : ∀ {ps : List Addr} {kvs : List (Key × V)}, Paired (fun p kv => SqT X.K H p [kV kv.1, kv.2]) ps kvs →
    ∃ (prs : List (Key × Value)) (pv : List (Value × Value)), KV kvs prs ∧ prs.length = ps.length ∧ pv.length = ps.length ∧ ∀ (j : Nat) (k v : Value), pv[j]? = some (k, v) → ∃ key b, prs[j]? = some (key, v) ∧ keyIs key k = true ∧ ps[j]? = some b ∧ IsTup s.heap b #[k, v]
  | _, _, .nil => ⟨[], [], .nil, rfl, rfl, fun j k v e => by simp at e⟩
  | _, _, .cons (a := p) (b := kv) h t => by
    obtain ⟨prs, pv, r, l1, l2, hp⟩ := pairsV I t
    obtain ⟨its, rv, ht, _⟩ := I.tuple h
    obtain ⟨w1, w2, rfl, ru, ry⟩ := vals2 rv
    refine ⟨(kv.1, w2) :: prs, (w1, w2) :: pv, .cons ⟨rfl, ry⟩ r, by rw [List.length_cons, List.length_cons, l1], by rw [List.length_cons, List.length_cons, l2], fun j k v e => ?_⟩
    match j with
    | 0 =>
      cases e
      exact ⟨_, p, rfl, kV_is (P := X.prog) (w := X.w) ru, rfl, ht⟩
    | j + 1 =>
      obtain ⟨key, b, e1, e2, e3, e4⟩ := hp j k v e
      exact ⟨key, b, e1, e2, e3, e4⟩
theorem mt_update (hc : X.calm = true) : MtR X "dict.update" (fun x xs H R => ∃ (d l : Addr) (kvs more : List (Key × V)) (ps : List Addr), x = .ref d ∧ xs = [.ref l] ∧ H d = some (.dK kvs) ∧ H l = some (.lst (ps.map V.ref)) ∧ Paired (fun p kv => SqT X.K H p [kV kv.1, kv.2]) ps more ∧
    kvs.length + ps.length ≤ sizeLine ∧ R .non (upd H d (.dK (mergeK kvs more)))) := by
  intro pins s σ H x xs v us R I rx rxs h
  obtain ⟨d, l, kvs, more, ps, rfl, rfl, hd, hl, hp, hz, q⟩ := h
  cases rx
  obtain ⟨u, rfl, ru⟩ := vals1 rxs
  cases ru
  obtain ⟨z, lo, vs, rel, dd⟩ := dk_of I.hok hd
  obtain ⟨its, rv, pl, hz2⟩ := I.list (.of hl)
  have ei := refs_at rv
  subst ei
  obtain ⟨prs, pv, rel2, l1, l2, hpv⟩ := pairsV I hp
  obtain ⟨o, n, ho, hcl, hdn, hdat⟩ := pl
  have okA : PlainSeq "list" s.heap l (ps.map Value.ref).toArray ∧ PairItems s.heap (ps.map Value.ref).toArray (fun j => ps.getD j 0) pv := by
    refine ⟨⟨o, n, ho, hcl, hdn, hdat⟩, by simp [l2], fun j k v e => ?_⟩
    obtain ⟨key, b, e1, e2, e3, e4⟩ := hpv j k v e
    have e5 : ps.getD j 0 = b := by rw [List.getD_eq_getElem?_getD, e3]; rfl
    show _ ∧ PairAt s.heap (ps.getD j 0) k v
    refine ⟨by simp [e3], ?_⟩
    rw [e5]
    exact .inl e4
  have hnd : d ∉ l :: (List.range pv.length).map fun j => ps.getD j 0 := by
    intro hm
    obtain ⟨od, es, ep, hod, exd, dat, _⟩ := dd
    rcases List.mem_cons.mp hm with e | hm
    · rw [e, ho] at hod
      cases hod
      rw [hdat] at dat
      cases dat
    · obtain ⟨j, hj, e⟩ := List.mem_map.mp hm
      have hjl : j < pv.length := List.mem_range.mp hj
      obtain ⟨key, b, e1, e2, e3, e4⟩ := hpv j pv[j].1 pv[j].2 (List.getElem?_eq_getElem hjl)
      have e5 : ps.getD j 0 = b := by rw [List.getD_eq_getElem?_getD, e3]; rfl
      obtain ⟨ob, hob, hcb, nb, hdb⟩ := e4
      rw [← e, e5, hob] at hod
      cases hod
      rw [hdb] at dat
      cases dat
  refine call_update_pairs (knd := mixKind X.prog X.w) (acc := vs) (kvs := prs) (PairArg.list l (ps.map Value.ref).toArray (fun j => ps.getD j 0) pv) (I.ok.hd hc) okA hnd ⟨by rw [l1, l2], fun j key w e => ?_⟩ dd (by rw [l2, ← rel.length]; exact hz) fun h' tk dd' hk => ?_
  · obtain ⟨k, b, e1, e2, e3, e4⟩ := hpv j key w e
    exact ⟨k, e1, e2⟩
  · have he : ∃ q, h'.get? d = some q := let ⟨q, _, _, hq, _⟩ := dd'; ⟨q, hq⟩
    have hlen : (mergeK kvs more).length ≤ sizeLine := by
      refine Nat.le_trans (length_mergeK more kvs) ?_
      rw [rel2.length, l1]; exact hz
    exact ⟨.non, _, I.write (x := d) (e := d) (by rw [hd]; exact True.intro) (.inl rfl) (fun b q hb z => hk b q hb (by simp) z) he (dk_new hlen lo (KV.merge rel2 rel) dd'), rfl, q⟩
theorem md_update {a : Addr} {kvs ps : List (Key × D)} {d : D} {f : Cell → Mem} (st : Stat X Ln Vn Bn Fn) (h : At a M (.dK kvs) f) (hd : IsL M d (ps.map fun p => .tup [kD p.1, p.2])) (hl : kvs.length + ps.length ≤ sizeLine) (q : Q .non (f (.dK (mergeA kvs ps)))) : MD X "dict.update" (.ref a) [d] M Q :=
  md_of (mt_update st.calm) fun S H v xs rv rx m => by
    obtain ⟨y, rfl, ry⟩ := reps_one rx
    obtain ⟨us, hx, pk⟩ := m.at_ok h
    obtain ⟨b, ws, rfl, hb, r2⟩ := hd.get m ry
    obtain ⟨as, more, rfl, hp, pk2⟩ := pairs_rep m.sub r2
    have l2 := r2.length
    rw [List.length_map, List.length_map] at l2
    exact ⟨a, b, us, more, as, rv.ref_inv, rfl, hx, hb, hp, by rw [pk.length, l2]; exact hl, .of (m.write h (c' := .dK (mergeA kvs ps)) ⟨_, upd_same, PK.merge pk2 pk⟩) .non q⟩
theorem mergeA_val (more : List (Key × D)) : ∀ (kvs : List (Key × D)) (k : Key), (valA (mergeA kvs more) k).isSome = ((valA kvs k).isSome || (valA more k).isSome) := by
  induction more with
  | nil => intro kvs k; simp [mergeA, valA_nil]
  | cons p more ih =>
    intro kvs k
    show (valA (mergeA (putA kvs p.1 p.2) more) k).isSome = _
    rw [ih, valA_put, valA_cons]
    by_cases h : k = p.1
    · simp [h]
    · simp [h, Ne.symm h]
theorem mergeA_length (more : List (Key × D)) : ∀ (kvs : List (Key × D)), (mergeA kvs more).length ≤ kvs.length + more.length := by
  induction more with
  | nil => intro kvs; exact Nat.le_refl _
  | cons p more ih =>
    intro kvs
    have h1 := ih (putA kvs p.1 p.2)
    have h2 := putA_length_le kvs p.1 p.2
    show (mergeA (putA kvs p.1 p.2) more).length ≤ _
    rw [List.length_cons]
    omega
end
end DL

/-! Core9: small words for the walks. -/
namespace DL
open PySem PySem.Spec PyProof.Rows L2
theorem mem_h {α : Type} {x : α} {l : List α} : x ∈ x :: l := List.mem_cons_self
theorem mem_t {α : Type} {x y : α} {l : List α} (h : x ∈ l) : x ∈ y :: l := List.mem_cons_of_mem _ h
theorem boot_max : bootBuiltins "max" = some (.builtin "max") := by decide +kernel
theorem boot_min : bootBuiltins "min" = some (.builtin "min") := by decide +kernel
theorem boot_any : bootBuiltins "any" = some (.builtin "any") := by decide +kernel
theorem boot_all : bootBuiltins "all" = some (.builtin "all") := by decide +kernel
theorem boot_sum : bootBuiltins "sum" = some (.builtin "sum") := by decide +kernel
theorem ite_d {p : Prop} [Decidable p] {A B : Prop} (h1 : p → A) (h2 : ¬ p → B) : if decide p = true then A else B := by
  by_cases h : p
  · rw [decide_eq_true h, if_pos rfl]; exact h1 h
  · rw [decide_eq_false h, if_neg Bool.false_ne_true]; exact h2 h
theorem ite_n {p : Prop} [Decidable p] {A B : Prop} (h1 : ¬ p → A) (h2 : p → B) : if (!decide p) = true then A else B := by
  by_cases h : p
  · rw [decide_eq_true h]; exact h2 h
  · rw [decide_eq_false h]; exact h1 h
theorem ite_b {b : Bool} {A B : Prop} (h1 : b = true → A) (h2 : b = false → B) : if b = true then A else B := by
  cases b with
  | true => exact h1 rfl
  | false => exact h2 rfl
theorem cm_l {i j : Int} (h1 : -18446744073709551616 < i) (h2 : i < 18446744073709551616) : CMul i j := .inl ⟨h1, h2⟩
theorem cm_r {i j : Int} (h1 : -18446744073709551616 < j) (h2 : j < 18446744073709551616) : CMul i j := .inr ⟨h1, h2⟩
theorem cm_pow {i j : Int} (h0 : 0 ≤ j) (h1 : j ≤ 1000000) (h2 : -18446744073709551616 < i) (h3 : i < 18446744073709551616) : CPow i j := ⟨h0, h1, by show i.natAbs < 18446744073709551616; omega⟩
section
variable {X : Cx} {Γ : VEnv} {M : Mem} {e : Expr} {es : List Expr} {Q : D → Mem → Prop} {QB : Bool → Mem → Prop} {QA : List D → Mem → Prop}
theorem gWE (h : WE X Γ M e Q) : WE X Γ M e Q := h
theorem gWT (h : WT X Γ M e QB) : WT X Γ M e QB := h
theorem gWW (h : WW X Γ M e QB) : WW X Γ M e QB := h
theorem gWA (h : WA X Γ M es QA) : WA X Γ M es QA := h
theorem gOD {f : Value → Value → Sem Value} {d1 d2 : D} (h : OD X f d1 d2 M Q) : OD X f d1 d2 M Q := h
theorem gCD {f : Value} {ds : List D} (h : CD X f ds M Q) : CD X f ds M Q := h
theorem gEx {α : Type} {p : α → Prop} (h : ∃ x, p x) : ∃ x, p x := h
end
section
variable {P : Program} {w : World} {K : PySem.W.Frag} {mg : Str → Option Value} {base : Heap} {X : Cx} {Γ Γb : VEnv} {M : Mem} {Q : D → Mem → Prop} {E : DE} {x : Str} {pos px : Pos} {elt iter : Expr} {scope sc : Scope} {own : List (Str × Nat)} {N Ln Bn Fn Bx Vb Bb Fb : List Str} {k : Nat}
/-- a comprehension's block, checked -/
structure Blk (X : Cx) (scope : Scope) (own : List (Str × Nat)) (Vb Bb Fb : List Str) : Prop where
  ok : BlkOk X.N X.env.scope scope own
  st : AB X scope fun X1 => Stat X1 (own.map (·.1)) Vb Bb Fb
theorem blk_of (b : Bod P w K mg base k sc N Ln Bn Fn Bx X) (h : (blkC N sc scope own && blkChk sc scope (own.map (·.1)) Vb Bb Fb Bx) = true) : Blk X scope own Vb Bb Fb := by
  rw [Bool.and_eq_true] at h
  exact ⟨by rw [b.N, b.sc]; exact blkOk_by h.1, blk_stat b.st b.blt b.sc h.2⟩
/-- what follows a statement is shown once, from Mid -/
theorem ws_mid {s : Stmt} {rest : List Stmt} (Mid : VEnv → Mem → Prop) (h : WS X Γ M s (E.thn Mid)) (k : ∀ Γ' M', Mid Γ' M' → WSs X Γ' M' rest E) : WSs X Γ M (s :: rest) E := by
  refine wss_cons fun S σ H hΓ hM pins s' I => thn (h S σ H hΓ hM pins s' I) fun f s2 q => SP.imp q ?_ (fun _ _ z => z) (fun _ _ z => z) (fun _ _ z => z)
  exact fun σ' H' z => PostG.imp z k
/-- an owned list just made is owned no more -/
theorem we_frz {e : Expr} (h : WE X Γ M e fun d M1 => ∃ p ds M2, d = .ref p ∧ M1 = (p, .lst ds) :: M2 ∧ Q (.lst ds) M2) : WE X Γ M e Q := WE.frz (h.imp fun _ _ q => .inl q)

def MapT (X : Cx) (scope : Scope) (Γ2 : VEnv) (M1 : Mem) (elt : Expr) (r : D) : Prop := ∀ L acc, AB X scope fun X2 => WE X2 Γ2 ((L, .lst acc) :: M1) elt fun d M4 => M4 = (L, .lst acc) :: M1 ∧ d = r
/-- the steps of a comprehension that maps -/
theorem lc_map {α : Type} {l : List α} {g hh : α → D} {tg : Expr} {items : List D} {Stb : Mem → Prop} {M1 : Mem} {R : Nat → D → VEnv → Prop} (hi : items = l.map g) (hz : l.length ≤ sizeLine) (hs : ∀ L acc, Stb ((L, .lst acc) :: M1))
    (ht : ∀ a ∈ l, ∃ Γ2, R 0 (g a) Γ2 ∧ MapT X scope Γ2 M1 elt (hh a)) : ∃ I : Nat → List D → Mem → Prop, I 0 [] M1 ∧ (∀ i acc M' L, I i acc M' → Stb ((L, .lst acc) :: M')) ∧
      (∀ i d acc M', items[i]? = some d → I i acc M' → ∃ Γ2, R 0 d Γ2 ∧ Turn1 X scope Γ2 [] elt I i acc M') ∧ ∀ acc M', I items.length acc M' → acc = l.map hh ∧ M' = M1 := by
  subst hi
  refine ⟨fun i acc M' => M' = M1 ∧ acc = (l.take i).map hh, ⟨rfl, rfl⟩, fun i acc M' L h => by rw [h.1]; exact hs L acc, fun i d acc M' e h => ?_, fun acc M' h => ⟨by rw [h.2, List.length_map, List.take_length], h.1⟩⟩
  obtain ⟨rfl, rfl⟩ := h
  rw [List.getElem?_map] at e
  obtain ⟨a, ha, rfl⟩ := Option.map_eq_some_iff.mp e
  obtain ⟨Γ2, h1, h2⟩ := ht a (List.mem_of_getElem? ha)
  refine ⟨Γ2, h1, fun L s H C cl fp => ?_⟩
  dsimp only [WTs]
  rw [if_pos rfl]
  intro s2 H2 C2 cl2 fp2
  refine (h2 L _ s2 H2 C2 cl2 fp2).imp fun d M4 ⟨e1, e2⟩ => ⟨?_, M', e1, rfl, ?_⟩
  · rw [List.length_map, List.length_take]
    have := (List.getElem?_eq_some_iff.mp ha).1
    omega
  · rw [List.take_add_one, ha, e2]
    simp
theorem we_lcM {α : Type} {i : Nat} (l : List α) (g hh : α → D) (st : Stat X N N Bn Fn) (bl : Blk X scope own Vb Bb Fb) (hxi : (x, i) ∈ own) (hwp : Wiped Γ own Γb)
    (h : WI X Γ M (.Name x px) iter fun items Stb M1 => items = l.map g ∧ l.length ≤ sizeLine ∧ (∀ L acc, Stb ((L, .lst acc) :: M1)) ∧ (∀ a ∈ l, ∃ Γ2, SetAt Γb x (g a) Γ2 ∧ MapT X scope Γ2 M1 elt (hh a)) ∧ ∀ p, Q (.ref p) ((p, .lst (l.map hh)) :: M1))
    (hs : ∀ x, foldedSetIterable iter X.env x = pure x := by intro _; rfl) : WE X Γ M (.ListComp elt [⟨.Name x px, iter, [], 0⟩] scope pos) Q := by
  refine we_lc st bl.st hxi bl.ok hwp (Nat.zero_le _) (fun S σ H a b => tI_mono (h S σ H a b) ?_) hs
  rintro J H1 ⟨items, Stb, M1, S1, ⟨h1, h2, h3, h4, h5⟩, s1, m1, W⟩
  obtain ⟨I, i1, i2, i3, i4⟩ := lc_map (tg := .Name x px) (R := fun _ d Γ2 => SetAt Γb x d Γ2) h1 h2 h3 h4
  exact ⟨items, Stb, M1, S1, ⟨I, i1, i2, i3, fun acc M' q p => by obtain ⟨rfl, rfl⟩ := i4 acc M' q; exact h5 p⟩, s1, m1, W⟩
theorem ws_setLcM {α : Type} {i j : Nat} {y : Str} {py spos : Pos} (l : List α) (g hh : α → D) (st : Stat X N N Bn Fn) (bl : Blk X scope own Vb Bb Fb) (hxi : (x, i) ∈ own) (hwp : Wiped Γ own Γb) (hy : y ∈ N) (hyl : X.env.scope.names.lookup y = some .local) (hk : X.env.scope.kind = .function) (hNy : X.N[j]? = some y)
    (ha : (scope.names.any fun (n, k) => n == y && (k == .local || k == .cell)) = false)
    (h : WI X Γ M (.Name x px) iter fun items Stb M1 => items = l.map g ∧ l.length ≤ sizeLine ∧ (∀ L acc, Stb ((L, .lst acc) :: M1)) ∧ (∀ a ∈ l, ∃ Γ2, SetAt Γb x (g a) Γ2 ∧ MapT X scope Γ2 M1 elt (hh a)) ∧ ∀ p, ∃ Γ', SetAt Γ y (.ref p) Γ' ∧ E.nx Γ' ((p, .lst (l.map hh)) :: M1))
    (hl : (py.line == pos.line) = true := by rfl) (hl2 : spos.line = py.line := by rfl) (hs : ∀ x, foldedSetIterable iter X.env x = pure x := by intro _; rfl) : WS X Γ M (.Assign [.Name y py] (.ListComp elt [⟨.Name x px, iter, [], 0⟩] scope pos) spos) E := by
  refine ws_setLc st hy hyl hk hNy ha bl.st hxi bl.ok hwp (Nat.zero_le _) (fun S σ H a b => tI_mono (h S σ H a b) ?_) hl hl2 hs
  rintro J H1 ⟨items, Stb, M1, S1, ⟨h1, h2, h3, h4, h5⟩, s1, m1, W⟩
  obtain ⟨I, i1, i2, i3, i4⟩ := lc_map (tg := .Name x px) (R := fun _ d Γ2 => SetAt Γb x d Γ2) h1 h2 h3 h4
  exact ⟨items, Stb, M1, S1, ⟨I, i1, i2, i3, fun acc M' q p => by obtain ⟨rfl, rfl⟩ := i4 acc M' q; exact h5 p⟩, s1, m1, W⟩
theorem we_lcTM {α : Type} {xs : List Str} {is : List Nat} {ts : List Expr} {kk n : Nat} (l : List α) (gs : α → List D) (hh : α → D) (st : Stat X N N Bn Fn) (bl : Blk X scope own Vb Bb Fb) (hxi : Paired (fun x i => (x, i) ∈ own) xs is) (hwp : Wiped Γ own Γb)
    (hts : AB X scope fun X1 => PGs X1 ts (gNames is)) (hn : AB X scope fun X1 => (assignEach ts X1.env).length = n ∧ (assignEach ts X1.env).findIdx? (·.1) = none)
    (h : WI X Γ M (.Tuple ts kk px) iter fun items Stb M1 => items = l.map (fun a => .tup (gs a)) ∧ l.length ≤ sizeLine ∧ (∀ L acc, Stb ((L, .lst acc) :: M1)) ∧ (∀ a ∈ l, ∃ Γ2, ((gs a).length = n ∧ SetAts Γb xs (gs a) Γ2) ∧ MapT X scope Γ2 M1 elt (hh a)) ∧ ∀ p, Q (.ref p) ((p, .lst (l.map hh)) :: M1))
    (hs : ∀ x, foldedSetIterable iter X.env x = pure x := by intro _; rfl) : WE X Γ M (.ListComp elt [⟨.Tuple ts kk px, iter, [], 0⟩] scope pos) Q := by
  refine we_lcT st bl.st hxi bl.ok hwp (Nat.zero_le _) hts hn (fun S σ H a b => tI_mono (h S σ H a b) ?_) hs
  rintro J H1 ⟨items, Stb, M1, S1, ⟨h1, h2, h3, h4, h5⟩, s1, m1, W⟩
  obtain ⟨I, i1, i2, i3, i4⟩ := lc_map (tg := .Tuple ts kk px) (g := fun a => .tup (gs a)) (R := fun _ d Γ2 => ∃ ds, d = .tup ds ∧ ds.length = n ∧ SetAts Γb xs ds Γ2) h1 h2 h3 (fun a ha => let ⟨Γ2, ⟨q1, q2⟩, q3⟩ := h4 a ha; ⟨Γ2, ⟨gs a, rfl, q1, q2⟩, q3⟩)
  exact ⟨items, Stb, M1, S1, ⟨I, i1, i2, fun i d acc M' e p => let ⟨Γ2, ⟨ds, q1, q2, q3⟩, t⟩ := i3 i d acc M' e p; ⟨ds, Γ2, q1, q2, q3, t⟩, fun acc M' q p => by obtain ⟨rfl, rfl⟩ := i4 acc M' q; exact h5 p⟩, s1, m1, W⟩
/-- the steps of a comprehension that picks and maps -/
def PickT (X : Cx) (scope : Scope) (Γ2 : VEnv) (M1 : Mem) (c elt : Expr) (p : Bool) (r : D) : Prop := ∀ L acc, AB X scope fun X1 => WT X1 Γ2 ((L, .lst acc) :: M1) c fun b M3 => b = p ∧ M3 = (L, .lst acc) :: M1 ∧ (p = true → AB X scope fun X2 => WE X2 Γ2 ((L, .lst acc) :: M1) elt fun d M4 => M4 = (L, .lst acc) :: M1 ∧ d = r)
theorem lc_pick {α : Type} {l : List α} {g hh : α → D} {pk : α → Bool} {c : Expr} {items : List D} {Stb : Mem → Prop} {M1 : Mem} {R : Nat → D → VEnv → Prop} (hi : items = l.map g) (hz : l.length ≤ sizeLine) (hs : ∀ L acc, Stb ((L, .lst acc) :: M1))
    (ht : ∀ a ∈ l, ∃ Γ2, R 0 (g a) Γ2 ∧ PickT X scope Γ2 M1 c elt (pk a) (hh a)) : ∃ I : Nat → List D → Mem → Prop, I 0 [] M1 ∧ (∀ i acc M' L, I i acc M' → Stb ((L, .lst acc) :: M')) ∧
      (∀ i d acc M', items[i]? = some d → I i acc M' → ∃ Γ2, R 0 d Γ2 ∧ Turn1 X scope Γ2 [c] elt I i acc M') ∧ ∀ acc M', I items.length acc M' → acc = (l.filter pk).map hh ∧ M' = M1 := by
  subst hi
  refine ⟨fun i acc M' => M' = M1 ∧ acc = ((l.take i).filter pk).map hh, ⟨rfl, rfl⟩, fun i acc M' L h => by rw [h.1]; exact hs L acc, fun i d acc M' e h => ?_, fun acc M' h => ⟨by rw [h.2, List.length_map, List.take_length], h.1⟩⟩
  obtain ⟨rfl, rfl⟩ := h
  rw [List.getElem?_map] at e
  obtain ⟨a, ha, rfl⟩ := Option.map_eq_some_iff.mp e
  obtain ⟨Γ2, h1, h2⟩ := ht a (List.mem_of_getElem? ha)
  refine ⟨Γ2, h1, fun L s H C cl fp => ?_⟩
  refine fun S σ H' a1 a2 => tT_mono (h2 L _ s H C cl fp S σ H' a1 a2) ?_
  rintro b H2 ⟨M3, S3, ⟨rfl, rfl, q⟩, s3, m3⟩
  refine ⟨_, S3, ?_, s3, m3⟩
  cases hp : pk a with
  | true =>
    rw [if_pos rfl]
    intro s2 H2 C2 cl2 fp2
    refine (q hp s2 H2 C2 cl2 fp2).imp fun d M4 ⟨e1, e2⟩ => ⟨?_, M', e1, rfl, ?_⟩
    · rw [List.length_map]
      have l1 := List.length_filter_le pk (l.take i)
      rw [List.length_take] at l1
      have := (List.getElem?_eq_some_iff.mp ha).1
      omega
    · rw [List.take_add_one, ha, e2]
      simp [hp]
  | false =>
    rw [if_neg Bool.false_ne_true]
    refine ⟨M', rfl, rfl, ?_⟩
    rw [List.take_add_one, ha]
    simp [hp]
theorem we_lcP {α : Type} {i : Nat} {c : Expr} (l : List α) (g hh : α → D) (pk : α → Bool) (st : Stat X N N Bn Fn) (bl : Blk X scope own Vb Bb Fb) (hxi : (x, i) ∈ own) (hwp : Wiped Γ own Γb)
    (h : WI X Γ M (.Name x px) iter fun items Stb M1 => items = l.map g ∧ l.length ≤ sizeLine ∧ (∀ L acc, Stb ((L, .lst acc) :: M1)) ∧ (∀ a ∈ l, ∃ Γ2, SetAt Γb x (g a) Γ2 ∧ PickT X scope Γ2 M1 c elt (pk a) (hh a)) ∧ ∀ p, Q (.ref p) ((p, .lst ((l.filter pk).map hh)) :: M1))
    (hs : ∀ x, foldedSetIterable iter X.env x = pure x := by intro _; rfl) : WE X Γ M (.ListComp elt [⟨.Name x px, iter, [c], 0⟩] scope pos) Q := by
  refine we_lc st bl.st hxi bl.ok hwp (Nat.le_refl _) (fun S σ H a b => tI_mono (h S σ H a b) ?_) hs
  rintro J H1 ⟨items, Stb, M1, S1, ⟨h1, h2, h3, h4, h5⟩, s1, m1, W⟩
  obtain ⟨I, i1, i2, i3, i4⟩ := lc_pick (R := fun _ d Γ2 => SetAt Γb x d Γ2) h1 h2 h3 h4
  exact ⟨items, Stb, M1, S1, ⟨I, i1, i2, i3, fun acc M' q p => by obtain ⟨rfl, rfl⟩ := i4 acc M' q; exact h5 p⟩, s1, m1, W⟩
end
end DL

/-! Core10: list(range), what is left behind, lists of ints compared; places in written lists. -/
namespace DL
open PySem PySem.Spec PyProof.Rows L2
section
variable {X : Cx} {Γ : VEnv} {M : Mem} {Q : D → Mem → Prop} {QB : Bool → Mem → Prop} {x : Str} {d : D} {pos p p2 : Pos} {a e : Expr} {Ln Vn Bn Fn : List Str}
theorem rep_rg {K : PySem.W.Frag} {S : Hp} (n : Int) : Reps K S (rgV 0 n) (rngD 0 n.toNat) := by
  unfold rgV rngD
  rw [Int.sub_zero]
  exact Reps.of_map fun i _ => .int _
theorem we_listRng (st : Stat X Ln Vn Bn Fn) (hx : ("list" : Str) ∈ Bn) (hr : ("range" : Str) ∈ Bn) (h : WE X Γ M a fun d M1 => ∃ n : Int, d = .int n ∧ 0 ≤ n ∧ n ≤ 16777216 ∧ Q (.lst (rngD 0 n.toNat)) M1) (na : starEach [a] X.env = (false, eval a X.env) :: starEach [] X.env := by rfl)
    (nb : starEach [.Call (.Name "range" p2) [a] [] p] X.env = (false, eval (.Call (.Name "range" p2) [a] [] p) X.env) :: starEach [] X.env := by rfl) : WE X Γ M (.Call (.Name "list" pos) [.Call (.Name "range" p2) [a] [] p] [] pos') Q := by
  intro S σ H hΓ hM
  refine tE_of (pe_listRg st.calm (st.blt _ hx).1 (st.blt _ hx).2.1 (prg_1 (st.blt _ hr).1 (st.blt _ hr).2.1 pe_c na)) ?_
  refine tE_post (h S σ H hΓ hM) ?_
  rintro d M1 S1 v H1 ⟨n, rfl, h0, h1, q⟩ s1 m1 r1
  exact ⟨n, r1.int_inv, .of_le (Int.le_refl 0) h1 (by omega) h0, fun p hp => (post_lst m1 (rep_rg n) q p hp).weak s1⟩
theorem we_listRngO (st : Stat X Ln Vn Bn Fn) (hx : ("list" : Str) ∈ Bn) (hr : ("range" : Str) ∈ Bn) (h : WE X Γ M a fun d M1 => ∃ n : Int, d = .int n ∧ 0 ≤ n ∧ n ≤ 16777216 ∧ ∀ p, Q (.ref p) ((p, .lst (rngD 0 n.toNat)) :: M1)) (na : starEach [a] X.env = (false, eval a X.env) :: starEach [] X.env := by rfl) : WE X Γ M (.Call (.Name "list" pos) [.Call (.Name "range" p2) [a] [] p] [] pos') Q := by
  intro S σ H hΓ hM
  refine tE_of (pe_listRg st.calm (st.blt _ hx).1 (st.blt _ hx).2.1 (prg_1 (st.blt _ hr).1 (st.blt _ hr).2.1 pe_c na)) ?_
  refine tE_post (h S σ H hΓ hM) ?_
  rintro d M1 S1 v H1 ⟨n, rfl, h0, h1, q⟩ s1 m1 r1
  exact ⟨n, r1.int_inv, .of_le (Int.le_refl 0) h1 (by omega) h0, fun p hp => (post_own m1 (rep_rg n) q p hp).weak s1⟩
/-- cells that nobody asks for any more -/
theorem MO.gc {K : PySem.W.Frag} {S H : Hp} : ∀ {G : Mem} {M2 : Mem}, MO K S (G ++ M2) H → MO K S M2 H
  | [], _, m => m
  | _ :: G, _, m => MO.gc (G := G) m.drop
theorem we_gc (h : WE X Γ M e fun d M1 => ∃ G M2, List.Perm M1 (G ++ M2) ∧ Q d M2) : WE X Γ M e Q := fun S σ H hΓ hM => tE_mono (h S σ H hΓ hM) fun v H' ⟨d, M1, S1, ⟨G, M2, pm, q⟩, s1, m1, r1⟩ =>
  ⟨d, M2, S1, q, s1, (m1.perm pm).gc, r1⟩
/-- an owned list, owned no more, all else of the body forgotten -/
theorem we_fin (h : WE X Γ M e fun d M1 => ∃ p ds G M2, d = .ref p ∧ List.Perm M1 ((p, .lst ds) :: (G ++ M2)) ∧ Q (.lst ds) M2) : WE X Γ M e Q := by
  intro S σ H hΓ hM
  refine tE_mono (h S σ H hΓ hM) ?_
  rintro v H' ⟨d, M1, S1, ⟨p, ds, G, M2, rfl, pm, q⟩, s1, m1, r1⟩
  obtain ⟨S2, s2, m2, r2⟩ := (m1.perm pm).freeze
  rw [← r1.ref_inv] at r2
  exact ⟨_, M2, S2, q, s1.trans s2, m2.gc, r2⟩
/-- an owned list, still owned, all else of the body forgotten -/
theorem we_finO (h : WE X Γ M e fun d M1 => ∃ p ds G M2, d = .ref p ∧ List.Perm M1 (G ++ ((p, .lst ds) :: M2)) ∧ Q (.ref p) ((p, .lst ds) :: M2)) : WE X Γ M e Q := by
  refine we_gc (h.imp ?_)
  rintro d M1 ⟨p, ds, G, M2, rfl, pm, q⟩
  exact ⟨G, _, pm, q⟩

theorem eqv_ints : ∀ (ns ms : List Int), PyData.eqvAll (ns.map PyData.int) (ms.map PyData.int) = decide (ns = ms)
  | [], [] => rfl
  | [], _ :: _ => rfl
  | _ :: _, [] => rfl
  | n :: ns, m :: ms => by
    simp only [List.map_cons, PyData.eqvAll, PyData.eqv, eqv_ints ns ms, List.cons.injEq, Bool.decide_and]
    rfl
theorem shaped_ints (ns : List Int) : SeqAt.shaped (.list (ns.map PyData.int)) = true := by
  have h1 : PyData.canLayAll0 (ns.map PyData.int) = true := by
    induction ns with
    | nil => rfl
    | cons n ns ih => simp [PyData.canLayAll0, PyData.canLay0, ih]
  have h2 : PyData.depthAll (ns.map PyData.int) ≤ 1 := by
    induction ns with
    | nil => simp [PyData.depthAll]
    | cons n ns ih => simp only [List.map_cons, PyData.depthAll, PyData.depth]; have := ih (by simpa [PyData.canLayAll0, PyData.canLay0] using h1); omega
  unfold SeqAt.shaped
  rw [Bool.and_eq_true]
  refine ⟨by simp only [PyData.canLay0]; exact h1, decide_eq_true ?_⟩
  simp only [PyData.depth]; omega
theorem py_ints {d : D} {ns : List Int} (h : IsR M d (ns.map .int)) : Py M d (.list (ns.map PyData.int)) := by
  rcases h with (rfl | ⟨a, f, rfl, h⟩) | rfl
  · exact .lst (Pys.of_map fun a _ => .int a)
  · exact .ref h (Pys.of_map fun a _ => .int a)
  · exact .slst (Pys.of_map fun a _ => .int a)
theorem od_eqL {d e : D} {ns ms : List Int} (st : Stat X Ln Vn Bn Fn) (h1 : IsR M d (ns.map .int)) (h2 : IsR M e (ms.map .int)) (q : Q (.bl (decide (ns = ms))) M) : OD X (compareOp .Eq) d e M Q :=
  od_eqP st (py_ints h1) (py_ints h2) (shaped_ints ns) (shaped_ints ms) (by simp only [PyData.eqv, eqv_ints]; exact q)
theorem od_neL {d e : D} {ns ms : List Int} (st : Stat X Ln Vn Bn Fn) (h1 : IsR M d (ns.map .int)) (h2 : IsR M e (ms.map .int)) (q : Q (.bl (!decide (ns = ms))) M) : OD X (compareOp .NotEq) d e M Q :=
  od_neP st (py_ints h1) (py_ints h2) (shaped_ints ns) (shaped_ints ms) (by simp only [PyData.eqv, eqv_ints]; exact q)

theorem szl {n : Nat} (h : n ≤ 16777216) : n ≤ sizeLine := by rw [sizeLine_eq]; exact h
theorem szlt {n : Nat} (h : n < 16777216) : n < sizeLine := by rw [sizeLine_eq]; exact h
/-- any place of a list -/
theorem atI_mem {α : Type} {ds : List α} {r : Int} (h0 : 0 ≤ r) (h1 : r < ds.length) : ∃ d, atI ds r = some d ∧ d ∈ ds := by
  have hl : r.toNat < ds.length := by omega
  exact ⟨ds[r.toNat], atI_ofNat h0 (List.getElem?_eq_getElem hl), List.getElem_mem hl⟩
theorem IxD.list {ds : List D} {d r : D} {i : Int} (h : IsR M d ds) (e : atI ds i = some r) : IxD M d i r := .inl ⟨ds, .inl h, e⟩
theorem IxD.tup {ds : List D} {r : D} {i : Int} (e : atI ds i = some r) : IxD M (.tup ds) i r := .inl ⟨ds, .inr rfl, e⟩
theorem isR_lst {ds : List D} : IsR M (.lst ds) ds := .inl (.inl rfl)
theorem isR_slst {ds : List D} : IsR M (.slst ds) ds := .inr rfl
theorem isL_lst {ds : List D} : IsL M (.lst ds) ds := .inl rfl
theorem isR_ref {a : Addr} {ds : List D} {f : Cell → Mem} (h : At a M (.lst ds) f) : IsR M (.ref a) ds := .inl (.inr ⟨a, f, rfl, h⟩)
theorem isL_ref {a : Addr} {ds : List D} {f : Cell → Mem} (h : At a M (.lst ds) f) : IsL M (.ref a) ds := .inr ⟨a, f, rfl, h⟩
theorem ite_ff {A B : Prop} (h : B) : if false = true then A else B := by rw [if_neg Bool.false_ne_true]; exact h
theorem ite_tt {A B : Prop} (h : A) : if true = true then A else B := by rw [if_pos rfl]; exact h
theorem tyL {d : D} {ds : List D} (h : IsR M d ds) : TyD M "list" d := .inl ⟨rfl, ds, h⟩
theorem tyK {a : Addr} {kvs : List (Key × D)} {f : Cell → Mem} (h : At a M (.dK kvs) f) : TyD M "dict" (.ref a) := .inr (.inr ⟨rfl, a, f, rfl, .inl ⟨kvs, h⟩⟩)
section
variable {es : List Expr} {name : Str} {apos : Pos} {v : Str} {o i b : Expr} {op : Operator} {co : CmpOp} {ds : List D} {T : String} {n : Nat} {R : Prop} {RG : VEnv → Prop}
theorem kName {x : Str} {pos : Pos} (h : WE X Γ M (.Name x pos) Q) : WE X Γ M (.Name x pos) Q := h
theorem kIx (h : WE X Γ M (.Subscript o i pos) Q) : WE X Γ M (.Subscript o i pos) Q := h
theorem kCmp (h : WE X Γ M (.Compare o [co] [b] pos) Q) : WE X Γ M (.Compare o [co] [b] pos) Q := h
theorem kCall {x : Str} (h : WE X Γ M (.Call (.Name x p) es [] pos) Q) : WE X Γ M (.Call (.Name x p) es [] pos) Q := h
theorem kAtt (name : Str) (h : WE X Γ M (.Call (.Attribute o name apos) es [] pos) Q) : WE X Γ M (.Call (.Attribute o name apos) es [] pos) Q := h
theorem kOp (op : Operator) {d1 d2 : D} (h : OD X (binaryOp op) d1 d2 M Q) : OD X (binaryOp op) d1 d2 M Q := h
theorem kCo (op : CmpOp) {d1 d2 : D} (h : OD X (compareOp op) d1 d2 M Q) : OD X (compareOp op) d1 d2 M Q := h
theorem kBl (T : String) (h : CD X (.builtin T) ds M Q) : CD X (.builtin T) ds M Q := h
theorem kTp (T : String) (h : CD X (.type T) ds M Q) : CD X (.type T) ds M Q := h
theorem kTC (h : WT X Γ M (.Compare o [co] [b] pos) QB) : WT X Γ M (.Compare o [co] [b] pos) QB := h
theorem kTy {d : D} (h : TyD M T d ∧ R) : TyD M T d ∧ R := h
theorem kSz (h : n ≤ sizeLine ∧ R) : n ≤ sizeLine ∧ R := h
theorem kIxd {d : D} {i : Int} {R : Int → D → Prop} (h : ∃ (i' : Int) (r' : D), D.int i = .int i' ∧ IxD M d i' r' ∧ R i' r') : ∃ (i' : Int) (r' : D), D.int i = .int i' ∧ IxD M d i' r' ∧ R i' r' := h
theorem kPut {x : Str} {d : D} (h : ∃ Γ', SetAt Γ x d Γ' ∧ RG Γ') : ∃ Γ', SetAt Γ x d Γ' ∧ RG Γ' := h
theorem kLen (h : ds.length = n ∧ R) : ds.length = n ∧ R := h
theorem kWA {QA : List D → Mem → Prop} (h : WA X Γ M (e :: es) QA) : WA X Γ M (e :: es) QA := h
end
theorem woN {QO : Option Int → Mem → Prop} (h : QO none M) : WO X Γ M none QO := h
theorem woS {QO : Option Int → Mem → Prop} (h : WE X Γ M e fun d M1 => ∃ i, d = .int i ∧ QO (some i) M1) : WO X Γ M (some e) QO := h
theorem enumD_len (ds : List D) : (enumD ds).length = ds.length := by unfold enumD; rw [List.length_mapIdx]
theorem gTy {T : String} {d : D} {R : Prop} (h : TyD M T d) (q : R) : TyD M T d ∧ R := ⟨h, q⟩
theorem gSz {n : Nat} {R : Prop} (h : n ≤ sizeLine) (q : R) : n ≤ sizeLine ∧ R := ⟨h, q⟩
theorem gIx {d r : D} {i : Int} {R : Int → D → Prop} (h : IxD M d i r) (q : R i r) : ∃ (i' : Int) (r' : D), D.int i = .int i' ∧ IxD M d i' r' ∧ R i' r' := ⟨i, r, rfl, h, q⟩
theorem gBl {k : Bool} {R : Bool → Prop} (q : R k) : ∃ k', D.bl k = .bl k' ∧ R k' := ⟨k, rfl, q⟩
theorem gInt {k : Int} {R : Int → Prop} (q : R k) : ∃ k', D.int k = .int k' ∧ R k' := ⟨k, rfl, q⟩
theorem gPut {Γ' : VEnv} {R : VEnv → Prop} (h : SetAt Γ x d Γ') (q : R Γ') : ∃ Γ', SetAt Γ x d Γ' ∧ R Γ' := ⟨Γ', h, q⟩
theorem gLen {ds : List D} {n : Nat} {R : Prop} (h : ds.length = n) (q : R) : ds.length = n ∧ R := ⟨h, q⟩
theorem at2 {α : Type} {a b : α} {x : Int} : atI [a, b] (x % 2) = some (if x % 2 = 0 then a else b) := by
  rcases (by omega : x % 2 = 0 ∨ x % 2 = 1) with h | h <;> rw [h] <;> simp [atI, ixN]
/-- one of two by a truth -/
theorem atI_two {α : Type} {a b : α} {p : Prop} [Decidable p] : atI [a, b] (if decide p = true then 1 else 0) = some (if p then b else a) := by
  by_cases h : p
  · simp [h, atI, ixN]
  · simp [h, atI, ixN]
end
theorem At.app {a : Addr} {M : Mem} {c : Cell} {f : Cell → Mem} (h : At a M c f) : ∀ G : Mem, At a (G ++ M) c (fun c => G ++ f c)
  | [] => h
  | _ :: G => .there (At.app h G)
theorem cd_sortedKO {X : Cx} {M : Mem} {Q : D → Mem → Prop} {Ln Vn Bn Fn : List Str} {a : Addr} {kvs : List (Key × D)} {f : Cell → Mem} {ks ms : List Int} (st : Stat X Ln Vn Bn Fn) (h : At a M (.dK kvs) f) (hk : kvs.map (·.1) = ks.map Sum.inl) (h64 : ks.length < 64) (hp : ms.Perm ks) (hs : ms.Pairwise (· ≤ ·)) (q : ∀ p, Q (.ref p) ((p, .lst (ms.map D.int)) :: M)) : CD X (.builtin "sorted") [.ref a] M Q := by
  refine cd_of (call_sortedDI st.calm) fun S H xs rx m => ?_
  obtain ⟨v, rfl, rv⟩ := reps_one rx
  obtain ⟨us, hx, pk⟩ := m.at_ok h
  refine ⟨a, us, ks, by rw [rv.ref_inv], .inl hx, pk.1.trans hk, h64, fun ys p h2 h3 hp' => ?_⟩
  have e : ys = ms := (h2.trans hp.symm).eq_of_pairwise (fun a b _ _ h1 h2 => Int.le_antisymm h1 h2) h3 hs
  subst e
  exact post_own m Reps.ints q p hp'
theorem Bod.lk {P : Program} {w : World} {K : PySem.W.Frag} {mg : Str → Option Value} {base : Heap} {k : Nat} {sc : Scope} {N Ln Bn Fn Bx : List Str} {X : Cx} {x : Str} {r : NameKind} (b : Bod P w K mg base k sc N Ln Bn Fn Bx X) (h : sc.names.lookup x = some r) : X.env.scope.names.lookup x = some r := by rw [b.sc]; exact h
/-- what a comprehension's block has of its def's context -/
structure Inn (X X1 : Cx) (scope : Scope) (ow Vb Bb Fb : List Str) : Prop where
  N : X1.N = X.N
  sc : X1.env.scope = relS scope X.env.scope
  mg : X1.mg = X.mg
  st : Stat X1 ow Vb Bb Fb
  tr : ∀ {j : Nat} {x : Str} {n : Nat} {G : DSp}, Fs X.prog X.w X.K X.mg X.base j x n G → Fs X1.prog X1.w X1.K X1.mg X1.base j x n G
  rm : ∀ {j : Nat}, Room j X.A → Room j X1.A
  base : X1.base = X.base
  pr : X1.prog = X.prog
  wd : X1.w = X.w
  fr : X1.K = X.K
theorem Blk.inn {X : Cx} {scope : Scope} {own : List (Str × Nat)} {Vb Bb Fb : List Str} (b : Blk X scope own Vb Bb Fb) (s : Shared) (H : Hp) (C : Addr) (cl : List (Str × Addr)) (fp : List Addr) : Inn X (BX X scope s H C cl fp) scope (own.map (·.1)) Vb Bb Fb := ⟨rfl, rfl, rfl, b.st s H C cl fp, fun h => h, fun h => h, rfl, rfl, rfl, rfl⟩
theorem mapT_of {X : Cx} {Γ2 : VEnv} {M1 : Mem} {elt : Expr} {r : D} {scope : Scope} {own : List (Str × Nat)} {Vb Bb Fb : List Str} (b : Blk X scope own Vb Bb Fb) (h : ∀ X1, Inn X X1 scope (own.map (·.1)) Vb Bb Fb → ∀ L acc, WE X1 Γ2 ((L, .lst acc) :: M1) elt fun d M4 => M4 = (L, .lst acc) :: M1 ∧ d = r) : MapT X scope Γ2 M1 elt r :=
  fun L acc s H C cl fp => h _ (b.inn s H C cl fp) L acc
theorem pickT_of {X : Cx} {Γ2 : VEnv} {M1 : Mem} {c elt : Expr} {p : Bool} {r : D} {scope : Scope} {own : List (Str × Nat)} {Vb Bb Fb : List Str} (b : Blk X scope own Vb Bb Fb)
    (hc : ∀ X1, Inn X X1 scope (own.map (·.1)) Vb Bb Fb → ∀ L acc, WT X1 Γ2 ((L, .lst acc) :: M1) c fun b M3 => b = p ∧ M3 = (L, .lst acc) :: M1) (he : p = true → ∀ X1, Inn X X1 scope (own.map (·.1)) Vb Bb Fb → ∀ L acc, WE X1 Γ2 ((L, .lst acc) :: M1) elt fun d M4 => M4 = (L, .lst acc) :: M1 ∧ d = r) : PickT X scope Γ2 M1 c elt p r := by
  intro L acc s H C cl fp S σ H' a1 a2
  refine tT_mono (hc _ (b.inn s H C cl fp) L acc S σ H' a1 a2) ?_
  rintro k H2 ⟨M3, S3, ⟨e1, e2⟩, s3, m3⟩
  exact ⟨M3, S3, ⟨e1, e2, fun hp s2 H2 C2 cl2 fp2 => he hp _ (b.inn s2 H2 C2 cl2 fp2) L acc⟩, s3, m3⟩
section
variable {P : Program} {w : World} {K : PySem.W.Frag} {mg : Str → Option Value} {base : Heap} {X : Cx} {Γ Γb : VEnv} {M : Mem} {Q : D → Mem → Prop} {E : DE} {x : Str} {pos px : Pos} {elt iter c : Expr} {scope sc : Scope} {own : List (Str × Nat)} {N Ln Bn Fn Bx Vb Bb Fb : List Str} {k : Nat} {α : Type}
abbrev Each (X : Cx) (scope : Scope) (ow Vb Bb Fb : List Str) (Γ2 : VEnv) (M1 : Mem) (elt : Expr) (r : D) : Prop := ∀ X1, Inn X X1 scope ow Vb Bb Fb → ∀ L acc, WE X1 Γ2 ((L, .lst acc) :: M1) elt fun d M4 => M4 = (L, .lst acc) :: M1 ∧ d = r
abbrev EachIf (X : Cx) (scope : Scope) (ow Vb Bb Fb : List Str) (Γ2 : VEnv) (M1 : Mem) (c : Expr) (p : Bool) : Prop := ∀ X1, Inn X X1 scope ow Vb Bb Fb → ∀ L acc, WT X1 Γ2 ((L, .lst acc) :: M1) c fun b M3 => b = p ∧ M3 = (L, .lst acc) :: M1
theorem wi_imp {tg : Expr} {QI QI' : List D → (Mem → Prop) → Mem → Prop} (h : WI X Γ M tg iter QI) (m : ∀ a b c, QI a b c → QI' a b c) : WI X Γ M tg iter QI' := fun S σ H a b => tI_mono (h S σ H a b) fun J H1 ⟨i, s, M1, S1, q, r⟩ => ⟨i, s, M1, S1, m _ _ _ q, r⟩
theorem we_map {i : Nat} (l : List α) (g hh : α → D) (own : List (Str × Nat)) (Vb Bb Fb : List Str) (bod : Bod P w K mg base k sc N Ln Bn Fn Bx X) (hc : (blkC N sc scope own && blkChk sc scope (own.map (·.1)) Vb Bb Fb Bx) = true) (hxi : (x, i) ∈ own) (hwp : Wiped Γ own Γb)
    (h : WI X Γ M (.Name x px) iter fun items Stb M1 => items = l.map g ∧ l.length ≤ sizeLine ∧ (∀ L acc, Stb ((L, .lst acc) :: M1)) ∧ (∀ a ∈ l, ∃ Γ2, SetAt Γb x (g a) Γ2 ∧ Each X scope (own.map (·.1)) Vb Bb Fb Γ2 M1 elt (hh a)) ∧ ∀ p, Q (.ref p) ((p, .lst (l.map hh)) :: M1))
    (hs : ∀ x, foldedSetIterable iter X.env x = pure x := by intro _; rfl) : WE X Γ M (.ListComp elt [⟨.Name x px, iter, [], 0⟩] scope pos) Q :=
  we_lcM l g hh bod.st (blk_of bod hc) hxi hwp (wi_imp h fun _ _ _ ⟨h1, h2, h3, h4, h5⟩ => ⟨h1, h2, h3, fun a ha => let ⟨Γ2, q1, q2⟩ := h4 a ha; ⟨Γ2, q1, mapT_of (blk_of bod hc) q2⟩, h5⟩) hs
theorem ws_setMap {i j : Nat} {y : Str} {py spos : Pos} (l : List α) (g hh : α → D) (own : List (Str × Nat)) (Vb Bb Fb : List Str) (bod : Bod P w K mg base k sc N Ln Bn Fn Bx X) (hc : (blkC N sc scope own && blkChk sc scope (own.map (·.1)) Vb Bb Fb Bx) = true) (hxi : (x, i) ∈ own) (hwp : Wiped Γ own Γb)
    (hy : y ∈ Ln) (hyl : sc.names.lookup y = some .local) (hNy : N[j]? = some y) (ha : (scope.names.any fun (n, k) => n == y && (k == .local || k == .cell)) = false)
    (h : WI X Γ M (.Name x px) iter fun items Stb M1 => items = l.map g ∧ l.length ≤ sizeLine ∧ (∀ L acc, Stb ((L, .lst acc) :: M1)) ∧ (∀ a ∈ l, ∃ Γ2, SetAt Γb x (g a) Γ2 ∧ Each X scope (own.map (·.1)) Vb Bb Fb Γ2 M1 elt (hh a)) ∧ ∀ p, ∃ Γ', SetAt Γ y (.ref p) Γ' ∧ E.nx Γ' ((p, .lst (l.map hh)) :: M1))
    (hl : (py.line == pos.line) = true := by rfl) (hl2 : spos.line = py.line := by rfl) (hs : ∀ x, foldedSetIterable iter X.env x = pure x := by intro _; rfl) : WS X Γ M (.Assign [.Name y py] (.ListComp elt [⟨.Name x px, iter, [], 0⟩] scope pos) spos) E :=
  ws_setLcM l g hh bod.st (blk_of bod hc) hxi hwp hy (by rw [bod.sc]; exact hyl) bod.kind (by rw [bod.N]; exact hNy) ha (wi_imp h fun _ _ _ ⟨h1, h2, h3, h4, h5⟩ => ⟨h1, h2, h3, fun a ha => let ⟨Γ2, q1, q2⟩ := h4 a ha; ⟨Γ2, q1, mapT_of (blk_of bod hc) q2⟩, h5⟩) hl hl2 hs
theorem we_mapT2 {i j : Nat} {y : Str} {py ptt : Pos} {kk : Nat} (l : List α) (ga gb hh : α → D) (own : List (Str × Nat)) (Vb Bb Fb : List Str) (bod : Bod P w K mg base k sc N Ln Bn Fn Bx X) (hc : (blkC N sc scope own && blkChk sc scope (own.map (·.1)) Vb Bb Fb Bx) = true) (hxi : (x, i) ∈ own) (hyj : (y, j) ∈ own) (hwp : Wiped Γ own Γb)
    (h : WI X Γ M (.Tuple [.Name x px, .Name y py] kk ptt) iter fun items Stb M1 => items = l.map (fun a => .tup [ga a, gb a]) ∧ l.length ≤ sizeLine ∧ (∀ L acc, Stb ((L, .lst acc) :: M1)) ∧ (∀ a ∈ l, ∃ Γ2 Γ3, SetAt Γb x (ga a) Γ2 ∧ SetAt Γ2 y (gb a) Γ3 ∧ Each X scope (own.map (·.1)) Vb Bb Fb Γ3 M1 elt (hh a)) ∧ ∀ p, Q (.ref p) ((p, .lst (l.map hh)) :: M1))
    (hs : ∀ x, foldedSetIterable iter X.env x = pure x := by intro _; rfl) : WE X Γ M (.ListComp elt [⟨.Tuple [.Name x px, .Name y py] kk ptt, iter, [], 0⟩] scope pos) Q :=
  we_lcTM (xs := [x, y]) (is := [i, j]) (n := 2) l (fun a => [ga a, gb a]) hh bod.st (blk_of bod hc) (.cons hxi (.cons hyj .nil)) hwp (pgs_n2 (blk_of bod hc).st (blk_of bod hc).ok hxi hyj) (fun _ _ _ _ _ => ⟨rfl, rfl⟩)
    (wi_imp h fun _ _ _ ⟨h1, h2, h3, h4, h5⟩ => ⟨h1, h2, h3, fun a ha => let ⟨Γ2, Γ3, q1, q2, q3⟩ := h4 a ha; ⟨Γ3, ⟨rfl, .cons q1 (.cons q2 .nil)⟩, mapT_of (blk_of bod hc) q3⟩, h5⟩) hs
theorem wss_perm {Γ : VEnv} {M M2 : Mem} {sts : List Stmt} (pm : List.Perm M M2) (h : WSs X Γ M2 sts E) : WSs X Γ M sts E := fun S σ H hΓ hM => h S σ H hΓ (hM.perm pm)
/-- a name's owned list is owned no more -/
theorem wss_frz {Γ Γ2 : VEnv} {M : Mem} {p : Addr} {ds : List D} {sts : List Stmt} (hl : Look Γ x (.ref p)) (hs : SetAt Γ x (.lst ds) Γ2) (st : Stat X Ln Vb Bb Fb) (hx : x ∈ Ln) (h : WSs X Γ2 M sts E) : WSs X Γ ((p, .lst ds) :: M) sts E := by
  intro S σ H hΓ hM
  obtain ⟨S2, s2, m2, r2⟩ := hM.freeze
  obtain ⟨i, ei⟩ := hl.at
  obtain ⟨v, hv, rv⟩ := hΓ.vals i x _ ei
  obtain ⟨j, o, ej, rfl⟩ := hs.at
  have hΓ2 := hΓ.mono s2
  have e : j = i := nodup_ix st.nd (hΓ.name ej) (hΓ.name ei)
  subst e
  rw [rv.ref_inv] at hv
  refine tSs_weak (h S2 σ H ⟨hΓ2.len, ?_, fun i' y d' q => ?_⟩ m2) s2
  · rw [set_name ej]; exact hΓ2.names
  · rw [List.getElem?_set] at q
    split at q
    · rename_i hij
      subst hij
      split at q
      · cases q
        exact ⟨_, hv, r2⟩
      · cases q
    · exact hΓ2.vals i' y d' q
abbrev StStep (X : Cx) (scope : Scope) (ow Vb Bb Fb : List Str) (Γb : VEnv) (x : Str) (elt : Expr) (I : Nat → List D → Mem → Prop) (i : Nat) (d : D) (acc : List D) (M' : Mem) : Prop :=
  acc.length < sizeLine ∧ ∃ Γ2, SetAt Γb x d Γ2 ∧ ∀ X1, Inn X X1 scope ow Vb Bb Fb → ∀ L, WE X1 Γ2 ((L, .lst acc) :: M') elt fun d M4 => ∃ M5, M4 = (L, .lst acc) :: M5 ∧ I (i + 1) (acc ++ [d]) M5
theorem turn_of {Γ2 : VEnv} {I : Nat → List D → Mem → Prop} {n : Nat} {acc : List D} {M' : Mem} (b : Blk X scope own Vb Bb Fb) (hl : acc.length < sizeLine) (h : ∀ X1, Inn X X1 scope (own.map (·.1)) Vb Bb Fb → ∀ L, WE X1 Γ2 ((L, .lst acc) :: M') elt fun d M4 => ∃ M5, M4 = (L, .lst acc) :: M5 ∧ I (n + 1) (acc ++ [d]) M5) : Turn1 X scope Γ2 [] elt I n acc M' := by
  intro L s H C cl fp
  dsimp only [WTs]
  rw [if_pos rfl]
  intro s2 H2 C2 cl2 fp2
  exact (h _ (b.inn s2 H2 C2 cl2 fp2) L).imp fun d M4 ⟨M5, e, q⟩ => ⟨hl, M5, e, q⟩
theorem ws_setSt {i j : Nat} {y : Str} {py spos : Pos} (own : List (Str × Nat)) (Vb Bb Fb : List Str) (bod : Bod P w K mg base k sc N Ln Bn Fn Bx X) (hc : (blkC N sc scope own && blkChk sc scope (own.map (·.1)) Vb Bb Fb Bx) = true) (hxi : (x, i) ∈ own) (hwp : Wiped Γ own Γb)
    (hy : y ∈ Ln) (hyl : sc.names.lookup y = some .local) (hNy : N[j]? = some y) (ha : (scope.names.any fun (n, k) => n == y && (k == .local || k == .cell)) = false)
    (h : WI X Γ M (.Name x px) iter fun items Stb M1 => ∃ I : Nat → List D → Mem → Prop, I 0 [] M1 ∧ (∀ i acc M' L, I i acc M' → Stb ((L, .lst acc) :: M')) ∧ (∀ i d acc M', items[i]? = some d → I i acc M' → StStep X scope (own.map (·.1)) Vb Bb Fb Γb x elt I i d acc M') ∧ ∀ acc M', I items.length acc M' → ∀ p, ∃ Γ', SetAt Γ y (.ref p) Γ' ∧ E.nx Γ' ((p, .lst acc) :: M'))
    (hl : (py.line == pos.line) = true := by rfl) (hl2 : spos.line = py.line := by rfl) (hs : ∀ x, foldedSetIterable iter X.env x = pure x := by intro _; rfl) : WS X Γ M (.Assign [.Name y py] (.ListComp elt [⟨.Name x px, iter, [], 0⟩] scope pos) spos) E :=
  ws_setLc bod.st hy (by rw [bod.sc]; exact hyl) bod.kind (by rw [bod.N]; exact hNy) ha (blk_of bod hc).st hxi (blk_of bod hc).ok hwp (Nat.zero_le _)
    (wi_imp h fun _ _ _ ⟨I, h1, h2, h3, h4⟩ => ⟨I, h1, h2, fun i d acc M' e q => let ⟨hl, Γ2, a, b⟩ := h3 i d acc M' e q; ⟨Γ2, a, turn_of (blk_of bod hc) hl b⟩, h4⟩) hl hl2 hs
theorem we_pick {i : Nat} (l : List α) (g hh : α → D) (pk : α → Bool) (own : List (Str × Nat)) (Vb Bb Fb : List Str) (bod : Bod P w K mg base k sc N Ln Bn Fn Bx X) (hc : (blkC N sc scope own && blkChk sc scope (own.map (·.1)) Vb Bb Fb Bx) = true) (hxi : (x, i) ∈ own) (hwp : Wiped Γ own Γb)
    (h : WI X Γ M (.Name x px) iter fun items Stb M1 => items = l.map g ∧ l.length ≤ sizeLine ∧ (∀ L acc, Stb ((L, .lst acc) :: M1)) ∧ (∀ a ∈ l, ∃ Γ2, SetAt Γb x (g a) Γ2 ∧ EachIf X scope (own.map (·.1)) Vb Bb Fb Γ2 M1 c (pk a) ∧ (pk a = true → Each X scope (own.map (·.1)) Vb Bb Fb Γ2 M1 elt (hh a))) ∧ ∀ p, Q (.ref p) ((p, .lst ((l.filter pk).map hh)) :: M1))
    (hs : ∀ x, foldedSetIterable iter X.env x = pure x := by intro _; rfl) : WE X Γ M (.ListComp elt [⟨.Name x px, iter, [c], 0⟩] scope pos) Q :=
  we_lcP l g hh pk bod.st (blk_of bod hc) hxi hwp (wi_imp h fun _ _ _ ⟨h1, h2, h3, h4, h5⟩ => ⟨h1, h2, h3, fun a ha => let ⟨Γ2, q1, q2, q3⟩ := h4 a ha; ⟨Γ2, q1, pickT_of (blk_of bod hc) q2 q3⟩, h5⟩) hs
end
end DL

/-! ### works, as plain data -/
namespace Wk
open DL
open PySem (Addr)
inductive Dd where
  | set (b : Nat) (n : Int) | add (b o : Nat) | tell (b : Nat) | call (w : Nat) | save (b : Nat) | back (b : Nat)
  deriving DecidableEq
inductive Nd where
  | out | go (t : Nat) | fork (t o : Nat)
  deriving DecidableEq
abbrev Bk := List Dd × Nd
abbrev W := List Bk
def Dd.d : Dd → D
  | .set b n => .tup [.str "set", .int (b : Int), .int n]
  | .add b o => .tup [.str "add", .int (b : Int), .int (o : Int)]
  | .tell b => .tup [.str "tell", .int (b : Int)]
  | .call w => .tup [.str "call", .int (w : Int)]
  | .save b => .tup [.str "save", .int (b : Int)]
  | .back b => .tup [.str "back", .int (b : Int)]
def Nd.nx : Nd → List Nat
  | .out => []
  | .go t => [t]
  | .fork t o => [t, o]
def natD (n : Nat) : D := .int (n : Int)
def Nd.d : Nd → D
  | .out => .tup [.str "out"]
  | .go t => .tup [.str "go", natD t]
  | .fork t o => .tup [.str "fork", natD t, natD o]
def Bk.d (b : Bk) : D := .tup [.lst (b.1.map Dd.d), b.2.d]
def W.d (w : W) : D := .lst (w.map Bk.d)
def Ws.d (ws : List W) : D := .lst (ws.map W.d)
abbrev nlD (l : List Nat) : D := .lst (l.map natD)
def Dd.Ok (nw : Nat) : Dd → Prop
  | .set b n => b < 8 ∧ -1000000000000 ≤ n ∧ n ≤ 1000000000000
  | .add b o => b < 8 ∧ o < 8
  | .tell b => b < 8
  | .call w => w < nw
  | .save b => b < 8
  | .back b => b < 8
def Dd.plain : Dd → Bool
  | .save _ => false
  | .back _ => false
  | _ => true
def Nd.Ok (m : Nat) : Nd → Prop
  | .out => True
  | .go t => 1 ≤ t ∧ t < m
  | .fork t o => 1 ≤ t ∧ t < m ∧ 1 ≤ o ∧ o < m ∧ t ≠ o
theorem Nd.Ok.nx {m : Nat} {e : Nd} (h : e.Ok m) : ∀ t ∈ e.nx, 1 ≤ t ∧ t < m := by
  intro t ht
  cases e with
  | out => cases ht
  | go a => simp only [Nd.nx, List.mem_singleton] at ht; subst ht; exact h
  | fork a b =>
    simp only [Nd.nx, List.mem_cons, List.not_mem_nil, or_false] at ht
    rcases ht with rfl | rfl
    · exact ⟨h.1, h.2.1⟩
    · exact ⟨h.2.2.1, h.2.2.2.1⟩
/-- ends as they are drawn: each block but the first is led to by a lesser one -/
structure NxOk (m : Nat) (nx : List Nd) : Prop where
  len : nx.length = m
  ok : ∀ e ∈ nx, e.Ok m
  led : ∀ j, 1 ≤ j → j < m → ∃ (i : Nat) (e : Nd), i < j ∧ nx[i]? = some e ∧ j ∈ e.nx
theorem map_erase {α β : Type} (g : α → β) : ∀ (l : List α) (k : Nat), (l.map g).eraseIdx k = (l.eraseIdx k).map g
  | [], _ => rfl
  | _ :: _, 0 => rfl
  | a :: l, k + 1 => congrArg (g a :: ·) (map_erase g l k)
theorem isR_nl {M : Mem} {l : List Nat} : IsR M (nlD l) ((l.map fun (n : Nat) => (n : Int)).map D.int) := by rw [List.map_map]; exact isR_lst
theorem nat_inj : ∀ {a b : List Nat}, a.map (fun (n : Nat) => (n : Int)) = b.map (fun (n : Nat) => (n : Int)) → a = b
  | [], [], _ => rfl
  | [], _ :: _, h => by cases h
  | _ :: _, [], h => by cases h
  | x :: a, y :: b, h => by
    simp only [List.map_cons, List.cons.injEq] at h
    rw [Int.ofNat_inj.mp h.1, nat_inj h.2]
theorem od_eqNL {X : L2.Cx} {M : Mem} {Q : D → Mem → Prop} {Ln Vn Bn Fn : List PySem.Str} {a b : List Nat} (st : Stat X Ln Vn Bn Fn) (q : Q (.bl (decide (a = b))) M) : OD X (PySem.compareOp .Eq) (nlD a) (nlD b) M Q := by
  refine od_eqL st isR_nl isR_nl ?_
  rw [show decide (a.map (fun (n : Nat) => (n : Int)) = b.map (fun (n : Nat) => (n : Int))) = decide (a = b) from decide_eq_decide.mpr ⟨nat_inj, fun h => by rw [h]⟩]
  exact q
theorem nl1 {x : Int} {t : Nat} (h : x = (t : Int)) : D.lst [.int x] = nlD [t] := by subst h; rfl
theorem nl2 {x y : Int} {t o : Nat} (h : x = (t : Int)) (g : y = (o : Int)) : D.lst [.int x, .int y] = nlD [t, o] := by subst h; subst g; rfl
/-- where a block's end leads, in rising order -/
def Nd.sx : Nd → List Nat
  | .out => []
  | .go t => [t]
  | .fork t o => if t ≤ o then [t, o] else [o, t]
theorem Nd.cut (e : Nd) : ∃ ds, e.d = .tup ds ∧ cutD ds (some (1 : Int)) none = e.nx.map natD := by
  cases e <;> exact ⟨_, rfl, cutD_from _ 1⟩
theorem Nd.sx_fork {t o : Nat} : (Nd.fork t o).sx = if t ≤ o then [t, o] else [o, t] := rfl
theorem Nd.sx_perm (e : Nd) : (e.sx.map fun (n : Nat) => (n : Int)).Perm (e.nx.map fun (n : Nat) => (n : Int)) := by
  cases e with
  | out => exact .refl _
  | go t => exact .refl _
  | fork t o =>
    rw [Nd.sx_fork]
    by_cases h : t ≤ o
    · rw [if_pos h]; exact .refl _
    · rw [if_neg h]; exact .swap _ _ _
theorem Nd.sx_up (e : Nd) : (e.sx.map fun (n : Nat) => (n : Int)).Pairwise (· ≤ ·) := by
  cases e with
  | out => exact .nil
  | go t => exact List.pairwise_singleton _ _
  | fork t o =>
    rw [Nd.sx_fork]
    by_cases h : t ≤ o
    · rw [if_pos h]; simp; omega
    · rw [if_neg h]; simp; omega
theorem Nd.sx_len (e : Nd) : e.sx.length ≤ 2 := by
  cases e with
  | out => exact Nat.zero_le _
  | go t => exact Nat.le_succ _
  | fork t o =>
    rw [Nd.sx_fork]
    by_cases h : t ≤ o
    · rw [if_pos h]; exact Nat.le_refl _
    · rw [if_neg h]; exact Nat.le_refl _
def pairD (p : Int × Int) : D := .tup [.int p.1, .int p.2]
def wayK (n k : Nat) (e : Nd) : List (Int × Int) := if e.nx = [] then [((k : Int), (n : Int))] else e.sx.map fun (t : Nat) => ((k : Int), (t : Int))
def waysFrom (n : Nat) : Nat → List Nd → List (Int × Int)
  | _, [] => []
  | k, e :: r => wayK n k e ++ waysFrom n (k + 1) r
theorem waysFrom_app (n : Nat) : ∀ (l : List Nd) (k : Nat) (e : Nd), waysFrom n k (l ++ [e]) = waysFrom n k l ++ wayK n (k + l.length) e
  | [], k, e => by simp [waysFrom]
  | x :: l, k, e => by
    rw [List.cons_append, waysFrom, waysFrom, waysFrom_app n l (k + 1) e, List.append_assoc, List.length_cons]
    congr 3
    omega
def ways (w : W) : List (Int × Int) := (-1, 0) :: waysFrom w.length 0 (w.map (·.2))
theorem wayK_len (n k : Nat) (e : Nd) : (wayK n k e).length ≤ 2 := by
  unfold wayK
  split
  · simp
  · rw [List.length_map]; exact e.sx_len
theorem waysFrom_len (n : Nat) : ∀ (l : List Nd) (k : Nat), (waysFrom n k l).length ≤ 2 * l.length
  | [], _ => by simp [waysFrom]
  | e :: l, k => by
    have := wayK_len n k e
    have := waysFrom_len n l (k + 1)
    rw [waysFrom, List.length_append, List.length_cons]
    omega
theorem ways_len (w : W) : (ways w).length ≤ 1 + 2 * w.length := by
  have := waysFrom_len w.length (w.map (·.2)) 0
  rw [List.length_map] at this
  unfold ways
  rw [List.length_cons]
  omega
theorem sx_nil (e : Nd) (h : e.nx = []) : e.sx = [] := by
  cases e with
  | out => rfl
  | go t => cases h
  | fork a b => cases h
def Dd.wr : Dd → Bool
  | .set _ _ => true
  | .add _ _ => true
  | _ => false
def Dd.wb : Dd → Nat
  | .set b _ => b
  | .add b _ => b
  | .tell b => b
  | .call w => w
  | .save b => b
  | .back b => b
def Dd.word : Dd → PySem.Str
  | .set _ _ => "set"
  | .add _ _ => "add"
  | .tell _ => "tell"
  | .call _ => "call"
  | .save _ => "save"
  | .back _ => "back"
theorem Dd.at0 (d : Dd) : ∃ ds, d.d = .tup ds ∧ L2.atI ds 0 = some (D.str d.word) ∧ L2.atI ds 1 = some (natD d.wb) := by
  cases d <;> exact ⟨_, rfl, rfl, rfl⟩
theorem wd_set : decide (("set" : PySem.Str) ∈ (["set", "add"] : List PySem.Str)) = true := by decide +kernel
theorem wd_add : decide (("add" : PySem.Str) ∈ (["set", "add"] : List PySem.Str)) = true := by decide +kernel
theorem wd_tell : decide (("tell" : PySem.Str) ∈ (["set", "add"] : List PySem.Str)) = false := by decide +kernel
theorem wd_call : decide (("call" : PySem.Str) ∈ (["set", "add"] : List PySem.Str)) = false := by decide +kernel
theorem wd_save : decide (("save" : PySem.Str) ∈ (["set", "add"] : List PySem.Str)) = false := by decide +kernel
theorem wd_back : decide (("back" : PySem.Str) ∈ (["set", "add"] : List PySem.Str)) = false := by decide +kernel
theorem Dd.word_wr : ∀ d : Dd, decide (d.word ∈ (["set", "add"] : List PySem.Str)) = d.wr
  | .set _ _ => wd_set
  | .add _ _ => wd_add
  | .tell _ => wd_tell
  | .call _ => wd_call
  | .save _ => wd_save
  | .back _ => wd_back
/-- the boxes that a work's deeds set, as they come -/
def wrote (w : W) : List Nat := w.flatMap fun k => (k.1.filter Dd.wr).map Dd.wb
def boxesOf (w : W) : List Nat := (List.range 8).filter fun b => decide (b ∈ wrote w)
theorem boxesOf_nd (w : W) : (boxesOf w).Nodup := List.nodup_range.filter _
theorem boxesOf_up (w : W) : ((boxesOf w).map fun (n : Nat) => (n : Int)).Pairwise (· < ·) := by
  rw [List.pairwise_map]
  exact (List.pairwise_lt_range.filter _).imp fun h => by omega
theorem Dd.Ok.wb_lt {nw : Nat} {d : Dd} (h : d.Ok nw) (hw : d.wr = true) : d.wb < 8 := by
  cases d with
  | set b n => exact h.1
  | add b o => exact h.1
  | tell b => cases hw
  | call b => cases hw
  | save b => cases hw
  | back b => cases hw
structure KeysOf (kvs : List (L2.Key × D)) (seen : List Nat) : Prop where
  ex : ∃ ks : List Nat, kvs.map (·.1) = ks.map (fun (n : Nat) => (Sum.inl (n : Int) : L2.Key)) ∧ ks.Nodup ∧ (∀ b, b ∈ ks ↔ b ∈ seen) ∧ ks.length ≤ seen.length
theorem KeysOf.len {kvs : List (L2.Key × D)} {seen : List Nat} (h : KeysOf kvs seen) : kvs.length ≤ seen.length := by
  obtain ⟨ks, h1, _, _, h4⟩ := h.ex
  have := congrArg List.length h1
  rw [List.length_map, List.length_map] at this
  omega
theorem KeysOf.put {kvs : List (L2.Key × D)} {seen : List Nat} (h : KeysOf kvs seen) (b : Nat) (v : D) : KeysOf (putA kvs (.inl (b : Int)) v) (seen ++ [b]) := by
  obtain ⟨ks, h1, h2, h3, h4⟩ := h.ex
  have hk : (valA kvs (.inl (b : Int))).isSome = true ↔ b ∈ ks := by
    rw [valA_mem_keys, h1, List.mem_map]
    constructor
    · rintro ⟨n, hn, e⟩
      have : n = b := Int.ofNat_inj.mp (Sum.inl.inj e)
      rw [← this]; exact hn
    · exact fun hb => ⟨b, hb, rfl⟩
  by_cases hb : b ∈ ks
  · refine ⟨ks, by rw [putA_keys, if_pos (hk.mpr hb), h1], h2, fun c => ?_, by simp; omega⟩
    rw [List.mem_append, List.mem_singleton, ← h3 c]
    exact ⟨.inl, fun q => q.elim id fun e => by rw [e]; exact hb⟩
  · refine ⟨ks ++ [b], by rw [putA_keys, if_neg (fun q => hb (hk.mp q)), h1, List.map_append]; rfl, ?_, fun c => ?_, by simp; omega⟩
    · rw [List.nodup_append]
      exact ⟨h2, by simp, fun a ha c hc => by rw [List.mem_singleton] at hc; subst hc; exact fun e => hb (e ▸ ha)⟩
    · rw [List.mem_append, List.mem_append, h3 c]
theorem KeysOf.perm {kvs : List (L2.Key × D)} {w : W} (h : KeysOf kvs (wrote w)) (h8 : ∀ b ∈ wrote w, b < 8) : ∃ ks : List Nat, kvs.map (·.1) = (ks.map fun (n : Nat) => (n : Int)).map Sum.inl ∧ (boxesOf w).Perm ks ∧ ks.length ≤ 8 := by
  obtain ⟨ks, h1, h2, h3, _⟩ := h.ex
  have pm : (boxesOf w).Perm ks := by
    rw [List.perm_ext_iff_of_nodup (boxesOf_nd w) h2]
    intro b
    unfold boxesOf
    rw [List.mem_filter, List.mem_range, decide_eq_true_iff, h3]
    exact ⟨fun q => q.2, fun q => ⟨h8 b q, q⟩⟩
  refine ⟨ks, by rw [h1, List.map_map]; rfl, pm, ?_⟩
  rw [← pm.length_eq]
  have := List.length_filter_le (fun b => decide (b ∈ wrote w)) (List.range 8)
  rw [List.length_range] at this
  exact this
theorem wrote_len (w : W) (h : ∀ b ∈ w, b.1.length ≤ 24) : (wrote w).length ≤ 24 * w.length := by
  unfold wrote
  induction w with
  | nil => simp
  | cons b w ih =>
    have h1 := h b List.mem_cons_self
    have h2 := ih fun c hc => h c (List.mem_cons_of_mem _ hc)
    have h3 := List.length_filter_le Dd.wr b.1
    simp only [List.flatMap_cons, List.length_append, List.length_map, List.length_cons]
    omega
def cellW (c : Addr × W) : Addr × Cell := (c.1, .lst (c.2.map Bk.d))
def cellsW (cs : List (Addr × W)) : Mem := cs.map cellW
def refW (c : Addr × W) : D := .ref c.1
structure Ok (nw : Nat) (w : W) : Prop where
  pos : 0 < w.length
  len : w.length ≤ 16
  dd : ∀ b ∈ w, ∀ d ∈ b.1, d.Ok nw
  few : ∀ b ∈ w, b.1.length ≤ 24
  nd : ∀ b ∈ w, b.2.Ok w.length
  led : ∀ j, 1 ≤ j → j < w.length → ∃ (i : Nat) (b : Bk), i < j ∧ w[i]? = some b ∧ j ∈ b.2.nx
theorem Ok.same {nw : Nat} {w0 w : W} (h : Ok nw w0) (e : w.map (·.2) = w0.map (·.2)) (hd : ∀ b ∈ w, (∀ d ∈ b.1, d.Ok nw) ∧ b.1.length ≤ 24) : Ok nw w := by
  have hl : w.length = w0.length := by have := congrArg List.length e; simpa using this
  refine ⟨by rw [hl]; exact h.pos, by rw [hl]; exact h.len, fun b hb => (hd b hb).1, fun b hb => (hd b hb).2, fun b hb => ?_, fun j h1 h2 => ?_⟩
  · have : b.2 ∈ w0.map (·.2) := by rw [← e]; exact List.mem_map.mpr ⟨b, hb, rfl⟩
    obtain ⟨b0, hb0, e0⟩ := List.mem_map.mp this
    rw [hl, ← e0]
    exact h.nd b0 hb0
  · obtain ⟨i, b, q1, q2, q3⟩ := h.led j h1 (by omega)
    have e2 : (w.map (·.2))[i]? = some b.2 := by rw [e, List.getElem?_map, q2]; rfl
    rw [List.getElem?_map] at e2
    obtain ⟨b', hb', e3⟩ := Option.map_eq_some_iff.mp e2
    exact ⟨i, b', q1, hb', by rw [e3]; exact q3⟩
theorem Ok.wrote8 {nw : Nat} {w : W} (h : Ok nw w) : ∀ b ∈ wrote w, b < 8 := by
  intro b hb
  obtain ⟨k, hk, hb⟩ := List.mem_flatMap.mp hb
  obtain ⟨d, hd, rfl⟩ := List.mem_map.mp hb
  obtain ⟨hd, hw⟩ := List.mem_filter.mp hd
  exact (h.dd k hk d hd).wb_lt hw
structure WsOk (ws : List W) : Prop where
  pos : 1 ≤ ws.length
  len : ws.length ≤ 10
  ok : ∀ w ∈ ws, Ok ws.length w
def Plain (w : W) : Prop := ∀ b ∈ w, (∀ d ∈ b.1, d.plain = true) ∧ b.1.length ≤ 12
theorem at_cell {c : Addr × W} : ∀ {cs : List (Addr × W)} {M : Mem}, c ∈ cs → ∃ g, At c.1 (cellsW cs ++ M) (.lst (c.2.map Bk.d)) g
  | d :: cs, M, h => by
    rcases List.mem_cons.mp h with rfl | h
    · exact ⟨_, .here⟩
    · obtain ⟨g, q⟩ := at_cell (M := M) h
      exact ⟨_, .there q⟩
end Wk

/-! Core11: lists of pairs sorted and compared, repr's room. -/
namespace DL
open PySem PySem.Spec PyProof.Rows L2
/-- the pair that a value holds -/
def kOf (S : Hp) (x : V) : Int × Int := match x with
  | .ref t => (match S t with
    | some (.tup [.int i, .int j]) => (i, j)
    | _ => (0, 0))
  | _ => (0, 0)
theorem rep_pair {K : PySem.W.Frag} {S : Hp} {x : V} {p : Int × Int} (r : Rep K S x (Wk.pairD p)) : kOf S x = p ∧ ∃ t, x = .ref t ∧ S t = some (.tup [.int (kOf S x).1, .int (kOf S x).2]) := by
  obtain ⟨t, us, rfl, e, rs⟩ := Rep.tup_inv r
  obtain ⟨a, b, rfl, ra, rb⟩ := reps_two rs
  have ea := ra.int_inv
  have eb := rb.int_inv
  subst ea
  subst eb
  have hk : kOf S (.ref t) = p := by simp only [kOf, e]
  exact ⟨hk, t, rfl, by rw [hk]; exact e⟩
theorem reps_pairs {K : PySem.W.Frag} {S : Hp} : ∀ {xs : List V} {ps : List (Int × Int)}, Reps K S xs (ps.map Wk.pairD) → xs.map (kOf S) = ps ∧ ∀ x ∈ xs, Rep K S x (Wk.pairD (kOf S x))
  | _, [], .nil => ⟨rfl, fun _ h => by cases h⟩
  | _, p :: ps, .cons h t => by
    obtain ⟨e1, e2⟩ := reps_pairs t
    have e := (rep_pair h).1
    refine ⟨by rw [List.map_cons, e1, e], fun x hx => ?_⟩
    rcases List.mem_cons.mp hx with rfl | hx
    · rw [e]; exact h
    · exact e2 x hx
abbrev lexLe (a b : Int × Int) : Prop := a.1 < b.1 ∨ (a.1 = b.1 ∧ a.2 ≤ b.2)
theorem cd_sortedP {X : Cx} {M : Mem} {Q : D → Mem → Prop} {d : D} {ps qs : List (Int × Int)} (h : IsR M d (ps.map Wk.pairD)) (hp : qs.Perm ps) (hs : qs.Pairwise lexLe) (q : Q (.lst (qs.map Wk.pairD)) M) : CD X (.builtin "sorted") [d] M Q := by
  refine cd_of cr_sortedPO fun S H xs rx m => ?_
  obtain ⟨v, rfl, rv⟩ := reps_one rx
  obtain ⟨a, us, rfl, h1, ru⟩ := h.get m rv
  obtain ⟨e1, e2⟩ := reps_pairs ru
  refine ⟨a, us, kOf S, rfl, h1, fun x hx => ?_, fun ys p h2 h3 hp' => ?_⟩
  · obtain ⟨_, t, e, ht⟩ := rep_pair (e2 x hx)
    exact ⟨t, e, m.sub _ _ ht⟩
  · have pm : (ys.map (kOf S)).Perm qs := by
      have := h3.perm.map (kOf S)
      rw [e1] at this
      exact this.trans hp.symm
    have so : (ys.map (kOf S)).Pairwise lexLe := by
      rw [List.pairwise_map]
      refine h2.imp fun {x y} h => ?_
      have := SrtO.lexB_no.mp h
      show _ ∨ _
      omega
    have e : ys.map (kOf S) = qs := pm.eq_of_pairwise (fun a b _ _ h1 h2 => by
      have : a.1 = b.1 ∧ a.2 = b.2 := by
        rcases h1 with h1 | h1 <;> rcases h2 with h2 | h2 <;> omega
      exact Prod.ext this.1 this.2) so hs
    have r : Reps X.K S ys (qs.map Wk.pairD) := by
      rw [← e, List.map_map]
      have : Reps X.K S (ys.map id) (ys.map (Wk.pairD ∘ kOf S)) := Reps.of_map fun x hx => e2 x (h3.perm.mem_iff.mp hx)
      rw [List.map_id] at this
      exact this
    exact post_lst m r q p hp'
/-! ### the room of a repr -/
structure Shw (dep n : Nat) (d : PyData) : Prop where
  sh : d.showable = true
  cl : d.canLay0 = true
  dp : d.depth ≤ dep
  wt : d.weight ≤ n
  sf : d.intsShort 14 = true
theorem Shw.mono {a b n k : Nat} {d : PyData} (h : Shw a n d) (h1 : a ≤ b) (h2 : n ≤ k) : Shw b k d := ⟨h.sh, h.cl, Nat.le_trans h.dp h1, Nat.le_trans h.wt h2, h.sf⟩
theorem Shw.int {i : Int} (h1 : -10000000000000 < i) (h2 : i < 10000000000000) : Shw 0 44 (.int i) := by
  have hl : i.natAbs.log2 < 44 := by
    by_cases h0 : i.natAbs = 0
    · rw [h0]; decide
    · refine (Nat.log2_lt h0).mpr ?_
      have : (2 : Nat) ^ 44 = 17592186044416 := by decide
      omega
  refine ⟨by simp only [PyData.showable, decide_eq_true_eq]; omega, by simp only [PyData.canLay0], by simp only [PyData.depth]; omega, ?_, ?_⟩
  · simp only [PyData.weight]
    split <;> omega
  · have h13 : (10 : Nat) ^ 13 = 10000000000000 := by decide
    have e := int_text_length_le10 (a := i) (k := 13) (by decide) (by omega)
    have : (PyData.shown (.int i)).length ≤ 14 := by
      show (Str.ofString (toString i)).length ≤ 14
      rw [PySem.ofString_length]; exact e
    simp only [PyData.intsShort, decide_eq_true_eq]
    exact this
theorem Shw.str {z : Str} (h : (z.cps.all (· < 0x110000)) = true) (hl : z.cps.size ≤ 44) : Shw 0 44 (.str z) :=
  ⟨by simp only [PyData.showable], by simp only [PyData.canLay0]; exact h, by simp only [PyData.depth]; omega, by simp only [PyData.weight]; exact hl, by simp only [PyData.intsShort]⟩
theorem shw_all {dep n : Nat} : ∀ {xs : List PyData}, (∀ x ∈ xs, Shw dep n x) → PyData.showableAll xs = true ∧ PyData.canLayAll0 xs = true ∧ PyData.depthAll xs ≤ dep ∧ PyData.weightAll xs ≤ xs.length * (n + 1) ∧ PyData.intsShortAll 14 xs = true
  | [], _ => ⟨rfl, rfl, Nat.zero_le _, Nat.zero_le _, rfl⟩
  | x :: xs, h => by
    obtain ⟨h1, h2, h3, h4, h5⟩ := shw_all fun y hy => h y (List.mem_cons_of_mem _ hy)
    have g := h x List.mem_cons_self
    refine ⟨by simp only [PyData.showableAll, g.sh, h1, Bool.and_self], by simp only [PyData.canLayAll0, g.cl, h2, Bool.and_self], ?_, ?_, by simp only [PyData.intsShortAll, g.sf, h5, Bool.and_self]⟩
    · simp only [PyData.depthAll]
      have := g.dp
      omega
    · simp only [PyData.weightAll, List.length_cons]
      have := g.wt
      rw [Nat.add_mul]
      omega
theorem Shw.list {dep n k : Nat} {xs : List PyData} (h : ∀ x ∈ xs, Shw dep n x) (hk : xs.length * (n + 1) ≤ k) : Shw (dep + 1) k (.list xs) := by
  obtain ⟨h1, h2, h3, h4, h5⟩ := shw_all h
  exact ⟨by simp only [PyData.showable]; exact h1, by simp only [PyData.canLay0]; exact h2, by simp only [PyData.depth]; omega, by simp only [PyData.weight]; omega, by simp only [PyData.intsShort]; exact h5⟩
theorem Shw.tuple {dep n k : Nat} {xs : List PyData} (h : ∀ x ∈ xs, Shw dep n x) (hk : xs.length * (n + 1) ≤ k) : Shw (dep + 1) k (.tuple xs) := by
  obtain ⟨h1, h2, h3, h4, h5⟩ := shw_all h
  exact ⟨by simp only [PyData.showable]; exact h1, by simp only [PyData.canLay0]; exact h2, by simp only [PyData.depth]; omega, by simp only [PyData.weight]; omega, by simp only [PyData.intsShort]; exact h5⟩
theorem Shw.fits {dep n : Nat} {d : PyData} (h : Shw dep n d) (hn : n ≤ 1000000) : d.shown.length ≤ sizeLine := by
  have h1 := PyData.shown_le 14 (by decide) d (PyData.leavesShort_of_canLay0 14 d h.cl h.sf)
  have := h.wt
  exact szl (by omega)
theorem cd_reprS {X : Cx} {M : Mem} {Q : D → Mem → Prop} {Ln Vn Bn Fn : List Str} {d : D} {pd : PyData} {dep n : Nat} (st : Stat X Ln Vn Bn Fn) (hr : (∃ ds, d = .lst ds) ∨ (∃ ds, d = .tup ds) ∨ ∃ a, d = .ref a) (hp : Py M d pd) (h : Shw dep n pd) (hd : dep ≤ 64) (hn : n ≤ 1000000) (q : Q (.str pd.shown) M) : CD X (.builtin "repr") [d] M Q :=
  cd_repr st hr hp h.sh (PyData.hasDict_of_canLay _ h.cl) (Nat.le_trans h.dp hd) (h.fits hn) q
theorem Shw.shaped {dep n : Nat} {d : PyData} (h : Shw dep n d) (hd : dep ≤ 60) : SeqAt.shaped d = true := by
  unfold SeqAt.shaped
  rw [Bool.and_eq_true]
  refine ⟨h.cl, decide_eq_true ?_⟩
  have := h.dp
  omega
end DL

set_option maxHeartbeats 8000000
/-! Core12: set(a list of ints), sorted(that set). -/
namespace DL
open PySem PySem.Spec PyProof.Rows L2
/-- a set as it is made -/
abbrev emp (w : World) : Obj := { cls := .type "set", dict := none, data := .set #[] 0 (.fresh 0 0 (!w.params.followText "set-order")) }
abbrev Made (w : World) (ns : List Int) (s : Shared) (s2 : Shared) : Prop := ∃ (h' : Heap) (tk c : Nat), s2 = { s with heap := h', toks := tk } ∧
  SetR w h' s.heap.objs.size (fun j => decide (j ∈ ns)) c ∧ c ≤ ns.length ∧ ∀ b o, s.heap.get? b = some o → h'.get? b = some o
section
variable {P : Program} {w : World} {A : Around} {E : Value → Shared → Prop} {s : Shared}
theorem set_ints {l : Addr} {its : Array Value} (ns : List Int) {Q : Value → Shared → Prop} (hh : A.handled = none) (hl : s.heap.IsList l its) (hi : IntsAre its.toList ns) (hb : ns.length + 1 < scanBound)
    (q : ∀ s2, Made w ns s s2 → Q (.ref s.heap.objs.size) s2) : wpAny (model P w) A (call (.type "set") [.ref l]) Q E s := by
  have sz : its.size = ns.length := by
    rw [← Array.length_toList]; exact IntsAre.length hi
  obtain ⟨_, _, ofm⟩ := F.called_set.mro
  have mk := F.called_set.made
  have sb := F.called_set.sub
  refine wpAny_call (codeAny_of_tree (?_ : wpAny _ _ (callAny (.type "set") _) _ _ _))
  refine wpAny_pure ⟨Code.quiet_builtin _ (by decide +kernel), codeAny_builtin F.entry_type_call ?_⟩
  rw [Around.under_plain (weight_type_call_type "set" [.ref l] []) rfl]
  have k1 := F.called_set.notType
  have k2 := F.called_set.canCreate
  have k3 := F.typeCall_set_1 (.ref l)
  repeat (any_goals (first | assumption | wp_step))
  refine codeAny_mono (code_set_led1 (.ref l) (E := E) (Q₁ := fun v t => v = .ref s.heap.objs.size ∧ t = { s with heap := s.heap.push (emp w) }) ⟨rfl, rfl⟩) fun r t hr => ?_
  match r, hr with
  | .error e, hr => exact hr
  | .ok .next, hr => exact hr.elim
  | .ok .brk, hr => exact hr.elim
  | .ok .cont, hr => exact hr.elim
  | .ok (.ret v), hr =>
    obtain ⟨rfl, rfl⟩ := hr
    have got : (s.heap.push (emp w)).get? s.heap.objs.size = some (emp w) := Heap.get?_push_size _ rfl
    have ty : Shared.TypeIs { s with heap := s.heap.push (emp w) } (.ref s.heap.objs.size) "set" := ⟨_, got, rfl⟩
    have k4 := F.called_set.init.lookup
    have k5 := F.called_set.init.bind (.ref s.heap.objs.size)
    repeat (any_goals (first | assumption | wp_step))
    refine codeAny_mono (codeAny_call_builtin (R := wants (fun v t => v = .none ∧ Made w ns s t) E) F.called_set.init.plain F.entry_set_init (check_set_init_1 ty ?_)) fun r2 t2 hr2 => ?_
    · have lt := hl.push (emp w)
      obtain ⟨⟨c0, d0, dt, sl⟩, ho, e1, nl, e2⟩ := hl
      simp only at e1 e2
      subst e1 e2
      have ho' : (s.heap.push (emp w)).get? l = _ := Heap.get?_push_of_some _ ho
      have n1 := F.sub_list_set
      have n2 := F.sub_list_frozenset
      have n3 : (Value.type "list" == Value.type "dict") = false := by decide
      have before : l < s.heap.objs.size := Heap.lt_size ho
      have h3 : A.in1.in1.in1.handled = none := by simp [hh]
      have size1 : (s.heap.push (emp w)).objs.size = s.heap.objs.size + 1 := Heap.size_push ..
      unfold Builtin.«set.__init__» noKeywords Builtin.Frozenset.updateFrom
      generalize hp : pyIter = pi
      wp_walk
      subst hp
      refine wpAny_pyIter_list lt (wpAny_bind (wpAny_runValue ?_))
      refine set_update_ints ((Walks.list h3 _ l (fun e => Nat.lt_irrefl _ (Nat.lt_trans (Nat.lt_succ_self _) (by rw [e, size1] at before; exact before))) its).toS) s.heap.objs.size ?_ ns sz hb (fun i v hv => ?_) (its.size - 0) 0 _ (by omega) (Nat.zero_le _) ⟨⟨_, Heap.get?_push_size _ rfl, rfl, rfl⟩, lt.push _⟩
        ⟨0, Nat.le_refl 0, setR_new_at (Heap.get?_push_of_some _ got)⟩ fun t' c mv hc hS => ?_
      · rw [size1]
        intro h
        rcases List.mem_cons.mp h with h | h
        · exact absurd h (Nat.ne_of_lt (Nat.lt_succ_self _))
        · exact absurd (List.mem_singleton.mp h) (Nat.ne_of_gt before)
      · have hn : i < ns.length := by rw [← sz]; exact (Array.getElem?_eq_some_iff.mp hv).1
        obtain ⟨tk, e⟩ := IntsAre.int_at hi i v (by rw [Array.getElem?_toList]; exact hv)
        exact ⟨ns[i], tk, List.getElem?_eq_getElem hn, by rw [e, List.getD_eq_getElem?_getD, List.getElem?_eq_getElem hn] <;> rfl⟩
      · obtain ⟨h', g', d', tk', os'⟩ := t'
        have g1 : g' = s.gens := mv.gens
        have g2 : d' = s.drawn := mv.drawn
        have g3 : os' = s.os := mv.os
        subst g1 g2 g3
        change wpAny _ _ _ _ _ _
        refine wpAny_pure ?_
        change wpAny (model P w) _ (ret .none) _ _ _
        rw [sz] at hc
        refine wpAny_pure ⟨rfl, h', tk', c, rfl, hS, hc, fun b o e => mv.heap b o (fun h => ?_) (Heap.get?_push_of_some _ (Heap.get?_push_of_some _ e))⟩
        have lb : b < s.heap.objs.size := Heap.lt_size e
        rcases List.mem_cons.mp h with h | h
        · exact absurd h (Nat.ne_of_lt lb)
        · have e2 := List.mem_singleton.mp h
          rw [size1] at e2
          exact absurd e2 (Nat.ne_of_lt (Nat.lt_succ_of_lt lb))
    · match r2, hr2 with
      | .error e, hr2 => exact hr2
      | .ok .next, hr2 => exact hr2.elim
      | .ok .brk, hr2 => exact hr2.elim
      | .ok .cont, hr2 => exact hr2.elim
      | .ok (.ret v2), hr2 =>
        obtain ⟨rfl, h', tk, c, rfl, z⟩ := hr2
        repeat (any_goals (first | assumption | wp_step))
        exact q _ ⟨h', tk, c, rfl, z⟩
end
theorem nodup_le : ∀ {l m : List Int}, l.Nodup → (∀ x ∈ l, x ∈ m) → l.length ≤ m.length
  | [], _, _, _ => Nat.zero_le _
  | x :: l, m, h, g => by
    have hx := g x List.mem_cons_self
    have h2 := List.nodup_cons.mp h
    have := nodup_le (l := l) (m := m.erase x) h2.2 fun y hy => (List.mem_erase_of_ne (fun (e : y = x) => h2.1 (by rw [← e]; exact hy))).mpr (g y (List.mem_cons_of_mem _ hy))
    rw [List.length_erase_of_mem hx] at this
    have := List.length_pos_of_mem hx
    rw [List.length_cons]
    omega
theorem setR_few {w : World} {h : Heap} {a : Addr} {ns ms : List Int} {c : Nat} (R : SetR w h a (fun j => decide (j ∈ ns)) c) (g : ∀ k ∈ ns, k ∈ ms) : c ≤ ms.length := by
  obtain ⟨o, es, ep, t, _, _, _, _, nd, hm, _, _, hn, _⟩ := R
  have := nodup_le (m := ms) nd fun x hx => g x (of_decide_eq_true ((hm x).mpr hx))
  rw [List.length_map, Array.length_toList] at this
  omega
section
variable {X : Cx} {M : Mem} {Q : D → Mem → Prop} {Ln Vn Bn Fn : List Str}
/-- set(xs), xs a list of ints -/
def rSetI (K : PySem.W.Frag) (w : World) : List V → Hp → VK → Prop := fun xs H R => ∃ (l : Addr) (ns : List Int), xs = [V.ref l] ∧ SqL K H l (ns.map V.int) ∧ ns.length + 1 < scanBound ∧
  ∀ p c, H p = none → (∀ ms : List Int, (∀ k ∈ ns, k ∈ ms) → c ≤ ms.length) → R (.ref p) (upd H p (SetO w p (fun j => decide (j ∈ ns)) c))
theorem cr_setI (hc : X.calm = true) : CallR X (.type "set") (rSetI X.K X.w) := by
  intro pins s σ H xs us R I r h
  obtain ⟨l, ns, rfl, h1, hb, q⟩ := h
  rw [Vals.ref1 r]
  obtain ⟨its, rv, pl, hz⟩ := I.list h1
  refine set_ints ns (I.ok.hd hc) pl.isList (by simpa using rv.ints) hb ?_
  rintro s2 ⟨h', tk, c, rfl, hS, hcn, kp⟩
  exact ⟨.ref s.heap.objs.size, _, I.laid (t' := tk) kp (Nat.le_refl _) (setO_new hS), rfl, q _ c (I.hok.fresh (Nat.le_refl _)) fun ms => setR_few hS⟩
theorem cd_setI {d : D} {ns : List Int} (st : Stat X Ln Vn Bn Fn) (h : IsR M d (ns.map D.int)) (hb : ns.length < 4000) (q : ∀ p c, (∀ ms : List Int, (∀ k ∈ ns, k ∈ ms) → c ≤ ms.length) → Q (.ref p) ((p, .raw (SetO X.w p (fun j => decide (j ∈ ns)) c)) :: M)) : CD X (.type "set") [d] M Q :=
  cd_of (cr_setI st.calm) fun S H xs rx m => by
    obtain ⟨v, rfl, rv⟩ := reps_one rx
    obtain ⟨a, us, rfl, h1, ru⟩ := h.get m rv
    rw [ru.ints_inv] at h1
    refine ⟨a, ns, rfl, h1, by unfold scanBound; omega, fun p c hp hc => ⟨_, _, S, q p c hc, .refl _, m.alloc hp ⟨upd_same, fun xs h => by unfold SetO at h; cases h⟩, .ref p⟩⟩
theorem cd_sortedSet {a : Addr} {f : Cell → Mem} {Sb : Int → Bool} {n : Nat} {ms : List Int} (st : Stat X Ln Vn Bn Fn) (h : At a M (.raw (SetO X.w a Sb n)) f) (h64 : n < 64) (hs : ms.Pairwise (· < ·)) (hm : ∀ k, k ∈ ms ↔ Sb k = true) (q : Q (.lst (ms.map D.int)) M) : CD X (.builtin "sorted") [.ref a] M Q :=
  cd_of (cr_sortedSet st.calm) fun S H xs rx m => by
    obtain ⟨v, rfl, rv⟩ := reps_one rx
    have hx : H a = some (SetO X.w a Sb n) := (m.at_ok h).1
    refine ⟨a, Sb, n, by rw [rv.ref_inv], hx, h64, fun ns p h1 h2 _ hp => ?_⟩
    have nd : ∀ {l : List Int}, l.Pairwise (· < ·) → l.Nodup := fun h => h.imp fun h => Int.ne_of_lt h
    have e : ns = ms := by
      refine ((List.perm_ext_iff_of_nodup (nd h1) (nd hs)).mpr fun k => (h2 k).trans (hm k).symm).eq_of_pairwise (fun a b _ _ h1 h2 => ?_) h1 hs
      exact absurd (Int.lt_trans h1 h2) (Int.lt_irrefl _)
    subst e
    exact post_lst m Reps.ints q p hp
end
end DL

/-! Core13: works and ways as they are printed; what a work must be to be read. -/
namespace Wk
open DL PySem
/-- a work that the text may read and print -/
structure Fit (w : W) : Prop where
  len : w.length ≤ 16
  few : ∀ b ∈ w, b.1.length ≤ 24
  w8 : ∀ b ∈ wrote w, b < 8
  nd : ∀ b ∈ w, ∀ t ∈ b.2.nx, t ≤ 16
  num : ∀ b ∈ w, ∀ d ∈ b.1, d.Ok 100
theorem Dd.Ok.up {a b : Nat} {d : Dd} (h : d.Ok a) (e : a ≤ b) : d.Ok b := by
  cases d with
  | call w => exact Nat.lt_of_lt_of_le h e
  | _ => exact h
theorem Ok.fit {nw : Nat} {w : W} (h : Ok nw w) (hn : nw ≤ 100) : Fit w :=
  ⟨h.len, h.few, h.wrote8, fun b hb t ht => by have := ((h.nd b hb).nx t ht).2; have := h.len; omega, fun b hb d hd => (h.dd b hb d hd).up hn⟩
theorem sx_mem {e : Nd} {t : Nat} (h : t ∈ e.sx) : t ∈ e.nx := by
  cases e with
  | out => exact h
  | go a => exact h
  | fork a b =>
    rw [Nd.sx_fork] at h
    by_cases q : a ≤ b
    · rw [if_pos q] at h; exact h
    · rw [if_neg q] at h
      simp only [Nd.nx, List.mem_cons, List.not_mem_nil, or_false] at h ⊢
      exact h.symm
theorem waysFrom_bd (n : Nat) (hn : n ≤ 16) : ∀ (l : List Nd) (k : Nat), (∀ e ∈ l, ∀ t ∈ e.nx, t ≤ 16) → ∀ p ∈ waysFrom n k l, (k : Int) ≤ p.1 ∧ p.1 < k + l.length ∧ 0 ≤ p.2 ∧ p.2 ≤ 16
  | [], _, _, p, h => by cases h
  | e :: l, k, he, p, h => by
    rw [waysFrom] at h
    rcases List.mem_append.mp h with h | h
    · unfold wayK at h
      split at h
      · rw [List.mem_singleton] at h
        subst h
        simp only [List.length_cons]
        omega
      · obtain ⟨t, ht, rfl⟩ := List.mem_map.mp h
        have := he e List.mem_cons_self t (sx_mem ht)
        simp only [List.length_cons]
        omega
    · have := waysFrom_bd n hn l (k + 1) (fun e h => he e (List.mem_cons_of_mem _ h)) p h
      simp only [List.length_cons]
      omega
theorem waysFrom_up (n : Nat) (hn : n ≤ 16) : ∀ (l : List Nd) (k : Nat), (∀ e ∈ l, ∀ t ∈ e.nx, t ≤ 16) → (waysFrom n k l).Pairwise lexLe
  | [], _, _ => .nil
  | e :: l, k, he => by
    rw [waysFrom, List.pairwise_append]
    refine ⟨?_, waysFrom_up n hn l (k + 1) fun e h => he e (List.mem_cons_of_mem _ h), fun a ha b hb => ?_⟩
    · unfold wayK
      split
      · exact List.pairwise_singleton _ _
      · rw [List.pairwise_map]
        have := e.sx_up
        rw [List.pairwise_map] at this
        exact this.imp fun h => .inr ⟨rfl, h⟩
    · have h1 := waysFrom_bd n hn l (k + 1) (fun e h => he e (List.mem_cons_of_mem _ h)) b hb
      have h2 : a.1 = k := by
        unfold wayK at ha
        split at ha
        · rw [List.mem_singleton] at ha
          rw [ha]
        · obtain ⟨t, _, rfl⟩ := List.mem_map.mp ha
          rfl
      exact .inl (by omega)
theorem Fit.ends {w : W} (h : Fit w) : ∀ e ∈ w.map (·.2), ∀ t ∈ e.nx, t ≤ 16 := by
  intro e he
  obtain ⟨b, hb, rfl⟩ := List.mem_map.mp he
  exact h.nd b hb
theorem ways_bd {w : W} (h : Fit w) : ∀ p ∈ ways w, -1 ≤ p.1 ∧ p.1 ≤ 16 ∧ 0 ≤ p.2 ∧ p.2 ≤ 16 := by
  intro p hp
  rcases List.mem_cons.mp hp with rfl | hp
  · decide
  · have := waysFrom_bd w.length h.len _ 0 h.ends p hp
    have := h.len
    rw [List.length_map] at *
    omega
theorem ways_up {w : W} (h : Fit w) : (ways w).Pairwise lexLe := by
  refine List.pairwise_cons.mpr ⟨fun p hp => ?_, waysFrom_up w.length h.len _ 0 h.ends⟩
  have := waysFrom_bd w.length h.len _ 0 h.ends p hp
  exact .inl (by show (-1 : Int) < p.1; omega)
/-! as Python prints them -/
def pairP (p : Int × Int) : PyData := .tuple [.int p.1, .int p.2]
theorem py_pairs {M : Mem} {d : D} {ps : List (Int × Int)} (h : IsR M d (ps.map pairD)) : Py M d (.list (ps.map pairP)) := by
  have g : ∀ p ∈ ps, Py M (pairD p) (pairP p) := fun p _ => .tup (.cons (.int _) (.cons (.int _) .nil))
  rcases h with (rfl | ⟨a, f, rfl, h⟩) | rfl
  · exact .lst (Pys.of_map g)
  · exact .ref h (Pys.of_map g)
  · exact .slst (Pys.of_map g)
theorem shw_pair {p : Int × Int} (h1 : -10000000000000 < p.1) (h2 : p.1 < 10000000000000) (h3 : -10000000000000 < p.2) (h4 : p.2 < 10000000000000) : Shw 1 90 (pairP p) := by
  refine Shw.tuple (dep := 0) (n := 44) (fun x hx => ?_) (by simp)
  simp only [List.mem_cons, List.not_mem_nil, or_false] at hx
  rcases hx with rfl | rfl
  · exact .int h1 h2
  · exact .int h3 h4
theorem shw_ways {w : W} (h : Fit w) : Shw 2 4000 (.list ((ways w).map pairP)) := by
  refine Shw.list (dep := 1) (n := 90) (fun x hx => ?_) ?_
  · obtain ⟨p, hp, rfl⟩ := List.mem_map.mp hx
    have := ways_bd h p hp
    exact shw_pair (by omega) (by omega) (by omega) (by omega)
  · have := ways_len w
    have := h.len
    rw [List.length_map]
    omega
theorem eqv_pairs : ∀ (ps : List (Int × Int)), PyData.eqvAll (ps.map pairP) (ps.map pairP) = true
  | [] => rfl
  | p :: ps => by
    simp only [List.map_cons, PyData.eqvAll, pairP, PyData.eqv, eqv_pairs ps, Bool.and_self, Bool.and_true, beq_self_eq_true, decide_true]
def natP (n : Nat) : PyData := .int (n : Int)
theorem py_nats {M : Mem} {d : D} {l : List Nat} (h : IsR M d (l.map natD)) : Py M d (.list (l.map natP)) := by
  have g : ∀ n ∈ l, Py M (natD n) (natP n) := fun n _ => .int _
  rcases h with (rfl | ⟨a, f, rfl, h⟩) | rfl
  · exact .lst (Pys.of_map g)
  · exact .ref h (Pys.of_map g)
  · exact .slst (Pys.of_map g)
theorem shw_nats {l : List Nat} (h : ∀ n ∈ l, n < 1000) (hl : l.length ≤ 100) : Shw 1 4500 (.list (l.map natP)) := by
  refine Shw.list (dep := 0) (n := 44) (fun x hx => ?_) (by rw [List.length_map]; omega)
  obtain ⟨n, hn, rfl⟩ := List.mem_map.mp hx
  have := h n hn
  exact .int (by omega) (by omega)
theorem boxesOf_lt (w : W) : ∀ b ∈ boxesOf w, b < 8 := fun b hb => List.mem_range.mp (List.mem_filter.mp hb).1
theorem boxesOf_len (w : W) : (boxesOf w).length ≤ 8 := by
  have := List.length_filter_le (fun b => decide (b ∈ wrote w)) (List.range 8)
  rw [List.length_range] at this
  exact this
def Dd.p : Dd → PyData
  | .set b n => .tuple [.str "set", .int (b : Int), .int n]
  | .add b o => .tuple [.str "add", .int (b : Int), .int (o : Int)]
  | .tell b => .tuple [.str "tell", .int (b : Int)]
  | .call w => .tuple [.str "call", .int (w : Int)]
  | .save b => .tuple [.str "save", .int (b : Int)]
  | .back b => .tuple [.str "back", .int (b : Int)]
def Nd.p : Nd → PyData
  | .out => .tuple [.str "out"]
  | .go t => .tuple [.str "go", natP t]
  | .fork t o => .tuple [.str "fork", natP t, natP o]
def Bk.p (b : Bk) : PyData := .tuple [.list (b.1.map Dd.p), b.2.p]
theorem Dd.py {M : Mem} (d : Dd) : Py M d.d d.p := by
  cases d <;> exact .tup (.cons (.str _) (.cons (.int _) (by first | exact .nil | exact .cons (.int _) .nil)))
theorem Nd.py {M : Mem} (e : Nd) : Py M e.d e.p := by
  cases e with
  | out => exact .tup (.cons (.str _) .nil)
  | go t => exact .tup (.cons (.str _) (.cons (.int _) .nil))
  | fork t o => exact .tup (.cons (.str _) (.cons (.int _) (.cons (.int _) .nil)))
theorem Bk.py {M : Mem} (b : Bk) : Py M b.d b.p := .tup (.cons (.lst (Pys.of_map fun d _ => d.py)) (.cons b.2.py .nil))
theorem py_work {M : Mem} {d : D} {w : W} (h : IsR M d (w.map Bk.d)) : Py M d (.list (w.map Bk.p)) := by
  have g : ∀ b ∈ w, Py M (Bk.d b) (Bk.p b) := fun b _ => Bk.py b
  rcases h with (rfl | ⟨a, f, rfl, h⟩) | rfl
  · exact .lst (Pys.of_map g)
  · exact .ref h (Pys.of_map g)
  · exact .slst (Pys.of_map g)
theorem shw_words : (∀ z ∈ (["set", "add", "tell", "call", "save", "back", "out", "go", "fork"] : List Str), Shw 0 44 (.str z)) := by
  intro z hz
  have : (["set", "add", "tell", "call", "save", "back", "out", "go", "fork"] : List Str).all (fun z => (z.cps.all (· < 0x110000)) && decide (z.cps.size ≤ 44)) = true := by decide +kernel
  have := List.all_eq_true.mp this z hz
  rw [Bool.and_eq_true, decide_eq_true_iff] at this
  exact .str this.1 this.2
theorem shw_word {z : Str} (h : decide (z ∈ (["set", "add", "tell", "call", "save", "back", "out", "go", "fork"] : List Str)) = true) : Shw 0 44 (.str z) := shw_words z (of_decide_eq_true h)
theorem shw_nat {n : Nat} (h : n < 1000) : Shw 0 44 (.int (n : Int)) := .int (by omega) (by omega)
theorem shw_t1 {a : PyData} (h1 : Shw 0 44 a) : Shw 1 140 (.tuple [a]) := Shw.tuple (dep := 0) (n := 44) (fun x hx => by rw [List.mem_singleton.mp hx]; exact h1) (by simp)
theorem shw_t2 {a b : PyData} (h1 : Shw 0 44 a) (h2 : Shw 0 44 b) : Shw 1 140 (.tuple [a, b]) := Shw.tuple (dep := 0) (n := 44) (fun x hx => by
  simp only [List.mem_cons, List.not_mem_nil, or_false] at hx
  rcases hx with rfl | rfl
  · exact h1
  · exact h2) (by simp)
theorem shw_t3 {a b c : PyData} (h1 : Shw 0 44 a) (h2 : Shw 0 44 b) (h3 : Shw 0 44 c) : Shw 1 140 (.tuple [a, b, c]) := Shw.tuple (dep := 0) (n := 44) (fun x hx => by
  simp only [List.mem_cons, List.not_mem_nil, or_false] at hx
  rcases hx with rfl | rfl | rfl
  · exact h1
  · exact h2
  · exact h3) (by simp)
theorem shw_dd {d : Dd} (h : d.Ok 100) : Shw 1 140 d.p := by
  cases d with
  | set b n => exact shw_t3 (shw_word (by decide +kernel)) (shw_nat (by have := h.1; omega)) (.int (by have := h.2; omega) (by have := h.2; omega))
  | add b o => exact shw_t3 (shw_word (by decide +kernel)) (shw_nat (by have := h.1; omega)) (shw_nat (by have := h.2; omega))
  | tell b => exact shw_t2 (shw_word (by decide +kernel)) (shw_nat (Nat.lt_trans h (by decide)))
  | call b => exact shw_t2 (shw_word (by decide +kernel)) (shw_nat (Nat.lt_trans h (by decide)))
  | save b => exact shw_t2 (shw_word (by decide +kernel)) (shw_nat (Nat.lt_trans h (by decide)))
  | back b => exact shw_t2 (shw_word (by decide +kernel)) (shw_nat (Nat.lt_trans h (by decide)))
theorem shw_nd {e : Nd} (h : ∀ t ∈ e.nx, t ≤ 16) : Shw 1 140 e.p := by
  cases e with
  | out => exact shw_t1 (shw_word (by decide +kernel))
  | go t => exact shw_t2 (shw_word (by decide +kernel)) (shw_nat (by have := h t (by simp [Nd.nx]); omega))
  | fork t o => exact shw_t3 (shw_word (by decide +kernel)) (shw_nat (by have := h t (by simp [Nd.nx]); omega)) (shw_nat (by have := h o (by simp [Nd.nx]); omega))
theorem shw_work {w : W} (h : Fit w) : Shw 4 120000 (.list (w.map Bk.p)) := by
  refine Shw.list (dep := 3) (n := 7000) (fun x hx => ?_) (by have := h.len; rw [List.length_map]; omega)
  obtain ⟨b, hb, rfl⟩ := List.mem_map.mp hx
  refine Shw.tuple (dep := 2) (n := 3400) (fun y hy => ?_) (by simp)
  simp only [List.mem_cons, List.not_mem_nil, or_false] at hy
  rcases hy with rfl | rfl
  · refine Shw.list (dep := 1) (n := 140) (fun z hz => ?_) (by have := h.few b hb; rw [List.length_map]; omega)
    obtain ⟨d, hd, rfl⟩ := List.mem_map.mp hz
    exact shw_dd (h.num b hb d hd)
  · exact (shw_nd (h.nd b hb)).mono (by omega) (by omega)
end Wk

/-! Core14: which blocks are come to; plain facts about the two walks that find them. -/
namespace Wk
open DL PySem
/-- from some blocks another one is come to -/
inductive Come (nx : List (List Nat)) (bs : List Nat) : Nat → Prop
  | base {b : Nat} : b ∈ bs → Come nx bs b
  | step {a b : Nat} {l : List Nat} : Come nx bs a → nx[a]? = some l → b ∈ l → Come nx bs b
structure NxIn (nx : List (List Nat)) : Prop where
  lt : ∀ l ∈ nx, ∀ b ∈ l, b < nx.length
section
variable {nx : List (List Nat)} {bs fd wt : List Nat}
theorem Come.lt (hn : NxIn nx) (hb : ∀ b ∈ bs, b < nx.length) {b : Nat} (h : Come nx bs b) : b < nx.length := by
  induction h with
  | base h => exact hb _ h
  | step _ e m _ => exact hn.lt _ (List.mem_of_getElem? e) _ m
theorem Come.ind {S : Nat → Prop} (h0 : ∀ b ∈ bs, S b) (h1 : ∀ a l b, S a → nx[a]? = some l → b ∈ l → S b) {b : Nat} (h : Come nx bs b) : S b := by
  induction h with
  | base h => exact h0 _ h
  | step _ e m ih => exact h1 _ _ _ ih e m
open Classical in
noncomputable def comeL (nx : List (List Nat)) (bs : List Nat) : List Nat := (List.range nx.length).filter fun b => decide (Come nx bs b)
theorem mem_comeL {b : Nat} : b ∈ comeL nx bs ↔ b < nx.length ∧ Come nx bs b := by
  unfold comeL
  rw [List.mem_filter, List.mem_range, @decide_eq_true_iff _ (Classical.propDecidable _)]
theorem comeL_up : (comeL nx bs).Pairwise (· < ·) := List.pairwise_lt_range.filter _
theorem comeL_nd : (comeL nx bs).Nodup := List.nodup_range.filter _
theorem comeL_len : (comeL nx bs).length ≤ nx.length := by
  have := List.length_filter_le (fun b => @decide (Come nx bs b) (Classical.propDecidable _)) (List.range nx.length)
  rw [List.length_range] at this
  exact this
theorem upI {l : List Nat} (h : l.Pairwise (· < ·)) : (l.map fun (n : Nat) => (n : Int)).Pairwise (· ≤ ·) := by
  rw [List.pairwise_map]
  exact h.imp fun h => by omega
theorem upI' {l : List Nat} (h : l.Pairwise (· < ·)) : (l.map fun (n : Nat) => (n : Int)).Pairwise (· < ·) := by
  rw [List.pairwise_map]
  exact h.imp fun h => by omega
theorem nodup_leN : ∀ {l m : List Nat}, l.Nodup → (∀ y ∈ l, y ∈ m) → l.length ≤ m.length
  | [], m, _, _ => Nat.zero_le _
  | x :: l, m, h, g => by
    rw [List.nodup_cons] at h
    have hx := g x List.mem_cons_self
    have := nodup_leN (l := l) (m := m.erase x) h.2 fun y hy => (List.mem_erase_of_ne (fun (e : y = x) => h.1 (by rw [← e]; exact hy))).mpr (g y (List.mem_cons_of_mem _ hy))
    rw [List.length_erase_of_mem hx] at this
    have := List.length_pos_of_mem hx
    rw [List.length_cons]
    omega
/-- two rising lists of the same are one -/
theorem up_eq {l m : List Nat} (hl : l.Pairwise (· < ·)) (hm : m.Pairwise (· < ·)) (h : ∀ b, b ∈ l ↔ b ∈ m) : l = m := by
  have nd : ∀ {l : List Nat}, l.Pairwise (· < ·) → l.Nodup := fun h => h.imp fun h => Nat.ne_of_lt h
  exact ((List.perm_ext_iff_of_nodup (nd hl) (nd hm)).mpr h).eq_of_pairwise (fun a b _ _ h1 h2 => by omega) hl hm

/-- the walk with a list of what waits: fd is found, wt waits, ex are those that need not be closed yet -/
structure Dfs (nx : List (List Nat)) (bs fd wt : List Nat) (ex : Nat → Prop) : Prop where
  nd : fd.Nodup
  come : ∀ b ∈ fd, Come nx bs b
  beg : ∀ b ∈ bs, b ∈ fd
  sub : ∀ b ∈ wt, b ∈ fd
  cl : ∀ a ∈ fd, a ∉ wt → ¬ ex a → ∀ l, nx[a]? = some l → ∀ b ∈ l, b ∈ fd
theorem Dfs.start (nd : fd.Nodup) (h : ∀ b, b ∈ fd ↔ b ∈ bs) : Dfs nx bs fd bs fun _ => False :=
  ⟨nd, fun b hb => .base ((h b).mp hb), fun b hb => (h b).mpr hb, fun b hb => (h b).mpr hb, fun a ha hw => absurd ((h a).mp ha) hw⟩
theorem Dfs.pop {b : Nat} (h : Dfs nx bs fd (wt ++ [b]) fun _ => False) : b ∈ fd ∧ Dfs nx bs fd wt fun a => a = b :=
  ⟨h.sub b (by simp), h.nd, h.come, h.beg, fun a ha => h.sub a (by simp [ha]), fun a ha hw hne l e c hc => h.cl a ha (by simp [hw, hne]) (fun z => z) l e c hc⟩
theorem Dfs.push {ex : Nat → Prop} {b c : Nat} {l : List Nat} (h : Dfs nx bs fd wt ex) (hb : b ∈ fd) (e : nx[b]? = some l) (hc : c ∈ l) (hn : c ∉ fd) : Dfs nx bs (fd ++ [c]) (wt ++ [c]) ex := by
  refine ⟨?_, fun x hx => ?_, fun x hx => by simp [h.beg x hx], fun x hx => ?_, fun a ha hw hne l' e' x hx => ?_⟩
  · rw [List.nodup_append]
    exact ⟨h.nd, by simp, fun x hx y hy => by rw [List.mem_singleton.mp hy]; exact fun q => hn (q ▸ hx)⟩
  · rcases List.mem_append.mp hx with hx | hx
    · exact h.come x hx
    · rw [List.mem_singleton.mp hx]; exact .step (h.come b hb) e hc
  · rcases List.mem_append.mp hx with hx | hx
    · simp [h.sub x hx]
    · simp [List.mem_singleton.mp hx]
  · rcases List.mem_append.mp ha with ha | ha
    · have hw' : a ∉ wt := fun q => hw (by simp [q])
      simp [h.cl a ha hw' hne l' e' x hx]
    · exact absurd (by rw [List.mem_singleton.mp ha]; simp) hw
theorem Dfs.done {b : Nat} {l : List Nat} (h : Dfs nx bs fd wt fun a => a = b) (e : nx[b]? = some l) (hl : ∀ c ∈ l, c ∈ fd) : Dfs nx bs fd wt fun _ => False :=
  ⟨h.nd, h.come, h.beg, h.sub, fun a ha hw _ l' e' c hc => by
    by_cases q : a = b
    · subst q; rw [e] at e'; cases e'; exact hl c hc
    · exact h.cl a ha hw q l' e' c hc⟩
theorem Dfs.lt {ex : Nat → Prop} (h : Dfs nx bs fd wt ex) (hn : NxIn nx) (hb : ∀ b ∈ bs, b < nx.length) : ∀ b ∈ fd, b < nx.length := fun b q => (h.come b q).lt hn hb
theorem nodup_len {l : List Nat} {n : Nat} (h : l.Nodup) (hl : ∀ b ∈ l, b < n) : l.length ≤ n := by
  have := nodup_leN (m := List.range n) h fun b hb => List.mem_range.mpr (hl b hb)
  rw [List.length_range] at this
  exact this
theorem Dfs.len {ex : Nat → Prop} (h : Dfs nx bs fd wt ex) (hn : NxIn nx) (hb : ∀ b ∈ bs, b < nx.length) : fd.length ≤ nx.length := nodup_len h.nd (h.lt hn hb)
theorem Dfs.fin (h : Dfs nx bs fd [] fun _ => False) (hn : NxIn nx) (hb : ∀ b ∈ bs, b < nx.length) : (comeL nx bs).Perm fd := by
  rw [List.perm_ext_iff_of_nodup comeL_nd h.nd]
  intro b
  rw [mem_comeL]
  refine ⟨fun ⟨_, q⟩ => q.ind h.beg fun a l b q e m => h.cl a q (by simp) (fun z => z) l e b m, fun q => ⟨h.lt hn hb b q, h.come b q⟩⟩

/-- the walk by layers, that asks for one block -/
structure Bfs (nx : List (List Nat)) (b0 bk i : Nat) (met layer : List Nat) : Prop where
  come : ∀ b ∈ met ++ layer, Come nx [b0] b
  not : ∀ b ∈ b0 :: met, b ∉ layer → b ≠ bk
  cl : ∀ a ∈ b0 :: met, a ∉ layer → ∀ l, nx[a]? = some l → ∀ b ∈ l, b ∈ met
  lay : ∀ b ∈ layer, b = b0 ∨ b ∈ met
  cnt : layer = [] ∨ i ≤ ((List.range nx.length).filter fun b => decide (b ∈ met)).length
theorem filter_lt {m : Nat} {s t : List Nat} {x : Nat} (hs : ∀ b ∈ s, b ∈ t) (hx : x < m) (h1 : x ∉ s) (h2 : x ∈ t) : ((List.range m).filter fun b => decide (b ∈ s)).length < ((List.range m).filter fun b => decide (b ∈ t)).length := by
  have h3 : ((List.range m).filter fun b => decide (b ∈ s)).length < ((List.range m).filter fun b => decide (b ∈ t)).length := by
    have nd : (x :: ((List.range m).filter fun b => decide (b ∈ s))).Nodup := by
      rw [List.nodup_cons]
      exact ⟨fun q => h1 (of_decide_eq_true (List.mem_filter.mp q).2), List.nodup_range.filter _⟩
    have := nodup_leN (m := (List.range m).filter fun b => decide (b ∈ t)) nd fun b hb => by
      rcases List.mem_cons.mp hb with rfl | hb
      · exact List.mem_filter.mpr ⟨List.mem_range.mpr hx, decide_eq_true h2⟩
      · obtain ⟨q1, q2⟩ := List.mem_filter.mp hb
        exact List.mem_filter.mpr ⟨q1, decide_eq_true (hs _ (of_decide_eq_true q2))⟩
    rw [List.length_cons] at this
    exact this
  exact h3
/-- what the walk by layers comes to next -/
def fur (nx : List (List Nat)) (met layer : List Nat) : List Nat := layer.flatMap fun b => (nx.getD b []).filter fun t => !decide (t ∈ met)
theorem fur_mem {met layer : List Nat} {x : Nat} (h : x ∈ fur nx met layer) : ∃ b l, b ∈ layer ∧ nx[b]? = some l ∧ x ∈ l ∧ x ∉ met := by
  obtain ⟨b, hb, hx⟩ := List.mem_flatMap.mp h
  obtain ⟨h1, h2⟩ := List.mem_filter.mp hx
  rw [List.getD_eq_getElem?_getD] at h1
  cases e : nx[b]? with
  | none => rw [e] at h1; cases h1
  | some l => rw [e] at h1; exact ⟨b, l, hb, e, h1, by simpa using h2⟩
theorem mem_fur {met layer l : List Nat} {x b : Nat} (hb : b ∈ layer) (e : nx[b]? = some l) (hx : x ∈ l) (hn : x ∉ met) : x ∈ fur nx met layer := by
  refine List.mem_flatMap.mpr ⟨b, hb, List.mem_filter.mpr ⟨?_, by simpa using hn⟩⟩
  rw [List.getD_eq_getElem?_getD, e]; exact hx
theorem Bfs.start {b0 bk : Nat} : Bfs nx b0 bk 0 [] [b0] :=
  ⟨fun b hb => .base hb, fun b hb hn => absurd hb hn, fun b hb hn => absurd hb hn, fun b hb => .inl (List.mem_singleton.mp hb), .inr (Nat.zero_le _)⟩
theorem Bfs.step {b0 bk i : Nat} {met layer : List Nat} (hn : NxIn nx) (h : Bfs nx b0 bk i met layer) (hk : bk ∉ layer) : Bfs nx b0 bk (i + 1) (met ++ fur nx met layer) (fur nx met layer) := by
  have old : ∀ {b : Nat}, b ∈ b0 :: (met ++ fur nx met layer) → b ∉ fur nx met layer → b ∈ b0 :: met := fun hb hn => by
    rcases List.mem_cons.mp hb with rfl | hb
    · exact List.mem_cons_self
    · rcases List.mem_append.mp hb with hb | hb
      · exact List.mem_cons_of_mem _ hb
      · exact absurd hb hn
  have cf : ∀ b ∈ fur nx met layer, Come nx [b0] b := fun b hb => by
    obtain ⟨a, l, h1, h2, h3, _⟩ := fur_mem hb
    exact .step (h.come a (by simp [h1])) h2 h3
  refine ⟨fun b hb => ?_, fun b hb hnf => ?_, fun a ha hnf l e b hb => ?_, fun b hb => .inr (by simp [hb]), ?_⟩
  · rcases List.mem_append.mp hb with hb | hb
    · rcases List.mem_append.mp hb with hb | hb
      · exact h.come b (by simp [hb])
      · exact cf b hb
    · exact cf b hb
  · by_cases q : b ∈ layer
    · exact fun e => hk (e ▸ q)
    · exact h.not b (old hb hnf) q
  · by_cases q : b ∈ met
    · simp [q]
    · by_cases r : a ∈ layer
      · simp [mem_fur r e hb q]
      · exact absurd (h.cl a (old ha hnf) r l e b hb) q
  · match hf : fur nx met layer with
    | [] => exact .inl rfl
    | x :: r =>
      right
      have hx : x ∈ fur nx met layer := by rw [hf]; exact List.mem_cons_self
      obtain ⟨a, l, h1, h2, h3, h4⟩ := fur_mem hx
      have := filter_lt (m := nx.length) (s := met) (t := met ++ (x :: r)) (x := x) (fun b hb => by simp [hb]) (hn.lt l (List.mem_of_getElem? h2) x h3) h4 (by simp)
      rcases h.cnt with e | e
      · rw [e] at h1; cases h1
      · omega
theorem Bfs.none {b0 bk : Nat} {met layer : List Nat} (h : Bfs nx b0 bk (nx.length + 1) met layer) : ¬ Come nx [b0] bk := by
  have e : layer = [] := by
    rcases h.cnt with e | e
    · exact e
    · have := List.length_filter_le (fun b => decide (b ∈ met)) (List.range nx.length)
      rw [List.length_range] at this
      omega
  subst e
  intro q
  have : bk ∈ b0 :: met := q.ind (S := fun b => b ∈ b0 :: met) (fun b hb => by rw [List.mem_singleton.mp hb]; exact List.mem_cons_self) fun a l b ha e m => List.mem_cons_of_mem _ (h.cl a ha (by simp) l e b m)
  exact h.not bk this (by simp) rfl
theorem fur_len {met layer : List Nat} (h2 : ∀ l ∈ nx, l.length ≤ 2) : (fur nx met layer).length ≤ 2 * layer.length := by
  unfold fur
  induction layer with
  | nil => simp
  | cons b layer ih =>
    rw [List.flatMap_cons, List.length_append, List.length_cons]
    have h3 : ((nx.getD b []).filter fun t => !decide (t ∈ met)).length ≤ 2 := by
      refine Nat.le_trans (List.length_filter_le _ _) ?_
      rw [List.getD_eq_getElem?_getD]
      cases e : nx[b]? with
      | none => exact Nat.zero_le _
      | some l => exact h2 l (List.mem_of_getElem? e)
    omega
end
/-- the blocks that the ends of a work name -/
def nexts (w : W) : List (List Nat) := w.map fun b => b.2.nx
theorem nexts_len (w : W) : (nexts w).length = w.length := List.length_map ..
theorem nexts_two (w : W) : ∀ l ∈ nexts w, l.length ≤ 2 := fun l hl => by
  obtain ⟨b, _, rfl⟩ := List.mem_map.mp hl
  cases b.2 <;> simp [Nd.nx]
theorem Ok.nxIn {nw : Nat} {w : W} (h : Ok nw w) : NxIn (nexts w) := ⟨fun l hl b hb => by
  obtain ⟨k, hk, rfl⟩ := List.mem_map.mp hl
  rw [nexts_len]
  exact ((h.nd k hk).nx b hb).2⟩
end Wk

/-! Core15: owned lists given away; more small words. -/
namespace DL
open PySem PySem.Spec PyProof.Rows L2 Wk
section
variable {X : Cx} {M : Mem} {Q : D → Mem → Prop} {Ln Vn Bn Fn : List Str}
/-- an owned list is given to a method, and is owned no more -/
theorem md_frz {id : String} {o : D} {p : Addr} {es : List D} (h : MD X id o [.lst es] M Q) : MD X id o [.ref p] ((p, .lst es) :: M) Q := by
  intro S H v xs rv rx m
  obtain ⟨S2, s2, m2, r2⟩ := m.freeze
  obtain ⟨x, rfl, r1⟩ := reps_one rx
  rw [r1.ref_inv]
  exact md_weak s2 (h S2 H v _ (rv.mono s2) (.one r2) m2)
theorem od_frzR {f : Value → Value → Sem Value} {d : D} {p : Addr} {es : List D} (h : OD X f d (.lst es) M Q) : OD X f d (.ref p) ((p, .lst es) :: M) Q := by
  intro S H x y rx ry m
  obtain ⟨S2, s2, m2, r2⟩ := m.freeze
  rw [ry.ref_inv]
  exact rC_mono (h S2 H x _ (rx.mono s2) r2 m2) fun _ _ q => q.weak s2
theorem od_frzL {f : Value → Value → Sem Value} {d : D} {p : Addr} {es : List D} (h : OD X f (.lst es) d M Q) : OD X f (.ref p) d ((p, .lst es) :: M) Q := by
  intro S H x y rx ry m
  obtain ⟨S2, s2, m2, r2⟩ := m.freeze
  rw [rx.ref_inv]
  exact rC_mono (h S2 H _ y r2 (ry.mono s2) m2) fun _ _ q => q.weak s2
theorem cd_weak {f : Value} {S S' H : Hp} {xs : List V} (s1 : Same S S') (h : ∃ r, CallR X f r ∧ r xs H (Post X.K S' Q)) : ∃ r, CallR X f r ∧ r xs H (Post X.K S Q) := by
  obtain ⟨r, hc, q⟩ := h
  refine ⟨fun xs H R => R = Post X.K S Q ∧ r xs H (Post X.K S' Q), fun pins s σ H xs us R I rx ⟨eR, z⟩ => ?_, rfl, q⟩
  subst eR
  exact thn (hc pins s σ H xs us _ I rx z) fun _ _ ⟨v, H', I', rv, q⟩ => ⟨v, H', I', rv, Post.weak q s1⟩
theorem cd_frz {f : Value} {p : Addr} {es : List D} (h : CD X f [.lst es] M Q) : CD X f [.ref p] ((p, .lst es) :: M) Q := by
  intro S H xs rx m
  obtain ⟨S2, s2, m2, r2⟩ := m.freeze
  obtain ⟨x, rfl, r1⟩ := reps_one rx
  rw [r1.ref_inv]
  exact cd_weak s2 (h S2 H _ (.one r2) m2)
theorem cd_sortedPO {X : Cx} {M : Mem} {Q : D → Mem → Prop} {d : D} {ps qs : List (Int × Int)} (h : IsR M d (ps.map Wk.pairD)) (hp : qs.Perm ps) (hs : qs.Pairwise lexLe) (q : ∀ p, Q (.ref p) ((p, .lst (qs.map Wk.pairD)) :: M)) : CD X (.builtin "sorted") [d] M Q := by
  refine cd_of cr_sortedPO fun S H xs rx m => ?_
  obtain ⟨v, rfl, rv⟩ := reps_one rx
  obtain ⟨a, us, rfl, h1, ru⟩ := h.get m rv
  obtain ⟨e1, e2⟩ := reps_pairs ru
  refine ⟨a, us, kOf S, rfl, h1, fun x hx => ?_, fun ys p h2 h3 hp' => ?_⟩
  · obtain ⟨_, t, e, ht⟩ := rep_pair (e2 x hx)
    exact ⟨t, e, m.sub _ _ ht⟩
  · have pm : (ys.map (kOf S)).Perm qs := by
      have := h3.perm.map (kOf S)
      rw [e1] at this
      exact this.trans hp.symm
    have so : (ys.map (kOf S)).Pairwise lexLe := by
      rw [List.pairwise_map]
      refine h2.imp fun {x y} h => ?_
      have := SrtO.lexB_no.mp h
      show _ ∨ _
      omega
    have e : ys.map (kOf S) = qs := pm.eq_of_pairwise (fun a b _ _ h1 h2 => by
      have : a.1 = b.1 ∧ a.2 = b.2 := by
        rcases h1 with h1 | h1 <;> rcases h2 with h2 | h2 <;> omega
      exact Prod.ext this.1 this.2) so hs
    have r : Reps X.K S ys (qs.map Wk.pairD) := by
      rw [← e, List.map_map]
      have : Reps X.K S (ys.map id) (ys.map (Wk.pairD ∘ kOf S)) := Reps.of_map fun x hx => e2 x (h3.perm.mem_iff.mp hx)
      rw [List.map_id] at this
      exact this
    exact post_own m r q p hp'
theorem sw_no2 {x y : Str} {px py pt pt2 : Pos} {kt k2 : Nat} {env : Env} {a b : Expr} (h : (env.scope.names.lookup x == some .local) = false ∨ (env.scope.names.lookup y == some .local) = false) :
    swappedStores [.Tuple [.Name x px, .Name y py] kt pt] (.Tuple [a, b] k2 pt2) env = pure none := by
  have kx : env.kindOf x = env.scope.names.lookup x := rfl
  have ky : env.kindOf y = env.scope.names.lookup y := rfl
  unfold swappedStores
  rcases h with h | h
  · by_cases hy : (env.scope.names.lookup y == some .local) = true <;> by_cases hl : py.line = px.line <;>
      simp [kx, ky, h, hy, hl, Expr.pos, List.filterMap, List.eraseDups, List.eraseDupsBy, List.eraseDupsBy.loop]
  · by_cases hx : (env.scope.names.lookup x == some .local) = true <;> by_cases hl : py.line = px.line <;>
      simp [kx, ky, h, hx, hl, Expr.pos, List.filterMap, List.eraseDups, List.eraseDupsBy, List.eraseDupsBy.loop]
theorem KeysOf.merge {v : D} : ∀ (bs : List Nat) {kvs : List (Key × D)} {seen : List Nat}, KeysOf kvs seen → KeysOf (mergeA kvs (bs.map fun (n : Nat) => ((.inl (n : Int) : Key), v))) (seen ++ bs)
  | [], kvs, seen, h => by simpa [mergeA] using h
  | b :: bs, kvs, seen, h => by
    have := KeysOf.merge (v := v) bs (h.put b v)
    rw [List.append_assoc] at this
    exact this
theorem keys_nil : KeysOf [] [] := ⟨[], rfl, .nil, by simp, by simp⟩
theorem valA_in {kvs : List (Key × D)} {fd : List Nat} (h : kvs.map (·.1) = fd.map fun (n : Nat) => (Sum.inl (n : Int) : Key)) (b : Nat) : (valA kvs (.inl (b : Int))).isSome = decide (b ∈ fd) := by
  rw [Bool.eq_iff_iff, decide_eq_true_iff, valA_mem_keys, h, List.mem_map]
  constructor
  · rintro ⟨n, hn, e⟩
    have : n = b := Int.ofNat_inj.mp (Sum.inl.inj e)
    rw [← this]; exact hn
  · exact fun hb => ⟨b, hb, rfl⟩
theorem atI_map {α : Type} {g : α → D} {l : List α} {i : Nat} {a : α} (h : l[i]? = some a) : atI (l.map g) (i : Int) = some (g a) := atI_nat (by rw [List.getElem?_map, h]; rfl)
end
end DL
namespace Wk
open DL PySem
theorem Come.of_lt {nx : List (List Nat)} {b0 b : Nat} (hn : NxIn nx) (h0 : b0 < nx.length) (h : Come nx [b0] b) : b < nx.length := h.lt hn fun x hx => by rw [List.mem_singleton.mp hx]; exact h0
/-- the ways from which a way leads back, as they come -/
noncomputable def rndK (nx : List (List Nat)) (k : Nat) (l : List Nat) : List (Int × Int) := (l.filter fun t => decide (k ∈ comeL nx [t])).map fun (t : Nat) => ((k : Int), (t : Int))
noncomputable def rndFrom (nx : List (List Nat)) : Nat → List (List Nat) → List (Int × Int)
  | _, [] => []
  | k, l :: r => rndK nx k l ++ rndFrom nx (k + 1) r
theorem rndFrom_app (nx : List (List Nat)) : ∀ (ls : List (List Nat)) (k : Nat) (l : List Nat), rndFrom nx k (ls ++ [l]) = rndFrom nx k ls ++ rndK nx (k + ls.length) l
  | [], k, l => by simp [rndFrom]
  | x :: ls, k, l => by
    rw [List.cons_append, rndFrom, rndFrom, rndFrom_app nx ls (k + 1) l, List.append_assoc, List.length_cons]
    congr 3
    omega
noncomputable def rndE (nx : List (List Nat)) (k : Nat) (e : Nd) : List (Int × Int) := (e.sx.filter fun t => decide (k ∈ comeL nx [t])).map fun (t : Nat) => ((k : Int), (t : Int))
noncomputable def roundsFrom (nx : List (List Nat)) : Nat → List Nd → List (Int × Int)
  | _, [] => []
  | k, e :: r => rndE nx k e ++ roundsFrom nx (k + 1) r
noncomputable def roundsOf (w : W) : List (Int × Int) := roundsFrom (nexts w) 0 (w.map (·.2))
theorem sx_perm (e : Nd) : e.sx.Perm e.nx := by
  cases e with
  | out => exact .refl _
  | go t => exact .refl _
  | fork t o =>
    rw [Nd.sx_fork]
    by_cases h : t ≤ o
    · rw [if_pos h]; exact .refl _
    · rw [if_neg h]; exact .swap _ _ _
theorem rounds_perm (nx : List (List Nat)) : ∀ (es : List Nd) (k : Nat), (roundsFrom nx k es).Perm (rndFrom nx k (es.map Nd.nx))
  | [], _ => .refl _
  | e :: es, k => by
    rw [roundsFrom, List.map_cons, rndFrom]
    exact ((sx_perm e).filter _ |>.map _).append (rounds_perm nx es (k + 1))
theorem roundsFrom_sub (n : Nat) (nx : List (List Nat)) : ∀ (es : List Nd) (k : Nat), (roundsFrom nx k es).Sublist (waysFrom n k es)
  | [], _ => .refl _
  | e :: es, k => by
    rw [roundsFrom, waysFrom]
    refine List.Sublist.append ?_ (roundsFrom_sub n nx es (k + 1))
    unfold rndE wayK
    by_cases h : e.nx = []
    · rw [sx_nil e h]; exact List.nil_sublist _
    · rw [if_neg h]; exact (List.filter_sublist ..).map _
theorem roundsOf_up {w : W} (h : Fit w) : (roundsOf w).Pairwise lexLe := (waysFrom_up w.length h.len _ 0 h.ends).sublist (roundsFrom_sub _ _ _ _)
theorem roundsOf_perm (w : W) : (roundsOf w).Perm (rndFrom (nexts w) 0 (nexts w)) := by
  have := rounds_perm (nexts w) (w.map (·.2)) 0
  rw [List.map_map] at this
  exact this
theorem rndFrom_len (nx : List (List Nat)) (h2 : ∀ l ∈ nx, l.length ≤ 2) : ∀ (ls : List (List Nat)) (k : Nat), (∀ l ∈ ls, l.length ≤ 2) → (rndFrom nx k ls).length ≤ 2 * ls.length
  | [], _, _ => Nat.zero_le _
  | l :: ls, k, h => by
    rw [rndFrom, List.length_append, List.length_cons]
    have h1 := rndFrom_len nx h2 ls (k + 1) fun l hl => h l (List.mem_cons_of_mem _ hl)
    have h3 := List.length_filter_le (fun t => decide (k ∈ comeL nx [t])) l
    have h4 := h l List.mem_cons_self
    unfold rndK
    rw [List.length_map]
    omega
theorem mem_natI {k : Nat} {l : List Nat} : (k : Int) ∈ l.map (fun (n : Nat) => (n : Int)) ↔ k ∈ l := by
  rw [List.mem_map]
  exact ⟨fun ⟨n, hn, e⟩ => by rw [← Int.ofNat_inj.mp e]; exact hn, fun h => ⟨k, h, rfl⟩⟩
/-- of the ways but the door those that go between blocks and lead back -/
theorem rounds_ways (n : Nat) (nx : List (List Nat)) : ∀ (es : List Nd) (k : Nat), (∀ e ∈ es, ∀ t ∈ e.nx, t < n) → (waysFrom n k es).filter (fun p => decide (p.2 < (n : Int)) && decide (p.1.toNat ∈ comeL nx [p.2.toNat])) = roundsFrom nx k es
  | [], _, _ => rfl
  | e :: es, k, h => by
    rw [waysFrom, roundsFrom, List.filter_append, rounds_ways n nx es (k + 1) fun e he => h e (List.mem_cons_of_mem _ he)]
    congr 1
    unfold wayK rndE
    by_cases q : e.nx = []
    · rw [if_pos q, sx_nil e q]
      simp
    · rw [if_neg q, List.filter_map]
      congr 1
      refine List.filter_congr fun t ht => ?_
      have := h e List.mem_cons_self t (sx_mem ht)
      simp only [Function.comp_apply, Int.toNat_natCast]
      rw [decide_eq_true (by omega : (t : Int) < (n : Int)), Bool.true_and]
end Wk

/-! Core16: the rest of the comprehensions. -/
namespace DL
open PySem PySem.Spec PyProof.Rows L2
section
variable {P : Program} {w : World} {K : PySem.W.Frag} {mg : Str → Option Value} {base : Heap} {X : Cx} {Γ Γb : VEnv} {M : Mem} {Q : D → Mem → Prop} {E : DE} {x : Str} {pos px : Pos} {elt iter c : Expr} {scope sc : Scope} {own : List (Str × Nat)} {N Ln Bn Fn Bx Vb Bb Fb : List Str} {k : Nat} {α : Type}
/-- name = [elt for x in iter if c] on one line -/
theorem ws_setPick {i j : Nat} {y : Str} {py spos : Pos} (l : List α) (g hh : α → D) (pk : α → Bool) (own : List (Str × Nat)) (Vb Bb Fb : List Str) (bod : Bod P w K mg base k sc N Ln Bn Fn Bx X) (hc : (blkC N sc scope own && blkChk sc scope (own.map (·.1)) Vb Bb Fb Bx) = true) (hxi : (x, i) ∈ own) (hwp : Wiped Γ own Γb)
    (hy : y ∈ Ln) (hyl : sc.names.lookup y = some .local) (hNy : N[j]? = some y) (ha : (scope.names.any fun (n, k) => n == y && (k == .local || k == .cell)) = false)
    (h : WI X Γ M (.Name x px) iter fun items Stb M1 => items = l.map g ∧ l.length ≤ sizeLine ∧ (∀ L acc, Stb ((L, .lst acc) :: M1)) ∧ (∀ a ∈ l, ∃ Γ2, SetAt Γb x (g a) Γ2 ∧ EachIf X scope (own.map (·.1)) Vb Bb Fb Γ2 M1 c (pk a) ∧ (pk a = true → Each X scope (own.map (·.1)) Vb Bb Fb Γ2 M1 elt (hh a))) ∧ ∀ p, ∃ Γ', SetAt Γ y (.ref p) Γ' ∧ E.nx Γ' ((p, .lst ((l.filter pk).map hh)) :: M1))
    (hl : (py.line == pos.line) = true := by rfl) (hl2 : spos.line = py.line := by rfl) (hs : ∀ x, foldedSetIterable iter X.env x = pure x := by intro _; rfl) : WS X Γ M (.Assign [.Name y py] (.ListComp elt [⟨.Name x px, iter, [c], 0⟩] scope pos) spos) E := by
  refine ws_setLc bod.st hy (by rw [bod.sc]; exact hyl) bod.kind (by rw [bod.N]; exact hNy) ha (blk_of bod hc).st hxi (blk_of bod hc).ok hwp (Nat.le_refl _) (fun S σ H a b => tI_mono (h S σ H a b) ?_) hl hl2 hs
  rintro J H1 ⟨items, Stb, M1, S1, ⟨h1, h2, h3, h4, h5⟩, s1, m1, W⟩
  obtain ⟨I, i1, i2, i3, i4⟩ := lc_pick (c := c) (elt := elt) (scope := scope) (hh := hh) (pk := pk) (X := X) (R := fun _ d Γ2 => SetAt Γb x d Γ2) h1 h2 h3 (fun a ha => let ⟨Γ2, q1, q2, q3⟩ := h4 a ha; ⟨Γ2, q1, pickT_of (blk_of bod hc) q2 q3⟩)
  exact ⟨items, Stb, M1, S1, ⟨I, i1, i2, i3, fun acc M' q p => by obtain ⟨rfl, rfl⟩ := i4 acc M' q; exact h5 p⟩, s1, m1, W⟩
/-- [elt for x, y in iter if c] -/
theorem we_pickT2 {i j : Nat} {y : Str} {py ptt : Pos} {kk : Nat} (l : List α) (ga gb hh : α → D) (pk : α → Bool) (own : List (Str × Nat)) (Vb Bb Fb : List Str) (bod : Bod P w K mg base k sc N Ln Bn Fn Bx X) (hc : (blkC N sc scope own && blkChk sc scope (own.map (·.1)) Vb Bb Fb Bx) = true) (hxi : (x, i) ∈ own) (hyj : (y, j) ∈ own) (hwp : Wiped Γ own Γb)
    (h : WI X Γ M (.Tuple [.Name x px, .Name y py] kk ptt) iter fun items Stb M1 => items = l.map (fun a => .tup [ga a, gb a]) ∧ l.length ≤ sizeLine ∧ (∀ L acc, Stb ((L, .lst acc) :: M1)) ∧ (∀ a ∈ l, ∃ Γ2 Γ3, SetAt Γb x (ga a) Γ2 ∧ SetAt Γ2 y (gb a) Γ3 ∧ EachIf X scope (own.map (·.1)) Vb Bb Fb Γ3 M1 c (pk a) ∧ (pk a = true → Each X scope (own.map (·.1)) Vb Bb Fb Γ3 M1 elt (hh a))) ∧ ∀ p, Q (.ref p) ((p, .lst ((l.filter pk).map hh)) :: M1))
    (hs : ∀ x, foldedSetIterable iter X.env x = pure x := by intro _; rfl) : WE X Γ M (.ListComp elt [⟨.Tuple [.Name x px, .Name y py] kk ptt, iter, [c], 0⟩] scope pos) Q := by
  have bl := blk_of bod hc
  refine we_lcT (xs := [x, y]) (is := [i, j]) (n := 2) bod.st bl.st (.cons hxi (.cons hyj .nil)) bl.ok hwp (Nat.le_refl _) (pgs_n2 bl.st bl.ok hxi hyj) (fun _ _ _ _ _ => ⟨rfl, rfl⟩) (fun S σ H a b => tI_mono (h S σ H a b) ?_) hs
  rintro J H1 ⟨items, Stb, M1, S1, ⟨h1, h2, h3, h4, h5⟩, s1, m1, W⟩
  obtain ⟨I, i1, i2, i3, i4⟩ := lc_pick (c := c) (elt := elt) (scope := scope) (hh := hh) (pk := pk) (X := X) (g := fun a => .tup [ga a, gb a]) (R := fun _ d Γ2 => ∃ ds, d = .tup ds ∧ ds.length = 2 ∧ SetAts Γb [x, y] ds Γ2) h1 h2 h3 (fun a ha => let ⟨Γ2, Γ3, q1, q2, q3, q4⟩ := h4 a ha; ⟨Γ3, ⟨[ga a, gb a], rfl, rfl, .cons q1 (.cons q2 .nil)⟩, pickT_of bl q3 q4⟩)
  exact ⟨items, Stb, M1, S1, ⟨I, i1, i2, fun i d acc M' e p => let ⟨Γ2, ⟨ds, q1, q2, q3⟩, t⟩ := i3 i d acc M' e p; ⟨ds, Γ2, q1, q2, q3, t⟩, fun acc M' q p => by obtain ⟨rfl, rfl⟩ := i4 acc M' q; exact h5 p⟩, s1, m1, W⟩
/-- name = [elt for x, y in iter] on one line -/
theorem ws_setMapT2 {i i2 j : Nat} {z y : Str} {py py2 ptt spos : Pos} {kk : Nat} (l : List α) (ga gb hh : α → D) (own : List (Str × Nat)) (Vb Bb Fb : List Str) (bod : Bod P w K mg base k sc N Ln Bn Fn Bx X) (hc : (blkC N sc scope own && blkChk sc scope (own.map (·.1)) Vb Bb Fb Bx) = true) (hxi : (x, i) ∈ own) (hyj : (z, i2) ∈ own) (hwp : Wiped Γ own Γb)
    (hy : y ∈ Ln) (hyl : sc.names.lookup y = some .local) (hNy : N[j]? = some y) (ha : (scope.names.any fun (n, k) => n == y && (k == .local || k == .cell)) = false)
    (h : WI X Γ M (.Tuple [.Name x px, .Name z py2] kk ptt) iter fun items Stb M1 => items = l.map (fun a => .tup [ga a, gb a]) ∧ l.length ≤ sizeLine ∧ (∀ L acc, Stb ((L, .lst acc) :: M1)) ∧ (∀ a ∈ l, ∃ Γ2 Γ3, SetAt Γb x (ga a) Γ2 ∧ SetAt Γ2 z (gb a) Γ3 ∧ Each X scope (own.map (·.1)) Vb Bb Fb Γ3 M1 elt (hh a)) ∧ ∀ p, ∃ Γ', SetAt Γ y (.ref p) Γ' ∧ E.nx Γ' ((p, .lst (l.map hh)) :: M1))
    (hl : (py.line == pos.line) = true := by rfl) (hs : ∀ x, foldedSetIterable iter X.env x = pure x := by intro _; rfl) : WS X Γ M (.Assign [.Name y py] (.ListComp elt [⟨.Tuple [.Name x px, .Name z py2] kk ptt, iter, [], 0⟩] scope pos) spos) E := by
  have bl := blk_of bod hc
  refine ws_setLcT (xs := [x, z]) (is := [i, i2]) (n := 2) bod.st hy (by rw [bod.sc]; exact hyl) bod.kind (by rw [bod.N]; exact hNy) ha bl.st (.cons hxi (.cons hyj .nil)) bl.ok hwp (Nat.zero_le _) (pgs_n2 bl.st bl.ok hxi hyj) (fun _ _ _ _ _ => ⟨rfl, rfl⟩) (fun S σ H a b => tI_mono (h S σ H a b) ?_) hl hs
  rintro J H1 ⟨items, Stb, M1, S1, ⟨h1, h2, h3, h4, h5⟩, s1, m1, W⟩
  obtain ⟨I, i1, i2, i3, i4⟩ := lc_map (tg := .Tuple [.Name x px, .Name z py2] kk ptt) (elt := elt) (scope := scope) (hh := hh) (X := X) (g := fun a => .tup [ga a, gb a]) (R := fun _ d Γ2 => ∃ ds, d = .tup ds ∧ ds.length = 2 ∧ SetAts Γb [x, z] ds Γ2) h1 h2 h3 (fun a ha => let ⟨Γ2, Γ3, q1, q2, q3⟩ := h4 a ha; ⟨Γ3, ⟨[ga a, gb a], rfl, rfl, .cons q1 (.cons q2 .nil)⟩, mapT_of bl q3⟩)
  exact ⟨items, Stb, M1, S1, ⟨I, i1, i2, fun i d acc M' e p => let ⟨Γ2, ⟨ds, q1, q2, q3⟩, t⟩ := i3 i d acc M' e p; ⟨ds, Γ2, q1, q2, q3, t⟩, fun acc M' q p => by obtain ⟨rfl, rfl⟩ := i4 acc M' q; exact h5 p⟩, s1, m1, W⟩
/-- name = [elt for x, y in iter if c] on one line -/
theorem ws_setPickT2 {i i2 j : Nat} {z y : Str} {py py2 ptt spos : Pos} {kk : Nat} (l : List α) (ga gb hh : α → D) (pk : α → Bool) (own : List (Str × Nat)) (Vb Bb Fb : List Str) (bod : Bod P w K mg base k sc N Ln Bn Fn Bx X) (hc : (blkC N sc scope own && blkChk sc scope (own.map (·.1)) Vb Bb Fb Bx) = true) (hxi : (x, i) ∈ own) (hyj : (z, i2) ∈ own) (hwp : Wiped Γ own Γb)
    (hy : y ∈ Ln) (hyl : sc.names.lookup y = some .local) (hNy : N[j]? = some y) (ha : (scope.names.any fun (n, k) => n == y && (k == .local || k == .cell)) = false)
    (h : WI X Γ M (.Tuple [.Name x px, .Name z py2] kk ptt) iter fun items Stb M1 => items = l.map (fun a => .tup [ga a, gb a]) ∧ l.length ≤ sizeLine ∧ (∀ L acc, Stb ((L, .lst acc) :: M1)) ∧ (∀ a ∈ l, ∃ Γ2 Γ3, SetAt Γb x (ga a) Γ2 ∧ SetAt Γ2 z (gb a) Γ3 ∧ EachIf X scope (own.map (·.1)) Vb Bb Fb Γ3 M1 c (pk a) ∧ (pk a = true → Each X scope (own.map (·.1)) Vb Bb Fb Γ3 M1 elt (hh a))) ∧ ∀ p, ∃ Γ', SetAt Γ y (.ref p) Γ' ∧ E.nx Γ' ((p, .lst ((l.filter pk).map hh)) :: M1))
    (hl : (py.line == pos.line) = true := by rfl) (hs : ∀ x, foldedSetIterable iter X.env x = pure x := by intro _; rfl) : WS X Γ M (.Assign [.Name y py] (.ListComp elt [⟨.Tuple [.Name x px, .Name z py2] kk ptt, iter, [c], 0⟩] scope pos) spos) E := by
  have bl := blk_of bod hc
  refine ws_setLcT (xs := [x, z]) (is := [i, i2]) (n := 2) bod.st hy (by rw [bod.sc]; exact hyl) bod.kind (by rw [bod.N]; exact hNy) ha bl.st (.cons hxi (.cons hyj .nil)) bl.ok hwp (Nat.le_refl _) (pgs_n2 bl.st bl.ok hxi hyj) (fun _ _ _ _ _ => ⟨rfl, rfl⟩) (fun S σ H a b => tI_mono (h S σ H a b) ?_) hl hs
  rintro J H1 ⟨items, Stb, M1, S1, ⟨h1, h2, h3, h4, h5⟩, s1, m1, W⟩
  obtain ⟨I, i1, i2, i3, i4⟩ := lc_pick (c := c) (elt := elt) (scope := scope) (hh := hh) (pk := pk) (X := X) (g := fun a => .tup [ga a, gb a]) (R := fun _ d Γ2 => ∃ ds, d = .tup ds ∧ ds.length = 2 ∧ SetAts Γb [x, z] ds Γ2) h1 h2 h3 (fun a ha => let ⟨Γ2, Γ3, q1, q2, q3, q4⟩ := h4 a ha; ⟨Γ3, ⟨[ga a, gb a], rfl, rfl, .cons q1 (.cons q2 .nil)⟩, pickT_of bl q3 q4⟩)
  exact ⟨items, Stb, M1, S1, ⟨I, i1, i2, fun i d acc M' e p => let ⟨Γ2, ⟨ds, q1, q2, q3⟩, t⟩ := i3 i d acc M' e p; ⟨ds, Γ2, q1, q2, q3, t⟩, fun acc M' q p => by obtain ⟨rfl, rfl⟩ := i4 acc M' q; exact h5 p⟩, s1, m1, W⟩
/-- [elt for x in iter], what is drawn by the way -/
theorem we_st {i : Nat} (own : List (Str × Nat)) (Vb Bb Fb : List Str) (bod : Bod P w K mg base k sc N Ln Bn Fn Bx X) (hc : (blkC N sc scope own && blkChk sc scope (own.map (·.1)) Vb Bb Fb Bx) = true) (hxi : (x, i) ∈ own) (hwp : Wiped Γ own Γb)
    (h : WI X Γ M (.Name x px) iter fun items Stb M1 => ∃ I : Nat → List D → Mem → Prop, I 0 [] M1 ∧ (∀ i acc M' L, I i acc M' → Stb ((L, .lst acc) :: M')) ∧ (∀ i d acc M', items[i]? = some d → I i acc M' → StStep X scope (own.map (·.1)) Vb Bb Fb Γb x elt I i d acc M') ∧ ∀ acc M', I items.length acc M' → ∀ p, Q (.ref p) ((p, .lst acc) :: M'))
    (hs : ∀ x, foldedSetIterable iter X.env x = pure x := by intro _; rfl) : WE X Γ M (.ListComp elt [⟨.Name x px, iter, [], 0⟩] scope pos) Q :=
  we_lc bod.st (blk_of bod hc).st hxi (blk_of bod hc).ok hwp (Nat.zero_le _)
    (wi_imp h fun _ _ _ ⟨I, h1, h2, h3, h4⟩ => ⟨I, h1, h2, fun i d acc M' e q => let ⟨hl, Γ2, a, b⟩ := h3 i d acc M' e q; ⟨Γ2, a, turn_of (blk_of bod hc) hl b⟩, h4⟩) hs
end
end DL

/-! Core17: comprehensions within comprehensions. -/
namespace DL
open PySem PySem.Spec PyProof.Rows L2
theorem Stat.nil {X : Cx} {Ln Vn Bn Fn : List Str} (st : Stat X Ln Vn Bn Fn) : Stat X [] [] Bn Fn := ⟨st.calm, fun _ h => (by cases h), st.po, st.nd, fun _ h => (by cases h), st.blt, st.gfn, st.hu, st.gd⟩
section
variable {P : Program} {w : World} {K : PySem.W.Frag} {mg : Str → Option Value} {base : Heap} {X X1 : Cx} {Γ Γb : VEnv} {M : Mem} {Q : D → Mem → Prop} {x : Str} {pos px : Pos} {elt iter c : Expr} {scope scope2 sc : Scope} {own own2 : List (Str × Nat)} {N Ln Vn Bn Fn Bx Vb Bb Fb ow V1 B1 F1 : List Str} {k : Nat} {α : Type}
theorem blk_in (bod : Bod P w K mg base k sc N Ln Bn Fn Bx X) (inn : Inn X X1 scope ow V1 B1 F1) (h : (blkC N (relS scope sc) scope2 own2 && blkChk (relS scope sc) scope2 (own2.map (·.1)) Vb Bb Fb Bx) = true) : Blk X1 scope2 own2 Vb Bb Fb := by
  rw [Bool.and_eq_true] at h
  have hsc : X1.env.scope = relS scope sc := by rw [inn.sc, bod.sc]
  exact ⟨by rw [inn.N, bod.N, hsc]; exact blkOk_by h.1, blk_stat inn.st (fun y hy => by rw [inn.mg]; exact bod.blt y hy) hsc h.2⟩
theorem we_mapB {i : Nat} (l : List α) (g hh : α → D) (st : Stat X Ln Vn Bn Fn) (bl : Blk X scope own Vb Bb Fb) (hxi : (x, i) ∈ own) (hwp : Wiped Γ own Γb)
    (h : WI X Γ M (.Name x px) iter fun items Stb M1 => items = l.map g ∧ l.length ≤ sizeLine ∧ (∀ L acc, Stb ((L, .lst acc) :: M1)) ∧ (∀ a ∈ l, ∃ Γ2, SetAt Γb x (g a) Γ2 ∧ Each X scope (own.map (·.1)) Vb Bb Fb Γ2 M1 elt (hh a)) ∧ ∀ p, Q (.ref p) ((p, .lst (l.map hh)) :: M1))
    (hs : ∀ x, foldedSetIterable iter X.env x = pure x := by intro _; rfl) : WE X Γ M (.ListComp elt [⟨.Name x px, iter, [], 0⟩] scope pos) Q :=
  we_lcM l g hh st.nil bl hxi hwp (wi_imp h fun _ _ _ ⟨h1, h2, h3, h4, h5⟩ => ⟨h1, h2, h3, fun a ha => let ⟨Γ2, q1, q2⟩ := h4 a ha; ⟨Γ2, q1, mapT_of bl q2⟩, h5⟩) hs
theorem we_pickB {i : Nat} (l : List α) (g hh : α → D) (pk : α → Bool) (st : Stat X Ln Vn Bn Fn) (bl : Blk X scope own Vb Bb Fb) (hxi : (x, i) ∈ own) (hwp : Wiped Γ own Γb)
    (h : WI X Γ M (.Name x px) iter fun items Stb M1 => items = l.map g ∧ l.length ≤ sizeLine ∧ (∀ L acc, Stb ((L, .lst acc) :: M1)) ∧ (∀ a ∈ l, ∃ Γ2, SetAt Γb x (g a) Γ2 ∧ EachIf X scope (own.map (·.1)) Vb Bb Fb Γ2 M1 c (pk a) ∧ (pk a = true → Each X scope (own.map (·.1)) Vb Bb Fb Γ2 M1 elt (hh a))) ∧ ∀ p, Q (.ref p) ((p, .lst ((l.filter pk).map hh)) :: M1))
    (hs : ∀ x, foldedSetIterable iter X.env x = pure x := by intro _; rfl) : WE X Γ M (.ListComp elt [⟨.Name x px, iter, [c], 0⟩] scope pos) Q :=
  we_lcP l g hh pk st.nil bl hxi hwp (wi_imp h fun _ _ _ ⟨h1, h2, h3, h4, h5⟩ => ⟨h1, h2, h3, fun a ha => let ⟨Γ2, q1, q2, q3⟩ := h4 a ha; ⟨Γ2, q1, pickT_of bl q2 q3⟩, h5⟩) hs
theorem we_mapT2B {i j : Nat} {y : Str} {py ptt : Pos} {kk : Nat} (l : List α) (ga gb hh : α → D) (st : Stat X Ln Vn Bn Fn) (bl : Blk X scope own Vb Bb Fb) (hxi : (x, i) ∈ own) (hyj : (y, j) ∈ own) (hwp : Wiped Γ own Γb)
    (h : WI X Γ M (.Tuple [.Name x px, .Name y py] kk ptt) iter fun items Stb M1 => items = l.map (fun a => .tup [ga a, gb a]) ∧ l.length ≤ sizeLine ∧ (∀ L acc, Stb ((L, .lst acc) :: M1)) ∧ (∀ a ∈ l, ∃ Γ2 Γ3, SetAt Γb x (ga a) Γ2 ∧ SetAt Γ2 y (gb a) Γ3 ∧ Each X scope (own.map (·.1)) Vb Bb Fb Γ3 M1 elt (hh a)) ∧ ∀ p, Q (.ref p) ((p, .lst (l.map hh)) :: M1))
    (hs : ∀ x, foldedSetIterable iter X.env x = pure x := by intro _; rfl) : WE X Γ M (.ListComp elt [⟨.Tuple [.Name x px, .Name y py] kk ptt, iter, [], 0⟩] scope pos) Q :=
  we_lcTM (xs := [x, y]) (is := [i, j]) (n := 2) l (fun a => [ga a, gb a]) hh st.nil bl (.cons hxi (.cons hyj .nil)) hwp (pgs_n2 bl.st bl.ok hxi hyj) (fun _ _ _ _ _ => ⟨rfl, rfl⟩)
    (wi_imp h fun _ _ _ ⟨h1, h2, h3, h4, h5⟩ => ⟨h1, h2, h3, fun a ha => let ⟨Γ2, Γ3, q1, q2, q3⟩ := h4 a ha; ⟨Γ3, ⟨rfl, .cons q1 (.cons q2 .nil)⟩, mapT_of bl q3⟩, h5⟩) hs
theorem rng0 (n : Nat) : rngD 0 n = (List.range n).map Wk.natD := by
  unfold rngD Wk.natD
  refine List.map_congr_left fun k _ => by rw [Int.zero_add]
end
end DL

/-! Core18: what works ask: where a read of a box is come to, in plain words. -/
namespace Wk
open DL PySem
inductive Tch where
  | n | r | w
  deriving DecidableEq
def Tch.s : Tch → Str
  | .n => ""
  | .r => "read"
  | .w => "write"
/-- the boxes that a deed reads, calls by what the works ask -/
def Dd.reads (al : List (List Nat)) : Dd → List Nat
  | .add x y => [x, y]
  | .tell x => [x]
  | .call w => al.getD w []
  | _ => []
def Dd.wrB (b : Nat) (d : Dd) : Bool := d.wr && decide (d.wb = b)
def touch (b : Nat) (al : List (List Nat)) : List Dd → Tch
  | [] => .n
  | d :: r => if b ∈ d.reads al then .r else if d.wrB b = true then .w else touch b al r
/-- a deed that reads the box itself -/
def Dd.rd (b : Nat) : Dd → Bool
  | .add x y => decide (b = x) || decide (b = y)
  | .tell x => decide (b = x)
  | _ => false
abbrev NoWr (b : Nat) (l : List Dd) : Prop := ∀ d ∈ l, d.wrB b = false
/-- from the begin of a work's block a read of the box is come to, with no write of the same call ahead -/
inductive Awt (ws : List W) (b : Nat) : Nat → Nat → Prop
  | read {n k i : Nat} {w : W} {bk : Bk} {d : Dd} : ws[n]? = some w → w[k]? = some bk → bk.1[i]? = some d → d.rd b = true → NoWr b (bk.1.take i) → Awt ws b n k
  | call {n k i m : Nat} {w : W} {bk : Bk} : ws[n]? = some w → w[k]? = some bk → bk.1[i]? = some (.call m) → NoWr b (bk.1.take i) → Awt ws b m 0 → Awt ws b n k
  | step {n k t : Nat} {w : W} {bk : Bk} : ws[n]? = some w → w[k]? = some bk → NoWr b bk.1 → t ∈ bk.2.nx → Awt ws b n t → Awt ws b n k
theorem touch_r {b : Nat} {al : List (List Nat)} : ∀ {dd : List Dd}, touch b al dd = .r ↔ ∃ (i : Nat) (d : Dd), dd[i]? = some d ∧ b ∈ d.reads al ∧ NoWr b (dd.take i)
  | [] => by simp [touch]
  | d :: r => by
    unfold touch
    by_cases h : b ∈ d.reads al
    · rw [if_pos h]
      exact ⟨fun _ => ⟨0, d, rfl, h, by simp [NoWr]⟩, fun _ => rfl⟩
    · rw [if_neg h]
      cases hw : d.wrB b with
      | true =>
        rw [if_pos rfl]
        refine ⟨fun q => (by cases q), fun ⟨i, e, h1, h2, h3⟩ => ?_⟩
        cases i with
        | zero => cases h1; exact absurd h2 h
        | succ i =>
          have := h3 d (by rw [List.take_succ_cons]; exact List.mem_cons_self)
          rw [this] at hw; cases hw
      | false =>
        rw [if_neg Bool.false_ne_true, touch_r (dd := r)]
        constructor
        · rintro ⟨i, e, h1, h2, h3⟩
          refine ⟨i + 1, e, by simpa using h1, h2, fun x hx => ?_⟩
          rw [List.take_succ_cons] at hx
          rcases List.mem_cons.mp hx with rfl | hx
          · exact hw
          · exact h3 x hx
        · rintro ⟨i, e, h1, h2, h3⟩
          cases i with
          | zero => cases h1; exact absurd h2 h
          | succ i => exact ⟨i, e, by simpa using h1, h2, fun x hx => h3 x (by rw [List.take_succ_cons]; exact List.mem_cons_of_mem _ hx)⟩
theorem touch_n {b : Nat} {al : List (List Nat)} : ∀ {dd : List Dd}, touch b al dd = .n → NoWr b dd
  | [], _ => by simp [NoWr]
  | d :: r, h => by
    unfold touch at h
    by_cases h1 : b ∈ d.reads al
    · rw [if_pos h1] at h; cases h
    · rw [if_neg h1] at h
      cases hw : d.wrB b with
      | true => rw [hw, if_pos rfl] at h; cases h
      | false =>
        rw [hw, if_neg Bool.false_ne_true] at h
        intro x hx
        rcases List.mem_cons.mp hx with rfl | hx
        · exact hw
        · exact touch_n h x hx
theorem touch_nw {b : Nat} {al : List (List Nat)} : ∀ {dd : List Dd}, NoWr b dd → touch b al dd = .n ∨ touch b al dd = .r
  | [], _ => .inl rfl
  | d :: r, h => by
    unfold touch
    by_cases h1 : b ∈ d.reads al
    · rw [if_pos h1]; exact .inr rfl
    · rw [if_neg h1, h d List.mem_cons_self, if_neg Bool.false_ne_true]
      exact touch_nw fun x hx => h x (List.mem_cons_of_mem _ hx)
/-- the touches of a work's blocks -/
def tchs (w : W) (b : Nat) (al : List (List Nat)) : List Tch := w.map fun k => touch b al k.1
def leads (nx : List (List Nat)) : List (List Nat) := (List.range nx.length).map fun to => (List.range nx.length).filter fun k => decide (to ∈ nx.getD k [])
def freeL (w : W) (b : Nat) (al : List (List Nat)) : List (List Nat) := (leads (nexts w)).map fun l => l.filter fun k => decide ((tchs w b al).getD k .w = .n)
def begL (w : W) (b : Nat) (al : List (List Nat)) : List Nat := (List.range w.length).filter fun k => decide ((tchs w b al).getD k .w = .r)
noncomputable def awaitL (w : W) (b : Nat) (al : List (List Nat)) : List Nat := comeL (freeL w b al) (begL w b al)
section
variable {w : W} {b : Nat} {al : List (List Nat)}
theorem tchs_len : (tchs w b al).length = w.length := List.length_map ..
theorem tchs_at {k : Nat} {bk : Bk} (h : w[k]? = some bk) : (tchs w b al).getD k .w = touch b al bk.1 := by
  unfold tchs
  rw [List.getD_eq_getElem?_getD, List.getElem?_map, h]; rfl
theorem leads_len (nx : List (List Nat)) : (leads nx).length = nx.length := by unfold leads; rw [List.length_map, List.length_range]
theorem freeL_len : (freeL w b al).length = w.length := by unfold freeL; rw [List.length_map, leads_len, nexts_len]
theorem nexts_at {k : Nat} {bk : Bk} (h : w[k]? = some bk) : (nexts w).getD k [] = bk.2.nx := by
  unfold nexts
  rw [List.getD_eq_getElem?_getD, List.getElem?_map, h]; rfl
/-- k is free of touches and leads to a -/
theorem freeL_mem {a k : Nat} : (∃ l, (freeL w b al)[a]? = some l ∧ k ∈ l) ↔ a < w.length ∧ ∃ bk, w[k]? = some bk ∧ a ∈ bk.2.nx ∧ touch b al bk.1 = .n := by
  unfold freeL leads
  constructor
  · rintro ⟨l, h1, h2⟩
    rw [List.getElem?_map] at h1
    obtain ⟨l', h3, rfl⟩ := Option.map_eq_some_iff.mp h1
    rw [List.getElem?_map] at h3
    obtain ⟨a', h4, rfl⟩ := Option.map_eq_some_iff.mp h3
    rw [nexts_len] at h4
    have ha := (List.getElem?_eq_some_iff.mp h4).1
    rw [List.length_range] at ha
    rw [List.getElem?_range ha] at h4
    cases h4
    obtain ⟨h5, h6⟩ := List.mem_filter.mp h2
    obtain ⟨h7, h8⟩ := List.mem_filter.mp h5
    rw [List.mem_range, nexts_len] at h7
    have hk := List.getElem?_eq_getElem h7
    refine ⟨ha, w[k], hk, ?_, ?_⟩
    · rw [nexts_at hk] at h8; exact of_decide_eq_true h8
    · rw [tchs_at hk] at h6; exact of_decide_eq_true h6
  · rintro ⟨ha, bk, hk, h1, h2⟩
    have hkl := (List.getElem?_eq_some_iff.mp hk).1
    refine ⟨_, by rw [List.getElem?_map, List.getElem?_map, nexts_len, List.getElem?_range ha]; rfl, ?_⟩
    rw [List.mem_filter, List.mem_filter, List.mem_range, nexts_at hk, tchs_at hk]
    exact ⟨⟨hkl, decide_eq_true h1⟩, decide_eq_true h2⟩
theorem begL_mem {k : Nat} : k ∈ begL w b al ↔ ∃ bk, w[k]? = some bk ∧ touch b al bk.1 = .r := by
  unfold begL
  rw [List.mem_filter, List.mem_range]
  constructor
  · rintro ⟨h1, h2⟩
    have hk := List.getElem?_eq_getElem h1
    rw [tchs_at hk] at h2
    exact ⟨w[k], hk, of_decide_eq_true h2⟩
  · rintro ⟨bk, hk, h⟩
    exact ⟨(List.getElem?_eq_some_iff.mp hk).1, by rw [tchs_at hk]; exact decide_eq_true h⟩
theorem freeL_in : NxIn (freeL w b al) := ⟨fun l hl k hk => by
  obtain ⟨a, ha⟩ := List.mem_iff_getElem?.mp hl
  obtain ⟨_, bk, h, _⟩ := freeL_mem.mp ⟨l, ha, hk⟩
  rw [freeL_len]
  exact (List.getElem?_eq_some_iff.mp h).1⟩
theorem begL_lt : ∀ k ∈ begL w b al, k < (freeL w b al).length := fun k hk => by
  obtain ⟨bk, h, _⟩ := begL_mem.mp hk
  rw [freeL_len]
  exact (List.getElem?_eq_some_iff.mp h).1
/-- what the going backwards finds is awaited, where what is asked is -/
theorem await_sound {ws : List W} {n k : Nat} (hw : ws[n]? = some w) (ha : ∀ m, b ∈ al.getD m [] → Awt ws b m 0) (h : Come (freeL w b al) (begL w b al) k) : Awt ws b n k := by
  induction h with
  | base h =>
    obtain ⟨bk, hk, ht⟩ := begL_mem.mp h
    obtain ⟨i, d, h1, h2, h3⟩ := touch_r.mp ht
    cases d with
    | set x y => cases h2
    | add x y =>
      simp only [Dd.reads, List.mem_cons, List.not_mem_nil, or_false] at h2
      exact .read hw hk h1 (by simp [Dd.rd, h2]) h3
    | tell x =>
      simp only [Dd.reads, List.mem_cons, List.not_mem_nil, or_false] at h2
      exact .read hw hk h1 (by simp [Dd.rd, h2]) h3
    | call m => exact .call hw hk h1 h3 (ha m h2)
    | save x => cases h2
    | back x => cases h2
  | @step a c l _ e m ih =>
    obtain ⟨_, bk, hk, h1, h2⟩ := freeL_mem.mp ⟨l, e, m⟩
    exact .step hw hk (touch_n h2) h1 ih
/-- .. and all that is awaited is found, where what is asked stands -/
theorem await_full {ws : List W} (hin : ∀ w ∈ ws, NxIn (nexts w)) (hst : ∀ m w, ws[m]? = some w → Come (freeL w b al) (begL w b al) 0 → b ∈ al.getD m []) {n k : Nat} (h : Awt ws b n k) : ∀ {w : W}, ws[n]? = some w → Come (freeL w b al) (begL w b al) k := by
  induction h with
  | @read n k i w bk d hw hk h1 h2 h3 =>
    intro w' hw'
    rw [hw] at hw'; cases hw'
    refine .base (begL_mem.mpr ⟨bk, hk, touch_r.mpr ⟨i, d, h1, ?_, h3⟩⟩)
    cases d with
    | add x y =>
      simp only [Dd.rd, Bool.or_eq_true, decide_eq_true_eq] at h2
      simp [Dd.reads, h2]
    | tell x =>
      simp only [Dd.rd, decide_eq_true_eq] at h2
      simp [Dd.reads, h2]
    | _ => cases h2
  | @call n k i m w bk hw hk h1 h3 hm ih =>
    intro w' hw'
    rw [hw] at hw'; cases hw'
    have hmm : ∃ wm, ws[m]? = some wm := by
      cases hm with
      | read h _ _ _ _ => exact ⟨_, h⟩
      | call h _ _ _ _ => exact ⟨_, h⟩
      | step h _ _ _ _ => exact ⟨_, h⟩
    obtain ⟨wm, hwm⟩ := hmm
    exact .base (begL_mem.mpr ⟨bk, hk, touch_r.mpr ⟨i, _, h1, hst m wm hwm (ih hwm), h3⟩⟩)
  | @step n k t w bk hw hk h1 h2 ht ih =>
    intro w' hw'
    rw [hw] at hw'; cases hw'
    rcases touch_nw (al := al) h1 with q | q
    · have hlt := (hin w (List.mem_of_getElem? hw)).lt bk.2.nx (List.mem_iff_getElem?.mpr ⟨k, by unfold nexts; rw [List.getElem?_map, hk]; rfl⟩) t h2
      rw [nexts_len] at hlt
      obtain ⟨l, e, m⟩ := freeL_mem.mpr ⟨hlt, bk, hk, h2, q⟩
      exact .step (ih hw) e m
    · exact .base (begL_mem.mpr ⟨bk, hk, q⟩)
end
/-! what is asked, box by box: one truth for each work -/
def askedD (b : Nat) (ts : List Bool) : List (List Nat) := ts.map fun t => if t = true then [b] else []
theorem askedD_len {b : Nat} {ts : List Bool} : (askedD b ts).length = ts.length := List.length_map ..
theorem askedD_at {b m : Nat} {ts : List Bool} : b ∈ (askedD b ts).getD m [] ↔ ts.getD m false = true := by
  unfold askedD
  rw [List.getD_eq_getElem?_getD, List.getElem?_map, List.getD_eq_getElem?_getD]
  cases h : ts[m]? with
  | none => simp
  | some t => cases t <;> simp
noncomputable def askStep (ws : List W) (b : Nat) (ts : List Bool) : List Bool := ws.map fun w => decide (0 ∈ awaitL w b (askedD b ts))
theorem askStep_len {ws : List W} {b : Nat} {ts : List Bool} : (askStep ws b ts).length = ws.length := List.length_map ..
def cntT (ts : List Bool) : Nat := (ts.filter id).length
theorem cntT_le (ts : List Bool) : cntT ts ≤ ts.length := List.length_filter_le _ _
def leT : List Bool → List Bool → Prop
  | [], [] => True
  | a :: as, c :: cs => (a = true → c = true) ∧ leT as cs
  | _, _ => False
theorem leT_at : ∀ {as cs : List Bool}, leT as cs → ∀ m, as.getD m false = true → cs.getD m false = true
  | [], [], _, m, h => by simp at h
  | a :: as, c :: cs, h, 0, e => h.1 e
  | a :: as, c :: cs, h, m + 1, e => leT_at (as := as) (cs := cs) h.2 m e
theorem leT_map {α : Type} {f g : α → Bool} : ∀ {l : List α}, (∀ a ∈ l, f a = true → g a = true) → leT (l.map f) (l.map g)
  | [], _ => trivial
  | a :: l, h => ⟨h a List.mem_cons_self, leT_map fun b hb => h b (List.mem_cons_of_mem _ hb)⟩
theorem leT_rep : ∀ {ts : List Bool}, leT (ts.map fun _ => false) ts
  | [] => trivial
  | _ :: ts => ⟨fun h => (by cases h), leT_rep (ts := ts)⟩
theorem leT_cnt : ∀ {as cs : List Bool}, leT as cs → cntT as ≤ cntT cs ∧ (as ≠ cs → cntT as < cntT cs)
  | [], [], _ => ⟨Nat.le_refl _, fun h => absurd rfl h⟩
  | a :: as, c :: cs, h => by
    obtain ⟨h1, h2⟩ := leT_cnt h.2
    have ha := h.1
    cases a <;> cases c
    · exact ⟨h1, fun q => h2 fun e => q (by rw [e])⟩
    · exact ⟨Nat.le_succ_of_le h1, fun _ => Nat.lt_succ_of_le h1⟩
    · exact absurd (ha rfl) Bool.false_ne_true
    · exact ⟨Nat.succ_le_succ h1, fun q => Nat.succ_lt_succ (h2 fun e => q (by rw [e]))⟩
theorem touch_mono {b : Nat} {al al' : List (List Nat)} (h : ∀ m, b ∈ al.getD m [] → b ∈ al'.getD m []) {dd : List Dd} (e : touch b al dd = .r) : touch b al' dd = .r := by
  obtain ⟨i, d, h1, h2, h3⟩ := touch_r.mp e
  refine touch_r.mpr ⟨i, d, h1, ?_, h3⟩
  cases d with
  | call m => exact h m h2
  | _ => exact h2
theorem come_mono {w : W} {b : Nat} {al al' : List (List Nat)} (h : ∀ m, b ∈ al.getD m [] → b ∈ al'.getD m []) {k : Nat} (c : Come (freeL w b al) (begL w b al) k) : Come (freeL w b al') (begL w b al') k := by
  induction c with
  | base hb =>
    obtain ⟨bk, hk, ht⟩ := begL_mem.mp hb
    exact .base (begL_mem.mpr ⟨bk, hk, touch_mono h ht⟩)
  | @step a c l _ e m ih =>
    obtain ⟨ha, bk, hk, h1, h2⟩ := freeL_mem.mp ⟨l, e, m⟩
    rcases touch_nw (al := al') (touch_n h2) with q | q
    · obtain ⟨l', e', m'⟩ := freeL_mem.mpr ⟨ha, bk, hk, h1, q⟩
      exact .step ih e' m'
    · exact .base (begL_mem.mpr ⟨bk, hk, q⟩)
/-- how far the asking has come -/
structure AskOk (ws : List W) (b : Nat) (ts : List Bool) : Prop where
  len : ts.length = ws.length
  sound : ∀ m, ts.getD m false = true → Awt ws b m 0
  up : leT ts (askStep ws b ts)
theorem mem_awaitL {w : W} {b k : Nat} {al : List (List Nat)} : k ∈ awaitL w b al ↔ Come (freeL w b al) (begL w b al) k := by
  unfold awaitL
  rw [mem_comeL]
  exact ⟨fun h => h.2, fun h => ⟨h.lt freeL_in begL_lt, h⟩⟩
theorem askStep_at {ws : List W} {b m : Nat} {ts : List Bool} : (askStep ws b ts).getD m false = true ↔ ∃ w, ws[m]? = some w ∧ Come (freeL w b (askedD b ts)) (begL w b (askedD b ts)) 0 := by
  unfold askStep
  rw [List.getD_eq_getElem?_getD, List.getElem?_map]
  cases h : ws[m]? with
  | none => simp
  | some w => simp [mem_awaitL]
theorem AskOk.start {ws : List W} {b : Nat} : AskOk ws b (ws.map fun _ => false) := by
  refine ⟨List.length_map .., fun m h => ?_, ?_⟩
  · rw [List.getD_eq_getElem?_getD, List.getElem?_map] at h
    cases e : ws[m]? with
    | none => rw [e] at h; cases h
    | some w => rw [e] at h; cases h
  · unfold askStep
    exact leT_map fun a _ h => by cases h
theorem AskOk.step {ws : List W} {b : Nat} {ts : List Bool} (h : AskOk ws b ts) : AskOk ws b (askStep ws b ts) := by
  refine ⟨askStep_len, fun m e => ?_, ?_⟩
  · obtain ⟨w, hw, c⟩ := askStep_at.mp e
    exact await_sound hw (fun m hm => h.sound m (askedD_at.mp hm)) c
  · have up := h.up
    show leT (askStep ws b ts) (askStep ws b (askStep ws b ts))
    conv => lhs; unfold askStep
    conv => rhs; unfold askStep
    refine leT_map fun w _ e => ?_
    rw [decide_eq_true_iff, mem_awaitL] at e ⊢
    exact come_mono (fun m hm => askedD_at.mpr (leT_at up m (askedD_at.mp hm))) e
/-- what is asked in the end -/
theorem AskOk.fin {ws : List W} {b : Nat} {ts : List Bool} (hin : ∀ w ∈ ws, NxIn (nexts w)) (h : AskOk ws b ts) (e : askStep ws b ts = ts) {n k : Nat} {w : W} (hw : ws[n]? = some w) : k ∈ awaitL w b (askedD b ts) ↔ Awt ws b n k := by
  rw [mem_awaitL]
  refine ⟨await_sound hw fun m hm => h.sound m (askedD_at.mp hm), fun q => await_full hin (fun m w hw c => ?_) q hw⟩
  rw [askedD_at, ← e]
  exact askStep_at.mpr ⟨w, hw, c⟩
open Classical in
/-- the truths of what is asked -/
noncomputable def askT (ws : List W) (b : Nat) : List Bool := (List.range ws.length).map fun n => decide (Awt ws b n 0)
theorem AskOk.is {ws : List W} {b : Nat} {ts : List Bool} (hin : ∀ w ∈ ws, NxIn (nexts w)) (h : AskOk ws b ts) (e : askStep ws b ts = ts) : ts = askT ws b := by
  refine List.ext_getElem? fun n => ?_
  unfold askT
  by_cases hn : n < ws.length
  · have hw := List.getElem?_eq_getElem hn
    have h1 := h.fin hin e (k := 0) hw
    have hl : n < ts.length := by rw [h.len]; exact hn
    rw [List.getElem?_map, List.getElem?_range hn, List.getElem?_eq_getElem hl]
    simp only [Option.map_some, Option.some.injEq]
    have h2 : ts.getD n false = ts[n] := by rw [List.getD_eq_getElem?_getD, List.getElem?_eq_getElem hl]; rfl
    have h3 : ts.getD n false = true ↔ Awt ws b n 0 := by
      rw [← h1, mem_awaitL]
      conv => lhs; rw [← e]
      rw [askStep_at]
      exact ⟨fun ⟨w, q, c⟩ => by rw [hw] at q; cases q; exact c, fun c => ⟨_, hw, c⟩⟩
    rw [h2] at h3
    rw [Bool.eq_iff_iff, h3, @decide_eq_true_iff _ (Classical.propDecidable _)]
  · rw [List.getElem?_eq_none (by rw [h.len]; omega), List.getElem?_eq_none (by rw [List.length_map, List.length_range]; omega)]
end Wk
namespace Wk
open DL PySem
def Tch.d (t : Tch) : D := .str t.s
theorem Tch.s_n : ∀ t : Tch, decide (t.s = ("" : Str)) = decide (t = .n)
  | .n => by decide +kernel
  | .r => by decide +kernel
  | .w => by decide +kernel
theorem Tch.s_r : ∀ t : Tch, decide (t.s = ("read" : Str)) = decide (t = .r)
  | .n => by decide +kernel
  | .r => by decide +kernel
  | .w => by decide +kernel
theorem enum_range {α : Type} (g : α → D) (a0 : α) (l : List α) : enumD (l.map g) = (List.range l.length).map fun k => .tup [natD k, g (l.getD k a0)] := by
  refine List.ext_getElem? fun i => ?_
  unfold enumD
  rw [List.getElem?_mapIdx, List.getElem?_map, List.getElem?_map]
  by_cases h : i < l.length
  · rw [List.getElem?_range h, List.getElem?_eq_getElem h]
    simp [List.getD_eq_getElem?_getD, List.getElem?_eq_getElem h, natD]
  · rw [List.getElem?_eq_none (by omega), List.getElem?_eq_none (by rw [List.length_range]; omega)]; rfl
end Wk
namespace DL
open PySem PySem.Spec PyProof.Rows L2 in
theorem sw_cell {elt : Expr} {gs : List Comprehension} {scope : Scope} {pos py : Pos} {y : Str} {l : Nat} {env : Env} (h : (env.scope.names.lookup y == some .local) = false) : swapsWith (.ListComp elt gs scope pos) (some (.Name y py)) l env = pure false := by
  have ky : env.kindOf y = env.scope.names.lookup y := rfl
  unfold swapsWith
  simp only [ky, h, Bool.and_false, Bool.false_and]
theorem ite_sF {p : Prop} [Decidable p] {A B : Prop} (h : decide p = false) (q : B) : if decide p = true then A else B := by rw [h, if_neg Bool.false_ne_true]; exact q
theorem ite_sT {p : Prop} [Decidable p] {A B : Prop} (h : decide p = true) (q : A) : if decide p = true then A else B := by rw [h, if_pos rfl]; exact q
theorem ite_nF {p : Prop} [Decidable p] {A B : Prop} (h : decide p = false) (q : A) : if (!decide p) = true then A else B := by rw [h]; exact q
theorem ite_nT {p : Prop} [Decidable p] {A B : Prop} (h : decide p = true) (q : B) : if (!decide p) = true then A else B := by rw [h]; exact q
end DL

/-! Core19: lists of lists of numbers compared and printed; works that may be asked. -/
namespace Wk
open DL PySem
structure FitWs (ws : List W) : Prop where
  len : ws.length ≤ 60
  fit : ∀ w ∈ ws, Fit w
  nx : ∀ w ∈ ws, NxIn (nexts w)
  ok : ∀ w ∈ ws, ∀ k ∈ w, ∀ d ∈ k.1, d.Ok ws.length
  pos : ∀ w ∈ ws, 0 < w.length
theorem WsOk.fitWs {ws : List W} (h : WsOk ws) : FitWs ws :=
  ⟨by have := h.len; omega, fun w hw => (h.ok w hw).fit (by have := h.len; omega), fun w hw => (h.ok w hw).nxIn, fun w hw k hk d hd => (h.ok w hw).dd k hk d hd, fun w hw => (h.ok w hw).pos⟩
def nlP (l : List Nat) : PyData := .list (l.map natP)
theorem eqv_nats : ∀ (l m : List Nat), PyData.eqvAll (l.map natP) (m.map natP) = decide (l = m)
  | [], [] => rfl
  | [], _ :: _ => rfl
  | _ :: _, [] => rfl
  | a :: l, c :: m => by
    simp only [List.map_cons, PyData.eqvAll, eqv_nats l m, natP, PyData.eqv, List.cons.injEq, Bool.decide_and]
    congr 1
    exact decide_eq_decide.mpr Int.ofNat_inj
theorem eqv_nls : ∀ (l m : List (List Nat)), PyData.eqvAll (l.map nlP) (m.map nlP) = decide (l = m)
  | [], [] => rfl
  | [], _ :: _ => rfl
  | _ :: _, [] => rfl
  | a :: l, c :: m => by
    simp only [List.map_cons, PyData.eqvAll, eqv_nls l m, nlP, PyData.eqv, eqv_nats, List.cons.injEq, Bool.decide_and]
theorem py_nl {M : Mem} (l : List Nat) : Py M (nlD l) (nlP l) := py_nats isR_lst
theorem py_nls {M : Mem} {d : D} {l : List (List Nat)} (h : IsR M d (l.map nlD)) : Py M d (.list (l.map nlP)) := by
  have g : ∀ n ∈ l, Py M (nlD n) (nlP n) := fun n _ => py_nl n
  rcases h with (rfl | ⟨a, f, rfl, h⟩) | rfl
  · exact .lst (Pys.of_map g)
  · exact .ref h (Pys.of_map g)
  · exact .slst (Pys.of_map g)
theorem shw_nls {l : List (List Nat)} (h : ∀ m ∈ l, (∀ n ∈ m, n < 1000) ∧ m.length ≤ 100) (hl : l.length ≤ 200) : Shw 2 910000 (.list (l.map nlP)) := by
  refine Shw.list (dep := 1) (n := 4500) (fun x hx => ?_) (by rw [List.length_map]; omega)
  obtain ⟨m, hm, rfl⟩ := List.mem_map.mp hx
  exact shw_nats (h m hm).1 (h m hm).2
theorem askedD_inj {b : Nat} : ∀ {ts us : List Bool}, askedD b ts = askedD b us ↔ ts = us
  | [], [] => ⟨fun _ => rfl, fun _ => rfl⟩
  | [], _ :: _ => ⟨fun h => (by cases h), fun h => (by cases h)⟩
  | _ :: _, [] => ⟨fun h => (by cases h), fun h => (by cases h)⟩
  | t :: ts, u :: us => by
    have ih := askedD_inj (b := b) (ts := ts) (us := us)
    unfold askedD at ih ⊢
    simp only [List.map_cons, List.cons.injEq]
    rw [ih]
    cases t <;> cases u <;> simp
theorem told_step (ws : List W) (b : Nat) (ts : List Bool) : ws.map (fun w => nlD (if decide (0 ∈ awaitL w b (askedD b ts)) = true then [b] else [])) = (askedD b (askStep ws b ts)).map nlD := by
  show _ = ((ws.map fun w => decide (0 ∈ awaitL w b (askedD b ts))).map fun t => if t = true then [b] else []).map nlD
  rw [List.map_map, List.map_map]; rfl
theorem askedD_bd {b : Nat} {ts : List Bool} (hb : b < 1000) : ∀ m ∈ askedD b ts, (∀ n ∈ m, n < 1000) ∧ m.length ≤ 100 := by
  intro m hm
  unfold askedD at hm
  obtain ⟨t, _, rfl⟩ := List.mem_map.mp hm
  cases t
  · exact ⟨fun n hn => (by cases hn), Nat.zero_le _⟩
  · exact ⟨fun n hn => by
      have : n = b := by simpa using hn
      rw [this]; exact hb, by simp⟩

/-! the search of a law for what is asked -/
open Classical in
noncomputable def awtB (ws : List W) (b n k : Nat) : Bool := decide (Awt ws b n k)
theorem awtB_t {ws : List W} {b n k : Nat} (h : Awt ws b n k) : awtB ws b n k = true := by unfold awtB; exact @decide_eq_true _ (Classical.propDecidable _) h
theorem awtB_f {ws : List W} {b n k : Nat} (h : ¬ Awt ws b n k) : awtB ws b n k = false := by unfold awtB; exact @decide_eq_false _ (Classical.propDecidable _) h
theorem awtB_iff {ws : List W} {b n k : Nat} : awtB ws b n k = true ↔ Awt ws b n k := by unfold awtB; exact @decide_eq_true_iff _ (Classical.propDecidable _)
/-- a place: a work and a block of it -/
def At2 (ws : List W) (p : Nat × Nat) (bk : Bk) : Prop := ∃ w, ws[p.1]? = some w ∧ w[p.2]? = some bk
theorem At2.uniq {ws : List W} {p : Nat × Nat} {k1 k2 : Bk} (h1 : At2 ws p k1) (h2 : At2 ws p k2) : k1 = k2 := by
  obtain ⟨w, a, c⟩ := h1
  obtain ⟨w', a', c'⟩ := h2
  rw [a] at a'; cases a'
  rw [c] at c'; cases c'
  rfl
/-- what a place leads on to has been come to -/
structure Clsd (ws : List W) (b : Nat) (S : Nat × Nat → Prop) (p : Nat × Nat) : Prop where
  rd : ∀ bk, At2 ws p bk → ∀ (i : Nat) (d : Dd), bk.1[i]? = some d → NoWr b (bk.1.take i) → d.rd b = false
  call : ∀ bk, At2 ws p bk → ∀ (i m : Nat), bk.1[i]? = some (.call m) → NoWr b (bk.1.take i) → S (m, 0)
  next : ∀ bk, At2 ws p bk → NoWr b bk.1 → ∀ t ∈ bk.2.nx, S (p.1, t)
theorem Clsd.mono {ws : List W} {b : Nat} {S S' : Nat × Nat → Prop} {p : Nat × Nat} (h : Clsd ws b S p) (e : ∀ q, S q → S' q) : Clsd ws b S' p :=
  ⟨h.rd, fun bk a i m h1 h2 => e _ (h.call bk a i m h1 h2), fun bk a h1 t ht => e _ (h.next bk a h1 t ht)⟩
theorem not_awt {ws : List W} {b : Nat} {S : Nat × Nat → Prop} (h : ∀ p, S p → Clsd ws b S p) {n k : Nat} (q : Awt ws b n k) : ¬ S (n, k) := by
  induction q with
  | read hw hk h1 h2 h3 => exact fun s => by rw [(h _ s).rd _ ⟨_, hw, hk⟩ _ _ h1 h3] at h2; cases h2
  | call hw hk h1 h3 _ ih => exact fun s => ih ((h _ s).call _ ⟨_, hw, hk⟩ _ _ h1 h3)
  | step hw hk h1 h2 _ ih => exact fun s => ih ((h _ s).next _ ⟨_, hw, hk⟩ h1 _ h2)
structure Srch (ws : List W) (b : Nat) (p0 : Nat × Nat) (met wt : List (Nat × Nat)) (ex : Nat × Nat → Prop) : Prop where
  nd : met.Nodup
  val : ∀ p, p ∈ met ∨ p ∈ wt → ∃ bk, At2 ws p bk
  back : ∀ p, p ∈ met ∨ p ∈ wt → Awt ws b p.1 p.2 → Awt ws b p0.1 p0.2
  beg : p0 ∈ met ∨ p0 ∈ wt
  cl : ∀ p ∈ met, ¬ ex p → Clsd ws b (fun q => q ∈ met ∨ q ∈ wt) p
section
variable {ws : List W} {b : Nat} {p0 p : Nat × Nat} {met wt : List (Nat × Nat)} {ex : Nat × Nat → Prop}
theorem Srch.start {bk : Bk} (h : At2 ws p0 bk) : Srch ws b p0 [] [p0] fun _ => False :=
  ⟨.nil, fun p hp => by rcases hp with hp | hp; · cases hp
                        · rw [List.mem_singleton.mp hp]; exact ⟨bk, h⟩,
   fun p hp q => by rcases hp with hp | hp; · cases hp
                    · rw [List.mem_singleton.mp hp] at q; exact q, .inr (by simp), fun p hp => (by cases hp)⟩
theorem Srch.skip (h : Srch ws b p0 met (wt ++ [p]) fun _ => False) (hp : p ∈ met) : Srch ws b p0 met wt fun _ => False := by
  have e : ∀ q, q ∈ met ∨ q ∈ wt ++ [p] → q ∈ met ∨ q ∈ wt := fun q hq => by
    rcases hq with hq | hq
    · exact .inl hq
    · rcases List.mem_append.mp hq with hq | hq
      · exact .inr hq
      · rw [List.mem_singleton.mp hq]; exact .inl hp
  have f : ∀ q, q ∈ met ∨ q ∈ wt → q ∈ met ∨ q ∈ wt ++ [p] := fun q hq => hq.imp id fun x => by simp [x]
  exact ⟨h.nd, fun q hq => h.val q (f q hq), fun q hq => h.back q (f q hq), e _ h.beg, fun q hq hn => (h.cl q hq hn).mono e⟩
theorem Srch.meet (h : Srch ws b p0 met (wt ++ [p]) fun _ => False) (hp : p ∉ met) : Srch ws b p0 (met ++ [p]) wt fun q => q = p := by
  have e : ∀ q, q ∈ met ∨ q ∈ wt ++ [p] ↔ q ∈ met ++ [p] ∨ q ∈ wt := fun q => by simp only [List.mem_append, List.mem_singleton]; exact ⟨fun h => by rcases h with h | h | h <;> simp [h], fun h => by rcases h with (h | h) | h <;> simp [h]⟩
  refine ⟨?_, fun q hq => h.val q ((e q).mpr hq), fun q hq => h.back q ((e q).mpr hq), (e _).mp h.beg, fun q hq hn => ?_⟩
  · rw [List.nodup_append]
    exact ⟨h.nd, by simp, fun x hx y hy => by rw [List.mem_singleton.mp hy]; exact fun q => hp (q ▸ hx)⟩
  · rcases List.mem_append.mp hq with hq | hq
    · exact (h.cl q hq fun z => z).mono fun q hq => (e q).mp hq
    · exact absurd (List.mem_singleton.mp hq) hn
theorem Srch.push {q : Nat × Nat} (h : Srch ws b p0 met wt ex) (hv : ∃ bk, At2 ws q bk) (hb : Awt ws b q.1 q.2 → Awt ws b p0.1 p0.2) : Srch ws b p0 met (wt ++ [q]) ex := by
  have f : ∀ r, r ∈ met ∨ r ∈ wt → r ∈ met ∨ r ∈ wt ++ [q] := fun r hr => hr.imp id fun x => by simp [x]
  have g : ∀ r, r ∈ met ∨ r ∈ wt ++ [q] → (r ∈ met ∨ r ∈ wt) ∨ r = q := fun r hr => by
    rcases hr with hr | hr
    · exact .inl (.inl hr)
    · rcases List.mem_append.mp hr with hr | hr
      · exact .inl (.inr hr)
      · exact .inr (List.mem_singleton.mp hr)
  exact ⟨h.nd, fun r hr => by rcases g r hr with z | rfl; · exact h.val r z
                              · exact hv, fun r hr => by rcases g r hr with z | rfl; · exact h.back r z
                                                         · exact hb, f _ h.beg, fun r hr hn => (h.cl r hr hn).mono f⟩
theorem Srch.done (h : Srch ws b p0 met wt fun q => q = p) (hc : Clsd ws b (fun q => q ∈ met ∨ q ∈ wt) p) : Srch ws b p0 met wt fun _ => False :=
  ⟨h.nd, h.val, h.back, h.beg, fun q hq _ => by
    by_cases e : q = p
    · rw [e]; exact hc
    · exact h.cl q hq e⟩
theorem Srch.fin (h : Srch ws b p0 met [] fun _ => False) : ¬ Awt ws b p0.1 p0.2 := by
  have hb : p0 ∈ met := by rcases h.beg with q | q; · exact q
                           · cases q
  exact fun q => not_awt (S := fun q => q ∈ met) (fun p hp => (h.cl p hp fun z => z).mono fun q hq => by rcases hq with q | q; · exact q
                                                                                                         · cases q) q hb
theorem Srch.len (hf : FitWs ws) (h : Srch ws b p0 met wt ex) : met.length ≤ 960 := by
  have key : (met.map fun p => p.1 * 16 + p.2).length ≤ 960 := by
    have lt : ∀ p ∈ met, p.1 < 60 ∧ p.2 < 16 := fun p hp => by
      obtain ⟨bk, w, h1, h2⟩ := h.val p (.inl hp)
      have := (List.getElem?_eq_some_iff.mp h1).1
      have := (List.getElem?_eq_some_iff.mp h2).1
      have := (hf.fit w (List.mem_of_getElem? h1)).len
      have := hf.len
      omega
    refine nodup_len ?_ fun x hx => ?_
    · have nd := h.nd
      clear h
      induction met with
      | nil => exact .nil
      | cons a l ih =>
        rw [List.nodup_cons] at nd
        rw [List.map_cons, List.nodup_cons]
        refine ⟨fun hm => ?_, ih (fun p hp => lt p (List.mem_cons_of_mem _ hp)) nd.2⟩
        obtain ⟨c, hc, e⟩ := List.mem_map.mp hm
        have l1 := lt a List.mem_cons_self
        have l2 := lt c (List.mem_cons_of_mem _ hc)
        have : a = c := by
          have e' : c.1 * 16 + c.2 = a.1 * 16 + a.2 := e
          exact Prod.ext (by omega) (by omega)
        exact nd.1 (this ▸ hc)
    · obtain ⟨p, hp, rfl⟩ := List.mem_map.mp hx
      have := lt p hp
      show p.1 * 16 + p.2 < 960
      omega
  rwa [List.length_map] at key
end
abbrev key2 (p : Nat × Nat) : List L2.Key := [.inl (p.1 : Int), .inl (p.2 : Int)]
theorem valA_in2 {kvs : List (List L2.Key × D)} {met : List (Nat × Nat)} (h : kvs.map (·.1) = met.map key2) (p : Nat × Nat) : (valA kvs (key2 p)).isSome = decide (p ∈ met) := by
  rw [Bool.eq_iff_iff, decide_eq_true_iff, valA_mem_keys, h, List.mem_map]
  constructor
  · rintro ⟨q, hq, e⟩
    have : q = p := by
      simp only [key2, List.cons.injEq, Sum.inl.injEq, and_true] at e
      exact Prod.ext (by omega) (by omega)
    rw [← this]; exact hq
  · exact fun hp => ⟨p, hp, rfl⟩
abbrev plD (p : Nat × Nat) : D := .tup [natD p.1, natD p.2]
end Wk
namespace DL
open PySem PySem.Spec PyProof.Rows L2 Wk
section
variable {X : Cx} {Γ : VEnv} {M : Mem} {QB : Bool → Mem → Prop} {x : Str} {pos p : Pos} {es : List Expr}
theorem gTr {k : Bool} {R : Bool → Prop} (q : R k) : ∃ k', TrD M (.bl k) k' ∧ R k' := ⟨k, rfl, q⟩
theorem kTN (h : WT X Γ M (.Name x pos) QB) : WT X Γ M (.Name x pos) QB := h
theorem kTL (h : WT X Γ M (.Call (.Name x p) es [] pos) QB) : WT X Γ M (.Call (.Name x p) es [] pos) QB := h
end
theorem GetD.dt2 {M : Mem} {a : Addr} {f : Cell → Mem} {kvs : List (List Key × D)} {p : Nat × Nat} (h : At a M (.dT kvs) f) : GetD M (.ref a) (plD p) (valA kvs (key2 p)) := ⟨a, f, rfl, .inr ⟨kvs, key2 p, h, rfl, rfl⟩⟩
theorem dd_call : ∀ {d : Dd}, d.word = "call" → ∃ m, d = .call m
  | .call m, _ => ⟨m, rfl⟩
  | .set _ _, h => absurd h (show ¬ (("set" : Str) = "call") by decide +kernel)
  | .add _ _, h => absurd h (show ¬ (("add" : Str) = "call") by decide +kernel)
  | .tell _, h => absurd h (show ¬ (("tell" : Str) = "call") by decide +kernel)
  | .save _, h => absurd h (show ¬ (("save" : Str) = "call") by decide +kernel)
  | .back _, h => absurd h (show ¬ (("back" : Str) = "call") by decide +kernel)
end DL

/-! Core20: sum, any, all; what is written, come to behind, busy. -/
namespace DL
open PySem PySem.Spec PyProof.Rows L2
section
variable {X : Cx} {M : Mem} {Q : D → Mem → Prop} {Ln Vn Bn Fn : List Str} {d : D}
theorem cd_sum {ns : List Int} (st : Stat X Ln Vn Bn Fn) (h : IsR M d (ns.map D.int)) (q : Q (.int ns.sum) M) : CD X (.builtin "sum") [d] M Q := cd_of (cr_sum st.calm) fun S H xs rx m => by
  obtain ⟨v, rfl, rv⟩ := reps_one rx
  obtain ⟨a, us, rfl, h1, r1⟩ := h.get m rv
  rw [r1.ints_inv] at h1
  exact ⟨a, ns, rfl, h1, .of m (.int _) q⟩
theorem cd_any {bs : List Bool} (st : Stat X Ln Vn Bn Fn) (h : IsR M d (bs.map D.bl)) (q : Q (.bl (bs.any id)) M) : CD X (.builtin "any") [d] M Q := cd_of (cr_any st.calm) fun S H xs rx m => by
  obtain ⟨v, rfl, rv⟩ := reps_one rx
  obtain ⟨a, us, rfl, h1, r1⟩ := h.get m rv
  rw [r1.bls_inv] at h1
  exact ⟨a, bs, rfl, h1, .of m (.bl _) q⟩
theorem cd_all {bs : List Bool} (st : Stat X Ln Vn Bn Fn) (h : IsR M d (bs.map D.bl)) (q : Q (.bl (bs.all id)) M) : CD X (.builtin "all") [d] M Q := cd_of (cr_all st.calm) fun S H xs rx m => by
  obtain ⟨v, rfl, rv⟩ := reps_one rx
  obtain ⟨a, us, rfl, h1, r1⟩ := h.get m rv
  rw [r1.bls_inv] at h1
  exact ⟨a, bs, rfl, h1, .of m (.bl _) q⟩
end
end DL
namespace Wk
open DL PySem
section
variable {ws : List W} {w : W} {b n k : Nat}
theorem askT_at {m : Nat} : b ∈ (askedD b (askT ws b)).getD m [] ↔ m < ws.length ∧ Awt ws b m 0 := by
  rw [askedD_at]
  unfold askT
  rw [List.getD_eq_getElem?_getD, List.getElem?_map]
  by_cases h : m < ws.length
  · rw [List.getElem?_range h]
    simp only [Option.map_some, Option.getD_some]
    rw [@decide_eq_true_iff _ (Classical.propDecidable _)]
    exact ⟨fun q => ⟨h, q⟩, fun q => q.2⟩
  · rw [List.getElem?_eq_none (by rw [List.length_range]; omega)]
    exact ⟨fun q => (by cases q), fun q => absurd q.1 h⟩
theorem askT_len : (askT ws b).length = ws.length := by unfold askT; rw [List.length_map, List.length_range]
theorem await_is (hin : ∀ w ∈ ws, NxIn (nexts w)) (hw : ws[n]? = some w) : k ∈ awaitL w b (askedD b (askT ws b)) ↔ Awt ws b n k := by
  have s : ∀ m, b ∈ (askedD b (askT ws b)).getD m [] → Awt ws b m 0 := fun m h => (askT_at.mp h).2
  rw [mem_awaitL]
  exact ⟨await_sound hw s, fun q => await_full hin (fun m w' hw' c => askT_at.mpr ⟨(List.getElem?_eq_some_iff.mp hw').1, await_sound hw' s c⟩) q hw⟩
/-- the blocks from whose begin a read is come to -/
noncomputable def awtL (ws : List W) (n b m : Nat) : List Nat := (List.range m).filter fun k => awtB ws b n k
theorem awtL_up {m : Nat} : (awtL ws n b m).Pairwise (· < ·) := List.pairwise_lt_range.filter _
theorem awaitL_up {al : List (List Nat)} : (awaitL w b al).Pairwise (· < ·) := comeL_up
theorem awtL_is (hin : ∀ w ∈ ws, NxIn (nexts w)) (hw : ws[n]? = some w) : awaitL w b (askedD b (askT ws b)) = awtL ws n b w.length := by
  refine up_eq awaitL_up awtL_up fun k => ?_
  unfold awtL
  rw [await_is hin hw, List.mem_filter, List.mem_range, awtB_iff]
  refine ⟨fun q => ⟨?_, q⟩, fun q => q.2⟩
  have := (await_is hin hw (b := b)).mpr q
  unfold awaitL at this
  have := (mem_comeL.mp this).1
  rwa [freeL_len] at this
theorem mem_awtL {m : Nat} : k ∈ awtL ws n b m ↔ k < m ∧ Awt ws b n k := by
  unfold awtL
  rw [List.mem_filter, List.mem_range, awtB_iff]
/-- whether a block writes a box -/
def wrK (b : Nat) (bk : Bk) : Bool := bk.1.any (Dd.wrB b)
def bk0 : Bk := ([], .out)
def writesL (w : W) (b : Nat) : List Nat := (List.range w.length).filter fun k => wrK b (w.getD k bk0)
theorem writesL_lt {w : W} {b k : Nat} (h : k ∈ writesL w b) : k < w.length := List.mem_range.mp (List.mem_filter.mp h).1
theorem writesL_up (w : W) (b : Nat) : (writesL w b).Pairwise (· < ·) := List.pairwise_lt_range.filter _
theorem writesL_len (w : W) (b : Nat) : (writesL w b).length ≤ w.length := by
  have := List.length_filter_le (fun k => wrK b (w.getD k bk0)) (List.range w.length)
  rw [List.length_range] at this
  exact this
theorem wrK_mem {b : Nat} {bk : Bk} : decide (b ∈ (bk.1.filter Dd.wr).map Dd.wb) = wrK b bk := by
  unfold wrK
  rw [Bool.eq_iff_iff, decide_eq_true_iff, List.mem_map, List.any_eq_true]
  constructor
  · rintro ⟨d, hd, rfl⟩
    obtain ⟨h1, h2⟩ := List.mem_filter.mp hd
    exact ⟨d, h1, by unfold Dd.wrB; rw [h2]; simp⟩
  · rintro ⟨d, hd, h⟩
    unfold Dd.wrB at h
    rw [Bool.and_eq_true, decide_eq_true_iff] at h
    exact ⟨d, List.mem_filter.mpr ⟨hd, h.1⟩, h.2⟩
theorem at_bk {w : W} {k : Nat} (h : k < w.length) : w[k]? = some (w.getD k bk0) := by rw [List.getD_eq_getElem?_getD, List.getElem?_eq_getElem h]; rfl
theorem at_nx {w : W} {k : Nat} (h : k < w.length) : (nexts w)[k]? = some ((nexts w).getD k []) := by
  have h' : k < (nexts w).length := by rw [nexts_len]; exact h
  rw [List.getD_eq_getElem?_getD, List.getElem?_eq_getElem h']; rfl
theorem nx_two {w : W} {k : Nat} : ((nexts w).getD k []).length ≤ 2 := by
  rw [List.getD_eq_getElem?_getD]
  cases e : (nexts w)[k]? with
  | none => exact Nat.zero_le _
  | some l => exact nexts_two w l (List.mem_of_getElem? e)
/-- where the blocks that write a box lead -/
def begs (w : W) (l : List Nat) : List Nat := l.flatMap fun k => (nexts w).getD k []
theorem begs_len (w : W) (l : List Nat) : (begs w l).length ≤ 2 * l.length := by
  unfold begs
  induction l with
  | nil => simp
  | cons k l ih =>
    have := nx_two (w := w) (k := k)
    rw [List.flatMap_cons, List.length_append, List.length_cons]
    omega
theorem begs_lt {w : W} (hn : NxIn (nexts w)) {l : List Nat} : ∀ t ∈ begs w l, t < (nexts w).length := fun t ht => by
  obtain ⟨k, _, h⟩ := List.mem_flatMap.mp ht
  rw [List.getD_eq_getElem?_getD] at h
  cases e : (nexts w)[k]? with
  | none => rw [e] at h; cases h
  | some l => rw [e] at h; exact hn.lt l (List.mem_of_getElem? e) t h
noncomputable def reachL (w : W) (b : Nat) : List Nat := comeL (nexts w) (begs w (writesL w b))
theorem comeL_congr {nx : List (List Nat)} {bs cs : List Nat} (h : ∀ b, b ∈ bs ↔ b ∈ cs) : comeL nx bs = comeL nx cs := by
  have imp : ∀ {bs cs : List Nat}, (∀ b ∈ bs, b ∈ cs) → ∀ k, Come nx bs k → Come nx cs k := fun h k c => c.ind (fun b hb => .base (h b hb)) fun a l b ha e m => .step ha e m
  refine up_eq comeL_up comeL_up fun k => ?_
  rw [mem_comeL, mem_comeL]
  exact ⟨fun q => ⟨q.1, imp (fun b hb => (h b).mp hb) k q.2⟩, fun q => ⟨q.1, imp (fun b hb => (h b).mpr hb) k q.2⟩⟩
/-- the rising list of some numbers below m -/
def sortU (m : Nat) (l : List Nat) : List Nat := (List.range m).filter fun k => decide (k ∈ l)
theorem sortU_up (m : Nat) (l : List Nat) : (sortU m l).Pairwise (· < ·) := List.pairwise_lt_range.filter _
theorem mem_sortU {m k : Nat} {l : List Nat} : k ∈ sortU m l ↔ k < m ∧ k ∈ l := by
  unfold sortU
  rw [List.mem_filter, List.mem_range, decide_eq_true_iff]
theorem sortU_len (m : Nat) (l : List Nat) : (sortU m l).length ≤ m := by
  have := List.length_filter_le (fun k => decide (k ∈ l)) (List.range m)
  rw [List.length_range] at this
  exact this
theorem sortU_nd (m : Nat) (l : List Nat) : (sortU m l).Nodup := List.nodup_range.filter _
theorem sortU_perm {m : Nat} {l ks : List Nat} (nd : ks.Nodup) (h : ∀ k, k ∈ ks ↔ k ∈ l) (hl : ∀ k ∈ l, k < m) : (sortU m l).Perm ks := by
  rw [List.perm_ext_iff_of_nodup (sortU_nd m l) nd]
  intro k
  rw [mem_sortU, h k]
  exact ⟨fun q => q.2, fun q => ⟨hl k q, q⟩⟩
/-! the going behind of a law -/
def closedIn (nx : List (List Nat)) (fd : List Nat) : Prop := ∀ a ∈ fd, ∀ l, nx[a]? = some l → ∀ t ∈ l, t ∈ fd
/-- a block's ways on that are not found yet -/
def addN (nx : List (List Nat)) (fd : List Nat) (k : Nat) : List Nat := (nx.getD k []).filter fun t => !decide (t ∈ fd)
def cnt (m : Nat) (fd : List Nat) : Nat := (sortU m fd).length
structure Bh (nx : List (List Nat)) (bs : List Nat) (fd : List Nat) : Prop where
  come : ∀ k ∈ fd, Come nx bs k
  beg : ∀ k ∈ bs, k ∈ fd
  len : fd.length ≤ bs.length + cnt nx.length fd
theorem cnt_le (m : Nat) (fd : List Nat) : cnt m fd ≤ m := sortU_len m fd
theorem cnt_app {m : Nat} {fd l : List Nat} (nd : l.Nodup) (hl : ∀ t ∈ l, t < m ∧ t ∉ fd) : cnt m fd + l.length ≤ cnt m (fd ++ l) := by
  unfold cnt
  rw [← List.length_append]
  refine nodup_leN ?_ fun y hy => ?_
  · rw [List.nodup_append]
    exact ⟨sortU_nd m fd, nd, fun a ha c hc e => (hl c hc).2 (e ▸ (mem_sortU.mp ha).2)⟩
  · rw [mem_sortU]
    rcases List.mem_append.mp hy with hy | hy
    · exact ⟨(mem_sortU.mp hy).1, List.mem_append_left _ (mem_sortU.mp hy).2⟩
    · exact ⟨(hl y hy).1, List.mem_append_right _ hy⟩
theorem addN_mem {nx : List (List Nat)} {fd : List Nat} {k t : Nat} (h : t ∈ addN nx fd k) : ∃ l, nx[k]? = some l ∧ t ∈ l ∧ t ∉ fd := by
  obtain ⟨h1, h2⟩ := List.mem_filter.mp h
  rw [List.getD_eq_getElem?_getD] at h1
  cases e : nx[k]? with
  | none => rw [e] at h1; cases h1
  | some l => rw [e] at h1; exact ⟨l, rfl, h1, by simpa using h2⟩
theorem Bh.add {nx : List (List Nat)} {bs fd : List Nat} {k : Nat} (hn : NxIn nx) (hu : ∀ l ∈ nx, l.Nodup) (h : Bh nx bs fd) (hk : k ∈ fd) : Bh nx bs (fd ++ addN nx fd k) := by
  have nd : (addN nx fd k).Nodup := by
    unfold addN
    refine List.Pairwise.filter _ ?_
    rw [List.getD_eq_getElem?_getD]
    cases e : nx[k]? with
    | none => exact .nil
    | some l => exact hu l (List.mem_of_getElem? e)
  refine ⟨fun t ht => ?_, fun t ht => List.mem_append_left _ (h.beg t ht), ?_⟩
  · rcases List.mem_append.mp ht with ht | ht
    · exact h.come t ht
    · obtain ⟨l, e, m, _⟩ := addN_mem ht
      exact .step (h.come k hk) e m
  · have := cnt_app (m := nx.length) (fd := fd) nd fun t ht => by
      obtain ⟨l, e, m, hn'⟩ := addN_mem ht
      exact ⟨hn.lt l (List.mem_of_getElem? e) t m, hn'⟩
    have := h.len
    rw [List.length_append]
    omega
/-- within one turn: the first j of the blocks that were there are gone from -/
structure Bt (nx : List (List Nat)) (f0 : List Nat) (j : Nat) (fd : List Nat) : Prop where
  sub : ∀ k ∈ f0, k ∈ fd
  cl : ∀ k ∈ f0.take j, ∀ l, nx[k]? = some l → ∀ t ∈ l, t ∈ fd
  same : closedIn nx f0 → fd = f0
theorem Bt.add {nx : List (List Nat)} {f0 fd : List Nat} {j k : Nat} (h : Bt nx f0 j fd) (hk : f0[j]? = some k) : Bt nx f0 (j + 1) (fd ++ addN nx fd k) := by
  refine ⟨fun t ht => List.mem_append_left _ (h.sub t ht), fun a ha l e t ht => ?_, fun hc => ?_⟩
  · rw [List.take_add_one, hk] at ha
    rcases List.mem_append.mp ha with ha | ha
    · exact List.mem_append_left _ (h.cl a ha l e t ht)
    · have : a = k := by simpa [eq_comm] using ha
      subst this
      by_cases q : t ∈ fd
      · exact List.mem_append_left _ q
      · refine List.mem_append_right _ (List.mem_filter.mpr ⟨?_, by simpa using q⟩)
        rw [List.getD_eq_getElem?_getD, e]; exact ht
  · have hs := h.same hc
    have : addN nx fd k = [] := by
      refine List.eq_nil_iff_forall_not_mem.mpr fun t ht => ?_
      obtain ⟨l, e, m, hn⟩ := addN_mem ht
      exact hn (by rw [hs]; exact hc k (List.mem_of_getElem? hk) l e t m)
    rw [this, List.append_nil, hs]
theorem Bt.step {nx : List (List Nat)} {f0 fd : List Nat} {i : Nat} (hn : NxIn nx) (h : Bt nx f0 f0.length fd) (hi : closedIn nx f0 ∨ i ≤ cnt nx.length f0) : closedIn nx fd ∨ i + 1 ≤ cnt nx.length fd := by
  by_cases hc : closedIn nx f0
  · rw [h.same hc]; exact .inl hc
  · right
    have hi : i ≤ cnt nx.length f0 := hi.resolve_left hc
    have : ∃ a ∈ f0, ∃ l, nx[a]? = some l ∧ ∃ t ∈ l, t ∉ f0 := by
      refine Classical.byContradiction fun q => hc fun a ha l e t ht => Classical.byContradiction fun z => q ⟨a, ha, l, e, t, ht, z⟩
    obtain ⟨a, ha, l, e, t, ht, hnt⟩ := this
    have hcl := h.cl a (by rw [List.take_length]; exact ha) l e t ht
    have : cnt nx.length f0 < cnt nx.length fd := filter_lt (m := nx.length) (fun k hk => h.sub k hk) (hn.lt l (List.mem_of_getElem? e) t ht) hnt hcl
    omega
theorem Bh.fin {nx : List (List Nat)} {bs fd : List Nat} (hn : NxIn nx) (hb : ∀ k ∈ bs, k < nx.length) (h : Bh nx bs fd) (hi : closedIn nx fd ∨ nx.length ≤ cnt nx.length fd) : ∀ k, k ∈ comeL nx bs ↔ k ∈ fd := by
  have cl : closedIn nx fd := by
    rcases hi with q | q
    · exact q
    · intro a ha l e t ht
      have hlt := hn.lt l (List.mem_of_getElem? e) t ht
      refine Classical.byContradiction fun z => ?_
      have h1 : ((List.range nx.length).filter fun k => decide (k ∈ fd)).length < ((List.range nx.length).filter fun k => decide (k ∈ List.range nx.length)).length :=
        filter_lt' (fun k hk => hk) hlt z
      have h2 := List.length_filter_le (fun k => decide (k ∈ List.range nx.length)) (List.range nx.length)
      rw [List.length_range] at h2
      unfold cnt sortU at q
      omega
  intro k
  rw [mem_comeL]
  exact ⟨fun q => q.2.ind h.beg fun a l t ha e m => cl a ha l e t m, fun q => ⟨(h.come k q).lt hn hb, h.come k q⟩⟩
where
  filter_lt' {m : Nat} {s : List Nat} {x : Nat} (_ : ∀ k ∈ s, k ∈ s) (hx : x < m) (h1 : x ∉ s) : ((List.range m).filter fun b => decide (b ∈ s)).length < ((List.range m).filter fun b => decide (b ∈ List.range m)).length := by
    have nd : (x :: ((List.range m).filter fun b => decide (b ∈ s))).Nodup := by
      rw [List.nodup_cons]
      exact ⟨fun q => h1 (of_decide_eq_true (List.mem_filter.mp q).2), List.nodup_range.filter _⟩
    have := nodup_leN (m := (List.range m).filter fun b => decide (b ∈ List.range m)) nd fun b hb => by
      rcases List.mem_cons.mp hb with rfl | hb
      · exact List.mem_filter.mpr ⟨List.mem_range.mpr hx, decide_eq_true (List.mem_range.mpr hx)⟩
      · obtain ⟨q1, q2⟩ := List.mem_filter.mp hb
        exact List.mem_filter.mpr ⟨q1, decide_eq_true q1⟩
    rw [List.length_cons] at this
    exact this
theorem Ok.nodup {nw : Nat} {w : W} (h : Ok nw w) : ∀ l ∈ nexts w, l.Nodup := fun l hl => by
  obtain ⟨bk, hb, rfl⟩ := List.mem_map.mp hl
  have := h.nd bk hb
  cases e : bk.2 with
  | out => exact .nil
  | go t => simp [Nd.nx]
  | fork t o =>
    rw [e] at this
    simp only [Nd.nx, List.nodup_cons, List.mem_singleton, List.not_mem_nil, not_false_eq_true, List.nodup_nil, and_self, and_true]
    exact this.2.2.2.2
/-- the blocks in which a box is busy -/
noncomputable def busyL (ws : List W) (n b : Nat) (w : W) : List Nat := sortU w.length (writesL w b ++ (reachL w b).filter fun k => awtB ws b n k)
end
end Wk

/-! Core21: repr of data that holds dicts. -/
namespace DL
open PySem PySem.Spec PyProof.Rows L2
def keyP : Key → PyData
  | .inl i => .int i
  | .inr x => .str x
mutual
inductive Dr (H : Hp) : V → PyData → Prop
  | non : Dr H .non .none
  | bl (b : Bool) : Dr H (.bl b) (.bool b)
  | int (i : Int) : Dr H (.int i) (.int i)
  | str (x : Str) : Dr H (.str x) (.str x)
  | lst {a : Addr} {xs : List V} {ds : List PyData} : H a = some (.lst xs) → DrAll H xs ds → Dr H (.ref a) (.list ds)
  | tup {a : Addr} {xs : List V} {ds : List PyData} : H a = some (.tup xs) → DrAll H xs ds → Dr H (.ref a) (.tuple ds)
  | dK {a : Addr} {kvs : List (Key × V)} {qs : List (Key × PyData)} : H a = some (.dK kvs) → kvs.map (·.1) = qs.map (·.1) → DrAll H (kvs.map (·.2)) (qs.map (·.2)) → Dr H (.ref a) (.dict (qs.map fun q => (keyP q.1, q.2)))
inductive DrAll (H : Hp) : List V → List PyData → Prop
  | nil : DrAll H [] []
  | cons {v : V} {vs : List V} {d : PyData} {ds : List PyData} : Dr H v d → DrAll H vs ds → DrAll H (v :: vs) (d :: ds)
end
section
variable {X : Cx} {pins : List (Addr × Obj)} {σ : L2.St} {H : Hp} {s : Shared}
theorem sys_free (hs : ∃ mm, X.base.Ns sysModules mm) (I : Inv X pins σ H s) : H sysModules = none := by
  obtain ⟨mm, o, es, ep, e, _⟩ := hs
  exact (I.bs sysModules o e).2
theorem ne_sys (hs : ∃ mm, X.base.Ns sysModules mm) (I : Inv X pins σ H s) {a : Addr} {o : HO} (h : H a = some o) : sysModules ≠ a := fun e => by
  have := sys_free hs I
  rw [e, h] at this; cases this
theorem keys_read {w : World} {P : Program} {h : Heap} : ∀ {es : List DictEntry} {vs : List (Key × Value)}, Pairs (mixKind P w) es vs → ReadsAll h (es.map (·.key)) (vs.map fun q => keyP q.1) []
  | _, _, .nil => .nil
  | _, _, .cons (e := e) (kv := kv) h1 _ t => by
    have r : Reads h e.key (keyP kv.1) [] := by
      rcases keyIs_shape h1 with ⟨i, t, e1, e2⟩ | ⟨x, t, e1, e2⟩
      · rw [e1, e2]; exact .int i t
      · rw [e1, e2]; exact .str x t
    have := ReadsAll.cons r (keys_read t)
    exact this
theorem vals_eq {w : World} {P : Program} : ∀ {es : List DictEntry} {vs : List (Key × Value)}, Pairs (mixKind P w) es vs → es.map (·.val) = vs.map (·.2)
  | _, _, .nil => rfl
  | _, _, .cons _ h t => by rw [List.map_cons, List.map_cons, h, vals_eq t]
theorem kv_split : ∀ {kvs : List (Key × V)} {vs : List (Key × Value)}, KV kvs vs → kvs.map (·.1) = vs.map (·.1) ∧ Vals (kvs.map (·.2)) (vs.map (·.2))
  | _, _, .nil => ⟨rfl, .nil⟩
  | _, _, .cons h t => ⟨by rw [List.map_cons, List.map_cons, h.1, (kv_split t).1], .cons h.2 (kv_split t).2⟩
mutual
theorem Dr.reads (hs : ∃ mm, X.base.Ns sysModules mm) (I : Inv X pins σ H s) : ∀ {v : V} {pd : PyData}, Dr H v pd → ∀ {u : Value}, RelV v u → ∃ as, Reads s.heap u pd as ∧ sysModules ∉ as
  | _, _, .non, _, r => by cases r; exact ⟨_, Reads.none, by simp⟩
  | _, _, .bl b, _, r => by cases r; exact ⟨_, Reads.bool b, by simp⟩
  | _, _, .int i, _, r => by obtain ⟨t, rfl⟩ := r; exact ⟨_, Reads.int i t, by simp⟩
  | _, _, .str x, _, r => by obtain ⟨t, rfl⟩ := r; exact ⟨_, Reads.str x t, by simp⟩
  | _, _, .lst (a := a) hx hd, _, r => by
    cases r
    obtain ⟨_, its, n, rv, ho⟩ := I.hok a _ hx
    obtain ⟨as, h1, h2⟩ := DrAll.reads hs I hd rv
    exact ⟨_, Reads.list ho rfl rfl (by simpa using h1), by simp [ne_sys hs I hx, h2]⟩
  | _, _, .tup (a := a) hx hd, _, r => by
    cases r
    obtain ⟨_, its, rv, ho⟩ := I.hok a _ hx
    obtain ⟨o, h3, h4, n, h5⟩ := ho
    obtain ⟨as, h1, h2⟩ := DrAll.reads hs I hd rv
    exact ⟨_, Reads.tuple h3 h4 h5 (by simpa using h1), h2⟩
  | _, _, .dK (a := a) (qs := qs) hx hk hd, _, r => by
    cases r
    obtain ⟨_, _, vs, rel, o, es, ep, h3, h4, h5, _, hp, _⟩ := I.hok a _ hx
    obtain ⟨k1, k2⟩ := kv_split rel
    obtain ⟨as, h1, h2⟩ := DrAll.reads hs I hd k2
    rw [← vals_eq hp] at h1
    have hkeys := keys_read (h := s.heap) hp
    rw [show vs.map (fun q => keyP q.1) = (qs.map fun q => (keyP q.1, q.2)).map (·.1) from by
      rw [List.map_map, show vs.map (fun q => keyP q.1) = (vs.map (·.1)).map keyP from by rw [List.map_map]; rfl, ← k1, hk, List.map_map]; rfl] at hkeys
    rw [show qs.map (·.2) = (qs.map fun q => (keyP q.1, q.2)).map (·.2) from by rw [List.map_map]; rfl] at h1
    exact ⟨_, Reads.dict h3 h4.1 h5 hkeys h1, by simp [ne_sys hs I hx, h2]⟩
theorem DrAll.reads (hs : ∃ mm, X.base.Ns sysModules mm) (I : Inv X pins σ H s) : ∀ {vs : List V} {ds : List PyData}, DrAll H vs ds → ∀ {us : List Value}, Vals vs us → ∃ as, ReadsAll s.heap us ds as ∧ sysModules ∉ as
  | _, _, .nil, _, r => by cases r; exact ⟨_, ReadsAll.nil, by simp⟩
  | _, _, .cons h t, _, r => by
    cases r with
    | cons r1 r2 =>
      obtain ⟨as, q1, n1⟩ := Dr.reads hs I h r1
      obtain ⟨bs, q2, n2⟩ := DrAll.reads hs I t r2
      exact ⟨_, ReadsAll.cons q1 q2, by simp [n1, n2]⟩
end
theorem call_reprX (hs : ∃ mm, X.base.Ns sysModules mm) (gd : X.A.guards = some []) (hu : X.A.units + 80 < cLine) : CallR X (.builtin "repr") (fun xs H R => ∃ v pd, xs = [v] ∧ (∃ a, v = .ref a) ∧ Dr H v pd ∧ pd.showable = true ∧ pd.depth ≤ 64 ∧ pd.shown.length ≤ sizeLine ∧ R (.str pd.shown) H) := by
  intro pins s σ H xs us R I rx h
  obtain ⟨v, pd, rfl, ⟨a, rfl⟩, hd, h1, h3, h4, q⟩ := h
  cases rx with
  | cons ru rt =>
    cases rt
    cases (show _ = Value.ref a from ru)
    obtain ⟨as, rd, hn⟩ := hd.reads hs I (u := .ref a) rfl
    exact repr_of_reads' rd h1 (fun _ => hn) gd (by omega) (fun _ _ e => e) (fun h' u tk k => ⟨.str pd.shown, H, I.kept (t' := tk) k, ⟨u, rfl⟩, q⟩) h4
end
/-! the same by depth -/
mutual
inductive PyX (M : Mem) : D → PyData → Prop
  | non : PyX M .non .none
  | bl (b : Bool) : PyX M (.bl b) (.bool b)
  | int (i : Int) : PyX M (.int i) (.int i)
  | str (x : Str) : PyX M (.str x) (.str x)
  | lst {ds : List D} {ps : List PyData} : PyXs M ds ps → PyX M (.lst ds) (.list ps)
  | tup {ds : List D} {ps : List PyData} : PyXs M ds ps → PyX M (.tup ds) (.tuple ps)
  | ref {a : Addr} {ds : List D} {ps : List PyData} {f : Cell → Mem} : At a M (.lst ds) f → PyXs M ds ps → PyX M (.ref a) (.list ps)
  | dct {a : Addr} {kvs : List (Key × D)} {qs : List (Key × PyData)} {f : Cell → Mem} : At a M (.dK kvs) f → kvs.map (·.1) = qs.map (·.1) → PyXs M (kvs.map (·.2)) (qs.map (·.2)) → PyX M (.ref a) (.dict (qs.map fun q => (keyP q.1, q.2)))
inductive PyXs (M : Mem) : List D → List PyData → Prop
  | nil : PyXs M [] []
  | cons {d : D} {ds : List D} {p : PyData} {ps : List PyData} : PyX M d p → PyXs M ds ps → PyXs M (d :: ds) (p :: ps)
end
mutual
theorem PyX.dr {K : PySem.W.Frag} {S H : Hp} {M : Mem} (m : MO K S M H) : ∀ {d : D} {p : PyData}, PyX M d p → ∀ {v : V}, Rep K S v d → Dr H v p
  | _, _, .non, _, r => by cases r; exact .non
  | _, _, .bl b, _, r => by cases r; exact .bl b
  | _, _, .int i, _, r => by cases r; exact .int i
  | _, _, .str x, _, r => by cases r; exact .str x
  | _, _, .lst h, _, r => by
    obtain ⟨a, xs, rfl, e, rs⟩ := r.lst_inv
    exact .lst (m.sub _ _ e) (PyXs.dr m h rs)
  | _, _, .tup h, _, r => by
    obtain ⟨a, xs, rfl, e, rs⟩ := r.tup_inv
    exact .tup (m.sub _ _ e) (PyXs.dr m h rs)
  | _, _, .ref ha h, _, r => by
    obtain ⟨xs, hx, rs⟩ := m.at_ok ha
    rw [r.ref_inv]
    exact .lst hx (PyXs.dr m h rs)
  | _, _, .dct ha hk h, _, r => by
    obtain ⟨kvs, hx, e, rs⟩ := m.at_ok ha
    rw [r.ref_inv]
    exact .dK hx (e.trans hk) (PyXs.dr m h rs)
theorem PyXs.dr {K : PySem.W.Frag} {S H : Hp} {M : Mem} (m : MO K S M H) : ∀ {ds : List D} {ps : List PyData}, PyXs M ds ps → ∀ {vs : List V}, Reps K S vs ds → DrAll H vs ps
  | _, _, .nil, _, r => by cases r; exact .nil
  | _, _, .cons h t, _, r => by
    cases r with
    | cons r1 r2 => exact .cons (PyX.dr m h r1) (PyXs.dr m t r2)
end
theorem PyXs.of_map {M : Mem} {α : Type} {f : α → D} {g : α → PyData} {l : List α} (h : ∀ a ∈ l, PyX M (f a) (g a)) : PyXs M (l.map f) (l.map g) := by
  induction l with
  | nil => exact .nil
  | cons a l ih => exact .cons (h a List.mem_cons_self) (ih fun b hb => h b (List.mem_cons_of_mem _ hb))
/-- the room of such a text -/
structure ShX (dep n : Nat) (d : PyData) : Prop where
  sh : d.showable = true
  dp : d.depth ≤ dep
  wt : d.weight ≤ n
  lv : d.leavesShort 14 = true
theorem Shw.x {dep n : Nat} {d : PyData} (h : Shw dep n d) : ShX dep n d := ⟨h.sh, h.dp, h.wt, PyData.leavesShort_of_canLay0 14 d h.cl h.sf⟩
theorem ShX.mono {a b n k : Nat} {d : PyData} (h : ShX a n d) (h1 : a ≤ b) (h2 : n ≤ k) : ShX b k d := ⟨h.sh, Nat.le_trans h.dp h1, Nat.le_trans h.wt h2, h.lv⟩
theorem shx_all {dep n : Nat} : ∀ {xs : List PyData}, (∀ x ∈ xs, ShX dep n x) → PyData.showableAll xs = true ∧ PyData.depthAll xs ≤ dep ∧ PyData.weightAll xs ≤ xs.length * (n + 1) ∧ PyData.leavesShortAll 14 xs = true
  | [], _ => ⟨rfl, Nat.zero_le _, Nat.zero_le _, rfl⟩
  | x :: xs, h => by
    obtain ⟨h1, h3, h4, h5⟩ := shx_all fun y hy => h y (List.mem_cons_of_mem _ hy)
    have g := h x List.mem_cons_self
    refine ⟨by simp only [PyData.showableAll, g.sh, h1, Bool.and_self], ?_, ?_, by simp only [PyData.leavesShortAll, g.lv, h5, Bool.and_self]⟩
    · simp only [PyData.depthAll]
      have := g.dp
      omega
    · simp only [PyData.weightAll, List.length_cons]
      have := g.wt
      rw [Nat.add_mul]
      omega
theorem ShX.list {dep n k : Nat} {xs : List PyData} (h : ∀ x ∈ xs, ShX dep n x) (hk : xs.length * (n + 1) ≤ k) : ShX (dep + 1) k (.list xs) := by
  obtain ⟨h1, h3, h4, h5⟩ := shx_all h
  exact ⟨by simp only [PyData.showable]; exact h1, by simp only [PyData.depth]; omega, by simp only [PyData.weight]; omega, by simp only [PyData.leavesShort]; exact h5⟩
theorem shx_kv {dep n : Nat} : ∀ {xs : List (PyData × PyData)}, (∀ x ∈ xs, ShX dep n x.1 ∧ ShX dep n x.2) → PyData.showableKv xs = true ∧ PyData.depthKv xs ≤ dep ∧ PyData.weightKv xs ≤ xs.length * (2 * n + 2) ∧ PyData.leavesShortKv 14 xs = true
  | [], _ => ⟨rfl, Nat.zero_le _, Nat.zero_le _, rfl⟩
  | (a, b) :: xs, h => by
    obtain ⟨h1, h3, h4, h5⟩ := shx_kv fun y hy => h y (List.mem_cons_of_mem _ hy)
    obtain ⟨g1, g2⟩ := h (a, b) List.mem_cons_self
    refine ⟨by simp only [PyData.showableKv, g1.sh, g2.sh, h1, Bool.and_self], ?_, ?_, by simp only [PyData.leavesShortKv, g1.lv, g2.lv, h5, Bool.and_self]⟩
    · simp only [PyData.depthKv]
      have q1 : a.depth ≤ dep := g1.dp
      have q2 : b.depth ≤ dep := g2.dp
      omega
    · simp only [PyData.weightKv, List.length_cons]
      have q1 : a.weight ≤ n := g1.wt
      have q2 : b.weight ≤ n := g2.wt
      have e : (xs.length + 1) * (2 * n + 2) = xs.length * (2 * n + 2) + (2 * n + 2) := by rw [Nat.add_mul, Nat.one_mul]
      rw [e]
      omega
theorem ShX.dict {dep n k : Nat} {xs : List (PyData × PyData)} (h : ∀ x ∈ xs, ShX dep n x.1 ∧ ShX dep n x.2) (hk : xs.length * (2 * n + 2) ≤ k) : ShX (dep + 1) k (.dict xs) := by
  obtain ⟨h1, h3, h4, h5⟩ := shx_kv h
  exact ⟨by simp only [PyData.showable]; exact h1, by simp only [PyData.depth]; omega, by simp only [PyData.weight]; omega, by simp only [PyData.leavesShort]; exact h5⟩
theorem ShX.fits {dep n : Nat} {d : PyData} (h : ShX dep n d) (hn : n ≤ 1000000) : d.shown.length ≤ sizeLine := by
  have h1 := PyData.shown_le 14 (by decide) d h.lv
  have := h.wt
  exact szl (by omega)
theorem cd_reprX {X : Cx} {M : Mem} {Q : D → Mem → Prop} {Ln Vn Bn Fn : List Str} {d : D} {pd : PyData} {dep n : Nat} (st : Stat X Ln Vn Bn Fn) (hr : (∃ ds, d = .lst ds) ∨ (∃ ds, d = .tup ds) ∨ ∃ a, d = .ref a) (hp : PyX M d pd) (h : ShX dep n pd) (hd : dep ≤ 64) (hn : n ≤ 1000000) (hs : ∃ mm, X.base.Ns sysModules mm) (q : Q (.str pd.shown) M) : CD X (.builtin "repr") [d] M Q :=
  cd_of (call_reprX hs st.gd (by have := st.hu; omega)) fun S H xs rx m => by
    obtain ⟨v, rfl, rv⟩ := reps_one rx
    refine ⟨v, pd, rfl, ?_, hp.dr m rv, h.sh, Nat.le_trans h.dp hd, h.fits hn, .of m (.str _) q⟩
    rcases hr with ⟨ds, rfl⟩ | ⟨ds, rfl⟩ | ⟨a, rfl⟩
    · exact let ⟨a, _, e, _⟩ := rv.lst_inv; ⟨a, e⟩
    · exact let ⟨a, _, e, _⟩ := rv.tup_inv; ⟨a, e⟩
    · exact ⟨a, rv.ref_inv⟩
end DL

/-! Core22: owned lists within an owned list; what each work asks. -/
namespace Wk
open DL PySem
open PySem (Addr)
def cellN (c : Addr × List Nat) : Addr × Cell := (c.1, .lst (c.2.map natD))
def cellsN (cs : List (Addr × List Nat)) : Mem := cs.map cellN
def refN (c : Addr × List Nat) : D := .ref c.1
theorem at_cellN : ∀ {cs : List (Addr × List Nat)} {j : Nat} {a : Addr} {l : List Nat} (M : Mem), cs[j]? = some (a, l) → ∃ g : Cell → Mem, At a (cellsN cs ++ M) (.lst (l.map natD)) g ∧ ∀ c, ∀ l', c = .lst (l'.map natD) → g c = cellsN (cs.set j (a, l')) ++ M
  | [], _, _, _, _, h => by simp at h
  | d :: cs, 0, a, l, M, h => by
    simp only [List.getElem?_cons_zero, Option.some.injEq] at h
    subst h
    exact ⟨_, .here, fun c l' e => by subst e; rfl⟩
  | d :: cs, j + 1, a, l, M, h => by
    obtain ⟨g, h1, h2⟩ := at_cellN (cs := cs) (j := j) (a := a) (l := l) M (by simpa using h)
    exact ⟨_, .there h1, fun c l' e => by rw [h2 c l' e]; rfl⟩
theorem py_cells {M : Mem} : ∀ {cs : List (Addr × List Nat)}, (∀ c ∈ cs, ∃ f, At c.1 M (.lst (c.2.map natD)) f) → Pys M (cs.map refN) (cs.map fun c => nlP c.2)
  | [], _ => .nil
  | c :: cs, h => by
    obtain ⟨f, hf⟩ := h c List.mem_cons_self
    exact .cons (py_nats (isR_ref hf)) (py_cells fun d hd => h d (List.mem_cons_of_mem _ hd))
theorem at_of_mem {cs : List (Addr × List Nat)} {c : Addr × List Nat} (M : Mem) (h : c ∈ cs) : ∃ f, At c.1 (cellsN cs ++ M) (.lst (c.2.map natD)) f := by
  obtain ⟨j, hj⟩ := List.mem_iff_getElem?.mp h
  obtain ⟨g, h1, _⟩ := at_cellN (a := c.1) (l := c.2) M hj
  exact ⟨g, h1⟩
/-- the boxes below β that a work asks -/
noncomputable def askU (ws : List W) (n β : Nat) : List Nat := (List.range β).filter fun b => awtB ws b n 0
noncomputable def askL (ws : List W) (n : Nat) : List Nat := askU ws n 8
theorem askU_succ (ws : List W) (n β : Nat) : askU ws n (β + 1) = askU ws n β ++ (if awtB ws β n 0 = true then [β] else []) := by
  unfold askU
  rw [List.range_succ, List.filter_append]
  congr 1
  cases h : awtB ws β n 0 <;> simp [h]
theorem askU_len (ws : List W) (n β : Nat) : (askU ws n β).length ≤ β := by
  have := List.length_filter_le (fun b => awtB ws b n 0) (List.range β)
  rw [List.length_range] at this
  exact this
theorem askT_get {ws : List W} {b n : Nat} (h : n < ws.length) : (askedD b (askT ws b))[n]? = some (if awtB ws b n 0 = true then [b] else []) := by
  unfold askedD askT
  rw [List.getElem?_map, List.getElem?_map, List.getElem?_range h]
  rfl
/-- contents while a box is handed on: the first j have it already -/
noncomputable def askC (ws : List W) (β j : Nat) : List (List Nat) := (List.range ws.length).map fun n => askU ws n (if n < j then β + 1 else β)
theorem askC_full (ws : List W) (β : Nat) : askC ws β ws.length = askC ws (β + 1) 0 := by
  unfold askC
  refine List.map_congr_left fun n hn => ?_
  rw [if_pos (List.mem_range.mp hn), if_neg (by omega)]
theorem askC_get {ws : List W} {β j n : Nat} (h : n < ws.length) : (askC ws β j)[n]? = some (askU ws n (if n < j then β + 1 else β)) := by
  unfold askC
  rw [List.getElem?_map, List.getElem?_range h]; rfl
theorem askC_set {ws : List W} {β j : Nat} (h : j < ws.length) : (askC ws β j).set j (askU ws j (β + 1)) = askC ws β (j + 1) := by
  refine List.ext_getElem? fun n => ?_
  by_cases hn : n < ws.length
  · rw [askC_get hn]
    by_cases e : j = n
    · subst e
      rw [List.getElem?_set_self (by unfold askC; rw [List.length_map, List.length_range]; exact hn), if_pos (by omega)]
    · rw [List.getElem?_set_ne e, askC_get hn]
      congr 2
      by_cases q : n < j
      · rw [if_pos q, if_pos (by omega)]
      · rw [if_neg q, if_neg (by omega)]
  · have l1 : ((askC ws β j).set j (askU ws j (β + 1))).length = ws.length := by rw [List.length_set]; unfold askC; rw [List.length_map, List.length_range]
    have l2 : (askC ws β (j + 1)).length = ws.length := by unfold askC; rw [List.length_map, List.length_range]
    rw [List.getElem?_eq_none (by omega), List.getElem?_eq_none (by omega)]
/-! a chain of works, the last of which tells a box -/
def chainW (many b : Nat) : List W := ((List.range many).map fun k => [([Dd.call (k + 1)], Nd.out)]) ++ [[([Dd.tell b], Nd.out)]]
theorem chainW_len (many b : Nat) : (chainW many b).length = many + 1 := by unfold chainW; simp
theorem chainW_lt {many b k : Nat} (h : k < many) : (chainW many b)[k]? = some [([Dd.call (k + 1)], Nd.out)] := by
  unfold chainW
  rw [List.getElem?_append_left (by simpa using h), List.getElem?_map, List.getElem?_range h]; rfl
theorem chainW_last (many b : Nat) : (chainW many b)[many]? = some [([Dd.tell b], Nd.out)] := by
  unfold chainW
  rw [List.getElem?_append_right (by simp)]
  simp
theorem chain_asks {many b n : Nat} (h : n ≤ many) : Awt (chainW many b) b n 0 := by
  have key : ∀ d n, n + d = many → Awt (chainW many b) b n 0 := fun d => by
    induction d with
    | zero =>
      intro n e
      have : n = many := by omega
      subst this
      exact .read (i := 0) (d := .tell b) (chainW_last _ b) rfl rfl (by simp [Dd.rd]) (by simp [NoWr])
    | succ d ih =>
      intro n e
      exact .call (i := 0) (m := n + 1) (chainW_lt (by omega)) rfl rfl (by simp [NoWr]) (ih (n + 1) (by omega))
  exact key (many - n) n (by omega)
theorem chain_only {many b c n k : Nat} (h : Awt (chainW many b) c n k) : c = b := by
  have mem : ∀ {n : Nat} {w : W}, (chainW many b)[n]? = some w → w = [([Dd.tell b], Nd.out)] ∨ ∃ k, w = [([Dd.call (k + 1)], Nd.out)] := fun {n w} e => by
    have := List.mem_of_getElem? e
    unfold chainW at this
    rcases List.mem_append.mp this with q | q
    · obtain ⟨k, _, rfl⟩ := List.mem_map.mp q
      exact .inr ⟨k, rfl⟩
    · exact .inl (List.mem_singleton.mp q)
  induction h with
  | @read n k i w bk d hw hk h1 h2 h3 =>
    rcases mem hw with rfl | ⟨m, rfl⟩
    · cases k with
      | zero =>
        cases hk
        cases i with
        | zero => cases h1; simpa [Dd.rd] using h2
        | succ i => simp at h1
      | succ k => simp at hk
    · cases k with
      | zero =>
        cases hk
        cases i with
        | zero => cases h1; simp [Dd.rd] at h2
        | succ i => simp at h1
      | succ k => simp at hk
  | call _ _ _ _ _ ih => exact ih
  | step _ _ _ _ _ ih => exact ih
theorem chain_fit {many b : Nat} (hm : many ≤ 24) (hb : b < 8) : FitWs (chainW many b) := by
  have mem : ∀ w ∈ chainW many b, w = [([Dd.tell b], Nd.out)] ∨ ∃ k, k < many ∧ w = [([Dd.call (k + 1)], Nd.out)] := fun w hw => by
    unfold chainW at hw
    rcases List.mem_append.mp hw with q | q
    · obtain ⟨k, hk, rfl⟩ := List.mem_map.mp q
      exact .inr ⟨k, List.mem_range.mp hk, rfl⟩
    · exact .inl (List.mem_singleton.mp q)
  refine ⟨by rw [chainW_len]; omega, fun w hw => ?_, fun w hw => ?_, fun w hw k hk d hd => ?_, fun w hw => ?_⟩
  · rcases mem w hw with rfl | ⟨k, hk, rfl⟩
    · refine ⟨by simp, by simp, by simp [wrote, Dd.wr], by simp [Nd.nx], ?_⟩
      intro b' hb' d hd
      rw [List.mem_singleton.mp hb'] at hd
      rw [List.mem_singleton.mp hd]; exact hb
    · refine ⟨by simp, by simp, by simp [wrote, Dd.wr], by simp [Nd.nx], ?_⟩
      intro b' hb' d hd
      rw [List.mem_singleton.mp hb'] at hd
      rw [List.mem_singleton.mp hd]; show k + 1 < 100; omega
  · rcases mem w hw with rfl | ⟨k, hk, rfl⟩ <;> exact ⟨by simp [nexts, Nd.nx]⟩
  · rw [chainW_len]
    rcases mem w hw with rfl | ⟨m, hm', rfl⟩
    · rw [List.mem_singleton.mp hk] at hd
      rw [List.mem_singleton.mp hd]; exact hb
    · rw [List.mem_singleton.mp hk] at hd
      rw [List.mem_singleton.mp hd]; show m + 1 < many + 1; omega
  · rcases mem w hw with rfl | ⟨k, hk, rfl⟩ <;> simp
theorem chain_askL {many b : Nat} (hb : b < 8) : (List.range (chainW many b).length).map (askL (chainW many b)) = List.replicate (many + 1) [b] := by
  refine List.ext_getElem? fun n => ?_
  rw [chainW_len, List.getElem?_map]
  by_cases h : n < many + 1
  · rw [List.getElem?_range h, List.getElem?_replicate, if_pos h]
    simp only [Option.map_some, Option.some.injEq]
    refine up_eq (List.pairwise_lt_range.filter _) (List.pairwise_singleton _ _) fun c => ?_
    unfold askL askU
    rw [List.mem_filter, List.mem_range, awtB_iff, List.mem_singleton]
    exact ⟨fun q => chain_only q.2, fun q => by subst q; exact ⟨hb, chain_asks (by omega)⟩⟩
  · rw [List.getElem?_eq_none (by rw [List.length_range]; omega), List.getElem?_eq_none (by rw [List.length_replicate]; omega)]; rfl
end Wk

/-! Core23: lists of alike tuples sorted, the result as one list. -/
namespace DL
open PySem PySem.Spec PyProof.Rows L2
inductive All2 {α β : Type} (R : α → β → Prop) : List α → List β → Prop
  | nil : All2 R [] []
  | cons {a : α} {b : β} {as : List α} {bs : List β} : R a b → All2 R as bs → All2 R (a :: as) (b :: bs)
theorem all2_reps {K : PySem.W.Frag} {S : Hp} {β : Type} {e : β → D} : ∀ {xs : List V} {bs : List β}, Reps K S xs (bs.map e) → All2 (fun x b => Rep K S x (e b)) xs bs
  | _, [], .nil => .nil
  | _, b :: bs, .cons h t => .cons h (all2_reps t)
theorem all2_back {K : PySem.W.Frag} {S : Hp} {β : Type} {e : β → D} : ∀ {xs : List V} {bs : List β}, All2 (fun x b => Rep K S x (e b)) xs bs → Reps K S xs (bs.map e)
  | _, _, .nil => .nil
  | _, _, .cons h t => .cons h (all2_back t)
theorem all2_vals {β : Type} {P : V → β → Prop} : ∀ {xs : List V} {us : List Value} {bs : List β}, All2 P xs bs → Vals xs us → PySem.W.EachIs (fun u b => ∃ x, RelV x u ∧ P x b) us bs
  | _, _, _, .nil, r => by cases r; exact .nil
  | _, _, _, .cons h t, r => by
    cases r with
    | cons r1 r2 => exact .cons ⟨_, r1, h⟩ (all2_vals t r2)
theorem vals_all2 {β : Type} {P : V → β → Prop} : ∀ {us : List Value} {bs : List β}, PySem.W.EachIs (fun u b => ∃ x, RelV x u ∧ P x b) us bs → ∃ xs, Vals xs us ∧ All2 P xs bs
  | _, _, .nil => ⟨[], .nil, .nil⟩
  | _, _, .cons h t => by
    obtain ⟨x, r, p⟩ := h
    obtain ⟨xs, rs, ps⟩ := vals_all2 t
    exact ⟨x :: xs, .cons r rs, .cons p ps⟩
section
variable {X : Cx} {β : Type} {enc : β → PyData}
theorem call_sortedD (hs : ∃ mm, X.base.Ns sysModules mm) (hu : X.A.units + 80 < cLine) (hal : ∀ b b', PySem.W.alike (enc b) (enc b') = true) (hk : ∀ b, ∃ x r, enc b = .tuple (x :: r)) (hdp : ∀ b, (enc b).depth ≤ 60) :
    CallR X (.builtin "sorted") (fun vs H R => ∃ (a : Addr) (xs : List V) (bs : List β) (P : V → β → Prop), vs = [V.ref a] ∧ SqL X.K H a xs ∧ All2 P xs bs ∧ (∀ x b, P x b → Dr H x (enc b)) ∧ ∀ ys p, All2 P ys (bs.mergeSort (PySem.W.dataLe false enc)) → H p = none → R (.ref p) (upd H p (.lst ys))) := by
  intro pins s σ H vs us R I r h
  obtain ⟨a, xs, bs, P, rfl, hs', hp, hd, q⟩ := h
  obtain ⟨its, rv, hl, hz⟩ := I.list hs'
  obtain ⟨u, rfl, ru⟩ := vals1 r
  obtain rfl : u = Value.ref a := ru
  have e := all2_vals hp rv
  have er : PySem.W.EachIs (fun u b => ∃ as, Reads s.heap u (enc b) as) its bs := e.mono fun u b ⟨x, rx, px⟩ => by
    obtain ⟨as, h1, _⟩ := (hd x b px).reads hs I rx
    exact ⟨as, h1⟩
  refine PySem.W.sorted_data hl.isList e er (.of hal) (.tuples hk) (by rw [← e.length, ← rv.length]; exact hz) (fun b _ => by have := hdp b; omega) fun out ho hout => ?_
  obtain ⟨ys, ry, py⟩ := vals_all2 hout
  obtain ⟨n, hn⟩ := sortedAll_at s.heap its out.toArray
  have fr : H (s.heap.objs.size + 1) = none := I.hok.fresh (Nat.le_succ _)
  refine ⟨.ref (s.heap.objs.size + 1), upd H _ (.lst ys), I.laid (t' := s.toks) (fun b o e => sortedAll_old e) (Nat.le_succ _) ⟨?_, out, n, ry, hn⟩, rfl, q ys _ py fr⟩
  rw [ry.length, ho, ← e.length, ← rv.length]
  exact hz
variable {M : Mem} {Q : D → Mem → Prop} {Ln Vn Bn Fn : List Str} {d : D} {bs : List β} {e : β → D}
theorem cd_sortedD (st : Stat X Ln Vn Bn Fn) (hs : ∃ mm, X.base.Ns sysModules mm) (hal : ∀ b b', PySem.W.alike (enc b) (enc b') = true) (hk : ∀ b, ∃ x r, enc b = .tuple (x :: r)) (hdp : ∀ b, (enc b).depth ≤ 60)
    (h : IsR M d (bs.map e)) (hd : ∀ b, PyX M (e b) (enc b)) (q : ∀ p, Q (.ref p) ((p, .lst ((bs.mergeSort (PySem.W.dataLe false enc)).map e)) :: M)) : CD X (.builtin "sorted") [d] M Q := by
  refine cd_of (call_sortedD hs (by have := st.hu; omega) hal hk hdp) fun S H xs rx m => ?_
  obtain ⟨v, rfl, rv⟩ := reps_one rx
  obtain ⟨a, us, rfl, h1, ru⟩ := h.get m rv
  exact ⟨a, us, bs, fun x b => Rep X.K S x (e b), rfl, h1, all2_reps ru, fun x b r => (hd b).dr m r, fun ys p h2 hp' => post_own m (all2_back h2) q p hp'⟩
end
end DL
namespace Wk
open DL PySem PyProof.Rows
/-- what is put on a way: the way, whether it's a save, the box -/
structure Put where
  way : Int × Int
  sv : Bool
  box : Nat
deriving DecidableEq
def Put.word (p : Put) : Str := if p.sv then "save" else "back"
def Put.d (p : Put) : D := .tup [pairD p.way, .str p.word, natD p.box]
def Put.pd (p : Put) : PyData := .tuple [pairP p.way, .str p.word, .int p.box]
theorem Put.alike (p q : Put) : PySem.W.alike p.pd q.pd = true := by
  simp [Put.pd, pairP, PySem.W.alike, PySem.W.alikeAll]
theorem Put.tupled (p : Put) : ∃ x r, p.pd = .tuple (x :: r) := ⟨_, _, rfl⟩
theorem Put.dep (p : Put) : p.pd.depth ≤ 60 := by
  simp [Put.pd, pairP, PyData.depth, PyData.depthAll]
theorem Put.py {M : Mem} (p : Put) : PyX M p.d p.pd := .tup (.cons (.tup (.cons (.int _) (.cons (.int _) .nil))) (.cons (.str _) (.cons (.int _) .nil)))
theorem Put.toks_inj {p q : Put} (h : PySem.W.keyToks p.pd = PySem.W.keyToks q.pd) : p = q := by
  obtain ⟨⟨a, b⟩, s, c⟩ := p
  obtain ⟨⟨a', b'⟩, s', c'⟩ := q
  simp [Put.pd, pairP, PySem.W.keyToks, PySem.W.keyToksAll] at h
  obtain ⟨h1, h2, h3, h4⟩ := h
  have h4 : c = c' := Int.ofNat.inj h4
  subst h1 h2 h4
  cases s <;> cases s' <;> first | rfl | (exfalso; simp [Put.word] at h3; exact absurd h3 (by decide))
def pLe : Put → Put → Bool := PySem.W.dataLe false Put.pd
theorem pLe_iff (p q : Put) : pLe p q = !PySem.W.dataLt q.pd p.pd := rfl
theorem pLe_trans (a b c : Put) (h1 : pLe a b = true) (h2 : pLe b c = true) : pLe a c = true := by
  rw [pLe_iff, Bool.not_eq_true'] at h1 h2 ⊢
  cases h : PySem.W.dataLt c.pd a.pd with
  | false => rfl
  | true =>
    rcases lex_negTrans _ (PySem.W.keyToks b.pd) _ h with q | q
    · exact absurd q (by rw [show lexLt itemOrd _ _ = PySem.W.dataLt c.pd b.pd from rfl, h2]; decide)
    · exact absurd q (by rw [show lexLt itemOrd _ _ = PySem.W.dataLt b.pd a.pd from rfl, h1]; decide)
theorem pLe_total (a b : Put) : (pLe a b || pLe b a) = true := by
  rw [pLe_iff, pLe_iff]
  cases h1 : PySem.W.dataLt b.pd a.pd with
  | false => rfl
  | true =>
    cases h2 : PySem.W.dataLt a.pd b.pd with
    | false => rfl
    | true =>
      have := lex_trans _ _ _ h1 h2
      rw [lex_irrefl] at this; cases this
theorem pLe_anti {a b : Put} (h1 : pLe a b = true) (h2 : pLe b a = true) : a = b := by
  rw [pLe_iff, Bool.not_eq_true'] at h1 h2
  exact Put.toks_inj (lex_total _ _ h2 h1)
def sortP (l : List Put) : List Put := l.mergeSort pLe
theorem sortP_perm {l m : List Put} (h : l.Perm m) : sortP l = sortP m := by
  have pm : (sortP l).Perm (sortP m) := (List.mergeSort_perm _ _).trans (h.trans (List.mergeSort_perm _ _).symm)
  exact pm.eq_of_pairwise (fun a b _ _ h1 h2 => pLe_anti h1 h2) (List.pairwise_mergeSort pLe_trans pLe_total _) (List.pairwise_mergeSort pLe_trans pLe_total _)
end Wk

/-! Core24: a dict walked over by its keys. -/
namespace DL
open PySem PySem.Spec PyProof.Rows L2
section
variable {X : Cx} {Γ : VEnv} {M : Mem} {E : DE} {Q : D → Mem → Prop} {QI : List D → (Mem → Prop) → Mem → Prop} {Ln Vn Bn Fn : List Str}
/-- the dict at a is locked in M; f puts another cell there -/
def Lk (a : Addr) (o : Obj) (us : List (Key × V)) (kvs : List (Key × D)) (P : Mem → Prop) (M : Mem) : Prop := ∃ f, At a M (.fzK o us kvs) f ∧ P (f (.dK kvs))
theorem unlock {S H : Hp} {a : Addr} {o : Obj} {us : List (Key × V)} {kvs : List (Key × D)} {f : Cell → Mem} (m : MO X.K S M H) (h : At a M (.fzK o us kvs) f) : H a = some (.frz o (.dK us)) ∧ MO X.K S (f (.dK kvs)) (upd H a (.dK us)) := by
  obtain ⟨hx, pk⟩ := m.at_ok h
  exact ⟨hx, m.write h (c' := .dK kvs) ⟨us, upd_same, pk⟩⟩
theorem ws_lock {a : Addr} {f : Cell → Mem} {kvs : List (Key × D)} {st : Stmt} (h : At a M (.dK kvs) f)
    (hb : ∀ od us, WS X Γ (f (.fzK od us kvs)) st { nx := fun Γ' => Lk a od us kvs (E.nx Γ'), rt := fun d => Lk a od us kvs (E.rt d), bk := fun Γ' => Lk a od us kvs (E.bk Γ'), ct := fun Γ' => Lk a od us kvs (E.ct Γ') }) : WS X Γ M st E := by
  intro S σ H hΓ hM
  obtain ⟨us, hx, pk⟩ := hM.at_ok h
  refine tS_of (ps_lock ps_c) ⟨a, .dK us, hx, trivial, fun od => ?_⟩
  intro pins s I
  refine thn (hb od us S σ _ hΓ (hM.write h (c' := .fzK od us kvs) ⟨upd_same, pk⟩) pins s I) fun fl s' q => SP.imp q ?_ ?_ ?_ ?_
  · rintro σ' H' ⟨Γ', M', S', ⟨f', h', q⟩, s1, e1, m1⟩
    obtain ⟨g1, g2⟩ := unlock m1 h'
    exact ⟨g1, Γ', _, S', q, s1, e1, g2⟩
  · rintro v H' ⟨d, M', S', ⟨f', h', q⟩, s1, m1, r1⟩
    obtain ⟨g1, g2⟩ := unlock m1 h'
    exact ⟨g1, d, _, S', q, s1, g2, r1⟩
  · rintro σ' H' ⟨Γ', M', S', ⟨f', h', q⟩, s1, e1, m1⟩
    obtain ⟨g1, g2⟩ := unlock m1 h'
    exact ⟨g1, Γ', _, S', q, s1, e1, g2⟩
  · rintro σ' H' ⟨Γ', M', S', ⟨f', h', q⟩, s1, e1, m1⟩
    obtain ⟨g1, g2⟩ := unlock m1 h'
    exact ⟨g1, Γ', _, S', q, s1, e1, g2⟩
theorem we_lock {a : Addr} {f : Cell → Mem} {kvs : List (Key × D)} {e : Expr} (h : At a M (.dK kvs) f) (hb : ∀ od us, WE X Γ (f (.fzK od us kvs)) e fun d => Lk a od us kvs (Q d)) : WE X Γ M e Q := by
  intro S σ H hΓ hM
  obtain ⟨us, hx, pk⟩ := hM.at_ok h
  refine tE_of (pe_lock pe_c) ⟨a, .dK us, hx, trivial, fun od => ?_⟩
  refine tE_mono (hb od us S σ _ hΓ (hM.write h (c' := .fzK od us kvs) ⟨upd_same, pk⟩)) ?_
  rintro v H' ⟨d, M', S', ⟨f', h', q⟩, s1, m1, r1⟩
  obtain ⟨g1, g2⟩ := unlock m1 h'
  exact ⟨g1, d, _, S', q, s1, g2, r1⟩
theorem od_eqB {a b : Bool} (st : Stat X Ln Vn Bn Fn) (q : Q (.bl (a == b)) M) : OD X (compareOp .Eq) (.bl a) (.bl b) M Q := by
  refine od_eqP st (.bl a) (.bl b) (by cases a <;> decide) (by cases b <;> decide) ?_
  cases a <;> cases b <;> exact q
theorem od_neB {a b : Bool} (st : Stat X Ln Vn Bn Fn) (q : Q (.bl (!(a == b))) M) : OD X (compareOp .NotEq) (.bl a) (.bl b) M Q := by
  refine od_neP st (.bl a) (.bl b) (by cases a <;> decide) (by cases b <;> decide) ?_
  cases a <;> cases b <;> exact q
variable {tg iter : Expr}
theorem wi_keys (h : WE X Γ M iter fun d M1 => ∃ a o us kvs f, d = .ref a ∧ At a M1 (.fzK o us kvs) f ∧ QI (kvs.map fun kv => kD kv.1) (fun M' => ∃ f', At a M' (.fzK o us kvs) f') M1) : WI X Γ M tg iter QI := by
  intro S σ H hΓ hM
  refine tI_of (pi_keys pe_c) (tE_post (h S σ H hΓ hM) fun d M1 S1 v H1 ⟨a, o, us, kvs, f, hd, hat, q⟩ s1 m1 r1 => ?_)
  subst hd
  obtain ⟨hx, pk⟩ := m1.at_ok hat
  have hl : us.length = kvs.length := pk.length
  refine ⟨a, o, r1.ref_inv, .inl ⟨us, hx, _, _, M1, S1, q, s1, m1, ⟨fun S' M' H' k s' m' hs hk => ?_, fun S' M' H' k s' m' hs hk => ?_, fun S' M' H' k x H'' s' m' hs hk y => ?_⟩⟩⟩
  · obtain ⟨f', h'⟩ := hs
    rw [List.length_map] at hk
    exact ⟨(m'.at_ok h').1, by omega⟩
  · obtain ⟨f', h'⟩ := hs
    rw [List.length_map] at hk
    exact ⟨(m'.at_ok h').1, by omega⟩
  · obtain ⟨rfl, key, v, e1, rfl⟩ := y
    have e2 : (kvs.map (·.1))[k]? = some key := by rw [← pk.1, List.getElem?_map, e1]; rfl
    rw [List.getElem?_map] at e2
    obtain ⟨kv, e3, rfl⟩ := Option.map_eq_some_iff.mp e2
    exact ⟨kD kv.1, S', by rw [List.getElem?_map, e3]; rfl, .refl _, m', rep_of_key _⟩
end

section
variable {P : Program} {w : World} {K : PySem.W.Frag} {mg : Str → Option Value} {base : Heap} {X : Cx} {Γ Γb : VEnv} {M : Mem} {Q : D → Mem → Prop} {x : Str} {pos px : Pos} {elt iter c : Expr} {scope sc : Scope} {own : List (Str × Nat)} {N Ln Bn Fn Bx Vb Bb Fb : List Str} {k : Nat}
theorem turnP_of {Γ2 : VEnv} {I : Nat → List D → Mem → Prop} {n : Nat} {acc : List D} {M' : Mem} (b : Blk X scope own Vb Bb Fb)
    (h : ∀ X1, Inn X X1 scope (own.map (·.1)) Vb Bb Fb → ∀ L, WT X1 Γ2 ((L, .lst acc) :: M') c fun k M3 => ∃ M5, M3 = (L, .lst acc) :: M5 ∧ if k = true then acc.length < sizeLine ∧ (∀ X2, Inn X X2 scope (own.map (·.1)) Vb Bb Fb → WE X2 Γ2 ((L, .lst acc) :: M5) elt fun d M4 => M4 = (L, .lst acc) :: M5 ∧ I (n + 1) (acc ++ [d]) M5) else I (n + 1) acc M5) : Turn1 X scope Γ2 [c] elt I n acc M' := by
  intro L s H C cl fp
  show WT _ Γ2 _ c _
  intro S σ H' a1 a2
  refine tT_mono (h _ (b.inn s H C cl fp) L S σ H' a1 a2) ?_
  rintro k H2 ⟨M3, S3, ⟨M5, rfl, q⟩, s3, m3⟩
  refine ⟨_, S3, ?_, s3, m3⟩
  cases k with
  | true =>
    rw [if_pos rfl] at q ⊢
    intro s2 H2 C2 cl2 fp2
    exact (q.2 _ (b.inn s2 H2 C2 cl2 fp2)).imp fun d M4 ⟨e, z⟩ => ⟨q.1, M5, e, z⟩
  | false =>
    rw [if_neg Bool.false_ne_true] at q ⊢
    exact ⟨M5, rfl, q⟩
abbrev StPick (X : Cx) (scope : Scope) (ow Vb Bb Fb : List Str) (Γb : VEnv) (x : Str) (c elt : Expr) (I : Nat → List D → Mem → Prop) (i : Nat) (d : D) (acc : List D) (M' : Mem) : Prop :=
  ∃ Γ2, SetAt Γb x d Γ2 ∧ ∀ X1, Inn X X1 scope ow Vb Bb Fb → ∀ L, WT X1 Γ2 ((L, .lst acc) :: M') c fun k M3 => ∃ M5, M3 = (L, .lst acc) :: M5 ∧ if k = true then acc.length < sizeLine ∧ (∀ X2, Inn X X2 scope ow Vb Bb Fb → WE X2 Γ2 ((L, .lst acc) :: M5) elt fun d M4 => M4 = (L, .lst acc) :: M5 ∧ I (i + 1) (acc ++ [d]) M5) else I (i + 1) acc M5
/-- [elt for x in iter if c], what c draws by the way -/
theorem we_stP {i : Nat} (own : List (Str × Nat)) (Vb Bb Fb : List Str) (bod : Bod P w K mg base k sc N Ln Bn Fn Bx X) (hc : (blkC N sc scope own && blkChk sc scope (own.map (·.1)) Vb Bb Fb Bx) = true) (hxi : (x, i) ∈ own) (hwp : Wiped Γ own Γb)
    (h : WI X Γ M (.Name x px) iter fun items Stb M1 => ∃ I : Nat → List D → Mem → Prop, I 0 [] M1 ∧ (∀ i acc M' L, I i acc M' → Stb ((L, .lst acc) :: M')) ∧ (∀ i d acc M', items[i]? = some d → I i acc M' → StPick X scope (own.map (·.1)) Vb Bb Fb Γb x c elt I i d acc M') ∧ ∀ acc M', I items.length acc M' → ∀ p, Q (.ref p) ((p, .lst acc) :: M'))
    (hs : ∀ x, foldedSetIterable iter X.env x = pure x := by intro _; rfl) : WE X Γ M (.ListComp elt [⟨.Name x px, iter, [c], 0⟩] scope pos) Q :=
  we_lc bod.st (blk_of bod hc).st hxi (blk_of bod hc).ok hwp (Nat.le_refl _)
    (wi_imp h fun _ _ _ ⟨I, h1, h2, h3, h4⟩ => ⟨I, h1, h2, fun i d acc M' e q => let ⟨Γ2, a, b⟩ := h3 i d acc M' e q; ⟨Γ2, a, turnP_of (blk_of bod hc) b⟩, h4⟩) hs
theorem ws_setStP {E : DE} {i j : Nat} {y : Str} {py spos : Pos} (own : List (Str × Nat)) (Vb Bb Fb : List Str) (bod : Bod P w K mg base k sc N Ln Bn Fn Bx X) (hc : (blkC N sc scope own && blkChk sc scope (own.map (·.1)) Vb Bb Fb Bx) = true) (hxi : (x, i) ∈ own) (hwp : Wiped Γ own Γb)
    (hy : y ∈ Ln) (hyl : sc.names.lookup y = some .local) (hNy : N[j]? = some y) (ha : (scope.names.any fun (n, k) => n == y && (k == .local || k == .cell)) = false)
    (h : WI X Γ M (.Name x px) iter fun items Stb M1 => ∃ I : Nat → List D → Mem → Prop, I 0 [] M1 ∧ (∀ i acc M' L, I i acc M' → Stb ((L, .lst acc) :: M')) ∧ (∀ i d acc M', items[i]? = some d → I i acc M' → StPick X scope (own.map (·.1)) Vb Bb Fb Γb x c elt I i d acc M') ∧ ∀ acc M', I items.length acc M' → ∀ p, ∃ Γ', SetAt Γ y (.ref p) Γ' ∧ E.nx Γ' ((p, .lst acc) :: M'))
    (hl : (py.line == pos.line) = true := by rfl) (hl2 : spos.line = py.line := by rfl) (hs : ∀ x, foldedSetIterable iter X.env x = pure x := by intro _; rfl) : WS X Γ M (.Assign [.Name y py] (.ListComp elt [⟨.Name x px, iter, [c], 0⟩] scope pos) spos) E :=
  ws_setLc bod.st hy (by rw [bod.sc]; exact hyl) bod.kind (by rw [bod.N]; exact hNy) ha (blk_of bod hc).st hxi (blk_of bod hc).ok hwp (Nat.le_refl _)
    (wi_imp h fun _ _ _ ⟨I, h1, h2, h3, h4⟩ => ⟨I, h1, h2, fun i d acc M' e q => let ⟨Γ2, a, b⟩ := h3 i d acc M' e q; ⟨Γ2, a, turnP_of (blk_of bod hc) b⟩, h4⟩) hl hl2 hs
end
end DL
namespace Wk
open DL PySem L2 PyProof.Rows
/-- a plan: its boxes, in the dict's order, each with its blocks -/
abbrev Pl := List (Nat × List Nat)
def Pl.kv (pl : Pl) : List (Key × D) := pl.map fun p => (Sum.inl (p.1 : Int), nlD p.2)
structure PlOk (m : Nat) (pl : Pl) : Prop where
  nd : (pl.map (·.1)).Nodup
  box : ∀ p ∈ pl, p.1 < 8
  up : ∀ p ∈ pl, p.2.Pairwise (· < ·)
  lt : ∀ p ∈ pl, ∀ k ∈ p.2, k < m
theorem PlOk.len {m : Nat} {pl : Pl} (h : PlOk m pl) : pl.length ≤ 8 := by
  have := nodup_leN (l := pl.map (·.1)) (m := List.range 8) h.nd fun y hy => by
    obtain ⟨p, hp, rfl⟩ := List.mem_map.mp hy
    exact List.mem_range.mpr (h.box p hp)
  rw [List.length_map, List.length_range] at this
  exact this
theorem PlOk.few {m : Nat} {pl : Pl} (h : PlOk m pl) : ∀ p ∈ pl, p.2.length ≤ m := fun p hp => by
  have := nodup_leN (l := p.2) (m := List.range m) ((h.up p hp).imp fun h => Nat.ne_of_lt h) fun y hy => List.mem_range.mpr (h.lt p hp y hy)
  rw [List.length_range] at this
  exact this
theorem putA_new {kvs : List (Key × D)} {k : Key} {v : D} (h : ∀ p ∈ kvs, p.1 ≠ k) : putA kvs k v = kvs ++ [(k, v)] := by
  unfold putA
  rw [if_neg]
  rw [Bool.not_eq_true, List.any_eq_false]
  exact fun p hp => by simpa using h p hp
theorem Pl.put_new {pl : Pl} {b : Nat} {l : List Nat} (h : ∀ p ∈ pl, p.1 ≠ b) : putA pl.kv (.inl (b : Int)) (nlD l) = Pl.kv (pl ++ [(b, l)]) := by
  unfold Pl.kv
  rw [putA_new, List.map_append]; rfl
  intro q hq
  obtain ⟨p, hp, rfl⟩ := List.mem_map.mp hq
  have := h p hp
  intro e
  cases e
  omega
theorem Pl.at {pl : Pl} {b : Nat} {l : List Nat} (nd : (pl.map (·.1)).Nodup) (h : (b, l) ∈ pl) : valA pl.kv (.inl (b : Int)) = some (nlD l) := by
  induction pl with
  | nil => cases h
  | cons p pl ih =>
    rw [List.map_cons, List.nodup_cons] at nd
    rcases List.mem_cons.mp h with rfl | h
    · show valA (((Sum.inl ((b : Nat) : Int) : Key), nlD l) :: Pl.kv pl) _ = _
      rw [valA_cons, if_pos rfl]
    · have hne : p.1 ≠ b := fun e => nd.1 (List.mem_map.mpr ⟨_, h, e.symm⟩)
      show valA (((Sum.inl (p.1 : Int) : Key), nlD p.2) :: Pl.kv pl) _ = _
      rw [valA_cons, if_neg (fun e => by cases e; exact hne (by omega))]
      exact ih nd.2 h
/-- what is put on a way for a box -/
def putK (wy : Int × Int) (p : Nat × List Nat) : List Put :=
  if decide (wy.1 ∈ p.2.map fun (n : Nat) => (n : Int)) = decide (wy.2 ∈ p.2.map fun (n : Nat) => (n : Int)) then [] else [⟨wy, decide (wy.2 ∈ p.2.map fun (n : Nat) => (n : Int)), p.1⟩]
def putsL (ys : List (Int × Int)) (pl : Pl) : List Put := ys.flatMap fun wy => pl.flatMap (putK wy)
theorem putK_len (wy : Int × Int) (p : Nat × List Nat) : (putK wy p).length ≤ 1 := by
  unfold putK; split <;> simp
theorem flat1 {α β : Type} {f : α → List β} (hf : ∀ a, (f a).length ≤ 1) (l : List α) : (l.flatMap f).length ≤ l.length := by
  induction l with
  | nil => simp
  | cons a l ih =>
    have := hf a
    rw [List.flatMap_cons, List.length_append, List.length_cons]; omega
theorem putsL_len (ys : List (Int × Int)) (pl : Pl) : (putsL ys pl).length ≤ ys.length * pl.length := by
  unfold putsL
  induction ys with
  | nil => simp
  | cons a l ih =>
    have := flat1 (putK_len a) pl
    rw [List.flatMap_cons, List.length_append, List.length_cons, Nat.add_mul]; omega
theorem putsL_perm {ys : List (Int × Int)} {pl pl2 : Pl} (h : pl.Perm pl2) : (putsL ys pl).Perm (putsL ys pl2) := by
  unfold putsL
  induction ys with
  | nil => exact .refl _
  | cons a l ih =>
    rw [List.flatMap_cons, List.flatMap_cons]
    exact (h.flatMap_right (putK a)).append ih
end Wk

/-! Core25: what is put on ways, and plans, as data to be shown and compared. -/
namespace Wk
open DL PySem PySem.Spec PyProof.Rows L2
theorem Put.pyR {M : Mem} (p : Put) : Py M p.d p.pd := .tup (.cons (.tup (.cons (.int _) (.cons (.int _) .nil))) (.cons (.str _) (.cons (.int _) .nil)))
def putsP (l : List Put) : PyData := .list (l.map Put.pd)
theorem py_puts {M : Mem} {d : D} {l : List Put} (h : IsR M d (l.map Put.d)) : Py M d (putsP l) := by
  have g : ∀ n ∈ l, Py M (Put.d n) (Put.pd n) := fun n _ => n.pyR
  rcases h with (rfl | ⟨a, f, rfl, h⟩) | rfl
  · exact .lst (Pys.of_map g)
  · exact .ref h (Pys.of_map g)
  · exact .slst (Pys.of_map g)
theorem eqv_putsA : ∀ l : List Put, PyData.eqvAll (l.map Put.pd) (l.map Put.pd) = true
  | [] => rfl
  | p :: l => by
    simp [Put.pd, pairP, PyData.eqvAll, PyData.eqv, eqv_putsA l]
theorem eqv_puts (l : List Put) : PyData.eqv (putsP l) (putsP l) = true := by
  unfold putsP
  rw [PyData.eqv]
  exact eqv_putsA l
theorem Put.word_ok (p : Put) : Shw 0 44 (.str p.word) := by
  have g : ∀ b : Bool, Shw 0 44 (.str (if b then "save" else "back")) := fun b => by
    cases b
    · exact shw_word (by decide +kernel)
    · exact shw_word (by decide +kernel)
  exact g p.sv
theorem shw_put {p : Put} (h : (-1000 ≤ p.way.1 ∧ p.way.1 ≤ 1000) ∧ (-1000 ≤ p.way.2 ∧ p.way.2 ≤ 1000)) (hb : p.box < 1000) : Shw 2 430 p.pd := by
  refine Shw.tuple (dep := 1) (n := 140) (fun x hx => ?_) (by simp)
  simp only [List.mem_cons, List.not_mem_nil, or_false] at hx
  rcases hx with rfl | rfl | rfl
  · exact (shw_pair (by omega) (by omega) (by omega) (by omega)).mono (by omega) (by omega)
  · exact p.word_ok.mono (by omega) (by omega)
  · exact (shw_nat hb).mono (by omega) (by omega)
theorem shw_puts {l : List Put} (h : ∀ p ∈ l, ((-1000 ≤ p.way.1 ∧ p.way.1 ≤ 1000) ∧ (-1000 ≤ p.way.2 ∧ p.way.2 ≤ 1000)) ∧ p.box < 1000) (hl : l.length ≤ 400) : Shw 3 200000 (putsP l) := by
  refine Shw.list (dep := 2) (n := 430) (fun x hx => ?_) (by rw [List.length_map]; omega)
  obtain ⟨p, hp, rfl⟩ := List.mem_map.mp hx
  exact shw_put (h p hp).1 (h p hp).2
theorem mem_puts {ys : List (Int × Int)} {pl : Pl} {p : Put} (h : p ∈ putsL ys pl) : p.way ∈ ys ∧ p.box ∈ pl.map (·.1) := by
  unfold putsL at h
  obtain ⟨y, hy, h⟩ := List.mem_flatMap.mp h
  obtain ⟨q, hq, h⟩ := List.mem_flatMap.mp h
  unfold putK at h
  split at h
  · cases h
  · rw [List.mem_singleton] at h
    rw [h]
    exact ⟨hy, List.mem_map.mpr ⟨q, hq, rfl⟩⟩
theorem sortP_len (l : List Put) : (sortP l).length = l.length := (List.mergeSort_perm l pLe).length_eq
theorem mem_sortP {l : List Put} {p : Put} : p ∈ sortP l ↔ p ∈ l := (List.mergeSort_perm l pLe).mem_iff
/-- a work -/
theorem Dd.pyx {M : Mem} (d : Dd) : PyX M d.d d.p := by
  cases d <;> exact .tup (.cons (.str _) (.cons (.int _) (by first | exact .nil | exact .cons (.int _) .nil)))
theorem Nd.pyx {M : Mem} (e : Nd) : PyX M e.d e.p := by
  cases e with
  | out => exact .tup (.cons (.str _) .nil)
  | go t => exact .tup (.cons (.str _) (.cons (.int _) .nil))
  | fork t o => exact .tup (.cons (.str _) (.cons (.int _) (.cons (.int _) .nil)))
theorem Bk.pyx {M : Mem} (b : Bk) : PyX M b.d b.p := .tup (.cons (.lst (PyXs.of_map fun d _ => d.pyx)) (.cons b.2.pyx .nil))
def W.p (w : W) : PyData := .list (w.map Bk.p)
theorem W.pyx {M : Mem} (w : W) : PyX M (W.d w) w.p := .lst (PyXs.of_map fun b _ => b.pyx)
/-- a plan -/
def Pl.qs (pl : Pl) : List (Key × PyData) := pl.map fun p => (Sum.inl (p.1 : Int), .list (p.2.map natP))
def Pl.p (pl : Pl) : PyData := .dict (pl.qs.map fun q => (keyP q.1, q.2))
theorem Pl.pyx {M : Mem} {a : Addr} {f : Cell → Mem} {pl : Pl} (h : At a M (.dK pl.kv) f) : PyX M (.ref a) pl.p := by
  refine .dct h (by unfold Pl.kv Pl.qs; rw [List.map_map, List.map_map]; rfl) ?_
  unfold Pl.kv Pl.qs
  rw [List.map_map, List.map_map]
  exact PyXs.of_map fun p _ => .lst (PyXs.of_map fun n _ => .int _)
theorem PlOk.shx {m : Nat} {pl : Pl} (h : PlOk m pl) (hm : m ≤ 16) : ShX 2 80000 pl.p := by
  unfold Pl.p Pl.qs
  rw [List.map_map]
  refine ShX.dict (dep := 1) (n := 4500) (fun x hx => ?_) (by rw [List.length_map]; have := h.len; omega)
  obtain ⟨p, hp, rfl⟩ := List.mem_map.mp hx
  have h1 := h.box p hp
  have h2 := h.few p hp
  exact ⟨((shw_nat (n := p.1) (by omega)).x).mono (by omega) (by omega), (shw_nats (l := p.2) (fun n hn => by have := h.lt p hp n hn; omega) (by omega)).x⟩
theorem shx_wp {w : W} {m : Nat} {pl : Pl} (hw : Fit w) (h : PlOk m pl) (hm : m ≤ 16) : ShX 5 300000 (.list [w.p, pl.p]) := by
  refine ShX.list (dep := 4) (n := 120000) (fun x hx => ?_) (by simp)
  simp only [List.mem_cons, List.not_mem_nil, or_false] at hx
  rcases hx with rfl | rfl
  · exact (shw_work hw).x
  · exact (h.shx hm).mono (by omega) (by omega)
/-- a plan's boxes in their order -/
def Pl.srt (pl : Pl) : Pl := pl.mergeSort fun a b => decide (a.1 ≤ b.1)
theorem Pl.srt_perm (pl : Pl) : pl.srt.Perm pl := List.mergeSort_perm _ _
theorem Pl.srt_up (pl : Pl) : (pl.srt.map (·.1)).Pairwise (· ≤ ·) := by
  rw [List.pairwise_map]
  refine (List.pairwise_mergeSort (le := fun (a b : Nat × List Nat) => decide (a.1 ≤ b.1)) (fun a b c h1 h2 => ?_) (fun a b => ?_) pl).imp fun h => of_decide_eq_true h
  · simp only [decide_eq_true_eq] at *; omega
  · simp only [Bool.or_eq_true, decide_eq_true_eq]; omega
end Wk

/-! Core26: a dict of tuples sorted; comprehensions over three names. -/
namespace DL
open PySem PySem.Spec PyProof.Rows L2
section
variable {P : Program} {w : World} {K : PySem.W.Frag} {mg : Str → Option Value} {base : Heap} {X : Cx} {Γ Γb : VEnv} {M : Mem} {Q : D → Mem → Prop} {E : DE} {x : Str} {pos px : Pos} {elt iter c : Expr} {scope sc : Scope} {own : List (Str × Nat)} {N Ln Bn Fn Bx Vb Bb Fb : List Str} {k : Nat} {α : Type}
theorem ws_setPickT3 {i i2 i3 j : Nat} {z v y : Str} {py py2 py3 ptt spos : Pos} {kk : Nat} (l : List α) (ga gb gc hh : α → D) (pk : α → Bool) (own : List (Str × Nat)) (Vb Bb Fb : List Str) (bod : Bod P w K mg base k sc N Ln Bn Fn Bx X) (hc : (blkC N sc scope own && blkChk sc scope (own.map (·.1)) Vb Bb Fb Bx) = true) (hxi : (x, i) ∈ own) (hyj : (z, i2) ∈ own) (hvj : (v, i3) ∈ own) (hwp : Wiped Γ own Γb)
    (hy : y ∈ Ln) (hyl : sc.names.lookup y = some .local) (hNy : N[j]? = some y) (ha : (scope.names.any fun (n, k) => n == y && (k == .local || k == .cell)) = false)
    (h : WI X Γ M (.Tuple [.Name x px, .Name z py2, .Name v py3] kk ptt) iter fun items Stb M1 => items = l.map (fun a => .tup [ga a, gb a, gc a]) ∧ l.length ≤ sizeLine ∧ (∀ L acc, Stb ((L, .lst acc) :: M1)) ∧ (∀ a ∈ l, ∃ Γ2 Γ3 Γ4, SetAt Γb x (ga a) Γ2 ∧ SetAt Γ2 z (gb a) Γ3 ∧ SetAt Γ3 v (gc a) Γ4 ∧ EachIf X scope (own.map (·.1)) Vb Bb Fb Γ4 M1 c (pk a) ∧ (pk a = true → Each X scope (own.map (·.1)) Vb Bb Fb Γ4 M1 elt (hh a))) ∧ ∀ p, ∃ Γ', SetAt Γ y (.ref p) Γ' ∧ E.nx Γ' ((p, .lst ((l.filter pk).map hh)) :: M1))
    (hl : (py.line == pos.line) = true := by rfl) (hs : ∀ x, foldedSetIterable iter X.env x = pure x := by intro _; rfl) : WS X Γ M (.Assign [.Name y py] (.ListComp elt [⟨.Tuple [.Name x px, .Name z py2, .Name v py3] kk ptt, iter, [c], 0⟩] scope pos) spos) E := by
  have bl := blk_of bod hc
  refine ws_setLcT (xs := [x, z, v]) (is := [i, i2, i3]) (n := 3) bod.st hy (by rw [bod.sc]; exact hyl) bod.kind (by rw [bod.N]; exact hNy) ha bl.st (.cons hxi (.cons hyj (.cons hvj .nil))) bl.ok hwp (Nat.le_refl _) (pgs_n3 bl.st bl.ok hxi hyj hvj) (fun _ _ _ _ _ => ⟨rfl, rfl⟩) (fun S σ H a b => tI_mono (h S σ H a b) ?_) hl hs
  rintro J H1 ⟨items, Stb, M1, S1, ⟨h1, h2, h3, h4, h5⟩, s1, m1, W⟩
  obtain ⟨I, i1, i2, i3, i4⟩ := lc_pick (c := c) (elt := elt) (scope := scope) (hh := hh) (pk := pk) (X := X) (g := fun a => .tup [ga a, gb a, gc a]) (R := fun _ d Γ2 => ∃ ds, d = .tup ds ∧ ds.length = 3 ∧ SetAts Γb [x, z, v] ds Γ2) h1 h2 h3 (fun a ha => let ⟨Γ2, Γ3, Γ4, q1, q2, q3, q4, q5⟩ := h4 a ha; ⟨Γ4, ⟨[ga a, gb a, gc a], rfl, rfl, .cons q1 (.cons q2 (.cons q3 .nil))⟩, pickT_of bl q4 q5⟩)
  exact ⟨items, Stb, M1, S1, ⟨I, i1, i2, fun i d acc M' e p => let ⟨Γ2, ⟨ds, q1, q2, q3⟩, t⟩ := i3 i d acc M' e p; ⟨ds, Γ2, q1, q2, q3, t⟩, fun acc M' q p => by obtain ⟨rfl, rfl⟩ := i4 acc M' q; exact h5 p⟩, s1, m1, W⟩
end
/-! ### sorted(d), d's keys tuples -/
theorem paired_all2 {α β : Type} {R : α → β → Prop} : ∀ {xs : List α} {ys : List β}, Paired R xs ys → All2 R xs ys
  | _, _, .nil => .nil
  | _, _, .cons h t => .cons h (paired_all2 t)
section
variable {X : Cx} {β : Type} {enc : β → PyData}
theorem call_sortedDT (hc : X.calm = true) (hs0 : ∃ mm, X.base.Ns sysModules mm) (hu : X.A.units + 80 < cLine) (hal : ∀ b b', PySem.W.alike (enc b) (enc b') = true) (hk : ∀ b, ∃ x r, enc b = .tuple (x :: r)) (hdp : ∀ b, (enc b).depth ≤ 60) :
    CallR X (.builtin "sorted") (fun vs H R => ∃ (d : Addr) (kvs : List (List Key × V)) (bs : List β), vs = [V.ref d] ∧ Rd H d (.dT kvs) ∧ (∀ a, IsKeys H kvs a → All2 (fun x b => Dr H x (enc b)) (a.map V.ref) bs) ∧
      ∀ a ys p, IsKeys H kvs a → All2 (fun x b => x ∈ a.map V.ref ∧ Dr H x (enc b)) ys (bs.mergeSort (PySem.W.dataLe false enc)) → H p = none → R (.ref p) (upd H p (.lst ys))) := by
  intro pins s σ H xs us R I r h
  obtain ⟨d, kvs, bs, rfl, hd, hbs, q⟩ := h
  obtain ⟨u, rfl, rx⟩ := r.one
  cases rx
  obtain ⟨z, hs, ks, pr, o, es, ep, ho, hx, hdt, he, hn⟩ := (show ObjOk X.prog X.w H s.heap d (.dT kvs) from hd.ok I.hok)
  have l1 : es.size = ks.length := size_of_entries he
  have l2 : kvs.length = ks.length := Paired.length pr
  refine Calls.call_function_entry PyProof.Rows.kind_sorted PyProof.Rows.plain_sorted PyProof.Rows.entry_sorted (PyProof.Rows.args_sorted1 _) ?_
  unfold Builtin.«sorted»
  refine wpAny_bind (m := checkCount "sorted" 1 1 _) (wpAny_pure ?_)
  refine wpAny_bind (PySem.W.kdu_collect (A := X.A.in1) (kdl_raw hs hx hdt) (I.ok.hd hc) ho (by omega) fun h' tk acc' kp it => ?_)
  have ea : acc'.toList = ks.map fun x => Value.ref x.2.1 := by
    have hl : acc'.toList.length = ks.length := by rw [Array.length_toList, it.1]; exact l1
    apply List.ext_getElem?
    intro j
    rw [List.getElem?_map]
    cases hj : acc'.toList[j]? with
    | none =>
      have h1 := List.getElem?_eq_none_iff.mp hj
      rw [List.getElem?_eq_none (by omega)]
      all_goals rfl
    | some v =>
      obtain ⟨en, hen, hv⟩ := it.2 j v (by rw [← Array.getElem?_toList]; exact hj)
      have qe := entry_at he j
      rw [hen] at qe
      cases hb : ks[j]? with
      | none =>
        rw [hb] at qe
        exact nomatch (show some en = none from qe)
      | some b =>
        rw [hb] at qe
        have e2 : en = entryOfKey (tupleKind (mixKind X.prog X.w)) b := Option.some.inj qe
        rw [hv, e2]
        all_goals rfl
  have hak : IsKeys H kvs (ks.map fun x => x.2.1) := isKeys_of pr
  generalize hkk : (ks.map fun x => x.2.1) = ka at hak
  have eb : acc'.toList = ka.map Value.ref := by rw [ea, ← hkk, List.map_map]; all_goals rfl
  have hal2 := hbs ka hak
  have rv : Vals (ka.map V.ref) acc'.toList := by rw [eb]; exact vals_refs _
  have I1 : Inv X pins σ H { s with heap := h', toks := tk } := I.kept kp
  have hlen : acc'.toList.length ≤ sizeLine := by rw [eb, List.length_map, ← hkk, List.length_map]; omega
  refine wpAny_bind (wpAny_newList ?_ hlen)
  have hoL : (h'.push (seqObj "list" acc'.toList.toArray 0)).get? h'.objs.size = some (seqObj "list" acc'.toList.toArray 0) := Heap.get?_push_size _ rfl
  show wpAny _ _ _ _ _ { s with heap := h'.push (seqObj "list" acc'.toList.toArray 0), toks := tk }
  have hal3 : All2 (fun x b => x ∈ ka.map V.ref ∧ Dr H x (enc b)) (ka.map V.ref) bs := by
    have g : ∀ {xs : List V} {bs : List β}, All2 (fun x b => Dr H x (enc b)) xs bs → (∀ x ∈ xs, x ∈ ka.map V.ref) → All2 (fun x b => x ∈ ka.map V.ref ∧ Dr H x (enc b)) xs bs := by
      intro xs bs h
      induction h with
      | nil => exact fun _ => .nil
      | cons h t ih => exact fun m => .cons ⟨m _ List.mem_cons_self, h⟩ (ih fun x hx => m x (List.mem_cons_of_mem _ hx))
    exact g hal2 fun x h => h
  have e := all2_vals hal3 rv
  have keepL : ∀ b o, h'.get? b = some o → (PySem.W.sortingHeap (h'.push (seqObj "list" acc'.toList.toArray 0)) h'.objs.size acc'.toList).get? b = some o := fun b o e => by
    have hb : b < h'.objs.size := Heap.lt_size e
    exact PySem.W.sortingHeap_old (Nat.ne_of_lt hb) (Heap.get?_push_of_some _ e)
  have er : PySem.W.EachIs (fun u b => ∃ as, Reads (PySem.W.sortingHeap (h'.push (seqObj "list" acc'.toList.toArray 0)) h'.objs.size acc'.toList) u (enc b) as) acc'.toList bs := e.mono fun u b ⟨x, rx, _, px⟩ => by
    obtain ⟨as, h1, _⟩ := px.reads hs0 I1 rx
    exact ⟨as, PyProof.Rows.Reads.keeps keepL h1⟩
  have S := PySem.W.SortsAt.data (prog := X.prog) (w := X.w) (A := X.A.in1.in1) (s := { s with heap := PySem.W.sortingHeap (h'.push (seqObj "list" acc'.toList.toArray 0)) h'.objs.size acc'.toList, toks := tk }) (PySem.W.each_map (R := fun v d => ∃ as, Reads (PySem.W.sortingHeap (h'.push (seqObj "list" acc'.toList.toArray 0)) h'.objs.size acc'.toList) v d as) enc er) (.of hal) (.tuples hk) (by
    intro d hd
    obtain ⟨b, _, rfl⟩ := List.mem_map.mp hd
    have := hdp b
    have eu : X.A.in1.in1.units = X.A.units + 2 := rfl
    omega)
  refine wpAny_bind (wpAny_holding (wpAny_call_entry PyProof.Rows.slot_list_sort ⟨_, hoL, rfl⟩ PyProof.Rows.entry_list_sort
    (PySem.W.list_sort_vals (s := { s with heap := h'.push (seqObj "list" acc'.toList.toArray 0), toks := tk }) hoL S hlen ⟨_, rfl, ?_⟩) (PyProof.Rows.args_list_sort _)))
  obtain ⟨ys, ry, py⟩ := vals_all2 (PySem.W.sortVals_data false e er (.of hal))
  obtain ⟨e', he'⟩ := PyProof.Rows.sortedHeap_at (vs := acc'.toList) (out := (PySem.W.sortVals (PySem.W.dataKind (PySem.W.sortingHeap (h'.push (seqObj "list" acc'.toList.toArray 0)) h'.objs.size acc'.toList) (bs.map enc)) false acc'.toList acc'.toList).toArray) hoL
  refine wpAny_pure ⟨_, rfl, .ref h'.objs.size, upd H h'.objs.size (.lst ys), I1.laid (t' := tk) (fun b u e => ?_) (Nat.le_refl _)
    (show ObjOk X.prog X.w _ _ _ (.lst ys) from ⟨?_, _, e', ry, he'⟩), rfl, q _ ys _ hak py (I1.hok.fresh (Nat.le_refl _))⟩
  · have hb : b < h'.objs.size := Heap.lt_size e
    rw [PyProof.Rows.sortedHeap_old (Nat.ne_of_lt hb) (by rw [size_push']; exact Nat.lt_succ_of_lt hb)]
    exact Heap.get?_push_of_some _ e
  · rw [ry.length, PySem.W.sortVals_length false rfl]
    exact hlen
end
end DL
namespace DL
open PySem PySem.Spec PyProof.Rows L2 Wk
theorem CellOk.notTup {K : PySem.W.Frag} {S H : Hp} {a : Addr} : ∀ {c : Cell}, CellOk K S H a c → ∀ xs, H a ≠ some (.tup xs)
  | .lst _, ⟨_, h, _⟩, _ => fun e => by rw [h] at e; cases e
  | .dK _, ⟨_, h, _⟩, _ => fun e => by rw [h] at e; cases e
  | .dT _, ⟨_, h, _⟩, _ => fun e => by rw [h] at e; cases e
  | .set _ _, h, _ => fun e => by have h : H a = _ := h; rw [h] at e; cases e
  | .ins _ _ _, ⟨⟨_, _, h, _⟩, _⟩, _ => fun e => by rw [h] at e; cases e
  | .raw _, h, xs => fun e => h.2 xs (Option.some.inj (h.1.symm.trans e))
  | .fzK _ _ _, ⟨h, _⟩, _ => fun e => by rw [h] at e; cases e
/-- all tuples stand for ever -/
theorem MO.tupAll {K : PySem.W.Frag} {S H : Hp} {M : Mem} (m : MO K S M H) : ∃ S', Same S S' ∧ MO K S' M H ∧ ∀ b xs, H b = some (.tup xs) → S' b = some (.tup xs) := by
  have hS : ∀ b o, S b = some o → (match S b with | some o => some o | none => match H b with | some (.tup xs) => some (.tup xs) | _ => none) = some o := fun b o e => by rw [e]
  have s1 : Same S fun b => match S b with | some o => some o | none => match H b with | some (.tup xs) => some (.tup xs) | _ => none := fun b o e => hS b o e
  refine ⟨_, s1, ⟨fun b o e => ?_, fun p hp => ⟨?_, (m.own p hp).2.mono s1⟩, m.nd⟩, fun b xs e => ?_⟩
  · cases hb : S b with
    | some o' =>
      have e' : some o' = some o := (hS b o' hb).symm.trans e
      rw [← e']
      exact m.sub b o' hb
    | none =>
      simp only [hb] at e
      split at e
      · rename_i xs hx
        rw [hx, ← e]
      · cases e
  · obtain ⟨h1, h2⟩ := m.own p hp
    simp only [h1]
    split
    · rename_i xs hx
      exact absurd hx (h2.notTup xs)
    · rfl
  · cases hb : S b with
    | some o' =>
      have := m.sub b o' hb
      rw [e] at this
      simp only []
      exact this.symm
    | none =>
      simp only [e]
def keyI (p : Int × Int) : List Key := [.inl p.1, .inl p.2]
theorem keys_all2 {H : Hp} : ∀ {us : List (List Key × V)} {ka : List Addr} {ps : List (Int × Int)}, Paired (fun p b => H b = some (.tup (p.1.map kV))) us ka → us.map (·.1) = ps.map keyI → All2 (fun x b => Dr H x (pairP b)) (ka.map V.ref) ps
  | _, _, [], .nil, _ => .nil
  | _, _, p :: ps, .cons h t, e => by
    rw [List.map_cons, List.map_cons, List.cons.injEq] at e
    rw [e.1] at h
    exact .cons (.tup h (.cons (.int _) (.cons (.int _) .nil))) (keys_all2 t e.2)
theorem dr_pair {H : Hp} {x : V} {p : Int × Int} (h : Dr H x (pairP p)) : ∃ a, x = .ref a ∧ H a = some (.tup [.int p.1, .int p.2]) := by
  unfold pairP at h
  cases h with
  | tup h1 h2 =>
    cases h2 with
    | cons a1 t1 =>
      cases t1 with
      | cons a2 t2 =>
        cases t2
        cases a1
        cases a2
        exact ⟨_, rfl, h1⟩
theorem all2_pairs {K : PySem.W.Frag} {S H : Hp} (ht : ∀ b xs, H b = some (.tup xs) → S b = some (.tup xs)) {xs : List V} {ps : List (Int × Int)} {R : V → Prop} (h : All2 (fun x b => R x ∧ Dr H x (pairP b)) xs ps) : Reps K S xs (ps.map pairD) := by
  induction h with
  | nil => exact .nil
  | cons h t ih =>
    obtain ⟨a, rfl, ha⟩ := dr_pair h.2
    exact .cons (.tup (ht _ _ ha) (.cons (.int _) (.cons (.int _) .nil))) ih
theorem cd_sortedDT {X : Cx} {M : Mem} {Q : D → Mem → Prop} {Ln Vn Bn Fn : List Str} {a : Addr} {f : Cell → Mem} {kvs : List (List Key × D)} {ps qs : List (Int × Int)} (st : Stat X Ln Vn Bn Fn) (hs : ∃ mm, X.base.Ns sysModules mm) (h : At a M (.dT kvs) f) (hk : kvs.map (·.1) = ps.map keyI) (hp : qs.Perm ps) (hsr : qs.Pairwise lexLe)
    (q : ∀ p, Q (.ref p) ((p, .lst (qs.map pairD)) :: M)) : CD X (.builtin "sorted") [.ref a] M Q := by
  have hle : PySem.W.dataLe false pairP = fun p q : Int × Int => decide (p.1 < q.1 ∨ (p.1 = q.1 ∧ p.2 ≤ q.2)) := PySem.W.dataLe_ii (fun p : Int × Int => p.1) (fun p => p.2)
  have hms : ps.mergeSort (PySem.W.dataLe false pairP) = qs := by
    rw [hle]
    refine ((List.mergeSort_perm _ _).trans hp.symm).eq_of_pairwise (le := lexLe) (fun a b _ _ h1 h2 => ?_) ?_ hsr
    · have : a.1 = b.1 ∧ a.2 = b.2 := by
        rcases h1 with h1 | h1 <;> rcases h2 with h2 | h2 <;> omega
      exact Prod.ext this.1 this.2
    · refine (List.pairwise_mergeSort (le := fun p q : Int × Int => decide (p.1 < q.1 ∨ (p.1 = q.1 ∧ p.2 ≤ q.2))) (fun a b c h1 h2 => ?_) (fun a b => ?_) ps).imp fun h => of_decide_eq_true h
      · simp only [decide_eq_true_eq] at *; omega
      · simp only [Bool.or_eq_true, decide_eq_true_eq]; omega
  refine cd_of (call_sortedDT (enc := pairP) st.calm hs (by have := st.hu; omega) (fun b b' => by simp [pairP, PySem.W.alike, PySem.W.alikeAll]) (fun b => ⟨_, _, rfl⟩) (fun b => by simp [pairP, PyData.depth, PyData.depthAll])) fun S H xs rx m => ?_
  obtain ⟨v, rfl, rv⟩ := reps_one rx
  obtain ⟨us, hx, pk⟩ := m.at_ok h
  refine ⟨a, us, ps, by rw [rv.ref_inv], .inl hx, fun ka hka => keys_all2 hka (pk.1.trans hk), fun ka ys p hka h2 hp' => ?_⟩
  obtain ⟨S', s', m', ht⟩ := m.tupAll
  rw [hms] at h2
  exact (post_own m' (all2_pairs ht h2) q p hp').weak s'
end DL

/-! Core27: where what is put on a way can stand. -/
namespace Wk
open DL PySem PySem.Spec PyProof.Rows L2
theorem filt_nil {α : Type} {p : α → Bool} {l : List α} (h : ∀ a ∈ l, p a = false) : l.filter p = [] := by
  rw [List.filter_eq_nil_iff]
  exact fun a ha => by rw [h a ha]; simp
theorem filt_all {α : Type} {p : α → Bool} {l : List α} (h : ∀ a ∈ l, p a = true) : l.filter p = l := List.filter_eq_self.mpr h
theorem wayK_fst {n k : Nat} {e : Nd} {z : Int × Int} (h : z ∈ wayK n k e) : z.1 = (k : Int) := by
  unfold wayK at h
  split at h
  · rw [List.mem_singleton] at h; rw [h]
  · obtain ⟨t, _, rfl⟩ := List.mem_map.mp h; rfl
theorem mem_waysFrom {n : Nat} {z : Int × Int} : ∀ {es : List Nd} {j : Nat}, z ∈ waysFrom n j es → ∃ (i : Nat) (e : Nd), es[i]? = some e ∧ z ∈ wayK n (j + i) e
  | [], _, h => by cases h
  | e :: es, j, h => by
    rw [waysFrom] at h
    rcases List.mem_append.mp h with h | h
    · exact ⟨0, e, rfl, h⟩
    · obtain ⟨i, e', h1, h2⟩ := mem_waysFrom h
      exact ⟨i + 1, e', by simpa using h1, by rw [show j + (i + 1) = j + 1 + i by omega]; exact h2⟩
theorem filt_fst {n : Nat} : ∀ {es : List Nd} {j i : Nat} {e : Nd}, es[i]? = some e → (waysFrom n j es).filter (fun z => decide (z.1 = ((j + i : Nat) : Int))) = wayK n (j + i) e
  | [], _, _, _, h => by simp at h
  | e' :: es, j, 0, e, h => by
    simp only [List.getElem?_cons_zero, Option.some.injEq] at h
    subst h
    rw [waysFrom, List.filter_append, filt_all (fun a ha => by rw [wayK_fst ha]; simp), filt_nil (fun a ha => ?_), List.append_nil]
    · rfl
    · obtain ⟨i, e2, _, h2⟩ := mem_waysFrom ha
      rw [wayK_fst h2]
      exact decide_eq_false (by omega)
  | e' :: es, j, i + 1, e, h => by
    rw [waysFrom, List.filter_append, filt_nil (fun a ha => by rw [wayK_fst ha]; exact decide_eq_false (by omega)), List.nil_append]
    have := filt_fst (n := n) (j := j + 1) (i := i) (e := e) (es := es) (by simpa using h)
    rw [show j + 1 + i = j + (i + 1) by omega] at this
    exact this
theorem sxm {e : Nd} {t : Nat} : t ∈ e.sx ↔ t ∈ e.nx := (sx_perm e).mem_iff
theorem filt_snd1 {n k t : Nat} {e : Nd} (nd : e.nx.Nodup) (ht : t ≠ n) : ((wayK n k e).filter fun z => decide (z.2 = (t : Int))).length = if decide (t ∈ e.nx) = true then 1 else 0 := by
  unfold wayK
  split
  · rename_i h
    rw [h]
    rw [filt_nil (fun a ha => by rw [List.mem_singleton] at ha; rw [ha]; exact decide_eq_false (by show ¬ ((n : Int) = (t : Int)); omega))]
    simp
  · have nds : e.sx.Nodup := (sx_perm e).nodup_iff.mpr nd
    rw [show decide (t ∈ e.nx) = decide (t ∈ e.sx) from decide_eq_decide.mpr sxm.symm]
    clear nd
    generalize e.sx = l at nds
    induction l with
    | nil => simp
    | cons a l ih =>
      rw [List.nodup_cons] at nds
      have := ih nds.2
      rw [List.map_cons, List.filter_cons]
      by_cases h : a = t
      · subst h
        rw [if_pos (by simp), if_pos (by simp), List.length_cons, this, if_neg (by simpa using nds.1)]
      · rw [if_neg (by simp; omega), this]
        have e2 : decide (t ∈ a :: l) = decide (t ∈ l) := decide_eq_decide.mpr (by rw [List.mem_cons]; constructor; (rintro (q | q); exact absurd q.symm h; exact q); exact .inr)
        rw [e2]
theorem filt_snd {n t : Nat} (ht : t ≠ n) : ∀ {es : List Nd} {j : Nat}, (∀ e ∈ es, e.nx.Nodup) → ((waysFrom n j es).filter fun z => decide (z.2 = (t : Int))).length = (es.filter fun e => decide (t ∈ e.nx)).length
  | [], _, _ => rfl
  | e :: es, j, h => by
    rw [waysFrom, List.filter_append, List.length_append, filt_snd1 (h e List.mem_cons_self) ht, filt_snd ht (fun e' he => h e' (List.mem_cons_of_mem _ he)), List.filter_cons]
    split
    · rw [List.length_cons]; omega
    · omega
theorem filt_range {α : Type} (p : α → Bool) (d : α) (l : List α) : ((List.range l.length).filter fun b => p (l.getD b d)).length = (l.filter p).length := by
  have e : (List.range l.length).map (fun b => l.getD b d) = l := by
    refine List.ext_getElem? fun i => ?_
    rw [List.getElem?_map]
    by_cases h : i < l.length
    · rw [List.getElem?_range h]
      simp [List.getD_eq_getElem?_getD, h]
    · rw [List.getElem?_eq_none (by rw [List.length_range]; omega), List.getElem?_eq_none (by omega)]; rfl
  have := congrArg (fun m => (m.filter p).length) e
  simp only [List.filter_map, List.length_map] at this
  exact this
/-- by the law -/
def homeL (w : W) (y : Int × Int) : Str :=
  if 0 ≤ y.1 ∧ ((ways w).filter fun z => decide (z.1 = y.1)).length = 1 then "end" else if ((ways w).filter fun z => decide (z.2 = y.2)).length = 1 then "begin" else "split"
/-- by the program -/
def homeP (w : W) (y : Int × Int) : Str :=
  if y.1 < 0 then "begin" else if y.2 = (w.length : Int) ∨ ((nexts w).getD y.1.toNat []).length = 1 then "end" else if ((List.range w.length).filter fun b => decide (y.2 ∈ ((nexts w).getD b []).map fun (n : Nat) => (n : Int))).length = 1 then "begin" else "split"
theorem home_eq {w : W} {y : Int × Int} (hp : 0 < w.length) (hn : ∀ b ∈ w, ∀ t ∈ b.2.nx, 1 ≤ t ∧ t < w.length) (nd : ∀ b ∈ w, b.2.nx.Nodup) (hy : y ∈ ways w) : homeP w y = homeL w y := by
  have hsec : ∀ z ∈ waysFrom w.length 0 (w.map (·.2)), 1 ≤ z.2 := fun z hz => by
    obtain ⟨i, e, h1, h2⟩ := mem_waysFrom hz
    rw [List.getElem?_map] at h1
    obtain ⟨b, hb, rfl⟩ := Option.map_eq_some_iff.mp h1
    unfold wayK at h2
    split at h2
    · rw [List.mem_singleton] at h2; rw [h2]; show (1 : Int) ≤ (w.length : Int); omega
    · obtain ⟨t, ht, rfl⟩ := List.mem_map.mp h2
      have := hn b (List.mem_of_getElem? hb) t (sxm.mp ht)
      show (1 : Int) ≤ (t : Int)
      omega
  have hw : ways w = (-1, 0) :: waysFrom w.length 0 (w.map (·.2)) := rfl
  rw [hw] at hy
  unfold homeP homeL
  rcases List.mem_cons.mp hy with rfl | hy
  · have c : ((ways w).filter fun z => decide (z.2 = (0 : Int))).length = 1 := by
      rw [hw, List.filter_cons, if_pos (by simp), filt_nil (l := waysFrom w.length 0 (w.map (·.2))) (fun a ha => by
        have := hsec a ha
        exact decide_eq_false (by omega))]
      rfl
    have n1 : ((-1 : Int), (0 : Int)).1 < 0 := by decide
    have n2 : ¬ (0 ≤ ((-1 : Int), (0 : Int)).1 ∧ ((ways w).filter fun z => decide (z.1 = ((-1 : Int), (0 : Int)).1)).length = 1) := fun h => absurd h.1 (by decide)
    rw [if_pos n1, if_neg n2]
    exact (if_pos c).symm
  · obtain ⟨k, e, h1, h2⟩ := mem_waysFrom hy
    rw [Nat.zero_add] at h2
    have hk1 := wayK_fst h2
    rw [List.getElem?_map] at h1
    obtain ⟨b, hb, rfl⟩ := Option.map_eq_some_iff.mp h1
    have hbm := List.mem_of_getElem? hb
    have hes : (w.map (·.2))[k]? = some b.2 := by rw [List.getElem?_map, hb]; rfl
    have hnx : (nexts w).getD y.1.toNat [] = b.2.nx := by
      rw [hk1, Int.toNat_natCast, List.getD_eq_getElem?_getD]
      unfold nexts
      rw [List.getElem?_map, hb]; rfl
    have c1 : ((ways w).filter fun z => decide (z.1 = y.1)) = wayK w.length k b.2 := by
      rw [hw, List.filter_cons, if_neg (by rw [hk1]; simp), hk1]
      have := filt_fst (n := w.length) (j := 0) hes
      rw [Nat.zero_add] at this
      exact this
    rw [c1, hnx, if_neg (by omega)]
    by_cases hnil : b.2.nx = []
    · have hyo : y.2 = (w.length : Int) := by
        unfold wayK at h2
        rw [if_pos hnil, List.mem_singleton] at h2
        rw [h2]
      rw [if_pos (.inl hyo), if_pos ⟨by omega, by unfold wayK; rw [if_pos hnil]; rfl⟩]
    · have hlen : (wayK w.length k b.2).length = b.2.nx.length := by
        unfold wayK
        rw [if_neg hnil, List.length_map, (sx_perm b.2).length_eq]
      obtain ⟨t, ht, rfl⟩ : ∃ t ∈ b.2.sx, ((k : Int), (t : Int)) = y := by
        unfold wayK at h2
        rw [if_neg hnil] at h2
        exact List.mem_map.mp h2
      have htb := hn b hbm t (sxm.mp ht)
      rw [hlen]
      by_cases h1' : b.2.nx.length = 1
      · rw [if_pos (.inr h1'), if_pos ⟨by show (0 : Int) ≤ (k : Int); omega, h1'⟩]
      · have n1 : ¬ (((k : Int), (t : Int)).2 = (w.length : Int) ∨ b.2.nx.length = 1) := by
          rintro (q | q)
          · have q : (t : Int) = (w.length : Int) := q
            omega
          · exact h1' q
        have n2 : ¬ (0 ≤ ((k : Int), (t : Int)).1 ∧ b.2.nx.length = 1) := fun q => h1' q.2
        rw [if_neg n1, if_neg n2]
        have c2 : ((ways w).filter fun z => decide (z.2 = (t : Int))).length = ((w.map (·.2)).filter fun e => decide (t ∈ e.nx)).length := by
          rw [hw, List.filter_cons, if_neg (by simp; omega)]
          exact filt_snd (by omega) fun e he => by
            obtain ⟨b', hb', rfl⟩ := List.mem_map.mp he
            exact nd b' hb'
        have c3 : ((List.range w.length).filter fun b => decide ((t : Int) ∈ ((nexts w).getD b []).map fun (n : Nat) => (n : Int))).length = ((w.map (·.2)).filter fun e => decide (t ∈ e.nx)).length := by
          have e1 := filt_range (fun l : List Nat => decide (t ∈ l)) [] (nexts w)
          rw [nexts_len] at e1
          have e2 : (fun b => decide ((t : Int) ∈ ((nexts w).getD b []).map fun (n : Nat) => (n : Int))) = fun b => decide (t ∈ (nexts w).getD b []) := funext fun b => decide_eq_decide.mpr mem_natI
          rw [e2, e1]
          unfold nexts
          rw [List.filter_map, List.length_map, List.filter_map, List.length_map]
          rfl
        exact congrArg (fun n : Nat => if n = 1 then ("begin" : Str) else "split") (c3.trans c2.symm)
end Wk

/-! Core28: the ways that are split. -/
namespace Wk
open DL PySem PySem.Spec PyProof.Rows L2
def isSplit (w : W) (y : Int × Int) : Bool := decide (homeL w y = "split")
def splitPuts (w : W) (pl : Pl) : List Put := (sortP (putsL (ways w) pl)).filter fun p => isSplit w p.way
def splitsL (w : W) (pl : Pl) : List (Int × Int) := (ways w).filter fun y => decide (y ∈ (splitPuts w pl).map (·.way))
theorem wayK_nd {n k : Nat} {e : Nd} (nd : e.nx.Nodup) : (wayK n k e).Nodup := by
  unfold wayK
  split
  · exact List.pairwise_singleton _ _
  · have nds : e.sx.Nodup := (sx_perm e).nodup_iff.mpr nd
    exact List.pairwise_map.mpr (nds.imp fun {a b} h q => h (by
      have := congrArg Prod.snd q
      exact Int.ofNat.inj this))
theorem waysFrom_nd {n : Nat} : ∀ {es : List Nd} {j : Nat}, (∀ e ∈ es, e.nx.Nodup) → (waysFrom n j es).Nodup
  | [], _, _ => .nil
  | e :: es, j, h => by
    rw [waysFrom, List.nodup_append]
    refine ⟨wayK_nd (h e List.mem_cons_self), waysFrom_nd fun e' he => h e' (List.mem_cons_of_mem _ he), fun a ha b hb q => ?_⟩
    obtain ⟨i, e2, _, h2⟩ := mem_waysFrom hb
    have h1 := wayK_fst ha
    have h3 := wayK_fst h2
    rw [q, h3] at h1
    omega
theorem ways_nd {w : W} (h : ∀ b ∈ w, b.2.nx.Nodup) : (ways w).Nodup := by
  show ((-1, 0) :: waysFrom w.length 0 (w.map (·.2))).Nodup
  rw [List.nodup_cons]
  refine ⟨fun hm => ?_, waysFrom_nd fun e he => ?_⟩
  · obtain ⟨i, e2, _, h2⟩ := mem_waysFrom hm
    have h3 := wayK_fst h2
    have h3 : (-1 : Int) = ((0 + i : Nat) : Int) := h3
    omega
  · obtain ⟨b, hb, rfl⟩ := List.mem_map.mp he
    exact h b hb
theorem keyI_inj {a b : Int × Int} (h : keyI a = keyI b) : a = b := by
  unfold keyI at h
  simp only [List.cons.injEq, Sum.inl.injEq, and_true] at h
  exact Prod.ext h.1 h.2
theorem put_keysT {kvs : List (List Key × D)} {ps : List (Int × Int)} (h : kvs.map (·.1) = ps.map keyI) (y : Int × Int) (v : D) : (putA kvs (keyI y) v).map (·.1) = (if y ∈ ps then ps else ps ++ [y]).map keyI := by
  have hmem : (kvs.any fun kv => decide (kv.1 = keyI y)) = decide (y ∈ ps) := by
    rw [Bool.eq_iff_iff, List.any_eq_true, decide_eq_true_iff]
    constructor
    · rintro ⟨kv, hkv, e⟩
      have : kv.1 ∈ ps.map keyI := by rw [← h]; exact List.mem_map.mpr ⟨kv, hkv, rfl⟩
      obtain ⟨z, hz, e2⟩ := List.mem_map.mp this
      rw [keyI_inj ((of_decide_eq_true e).symm.trans e2.symm)]
      exact hz
    · intro hy
      have : keyI y ∈ kvs.map (·.1) := by rw [h]; exact List.mem_map.mpr ⟨y, hy, rfl⟩
      obtain ⟨kv, hkv, e⟩ := List.mem_map.mp this
      exact ⟨kv, hkv, decide_eq_true e⟩
  unfold putA
  rw [hmem]
  by_cases hy : y ∈ ps
  · rw [if_pos (decide_eq_true hy), if_pos hy, ← h, List.map_map]
    refine List.map_congr_left fun kv _ => ?_
    show (if kv.1 = keyI y then (kv.1, v) else kv).1 = kv.1
    split <;> rfl
  · rw [if_neg (by simpa using hy), if_neg hy, List.map_append, List.map_append, h]; rfl
theorem splits_perm {w : W} {pl : Pl} {ps : List (Int × Int)} (h : ∀ b ∈ w, b.2.nx.Nodup) (nd : ps.Nodup) (hm : ∀ y, y ∈ ps ↔ y ∈ (splitPuts w pl).map (·.way)) : (splitsL w pl).Perm ps := by
  refine (List.perm_ext_iff_of_nodup ((ways_nd h).filter _) nd).mpr fun y => ?_
  rw [List.mem_filter, decide_eq_true_iff, hm y]
  refine ⟨fun q => q.2, fun q => ⟨?_, q⟩⟩
  obtain ⟨p, hp, rfl⟩ := List.mem_map.mp q
  exact (mem_puts (mem_sortP.mp (List.mem_filter.mp hp).1)).1
theorem splits_len (w : W) (pl : Pl) : (splitsL w pl).length ≤ 1 + 2 * w.length := Nat.le_trans (List.length_filter_le _ _) (ways_len w)
theorem splits_up {w : W} {pl : Pl} (h : Fit w) : (splitsL w pl).Pairwise lexLe := (ways_up h).filter _
theorem split_take {w : W} {pl : Pl} {i : Nat} {p : Put} (h : (sortP (putsL (ways w) pl))[i]? = some p) : ((((sortP (putsL (ways w) pl)).take (i + 1)).filter fun p => isSplit w p.way).map (·.way)) = ((((sortP (putsL (ways w) pl)).take i).filter fun p => isSplit w p.way).map (·.way)) ++ (if isSplit w p.way then [p.way] else []) := by
  rw [List.take_add_one, h, List.filter_append, List.map_append]
  congr 1
  simp only [Option.toList_some, List.filter_cons, List.filter_nil]
  split <;> rfl
end Wk
namespace DL
open PySem PySem.Spec PyProof.Rows L2
theorem we_isStr {X : Cx} {Γ : VEnv} {M : Mem} {Q : D → Mem → Prop} {Ln Vn Bn Fn : List Str} {p p2 pos : Pos} {e : Expr} (st : Stat X Ln Vn Bn Fn) (h1 : ("isinstance" : Str) ∈ Bn) (h2 : ("str" : Str) ∈ Bn) (h : WE X Γ M e fun d M1 => ∃ z, d = .str z ∧ Q (.bl true) M1)
    (he : starEach [e, .Name "str" p2] X.env = (false, eval e X.env) :: starEach [.Name "str" p2] X.env := by rfl) (he2 : starEach [.Name "str" p2] X.env = (false, eval (.Name "str" p2) X.env) :: starEach [] X.env := by rfl) (hpl : (backTo pos (starEach [.Name "str" p2] X.env)).any (·.1) = false := by rfl) :
    WE X Γ M (.Call (.Name "isinstance" p) [e, .Name "str" p2] [] pos) Q := by
  intro S σ H hΓ hM
  obtain ⟨g1, g2, g3, g4⟩ := st.blt _ h1
  obtain ⟨k1, k2, k3, k4⟩ := st.blt _ h2
  refine tE_of (pe_callB RZ.call_isTy g1 g2 PyProof.Rows.boot_isinstance (pa_cons pe_c (pa_cons (pe_bltn k1 k2 PyProof.Rows.boot_str (v := .ty "str") rfl k3 k4) pa_nil he2) he) g3 g4 he hpl) ?_
  refine tE_post (h S σ H hΓ hM) fun d M1 S1 v H1 ⟨z, e, q⟩ s1 m1 r1 => ?_
  subst e
  exact ⟨.str z, "str", by rw [r1.str_inv], .str z, .bl true, M1, S1, q, s1, m1, .bl true⟩
end DL
namespace DL
open PySem PySem.Spec PyProof.Rows L2
section
variable {P : Program} {w : World} {K : PySem.W.Frag} {mg : Str → Option Value} {base : Heap} {X : Cx} {Γ Γb : VEnv} {M : Mem} {Q : D → Mem → Prop} {x : Str} {pos px : Pos} {elt iter c : Expr} {scope sc : Scope} {own : List (Str × Nat)} {N Ln Bn Fn Bx Vb Bb Fb : List Str} {k : Nat} {α : Type}
theorem we_pickT3 {i i2 i3 : Nat} {z v : Str} {py2 py3 ptt : Pos} {kk : Nat} (l : List α) (ga gb gc hh : α → D) (pk : α → Bool) (own : List (Str × Nat)) (Vb Bb Fb : List Str) (bod : Bod P w K mg base k sc N Ln Bn Fn Bx X) (hc : (blkC N sc scope own && blkChk sc scope (own.map (·.1)) Vb Bb Fb Bx) = true) (hxi : (x, i) ∈ own) (hyj : (z, i2) ∈ own) (hvj : (v, i3) ∈ own) (hwp : Wiped Γ own Γb)
    (h : WI X Γ M (.Tuple [.Name x px, .Name z py2, .Name v py3] kk ptt) iter fun items Stb M1 => items = l.map (fun a => .tup [ga a, gb a, gc a]) ∧ l.length ≤ sizeLine ∧ (∀ L acc, Stb ((L, .lst acc) :: M1)) ∧ (∀ a ∈ l, ∃ Γ2 Γ3 Γ4, SetAt Γb x (ga a) Γ2 ∧ SetAt Γ2 z (gb a) Γ3 ∧ SetAt Γ3 v (gc a) Γ4 ∧ EachIf X scope (own.map (·.1)) Vb Bb Fb Γ4 M1 c (pk a) ∧ (pk a = true → Each X scope (own.map (·.1)) Vb Bb Fb Γ4 M1 elt (hh a))) ∧ ∀ p, Q (.ref p) ((p, .lst ((l.filter pk).map hh)) :: M1))
    (hs : ∀ x, foldedSetIterable iter X.env x = pure x := by intro _; rfl) : WE X Γ M (.ListComp elt [⟨.Tuple [.Name x px, .Name z py2, .Name v py3] kk ptt, iter, [c], 0⟩] scope pos) Q := by
  have bl := blk_of bod hc
  refine we_lcT (xs := [x, z, v]) (is := [i, i2, i3]) (n := 3) bod.st bl.st (.cons hxi (.cons hyj (.cons hvj .nil))) bl.ok hwp (Nat.le_refl _) (pgs_n3 bl.st bl.ok hxi hyj hvj) (fun _ _ _ _ _ => ⟨rfl, rfl⟩) (fun S σ H a b => tI_mono (h S σ H a b) ?_) hs
  rintro J H1 ⟨items, Stb, M1, S1, ⟨h1, h2, h3, h4, h5⟩, s1, m1, W⟩
  obtain ⟨I, i1, i2, i3, i4⟩ := lc_pick (c := c) (elt := elt) (scope := scope) (hh := hh) (pk := pk) (X := X) (g := fun a => .tup [ga a, gb a, gc a]) (R := fun _ d Γ2 => ∃ ds, d = .tup ds ∧ ds.length = 3 ∧ SetAts Γb [x, z, v] ds Γ2) h1 h2 h3 (fun a ha => let ⟨Γ2, Γ3, Γ4, q1, q2, q3, q4, q5⟩ := h4 a ha; ⟨Γ4, ⟨[ga a, gb a, gc a], rfl, rfl, .cons q1 (.cons q2 (.cons q3 .nil))⟩, pickT_of bl q4 q5⟩)
  exact ⟨items, Stb, M1, S1, ⟨I, i1, i2, fun i d acc M' e p => let ⟨Γ2, ⟨ds, q1, q2, q3⟩, t⟩ := i3 i d acc M' e p; ⟨ds, Γ2, q1, q2, q3, t⟩, fun acc M' q p => by obtain ⟨rfl, rfl⟩ := i4 acc M' q; exact h5 p⟩, s1, m1, W⟩
end
end DL

/-! Core29: busy blocks told as an owned list. -/
namespace DL
open PySem PySem.Spec PyProof.Rows L2 Wk
section
variable {X : Cx} {M : Mem} {Q : D → Mem → Prop} {Ln Vn Bn Fn : List Str}
theorem cd_sortedIO {d : D} {ns ms : List Int} (h : IsR M d (ns.map D.int)) (hp : ms.Perm ns) (hs : ms.Pairwise (· ≤ ·)) (q : ∀ p, Q (.ref p) ((p, .lst (ms.map D.int)) :: M)) : CD X (.builtin "sorted") [d] M Q := cd_of cr_sortedI fun S H xs rx m => by
  obtain ⟨v, rfl, rv⟩ := reps_one rx
  obtain ⟨pa, us, rfl, h1, r1⟩ := h.get m rv
  rw [r1.ints_inv] at h1
  refine ⟨pa, ns, rfl, h1, fun ns' p h2 h3 hp' => ?_⟩
  have e : ns' = ms := (h2.trans hp.symm).eq_of_pairwise (fun a b _ _ h1 h2 => Int.le_antisymm h1 h2) h3 hs
  subst e
  exact post_own m Reps.ints q p hp'
end
end DL
namespace Wk
open DL PySem PySem.Spec PyProof.Rows L2
/-- as the program puts them together -/
noncomputable def busyP (ws : List W) (n b : Nat) (w : W) : List Nat → List Nat := fun wl => wl ++ ((reachL w b).filter fun k => decide (k ∈ awtL ws n b w.length)).filter fun k => !decide (k ∈ wl)
theorem reachL_lt {w : W} {b k : Nat} (h : k ∈ reachL w b) : k < w.length := by
  have := (mem_comeL.mp h).1
  have := nexts_len w
  omega
theorem reachL_up (w : W) (b : Nat) : (reachL w b).Pairwise (· < ·) := comeL_up
theorem busyP_perm {ws : List W} {n b : Nat} {w : W} : (busyL ws n b w).Perm (busyP ws n b w (writesL w b)) := by
  have nd : ∀ {l : List Nat}, l.Pairwise (· < ·) → l.Nodup := fun h => h.imp fun h => Nat.ne_of_lt h
  have hmem : ∀ k, k ∈ busyP ws n b w (writesL w b) ↔ k ∈ writesL w b ++ (reachL w b).filter fun k => awtB ws b n k := fun k => by
    unfold busyP
    simp only [List.mem_append, List.mem_filter, decide_eq_true_eq, Bool.not_eq_true', decide_eq_false_iff_not, mem_awtL, awtB_iff]
    constructor
    · rintro (h | ⟨⟨h1, h2⟩, h3⟩)
      · exact .inl h
      · exact .inr ⟨h1, h2.2⟩
    · rintro (h | ⟨h1, h2⟩)
      · exact .inl h
      · by_cases q : k ∈ writesL w b
        · exact .inl q
        · exact .inr ⟨⟨h1, reachL_lt h1, h2⟩, q⟩
  refine sortU_perm ?_ hmem fun k hk => ?_
  · unfold busyP
    rw [List.nodup_append]
    refine ⟨nd (writesL_up w b), ((nd (reachL_up w b)).filter _).filter _, fun a ha c hc e => ?_⟩
    have := (List.mem_filter.mp hc).2
    rw [← e] at this
    simp [ha] at this
  · rcases List.mem_append.mp hk with hk | hk
    · exact writesL_lt hk
    · exact reachL_lt (List.mem_filter.mp hk).1
end Wk

/-! Core30: dict(zip(xs, ys)), xs pairs. -/
namespace DL
open PySem PySem.Spec PyProof.Rows L2 Wk
theorem kt_zip {H : Hp} : ∀ {ks : List (List Key × Addr)} {ys : List V} {us : List Value}, (∀ k ∈ ks, H k.2 = some (.tup (k.1.map kV))) → Vals ys us → ks.length = ys.length → KT H ((ks.map (·.1)).zip ys) (List.zipWith (fun k v => (k.1, k.2, v)) ks us)
  | [], _, _, _, .nil, _ => .nil
  | [], _, _, _, .cons _ _, h => by simp at h
  | _ :: _, _, _, _, .nil, h => by simp at h
  | k :: ks, _, _, hk, .cons r t, hl => .cons ⟨rfl, hk k List.mem_cons_self, r⟩ (kt_zip (fun k' h => hk k' (List.mem_cons_of_mem _ h)) t (by simpa using hl))
def tDZ (K : PySem.W.Frag) (ta : TA) : TE := fun σ H Q => ta σ H fun vs H1 => ∃ (a b : Addr) (ks : List (List Key × Addr)) (ys : List V), vs = [.ref a, .ref b] ∧ SqL K H1 a ((ks.map (·.2)).map V.ref) ∧ SqL K H1 b ys ∧ (∀ k ∈ ks, H1 k.2 = some (.tup (k.1.map kV))) ∧ ks.length = ys.length ∧ (ks.map (·.1)).Nodup ∧ ∀ p, H1 p = none → Q (.ref p) (upd H1 p (.dT ((ks.map (·.1)).zip ys)))
theorem pe_dictZip {X : Cx} {e1 e2 : Expr} {ta : TA} {p p2 pos pos2 : Pos} (hc : X.calm = true) (hu : X.A.units + 80 < cLine) (hg : Gl X "dict") (hm : X.mg "dict" = none) (hg2 : Gl X "zip") (hm2 : X.mg "zip" = none) (ha : PA X [e1, e2] ta)
    (hs : starEach [e1, e2] X.env = (false, eval e1 X.env) :: starEach [e2] X.env := by rfl) (hpl : (backTo pos2 (starEach [e2] X.env)).any (·.1) = false := by rfl)
    (hs2 : starEach [.Call (.Name "zip" p2) [e1, e2] [] pos2] X.env = (false, eval (.Call (.Name "zip" p2) [e1, e2] [] pos2) X.env) :: starEach [] X.env := by rfl) :
    PE X (.Call (.Name "dict" p) [.Call (.Name "zip" p2) [e1, e2] [] pos2] [] pos) (tDZ X.K ta) := by
  refine ⟨fun pins s σ H Q I h => ?_⟩
  refine wpAny_Call_Name_kw (ld_blt I hg hm PyProof.Rows.boot_dict ?_ (by decide) (by decide))
  refine PyProof.Rows.callWith_type1 ?_ hs2 rfl
  rw [hs2]
  show wpAny _ _ (spliced ((false, eval (.Call (.Name "zip" p2) [e1, e2] [] pos2) X.env) :: backTo pos (starEach [] X.env))) _ _ s
  refine Calls.spliced_cons ?_
  refine wpAny_Call_Name_kw (ld_blt I hg2 hm2 PyProof.Rows.boot_zip (PyProof.Rows.callWith_type1 (thn (ha.run pos2 pins s σ H _ I h) fun us s1 ⟨vs, H1, I1, r1, q1⟩ => ?_) hs hpl) (by decide) (by decide))
  obtain ⟨a, b, ks, ys, ex, hqx, hqy, hkt, hlen, hnd, q⟩ := q1
  subst ex
  obtain ⟨u1, u2, rfl, ra, rb⟩ := vals2 r1
  cases (show u1 = Value.ref a from ra)
  cases (show u2 = Value.ref b from rb)
  obtain ⟨its, rv, pl1, hz1⟩ := I1.list hqx
  obtain ⟨its2, rv2, pl2, hz2⟩ := I1.list hqy
  have la : a < s1.heap.objs.size := pl1.lt
  have lb : b < s1.heap.objs.size := pl2.lt
  have ei := refs_at rv
  have hl2 : its2.length = ks.length := by rw [← rv2.length, hlen]
  refine call_zip_2 pl1.isList pl2.isList fun h' hz hTI hTO h1 h2 hsz hk => ?_
  refine Calls.spliced_nil ?_
  have I2 : Inv X pins σ H1 { s1 with heap := h' } := I1.kept (t' := s1.toks) hk
  have low : ∀ {c : Addr} {o : Obj}, s1.heap.get? c = some o → c ∉ [s1.heap.objs.size + 4, s1.heap.objs.size + 3, s1.heap.objs.size, s1.heap.objs.size + 1] := fun {c o} e hmem => by
    have h1 := Heap.lt_size e
    simp only [List.mem_cons, List.not_mem_nil, or_false] at hmem
    rcases hmem with z | z | z | z
    · rw [z] at h1; exact absurd h1 (Nat.not_lt.mpr (Nat.le_add_right _ _))
    · rw [z] at h1; exact absurd h1 (Nat.not_lt.mpr (Nat.le_add_right _ _))
    · rw [z] at h1; exact absurd h1 (Nat.lt_irrefl _)
    · rw [z] at h1; exact absurd h1 (Nat.not_lt.mpr (Nat.le_add_right _ _))
  have hl1 : its.length = ks.length := by rw [ei, List.length_map, List.length_map]
  refine PySem.call_dict_pairsH (knd := tupleKind (mixKind X.prog X.w)) (n := min its.toArray.size its2.toArray.size) (ps := List.zipWith (fun k v => (k.1, k.2, v)) ks its2) (PairArg.zip (s1.heap.objs.size + 4) (s1.heap.objs.size + 2) (s1.heap.objs.size + 3) s1.heap.objs.size (s1.heap.objs.size + 1) a b (PySem.W.ktu_apart s1.heap.objs.size a b la lb) its.toArray its2.toArray)
    (I2.ok.hd hc) ?_ ⟨hz, hTI, ⟨_, _, hTO⟩, h1, h2, pl1.isList.at fun o e => hk _ o e, pl2.isList.at fun o e => hk _ o e⟩ ⟨?_, fun i key v hrel => ?_⟩ (fun h2' hk2 x hx => ?_) ?_ fun h3 tk hd3 hk3 => ?_
  · exact tupleKind_room_in1 (A := X.A.in1) (by show X.A.units + 1 + 1 < cLine; omega)
  · rw [List.length_zipWith, List.size_toArray, List.size_toArray, hl1]
  · obtain ⟨q1, q2⟩ := hrel
    rw [List.getElem?_toArray] at q1 q2
    rw [ei, List.getElem?_map, List.getElem?_map] at q1
    cases hk : ks[i]? with
    | none => rw [hk] at q1; cases q1
    | some k =>
      rw [hk] at q1
      exact ⟨k.1, k.2, by rw [List.getElem?_zipWith, hk, q2], (Option.some.inj q1).symm⟩
  · obtain ⟨k, hkm, v, rfl⟩ : ∃ k ∈ ks, ∃ v, (k.1, k.2, v) = x := by
      obtain ⟨i, hi, e⟩ := List.mem_iff_getElem.mp hx
      rw [List.getElem_zipWith] at e
      exact ⟨_, List.getElem_mem _, _, e⟩
    obtain ⟨o, items, n, ho, hcl, hd, hi⟩ := key_of I1.hok (hkt k hkm)
    have hne : k.2 ≠ h'.objs.size := fun z => by
      have h1 := Heap.lt_size ho
      rw [z, hsz] at h1
      exact absurd h1 (Nat.not_lt.mpr (Nat.le_add_right _ _))
    exact ⟨o, items, n, hk2 _ _ hne (low ho) (hk _ _ ho), hcl, hd, hi⟩
  · rw [List.size_toArray, List.size_toArray, hl1]
    rw [List.length_map, List.length_map] at hz1
    exact Nat.le_trans (Nat.min_le_left _ _) hz1
  · have fr : H1 h'.objs.size = none := I1.hok.fresh (by show s1.heap.objs.size ≤ h'.objs.size; rw [hsz]; exact Nat.le_add_right _ _)
    have hnd2 : ((List.zipWith (fun (k : List Key × Addr) (v : Value) => (k.1, k.2, v)) ks its2).map (·.1)).Nodup := by
      have e : (List.zipWith (fun (k : List Key × Addr) (v : Value) => (k.1, k.2, v)) ks its2).map (·.1) = ks.map (·.1) := by
        refine List.ext_getElem? fun i => ?_
        rw [List.getElem?_map, List.getElem?_zipWith, List.getElem?_map]
        cases hk : ks[i]? with
        | none => rfl
        | some k =>
          have : i < its2.length := by rw [hl2]; exact (List.getElem?_eq_some_iff.mp hk).1
          rw [List.getElem?_eq_getElem this]; rfl
      rw [e]; exact hnd
    rw [storedAllH_nil_of_nodup _ hnd2] at hd3
    obtain ⟨o, es, ep, g1, g2, g3, g4, _, g5⟩ := hd3
    refine ⟨.ref h'.objs.size, upd H1 h'.objs.size (.dT ((ks.map (·.1)).zip ys)), I1.laid (t' := tk) (fun c o e => hk3 c o (low e) (hk _ _ e)) (by show s1.heap.objs.size ≤ h'.objs.size; rw [hsz]; exact Nat.le_add_right _ _) ⟨?_, beq_eq_false_iff_ne.mpr (Nat.ne_of_gt (Nat.lt_of_lt_of_le I1.big (by show s1.heap.objs.size ≤ h'.objs.size; rw [hsz]; exact Nat.le_add_right _ _))), _, kt_zip (fun k hkm => ?_) rv2 hlen, o, es, ep, g1, g2, g3, g4, g5⟩, rfl, q _ fr⟩
    · rw [List.length_zip, List.length_map]
      rw [List.length_map, List.length_map] at hz1
      exact Nat.le_trans (Nat.min_le_left _ _) hz1
    · rw [upd_ne (ne_of_none (hkt k hkm) fr)]
      exact hkt k hkm
end DL
namespace DL
open PySem PySem.Spec PyProof.Rows L2 Wk
theorem pair_refs {K : PySem.W.Frag} {S : Hp} : ∀ {us : List V} {ps : List (Int × Int)}, Reps K S us (ps.map pairD) → ∃ ts : List Addr, us = ts.map V.ref ∧ ts.length = ps.length ∧ ∀ k ∈ (ps.map keyI).zip ts, S k.2 = some (.tup (k.1.map kV))
  | _, [], .nil => ⟨[], rfl, rfl, fun k h => by cases h⟩
  | _, p :: ps, .cons h t => by
    obtain ⟨ts, rfl, hl, hk⟩ := pair_refs t
    obtain ⟨a, xs, rfl, ha, rx⟩ := h.tup_inv
    obtain ⟨x, y, rfl, rx, ry⟩ := reps_two rx
    have ex := rx.int_inv
    have ey := ry.int_inv
    subst ex ey
    refine ⟨a :: ts, rfl, by rw [List.length_cons, List.length_cons, hl], fun k hm => ?_⟩
    rw [List.map_cons, List.zip_cons_cons] at hm
    rcases List.mem_cons.mp hm with rfl | hm
    · exact ha
    · exact hk k hm
section
variable {X : Cx} {Γ : VEnv} {M : Mem} {Q : D → Mem → Prop} {Ln Vn Bn Fn : List Str}
theorem we_dictZip {e1 e2 : Expr} {p p2 pos pos2 : Pos} (st : Stat X Ln Vn Bn Fn) (h1 : ("dict" : Str) ∈ Bn) (h2 : ("zip" : Str) ∈ Bn)
    (h : WA X Γ M [e1, e2] fun ds M1 => ∃ (d1 d2 : D) (ps : List (Int × Int)) (es : List D), ds = [d1, d2] ∧ IsR M1 d1 (ps.map pairD) ∧ IsR M1 d2 es ∧ ps.length = es.length ∧ ps.Nodup ∧ ∀ p, Q (.ref p) ((p, .dT ((ps.map keyI).zip es)) :: M1))
    (hs : starEach [e1, e2] X.env = (false, eval e1 X.env) :: starEach [e2] X.env := by rfl) (hpl : (backTo pos2 (starEach [e2] X.env)).any (·.1) = false := by rfl)
    (hs2 : starEach [.Call (.Name "zip" p2) [e1, e2] [] pos2] X.env = (false, eval (.Call (.Name "zip" p2) [e1, e2] [] pos2) X.env) :: starEach [] X.env := by rfl) : WE X Γ M (.Call (.Name "dict" p) [.Call (.Name "zip" p2) [e1, e2] [] pos2] [] pos) Q := by
  intro S σ H hΓ hM
  obtain ⟨g1, g2, _, _⟩ := st.blt _ h1
  obtain ⟨k1, k2, _, _⟩ := st.blt _ h2
  refine tE_of (pe_dictZip st.calm (by have := st.hu; omega) g1 g2 k1 k2 pa_c hs hpl hs2) (tA_post (h S σ H hΓ hM) fun ds M1 S1 vs H1 q s1 m1 r1 => ?_)
  obtain ⟨d1, d2, ps, es, rfl, i1, i2, hl, nd, q⟩ := q
  obtain ⟨v, w, rfl, rv, rw'⟩ := reps_two r1
  obtain ⟨a, us, rfl, ha, ru⟩ := i1.get m1 rv
  obtain ⟨b, ys, rfl, hb, ry⟩ := i2.get m1 rw'
  obtain ⟨ts, rfl, htl, hk⟩ := pair_refs ru
  have hyl := ry.length
  have f1 : ((ps.map keyI).zip ts).map (·.1) = ps.map keyI := List.map_fst_zip (by rw [List.length_map]; omega)
  have f2 : ((ps.map keyI).zip ts).map (·.2) = ts := List.map_snd_zip (by rw [List.length_map]; omega)
  refine ⟨a, b, (ps.map keyI).zip ts, ys, rfl, by rw [f2]; exact ha, hb, fun k hkm => m1.sub _ _ (hk k hkm), by rw [List.length_zip, List.length_map]; omega, by rw [f1]; exact List.pairwise_map.mpr (nd.imp fun h e => h (keyI_inj e)), fun p hp => ?_⟩
  rw [f1]
  refine ⟨_, _, S1, q p, s1, m1.alloc hp ⟨_, upd_same, ?_⟩, .ref p⟩
  refine ⟨?_, ?_⟩
  · rw [List.map_fst_zip (by rw [List.length_map]; omega), List.map_fst_zip (by rw [List.length_map]; omega)]
  · rw [List.map_snd_zip (by rw [List.length_map]; omega), List.map_snd_zip (by rw [List.length_map]; omega)]
    exact ry
theorem GetD.dtI {a : Addr} {f : Cell → Mem} {kvs : List (List Key × D)} {y : Int × Int} (h : At a M (.dT kvs) f) : GetD M (.ref a) (pairD y) (valA kvs (keyI y)) := ⟨a, f, rfl, .inr ⟨kvs, keyI y, h, rfl, rfl⟩⟩
end
end DL
namespace Wk
open DL PySem L2
/-- the count of a way -/
def cA (ys : List (Int × Int)) (cs : List Int) (y : Int × Int) : Int := (((ys.zip cs).find? fun p => decide (p.1 = y)).map (·.2)).getD 0
theorem cA_val : ∀ {ys : List (Int × Int)} {cs : List Int} {y : Int × Int}, ys.length = cs.length → y ∈ ys → valA ((ys.map keyI).zip (cs.map D.int)) (keyI y) = some (.int (cA ys cs y))
  | [], _, _, _, h => by cases h
  | _ :: _, [], _, h, _ => by simp at h
  | z :: ys, c :: cs, y, hl, h => by
    rw [List.map_cons, List.map_cons, List.zip_cons_cons, valA_cons]
    by_cases e : z = y
    · subst e
      rw [if_pos rfl]
      simp [cA]
    · rw [if_neg (fun q => e (keyI_inj q))]
      have hy : y ∈ ys := (List.mem_cons.mp h).resolve_left fun q => e q.symm
      rw [cA_val (by simpa using hl) hy]
      simp [cA, e]
theorem cA_zip {ys : List (Int × Int)} {cs : List Int} {i : Nat} {y : Int × Int} {c : Int} (nd : ys.Nodup) (hy : ys[i]? = some y) (hc : cs[i]? = some c) : cA ys cs y = c := by
  induction ys generalizing cs i with
  | nil => simp at hy
  | cons z ys ih =>
    cases cs with
    | nil => simp at hc
    | cons c0 cs =>
      rw [List.nodup_cons] at nd
      cases i with
      | zero =>
        simp only [List.getElem?_cons_zero, Option.some.injEq] at hy hc
        subst hy hc
        simp [cA]
      | succ i =>
        simp only [List.getElem?_cons_succ] at hy hc
        have hne : z ≠ y := fun q => nd.1 (q ▸ List.mem_of_getElem? hy)
        have := ih nd.2 hy hc
        rw [← this]
        simp [cA, hne]
end Wk

/-! Core31: maps over three names, isinstance(n, bool), sums. -/
namespace DL
open PySem PySem.Spec PyProof.Rows L2
section
variable {P : Program} {w : World} {K : PySem.W.Frag} {mg : Str → Option Value} {base : Heap} {X : Cx} {Γ Γb : VEnv} {M : Mem} {Q : D → Mem → Prop} {x : Str} {pos px : Pos} {elt iter : Expr} {scope sc : Scope} {own : List (Str × Nat)} {N Ln Bn Fn Bx Vb Bb Fb : List Str} {k : Nat} {α : Type}
theorem we_mapT3 {i i2 i3 : Nat} {z v : Str} {py2 py3 ptt : Pos} {kk : Nat} (l : List α) (ga gb gc hh : α → D) (own : List (Str × Nat)) (Vb Bb Fb : List Str) (bod : Bod P w K mg base k sc N Ln Bn Fn Bx X) (hc : (blkC N sc scope own && blkChk sc scope (own.map (·.1)) Vb Bb Fb Bx) = true) (hxi : (x, i) ∈ own) (hyj : (z, i2) ∈ own) (hvj : (v, i3) ∈ own) (hwp : Wiped Γ own Γb)
    (h : WI X Γ M (.Tuple [.Name x px, .Name z py2, .Name v py3] kk ptt) iter fun items Stb M1 => items = l.map (fun a => .tup [ga a, gb a, gc a]) ∧ l.length ≤ sizeLine ∧ (∀ L acc, Stb ((L, .lst acc) :: M1)) ∧ (∀ a ∈ l, ∃ Γ2 Γ3 Γ4, SetAt Γb x (ga a) Γ2 ∧ SetAt Γ2 z (gb a) Γ3 ∧ SetAt Γ3 v (gc a) Γ4 ∧ Each X scope (own.map (·.1)) Vb Bb Fb Γ4 M1 elt (hh a)) ∧ ∀ p, Q (.ref p) ((p, .lst (l.map hh)) :: M1))
    (hs : ∀ x, foldedSetIterable iter X.env x = pure x := by intro _; rfl) : WE X Γ M (.ListComp elt [⟨.Tuple [.Name x px, .Name z py2, .Name v py3] kk ptt, iter, [], 0⟩] scope pos) Q :=
  we_lcTM (xs := [x, z, v]) (is := [i, i2, i3]) (n := 3) l (fun a => [ga a, gb a, gc a]) hh bod.st (blk_of bod hc) (.cons hxi (.cons hyj (.cons hvj .nil))) hwp (pgs_n3 (blk_of bod hc).st (blk_of bod hc).ok hxi hyj hvj) (fun _ _ _ _ _ => ⟨rfl, rfl⟩)
    (wi_imp h fun _ _ _ ⟨h1, h2, h3, h4, h5⟩ => ⟨h1, h2, h3, fun a ha => let ⟨Γ2, Γ3, Γ4, q1, q2, q3, q4⟩ := h4 a ha; ⟨Γ4, ⟨rfl, .cons q1 (.cons q2 (.cons q3 .nil))⟩, mapT_of (blk_of bod hc) q4⟩, h5⟩) hs
end
theorem sum_perm {l m : List Int} (h : l.Perm m) : l.sum = m.sum := by
  induction h with
  | nil => rfl
  | cons a _ ih => rw [List.sum_cons, List.sum_cons, ih]
  | swap a b l => simp only [List.sum_cons]; omega
  | trans _ _ h1 h2 => exact h1.trans h2
theorem sum_add {α : Type} (f g : α → Int) (l : List α) : (l.map fun a => f a + g a).sum = (l.map f).sum + (l.map g).sum := by
  induction l with
  | nil => rfl
  | cons a l ih => simp only [List.map_cons, List.sum_cons, ih]; omega
theorem sum_zero {α : Type} (l : List α) : (l.map fun _ => (0 : Int)).sum = 0 := by
  induction l with
  | nil => rfl
  | cons a l ih => simp only [List.map_cons, List.sum_cons, ih]; omega
theorem sum_swap {α β : Type} (f : α → β → Int) (l : List α) (m : List β) : (l.map fun a => (m.map fun b => f a b).sum).sum = (m.map fun b => (l.map fun a => f a b).sum).sum := by
  induction l with
  | nil => simp only [List.map_nil, List.sum_nil, sum_zero]
  | cons a l ih => simp only [List.map_cons, List.sum_cons, ih, sum_add]
theorem sum_flat {α β : Type} (f : β → Int) (g : α → List β) (l : List α) : ((l.flatMap g).map f).sum = (l.map fun a => ((g a).map f).sum).sum := by
  induction l with
  | nil => rfl
  | cons a l ih => simp only [List.flatMap_cons, List.map_append, List.sum_append, List.map_cons, List.sum_cons, ih]
end DL
namespace DL
open PySem PySem.Spec PyProof.Rows L2
theorem we_isBoolI {X : Cx} {Γ : VEnv} {M : Mem} {Q : D → Mem → Prop} {Ln Vn Bn Fn : List Str} {p p2 pos : Pos} {e : Expr} (st : Stat X Ln Vn Bn Fn) (h1 : ("isinstance" : Str) ∈ Bn) (h2 : ("bool" : Str) ∈ Bn) (h : WE X Γ M e fun d M1 => ∃ n, d = .int n ∧ Q (.bl false) M1)
    (he : starEach [e, .Name "bool" p2] X.env = (false, eval e X.env) :: starEach [.Name "bool" p2] X.env := by rfl) (he2 : starEach [.Name "bool" p2] X.env = (false, eval (.Name "bool" p2) X.env) :: starEach [] X.env := by rfl) (hpl : (backTo pos (starEach [.Name "bool" p2] X.env)).any (·.1) = false := by rfl) :
    WE X Γ M (.Call (.Name "isinstance" p) [e, .Name "bool" p2] [] pos) Q := by
  intro S σ H hΓ hM
  obtain ⟨g1, g2, g3, g4⟩ := st.blt _ h1
  obtain ⟨k1, k2, k3, k4⟩ := st.blt _ h2
  refine tE_of (pe_callB call_isi g1 g2 PyProof.Rows.boot_isinstance (pa_cons pe_c (pa_cons (pe_bltn k1 k2 (by decide +kernel : bootBuiltins "bool" = some (.type "bool")) (v := .ty "bool") rfl k3 k4) pa_nil he2) he) g3 g4 he hpl) ?_
  refine tE_post (h S σ H hΓ hM) fun d M1 S1 v H1 ⟨z, e, q⟩ s1 m1 r1 => ?_
  subst e
  exact ⟨.int z, .ty "bool", .type "int", .type "bool", false, by rw [r1.int_inv], .ty _, .base (.int z), kit_ty (by decide +kernel), .bl false, M1, S1, q, s1, m1, .bl false⟩
end DL

/-! Core32: d.items(), sorted(d.items()), isinstance, dicts of owned lists -/
namespace DL
open PySem PySem.Spec PyProof.Rows L2 PySem.Calls
section
variable {X : Cx}
theorem mt_itemsK : MtR X "dict.items" (fun x xs H Q => ∃ (a : Addr) (kvs : List (Key × V)), x = .ref a ∧ xs = [] ∧ H a = some (.dK kvs) ∧ ∀ p, H p = none → Q (.ref p) (upd H p (DX.itemsO p a))) := by
  intro pins s σ H x xs v us Q I rx rxs h
  obtain ⟨a, kvs, rfl, rfl, ha, q⟩ := h
  cases rx
  cases rxs
  obtain ⟨z, hd, vs, rel, o, es, ep, ho, hx, hdat, _⟩ := dk_of I.hok ha
  refine DT.callItems (es := es) (ep := ep) hd ⟨o, ho, hx, hdat⟩ ?_
  have hf : H s.heap.objs.size = none := I.hok.fresh (Nat.le_refl _)
  exact ⟨.ref s.heap.objs.size, upd H s.heap.objs.size (DX.itemsO s.heap.objs.size a), I.laid (t' := s.toks) (fun b u e => Heap.get?_push_of_some _ e) (Nat.le_refl _) (DX.itemsO_ok (Heap.get?_push_size _ rfl)), rfl, q _ hf⟩
abbrev ItemsAt (H : Hp) (kvs : List (Key × V)) (ts : List Addr) : Prop := Paired (fun (kv : Key × V) t => H t = some (.tup [kV kv.1, kv.2])) kvs ts
theorem paired_of_get {α β : Type} {R : α → β → Prop} : ∀ {xs : List α} {ys : List β}, xs.length = ys.length → (∀ (j : Nat) (x : α) (y : β), xs[j]? = some x → ys[j]? = some y → R x y) → Paired R xs ys
  | [], [], _, _ => .nil
  | [], _ :: _, h, _ => by simp at h
  | _ :: _, [], h, _ => by simp at h
  | x :: xs, y :: ys, h, g => .cons (g 0 x y rfl rfl) (paired_of_get (by simpa using h) fun j a b h1 h2 => g (j + 1) a b (by simpa using h1) (by simpa using h2))
theorem prs_get {P : Program} {w : World} : ∀ {es : List DictEntry} {vs : List (Key × Value)} {j : Nat} {e : DictEntry}, Pairs (mixKind P w) es vs → es[j]? = some e → ∃ kv, vs[j]? = some kv ∧ RelV (kV kv.1) e.key ∧ e.val = kv.2
  | _, _, _, _, .nil, h => by simp at h
  | _, _, 0, _, .cons (e := e) (kv := kv) h1 h2 t, h => by
    simp at h; subst h
    refine ⟨kv, rfl, ?_, h2⟩
    rcases keyIs_shape h1 with ⟨i, t, e1, e2⟩ | ⟨x, t, e1, e2⟩
    · rw [e1, e2]; exact ⟨t, rfl⟩
    · rw [e1, e2]; exact ⟨t, rfl⟩
  | _, _, j + 1, _, .cons h1 h2 t, h => by
    obtain ⟨kv, a, b, c⟩ := prs_get (j := j) t (by simpa using h)
    exact ⟨kv, by simpa using a, b, c⟩
theorem prs_len {P : Program} {w : World} : ∀ {es : List DictEntry} {vs : List (Key × Value)}, Pairs (mixKind P w) es vs → es.length = vs.length
  | _, _, .nil => rfl
  | _, _, .cons _ _ t => by rw [List.length_cons, List.length_cons, prs_len t]
theorem kv_get {vs : List (Key × Value)} {kvs : List (Key × V)} : ∀ {j : Nat} {q : Key × Value}, KV kvs vs → vs[j]? = some q → ∃ x, kvs[j]? = some (q.1, x) ∧ RelV x q.2 := by
  intro j q r h
  obtain ⟨k, v⟩ := q
  exact KV.at' r h
theorem call_sortedItK {β : Type} {enc : β → PyData} (hc : X.calm = true) (hs0 : ∃ mm, X.base.Ns sysModules mm) (hu : X.A.units + 80 < cLine) (hal : ∀ b b', PySem.W.alike (enc b) (enc b') = true) (hk : ∀ b, ∃ x r, enc b = .tuple (x :: r)) (hdp : ∀ b, (enc b).depth ≤ 60) :
    CallR X (.builtin "sorted") (fun vs H R => ∃ (p a : Addr) (kvs : List (Key × V)) (bs : List β), vs = [V.ref p] ∧ H p = some (DX.itemsO p a) ∧ H a = some (.dK kvs) ∧
      (∀ H1 ts, Same H H1 → ItemsAt H1 kvs ts → All2 (fun x b => Dr H1 x (enc b)) (ts.map V.ref) bs) ∧
      ∀ H1 ts ys l, Same H H1 → ItemsAt H1 kvs ts → All2 (fun x b => x ∈ ts.map V.ref ∧ Dr H1 x (enc b)) ys (bs.mergeSort (PySem.W.dataLe false enc)) → H1 l = none → R (.ref l) (upd H1 l (.lst ys))) := by
  intro pins s σ H xs us R I r h
  obtain ⟨p, a, kvs, bs, rfl, hp, ha, hbs, q⟩ := h
  obtain rfl := Vals.ref1 r
  have view : s.heap.IsItemsView p a := (show ObjOk X.prog X.w H s.heap p (DX.itemsO p a) from I.hok p _ hp).1
  obtain ⟨z, hd, vs, rel, o, es, ep, ho, hx, hdat, _, hpr, _⟩ := dk_of I.hok ha
  have l1 : es.size = vs.length := by rw [← prs_len hpr, Array.length_toList]
  have l2 : kvs.length = vs.length := rel.length
  have hh : X.A.handled = none := I.ok.hd hc
  refine DT.sortedI (es := es) (ep := ep) hh view ⟨o, ho, hx, hdat⟩ (by omega) fun h' tk as hk' hlt hl hG => ?_
  have nd : as.Nodup := List.Pairwise.imp (fun h => Nat.ne_of_lt h) hG.rise
  have pr : ∀ (j : Nat) (b : Addr), as[j]? = some b → ∃ (kv : Key × V) (u1 u2 : Value), kvs[j]? = some kv ∧ RelV (kV kv.1) u1 ∧ RelV kv.2 u2 ∧ h'.get? b = some { cls := .type "tuple", data := .seq #[u1, u2] } := by
    intro j b hj
    obtain ⟨en, he, hg⟩ := hG.pairs j b hj
    rw [← Array.getElem?_toList] at he
    obtain ⟨q', hq', r1, e2⟩ := prs_get hpr he
    obtain ⟨x, hx', r2⟩ := kv_get rel hq'
    exact ⟨(q'.1, x), en.key, en.val, hx', r1, by rw [e2]; exact r2, hg⟩
  have I1 : Inv X pins σ H { s with heap := h', toks := tk } := I.kept hk'
  obtain ⟨H1, I2, g, qt⟩ := DX.takeT (P := fun b vs => ∃ (j : Nat) (kv : Key × V), as[j]? = some b ∧ kvs[j]? = some kv ∧ vs = [kV kv.1, kv.2]) I as H I1 nd fun b hb => by
    obtain ⟨j, hj⟩ := List.mem_iff_getElem?.mp hb
    obtain ⟨kv, u1, u2, h1, r1, r2, hg⟩ := pr j b hj
    have hbl : s.heap.objs.size ≤ b := Nat.le_of_lt (hG.above b hb)
    exact ⟨hbl, I.hok.fresh hbl, [kV kv.1, kv.2], ⟨j, kv, hj, h1, rfl⟩, fun H3 => ⟨(by rw [sizeLine_eq]; show 2 ≤ 16777216; omega), [u1, u2], .cons r1 (.cons r2 .nil), ⟨_, hg, rfl, 0, rfl⟩⟩⟩
  have hit : ItemsAt H1 kvs as := paired_of_get (by omega) fun j kv b h1 h2 => by
    obtain ⟨vs', ⟨j', kv', g1, g2, e⟩, g3⟩ := qt b (List.mem_of_getElem? h2)
    have eij : j = j' := (List.getElem?_inj (List.getElem?_eq_some_iff.mp h2).1 nd).mp (h2.trans g1.symm)
    subst eij
    have := Option.some.inj (h1.symm.trans g2)
    subst this
    rw [g3, e]
  have hal2 := hbs H1 as g hit
  have rv : Vals (as.map V.ref) (as.map Value.ref) := vals_refs _
  have hlen : (as.map Value.ref).length ≤ sizeLine := by rw [List.length_map]; omega
  have hoL : (h'.push { cls := .type "list", data := .seq (as.map Value.ref).toArray }).get? h'.objs.size = some (seqObj "list" (as.map Value.ref).toArray 0) := Heap.get?_push_size _ rfl
  have hal3 : All2 (fun x b => x ∈ as.map V.ref ∧ Dr H1 x (enc b)) (as.map V.ref) bs := by
    have g : ∀ {xs : List V} {bs : List β}, All2 (fun x b => Dr H1 x (enc b)) xs bs → (∀ x ∈ xs, x ∈ as.map V.ref) → All2 (fun x b => x ∈ as.map V.ref ∧ Dr H1 x (enc b)) xs bs := by
      intro xs bs h
      induction h with
      | nil => exact fun _ => .nil
      | cons h t ih => exact fun m => .cons ⟨m _ List.mem_cons_self, h⟩ (ih fun x hx => m x (List.mem_cons_of_mem _ hx))
    exact g hal2 fun x h => h
  have e := all2_vals hal3 rv
  generalize hh2 : h'.push { cls := .type "list", data := .seq (as.map Value.ref).toArray } = h2 at hoL ⊢
  have ka : ∀ b o, h'.get? b = some o → h2.get? b = some o := fun b o e => by rw [← hh2]; exact Heap.get?_push_of_some _ e
  have sz2 : h2.objs.size = h'.objs.size + 1 := by rw [← hh2]; exact size_push' _ _
  have keepL : ∀ b o, h'.get? b = some o → (PySem.W.sortingHeap h2 h'.objs.size (as.map Value.ref)).get? b = some o := fun b o e => by
    have hb : b < h'.objs.size := Heap.lt_size e
    exact PySem.W.sortingHeap_old (Nat.ne_of_lt hb) (ka _ _ e)
  have er : PySem.W.EachIs (fun u b => ∃ as', Reads (PySem.W.sortingHeap h2 h'.objs.size (as.map Value.ref)) u (enc b) as') (as.map Value.ref) bs := e.mono fun u b ⟨x, rx, _, px⟩ => by
    obtain ⟨as', h1, _⟩ := px.reads hs0 I2 rx
    exact ⟨as', PyProof.Rows.Reads.keeps keepL h1⟩
  have S := PySem.W.SortsAt.data (prog := X.prog) (w := X.w) (A := X.A.in1.in1) (s := { s with heap := PySem.W.sortingHeap h2 h'.objs.size (as.map Value.ref), toks := tk }) (PySem.W.each_map (R := fun v d => ∃ as', Reads (PySem.W.sortingHeap h2 h'.objs.size (as.map Value.ref)) v d as') enc er) (.of hal) (.tuples hk) (by
    intro d hd
    obtain ⟨b, _, rfl⟩ := List.mem_map.mp hd
    have := hdp b
    have eu : X.A.in1.in1.units = X.A.units + 2 := rfl
    omega)
  refine wpAny_call_entry PyProof.Rows.slot_list_sort ⟨_, hoL, rfl⟩ PyProof.Rows.entry_list_sort
    (PySem.W.list_sort_vals (s := { s with heap := h2, toks := tk }) hoL S hlen ⟨_, rfl, ?_⟩) (PyProof.Rows.args_list_sort _)
  obtain ⟨ys, ry, py⟩ := vals_all2 (PySem.W.sortVals_data false e er (.of hal))
  obtain ⟨e', he'⟩ := PyProof.Rows.sortedHeap_at (vs := as.map Value.ref) (out := (PySem.W.sortVals (PySem.W.dataKind (PySem.W.sortingHeap h2 h'.objs.size (as.map Value.ref)) (bs.map enc)) false (as.map Value.ref) (as.map Value.ref)).toArray) hoL
  refine ⟨.ref h'.objs.size, upd H1 h'.objs.size (.lst ys), I2.laid (t' := tk) (fun b u e => ?_) (Nat.le_refl _)
    (show ObjOk X.prog X.w _ _ _ (.lst ys) from ⟨?_, _, e', ry, he'⟩), rfl, q H1 as ys _ g hit py (I2.hok.fresh (Nat.le_refl _))⟩
  · have hb : b < h'.objs.size := Heap.lt_size e
    rw [PyProof.Rows.sortedHeap_old (Nat.ne_of_lt hb) (by rw [sz2]; exact Nat.lt_succ_of_lt hb)]
    exact ka _ _ e
  · rw [ry.length, PySem.W.sortVals_length false rfl]
    exact hlen
end
section
variable {K : PySem.W.Frag} {S S' H H' : Hp} {M : Mem}
theorem CellOk.up (e : Same H H') {a : Addr} : ∀ {c : Cell}, CellOk K S H a c → CellOk K S H' a c
  | .lst _, ⟨xs, h, r⟩ => ⟨xs, e _ _ h, r⟩
  | .dK _, ⟨xs, h, r⟩ => ⟨xs, e _ _ h, r⟩
  | .dT _, ⟨xs, h, r⟩ => ⟨xs, e _ _ h, r⟩
  | .set _ _, h => e _ _ h
  | .ins _ _ _, ⟨⟨dx, fs, h, r⟩, l⟩ => ⟨⟨dx, fs, e _ _ h, r⟩, l⟩
  | .raw _, h => ⟨e _ _ h.1, h.2⟩
  | .fzK _ _ _, ⟨h, r⟩ => ⟨e _ _ h, r⟩
theorem MO.up (m : MO K S M H) (e : Same H H') : MO K S M H' := ⟨fun a o h => e _ _ (m.sub _ _ h), fun p hp => ⟨(m.own p hp).1, (m.own p hp).2.up e⟩, m.nd⟩
end
end DL
namespace DL
open PySem PySem.Spec PyProof.Rows L2 Wk
/-- boxes with owned lists -/
abbrev Cs := List (Nat × Addr × List Nat)
def kvC (cs : Cs) : List (Key × D) := cs.map fun c => (Sum.inl (c.1 : Int), .ref c.2.1)
def memC (cs : Cs) : Mem := cellsN (cs.map (·.2))
def itC (cs : Cs) : List D := cs.map fun c => .tup [natD c.1, .ref c.2.1]
def encC (b : Nat × List Nat) : PyData := .tuple [.int (b.1 : Int), .list (b.2.map natP)]
section
variable {X : Cx} {M : Mem} {Q : D → Mem → Prop} {Ln Vn Bn Fn : List Str}
theorem md_items {a : Addr} {f : Cell → Mem} {kvs : List (Key × D)} (h : At a M (.dK kvs) f) (q : ∀ p, Q (.ref p) ((p, .raw (DX.itemsO p a)) :: M)) : MD X "dict.items" (.ref a) [] M Q := md_of mt_itemsK fun S H v xs rv rx m => by
  obtain ⟨us, hx, pk⟩ := m.at_ok h
  cases rx
  refine ⟨a, us, rv.ref_inv, rfl, hx, fun p hp => ?_⟩
  exact ⟨_, _, S, q p, .refl _, m.alloc hp (c := .raw (DX.itemsO p a)) ⟨upd_same, fun xs e => by cases e⟩, .ref p⟩
theorem alike_nats : ∀ (l m : List Nat), PySem.W.alikeAll (l.map natP) (m.map natP) = true
  | [], _ => by simp [PySem.W.alikeAll]
  | _ :: _, [] => by simp [PySem.W.alikeAll]
  | a :: l, b :: m => by
    show PySem.W.alikeAll (natP a :: l.map natP) (natP b :: m.map natP) = true
    rw [PySem.W.alikeAll, alike_nats l m]
    simp [natP, PySem.W.alike]
theorem depth_nats : ∀ (l : List Nat), PyData.depthAll (l.map natP) = 0
  | [] => by simp [PyData.depthAll]
  | a :: l => by
    show PyData.depthAll (natP a :: l.map natP) = 0
    rw [PyData.depthAll, depth_nats l]
    simp [natP, PyData.depth]
theorem all2_unmap {α β γ : Type} {R : α → γ → Prop} {g : β → γ} : ∀ {xs : List α} {bs : List β}, All2 R xs (bs.map g) → All2 (fun x b => R x (g b)) xs bs
  | _, [], h => by cases h; exact .nil
  | _, b :: bs, h => by cases h with | cons h t => exact .cons h (all2_unmap t)
theorem all2_mono {α β : Type} {R R' : α → β → Prop} : ∀ {xs : List α} {bs : List β}, All2 R xs bs → (∀ x b, b ∈ bs → R x b → R' x b) → All2 R' xs bs
  | _, _, .nil, _ => .nil
  | _, _, .cons h t, g => .cons (g _ _ List.mem_cons_self h) (all2_mono t fun x b hb => g x b (List.mem_cons_of_mem _ hb))
theorem dr_tup {H : Hp} {x : V} {ps : List PyData} (h : Dr H x (.tuple ps)) : ∃ t vs, x = .ref t ∧ H t = some (.tup vs) ∧ DrAll H vs ps := by
  cases h with
  | tup h r => exact ⟨_, _, rfl, h, r⟩
theorem dr_int {H : Hp} {x : V} {i : Int} (h : Dr H x (.int i)) : x = .int i := by
  cases h; rfl
theorem cd_sortedIt {p a : Addr} {cs : Cs} {fp fa : Cell → Mem} (st : Stat X Ln Vn Bn Fn) (hs : ∃ mm, X.base.Ns sysModules mm) (hp : At p M (.raw (DX.itemsO p a)) fp) (ha : At a M (.dK (kvC cs)) fa) (hcs : ∀ c ∈ cs, ∃ f, At c.2.1 M (.lst (c.2.2.map natD)) f)
    (hup : (cs.map (·.1)).Pairwise (· < ·)) (q : Q (.lst (itC cs)) M) : CD X (.builtin "sorted") [.ref p] M Q := by
  have hms : (cs.map fun c => (c.1, c.2.2)).mergeSort (PySem.W.dataLe false encC) = cs.map fun c => (c.1, c.2.2) := by
    refine List.mergeSort_of_pairwise ?_
    rw [List.pairwise_map]
    rw [List.pairwise_map] at hup
    refine hup.imp fun {c d} h => ?_
    show (!PySem.W.dataLt (encC (d.1, d.2.2)) (encC (c.1, c.2.2))) = true
    unfold encC
    rw [PySem.W.dataLt_pair (by simp [PySem.W.alike]) (by simp only [PySem.W.alike]; exact alike_nats _ _)]
    have : PyData.eqv (.int (d.1 : Int)) (.int (c.1 : Int)) = false := by
      simp [PyData.eqv]; omega
    rw [this, if_neg Bool.false_ne_true, PySem.W.dataLt_int]
    simp; omega
  refine cd_of (call_sortedItK (enc := encC) st.calm hs (by have := st.hu; omega) (fun b b' => by simp only [encC, PySem.W.alike, PySem.W.alikeAll]; rw [alike_nats]; rfl) (fun b => ⟨_, _, rfl⟩) (fun b => by simp only [encC, PyData.depth, PyData.depthAll, depth_nats]; omega)) fun S H xs rx m => ?_
  obtain ⟨v, rfl, rv⟩ := reps_one rx
  obtain ⟨us, hx, pk⟩ := m.at_ok ha
  have hpx : H p = some (DX.itemsO p a) := (m.at_ok hp).1
  refine ⟨p, a, us, cs.map fun c => (c.1, c.2.2), by rw [rv.ref_inv], hpx, hx, fun H1 ts e hit => ?_, fun H1 ts ys l e hit h2 hl => ?_⟩
  · -- each item reads as data
    have g : ∀ {cs : Cs} {us : List (Key × V)} {ts : List Addr}, PK X.K S us (kvC cs) → (∀ c ∈ cs, ∃ f, At c.2.1 M (.lst (c.2.2.map natD)) f) → ItemsAt H1 us ts → All2 (fun x b => Dr H1 x (encC b)) (ts.map V.ref) (cs.map fun c => (c.1, c.2.2)) := by
      intro cs
      induction cs with
      | nil =>
        intro us ts pk _ hit
        have : us = [] := by have := pk.length; simpa [kvC] using this
        subst this
        cases hit
        exact .nil
      | cons c cs ih =>
        intro us ts pk hc hit
        rcases pk.ind with ⟨rfl, h⟩ | ⟨k, v, d, kr, dr, rfl, e2, r, pk'⟩
        · simp [kvC] at h
        · have e2' : ((Sum.inl (c.1 : Int) : Key), D.ref c.2.1) :: kvC cs = (k, d) :: dr := e2
          obtain ⟨e3, rfl⟩ := List.cons.inj e2'
          obtain ⟨rfl, rfl⟩ := Prod.mk.inj e3
          cases hit with
          | @cons _ t _ ts' h1 h2 =>
            refine .cons ?_ (ih pk' (fun d hd => hc d (List.mem_cons_of_mem _ hd)) h2)
            obtain ⟨f, hf⟩ := hc c List.mem_cons_self
            have hcell := m.at_ok hf
            obtain ⟨ys, hy, ry⟩ := hcell
            have hd : Dr H1 (.ref c.2.1) (.list (c.2.2.map natP)) := by
              have pl : PyX M (.ref c.2.1) (.list (c.2.2.map natP)) := .ref hf (PyXs.of_map fun n _ => .int _)
              exact pl.dr (m.up e) (.ref _)
            have : v = .ref c.2.1 := r.ref_inv
            subst this
            exact .tup h1 (.cons (.int _) (.cons hd .nil))
    exact g pk hcs hit
  · rw [hms] at h2
    obtain ⟨S', s', m', ht⟩ := (m.up e).tupAll
    have key : ∀ x c, c ∈ cs → (x ∈ ts.map V.ref ∧ Dr H1 x (encC (c.1, c.2.2))) → Rep X.K S' x (.tup [natD c.1, .ref c.2.1]) := by
      rintro x c hc ⟨hx1, hx2⟩
      obtain ⟨t, vs, rfl, g1, g2⟩ := dr_tup hx2
      obtain ⟨t', ht', e1⟩ := List.mem_map.mp hx1
      obtain rfl : t' = t := by cases e1; rfl
      obtain ⟨j, hj⟩ := List.mem_iff_getElem?.mp ht'
      have hit' : ∀ {us : List (Key × V)} {ts : List Addr} {j : Nat} {t : Addr}, ItemsAt H1 us ts → ts[j]? = some t → ∃ kv, us[j]? = some kv ∧ H1 t = some (.tup [kV kv.1, kv.2]) := by
        intro us ts j t h
        induction h generalizing j with
        | nil => intro h; simp at h
        | cons h t ih =>
          intro hj
          cases j with
          | zero => simp at hj; subst hj; exact ⟨_, rfl, h⟩
          | succ j => obtain ⟨kv, a1, a2⟩ := ih (j := j) (by simpa using hj); exact ⟨kv, by simpa using a1, a2⟩
      obtain ⟨kv, k1, k2⟩ := hit' hit hj
      have ev := Option.some.inj (g1.symm.trans k2)
      obtain rfl : vs = [kV kv.1, kv.2] := by injection ev
      have hfst : (us.map (·.1))[j]? = some kv.1 := by rw [List.getElem?_map, k1]; rfl
      have hsnd : (us.map (·.2))[j]? = some kv.2 := by rw [List.getElem?_map, k1]; rfl
      rw [pk.1, List.getElem?_map] at hfst
      obtain ⟨kd, kd1, kd2⟩ := Option.map_eq_some_iff.mp hfst
      obtain ⟨d, d1, d2⟩ := pk.2.getV hsnd
      rw [List.getElem?_map, kd1] at d1
      have ed : kd.2 = d := Option.some.inj d1
      unfold kvC at kd1
      rw [List.getElem?_map] at kd1
      obtain ⟨c', c1, rfl⟩ := Option.map_eq_some_iff.mp kd1
      have hki : kv.1 = Sum.inl (c'.1 : Int) := kd2.symm
      cases g2 with
      | cons q1 q2 =>
        have e5 : kV kv.1 = V.int (c.1 : Int) := dr_int q1
        rw [hki] at e5
        have e6 : c'.1 = c.1 := by
          have : V.int (c'.1 : Int) = V.int (c.1 : Int) := e5
          injection this with this
          omega
        have e7 : c' = c := by
          obtain ⟨i, hi⟩ := List.mem_iff_getElem?.mp hc
          have nd : (cs.map (·.1)).Nodup := hup.imp fun h => Nat.ne_of_lt h
          have : j = i := (List.getElem?_inj (by rw [List.length_map]; exact (List.getElem?_eq_some_iff.mp c1).1) nd).mp (by rw [List.getElem?_map, List.getElem?_map, c1, hi]; show some c'.1 = some c.1; rw [e6])
          subst this
          exact Option.some.inj (c1.symm.trans hi)
        subst e7
        have hr : kv.2 = .ref c'.2.1 := by rw [← ed] at d2; exact d2.ref_inv
        refine .tup (ht _ _ k2) ?_
        rw [hki, hr]
        exact .cons (.int _) (.cons (.ref _) .nil)
    have reps : Reps X.K S' ys (itC cs) := all2_back (all2_mono (all2_unmap h2) key)
    exact (post_lst m' reps q l hl).weak s'
/-- what type a value has -/
inductive IsT (M : Mem) : D → String → Prop
  | non : IsT M .non "NoneType"
  | bl (b : Bool) : IsT M (.bl b) "bool"
  | int (i : Int) : IsT M (.int i) "int"
  | str (x : Str) : IsT M (.str x) "str"
  | lst {d : D} {ds : List D} (h : IsL M d ds) : IsT M d "list"
  | tup (ds : List D) : IsT M (.tup ds) "tuple"
  | dK {a : Addr} {f : Cell → Mem} {kvs : List (Key × D)} (h : At a M (.dK kvs) f) : IsT M (.ref a) "dict"
  | fzK {a : Addr} {f : Cell → Mem} {o : Obj} {us : List (Key × V)} {kvs : List (Key × D)} (h : At a M (.fzK o us kvs) f) : IsT M (.ref a) "dict"
theorem IsT.ty {K : PySem.W.Frag} {S H : Hp} {d : D} {T : String} (m : MO K S M H) (h : IsT M d T) {v : V} (r : Rep K S v d) : TyX K H v (.type T) := by
  cases h with
  | non => rw [r.non_inv]; exact .base .non
  | bl b => rw [r.bl_inv]; exact .base (.bl b)
  | int i => rw [r.int_inv]; exact .base (.int i)
  | str x => rw [r.str_inv]; exact .base (.str x)
  | lst h => obtain ⟨a, xs, rfl, hx, _⟩ := h.get m r; exact .base (.lst hx)
  | tup ds => obtain ⟨a, xs, rfl, hx, _⟩ := r.tup_get m; exact .base (.tup hx)
  | dK h => obtain ⟨us, hx, _⟩ := m.at_ok h; rw [r.ref_inv]; exact .base (.dK hx)
  | fzK h => obtain ⟨hx, _⟩ := m.at_ok h; rw [r.ref_inv]; exact .fDict hx
theorem we_isA {Γ : VEnv} {T : Str} {Ts : String} {p p2 pos : Pos} {e : Expr} (st : Stat X Ln Vn Bn Fn) (h1 : ("isinstance" : Str) ∈ Bn) (h2 : T ∈ Bn) (hT : bootBuiltins T = some (.type Ts)) (h : WE X Γ M e fun d M1 => ∃ t b, IsT M1 d t ∧ kitB t Ts = some b ∧ Q (.bl b) M1)
    (he : starEach [e, .Name T p2] X.env = (false, eval e X.env) :: starEach [.Name T p2] X.env := by rfl) (he2 : starEach [.Name T p2] X.env = (false, eval (.Name T p2) X.env) :: starEach [] X.env := by rfl) (hpl : (backTo pos (starEach [.Name T p2] X.env)).any (·.1) = false := by rfl) :
    WE X Γ M (.Call (.Name "isinstance" p) [e, .Name T p2] [] pos) Q := by
  intro S σ H hΓ hM
  obtain ⟨g1, g2, g3, g4⟩ := st.blt _ h1
  obtain ⟨k1, k2, k3, k4⟩ := st.blt _ h2
  refine tE_of (pe_callB call_isi g1 g2 PyProof.Rows.boot_isinstance (pa_cons pe_c (pa_cons (pe_bltn k1 k2 hT (v := .ty Ts) rfl k3 k4) pa_nil he2) he) g3 g4 he hpl) ?_
  refine tE_post (h S σ H hΓ hM) fun d M1 S1 v H1 ⟨t, b, hty, hk, q⟩ s1 m1 r1 => ?_
  exact ⟨v, .ty Ts, .type t, .type Ts, b, rfl, .ty _, hty.ty m1 r1, kit_ty hk, .bl b, M1, S1, q, s1, m1, .bl b⟩
/-- unlike keys one behind the other -/
theorem mergeA_new : ∀ (ps kvs : List (Key × D)), (ps.map (·.1)).Nodup → (∀ p ∈ ps, ∀ q ∈ kvs, q.1 ≠ p.1) → mergeA kvs ps = kvs ++ ps
  | [], kvs, _, _ => by simp [mergeA]
  | p :: ps, kvs, nd, h => by
    rw [List.map_cons, List.nodup_cons] at nd
    show mergeA (putA kvs p.1 p.2) ps = _
    rw [putA_new (h p List.mem_cons_self), mergeA_new ps _ nd.2 fun p' hp' q' hq' => ?_]
    · simp
    · rcases List.mem_append.mp hq' with hq' | hq'
      · exact h p' (List.mem_cons_of_mem _ hp') q' hq'
      · rw [List.mem_singleton] at hq'
        subst hq'
        exact fun e => nd.1 (List.mem_map.mpr ⟨p', hp', e.symm⟩)
theorem mergeA_C {cs : Cs} (h : (cs.map (·.1)).Nodup) : mergeA [] (kvC cs) = kvC cs := by
  rw [mergeA_new (kvC cs) [] ?_ (fun _ _ _ h => by cases h), List.nil_append]
  unfold kvC
  rw [List.map_map]
  have : (cs.map ((fun x : Key × D => x.1) ∘ fun c => ((Sum.inl (c.1 : Int) : Key), D.ref c.2.1))) = (cs.map (·.1)).map fun (n : Nat) => (Sum.inl (n : Int) : Key) := by rw [List.map_map]; rfl
  rw [this]
  exact List.Pairwise.map _ (fun a b hne e => hne (by have := Sum.inl.inj e; omega)) h
theorem itC_pairs (cs : Cs) : itC cs = (kvC cs).map fun p => .tup [kD p.1, p.2] := by
  unfold itC kvC
  rw [List.map_map]; rfl
end
end DL
namespace DL
open PySem PySem.Spec PyProof.Rows L2 Wk
section
variable {M : Mem} {d : D} {t : String}
theorem IsT.kit (h : IsT M d t) : kitB t "int" = some (t == "int" || t == "bool") ∧ kitB t "bool" = some (t == "bool") ∧ kitB t "list" = some (t == "list") ∧ kitB t "dict" = some (t == "dict") ∧ kitB t "str" = some (t == "str") ∧ kitB t "tuple" = some (t == "tuple") := by
  cases h <;> decide +kernel
theorem IsT.cons {q : Addr × Cell} (h : IsT M d t) : IsT (q :: M) d t := by
  cases h with
  | non => exact .non
  | bl b => exact .bl b
  | int i => exact .int i
  | str x => exact .str x
  | lst h => exact .lst (h.imp id fun ⟨a, f, e, g⟩ => ⟨a, _, e, .there g⟩)
  | tup ds => exact .tup ds
  | dK h => exact .dK (.there h)
  | fzK h => exact .fzK (.there h)
theorem IsL.cons {q : Addr × Cell} {ds : List D} (h : IsL M d ds) : IsL (q :: M) d ds := h.imp id fun ⟨a, f, e, g⟩ => ⟨a, _, e, .there g⟩
/-- a number, that is no truth -/
def isI : D → Bool
  | .int _ => true
  | _ => false
def intD : D → Int
  | .int i => i
  | _ => 0
theorem IsT.isI (h : IsT M d t) : isI d = (t == "int") := by
  cases h with
  | lst h => rcases h with rfl | ⟨_, _, rfl, _⟩ <;> rfl
  | _ => rfl
/-- a number from l on, below m -/
def amD (l m : Int) (d : D) : Bool := isI d && (decide (l ≤ intD d) && decide (intD d < m))
def riseD (m : Nat) (xs : List D) : Bool := xs.all (amD 0 m) && (List.range (xs.length - 1)).all fun k => decide (intD (xs.getD k .non) < intD (xs.getD (k + 1) .non))
def insD (m : Nat) (bs : List Nat) (xs : List D) : Bool := riseD m xs && bs.all fun k => decide ((k : Int) ∈ xs.map intD)
theorem amD_ints {l m : Int} {xs : List D} (h : xs.all (amD l m) = true) : xs = (xs.map intD).map D.int := by
  rw [List.map_map]
  refine (List.map_id' xs).symm.trans (List.map_congr_left fun x hx => ?_)
  have := List.all_eq_true.mp h x hx
  cases x <;> first | rfl | exact absurd this (by simp [amD, DL.isI])
theorem riseD_nats {m : Nat} {l : List Nat} (h : l.Pairwise (· < ·)) (hl : ∀ k ∈ l, k < m) : riseD m (l.map natD) = true := by
  unfold riseD
  rw [Bool.and_eq_true]
  refine ⟨List.all_eq_true.mpr fun x hx => ?_, List.all_eq_true.mpr fun k hk => ?_⟩
  · obtain ⟨n, hn, rfl⟩ := List.mem_map.mp hx
    have := hl n hn
    simp [amD, natD, DL.isI, intD]; omega
  · have hk := List.mem_range.mp hk
    rw [List.length_map] at hk
    have h1 : k < l.length := by omega
    have h2 : k + 1 < l.length := by omega
    have := List.pairwise_iff_getElem.mp h k (k + 1) h1 h2 (by omega)
    rw [List.getD_eq_getElem?_getD, List.getD_eq_getElem?_getD, List.getElem?_map, List.getElem?_map, List.getElem?_eq_getElem h1, List.getElem?_eq_getElem h2]
    simp [natD, intD, this]
theorem intD_nats (l : List Nat) : (l.map natD).map intD = l.map fun (n : Nat) => (n : Int) := by rw [List.map_map]; rfl
end
end DL

/-! Core33: d.clear(), x is True, cells of several plans -/
namespace DL
open PySem PySem.Spec PyProof.Rows L2 Wk
section
variable {X : Cx} {M : Mem} {Q : D → Mem → Prop} {Ln Vn Bn Fn : List Str} {Γ : VEnv} {sts : List Stmt} {E : DE}
theorem md_dclear {a : Addr} {f : Cell → Mem} {kvs : List (Key × D)} (h : At a M (.dK kvs) f) (q : Q .non (f (.dK []))) : MD X "dict.clear" (.ref a) [] M Q := md_of mtd_clear fun S H v xs rv rx m => by
  obtain ⟨us, hx, pk⟩ := m.at_ok h
  cases rx
  exact ⟨a, us, rv.ref_inv, rfl, hx, _, _, S, q, .refl _, m.write h (c' := .dK []) ⟨[], upd_same, .nil⟩, .non⟩
theorem op_isBB : OpR X (compareOp .Is) (fun x y H Q => ∃ a b, x = .bl a ∧ y = .bl b ∧ Q (.bl (a == b)) H) := by
  intro pins s σ H x y v u Q I rx ry h
  obtain ⟨a, b, rfl, rfl, q⟩ := h
  cases (show v = Value.bool a from rx)
  cases (show u = Value.bool b from ry)
  exact wpAny_is_plain rfl (fin_bl I q (by cases a <;> cases b <;> decide +kernel))
theorem op_notBB : OpR X (compareOp .IsNot) (fun x y H Q => ∃ a b, x = .bl a ∧ y = .bl b ∧ Q (.bl (!(a == b))) H) := by
  intro pins s σ H x y v u Q I rx ry h
  obtain ⟨a, b, rfl, rfl, q⟩ := h
  cases (show v = Value.bool a from rx)
  cases (show u = Value.bool b from ry)
  exact wpAny_isNot_plain rfl (fin_bl I q (by cases a <;> cases b <;> decide +kernel))
theorem od_isB {a b : Bool} (q : Q (.bl (a == b)) M) : OD X (compareOp .Is) (.bl a) (.bl b) M Q := od_of op_isBB fun S H x y rx ry m => ⟨a, b, rx.bl_inv, ry.bl_inv, .of m (.bl _) q⟩
theorem od_notB {a b : Bool} (q : Q (.bl (!(a == b))) M) : OD X (compareOp .IsNot) (.bl a) (.bl b) M Q := od_of op_notBB fun S H x y rx ry m => ⟨a, b, rx.bl_inv, ry.bl_inv, .of m (.bl _) q⟩
end
/-- plans with their cells -/
def plM (q : Addr × Cs) : Mem := (q.1, .dK (kvC q.2)) :: memC q.2
def plsM (qs : List (Addr × Cs)) : Mem := qs.flatMap plM
theorem at_memC {cs : Cs} {c : Nat × Addr × List Nat} (M : Mem) (h : c ∈ cs) : ∃ g, At c.2.1 (memC cs ++ M) (.lst (c.2.2.map natD)) g := at_of_mem (cs := cs.map fun (c : Nat × Addr × List Nat) => c.2) (c := c.2) M (List.mem_map.mpr ⟨c, h, rfl⟩)
theorem at_pls {q : Addr × Cs} {M : Mem} : ∀ {qs : List (Addr × Cs)}, q ∈ qs → (∃ f, At q.1 (plsM qs ++ M) (.dK (kvC q.2)) f) ∧ ∀ c ∈ q.2, ∃ g, At c.2.1 (plsM qs ++ M) (.lst (c.2.2.map natD)) g
  | p :: qs, h => by
    rw [show plsM (p :: qs) ++ M = (p.1, Cell.dK (kvC p.2)) :: (memC p.2 ++ (plsM qs ++ M)) from by simp [plsM, plM]]
    rcases List.mem_cons.mp h with rfl | h
    · exact ⟨⟨_, .here⟩, fun c hc => let ⟨g, hg⟩ := at_memC (plsM qs ++ M) hc; ⟨_, .there hg⟩⟩
    · obtain ⟨⟨f, hf⟩, hc⟩ := at_pls (M := M) h
      exact ⟨⟨_, .there (At.app hf _)⟩, fun c h => let ⟨g, hg⟩ := hc c h; ⟨_, .there (At.app hg _)⟩⟩
theorem pls_cons (p : Addr × Cs) (qs : List (Addr × Cs)) (M : Mem) : plsM (p :: qs) ++ M = (p.1, Cell.dK (kvC p.2)) :: (memC p.2 ++ (plsM qs ++ M)) := by simp [plsM, plM]
/-- lists to whose first j a number more has been put -/
def more (cs : Cs) (j : Nat) : List (Addr × List Nat) := cs.mapIdx fun i c => (c.2.1, if i < j then c.2.2 ++ [90 + i] else c.2.2)
theorem more_zero (cs : Cs) : cellsN (more cs 0) = memC cs := by
  unfold more memC
  congr 1
  exact List.ext_getElem? fun i => by rw [List.getElem?_mapIdx, List.getElem?_map]; simp
theorem more_get {cs : Cs} {i j : Nat} {c : Nat × Addr × List Nat} (h : cs[i]? = some c) : (more cs j)[i]? = some (c.2.1, if i < j then c.2.2 ++ [90 + i] else c.2.2) := by
  unfold more
  rw [List.getElem?_mapIdx, h]; rfl
theorem more_set {cs : Cs} {j : Nat} {c : Nat × Addr × List Nat} (h : cs[j]? = some c) : (more cs j).set j (c.2.1, c.2.2 ++ [90 + j]) = more cs (j + 1) := by
  refine List.ext_getElem? fun i => ?_
  have hj := (List.getElem?_eq_some_iff.mp h).1
  by_cases e : j = i
  · subst e
    rw [List.getElem?_set_self (by unfold more; rw [List.length_mapIdx]; exact hj), more_get h, if_pos (by omega)]
  · rw [List.getElem?_set_ne e]
    unfold more
    rw [List.getElem?_mapIdx, List.getElem?_mapIdx]
    cases cs[i]? with
    | none => rfl
    | some c' =>
      simp only [Option.map_some, Option.some.injEq, Prod.mk.injEq, true_and]
      by_cases q : i < j
      · rw [if_pos q, if_pos (by omega)]
      · rw [if_neg q, if_neg (by omega)]
end DL

/-! Core34: cells lent as if they stood for ever (we_borrow), owned slices, comprehensions in comprehensions that make cells -/
namespace DL
open PySem PySem.Spec PyProof.Rows L2
mutual
/-- lists in cells of C seen as lists -/
inductive Th (C : Mem) : D → D → Prop
  | same (d : D) : Th C d d
  | cell {a : Addr} {ds es : List D} : (a, Cell.lst ds) ∈ C → Ths C ds es → Th C (.ref a) (.lst es)
  | lst {ds es : List D} : Ths C ds es → Th C (.lst ds) (.lst es)
  | tup {ds es : List D} : Ths C ds es → Th C (.tup ds) (.tup es)
inductive Ths (C : Mem) : List D → List D → Prop
  | nil : Ths C [] []
  | cons {d e : D} {ds es : List D} : Th C d e → Ths C ds es → Ths C (d :: ds) (e :: es)
end
theorem Ths.of_map {C : Mem} {α : Type} {f g : α → D} {l : List α} (h : ∀ a ∈ l, Th C (f a) (g a)) : Ths C (l.map f) (l.map g) := by
  induction l with
  | nil => exact .nil
  | cons a l ih => exact .cons (h a List.mem_cons_self) (ih fun b hb => h b (List.mem_cons_of_mem _ hb))
theorem Ths.same {C : Mem} : ∀ (l : List D), Ths C l l
  | [] => .nil
  | d :: l => .cons (.same d) (Ths.same l)
section
variable {K : PySem.W.Frag} {S S2 H : Hp} {C : Mem}
mutual
theorem Th.rep (hC : ∀ a ds, (a, Cell.lst ds) ∈ C → ∃ xs, S a = some (.lst xs) ∧ Reps K S xs ds) : ∀ {d e : D}, Th C d e → ∀ {v : V}, Rep K S v d → Rep K S v e
  | _, _, .same d, _, r => r
  | _, _, .cell h t, v, r => by
    obtain ⟨xs, hx, rs⟩ := hC _ _ h
    rw [r.ref_inv]
    exact .lst hx (Ths.rep hC t rs)
  | _, _, .lst t, v, r => by
    obtain ⟨a, xs, rfl, hx, rs⟩ := r.lst_inv
    exact .lst hx (Ths.rep hC t rs)
  | _, _, .tup t, v, r => by
    obtain ⟨a, xs, rfl, hx, rs⟩ := r.tup_inv
    exact .tup hx (Ths.rep hC t rs)
theorem Ths.rep (hC : ∀ a ds, (a, Cell.lst ds) ∈ C → ∃ xs, S a = some (.lst xs) ∧ Reps K S xs ds) : ∀ {ds es : List D}, Ths C ds es → ∀ {vs : List V}, Reps K S vs ds → Reps K S vs es
  | _, _, .nil, _, .nil => .nil
  | _, _, .cons h t, _, .cons r rs => .cons (Th.rep hC h r) (Ths.rep hC t rs)
end
inductive ThE (C : Mem) : VEnv → VEnv → Prop
  | nil : ThE C [] []
  | cons {x : Str} {d e : D} {Γ Γ2 : VEnv} : Th C d e → ThE C Γ Γ2 → ThE C ((x, some d) :: Γ) ((x, some e) :: Γ2)
  | none {x : Str} {o : Option D} {Γ Γ2 : VEnv} : ThE C Γ Γ2 → ThE C ((x, o) :: Γ) ((x, none) :: Γ2)
theorem ThE.names {Γ Γ2 : VEnv} (h : ThE C Γ Γ2) : Γ2.map (·.1) = Γ.map (·.1) := by
  induction h with
  | nil => rfl
  | cons _ _ ih => rw [List.map_cons, List.map_cons, ih]
  | none _ ih => rw [List.map_cons, List.map_cons, ih]
theorem ThE.at {Γ Γ2 : VEnv} (h : ThE C Γ Γ2) : ∀ {i : Nat} {x : Str} {e : D}, Γ2[i]? = some (x, some e) → ∃ d, Γ[i]? = some (x, some d) ∧ Th C d e := by
  induction h with
  | nil => intro i x e h; simp at h
  | cons t _ ih =>
    intro i x e h
    cases i with
    | zero =>
      simp only [List.getElem?_cons_zero, Option.some.injEq, Prod.mk.injEq] at h
      obtain ⟨rfl, rfl⟩ := h
      exact ⟨_, rfl, t⟩
    | succ i => obtain ⟨d, a, b⟩ := ih (i := i) (by simpa using h); exact ⟨d, by simpa using a, b⟩
  | none _ ih =>
    intro i x e h
    cases i with
    | zero => simp at h
    | succ i => obtain ⟨d, a, b⟩ := ih (i := i) (by simpa using h); exact ⟨d, by simpa using a, b⟩
def flatD : D → Bool
  | .non | .bl _ | .int _ | .str _ | .ref _ => true
  | _ => false
def flatC : Cell → Bool
  | .lst ds => ds.all flatD
  | .dK kvs => kvs.all fun p => flatD p.2
  | _ => false
theorem flat_rep {S' : Hp} {v : V} {d : D} (f : flatD d = true) (r : Rep K S' v d) : Rep K S v d := by
  cases r <;> first | exact .non | exact .bl _ | exact .int _ | exact .str _ | exact .ref _ | cases f
theorem flat_reps {S' : Hp} : ∀ {vs : List V} {ds : List D}, ds.all flatD = true → Reps K S' vs ds → Reps K S vs ds
  | _, _, _, .nil => .nil
  | _, _, f, .cons r rs => by
    rw [List.all_cons, Bool.and_eq_true] at f
    exact .cons (flat_rep f.1 r) (flat_reps f.2 rs)
theorem flat_cell {S' : Hp} {a : Addr} {c : Cell} (f : flatC c = true) (h : CellOk K S' H a c) : CellOk K S H a c := by
  cases c with
  | lst ds =>
    obtain ⟨xs, hx, r⟩ := h
    exact ⟨xs, hx, flat_reps f r⟩
  | dK ds =>
    obtain ⟨xs, hx, r1, r2⟩ := h
    refine ⟨xs, hx, r1, flat_reps ?_ r2⟩
    rw [List.all_map]
    exact f
  | _ => exact absurd f Bool.false_ne_true
end
theorem we_borrow {X : Cx} {Γ Γ2 : VEnv} {M C R : Mem} {e : Expr} {Q : D → Mem → Prop} (pm : M.Perm (C ++ R)) (hΓ : ThE C Γ Γ2) (h : WE X Γ2 R e fun d M' => flatD d = true ∧ (∀ p ∈ M', flatC p.2 = true) ∧ Q d (C ++ M')) : WE X Γ M e Q := by
  intro S σ H hS hM
  have m := hM.perm pm
  have nd := m.nd
  rw [List.map_append, List.nodup_append] at nd
  obtain ⟨nd1, nd2, nd3⟩ := nd
  have hfree : ∀ p ∈ C, S p.1 = none := fun p hp => (m.own p (List.mem_append_left _ hp)).1
  obtain ⟨S2, hS2⟩ : ∃ S2 : Hp, ∀ b, S2 b = if b ∈ C.map (·.1) then H b else S b := ⟨fun b => if b ∈ C.map (·.1) then H b else S b, fun _ => rfl⟩
  have in2 : ∀ p ∈ C, S2 p.1 = H p.1 := fun p hp => by rw [hS2, if_pos (List.mem_map.mpr ⟨p, hp, rfl⟩)]
  have s2 : Same S S2 := fun b o e => by
    rw [hS2, if_neg]
    · exact e
    · intro hm
      obtain ⟨p, hp, rfl⟩ := List.mem_map.mp hm
      rw [hfree p hp] at e; cases e
  have sub2 : Same S2 H := fun b o e => by
    rw [hS2] at e
    split at e
    · exact e
    · exact m.sub _ _ e
  have hC : ∀ a ds, (a, Cell.lst ds) ∈ C → ∃ xs, S2 a = some (.lst xs) ∧ Reps X.K S2 xs ds := fun a ds hm => by
    obtain ⟨xs, hx, r⟩ := (m.own (a, Cell.lst ds) (List.mem_append_left _ hm)).2
    exact ⟨xs, (in2 _ hm).trans hx, r.mono s2⟩
  have m2 : MO X.K S2 R H := ⟨sub2, fun p hp => ⟨by
    rw [hS2, if_neg]
    · exact (m.own p (List.mem_append_right _ hp)).1
    · exact fun hm => nd3 _ hm _ (List.mem_map.mpr ⟨p, hp, rfl⟩) rfl, (m.own p (List.mem_append_right _ hp)).2.mono s2⟩, nd2⟩
  have sr2 : SR X S2 σ Γ2 := ⟨hS.len, by rw [hΓ.names]; exact hS.names, fun i x d hi => by
    obtain ⟨d', h1, t⟩ := hΓ.at hi
    obtain ⟨v, hv, r⟩ := hS.vals i x d' h1
    exact ⟨v, hv, t.rep hC (r.mono s2)⟩⟩
  refine tE_post (h S2 σ H sr2 m2) fun d M' S' v H' ⟨fd, fM, q⟩ s' m' r' => ?_
  have here : ∀ p ∈ C, ∃ o, H p.1 = some o ∧ S' p.1 = some o ∧ H' p.1 = some o := fun p hp => by
    obtain ⟨o, ho⟩ := (m.own p (List.mem_append_left _ hp)).2.there
    have e1 := s' _ _ ((in2 p hp).trans ho)
    exact ⟨o, ho, e1, m'.sub _ _ e1⟩
  refine ⟨d, C ++ M', S, q, .refl _, ⟨(s2.trans s').trans m'.sub, fun p hp => ?_, ?_⟩, flat_rep fd r'⟩
  · rcases List.mem_append.mp hp with hp | hp
    · obtain ⟨o, h1, _, h3⟩ := here p hp
      exact ⟨hfree p hp, (m.own p (List.mem_append_left _ hp)).2.heap (h3.trans h1.symm)⟩
    · refine ⟨?_, flat_cell (fM p hp) (m'.own p hp).2⟩
      cases hs : S p.1 with
      | none => rfl
      | some o =>
        have := (s2.trans s') _ _ hs
        rw [(m'.own p hp).1] at this; cases this
  · rw [List.map_append, List.nodup_append]
    refine ⟨nd1, m'.nd, fun a ha b hb e => ?_⟩
    subst e
    obtain ⟨p, hp, rfl⟩ := List.mem_map.mp ha
    obtain ⟨p', hp', e⟩ := List.mem_map.mp hb
    obtain ⟨o, _, h2, _⟩ := here p hp
    have := (m'.own p' hp').1
    rw [e, h2] at this; cases this
section
variable {P : Program} {w : World} {K : PySem.W.Frag} {mg : Str → Option Value} {base : Heap} {X : Cx} {Γ Γb : VEnv} {M : Mem} {Q : D → Mem → Prop} {x : Str} {pos px p2 : Pos} {e elt iter c : Expr} {scope sc : Scope} {own : List (Str × Nat)} {N Ln Vn Bn Fn Bx Vb Bb Fb : List Str} {k : Nat} {α : Type}
theorem we_sliceO {lo hi : Option Expr} (h : WE X Γ M e fun d M1 => WO X Γ M1 lo fun l M2 => WO X Γ M2 hi fun u M3 => ∃ ds, IsR M3 d ds ∧ ∀ p, Q (.ref p) ((p, .lst (cutD ds l u)) :: M3)) : WE X Γ M (.Subscript e (.Slice lo hi none p2) pos) Q := by
  intro S σ H hΓ hM
  refine tE_of (pe_slice sl_list pe_c (po_c lo) (po_c hi)) ?_
  refine tE_post (h S σ H hΓ hM) fun d M1 S1 x H1 q1 s1 m1 r1 => ?_
  refine tO_post q1 (hΓ.mono s1) m1 fun l M2 S2 H2 q2 s2 m2 => ?_
  refine tO_post q2 ((hΓ.mono s1).mono s2) m2 fun u M3 S3 H3 q3 s3 m3 => ?_
  obtain ⟨ds, hd, q⟩ := q3
  have rx := (r1.mono s2).mono s3
  have s13 := (s1.trans s2).trans s3
  obtain ⟨pa, us, rfl, h1, r1⟩ := hd.get m3 rx
  exact ⟨pa, us, rfl, h1, fun p hp => (post_own m3 (cut_rep r1 l u) q p hp).weak s13⟩
theorem we_stT2B {i j : Nat} {y : Str} {py ptt : Pos} {kk : Nat} (st : Stat X Ln Vn Bn Fn) (bl : Blk X scope own Vb Bb Fb) (hxi : (x, i) ∈ own) (hyj : (y, j) ∈ own) (hwp : Wiped Γ own Γb)
    (h : WI X Γ M (.Tuple [.Name x px, .Name y py] kk ptt) iter fun items Stb M1 => ∃ I : Nat → List D → Mem → Prop, I 0 [] M1 ∧ (∀ i acc M' L, I i acc M' → Stb ((L, .lst acc) :: M')) ∧
      (∀ i d acc M', items[i]? = some d → I i acc M' → acc.length < sizeLine ∧ ∃ d1 d2 Γ2 Γ3, d = .tup [d1, d2] ∧ SetAt Γb x d1 Γ2 ∧ SetAt Γ2 y d2 Γ3 ∧ ∀ X1, Inn X X1 scope (own.map (·.1)) Vb Bb Fb → ∀ L, WE X1 Γ3 ((L, .lst acc) :: M') elt fun d M4 => ∃ M5, M4 = (L, .lst acc) :: M5 ∧ I (i + 1) (acc ++ [d]) M5) ∧
      ∀ acc M', I items.length acc M' → ∀ p, Q (.ref p) ((p, .lst acc) :: M'))
    (hs : ∀ x, foldedSetIterable iter X.env x = pure x := by intro _; rfl) : WE X Γ M (.ListComp elt [⟨.Tuple [.Name x px, .Name y py] kk ptt, iter, [], 0⟩] scope pos) Q :=
  we_lcT (xs := [x, y]) (is := [i, j]) (n := 2) st.nil bl.st (.cons hxi (.cons hyj .nil)) bl.ok hwp (Nat.zero_le _) (pgs_n2 bl.st bl.ok hxi hyj) (fun _ _ _ _ _ => ⟨rfl, rfl⟩)
    (wi_imp h fun _ _ _ ⟨I, h1, h2, h3, h4⟩ => ⟨I, h1, h2, fun i d acc M' e q => let ⟨hl, d1, d2, Γ2, Γ3, ed, a, b, c⟩ := h3 i d acc M' e q; ⟨[d1, d2], Γ3, ed, rfl, .cons a (.cons b .nil), turn_of bl hl c⟩, h4⟩) hs
end
end DL
namespace DL
open PySem PySem.Spec PyProof.Rows L2 Wk
/-- works whose lists of deeds are owned -/
abbrev BA := Addr × Bk
abbrev OW := List BA
def refB (c : BA) : D := .tup [.ref c.1, c.2.2.d]
def cellB (c : BA) : Addr × Cell := (c.1, .lst (c.2.1.map Dd.d))
def OW.d (wa : OW) : D := .lst (wa.map refB)
def memW (wa : OW) : Mem := wa.map cellB
def OW.w (wa : OW) : W := wa.map (·.2)
def memWs (was : List OW) : Mem := was.flatMap memW
def wsA (was : List OW) : List W := was.map OW.w
theorem th_work {C : Mem} {wa : OW} (h : ∀ c ∈ memW wa, c ∈ C) : Th C (OW.d wa) (W.d wa.w) := by
  unfold OW.d W.d OW.w
  rw [List.map_map]
  exact .lst (Ths.of_map fun c hc => .tup (.cons (.cell (h _ (List.mem_map.mpr ⟨c, hc, rfl⟩)) (.same _)) (.cons (.same _) .nil)))
theorem th_works {C : Mem} {was : List OW} (h : ∀ c ∈ memWs was, c ∈ C) : Th C (.lst (was.map OW.d)) (Ws.d (wsA was)) := by
  unfold Ws.d wsA
  rw [List.map_map]
  exact .lst (Ths.of_map fun wa hw => th_work fun c hc => h c (List.mem_flatMap.mpr ⟨wa, hw, hc⟩))
end DL

/-! Core35: all memory lent; a deed put into an owned list -/
namespace DL
open PySem PySem.Spec PyProof.Rows L2 Wk
theorem we_lend {X : Cx} {Γ Γ2 : VEnv} {M : Mem} {e : Expr} {Q : D → Mem → Prop} (hΓ : ThE M Γ Γ2) (h : WE X Γ2 [] e fun d M' => flatD d = true ∧ (∀ p ∈ M', flatC p.2 = true) ∧ Q d (M' ++ M)) : WE X Γ M e Q :=
  we_gc (we_borrow (C := M) (R := []) (by rw [List.append_nil]) hΓ (h.imp fun d M' ⟨a, b, c⟩ => ⟨a, b, [], M' ++ M, List.perm_append_comm, c⟩))
theorem ThE.keep {C : Mem} : ∀ Γ : VEnv, ThE C Γ Γ
  | [] => .nil
  | (_, Option.some d) :: Γ => .cons (.same d) (ThE.keep Γ)
  | (_, Option.none) :: Γ => .none (ThE.keep Γ)
theorem flat_nats (l : List Nat) : flatC (.lst (l.map natD)) = true := by
  show (l.map natD).all flatD = true
  rw [List.all_map]
  exact List.all_eq_true.mpr fun _ _ => rfl
theorem perm_ex (ex A G : Mem) (x : Addr × Cell) : (ex ++ (A ++ (x :: G))).Perm (A ++ (x :: (ex ++ G))) :=
  (List.perm_append_comm_assoc ex A _).trans (List.Perm.append_left A List.perm_middle)
theorem at_memW {a : Addr} {dd : List Dd} {e : Nd} : ∀ {wa : OW} {k : Nat} (M : Mem), wa[k]? = some (a, (dd, e)) → ∃ g : Cell → Mem, At a (memW wa ++ M) (.lst (dd.map Dd.d)) g ∧ ∀ dd' : List Dd, g (.lst (dd'.map Dd.d)) = memW (wa.set k (a, (dd', e))) ++ M
  | [], _, _, h => by simp at h
  | c :: wa, 0, M, h => by
    simp only [List.getElem?_cons_zero, Option.some.injEq] at h
    subst h
    exact ⟨_, .here, fun dd' => rfl⟩
  | c :: wa, k + 1, M, h => by
    obtain ⟨g, h1, h2⟩ := at_memW (wa := wa) (k := k) M (by simpa using h)
    exact ⟨_, .there h1, fun dd' => by rw [h2 dd']; rfl⟩
theorem at_works {a : Addr} {dd : List Dd} {e : Nd} : ∀ {was : List OW} {n k : Nat} {wa : OW} (M : Mem), was[n]? = some wa → wa[k]? = some (a, (dd, e)) →
    ∃ g : Cell → Mem, At a (memWs was ++ M) (.lst (dd.map Dd.d)) g ∧ ∀ dd' : List Dd, g (.lst (dd'.map Dd.d)) = memWs (was.set n (wa.set k (a, (dd', e)))) ++ M
  | [], _, _, _, _, h, _ => by simp at h
  | w0 :: was, 0, k, wa, M, h, hk => by
    simp only [List.getElem?_cons_zero, Option.some.injEq] at h
    subst h
    obtain ⟨g, h1, h2⟩ := at_memW (memWs was ++ M) hk
    refine ⟨g, ?_, fun dd' => ?_⟩
    · show At a ((memW w0 ++ memWs was) ++ M) _ g
      rw [List.append_assoc]; exact h1
    · rw [h2 dd']
      show _ = (memW (w0.set k (a, (dd', e))) ++ memWs was) ++ M
      rw [List.append_assoc]
  | w0 :: was, n + 1, k, wa, M, h, hk => by
    obtain ⟨g, h1, h2⟩ := at_works (was := was) (n := n) M (by simpa using h) hk
    refine ⟨fun c => memW w0 ++ g c, ?_, fun dd' => ?_⟩
    · show At a ((memW w0 ++ memWs was) ++ M) _ _
      rw [List.append_assoc]; exact At.app h1 _
    · show memW w0 ++ g _ = (memW w0 ++ memWs (was.set n (wa.set k (a, (dd', e))))) ++ M
      rw [h2 dd', List.append_assoc]
/-- works in which one block has other deeds -/
theorem set_ok {was : List OW} {n k : Nat} {wa : OW} {a : Addr} {dd dd' : List Dd} {e : Nd} (h : WsOk (wsA was)) (hn : was[n]? = some wa) (hk : wa[k]? = some (a, (dd, e))) (hd : ∀ d ∈ dd', d.Ok was.length) (hl : dd'.length ≤ 24) :
    WsOk (wsA (was.set n (wa.set k (a, (dd', e))))) := by
  have e0 : (wsA was).length = was.length := List.length_map ..
  have e1 : (wsA (was.set n (wa.set k (a, (dd', e))))).length = (wsA was).length := by unfold wsA; rw [List.length_map, List.length_map, List.length_set]
  refine ⟨by rw [e1]; exact h.pos, by rw [e1]; exact h.len, fun w hw => ?_⟩
  rw [e1]
  obtain ⟨v, hv, rfl⟩ := List.mem_map.mp hw
  rcases List.mem_or_eq_of_mem_set hv with hv | rfl
  · exact h.ok _ (List.mem_map.mpr ⟨v, hv, rfl⟩)
  · have h0 := h.ok wa.w (List.mem_map.mpr ⟨wa, List.mem_of_getElem? hn, rfl⟩)
    refine h0.same ?_ fun b hb => ?_
    · unfold OW.w
      rw [List.map_map, List.map_map]
      refine List.ext_getElem? fun i => ?_
      rw [List.getElem?_map, List.getElem?_map]
      by_cases q : k = i
      · subst q
        rw [List.getElem?_set_self (List.getElem?_eq_some_iff.mp hk).1, hk]; rfl
      · rw [List.getElem?_set_ne q]
    · unfold OW.w at hb
      obtain ⟨c, hc, rfl⟩ := List.mem_map.mp hb
      rcases List.mem_or_eq_of_mem_set hc with hc | rfl
      · have hm : c.2 ∈ wa.w := List.mem_map.mpr ⟨c, hc, rfl⟩
        exact ⟨h0.dd _ hm, h0.few _ hm⟩
      · exact ⟨by rw [e0]; exact hd, hl⟩
end DL

/-! Core36: instances of the text's classes: attributes, methods, making them -/
namespace DL
open PySem PySem.Spec PyProof.Rows L2
/-- an attribute written -/
def putFD (f : Str) (v : D) : List (Str × D) → List (Str × D)
  | [] => [(f, v)]
  | (g, x) :: r => if g = f then (g, v) :: r else (g, x) :: putFD f v r
section
variable {K : PySem.W.Frag} {S S' H : Hp}
theorem PK.lookup {f : Str} : ∀ {kvs : List (Str × V)} {ds : List (Str × D)}, PK K S kvs ds → ∀ {d : D}, ds.lookup f = some d → ∃ v, kvs.lookup f = some v ∧ Rep K S v d := by
  intro kvs ds h
  induction ds generalizing kvs with
  | nil => intro d e; cases e
  | cons q ds ih =>
    intro d e
    rcases h.ind with ⟨_, e0⟩ | ⟨k, v, d0, kr, dr, rfl, e1, r, h2⟩
    · cases e0
    · cases e1
      rw [List.lookup_cons] at e
      rw [List.lookup_cons]
      cases hb : f == k with
      | true => rw [hb] at e; obtain rfl := Option.some.inj e; exact ⟨v, rfl, r⟩
      | false => rw [hb] at e; exact ih h2 e
theorem PK.lookup_none {f : Str} : ∀ {kvs : List (Str × V)} {ds : List (Str × D)}, PK K S kvs ds → ds.lookup f = none → kvs.lookup f = none := by
  intro kvs ds h
  induction ds generalizing kvs with
  | nil =>
    intro _
    have : kvs = [] := by have := h.length; simpa using this
    rw [this]; rfl
  | cons q ds ih =>
    intro e
    rcases h.ind with ⟨_, e0⟩ | ⟨k, v, d0, kr, dr, rfl, e1, r, h2⟩
    · cases e0
    · cases e1
      rw [List.lookup_cons] at e
      rw [List.lookup_cons]
      cases hb : f == k with
      | true => rw [hb] at e; cases e
      | false => rw [hb] at e; exact ih h2 e
theorem PK.putF {f : Str} {v : V} {d : D} (r : Rep K S v d) : ∀ {kvs : List (Str × V)} {ds : List (Str × D)}, PK K S kvs ds → PK K S (putF f v kvs) (putFD f d ds) := by
  intro kvs ds h
  induction ds generalizing kvs with
  | nil =>
    have : kvs = [] := by have := h.length; simpa using this
    rw [this]
    exact PK.cons r PK.nil
  | cons q ds ih =>
    rcases h.ind with ⟨_, e0⟩ | ⟨k, v0, d0, kr, dr, rfl, e1, r0, h2⟩
    · cases e0
    · cases e1
      unfold L2.putF putFD
      by_cases e : k = f
      · rw [if_pos e, if_pos e]; exact PK.cons r h2
      · rw [if_neg e, if_neg e]; exact PK.cons r0 (ih h2)
end
section
variable {X : Cx} {Γ : VEnv} {M : Mem} {Q : D → Mem → Prop} {o e value : Expr} {es : List Expr} {f m : Str} {pos pos' tpos apos : Pos} {E : DE} {Ln Vn Bn Fn : List Str}
theorem we_fld (h : WE X Γ M e fun d M1 => ∃ (a C : Addr) (fs : List (Str × D)) (lo : Hp) (g : Cell → Mem) (v : D), d = .ref a ∧ At a M1 (.ins C fs lo) g ∧ Cls X.K C ∧ NoAttr X.K C f ∧ fs.lookup f = some v ∧ Q v M1)
    (hb : attributeBase e f X.env (eval e X.env) = eval e X.env := by rfl) : WE X Γ M (.Attribute e f pos) Q := by
  intro S σ H hΓ hM
  refine tE_of (pe_fld pe_c hb) (tE_post (h S σ H hΓ hM) fun d M1 S1 x H1 ⟨a, C, fs, lo, g, v, ed, hat, c, n, l, q⟩ s1 m1 r1 => ?_)
  subst ed
  obtain ⟨⟨dx, us, hx, pk⟩, _⟩ := m1.at_ok hat
  obtain ⟨u, hu, ru⟩ := pk.lookup l
  exact ⟨a, C, dx, us, u, r1.ref_inv, hx, c, n, hu, v, M1, S1, q, s1, m1, ru⟩
theorem ws_fld (h : WE X Γ M value fun y M1 => WE X Γ M1 o fun d M2 => ∃ (a C : Addr) (fs : List (Str × D)) (lo : Hp) (g : Cell → Mem), d = .ref a ∧ At a M2 (.ins C fs lo) g ∧ Cls X.K C ∧ NoAttr X.K C f ∧ fs.length < 1000 ∧ E.nx Γ (g (.ins C (putFD f y fs) lo)))
    (hs : swapsWith value (some (.Attribute o f pos')) pos.line X.env = pure false := by rfl) : WS X Γ M (.Assign [.Attribute o f pos'] value pos) E := by
  intro S σ H hΓ hM
  refine tS_of (ps_fld pe_c pe_c hs) (tE_post (h S σ H hΓ hM) fun y M1 S1 v H1 q1 s1 m1 r1 => tE_post (q1 S1 σ H1 (hΓ.mono s1) m1) fun d M2 S2 x H2 ⟨a, C, fs, lo, g, ed, hat, c, n, hl, q⟩ s2 m2 r2 => ?_)
  subst ed
  obtain ⟨⟨dx, us, hx, pk⟩, lo2⟩ := m2.at_ok hat
  refine ⟨a, C, dx, us, r2.ref_inv, hx, c, n, by rw [pk.length]; exact hl, ?_⟩
  exact ⟨Γ, _, S2, q, s1.trans s2, (hΓ.mono s1).mono s2, m2.write hat (c' := .ins C (putFD f y fs) lo) ⟨⟨dx, _, upd_same, pk.putF (r1.mono s2)⟩, lo2⟩⟩
theorem ws_fldAdd (h : WE X Γ M o fun d M1 => ∃ (a C : Addr) (fs : List (Str × D)) (lo : Hp) (g : Cell → Mem) (i : Int), d = .ref a ∧ At a M1 (.ins C fs lo) g ∧ Cls X.K C ∧ NoAttr X.K C f ∧ fs.lookup f = some (.int i) ∧
      WE X Γ M1 value fun y M2 => ∃ (j : Int) (C' : Addr) (fs' : List (Str × D)) (lo' : Hp) (g' : Cell → Mem), y = .int j ∧ At a M2 (.ins C fs' lo') g' ∧ fs'.length < 1000 ∧ E.nx Γ (g' (.ins C (putFD f (.int (i + j)) fs') lo'))) : WS X Γ M (.AugAssign (.Attribute o f tpos) .Add value pos) E := by
  intro S σ H hΓ hM
  refine tS_of (ps_fldaug pe_c pe_c in_add) (tE_post (h S σ H hΓ hM) fun d M1 S1 x H1 ⟨a, C, fs, lo, g, i, ed, hat, c, n, l, hv⟩ s1 m1 r1 => ?_)
  subst ed
  obtain ⟨⟨dx, us, hx, pk⟩, _⟩ := m1.at_ok hat
  obtain ⟨u, hu, ru⟩ := pk.lookup l
  refine ⟨a, C, dx, us, u, r1.ref_inv, hx, c, n, hu, tE_post (hv S1 σ H1 (hΓ.mono s1) m1) fun y M2 S2 v H2 ⟨j, _, fs', lo', g', ey, hat', hl', q⟩ s2 m2 r2 => ?_⟩
  subst ey
  obtain ⟨⟨dx', us', hx', pk'⟩, lo2⟩ := m2.at_ok hat'
  refine ⟨i, j, ru.int_inv, r2.int_inv, dx', us', hx', by rw [pk'.length]; exact hl', ?_⟩
  exact ⟨Γ, _, S2, q, s1.trans s2, (hΓ.mono s1).mono s2, m2.write hat' (c' := .ins C (putFD f (.int (i + j)) fs') lo') ⟨⟨dx', _, upd_same, pk'.putF (.int _)⟩, lo2⟩⟩
end
/-- the method m of the class at C: n parameters beside self, keeping G -/
structure Ms (P : Program) (w : World) (K : PySem.W.Frag) (mg : Str → Option Value) (base : Heap) (k : Nat) (C : Addr) (m : Str) (n : Nat) (G : DSp) : Prop where
  ex : ∃ (f : Addr) (fd : FuncData) (ps : List Str), Cls K C ∧ Meth K C m f ∧ Binds K fd ps [] ∧ ps.length = n + 1 ∧ GOk P w K mg base k f fd ps (spD K (n + 1) G)
section
variable {X : Cx} {Γ : VEnv} {M : Mem} {Q : D → Mem → Prop} {o e : Expr} {es : List Expr} {m x : Str} {p pos apos : Pos} {Ln Vn Bn Fn : List Str} {k n : Nat} {C : Addr} {G : DSp}
theorem we_ms {pl : Sem Bool} (hm : Ms X.prog X.w X.K X.mg X.base k C m n G) (hr : Room k X.A) (st : Stat X Ln Vn Bn Fn) (h : WE X Γ M o fun d M1 => ∃ (a : Addr) (fs : List (Str × D)) (lo : Hp) (g : Cell → Mem), d = .ref a ∧ At a M1 (.ins C fs lo) g ∧ fs.lookup m = none ∧
      WA X Γ M1 (e :: es) fun ds M2 => ds.length = n ∧ G (d :: ds) M2 Q)
    (hst : starEach (e :: es) X.env = (false, eval e X.env) :: starEach es X.env := by rfl) (hpl : (backTo pos (starEach es X.env)).any (·.1) = false := by rfl)
    (ht : eval (.Call (.Attribute o m apos) (e :: es) [] pos) X.env = (do
      let ov ← eval o X.env
      standAt apos.atName
      let (f, first) ← holding [ov] (getMethod ov m pl)
      callWith pos f first (backTo pos (starEach (e :: es) X.env)) (backToKw pos (keywordEach [] X.env))) := by rfl) : WE X Γ M (.Call (.Attribute o m apos) (e :: es) [] pos) Q := by
  obtain ⟨f, fd, ps, c, hmm, hb, hn, Gk⟩ := hm.ex
  intro S σ H hΓ hM
  intro pins s I
  refine PySem.W.methodCall_KW (pl := pl) (thn (h S σ H hΓ hM pins s I) ?_) ht
  rintro u s1 ⟨x, H1, I1, rx, d, M1, S1, ⟨a, fs, lo, g, ed, hat, hl, ha⟩, s01, m1, r1⟩
  subst ed
  obtain rfl : x = .ref a := r1.ref_inv
  obtain rfl : u = Value.ref a := rx
  obtain ⟨⟨dx, us, hx, pk⟩, _⟩ := m1.at_ok hat
  refine getmeth_ok I1 hx c hmm (pk.lookup_none hl) ?_
  refine PySem.W.callWith_K (first := [.ref a]) (h₀ := X.base) I1.ok.mod.kin hmm.kp (thn (ha S1 σ H1 (hΓ.mono s01) m1 pos pins s1 I1) ?_) hst hpl
  rintro ys s2 ⟨vs, H2, I2, r, ds, M2, S2, ⟨hl2, q⟩, s12, m2, r2⟩
  exact ⟨I2.kIn, run_g (us := .ref a :: ys) (vs := .ref a :: vs) Gk st.gd hr hb I2 (.cons rfl r) ⟨by rw [List.length_cons, r2.length]; omega, S2, M2, .ref a :: ds, Q, m2, .cons (.ref a) r2, q, fun v H' z => z.weak (s01.trans s12)⟩⟩
theorem we_ms0 {pl : Sem Bool} (hm : Ms X.prog X.w X.K X.mg X.base k C m 0 G) (hr : Room k X.A) (st : Stat X Ln Vn Bn Fn) (h : WE X Γ M o fun d M1 => ∃ (a : Addr) (fs : List (Str × D)) (lo : Hp) (g : Cell → Mem), d = .ref a ∧ At a M1 (.ins C fs lo) g ∧ fs.lookup m = none ∧ G [d] M1 Q)
    (ht : eval (.Call (.Attribute o m apos) [] [] pos) X.env = (do
      let ov ← eval o X.env
      standAt apos.atName
      let (f, first) ← holding [ov] (getMethod ov m pl)
      callWith pos f first (backTo pos (starEach [] X.env)) (backToKw pos (keywordEach [] X.env))) := by rfl) : WE X Γ M (.Call (.Attribute o m apos) [] [] pos) Q := by
  obtain ⟨f, fd, ps, c, hmm, hb, hn, Gk⟩ := hm.ex
  intro S σ H hΓ hM
  intro pins s I
  refine PySem.W.methodCall_KW (pl := pl) (thn (h S σ H hΓ hM pins s I) ?_) ht
  rintro u s1 ⟨x, H1, I1, rx, d, M1, S1, ⟨a, fs, lo, g, ed, hat, hl, q⟩, s01, m1, r1⟩
  subst ed
  obtain rfl : x = .ref a := r1.ref_inv
  obtain rfl : u = Value.ref a := rx
  obtain ⟨⟨dx, us, hx, pk⟩, _⟩ := m1.at_ok hat
  refine getmeth_ok I1 hx c hmm (pk.lookup_none hl) ?_
  exact PySem.W.callWith_K0 (first := [.ref a]) I1.kIn hmm.kp (run_g (us := [.ref a]) (vs := [.ref a]) Gk st.gd hr hb I1 (.cons rfl .nil) ⟨rfl, S1, M1, [.ref a], Q, m1, .cons (.ref a) .nil, q, fun v H' z => z.weak s01⟩)
end
end DL

/-! Core37: the class Stopped(Exception) with its __init__: made, raised, its field read (began as a guide's worked proof, skel 42) -/
namespace PySem
namespace StopX
open PySem.W PySem.Calls PyProof.Rows PySem.HandSPX
/-! ### the text of __init__ -/
def iA (p1 p2 : Pos) : Arguments := { posonlyargs := [], args := [{ arg := "self", annotation := none, pos := p1 }, { arg := "state", annotation := none, pos := p2 }], vararg := none, kwonlyargs := [], kw_defaults := [], kwarg := none, defaults := [] }
def iB (q1 q2 q3 q4 : Pos) : List Stmt := [.Assign [.Attribute (.Name "self" q1) "state" q2] (.Name "state" q3) q4]
def iS : Scope := { kind := .function, names := [(PySem.Str.ofString "self", .local), (PySem.Str.ofString "state", .local)], isGenerator := false, isCoroutine := false, more := [] }
/-- what the written part says of Low, at C, and of its __init__, at fI -/
structure StopTxt (K : Frag) (mg : Str → Option Value) (C fI : Addr) : Prop where
  gC : mg "Stopped" = some (.ref C)
  cls : ∃ nm q N bs sn sub ab col dd k0 k1 k2 k3 k5, K.lookup C = some (excClassObj nm q C N bs PySem.ESX.exTail true sn sub ab col dd k0 k1 k2 k3 k5 "Exception.__new__")
  sa : findIn K (.ref C) "__setattr__" = some (some (.builtin "object.__setattr__"))
  ga : findIn K (.ref C) "__getattribute__" = some (some (.builtin "BaseException.__getattribute__"))
  gg : findIn K (.ref C) "__getattr__" = some none
  noN : findIn K (.ref C) "state" = some none
  iC : findIn K (.ref C) "__init__" = some (some (.ref fI))
  tC : typeIn K (.ref fI) = some (.type "function")
  kC : keepIn K (.ref C) = true
  exC : subIn K (.ref C) (.type "BaseException") = some true
  tyC : typeIn K (.ref C) = some (.type "type")
  hdC : hasDictIn K C = true
  te : exmOne K (.ref C) (.ref C) = some true
  fn : ∃ (oc : Value) (od : Option Addr) (doc pm : Value) (an : Option Addr) (cdv ct : Value) (osl : Array (Option Value)) (p1 p2 q1 q2 q3 q4 : Pos),
    K.lookup fI = some ⟨oc, od, .func (fnOf "__init__" "Stopped.__init__" (iA p1 p2) (iB q1 q2 q3 q4) iS .none .none doc pm an cdv ct), osl⟩ ∧ codeIn K cdv "Stopped.__init__" = true
theorem one_size (v : Value) : [v].length ≤ sizeLine := by
  rw [sizeLine_eq]
  exact (by decide : 1 ≤ 16777216)
theorem kept_but {K : Frag} {h h' : Heap} {x : Addr} (X : K.In h) (hx : K.lookup x = none) (k : ∀ b o, b ≠ x → h.get? b = some o → h'.get? b = some o) : K.In h' := fun a o e =>
  k a o (fun z => by rw [z, hx] at e; cases e) (X a o e)
theorem ldC {M : Model} {s : Shared} {name : Str} {scope : Scope} {L a : Addr} {cd : Value} {m : Str → Option Value} {x : Str} {pos : Pos} {v : Value} {Q : Value → Shared → Prop} {A : Around} {E : Value → Shared → Prop} (hn : s.heap.Ns L m) (hv : m x = some v) (h : Q v s)
    (hk : scope.kind = .function := by rfl) (hl : (envOfC name scope L a cd).kindOf x = some .local := by rfl) (hd : (x == ("__debug__" : Str)) = false := by decide) :
    wpAny M A (eval (.Name x pos) (envOfC name scope L a cd)) Q E s := wpAny_Name (wpAny_loadName_local hk hl hn hv h) hd
/-- what __init__ leaves of a fresh exception at x -/
structure InitEnd (h h' : Heap) (x C dx t1 : Addr) (v : Value) : Prop where
  keep : ∀ b o, b ≠ x → h.get? b = some o → h'.get? b = some o
  obj : h'.get? x = some { cls := .ref C, dict := some dx, data := .fields #[.ref t1, .none, .none, .none, .bool false, .none] }
  dbig : h.objs.size ≤ dx
  dne : dx ≠ x
  ns : h'.Ns1 dx (fun y => if y = "state" then some v else none)
/-- a made Low -/
structure OwnMade (h h' : Heap) (e C d : Addr) (v : Value) : Prop where
  keep : ∀ b o, h.get? b = some o → h'.get? b = some o
  new : h.objs.size ≤ e
  obj : ∃ oe vs, h'.get? e = some oe ∧ oe.cls = .ref C ∧ oe.dict = some d ∧ oe.data = .fields vs ∧ vs[1]? = some .none
  dbig : h.objs.size ≤ d
  dne : d ≠ e
  ns : h'.Ns1 d (fun y => if y = "state" then some v else none)
section
variable {prog : Program} {w : World} {A : Around} {E : Value → Shared → Prop} {R : Result → Shared → Prop} {s : Shared} {K : Frag} {mg : Str → Option Value} {C fI : Addr}
theorem stop_init (T : StopTxt K mg C fI) {x t0 : Addr} {v : Value} (X : K.In s.heap) (hlim : s.heap.NoLimit) (hx : s.heap.get? x = some (excO C t0)) (hnx : K.lookup x = none) (hroom : A.depth < recursionLimit)
    (hq : ∀ h' tk dx, InitEnd s.heap h' x C dx t0 v → R (.ok (.ret .none)) { s with heap := h', toks := tk }) :
    codeAny (model prog w) A (.call (.ref fI) ⟨[.ref x, v], []⟩) R s := by
  obtain ⟨oc, od, doc, pm, an, cdv, ct, osl, p1, p2, q1, q2, q3, q4, ho, hcd⟩ := T.fn
  obtain ⟨nm, q, N, bs, sn, sub, ab, col, dd, k0, k1, k2, k3, k5, hC⟩ := T.cls
  have hcl : clsIn K C = some { name := nm, bases := bs, mro := .ref C :: PySem.ESX.exTail, ns := N, qualname := q, hasDict := true, slotNames := sn, subclasses := sub, abstract := ab, collection := col, hasDel := false } := by unfold clsIn; rw [hC] <;> rfl
  refine Att.call_fn (binds := [("self", .ref x), ("state", v)]) X hlim ho hcd hroom (BindsTo.of_eq (by first | rfl | with_unfolding_all rfl)) (by first | rfl | decide | with_unfolding_all rfl) (fun s₁ IC => ?_) rfl rfl rfl
  obtain ⟨h₁, tk₁, rfl⟩ := IC.toInCall.same
  have k : ∀ b o, s.heap.get? b = some o → h₁.get? b = some o := IC.toInCall.keep
  have hn := IC.toInCall.ns
  have hxL : s.heap.objs.size ≠ x := Nat.ne_of_gt (Heap.lt_size hx)
  have X₁ : K.In h₁ := X.keeps k
  have hx₁ := k _ _ hx
  -- self.by = by
  show wpAny _ _ (execs _ _) _ _ _
  refine wpAny_execs_cons (plainObj_wpAny_Assign_Attribute ?_)
  refine ldC (v := v) hn (by first | rfl | with_unfolding_all rfl | kernel_rfl) (ldC (v := .ref x) hn (by first | rfl | with_unfolding_all rfl | kernel_rfl) ?_)
  refine set_plain X₁ (ox := excO C t0) (od := none) ⟨hx₁, rfl, rfl, trivial⟩ T.sa ?_
  refine PySem.ESX.osa_new X₁ hx₁ hcl rfl rfl T.noN (fun h₃ tk₃ dx k₃ dn dne hx₃ hn₃ => ?_)
  show wpAny _ _ (execs _ _) _ _ _
  have z : s.heap.objs.size < h₁.objs.size := hn.lt
  exact wpAny_execs_nil (hq h₃ tk₃ dx ⟨fun b o hb e => k₃ b o hb (k b o e), hx₃, Nat.le_of_lt (Nat.lt_of_lt_of_le z dn), dne, hn₃⟩)
theorem stop_made (T : StopTxt K mg C fI) {v : Value} (X : K.In s.heap) (hlim : s.heap.NoLimit) (hroom : A.depth + 1 < recursionLimit)
    (hq : ∀ h' tk e d, OwnMade s.heap h' e C d v → R (.ok (.ret (.ref e))) { s with heap := h', toks := tk }) :
    codeAny (model prog w) A (.call (.ref C) ⟨[v], []⟩) R s := by
  obtain ⟨nm, q, N, bs, sn, sub, ab, col, dd, k0, k1, k2, k3, k5, hC⟩ := T.cls
  obtain ⟨hp, g, dr, tk, os⟩ := s
  have k : ∀ b o, hp.get? b = some o → ((hp.push (kdv_tup [v])).push (excO C hp.objs.size)).get? b = some o := fun b o e => Heap.get?_push_of_some _ (Heap.get?_push_of_some _ e)
  have hget : ((hp.push (kdv_tup [v])).push (excO C hp.objs.size)).get? (hp.objs.size + 1) = some (excO C hp.objs.size) := by heap_get
  have hnx : K.lookup (hp.objs.size + 1) = none := by
    cases e : K.lookup (hp.objs.size + 1) with
    | none => rfl
    | some o =>
      have z : hp.get? (hp.objs.size + 1) = some o := X _ _ e
      exact absurd (Nat.lt_of_succ_lt (Heap.lt_size z)) (Nat.lt_irrefl _)
  refine call_own F.excBase_Exception (fun X => rfl) (X _ _ hC) (looks_findIn X T.iC) (fun self => bind_fn X self T.tC) (one_size v) ?_
  refine stop_init (s := ⟨(hp.push (kdv_tup [v])).push (excO C hp.objs.size), g, dr, tk, os⟩) T (X.keeps k) (hlim.keeps k) hget hnx ?_ fun h' tk' dx ⟨k', hx, dn, dne, hns⟩ => ?_
  · show A.depth + 1 < recursionLimit
    exact hroom
  · have old : ∀ b o, hp.get? b = some o → h'.get? b = some o := fun b o e => k' b o (Nat.ne_of_lt (Nat.lt_succ_of_lt (Heap.lt_size e))) (k b o e)
    have z : hp.objs.size + 1 + 1 ≤ dx := by
      first
        | (simpa only [Heap.size_push] using dn)
        | exact dn
        | (have q := dn; rw [Heap.size_push, Heap.size_push] at q; exact q)
    exact ⟨rfl, hq h' tk' (hp.objs.size + 1) dx ⟨old, Nat.le_succ _, ⟨_, _, hx, rfl, rfl, rfl, rfl⟩, Nat.le_trans (Nat.le_trans (Nat.le_succ _) (Nat.le_succ _)) z, dne, hns⟩⟩
end
end StopX
end PySem
namespace L2
open PySem PySem.Spec PyProof.Rows
theorem relO_stop {v : V} {v' : Value} (r : RelV v v') (f : Str) : RelO (List.lookup f [(("state" : Str), v)]) (if f = "state" then some v' else none) := by
  by_cases hw : f = "state"
  · subst hw
    rw [if_pos rfl]
    have q : List.lookup ("state" : Str) [(("state" : Str), v)] = some v := by simp [List.lookup]
    rw [q]
    exact r
  · rw [if_neg hw]
    have qw : (f == ("state" : Str)) = false := by simpa using hw
    have q2 : List.lookup f [(("state" : Str), v)] = none := by simp [List.lookup, qw]
    rw [q2]
    trivial
section
variable {X : Cx} {C fI : Addr}
/-- Low(e) -/
def tMkStop (C : Addr) (ta : TA) : St → Hp → XK → Prop := fun σ H Q => ta σ H fun vs H1 => ∃ v, vs = [v] ∧ ∀ d, H1 d = none → Q (.ref C) (some d) (upd H1 d (.xd [(("state" : Str), v)]))
theorem pmk_stop {a : Expr} {ta : TA} {p pos : Pos} {k : Nat} (T : PySem.StopX.StopTxt X.K X.mg C fI) (hr : Room k X.A) (ha : PA X [a] ta) (hg : Gl X "Stopped" := by rfl)
    (he : starEach (a :: []) X.env = (false, eval a X.env) :: starEach [] X.env := by rfl) (hpl : (backTo pos (starEach [] X.env)).any (·.1) = false := by rfl) :
    PMk X (.Call (.Name "Stopped" p) [a] [] pos) (tMkStop C ta) := by
  intro pins s σ H Q I h
  refine wpAny_Call_Name_kw (ld_glob I hg T.gC ?_)
  refine PySem.W.callWith_K (h₀ := X.base) I.ok.mod.kin T.kC (thn (ha.run pos pins s σ H _ I h) fun us s1 hh => ?_) he hpl
  obtain ⟨vs, H1, I1, r1, v, ev, q1⟩ := hh
  subst ev
  refine ⟨I1.kIn, ?_⟩
  cases r1 with
  | cons rv rn =>
    rename_i v' us'
    cases rn
    show wpAny _ _ (call (.ref C) [v']) _ _ _
    have hlim := I1.nolimit
    obtain ⟨hp, g, dr, tk, os⟩ := s1
    refine wpAny_call (PySem.StopX.stop_made T I1.kIn hlim (by have := hr.dp; omega) fun h' tk' e d M => ?_)
    show MkP X pins σ Q (.ref e) ⟨h', g, dr, tk', os⟩
    obtain ⟨oe, fv, hoe, hc, hd, hdat, h1⟩ := M.obj
    have hns := M.ns
    obtain ⟨G', g1, g2⟩ := restrict h' fun b => decide (b ≠ e)
    have gk : ∀ b, b ≠ e → G'.get? b = h'.get? b := fun b hb => g1 b (decide_eq_true hb)
    have ge : G'.get? e = none := g2 e (by simp)
    have old : ∀ b o, hp.get? b = some o → G'.get? b = some o := fun b o q => (gk b (Nat.ne_of_lt (Nat.lt_of_lt_of_le (Heap.lt_size q) M.new))).trans (M.keep b o q)
    have ob : ObjOk X.prog X.w (upd H1 d (.xd [(("state" : Str), v)])) G' d (.xd [(("state" : Str), v)]) :=
      ⟨_, hns.at (fun o q => (gk d M.dne).trans q), fun f => relO_stop rv f⟩
    have J : Inv X pins σ (upd H1 d (.xd [(("state" : Str), v)])) ⟨G', g, dr, tk', os⟩ := I1.laid (t' := tk') old M.dbig ob
    refine ⟨e, oe, fv, ⟨G', g, dr, tk', os⟩, _, .ref C, some d, rfl, J, fun b o q => ?_, ge, hoe, ⟨hc, hd⟩, hdat, h1, ?_, rfl, I1.bare, raises_own T.exC T.tyC, q1 d (I1.hok.fresh M.dbig)⟩
    · by_cases hb : b = e
      · have q' : G'.get? b = some o := q
        rw [hb, ge] at q'; cases q'
      · exact (gk b hb).symm.trans q
    · rw [upd_ne (Ne.symm M.dne)]
      exact I1.hok.fresh M.new
/-- raise Low(e) -/
def tRaiseStop (C : Addr) (W : WX) (ta : TA) : TS := fun _ σ H => tMkStop C ta σ H fun cls d H' => W cls d σ H'
theorem ps_raiseStop {a : Expr} {ta : TA} {W : WX} {p pos pos2 : Pos} {k : Nat} (hc : X.calm = true) (T : PySem.StopX.StopTxt X.K X.mg C fI) (hr : Room k X.A) (tk : Takes X W) (ha : PA X [a] ta) (hg : Gl X "Stopped" := by rfl)
    (he : starEach (a :: []) X.env = (false, eval a X.env) :: starEach [] X.env := by rfl) (hpl : (backTo pos (starEach [] X.env)).any (·.1) = false := by rfl) :
    PS X (.Raise (some (.Call (.Name "Stopped" p) [a] [] pos)) none pos2) (tRaiseStop C W ta) := ps_raise hc tk (pmk_stop T hr ha hg he hpl)
/-- low.by, low the exception that the suite holds (at a; its class cls, its dict d) -/
def tByStop (C : Addr) (a : Addr) (cls : Value) (d : Option Addr) (te : TE) : TE := fun σ H Q => te σ H fun x H1 => x = .ref a ∧ cls = .ref C ∧ ∃ (dd : Addr) (v : V), d = some dd ∧ H1 dd = some (.xd [(("state" : Str), v)]) ∧ Q v H1
theorem pe_byStop {a : Addr} {oe : Obj} {cls : Value} {d : Option Addr} {pn : List (Addr × Obj)} {e : Expr} {te : TE} {pos : Pos} (T : PySem.StopX.StopTxt X.K X.mg C fI) (hz : Zc cls d oe) (hf : ∃ vs, oe.data = .fields vs) (he : PE (X.suite a ((a, oe) :: pn)) e te)
    (hb : attributeBase e "state" X.env (eval e X.env) = eval e X.env := by rfl) :
    PE (X.suite a ((a, oe) :: pn)) (.Attribute e "state" pos) (tByStop C a cls d te) := by
  refine ⟨fun pins s σ H Q I h => ?_⟩
  refine attr_of hb (thn (he.run pins s σ H _ I h) fun u s1 hh => ?_)
  obtain ⟨x, H1, I1, rx, ex, ec, dd, v, ed, ea, q⟩ := hh
  subst ex
  obtain rfl : u = Value.ref a := rx
  subst ec
  subst ed
  obtain ⟨ha, _⟩ := I1.pin (a, oe) (List.mem_append_left _ List.mem_cons_self)
  obtain ⟨vs, hd⟩ := hf
  have hx : ObjOk X.prog X.w H1 s1.heap dd (.xd [(("state" : Str), v)]) := I1.hok dd _ ea
  obtain ⟨mA, hns, hr⟩ := hx
  obtain ⟨od, ho, hl⟩ := lookIn_ns hns
  have l : List.lookup ("state" : Str) [(("state" : Str), v)] = some v := by simp [List.lookup]
  obtain ⟨u, hu, ru⟩ := RelO.some_of (v := v) (o := mA "state") (by rw [← l]; exact hr "state")
  have J : PySem.W.InstAt s1.heap a oe C (some od) := ⟨ha, hz.1, by unfold PySem.W.notCls; rw [hd] <;> rfl, by rw [hz.2]; exact ho⟩
  exact HandSPX.exc_get I1.kIn J T.ga T.gg T.exC (PySem.W.findObj_own T.hdC T.noN rfl (by rw [hl, hu])) (handed_of ru) ⟨v, H1, I1.tok _, ru, q⟩
end
end L2


/-! Core38: defs that may raise Stopped: their promises, the raise, the calls, the try -/
namespace DL
open PySem PySem.Spec PyProof.Rows L2
section
variable {K : PySem.W.Frag} {S S' H H' : Hp} {M : Mem} {a : Addr} {c c' : Cell} {f : Cell → Mem}
/-- another word for what lies at a -/
theorem MO.recell (m : MO K S M H) (h : At a M c f) (new : CellOk K S H a c') : MO K S (f c') H := by
  obtain ⟨M1, e⟩ := h.perm
  have m1 : MO K S ((a, c) :: M1) H := (show MO K S (f c) H by rw [h.self]; exact m).perm (e c)
  have m2 : MO K S ((a, c') :: M1) H := ⟨m1.sub, fun p hp => by
    rcases List.mem_cons.mp hp with rfl | hp
    · exact ⟨(m1.own (a, c) List.mem_cons_self).1, new⟩
    · exact m1.own p (List.mem_cons_of_mem _ hp), m1.nd⟩
  exact m2.perm (e c').symm
end
/-- an error in the air: its state, its dict, the memory behind it -/
def PostZ (K : PySem.W.Frag) (Sg : Hp) (QX : Str → Mem → Prop) (z : Str) (d : Addr) (H : Hp) : Prop := ∃ M S', QX z M ∧ Same Sg S' ∧ MO K S' M H ∧ H d = some (.xd [("state", .str z)])
def EZ (K : PySem.W.Frag) (C0 : Addr) (Sg : Hp) (QX : Str → Mem → Prop) : XK := fun cls d H => ∃ z dd, cls = .ref C0 ∧ d = some dd ∧ PostZ K Sg QX z dd H
def WZ (n : Nat) (K : PySem.W.Frag) (C0 : Addr) (Sg : Hp) (QX : Str → Mem → Prop) : WX := fun cls d σ H => σ.length = n ∧ EZ K C0 Sg QX cls d H
/-- what a def that may raise does: arguments, memory, the ground that its instance's cell tells, what is wanted behind it, and of an error -/
abbrev DSpX := List D → Mem → Hp → (D → Mem → Prop) → (Str → Mem → Prop) → Prop
def spX (K : PySem.W.Frag) (C0 : Addr) (n : Nat) (G : DSpX) : Sp := fun vs H R E => vs.length = n ∧ ∃ S M ds Sg Q QX, MO K S M H ∧ Reps K S vs ds ∧ G ds M Sg Q QX ∧ (∀ v H', Post K S Q v H' → R v H') ∧ ∀ cls d H', EZ K C0 Sg QX cls d H' → E cls d H'
structure GOkX (P : Program) (w : World) (K : PySem.W.Frag) (mg : Str → Option Value) (base : Heap) (k : Nat) (f : Addr) (fd : FuncData) (ps : List Str) (sp : Sp) : Prop where
  len : ∀ vs H Q E, sp vs H Q E → vs.length = ps.length
  run : ∀ (A : Around), A.guards = some [] → ∀ (outer : List Env) (s : Shared) (H : Hp) (args : Args) (us : List Value) (vs : List V) (Q : VK) (E : XK),
    Room k A → Env0 P w K mg base A outer s H → BindsTo s fd args (ps.zip us) → Vals vs us → sp vs H Q E → codeAny (model P w) A (.call (.ref f) args) (CR (L2.CX P w) outer P w H s Q E) s
theorem run_gX {X : Cx} {pins : List (Addr × Obj)} {σ : L2.St} {H : Hp} {s : Shared} {R : VK} {E : XK} {us : List Value} {vs : List V} {k : Nat} {f : Addr} {fd : FuncData} {ps : List Str} {sp : Sp} (G : GOkX X.prog X.w X.K X.mg X.base k f fd ps sp) (gd : X.A.guards = some [])
    (hr : Room k X.A) (hb : Binds X.K fd ps []) (hx : PassesAt (L2.CX X.prog X.w) X σ E) (I : Inv X pins σ H s) (r : Vals vs us) (h : sp vs H R E) : wpAny (model X.prog X.w) X.A (call (.ref f) us) (EP X pins σ R) X.xe s := by
  have hl : (us ++ []).length = ps.length := by rw [List.append_nil, ← r.length]; exact G.len _ _ _ _ h
  have hbb := hb s us I.kIn hl
  rw [List.append_nil] at hbb
  refine wpAny_call (codeAny_mono (G.run X.A gd X.stack s H ⟨us, []⟩ us vs R E hr I.env0 hbb r h) fun r s' hq => ?_)
  cases r with
  | error e => exact hx pins H s e s' I hq
  | ok fl => cases fl <;> first | exact I.after hq | exact False.elim hq
structure MsX (P : Program) (w : World) (K : PySem.W.Frag) (mg : Str → Option Value) (base : Heap) (k : Nat) (C : Addr) (m : Str) (n : Nat) (C0 : Addr) (G : DSpX) : Prop where
  ex : ∃ (f : Addr) (fd : FuncData) (ps : List Str), Cls K C ∧ Meth K C m f ∧ Binds K fd ps [] ∧ ps.length = n + 1 ∧ GOkX P w K mg base k f fd ps (spX K C0 (n + 1) G)
section
variable {X : Cx} {Γ : VEnv} {M : Mem} {Q : D → Mem → Prop} {QX : Str → Mem → Prop} {Sg : Hp} {o e : Expr} {es : List Expr} {m x : Str} {p pos apos : Pos} {Ln Vn Bn Fn : List Str} {k n : Nat} {C C0 : Addr} {G : DSpX} {E : DE}
theorem we_mx {pl : Sem Bool} (hm : MsX X.prog X.w X.K X.mg X.base k C m n C0 G) (hr : Room k X.A) (st : Stat X Ln Vn Bn Fn) (tk : Takes X (WZ X.N.length X.K C0 Sg QX)) (h : WE X Γ M o fun d M1 => ∃ (a : Addr) (fs : List (Str × D)) (lo : Hp) (g : Cell → Mem), d = .ref a ∧ At a M1 (.ins C fs lo) g ∧ fs.lookup m = none ∧
      WA X Γ M1 (e :: es) fun ds M2 => ds.length = n ∧ G (d :: ds) M2 Sg Q QX)
    (hst : starEach (e :: es) X.env = (false, eval e X.env) :: starEach es X.env := by rfl) (hpl : (backTo pos (starEach es X.env)).any (·.1) = false := by rfl)
    (ht : eval (.Call (.Attribute o m apos) (e :: es) [] pos) X.env = (do
      let ov ← eval o X.env
      standAt apos.atName
      let (f, first) ← holding [ov] (getMethod ov m pl)
      callWith pos f first (backTo pos (starEach (e :: es) X.env)) (backToKw pos (keywordEach [] X.env))) := by rfl) : WE X Γ M (.Call (.Attribute o m apos) (e :: es) [] pos) Q := by
  obtain ⟨f, fd, ps, c, hmm, hb, hn, Gk⟩ := hm.ex
  intro S σ H hΓ hM
  intro pins s I
  refine PySem.W.methodCall_KW (pl := pl) (thn (h S σ H hΓ hM pins s I) ?_) ht
  rintro u s1 ⟨x, H1, I1, rx, d, M1, S1, ⟨a, fs, lo, g, ed, hat, hl, ha⟩, s01, m1, r1⟩
  subst ed
  obtain rfl : x = .ref a := r1.ref_inv
  obtain rfl : u = Value.ref a := rx
  obtain ⟨⟨dx, us, hx, pk⟩, _⟩ := m1.at_ok hat
  refine getmeth_ok I1 hx c hmm (pk.lookup_none hl) ?_
  refine PySem.W.callWith_K (first := [.ref a]) (h₀ := X.base) I1.ok.mod.kin hmm.kp (thn (ha S1 σ H1 (hΓ.mono s01) m1 pos pins s1 I1) ?_) hst hpl
  rintro ys s2 ⟨vs, H2, I2, r, ds, M2, S2, ⟨hl2, q⟩, s12, m2, r2⟩
  exact ⟨I2.kIn, run_gX (us := .ref a :: ys) (vs := .ref a :: vs) (E := EZ X.K C0 Sg QX) Gk st.gd hr hb (fun pins H s e s' J c => tk e s' (XE.of_call J (fun cls d H' z => ⟨hΓ.len, z⟩) c)) I2 (.cons rfl r)
    ⟨by rw [List.length_cons, r2.length]; omega, S2, M2, .ref a :: ds, Sg, Q, QX, m2, .cons (.ref a) r2, q, fun v H' z => z.weak (s01.trans s12), fun _ _ _ z => z⟩⟩
theorem we_mx0 {pl : Sem Bool} (hm : MsX X.prog X.w X.K X.mg X.base k C m 0 C0 G) (hr : Room k X.A) (st : Stat X Ln Vn Bn Fn) (tk : Takes X (WZ X.N.length X.K C0 Sg QX)) (h : WE X Γ M o fun d M1 => ∃ (a : Addr) (fs : List (Str × D)) (lo : Hp) (g : Cell → Mem), d = .ref a ∧ At a M1 (.ins C fs lo) g ∧ fs.lookup m = none ∧ G [d] M1 Sg Q QX)
    (ht : eval (.Call (.Attribute o m apos) [] [] pos) X.env = (do
      let ov ← eval o X.env
      standAt apos.atName
      let (f, first) ← holding [ov] (getMethod ov m pl)
      callWith pos f first (backTo pos (starEach [] X.env)) (backToKw pos (keywordEach [] X.env))) := by rfl) : WE X Γ M (.Call (.Attribute o m apos) [] [] pos) Q := by
  obtain ⟨f, fd, ps, c, hmm, hb, hn, Gk⟩ := hm.ex
  intro S σ H hΓ hM
  intro pins s I
  refine PySem.W.methodCall_KW (pl := pl) (thn (h S σ H hΓ hM pins s I) ?_) ht
  rintro u s1 ⟨x, H1, I1, rx, d, M1, S1, ⟨a, fs, lo, g, ed, hat, hl, q⟩, s01, m1, r1⟩
  subst ed
  obtain rfl : x = .ref a := r1.ref_inv
  obtain rfl : u = Value.ref a := rx
  obtain ⟨⟨dx, us, hx, pk⟩, _⟩ := m1.at_ok hat
  refine getmeth_ok I1 hx c hmm (pk.lookup_none hl) ?_
  exact PySem.W.callWith_K0 (first := [.ref a]) I1.kIn hmm.kp (run_gX (us := [.ref a]) (vs := [.ref a]) (E := EZ X.K C0 Sg QX) Gk st.gd hr hb (fun pins H s e s' J c => tk e s' (XE.of_call J (fun cls d H' z => ⟨hΓ.len, z⟩) c)) I1 (.cons rfl .nil)
    ⟨rfl, S1, M1, [.ref a], Sg, Q, QX, m1, .cons (.ref a) .nil, q, fun v H' z => z.weak s01, fun _ _ _ z => z⟩)
/-- raise Stopped(e) -/
theorem ws_raiseS {fI : Addr} {a : Expr} {pos2 : Pos} (T : PySem.StopX.StopTxt X.K X.mg C0 fI) (hr : Room k X.A) (st : Stat X Ln Vn Bn Fn) (tk : Takes X (WZ X.N.length X.K C0 Sg QX)) (hxF : ("Stopped" : Str) ∈ Fn)
    (h : WE X Γ M a fun d M1 => ∃ (z : Str) (b C : Addr) (fs : List (Str × D)) (g : Cell → Mem), d = .str z ∧ At b M1 (.ins C fs Sg) g ∧ QX z M1)
    (he : starEach (a :: []) X.env = (false, eval a X.env) :: starEach [] X.env := by rfl) (hpl : (backTo pos (starEach [] X.env)).any (·.1) = false := by rfl) :
    WS X Γ M (.Raise (some (.Call (.Name "Stopped" p) [a] [] pos)) none pos2) E := by
  intro S σ H hΓ hM
  refine tS_of (ps_raiseStop st.calm T hr tk (pa_cons pe_c pa_nil he) (st.gfn _ hxF).1 he hpl) ?_
  refine tE_post (h S σ H hΓ hM) fun d M1 S1 v H1 ⟨z, b, C, fs, g, ed, hat, q⟩ s1 m1 r1 => ?_
  subst ed
  have hlo := (m1.at_ok hat).2
  refine ⟨v, rfl, fun dd hd => ⟨hΓ.len, z, dd, rfl, rfl, M1, S1, q, hlo, m1.up (fun b' o' e' => ?_), ?_⟩⟩
  · rw [upd_ne (fun q => by rw [q, hd] at e'; cases e')]; exact e'
  · rw [r1.str_inv]; exact upd_same
theorem Stat.tr (st : Stat X Ln Vn Bn Fn) {pn : List (Addr × Obj)} {xe : Value → Shared → Prop} (po : PassesOwn (model X.prog X.w) X.A X.env xe) : Stat (X.tr pn xe) Ln Vn Bn Fn := ⟨st.calm, st.vis, po, st.nd, st.loc, st.blt, st.gfn, st.hu, st.gd⟩
/-- try: body except Stopped as n: return n.state -/
theorem ws_tryS {fI a C : Addr} {i : Nat} {nm : Str} {body : List Stmt} {np p1 p2 p3 pos' : Pos} {fs : List (Str × D)} {lo0 : Hp} {g : Cell → Mem} (hs : X.stack = X.env :: X.outer) (hf : X.env.frame = some X.env.locals) (st : Stat X Ln Vn Bn Fn) (T : PySem.StopX.StopTxt X.K X.mg C0 fI) (hxF : ("Stopped" : Str) ∈ Fn)
    (hi : X.N[i]? = some nm) (hln : X.env.kindOf nm = some .local) (hv : nm ∈ Vn) (hat : At a M (.ins C fs lo0) g)
    (hb : ∀ (pn : List (Addr × Obj)) (xe : Value → Shared → Prop) (lo : Hp), PassesOwn (model X.prog X.w) X.A X.env xe → Takes (X.tr pn xe) (WZ X.N.length X.K C0 lo QX) → WSs (X.tr pn xe) Γ (g (.ins C fs lo)) body E) (hq : ∀ z M', QX z M' → E.rt (.str z) M')
    (hat2 : attributeBase (.Name nm p1) "state" X.env (eval (.Name nm p1) X.env) = eval (.Name nm p1) X.env := by rfl) :
    WS X Γ M (.Try body [.ExceptHandler (some (.Name "Stopped" np)) (some nm) [.Return (some (.Attribute (.Name nm p1) "state" p2)) p3] pos'] [] [] pos) E := by
  intro S σ H hΓ hM
  have hx := hM.at_ok hat
  have m' : MO X.K S (g (.ins C fs S)) H := hM.recell hat ⟨hx.1, .refl _⟩
  have hil : i < X.N.length := (List.getElem?_eq_some_iff.mp hi).1
  refine tS_of (ps_try_as (i := i) (tb := fun W D σ H => ∀ pn xe, Takes (X.tr pn xe) W → PassesOwn (model X.prog X.w) X.A X.env xe → tSs (X.tr pn xe) body D σ H) (ts := fun a cls d => tRet (tByStop C0 a cls d (tVar i))) (Wout := fun _ _ _ _ => False) hs hf st.nd hi hln ⟨(st.gfn _ hxF).1, (st.gfn _ hxF).2, .inl T.gC⟩
    (fun _ _ x => by obtain ⟨_, _, _, _, _, _, _, _, _, _, _, _, _, _, _, _, z⟩ := x; exact z.elim) (fun W pn xe tk po => ⟨fun pins s σ H D I h => h pn xe tk po pins s I⟩) (fun b oe cls d pn hz hfv => pss_one (ps_ret (pe_byStop T hz hfv (pe_var hi (.inl hln) (st.vis _ hv).2.1 (st.vis _ hv).2.2) hat2)))) ?_
  intro pn xe tk po
  have conv : ∀ (Q : VEnv → Mem → Prop) (σ : L2.St) (H : Hp), PostG (X.tr pn xe) S Q σ H → PostG X S Q σ H := fun Q σ H ⟨Γ, M, S', q, s, r, m⟩ => ⟨Γ, M, S', q, s, ⟨r.len, r.names, r.vals⟩, m⟩
  suffices main : tSs (X.tr pn xe) body (ends (X.tr pn xe) S E) σ H from fun pins s I => thn (main pins s I) fun fl s' q => SP.imp q (conv _) (fun _ _ z => z) (conv _) (conv _)
  refine hb pn xe S po (Takes.imp tk ?_) S σ H ⟨hΓ.len, hΓ.names, hΓ.vals⟩ m'
  rintro cls d σ' H' ⟨hl, z, dd, rfl, rfl, M', S', q, s', mz, hd⟩
  refine ⟨true, T.te, fun _ b hb0 => ?_, fun q => Bool.noConfusion q⟩
  exact ⟨.ref b, by rw [List.getElem?_set_self (by omega)], rfl, rfl, dd, .str z, rfl, hd, .str z, M', S', hq z M' q, s', mz, .str z⟩
end
end DL
namespace DL
open PySem PySem.Spec PyProof.Rows L2
section
variable {P : Program} {w : World} {K : PySem.W.Frag} {mg : Str → Option Value} {base : Heap}
/-- the context of the body of a def that may raise -/
structure BodX (P : Program) (w : World) (K : PySem.W.Frag) (mg : Str → Option Value) (base : Heap) (k : Nat) (sc : Scope) (N Ln Bn Fn Bx : List Str) (C0 : Addr) (Sg : Hp) (QX : Str → Mem → Prop) (X : Cx) : Prop where
  bod : Bod P w K mg base k sc N Ln Bn Fn Bx X
  tk : Takes X (WZ X.N.length X.K C0 Sg QX)
theorem Bod.ms {k : Nat} {sc : Scope} {N Ln Bn Fn Bx : List Str} {X : Cx} (b : Bod P w K mg base k sc N Ln Bn Fn Bx X) {j n : Nat} {C : Addr} {m : Str} {G : DSp} (h : Ms P w K mg base j C m n G) : Ms X.prog X.w X.K X.mg X.base j C m n G := by
  rw [b.pr, b.wd, b.fr, b.mg, b.base]; exact h
theorem Bod.mx {k : Nat} {sc : Scope} {N Ln Bn Fn Bx : List Str} {X : Cx} (b : Bod P w K mg base k sc N Ln Bn Fn Bx X) {j n : Nat} {C C0 : Addr} {m : Str} {G : DSpX} (h : MsX P w K mg base j C m n C0 G) : MsX X.prog X.w X.K X.mg X.base j C m n C0 G := by
  rw [b.pr, b.wd, b.fr, b.mg, b.base]; exact h
theorem gok_bodyX {x qual : Str} {sd : Stmt} {f C0 : Addr} {fd : FuncData} {N Ln ps Bn Fn Bx : List Str} {k n : Nat} {G : DSpX} (F : Fun K x qual sd f fd) (S : FnScope N ps (defScope sd)) (hn : ps.length = n) (c : defChk (defScope sd) Ln Bn Fn Bx = true) (hB : ∀ x ∈ Bx, mg x = none)
    (h : ∀ (X : Cx) (ds : List D) (M : Mem) (Sg : Hp) (Q : D → Mem → Prop) (QX : Str → Mem → Prop), BodX P w K mg base k (defScope sd) N Ln Bn Fn Bx C0 Sg QX X → G ds M Sg Q QX → WSs X (startE N ds) M (defBody sd) { nx := fun _ M' => Q .non M', rt := Q }) : GOkX P w K mg base (k + 1) f fd ps (spX K C0 n G) := by
  obtain ⟨oc, od, kV, doc, pm, an, cdv, ct, osl, rfl, lk, hcd⟩ := F.ex
  have len : ∀ vs H Q E, spX K C0 n G vs H Q E → vs.length = ps.length := fun vs H Q E h => h.1.trans hn.symm
  refine ⟨len, fun A gd outer s H args us vs R E hr e0 hb r hsp => ?_⟩
  have hl := len _ _ _ _ hsp
  have keep : ∀ b o, base.get? b = some o → s.heap.get? b = some o := fun b o e => (e0.bs b o e).1
  have KX : K.In s.heap := e0.mod.kin.keeps keep
  have lim : s.heap.NoLimit := e0.mod.nolimit.keeps keep
  refine codeAny_call_function hr.depth (KX _ _ lk) rfl S.co S.gen rfl (PySem.W.codeRec_of KX hcd) (hb _ _ _ _ ?_)
  refine wpAny_newFunctionEnv_cells S.kind (fun ⟨m, v⟩ hy => (S.par m (List.of_mem_zip hy).1).imp id fun q => ⟨q, PySem.W.cellsFrom_some _ _ _ (.inl q)⟩) fun env he s1 x1 => ?_
  subst he
  refine ⟨lim.keeps x1.toInCall.keep, codeAny_func ?_⟩
  have I := inv_start (CX := L2.CX P w) (E := E) S hr.hd e0 hl r x1
  generalize hX : (cxOf (L2.CX P w) P w K mg base N qual (defScope sd) f cdv A outer s H E) = X0 at I
  obtain ⟨_, S0, M0, ds, Sg, Q, QX, m0, r0, g0, hR, hE⟩ := hsp
  have hc := c
  unfold defChk at hc
  simp only [Bool.and_eq_true, List.all_eq_true] at hc
  obtain ⟨c0, ⟨c1, c2⟩, c3⟩ := hc
  have room := hr.deeper (envOfC qual (defScope sd) s.heap.objs.size f cdv)
  have hK : X0.K = K := by subst hX; rfl
  have hln : (start N vs).length = N.length := by
    have := I.loc
    unfold L2.start
    have hv : vs.length ≤ N.length := by
      have := congrArg List.length S.pre
      rw [List.length_take] at this
      omega
    simp only [List.length_append, List.length_map, List.length_replicate]
    omega
  have bod : BodX P w K mg base k (defScope sd) N Ln Bn Fn Bx C0 Sg QX X0 := by
    subst hX
    refine ⟨⟨⟨rfl, fun y hy => ?_, passes_of rfl, S.nd, fun y hy => ?_, fun y hy => ?_, fun y hy => ?_, ?_, gd⟩, rfl, rfl, room, S.kind, fun q => q, rfl, hB, rfl, rfl, rfl, rfl, rfl, rfl⟩, ?_⟩
    · have q := c1 y hy
      have q1 := q.1.1
      refine ⟨?_, by simpa using q.1.2, by simpa using q.2⟩
      split at q1
      · exact .inl (by assumption)
      · exact .inr (.inl (by assumption))
      · cases q1
    · have q1 := (c1 y hy).1.1
      refine ⟨?_, .inl rfl⟩
      split at q1
      · exact .inl (by assumption)
      · exact .inr (by assumption)
      · cases q1
    · have q := c2 y (List.mem_append_left _ hy)
      exact ⟨(by simpa using q.1 : (defScope sd).names.lookup y = some .globalImplicit), hB y (by simpa using c0 y hy), by simpa using c3 y hy, by simpa using q.2⟩
    · have q := c2 y (List.mem_append_right _ hy)
      exact ⟨(by simpa using q.1 : (defScope sd).names.lookup y = some .globalImplicit), by simpa using q.2⟩
    · have u := room.un
      show (A.deeper (envOfC qual (defScope sd) s.heap.objs.size f cdv)).units + 100 < cLine
      omega
    · refine Takes.imp (takes_of rfl rfl rfl rfl) fun cls d σ H' z => ?_
      exact hE cls d H' z.2
  have sr : SR X0 S0 (start N vs) (startE N ds) := by
    subst hX
    refine ⟨hln, startE_names N ds, fun i y d hi => ?_⟩
    obtain ⟨v, hv, rv⟩ := r0.get (startE_at hi)
    refine ⟨v, ?_, rv⟩
    unfold L2.start
    rw [List.getElem?_append_left (by rw [List.length_map]; exact (List.getElem?_eq_some_iff.mp hv).1), List.getElem?_map, hv]
    rfl
  have main := h X0 ds M0 Sg Q QX bod g0 S0 (start N vs) H sr (by rw [hK]; exact m0) [] s1 I
  have eA : X0.A = A.deeper (envOfC qual (defScope sd) s.heap.objs.size f cdv) := by subst hX; rfl
  have eE : X0.env = envOfC qual (defScope sd) s.heap.objs.size f cdv := by subst hX; rfl
  have eM : model X0.prog X0.w = model P w := by subst hX; rfl
  have eX : X0.xe = fun e s' => wpAny (model P w) (A.deeper (envOfC qual (defScope sd) s.heap.objs.size f cdv)) (leaving (envOfC qual (defScope sd) s.heap.objs.size f cdv) e) (fun _ s'' => L2.CX P w outer H s E e s'') (fun e' s'' => L2.CX P w outer H s E e' s'') s' := by subst hX; rfl
  have main2 : wpAny (model P w) (A.deeper (envOfC qual (defScope sd) s.heap.objs.size f cdv)) (execs (defBody sd) (envOfC qual (defScope sd) s.heap.objs.size f cdv)) (SP X0 [] (ends X0 S0 { nx := fun _ M' => Q .non M', rt := Q }))
      (fun e s' => wpAny (model P w) (A.deeper (envOfC qual (defScope sd) s.heap.objs.size f cdv)) (leaving (envOfC qual (defScope sd) s.heap.objs.size f cdv) e) (fun _ s'' => L2.CX P w outer H s E e s'') (fun e' s'' => L2.CX P w outer H s E e' s'') s') s1 := by
    rw [← eA, ← eE, ← eM] at *
    rw [← eX]
    exact main
  refine wpAny_mono main2 (fun fl s' hs => ?_) fun _ _ z => z
  have fin : ∀ {σ' : L2.St} {H' : Hp} {v : V} {u : Value}, Inv X0 [] σ' H' s' → RelV v u → Post K S0 Q v H' → CE outer P w H s R u s' := fun {σ' H' v u} J rv q => by
    subst hX
    exact ⟨v, H', J.os, J.bare, J.base, J.hok, rv, hR v H' q⟩
  cases fl with
  | ret u =>
    obtain ⟨v, σ', H', J, rv, q⟩ := hs
    exact fin J rv (by rw [← hK]; exact q)
  | next =>
    obtain ⟨σ', H', J, Γ', M', S', q, s2, _, m2⟩ := hs
    exact fin (v := V.non) (u := Value.none) J rfl ⟨.non, M', S', q, s2, by rw [← hK]; exact m2, .non⟩
  | brk =>
    obtain ⟨_, _, _, _, _, _, q, _⟩ := hs
    exact False.elim q
  | cont =>
    obtain ⟨_, _, _, _, _, _, q, _⟩ := hs
    exact False.elim q
end
end DL

/-! Core39: runs by meaning as a machine of small steps (nxt, Rch, halted runs are one); instances made; memory let go -/
namespace DL
open PySem PySem.Spec PyProof.Rows L2
section
variable {X : Cx} {Γ : VEnv} {M : Mem} {Q : D → Mem → Prop} {E : DE} {sts : List Stmt} {e : Expr} {es : List Expr} {x : Str} {p pos : Pos} {Ln Vn Bn Fn : List Str} {k n : Nat} {G : DSp}
theorem wss_gc {G M2 : Mem} (pm : List.Perm M (G ++ M2)) (h : WSs X Γ M2 sts E) : WSs X Γ M sts E := fun S σ H hΓ hM => h S σ H hΓ (hM.perm pm).gc
/-- the class x at C, whose __init__ has n parameters beside self, keeping G -/
structure Mks (P : Program) (w : World) (K : PySem.W.Frag) (mg : Str → Option Value) (base : Heap) (k : Nat) (x : Str) (C : Addr) (n : Nat) (G : DSp) : Prop where
  ex : ∃ (f : Addr) (fd : FuncData) (ps : List Str), mg x = some (.ref C) ∧ Mk K C f ∧ Binds K fd ps [] ∧ ps.length = n + 1 ∧ GOk P w K mg base k f fd ps (spD K (n + 1) G)
theorem we_mk {C : Addr} (hm : Mks X.prog X.w X.K X.mg X.base k x C n G) (hr : Room (k + 1) X.A) (st : Stat X Ln Vn Bn Fn) (hx : x ∈ Fn)
    (h : WA X Γ M (e :: es) fun ds M2 => ds.length = n ∧ ∀ a lo, G (.ref a :: ds) ((a, .ins C [] lo) :: M2) fun d M3 => d = .non ∧ Q (.ref a) M3)
    (he : starEach (e :: es) X.env = (false, eval e X.env) :: starEach es X.env := by rfl) (hpl : (backTo pos (starEach es X.env)).any (·.1) = false := by rfl) : WE X Γ M (.Call (.Name x p) (e :: es) [] pos) Q := by
  obtain ⟨f, fd, ps, hmg, mk, hb, hn, Gk⟩ := hm.ex
  intro S σ H hΓ hM
  intro pins s I
  refine wpAny_Call_Name_kw (ld_glob I (st.gfn x hx).1 hmg ?_ (st.gfn x hx).2)
  refine PySem.W.callWith_K (first := []) (h₀ := X.base) I.ok.mod.kin mk.kp (thn (h S σ H hΓ hM pos pins s I) ?_) he hpl
  rintro us s1 ⟨vs, H1, I1, r, ds, M1, S1, ⟨hl, q⟩, s01, m1, r1⟩
  refine ⟨I1.kIn, ?_⟩
  have I2 := Inv.made (C := C) I1
  have fx : H1 (s1.heap.objs.size + 1) = none := I1.hok.fresh (Nat.le_succ _)
  have fd0 : H1 s1.heap.objs.size = none := I1.hok.fresh (Nat.le_refl _)
  have ne : s1.heap.objs.size + 1 ≠ s1.heap.objs.size := Nat.succ_ne_self _
  have m2 : MO X.K S1 ((s1.heap.objs.size + 1, .ins C [] S1) :: M1) (upd (upd H1 s1.heap.objs.size (.own (s1.heap.objs.size + 1))) (s1.heap.objs.size + 1) (.ins C s1.heap.objs.size [])) := by
    have mu : MO X.K S1 M1 (upd H1 s1.heap.objs.size (.own (s1.heap.objs.size + 1))) := m1.up fun b o e' => by rw [upd_ne (fun q => by rw [q, fd0] at e'; cases e')]; exact e'
    refine mu.alloc (by rw [upd_ne ne]; exact fx) ⟨⟨_, _, upd_same, PK.nil⟩, .refl _⟩
  have hsp : spD X.K (n + 1) G (.ref (s1.heap.objs.size + 1) :: vs) (upd (upd H1 s1.heap.objs.size (.own (s1.heap.objs.size + 1))) (s1.heap.objs.size + 1) (.ins C s1.heap.objs.size [])) (fun v H2 => v = .non ∧ Post X.K S1 Q (.ref (s1.heap.objs.size + 1)) H2) E0 :=
    ⟨by rw [List.length_cons, r1.length]; omega, S1, _, _, _, m2, .cons (.ref _) r1, q _ S1, fun v H' ⟨d, M3, S3, ⟨ed, q3⟩, s3, m3, r3⟩ => ⟨by subst ed; exact r3.non_inv, .ref _, M3, S3, q3, s3, m3, .ref _⟩⟩
  have hl2 : (Value.ref (s1.heap.objs.size + 1) :: us ++ []).length = ps.length := by
    rw [List.append_nil, List.length_cons, ← r.length, r1.length, hn]; omega
  have hbb := hb _ (Value.ref (s1.heap.objs.size + 1) :: us) I2.kIn hl2
  rw [List.append_nil] at hbb
  have gd2 : (X.A.under (.builtin "type.__call__" ⟨.ref C :: us, []⟩)).guards = some [] := by
    have h0 : Code.guards (.builtin "type.__call__" ⟨Value.ref C :: us, []⟩) = [] := by
      have hg : Code.isGuard (.builtin "type.__call__" ⟨Value.ref C :: us, []⟩) = false := by
        first | rfl | (simp [Code.isGuard]; done) | (unfold Code.isGuard; decide +kernel) | (with_unfolding_all rfl)
      unfold Code.guards
      rw [hg]; rfl
    simp [Around.under, h0, pushGuards, st.gd]
  show wpAny _ _ (call (.ref C) us) _ _ _
  refine wpAny_call (make_map (f := f) I1.kIn mk.makes mk.init (beq_iff_eq.mp mk.fn) (codeAny_mono (Gk.run _ gd2 X.stack _ _ ⟨Value.ref (s1.heap.objs.size + 1) :: us, []⟩ (Value.ref (s1.heap.objs.size + 1) :: us) _ _ E0 (hr.make C us [])
    (I2.env0.make C us []) hbb (.cons (show RelV (V.ref (s1.heap.objs.size + 1)) (Value.ref (s1.heap.objs.size + 1)) from rfl) r) hsp) fun r s' hq' => ?_))
  cases r with
  | error e => exact False.elim hq'
  | ok fl =>
    cases fl with
    | ret u =>
      obtain ⟨v, H', I3, rv, ev, q3⟩ := I2.after hq'
      subst ev
      exact ⟨rv, ⟨V.ref (s1.heap.objs.size + 1), H', I3, rfl, q3.weak s01⟩⟩
    | next => exact False.elim hq'
    | brk => exact False.elim hq'
    | cont => exact False.elim hq'
end
end DL
namespace DL
open PySem PySem.Spec PyProof.Rows L2 Wk
/-! ### the machine -/
structure Fr where
  wk : Nat
  fm : Int
  to : Nat
  idx : Option Nat
  bx : List Int
abbrev Gone := List (List ((Int × Int) × Int))
structure Rs where
  told : List Int
  steps : Nat
  taken : Nat
  gone : Gone
def bump1 (g : List ((Int × Int) × Int)) (y : Int × Int) : List ((Int × Int) × Int) := putA g y ((valA g y).getD 0 + 1)
def bumpG (g : Gone) (n : Nat) (y : Int × Int) : Gone := g.set n (bump1 (g.getD n []) y)
def Fr.way (f : Fr) : Int × Int := (f.fm, (f.to : Int))
def pickE (chs : List Int) (taken len : Nat) : Nd → Nat × Nat
  | .out => (len, taken)
  | .go t => (t, taken)
  | .fork t o => (if chs.getD taken 0 = 0 then t else o, taken + 1)
def nxt (ws : List W) (chs : List Int) (most : Nat) (rs : Rs) : List Fr → Str ⊕ (Rs × List Fr)
  | [] => .inl "ended"
  | f :: K =>
    if (ws.getD f.wk []).length ≤ f.to then .inr ({ rs with gone := bumpG rs.gone f.wk f.way }, K)
    else match f.idx with
      | none => if most ≤ rs.steps then .inl "going" else .inr ({ rs with steps := rs.steps + 1, gone := bumpG rs.gone f.wk f.way }, { f with idx := some 0 } :: K)
      | some i =>
        match ((ws.getD f.wk []).getD f.to bk0).1[i]? with
        | none => .inr ({ rs with taken := (pickE chs rs.taken (ws.getD f.wk []).length ((ws.getD f.wk []).getD f.to bk0).2).2 }, { f with fm := (f.to : Int), to := (pickE chs rs.taken (ws.getD f.wk []).length ((ws.getD f.wk []).getD f.to bk0).2).1, idx := none } :: K)
        | some (.save _) => .inr (rs, { f with idx := some (i + 1) } :: K)
        | some (.back _) => .inr (rs, { f with idx := some (i + 1) } :: K)
        | some (.set b n) => if most ≤ rs.steps then .inl "going" else .inr ({ rs with steps := rs.steps + 1 }, { f with idx := some (i + 1), bx := f.bx.set b n } :: K)
        | some (.add b o) => if most ≤ rs.steps then .inl "going" else .inr ({ rs with steps := rs.steps + 1 }, { f with idx := some (i + 1), bx := f.bx.set b (f.bx.getD b 0 + f.bx.getD o 0) } :: K)
        | some (.tell b) => if most ≤ rs.steps then .inl "going" else .inr ({ rs with steps := rs.steps + 1, told := rs.told ++ [f.bx.getD b 0] }, { f with idx := some (i + 1) } :: K)
        | some (.call m) => if most ≤ rs.steps then .inl "going" else if K.length + 1 = 20 then .inl "deep" else .inr ({ rs with steps := rs.steps + 1 }, { wk := m, fm := -1, to := 0, idx := none, bx := f.bx } :: { f with idx := some (i + 1) } :: K)
section
variable {ws : List W} {chs : List Int} {most : Nat}
abbrev Conf := Rs × List Fr
abbrev nxtC (ws : List W) (chs : List Int) (most : Nat) (c : Conf) : Str ⊕ Conf := nxt ws chs most c.1 c.2
inductive Rch (ws : List W) (chs : List Int) (most : Nat) (a : Conf) : Conf → Prop
  | refl : Rch ws chs most a a
  | step {b c : Conf} : Rch ws chs most a b → nxtC ws chs most b = .inr c → Rch ws chs most a c
theorem Rch.head {a c : Conf} (h : Rch ws chs most a c) : a = c ∨ ∃ b, nxtC ws chs most a = .inr b ∧ Rch ws chs most b c := by
  induction h with
  | refl => exact .inl rfl
  | step h e ih =>
    rcases ih with rfl | ⟨b, e1, h1⟩
    · exact .inr ⟨_, e, .refl⟩
    · exact .inr ⟨b, e1, h1.step e⟩
theorem Rch.line {a b c : Conf} {z : Str} (h : Rch ws chs most a b) (hc : Rch ws chs most a c) (hz : nxtC ws chs most c = .inl z) : Rch ws chs most b c := by
  induction h with
  | refl => exact hc
  | step h e ih =>
    rcases ih.head with rfl | ⟨b', e1, h1⟩
    · rw [e] at hz; cases hz
    · rw [e] at e1; cases e1; exact h1
/-- a run that stops, stops in one place -/
theorem Rch.uniq {a b c : Conf} {y z : Str} (h : Rch ws chs most a b) (hy : nxtC ws chs most b = .inl y) (hc : Rch ws chs most a c) (hz : nxtC ws chs most c = .inl z) : b = c ∧ y = z := by
  rcases (h.line hc hz).head with rfl | ⟨b', e, _⟩
  · rw [hy] at hz; cases hz; exact ⟨rfl, rfl⟩
  · rw [hy] at e; cases e
theorem Rch.trans {a b c : Conf} (h : Rch ws chs most a b) (g : Rch ws chs most b c) : Rch ws chs most a c := by
  induction g with
  | refl => exact h
  | step _ e ih => exact ih.step e
end
/-- the dicts of ways gone -/
def goD (g : List ((Int × Int) × Int)) : List (List Key × D) := g.map fun p => (keyI p.1, .int p.2)
theorem goD_val (g : List ((Int × Int) × Int)) (y : Int × Int) : valA (goD g) (keyI y) = (valA g y).map .int := by
  induction g with
  | nil => rfl
  | cons p g ih =>
    show valA ((keyI p.1, D.int p.2) :: goD g) _ = _
    rw [valA_cons, valA_cons]
    by_cases h : p.1 = y
    · rw [if_pos (by rw [h]), if_pos h]; rfl
    · rw [if_neg (fun e => h (keyI_inj e)), if_neg h]; exact ih
theorem goD_put (g : List ((Int × Int) × Int)) (y : Int × Int) (n : Int) : putA (goD g) (keyI y) (.int n) = goD (putA g y n) := by
  unfold putA goD
  have ha : ((g.map fun p => ((keyI p.1, D.int p.2) : List Key × D)).any fun kv => decide (kv.1 = keyI y)) = g.any fun kv => decide (kv.1 = y) := by
    rw [List.any_map]
    congr 1
    funext p
    show decide (keyI p.1 = keyI y) = decide (p.1 = y)
    exact decide_eq_decide.mpr ⟨keyI_inj, fun h => by rw [h]⟩
  rw [ha]
  split
  · rw [List.map_map, List.map_map]
    refine List.map_congr_left fun p _ => ?_
    show (if keyI p.1 = keyI y then ((keyI p.1, D.int n) : List Key × D) else (keyI p.1, D.int p.2)) = (keyI (if p.1 = y then (p.1, n) else p).1, D.int (if p.1 = y then (p.1, n) else p).2)
    by_cases h : p.1 = y
    · rw [if_pos (by rw [h]), if_pos h]
    · rw [if_neg (fun e => h (keyI_inj e)), if_neg h]
  · rw [List.map_append]; rfl
end DL

/-! Core40: lists of unlike length compared; dict displays with texts as keys; the law's own run -/
namespace DL
open PySem PySem.Spec PyProof.Rows L2
section
variable {X : Cx} {Γ : VEnv} {M : Mem} {Q : D → Mem → Prop} {E : DE} {e : Expr} {es : List Expr} {x : Str} {p pos : Pos} {Ln Vn Bn Fn : List Str} {k n : Nat}
theorem op_neLen (hu : X.A.units < cLine) : OpR X (compareOp .NotEq) (fun x y H Q => ∃ a b xs ys, x = .ref a ∧ y = .ref b ∧ SqL X.K H a xs ∧ SqL X.K H b ys ∧ xs.length ≠ ys.length ∧ Q (.bl true) H) := by
  rintro pins s σ H x y v u Q I rx ry ⟨a, b, xs, ys, rfl, rfl, h1, h2, hn, q⟩
  cases rx
  cases ry
  obtain ⟨its, rv, il, _⟩ := I.list h1
  obtain ⟨jts, rw_, jl, _⟩ := I.list h2
  have e1 := rv.length
  have e2 := rw_.length
  refine PySem.EqBoolInt.of_rcne (SeqAt.RcNeAt.lists_lengths il.isList jl.isList ?_ hu) ⟨.bl _, H, I, rfl, q⟩
  simp only [List.size_toArray, bne_iff_ne, ne_eq]
  intro z
  exact hn (by omega)
/-- xs != [] -/
theorem od_neNil {d e : D} {ds : List D} (st : Stat X Ln Vn Bn Fn) (h1 : IsR M d ds) (h2 : IsR M e []) (q : Q (.bl (!ds.isEmpty)) M) : OD X (compareOp .NotEq) d e M Q := by
  cases ds with
  | nil => exact od_neL (ns := []) (ms := []) st h1 h2 q
  | cons d0 ds =>
    refine od_of (op_neLen (by have := st.hu; omega)) fun S H x y rx ry m => ?_
    obtain ⟨a, xs, rfl, s1, r1⟩ := h1.get m rx
    obtain ⟨b, ys, rfl, s2, r2⟩ := h2.get m ry
    have l1 := r1.length
    have l2 := r2.length
    exact ⟨a, b, xs, ys, rfl, rfl, s1, s2, by rw [l1, l2]; simp, .of m (.bl _) q⟩
def trsOf (X : Cx) : List (Option Expr) → List Expr → List (TE × TE)
  | some k :: ks, v :: vs => (tE X k, tE X v) :: trsOf X ks vs
  | _, _ => []
/-- the pairs of a display with texts as keys -/
def WDs (X : Cx) (Γ : VEnv) : List (Option Expr) → List Expr → Mem → (List (Key × D) → Mem → Prop) → Prop
  | some (.Constant (.str k) _ _) :: ks, v :: vs, M, Q => WE X Γ M v fun d M1 => WDs X Γ ks vs M1 fun kvs M2 => Q ((.inr k, d) :: kvs) M2
  | [], [], M, Q => Q [] M
  | _, _, _, _ => False
theorem wds_cons {k : Str} {j : Nat} {kp : Pos} {ks : List (Option Expr)} {v : Expr} {vs : List Expr} {QD : List (Key × D) → Mem → Prop} (h : WE X Γ M v fun d M1 => WDs X Γ ks vs M1 fun kvs M2 => QD ((.inr k, d) :: kvs) M2) : WDs X Γ (some (.Constant (.str k) j kp) :: ks) (v :: vs) M QD := h
theorem wds_nil {QD : List (Key × D) → Mem → Prop} (h : QD [] M) : WDs X Γ [] [] M QD := h
theorem pps_c : ∀ {ks : List (Option Expr)} {vs : List Expr}, ks.all (·.isSome) = true → ks.length = vs.length → PPs X pos ks vs (trsOf X ks vs)
  | [], [], _, _ => pps_nil
  | some k :: ks, v :: vs, h, l => pps_cons pe_c pe_c (pps_c (by simpa using h) (by simpa using l))
  | none :: ks, v :: vs, h, l => by simp at h
  | [], _ :: _, _, l => by simp at l
  | _ :: _, [], _, l => by simp at l
theorem tPairs_mono : ∀ {ks : List (Option Expr)} {vs : List Expr} {σ : L2.St} {H : Hp} {R R' : List (V × V) → Hp → Prop}, tPairs (trsOf X ks vs) σ H R → (∀ a b, R a b → R' a b) → tPairs (trsOf X ks vs) σ H R'
  | [], vs, σ, H, R, R', h, m => by unfold trsOf at h ⊢; exact m _ _ h
  | some k :: ks, v :: vs, σ, H, R, R', h, m => tE_mono (R' := _) h fun x H1 h1 => tE_mono h1 fun y H2 h2 => tPairs_mono h2 fun ps H3 h3 => m _ _ h3
  | none :: ks, v :: vs, σ, H, R, R', h, m => by unfold trsOf at h ⊢; exact m _ _ h
  | some k :: ks, [], σ, H, R, R', h, m => by unfold trsOf at h ⊢; exact m _ _ h
  | none :: ks, [], σ, H, R, R', h, m => by unfold trsOf at h ⊢; exact m _ _ h
theorem wds_pairs : ∀ {ks : List (Option Expr)} {vs : List Expr} {M : Mem} {QD : List (Key × D) → Mem → Prop}, WDs X Γ ks vs M QD → ∀ S σ H, SR X S σ Γ → MO X.K S M H →
    tPairs (trsOf X ks vs) σ H fun ps H2 => ∃ (us : List (Key × V)) (kvs : List (Key × D)) (M2 : Mem) (S2 : Hp), ps = us.map (fun kv => (kV kv.1, kv.2)) ∧ PK X.K S2 us kvs ∧ QD kvs M2 ∧ Same S S2 ∧ MO X.K S2 M2 H2 := by
  intro ks
  induction ks with
  | nil =>
    intro vs M QD h
    cases vs with
    | nil => exact fun S σ H hΓ hM => ⟨[], [], M, S, rfl, .nil, h, .refl _, hM⟩
    | cons v vs => exact h.elim
  | cons k ks ih =>
    intro vs M QD h S σ H hΓ hM
    cases k with
    | none => cases vs <;> exact h.elim
    | some ke =>
      cases vs with
      | nil => cases ke <;> first | exact h.elim | (rename_i c _ _; cases c <;> exact h.elim)
      | cons v vs =>
        cases ke <;> try exact h.elim
        rename_i c j kp
        cases c <;> try exact h.elim
        rename_i k
        have h : WE X Γ M v fun d M1 => WDs X Γ ks vs M1 fun kvs M2 => QD ((.inr k, d) :: kvs) M2 := h
        show tE X _ σ H _
        refine tE_of pe_str ?_
        show tE X v σ H _
        refine tE_mono (h S σ H hΓ hM) ?_
        rintro y H1 ⟨d, M1, S1, q1, s1, m1, r1⟩
        refine tPairs_mono (ih q1 S1 σ H1 (hΓ.mono s1) m1) ?_
        rintro ps H3 ⟨us, kvs, M2, S2, rfl, pk, q2, s2, m2⟩
        exact ⟨(.inr k, y) :: us, (.inr k, d) :: kvs, M2, S2, rfl, .cons (r1.mono s2) pk, q2, s1.trans s2, m2⟩
/-- {text: value, ..} -/
theorem we_disp {ks : List (Option Expr)} {vs : List Expr} (h : ∀ p, WDs X Γ ks vs ((p, .dK []) :: M) fun kvs M1 => kvs.length ≤ 15 ∧ ∃ f, At p M1 (.dK []) f ∧ Q (.ref p) (f (.dK (mergeA [] kvs))))
    (hall : ks.all (·.isSome) = true := by rfl) (hl : ks.length = vs.length := by rfl) (h0 : ks ≠ [] := by intro h; cases h) (h15 : ks.length ≤ 15 := by decide) : WE X Γ M (.Dict ks vs pos) Q := by
  intro S σ H hΓ hM
  refine tE_of (pe_disp (pps_c hall hl) hall hl h0 h15) fun p hp => ?_
  refine tPairs_mono (wds_pairs (h p) S σ _ hΓ (hM.alloc hp ⟨[], upd_same, .nil⟩)) ?_
  rintro ps H3 ⟨us, kvs, M2, S2, rfl, pk, ⟨hk, f, hat, q⟩, s2, m2⟩
  obtain ⟨zs, hz, pz⟩ := m2.at_ok hat
  have : zs = [] := by have := pz.length; simpa using this
  subst this
  exact ⟨hz, us, rfl, by rw [pk.length]; exact hk, _, _, S2, q, s2, m2.write hat (c' := .dK (mergeA [] kvs)) ⟨_, upd_same, PK.merge pk .nil⟩, .ref p⟩
end
end DL

/-! Core41: reprs of data with ints of up to 58 digits (Shl) -/
namespace DL
open PySem PySem.Spec PyProof.Rows L2
structure Shl (dep n : Nat) (d : PyData) : Prop where
  sh : d.showable = true
  cl : d.canLay0 = true
  dp : d.depth ≤ dep
  wt : d.weight ≤ n
  sf : d.intsShort 60 = true
theorem Shl.int {i : Int} (h1 : -(10 ^ 58) < i) (h2 : i < 10 ^ 58) : Shl 0 200 (.int i) := by
  have e58 : (10 : Int) ^ 58 = 10000000000000000000000000000000000000000000000000000000000 := by decide
  rw [e58] at h1 h2
  have hl : i.natAbs.log2 < 200 := by
    by_cases h0 : i.natAbs = 0
    · rw [h0]; decide
    · refine (Nat.log2_lt h0).mpr ?_
      have : (2 : Nat) ^ 200 = 1606938044258990275541962092341162602522202993782792835301376 := by decide
      omega
  refine ⟨by simp only [PyData.showable, decide_eq_true_eq]; omega, by simp only [PyData.canLay0], by simp only [PyData.depth]; omega, ?_, ?_⟩
  · simp only [PyData.weight]
    split <;> omega
  · have h13 : (10 : Nat) ^ 58 = 10000000000000000000000000000000000000000000000000000000000 := by decide
    have e := int_text_length_le10 (a := i) (k := 58) (by decide) (by omega)
    have : (PyData.shown (.int i)).length ≤ 60 := by
      show (Str.ofString (toString i)).length ≤ 60
      rw [PySem.ofString_length]; omega
    simp only [PyData.intsShort, decide_eq_true_eq]
    exact this
theorem Shl.str {z : Str} (h : (z.cps.all (· < 0x110000)) = true) (hl : z.cps.size ≤ 200) : Shl 0 200 (.str z) :=
  ⟨by simp only [PyData.showable], by simp only [PyData.canLay0]; exact h, by simp only [PyData.depth]; omega, by simp only [PyData.weight]; exact hl, by simp only [PyData.intsShort]⟩
theorem shl_all {dep n : Nat} : ∀ {xs : List PyData}, (∀ x ∈ xs, Shl dep n x) → PyData.showableAll xs = true ∧ PyData.canLayAll0 xs = true ∧ PyData.depthAll xs ≤ dep ∧ PyData.weightAll xs ≤ xs.length * (n + 1) ∧ PyData.intsShortAll 60 xs = true
  | [], _ => ⟨rfl, rfl, Nat.zero_le _, Nat.zero_le _, rfl⟩
  | x :: xs, h => by
    obtain ⟨h1, h2, h3, h4, h5⟩ := shl_all fun y hy => h y (List.mem_cons_of_mem _ hy)
    have g := h x List.mem_cons_self
    refine ⟨by simp only [PyData.showableAll, g.sh, h1, Bool.and_self], by simp only [PyData.canLayAll0, g.cl, h2, Bool.and_self], ?_, ?_, by simp only [PyData.intsShortAll, g.sf, h5, Bool.and_self]⟩
    · simp only [PyData.depthAll]
      have := g.dp
      omega
    · simp only [PyData.weightAll, List.length_cons]
      have := g.wt
      rw [Nat.add_mul]
      omega
theorem Shl.list {dep n k : Nat} {xs : List PyData} (h : ∀ x ∈ xs, Shl dep n x) (hk : xs.length * (n + 1) ≤ k) : Shl (dep + 1) k (.list xs) := by
  obtain ⟨h1, h2, h3, h4, h5⟩ := shl_all h
  exact ⟨by simp only [PyData.showable]; exact h1, by simp only [PyData.canLay0]; exact h2, by simp only [PyData.depth]; omega, by simp only [PyData.weight]; omega, by simp only [PyData.intsShort]; exact h5⟩
theorem Shl.tuple {dep n k : Nat} {xs : List PyData} (h : ∀ x ∈ xs, Shl dep n x) (hk : xs.length * (n + 1) ≤ k) : Shl (dep + 1) k (.tuple xs) := by
  obtain ⟨h1, h2, h3, h4, h5⟩ := shl_all h
  exact ⟨by simp only [PyData.showable]; exact h1, by simp only [PyData.canLay0]; exact h2, by simp only [PyData.depth]; omega, by simp only [PyData.weight]; omega, by simp only [PyData.intsShort]; exact h5⟩
theorem Shl.mono {a b n k : Nat} {d : PyData} (h : Shl a n d) (h1 : a ≤ b) (h2 : n ≤ k) : Shl b k d := ⟨h.sh, h.cl, Nat.le_trans h.dp h1, Nat.le_trans h.wt h2, h.sf⟩
theorem Shl.fits {dep n : Nat} {d : PyData} (h : Shl dep n d) (hn : n ≤ 200000) : d.shown.length ≤ sizeLine := by
  have h1 := PyData.shown_le 60 (by decide) d (PyData.leavesShort_of_canLay0 60 d h.cl h.sf)
  have := h.wt
  exact szl (by omega)
theorem cd_reprL {X : Cx} {M : Mem} {Q : D → Mem → Prop} {Ln Vn Bn Fn : List Str} {d : D} {pd : PyData} {dep n : Nat} (st : Stat X Ln Vn Bn Fn) (hr : (∃ ds, d = .lst ds) ∨ (∃ ds, d = .tup ds) ∨ ∃ a, d = .ref a) (hp : Py M d pd) (h : Shl dep n pd) (hd : dep ≤ 64) (hn : n ≤ 200000) (q : Q (.str pd.shown) M) : CD X (.builtin "repr") [d] M Q :=
  cd_repr st hr hp h.sh (PyData.hasDict_of_canLay _ h.cl) (Nat.le_trans h.dp hd) (h.fits hn) q
theorem Shl.shaped {dep n : Nat} {d : PyData} (h : Shl dep n d) (hd : dep ≤ 60) : SeqAt.shaped d = true := by
  unfold SeqAt.shaped
  rw [Bool.and_eq_true]
  refine ⟨h.cl, decide_eq_true ?_⟩
  have := h.dp
  omega
end DL

/-! Core42: x, y, z = a, b, c with plain names -/
namespace DL
open PySem PySem.Spec PyProof.Rows L2
section
variable {X : Cx} {Γ : VEnv} {M : Mem} {E : DE} {pos : Pos} {Ln Vn Bn Fn : List Str} {a b c : Expr}
theorem sw_par3 {x y z : Str} {px py pz pt pt2 : Pos} {kt k2 : Nat} {env : Env} (hk : env.scope.kind = .function) (hx : env.scope.names.lookup x = some .local) (hy : env.scope.names.lookup y = some .local) (hz : env.scope.names.lookup z = some .local) (hxy : x ≠ y) (hxz : x ≠ z) (hyz : y ≠ z) (hl : (py.line == px.line) = true) (hl2 : (pz.line == px.line) = true)
    (h1 : ([a, b, c].any fun | .Starred .. => true | _ => false) = false) (h2 : [a, b, c].all (foldedForSure 8) = false) (h3 : [a, b, c].all (constantsAlone 8) = false) :
    swappedStores [.Tuple [.Name x px, .Name y py, .Name z pz] kt pt] (.Tuple [a, b, c] k2 pt2) env = pure (some [x, y, z]) := by
  have kx : env.kindOf x = some .local := hx
  have ky : env.kindOf y = some .local := hy
  have kz : env.kindOf z = some .local := hz
  have hb : env.blockKind = .function := by unfold Env.blockKind; rw [hk]; rfl
  have e1 : (y == x) = false := beq_eq_false_iff_ne.mpr (Ne.symm hxy)
  have e2 : (z == x) = false := beq_eq_false_iff_ne.mpr (Ne.symm hxz)
  have e3 : (z == y) = false := beq_eq_false_iff_ne.mpr (Ne.symm hyz)
  unfold swappedStores
  simp [hb, kx, ky, kz, h1, h2, h3, hl, hl2, e1, e2, e3, Expr.pos, List.filterMap, List.eraseDups, List.eraseDupsBy, List.eraseDupsBy.loop]
  intro h
  exfalso
  simp only [List.any_cons, List.any_nil, Bool.or_false, Bool.or_eq_false_iff] at h1
  rcases h with h | h | h
  · have g := h1.1
    cases a <;> first | exact Bool.noConfusion h | exact Bool.noConfusion g
  · have g := h1.2.1
    cases b <;> first | exact Bool.noConfusion h | exact Bool.noConfusion g
  · have g := h1.2.2
    cases c <;> first | exact Bool.noConfusion h | exact Bool.noConfusion g
theorem reps_three {K : PySem.W.Frag} {S : Hp} {vs : List V} {d e g : D} (r : Reps K S vs [d, e, g]) : ∃ u v w, vs = [u, v, w] ∧ Rep K S u d ∧ Rep K S v e ∧ Rep K S w g := by
  cases r with
  | cons p q => cases q with
    | cons p2 q2 => cases q2 with
      | cons p3 q3 => cases q3; exact ⟨_, _, _, rfl, p, p2, p3⟩
theorem ws_par3 {x y z : Str} {Γx Γy Γz : VEnv} {px py pz pt pt2 : Pos} {kt k2 : Nat} (st : Stat X Ln Vn Bn Fn) (hx : x ∈ Ln) (hy : y ∈ Ln) (hz : z ∈ Ln) (hxl : X.env.scope.names.lookup x = some .local) (hyl : X.env.scope.names.lookup y = some .local) (hzl : X.env.scope.names.lookup z = some .local) (hk : X.env.scope.kind = .function) (hxy : x ≠ y) (hxz : x ≠ z) (hyz : y ≠ z)
    (hx0 : SetAt Γ x .non Γx) (hy0 : SetAt Γ y .non Γy) (hz0 : SetAt Γ z .non Γz)
    (h : WA X Γ M [a, b, c] fun ds M1 => ∃ d e g Γ1 Γ2 Γ3, ds = [d, e, g] ∧ SetAt Γ x d Γ1 ∧ SetAt Γ1 y e Γ2 ∧ SetAt Γ2 z g Γ3 ∧ E.nx Γ3 M1)
    (hl : (py.line == px.line) = true := by rfl) (hl2 : (pz.line == px.line) = true := by rfl) (h1 : ([a, b, c].any fun | .Starred .. => true | _ => false) = false := by rfl) (h2 : [a, b, c].all (foldedForSure 8) = false := by rfl) (h3 : [a, b, c].all (constantsAlone 8) = false := by rfl)
    (hs : swapsWithSole [.Tuple [.Name x px, .Name y py, .Name z pz] kt pt] (.Tuple [a, b, c] k2 pt2) pos.line X.env = pure false := by rfl) : WS X Γ M (.Assign [.Tuple [.Name x px, .Name y py, .Name z pz] kt pt] (.Tuple [a, b, c] k2 pt2) pos) E := by
  intro S σ H hΓ hM
  obtain ⟨i, ox, gx, _⟩ := hx0.at
  obtain ⟨j, oy, gy, _⟩ := hy0.at
  obtain ⟨l, oz, gz, _⟩ := hz0.at
  have hi := hΓ.name gx
  have hj := hΓ.name gy
  have hll := hΓ.name gz
  have hij : i ≠ j := fun e => hxy (by rw [e, hj] at hi; exact (Option.some.inj hi).symm)
  have hil : i ≠ l := fun e => hxz (by rw [e, hll] at hi; exact (Option.some.inj hi).symm)
  have hjl : j ≠ l := fun e => hyz (by rw [e, hll] at hj; exact (Option.some.inj hj).symm)
  refine tS_of (ps_par3 st.calm st.nd hi hj hll hij hil hjl hxl hyl hzl pa_c (sw_par3 hk hxl hyl hzl hxy hxz hyz hl hl2 h1 h2 h3) hs) (tA_post (h S σ H hΓ hM) ?_)
  rintro ds M1 S1 vs H1 ⟨d, e, g, Γ1, Γ2, Γ3, rfl, g1, g2, g3, q⟩ s1 m1 r1
  obtain ⟨u, v, w, rfl, ru, rv, rw'⟩ := reps_three r1
  obtain ⟨i', o1, e1, rfl⟩ := g1.at
  have gg := (hΓ.mono s1).put e1 ru (st.loc x hx)
  obtain ⟨j', o2, e2, rfl⟩ := g2.at
  have gg2 := gg.put e2 rv (st.loc y hy)
  obtain ⟨l', o3, e3, rfl⟩ := g3.at
  have ei : i' = i := nodup_ix st.nd ((hΓ.mono s1).name e1) hi
  have ej : j' = j := nodup_ix st.nd (gg.name e2) hj
  have el : l' = l := nodup_ix st.nd (gg2.name e3) hll
  subst ei ej el
  exact ⟨u, v, w, rfl, _, M1, S1, q, s1, gg2.put e3 rw' (st.loc z hz), m1⟩
end
end DL

/-! Core43: a class is an exception of itself (exm_self); a statement that changes nothing; lists read in a greater memory -/
namespace DL
open PySem PySem.Spec PyProof.Rows L2
theorem exm_self {K : PySem.W.Frag} {S : Addr} (h1 : PySem.W.subIn K (.ref S) (.type "BaseException") = some true) (h2 : PySem.W.isClsIn K S = true) (h3 : PySem.W.typeIn K (.ref S) = some (.type "type")) (h4 : PySem.W.subIn K (.ref S) (.ref S) = some true) :
    PySem.W.exmOne K (.ref S) (.ref S) = some true := by
  have e1 : (PySem.W.subIn K (.ref S) (.type "BaseException") == some true) = true := by rw [h1] <;> rfl
  have e2 : ((PySem.W.clsIn K S).isSome && PySem.W.typeIn K (.ref S) == some (.type "type")) = true := by
    have h2' : (PySem.W.clsIn K S).isSome = true := h2
    rw [h2', h3] <;> rfl
  show (if (PySem.W.subIn K (.ref S) (.type "BaseException") == some true) = true then (if ((PySem.W.clsIn K S).isSome && PySem.W.typeIn K (.ref S) == some (.type "type")) = true then PySem.W.subIn K (.ref S) (.ref S) else none) else none) = some true
  rw [if_pos e1, if_pos e2]
  exact h4
theorem ws_same {X : L2.Cx} {Γ : VEnv} {M : Mem} {E : DE} {s : PySem.Stmt} {rest : List PySem.Stmt} (h : WS X Γ M s (E.thn fun Γ' M' => Γ' = Γ ∧ M' = M)) (k : WSs X Γ M rest E) : WSs X Γ M (s :: rest) E :=
  ws_mid _ h fun _ _ ⟨e1, e2⟩ => by rw [e1, e2]; exact k
theorem isR_more {M : Mem} {q : Addr × Cell} {d : D} {ds : List D} (h : IsR M d ds) : IsR (q :: M) d ds := by
  rcases h with (h | ⟨a, f, e, h⟩) | h
  · exact .inl (.inl h)
  · exact .inl (.inr ⟨a, _, e, .there h⟩)
  · exact .inr h
end DL

/-! Core44: a class's function called by the class's name (we_cf); runs that share boxes as a machine of small steps (nxtQ); reachability of any machine (Rg) -/
namespace DL
open PySem PySem.Spec PyProof.Rows L2
/-- x.m, x the class at C, is the def at f, called with all its arguments -/
structure Cf (P : Program) (w : World) (K : PySem.W.Frag) (mg : Str → Option Value) (base : Heap) (k : Nat) (x : Str) (m : Str) (n : Nat) (G : DSp) : Prop where
  ex : ∃ (C f : Addr) (fd : FuncData) (ps : List Str), mg x = some (.ref C) ∧ PySem.W.specialIn K (.ref C) "__getattribute__" = some (some (.builtin "type.__getattribute__")) ∧ PySem.W.readsIn K C (.type "type") = true ∧ PySem.W.findCls K (.ref C) (.type "type") m = some (.val (.ref f)) ∧ PySem.W.keepIn K (.ref f) = true ∧
    Binds K fd ps [] ∧ ps.length = n ∧ GOk P w K mg base k f fd ps (spD K n G)
section
variable {X : Cx} {Γ : VEnv} {M : Mem} {Q : D → Mem → Prop} {e : Expr} {es : List Expr} {m x : Str} {p pos apos : Pos} {Ln Vn Bn Fn : List Str} {k n : Nat} {C : Addr} {G : DSp}
theorem we_cf {pl : Sem Bool} (hm : Cf X.prog X.w X.K X.mg X.base k x m n G) (hr : Room k X.A) (st : Stat X Ln Vn Bn Fn) (hx : x ∈ Fn) (h : WA X Γ M (e :: es) fun ds M2 => ds.length = n ∧ G ds M2 Q)
    (hst : starEach (e :: es) X.env = (false, eval e X.env) :: starEach es X.env := by rfl) (hpl : (backTo pos (starEach es X.env)).any (·.1) = false := by rfl)
    (ht : eval (.Call (.Attribute (.Name x p) m apos) (e :: es) [] pos) X.env = (do
      let ov ← eval (.Name x p) X.env
      standAt apos.atName
      let (f, first) ← holding [ov] (getMethod ov m pl)
      callWith pos f first (backTo pos (starEach (e :: es) X.env)) (backToKw pos (keywordEach [] X.env))) := by rfl) : WE X Γ M (.Call (.Attribute (.Name x p) m apos) (e :: es) [] pos) Q := by
  obtain ⟨C, f, fd, ps, hmg, hga, hrd, hat, hkp, hb, hn, Gk⟩ := hm.ex
  intro S σ H hΓ hM
  intro pins s I
  refine PySem.W.methodCall_KW (pl := pl) (ld_glob I (st.gfn x hx).1 hmg ?_ (st.gfn x hx).2) ht
  refine PySem.W.method_cls I.kIn hga (PySem.W.cls_value I.kIn hrd hat (handed_of (v := V.ref f) rfl) ?_)
  refine PySem.W.callWith_K (first := []) (h₀ := X.base) I.ok.mod.kin hkp (thn (h S σ H hΓ hM pos pins _ (I.tok _)) ?_) hst hpl
  rintro ys s2 ⟨vs, H2, I2, r, ds, M2, S2, ⟨hl2, q⟩, s12, m2, r2⟩
  exact ⟨I2.kIn, run_g (us := ys) (vs := vs) Gk st.gd hr hb I2 r ⟨by rw [r2.length]; omega, S2, M2, ds, Q, m2, r2, q, fun v H' z => z.weak s12⟩⟩
end
/-- what a machine of small steps comes to -/
inductive Rg {C : Type} (st : C → Str ⊕ C) (a : C) : C → Prop
  | refl : Rg st a a
  | step {b c : C} : Rg st a b → st b = .inr c → Rg st a c
section
variable {C : Type} {st : C → Str ⊕ C}
theorem Rg.head {a c : C} (h : Rg st a c) : a = c ∨ ∃ b, st a = .inr b ∧ Rg st b c := by
  induction h with
  | refl => exact .inl rfl
  | step h e ih =>
    rcases ih with rfl | ⟨b, e1, h1⟩
    · exact .inr ⟨_, e, .refl⟩
    · exact .inr ⟨b, e1, h1.step e⟩
theorem Rg.line {a b c : C} {z : Str} (h : Rg st a b) (hc : Rg st a c) (hz : st c = .inl z) : Rg st b c := by
  induction h with
  | refl => exact hc
  | step h e ih =>
    rcases ih.head with rfl | ⟨b', e1, h1⟩
    · rw [e] at hz; cases hz
    · rw [e] at e1; cases e1; exact h1
theorem Rg.uniq {a b c : C} {y z : Str} (h : Rg st a b) (hy : st b = .inl y) (hc : Rg st a c) (hz : st c = .inl z) : b = c ∧ y = z := by
  rcases (h.line hc hz).head with rfl | ⟨b', e, _⟩
  · rw [hy] at hz; cases hz; exact ⟨rfl, rfl⟩
  · rw [hy] at e; cases e
theorem Rg.trans {a b c : C} (h : Rg st a b) (g : Rg st b c) : Rg st a c := by
  induction g with
  | refl => exact h
  | step _ e ih => exact ih.step e
end
end DL
namespace DL
open PySem PySem.Spec PyProof.Rows L2 Wk
/-! ### the machine of runs that share boxes -/
structure Fq where
  wk : Nat
  fm : Int
  to : Nat
  idx : Option Nat
  ah : List Int
  sh : List (Int × Int)
structure Rq extends Rs where
  held : List Int
  faults : List (Nat × Nat)
  mv : Int × Int
def Fq.way (f : Fq) : Int × Int := (f.fm, (f.to : Int))
def badOf (wk : Nat) (held ah : List Int) : List (Nat × Nat) := ((List.range 8).filter fun b => decide (held.getD b 0 ≠ ah.getD b 0)).map fun b => (wk, b)
def nxtQ (ws : List W) (chs : List Int) (most : Nat) (rs : Rq) : List Fq → Str ⊕ (Rq × List Fq)
  | [] => .inl "ended"
  | f :: K =>
    if (ws.getD f.wk []).length ≤ f.to then .inr ({ rs with gone := bumpG rs.gone f.wk f.way, faults := rs.faults ++ badOf f.wk rs.held f.ah }, K)
    else match f.idx with
      | none => if most ≤ rs.steps then .inl "going" else .inr ({ rs with steps := rs.steps + 1, gone := bumpG rs.gone f.wk f.way }, { f with idx := some 0 } :: K)
      | some i =>
        match ((ws.getD f.wk []).getD f.to bk0).1[i]? with
        | none => .inr ({ rs with taken := (pickE chs rs.taken (ws.getD f.wk []).length ((ws.getD f.wk []).getD f.to bk0).2).2 }, { f with fm := (f.to : Int), to := (pickE chs rs.taken (ws.getD f.wk []).length ((ws.getD f.wk []).getD f.to bk0).2).1, idx := none } :: K)
        | some (.save b) => .inr ({ rs with mv := (rs.mv.1 + 1, rs.mv.2) }, { f with idx := some (i + 1), sh := putA f.sh (b : Int) (rs.held.getD b 0) } :: K)
        | some (.back b) => match valA f.sh (b : Int) with
          | none => .inl "bare"
          | some v => .inr ({ rs with held := rs.held.set b v, mv := (rs.mv.1, rs.mv.2 + 1) }, { f with idx := some (i + 1) } :: K)
        | some (.set b n) => if most ≤ rs.steps then .inl "going" else .inr ({ rs with steps := rs.steps + 1, held := rs.held.set b n }, { f with idx := some (i + 1) } :: K)
        | some (.add b o) => if most ≤ rs.steps then .inl "going" else .inr ({ rs with steps := rs.steps + 1, held := rs.held.set b (rs.held.getD b 0 + rs.held.getD o 0) }, { f with idx := some (i + 1) } :: K)
        | some (.tell b) => if most ≤ rs.steps then .inl "going" else .inr ({ rs with steps := rs.steps + 1, told := rs.told ++ [rs.held.getD b 0] }, { f with idx := some (i + 1) } :: K)
        | some (.call m) => if most ≤ rs.steps then .inl "going" else if K.length + 1 = 20 then .inl "deep" else .inr ({ rs with steps := rs.steps + 1 }, { wk := m, fm := -1, to := 0, idx := none, ah := rs.held, sh := [] } :: { f with idx := some (i + 1) } :: K)
abbrev ConfQ := Rq × List Fq
abbrev nxQ (ws : List W) (chs : List Int) (most : Nat) (c : ConfQ) : Str ⊕ ConfQ := nxtQ ws chs most c.1 c.2
abbrev RgQ (ws : List W) (chs : List Int) (most : Nat) (a c : ConfQ) : Prop := Rg (nxQ ws chs most) a c
/-- what is laid aside, as a dict -/
def shD (g : List (Int × Int)) : List (Key × D) := g.map fun p => ((.inl p.1 : Key), D.int p.2)
theorem shD_val (g : List (Int × Int)) (y : Int) : valA (shD g) (.inl y : Key) = (valA g y).map D.int := by
  induction g with
  | nil => rfl
  | cons p g ih =>
    show valA (((.inl p.1 : Key), D.int p.2) :: shD g) _ = _
    rw [valA_cons, valA_cons]
    by_cases h : p.1 = y
    · rw [if_pos (by rw [h]), if_pos h]; rfl
    · rw [if_neg (fun e => h (Sum.inl.inj e)), if_neg h]; exact ih
theorem shD_put (g : List (Int × Int)) (y n : Int) : putA (shD g) (.inl y : Key) (.int n) = shD (putA g y n) := by
  unfold putA shD
  have ha : ((g.map fun p => (((.inl p.1 : Key), D.int p.2) : Key × D)).any fun kv => decide (kv.1 = (.inl y : Key))) = g.any fun kv => decide (kv.1 = y) := by
    rw [List.any_map]
    congr 1
    funext p
    show decide ((Sum.inl p.1 : Key) = .inl y) = decide (p.1 = y)
    exact decide_eq_decide.mpr ⟨Sum.inl.inj, fun h => by rw [h]⟩
  rw [ha]
  split
  · rw [List.map_map, List.map_map]
    refine List.map_congr_left fun p _ => ?_
    show (if (Sum.inl p.1 : Key) = .inl y then (((.inl p.1 : Key), D.int n) : Key × D) else ((.inl p.1 : Key), D.int p.2)) = ((.inl (if p.1 = y then (p.1, n) else p).1 : Key), D.int (if p.1 = y then (p.1, n) else p).2)
    by_cases h : p.1 = y
    · rw [if_pos (by rw [h]), if_pos h]
    · rw [if_neg (fun e => h (Sum.inl.inj e)), if_neg h]
  · rw [List.map_append]; rfl
end DL

/-! Core45: o[i] += e over owned lists of ints -/
namespace DL
open PySem PySem.Spec PyProof.Rows L2
section
variable {X : Cx} {Γ : VEnv} {M : Mem} {Q : D → Mem → Prop} {o i e : Expr} {pos tpos : Pos} {E : DE} {Ln Vn Bn Fn : List Str}
def rGetL (K : PySem.W.Frag) : V → V → Hp → VK → Prop := fun x y H Q => ∃ (p : Addr) (xs : List V) (i : Int) (v : V), x = .ref p ∧ y = .int i ∧ SqL K H p xs ∧ atI xs i = some v ∧ 0 ≤ i ∧ Q v H
theorem get_list : PGet X (rGetL X.K) := by
  intro pins s σ H x y v u Q I rx ry h
  obtain ⟨p, xs, i, z, rfl, rfl, hq, he, h0, q⟩ := h
  cases rx
  obtain ⟨t, rfl⟩ := ry
  obtain ⟨its, r, pl, hz⟩ := I.list hq
  obtain ⟨j, h1, h2, h3, h4, h5⟩ := atI_get he
  obtain ⟨w, ew, rw'⟩ := r.get h2
  have hl := r.length
  have hn := line63
  have fin : EP X pins σ Q w s := ⟨z, H, I, rw', q⟩
  have hj : i.toNat = j := by
    rw [seqIndex_of h0 h5] at h1
    exact Option.some.inj h1
  exact wpAny_getItem_list pl.isList h0 (by omega) (by rw [hj]; simpa using ew) fin
theorem ws_augIx {op : Operator} {g : Int → Int → Int} (hop : PIp X op (ipI g)) (h : WE X Γ M o fun d M1 => WE X Γ M1 i fun y M2 => ∃ (a : Addr) (j : Nat) (u : Int) (ds : List D) (f : Cell → Mem), d = .ref a ∧ y = .int (j : Int) ∧ At a M2 (.lst ds) f ∧ ds[j]? = some (.int u) ∧
      WE X Γ M2 e fun z M3 => ∃ (v : Int) (ds' : List D) (f' : Cell → Mem), z = .int v ∧ At a M3 (.lst ds') f' ∧ j < ds'.length ∧ E.nx Γ (f' (.lst (ds'.set j (.int (g u v))))))
    (ha : ∀ ov iv new, augStore i ov iv new = (do holding [new, ov, iv] (setItem ov iv new); release [new, ov, iv] []; pure .next) := by intros; rfl) : WS X Γ M (.AugAssign (.Subscript o i tpos) op e pos) E := by
  intro S σ H hΓ hM
  refine tS_of (ps_augS pe_c pe_c get_list pe_c hop set_list ha) (tE_post (h S σ H hΓ hM) fun d M1 S1 x H1 q1 s1 m1 r1 => tE_post (q1 S1 σ H1 (hΓ.mono s1) m1) fun y M2 S2 x2 H2 ⟨a, j, u, ds, f, ed, ey, hat, hu, q2⟩ s2 m2 r2 => ?_)
  subst ed; subst ey
  obtain ⟨us, hx, ru⟩ := m2.at_ok hat
  obtain ⟨v, hv, rv⟩ := ru.get hu
  have ev := rv.int_inv
  subst ev
  refine ⟨a, us, (j : Int), .int u, (r1.mono s2).ref_inv, r2.int_inv, .of hx, atI_nat hv, by omega, ?_⟩
  refine tE_post (q2 S2 σ H2 ((hΓ.mono s1).mono s2) m2) fun z M3 S3 x3 H3 ⟨v, ds', f', ez, hat', hj, q3⟩ s3 m3 r3 => ?_
  subst ez
  refine ⟨u, v, rfl, r3.int_inv, ?_⟩
  obtain ⟨us', hx', ru'⟩ := m3.at_ok hat'
  have hl := ru'.length
  refine ⟨a, us', (j : Int), j, (r1.mono s2).ref_inv, r2.int_inv, hx', ?_, _, _, S3, q3, (s1.trans s2).trans s3, ((hΓ.mono s1).mono s2).mono s3, m3.writeL hat' (ru'.set (.int _) _)⟩
  unfold ixN
  rw [if_pos (by omega), if_pos (by omega)]
  rfl
end
end DL

/-! Core46: reprs: small numbers, tuples of unlike parts -/
namespace DL
open PySem PySem.Spec PyProof.Rows L2
theorem Shl.tiny {i : Int} (h1 : -1024 < i) (h2 : i < 1024) : Shl 0 10 (.int i) := by
  have h := Shl.int (i := i) (by omega) (by omega)
  refine ⟨h.sh, h.cl, h.dp, ?_, h.sf⟩
  have hl : i.natAbs.log2 < 10 := by
    by_cases h0 : i.natAbs = 0
    · rw [h0]; decide
    · refine (Nat.log2_lt h0).mpr ?_
      have : (2 : Nat) ^ 10 = 1024 := by decide
      omega
  simp only [PyData.weight]
  split <;> omega
theorem Shl.tup4 {a b c d e n1 n2 n3 n4 k : Nat} {x1 x2 x3 x4 : PyData} (h1 : Shl a n1 x1) (h2 : Shl b n2 x2) (h3 : Shl c n3 x3) (h4 : Shl d n4 x4) (ha : a ≤ e ∧ b ≤ e ∧ c ≤ e ∧ d ≤ e) (hk : n1 + n2 + n3 + n4 + 4 ≤ k) : Shl (e + 1) k (.tuple [x1, x2, x3, x4]) := by
  refine ⟨by simp only [PyData.showable, PyData.showableAll, h1.sh, h2.sh, h3.sh, h4.sh, Bool.and_self], by simp only [PyData.canLay0, PyData.canLayAll0, h1.cl, h2.cl, h3.cl, h4.cl, Bool.and_self], ?_, ?_, by simp only [PyData.intsShort, PyData.intsShortAll, h1.sf, h2.sf, h3.sf, h4.sf, Bool.and_self]⟩
  · simp only [PyData.depth, PyData.depthAll]
    have := h1.dp; have := h2.dp; have := h3.dp; have := h4.dp
    omega
  · simp only [PyData.weight, PyData.weightAll]
    have := h1.wt; have := h2.wt; have := h3.wt; have := h4.wt
    omega
theorem cd_tuple {X : Cx} {M : Mem} {Q : D → Mem → Prop} {d : D} {ds : List D} (h : IsR M d ds ∨ d = .tup ds) (q : Q (.tup ds) M) : CD X (.type "tuple") [d] M Q := cd_of call_tuple_of fun S H xs rx m => by
  obtain ⟨v, rfl, rv⟩ := reps_one rx
  rcases h with h | rfl
  · obtain ⟨pa, us, rfl, h1, r1⟩ := h.get m rv
    exact ⟨pa, us, rfl, .inl ⟨h1, post_tup m r1 q⟩⟩
  · have rv2 := rv
    obtain ⟨pa, us, rfl, h1, r1⟩ := Rep.tup_get m rv
    exact ⟨pa, us, rfl, .inr ⟨.of h1, ⟨.tup ds, M, S, q, .refl _, m, rv2⟩⟩⟩
end DL

/-! Core47: dicts with pairs as keys, made of lists of pairs; min of a list; d[k] += e -/
namespace DL
open PySem PySem.Spec PyProof.Rows L2 Wk
/-- key, where the key lies, where the pair lies, value -/
abbrev KPv := List Key × Addr × Addr × V
theorem vals_each {pins : List (Addr × Obj)} {X : Cx} {σ : L2.St} {H : Hp} {s : Shared} (I : Inv X pins σ H s) : ∀ {ks : List KPv}, (∀ k ∈ ks, H k.2.2.1 = some (.tup [V.ref k.2.1, k.2.2.2])) → ∃ us : List Value, Vals (ks.map fun k => k.2.2.2) us ∧ ∀ (j : Nat) (k : KPv) (u : Value), ks[j]? = some k → us[j]? = some u → IsTup s.heap k.2.2.1 #[.ref k.2.1, u]
  | [], _ => ⟨[], .nil, fun j k u h => by simp at h⟩
  | k :: ks, h => by
    obtain ⟨us, r, hu⟩ := vals_each I fun k' hk => h k' (List.mem_cons_of_mem _ hk)
    obtain ⟨its, rv, ht, _⟩ := I.tuple (.of (h k List.mem_cons_self))
    obtain ⟨u1, u2, rfl, r1, r2⟩ := vals2 rv
    cases (show u1 = Value.ref k.2.1 from r1)
    refine ⟨u2 :: us, .cons r2 r, fun j k' u h1 h2 => ?_⟩
    cases j with
    | zero => cases h1; cases h2; exact ht
    | succ j => exact hu j k' u h1 h2
theorem kt_list {H2 : Hp} : ∀ {ks : List KPv} {vs : List Value}, (∀ k ∈ ks, H2 k.2.1 = some (.tup (k.1.map kV))) → Vals (ks.map fun k => k.2.2.2) vs → KT H2 (ks.map fun k => (k.1, k.2.2.2)) (List.zipWith (fun (k : KPv) v => (k.1, k.2.1, v)) ks vs)
  | [], _, _, .nil => .nil
  | k :: ks, _, h, .cons r0 r1 => .cons ⟨rfl, h k List.mem_cons_self, r0⟩ (kt_list (fun k' hk => h k' (List.mem_cons_of_mem _ hk)) r1)
def rDT (K : PySem.W.Frag) : List V → Hp → VK → Prop := fun xs H Q => ∃ (a : Addr) (ks : List KPv), xs = [.ref a] ∧ SqL K H a (ks.map fun k => V.ref k.2.2.1) ∧ (∀ k ∈ ks, H k.2.2.1 = some (.tup [V.ref k.2.1, k.2.2.2])) ∧ (∀ k ∈ ks, H k.2.1 = some (.tup (k.1.map kV))) ∧ (ks.map (·.1)).Nodup ∧
  ∀ p, H p = none → Q (.ref p) (upd H p (.dT (ks.map fun k => (k.1, k.2.2.2))))
theorem call_dictT {X : Cx} (hc : X.calm = true) (hu : X.A.units + 80 < cLine) : CallR X (.type "dict") (rDT X.K) := by
  intro pins s σ H xs us Q I r q
  obtain ⟨a, ks, rfl, hq, hp, hkt, hnd, q⟩ := q
  obtain ⟨u, rfl, rx⟩ := vals1 r
  cases rx
  obtain ⟨its, rv, pl, hz⟩ := I.list hq
  have rv' : Vals ((ks.map fun k => k.2.2.1).map V.ref) its := by rw [List.map_map]; exact rv
  have ei := refs_at rv'
  obtain ⟨vs, rvs, hvs⟩ := vals_each I hp
  have hlv : vs.length = ks.length := by rw [← rvs.length, List.length_map]
  obtain ⟨o, n, ho, hcl, hd, hdat⟩ := pl
  have items : PairItems s.heap its.toArray (fun j => match ks[j]? with | some k => k.2.2.1 | none => 0) (List.zipWith (fun (k : KPv) v => (Value.ref k.2.1, v)) ks vs) := by
    refine ⟨?_, fun j k v hj => ?_⟩
    · rw [List.size_toArray, ei, List.length_map, List.length_map, List.length_zipWith]; omega
    · rw [List.getElem?_zipWith] at hj
      cases hk : ks[j]? with
      | none => rw [hk] at hj; cases hj
      | some k0 =>
        cases hv : vs[j]? with
        | none => rw [hk, hv] at hj; cases hj
        | some v0 =>
          rw [hk, hv] at hj
          cases hj
          refine ⟨?_, .inl (by simp only [hk]; exact hvs j k0 _ hk hv)⟩
          rw [List.getElem?_toArray, ei, List.getElem?_map, List.getElem?_map, hk]
          simp only [hk]; rfl
  have hlen : (List.zipWith (fun (k : KPv) v => (Value.ref k.2.1, v)) ks vs).length = ks.length := by rw [List.length_zipWith]; omega
  have have_ : PairsHaveH (tupleKind (mixKind X.prog X.w)) (List.zipWith (fun (k : KPv) v => (Value.ref k.2.1, v)) ks vs).length (PairRel (List.zipWith (fun (k : KPv) v => (Value.ref k.2.1, v)) ks vs)) (List.zipWith (fun (k : KPv) v => (k.1, k.2.1, v)) ks vs) := by
    refine ⟨by rw [List.length_zipWith, List.length_zipWith], fun i key v hrel => ?_⟩
    have hrel : (List.zipWith (fun (k : KPv) v => (Value.ref k.2.1, v)) ks vs)[i]? = some (key, v) := hrel
    rw [List.getElem?_zipWith] at hrel
    cases hk : ks[i]? with
    | none => rw [hk] at hrel; cases hrel
    | some k0 =>
      cases hv : vs[i]? with
      | none => rw [hk, hv] at hrel; cases hrel
      | some v0 =>
        rw [hk, hv] at hrel
        cases hrel
        exact ⟨k0.1, k0.2.1, by rw [List.getElem?_zipWith, hk, hv], rfl⟩
  have stay : KeysStay (tupleKind (mixKind X.prog X.w)) s.heap s.heap.objs.size [] (List.zipWith (fun (k : KPv) v => (k.1, k.2.1, v)) ks vs) := by
    intro h2' hk2 x hx
    obtain ⟨k, hkm, v, rfl⟩ : ∃ k ∈ ks, ∃ v, (k.1, k.2.1, v) = x := by
      obtain ⟨i, hi, e⟩ := List.mem_iff_getElem.mp hx
      rw [List.getElem_zipWith] at e
      exact ⟨_, List.getElem_mem _, _, e⟩
    obtain ⟨o2, items, n2, ho2, hcl2, hd2, hi2⟩ := key_of I.hok (hkt k hkm)
    have hne : k.2.1 ≠ s.heap.objs.size := fun z => by
      have h1 := Heap.lt_size ho2
      rw [z] at h1
      exact absurd h1 (Nat.lt_irrefl _)
    exact ⟨o2, items, n2, hk2 _ _ hne (by simp) ho2, hcl2, hd2, hi2⟩
  refine PySem.call_dict_pairsH (knd := tupleKind (mixKind X.prog X.w)) (PairArg.list (prog := X.prog) (w := X.w) a its.toArray _ _) (I.ok.hd hc) (tupleKind_room_in1 (A := X.A.in1) (by show X.A.units + 1 + 1 < cLine; omega)) ⟨⟨o, n, ho, hcl, hd, hdat⟩, items⟩ have_ stay (by rw [hlen]; rw [List.length_map] at hz; exact hz) fun h3 tk hd3 hk3 => ?_
  · have fr : H s.heap.objs.size = none := I.hok.fresh (Nat.le_refl _)
    have e1 : (List.zipWith (fun (k : KPv) (v : Value) => (k.1, k.2.1, v)) ks vs).map (·.1) = ks.map (·.1) := by
      refine List.ext_getElem? fun i => ?_
      rw [List.getElem?_map, List.getElem?_zipWith, List.getElem?_map]
      cases hk : ks[i]? with
      | none => rfl
      | some k =>
        have : i < vs.length := by rw [hlv]; exact (List.getElem?_eq_some_iff.mp hk).1
        rw [List.getElem?_eq_getElem this]; rfl
    rw [storedAllH_nil_of_nodup _ (by rw [e1]; exact hnd)] at hd3
    obtain ⟨o3, es, ep, g1, g2, g3, g4, _, g5⟩ := hd3
    have hkt2 : KT (upd H s.heap.objs.size (.dT (ks.map fun k => (k.1, k.2.2.2)))) (ks.map fun k => (k.1, k.2.2.2)) (List.zipWith (fun (k : KPv) v => (k.1, k.2.1, v)) ks vs) := by
      exact kt_list (fun k hk => by rw [upd_ne (ne_of_none (hkt k hk) fr)]; exact hkt k hk) rvs
    refine ⟨.ref s.heap.objs.size, upd H s.heap.objs.size (.dT (ks.map fun k => (k.1, k.2.2.2))), I.laid (t' := tk) (fun c o e => hk3 c o (by simp) e) (Nat.le_refl _) ⟨?_, beq_eq_false_iff_ne.mpr (Nat.ne_of_gt I.big), _, hkt2, o3, es, ep, g1, g2, g3, g4, g5⟩, rfl, q _ fr⟩
    rw [List.length_map] at hz ⊢
    exact hz
section
variable {X : Cx} {Γ : VEnv} {M : Mem} {Q : D → Mem → Prop} {o i e : Expr} {pos tpos : Pos} {E : DE} {Ln Vn Bn Fn : List Str}
/-- what a list of pairs ((a, b), v) holds -/
theorem pair_reps {K : PySem.W.Frag} {S : Hp} : ∀ {us : List V} {ps : List ((Int × Int) × D)}, Reps K S us (ps.map fun p => .tup [pairD p.1, p.2]) → ∃ ks : List KPv, us = ks.map (fun k => V.ref k.2.2.1) ∧ ks.map (·.1) = ps.map (fun p => keyI p.1) ∧ (∀ k ∈ ks, S k.2.2.1 = some (.tup [V.ref k.2.1, k.2.2.2])) ∧ (∀ k ∈ ks, S k.2.1 = some (.tup (k.1.map kV))) ∧ Reps K S (ks.map fun k => k.2.2.2) (ps.map (·.2))
  | _, [], .nil => ⟨[], rfl, rfl, (fun _ h => by cases h), (fun _ h => by cases h), .nil⟩
  | _, p :: ps, .cons h t => by
    obtain ⟨ks, rfl, h1, h2, h3, h4⟩ := pair_reps t
    obtain ⟨a, xs, rfl, ha, rx⟩ := h.tup_inv
    obtain ⟨x, y, rfl, rx, ry⟩ := reps_two rx
    obtain ⟨b, ys, rfl, hb, rz⟩ := rx.tup_inv
    obtain ⟨x2, y2, rfl, r2, r3⟩ := reps_two rz
    have e2 := r2.int_inv
    have e3 := r3.int_inv
    subst e2 e3
    refine ⟨(keyI p.1, b, a, y) :: ks, rfl, by rw [List.map_cons, List.map_cons, h1], fun k hk => ?_, fun k hk => ?_, .cons ry h4⟩
    · rcases List.mem_cons.mp hk with rfl | hk
      · exact ha
      · exact h2 k hk
    · rcases List.mem_cons.mp hk with rfl | hk
      · exact hb
      · exact h3 k hk
theorem cd_dictT {d : D} {ps : List ((Int × Int) × D)} (st : Stat X Ln Vn Bn Fn) (h : IsR M d (ps.map fun p => .tup [pairD p.1, p.2])) (nd : (ps.map (·.1)).Nodup) (q : ∀ p, Q (.ref p) ((p, .dT (ps.map fun p => (keyI p.1, p.2))) :: M)) : CD X (.type "dict") [d] M Q := cd_of (call_dictT st.calm (by have := st.hu; omega)) fun S H xs rx m => by
  obtain ⟨v, rfl, rv⟩ := reps_one rx
  obtain ⟨pa, us, rfl, h1, r1⟩ := h.get m rv
  obtain ⟨ks, rfl, e1, e2, e3, e4⟩ := pair_reps r1
  refine ⟨pa, ks, rfl, h1, fun k hk => m.sub _ _ (e2 k hk), fun k hk => m.sub _ _ (e3 k hk), ?_, fun p hp => ⟨_, _, S, q p, .refl _, m.alloc hp ⟨_, upd_same, ?_⟩, .ref p⟩⟩
  · rw [e1]
    have : (ps.map fun p => keyI p.1) = (ps.map (·.1)).map keyI := by rw [List.map_map]; rfl
    rw [this]
    exact List.pairwise_map.mpr (nd.imp fun h e => h (keyI_inj e))
  · refine ⟨?_, ?_⟩
    · rw [List.map_map, List.map_map]
      exact e1
    · rw [List.map_map, List.map_map]
      exact e4
theorem cd_minL {d : D} {ns : List Int} {m : Int} (st : Stat X Ln Vn Bn Fn) (h : IsR M d (ns.map D.int)) (hm : m ∈ ns) (hl : ∀ y ∈ ns, m ≤ y) (q : Q (.int m) M) : CD X (.builtin "min") [d] M Q := cd_of (cr_min st.calm) fun S H xs rx mo => by
  obtain ⟨v, rfl, rv⟩ := reps_one rx
  obtain ⟨pa, us, rfl, h1, r1⟩ := h.get mo rv
  have e := Reps.ints_inv r1
  subst e
  refine ⟨pa, ns, rfl, h1, List.length_pos_of_mem hm, fun k h1 h2 => ?_⟩
  have : k = m := by
    have a := h2 m hm
    have b := hl k h1
    omega
  subst this
  exact Post.of mo (.int _) q
theorem ws_augDx {op : Operator} {rd : V → V → Hp → VK → Prop} {g : Int → Int → Int} (st : Stat X Ln Vn Bn Fn) (hop : InOp X op rd) (hrd : ∀ (i j : Int) (H : Hp) (R : VK), R (.int (g i j)) H → rd (.int i) (.int j) H R)
    (h : WE X Γ M o fun d M1 => WE X Γ M1 i fun y M2 => ∃ (a : Addr) (f : Cell → Mem) (kvs : List (List Key × D)) (ks : List Key) (u : Int), d = .ref a ∧ y = .tup (ks.map kD) ∧ At a M2 (.dT kvs) f ∧ valA kvs ks = some (.int u) ∧
      WE X Γ M2 e fun z M3 => ∃ (v : Int) (f' : Cell → Mem), z = .int v ∧ At a M3 (.dT kvs) f' ∧ kvs.length < sizeLine ∧ E.nx Γ (f' (.dT (putA kvs ks (.int (g u v))))))
    (ha : ∀ ov iv new, augStore i ov iv new = (do holding [new, ov, iv] (setItem ov iv new); release [new, ov, iv] []; pure .next) := by intros; rfl) : WS X Γ M (.AugAssign (.Subscript o i tpos) op e pos) E := by
  intro S σ H hΓ hM
  refine tS_of (ps_daug (by have := st.hu; omega) pe_c pe_c pe_c hop ha) (tE_post (h S σ H hΓ hM) fun d M1 S1 x H1 q1 s1 m1 r1 => tE_post (q1 S1 σ H1 (hΓ.mono s1) m1) fun y M2 S2 x2 H2 ⟨a, f, kvs, ks, u, ed, ey, hat, hv, q2⟩ s2 m2 r2 => ?_)
  subst ed
  have g2 : GetD M2 (.ref a) y (some (.int u)) := ⟨a, f, rfl, .inr ⟨kvs, ks, hat, ey, hv.symm⟩⟩
  obtain ⟨pa, ov, ev, dg, ho⟩ := g2.get m2 (r1.mono s2) r2
  rcases ho with ⟨_, e0⟩ | ⟨u', z', rfl, e0, rz⟩
  · cases e0
  cases e0
  have ez := rz.int_inv
  subst ez
  refine ⟨pa, .int u, ev, dg, tE_post (q2 S2 σ H2 ((hΓ.mono s1).mono s2) m2) fun z M3 S3 x3 H3 ⟨v, f', ez, hat', hl, q3⟩ s3 m3 r3 => ?_⟩
  subst ez
  have ev3 := r3.int_inv
  subst ev3
  refine hrd _ _ _ _ ?_
  have epa : pa = a := by
    have := (r1.mono s2).ref_inv
    rw [ev] at this
    cases this; rfl
  subst epa
  subst ey
  obtain ⟨us, hx, pk⟩ := m3.at_ok hat'
  obtain ⟨b, ws, rfl, hb, rs⟩ := Rep.tup_get m3 (r2.mono s3)
  rw [reps_kD rs] at hb
  exact ⟨_, .t hx hb (by rw [pk.length]; exact hl), _, _, S3, q3, (s1.trans s2).trans s3, ((hΓ.mono s1).mono s2).mono s3, m3.write hat' (c' := .dT (putA kvs ks (.int (g u v)))) ⟨_, upd_same, pk.put (.int _)⟩⟩
end
end DL

/-! Core48: xs[::-1], repr(None) -/
namespace DL
open PySem PySem.Spec PyProof.Rows L2
section
variable {X : Cx} {Γ : VEnv} {M : Mem} {Q : D → Mem → Prop} {e : Expr}
theorem we_revL {k : Nat} {p1 p2 p3 pos : Pos} (h : WE X Γ M e fun d M1 => ∃ ds, IsR M1 d ds ∧ Q (.lst ds.reverse) M1) : WE X Γ M (.Subscript e (.Slice none none (some (.UnaryOp .USub (.Constant (.int 1) k p1) p2)) p3) pos) Q := by
  intro S σ H hΓ hM
  refine tE_of (pe_revL pe_c) (tE_post (h S σ H hΓ hM) fun d M1 S1 x H1 ⟨ds, hd, q⟩ s1 m1 r1 => ?_)
  obtain ⟨a, xs, rfl, hx, rs⟩ := hd.get m1 r1
  exact ⟨a, xs, rfl, hx, fun p hp => (post_lst m1 (reps_rev rs) q p hp).weak s1⟩
theorem call_repr_non : CallR X (.builtin "repr") (fun xs H Q => xs = [.non] ∧ Q (.str "None") H) := by
  intro pins s σ H xs us Q I r h
  obtain ⟨rfl, q⟩ := h
  cases r with
  | cons p r =>
    cases r
    cases (show _ = Value.none from p)
    exact PySem.P.repr_of_none ⟨.str _, H, I.tok _, ⟨_, rfl⟩, q⟩
theorem cd_reprN (q : Q (.str "None") M) : CD X (.builtin "repr") [.non] M Q := cd_of call_repr_non fun S H xs rx m => by
  obtain ⟨v, rfl, rv⟩ := reps_one rx
  rw [rv.non_inv]
  exact ⟨rfl, .of m (.str _) q⟩
end
end DL

/-! Core49: {k: v} of one pair, the key being any expression -/
namespace DL
open PySem PySem.Spec PyProof.Rows L2
section
variable {X : Cx} {Γ : VEnv} {M : Mem} {Q : D → Mem → Prop} {pos : Pos}
theorem we_disp1 {k v : Expr} (h : ∀ p, WE X Γ ((p, .dK []) :: M) k fun dk M1 => WE X Γ M1 v fun d M2 => ∃ (kk : Key) (f : Cell → Mem), dk = kD kk ∧ At p M2 (.dK []) f ∧ Q (.ref p) (f (.dK [(kk, d)]))) : WE X Γ M (.Dict [some k] [v] pos) Q := by
  intro S σ H hΓ hM
  refine tE_of (pe_disp (pps_c (ks := [some k]) (vs := [v]) rfl rfl) rfl rfl (by intro h; cases h) (by show (1 : Nat) ≤ 15; omega)) fun p hp => ?_
  show tE X k σ _ _
  refine tE_post (h p S σ _ hΓ (hM.alloc hp ⟨[], upd_same, .nil⟩)) fun dk M1 S1 x H1 q1 s1 m1 r1 => ?_
  refine tE_post (q1 S1 σ H1 (hΓ.mono s1) m1) fun d M2 S2 y H2 q2 s2 m2 r2 => ?_
  obtain ⟨kk, f, rfl, hat, q⟩ := q2
  obtain ⟨zs, hz, pz⟩ := m2.at_ok hat
  have : zs = [] := by have := pz.length; simpa using this
  subst this
  exact ⟨hz, [(kk, y)], by rw [rep_kD (r1.mono s2)]; rfl, (by show (1 : Nat) ≤ 15; omega), _, _, S2, q, s1.trans s2, m2.write hat (c' := .dK [(kk, d)]) ⟨_, upd_same, .cons r2 .nil⟩, .ref p⟩
end
end DL

/-! FlowA: flows along ways from some blocks to the door, plain mathematics: levels, pushes, why pushing ends -/
namespace Fl
abbrev Way := Int × Int
structure Net where
  n : Nat
  L : List Way
  cap : Way → Option (Int × Int)
def Net.blocks (N : Net) : List Int := (List.range N.n).map fun (k : Nat) => (k : Int)
def Net.other (N : Net) (w : Way) (u : Int) : Int := if (if w.1 = u then w.2 else w.1) = (N.n : Int) then -1 else (if w.1 = u then w.2 else w.1)
def Net.room (N : Net) (f : Way → Int) (w : Way) (u : Int) : Option Int := match N.cap w with
  | none => none
  | some c => some (if w.1 = u then c.2 - f w else f w - c.1)
def touch (w : Way) (u : Int) : Bool := decide (w.1 = u) || decide (w.2 = u)
def Net.rs (N : Net) (f : Way → Int) (u : Int) (w : Way) : Bool := touch w u && decide (N.room f w u ≠ some 0)
/-- reached from B by at most so many ways that have room -/
def Net.R (N : Net) (f : Way → Int) (B : List Int) : Nat → Int → Bool
  | 0, v => decide (v ∈ B)
  | k + 1, v => N.R f B k v || N.L.any fun w => N.blocks.any fun u => N.R f B k u && N.rs f u w && decide (N.other w u = v)
section
variable {N : Net} {f g : Way → Int} {B : List Int}
theorem R_succ {k : Nat} {v : Int} : N.R f B (k + 1) v = true ↔ N.R f B k v = true ∨ ∃ w ∈ N.L, ∃ u ∈ N.blocks, N.R f B k u = true ∧ N.rs f u w = true ∧ N.other w u = v := by
  show (N.R f B k v || N.L.any fun w => N.blocks.any fun u => N.R f B k u && N.rs f u w && decide (N.other w u = v)) = true ↔ _
  rw [Bool.or_eq_true, List.any_eq_true]
  refine or_congr Iff.rfl ⟨?_, ?_⟩
  · rintro ⟨w, hw, h⟩
    rw [List.any_eq_true] at h
    obtain ⟨u, hu, h⟩ := h
    simp only [Bool.and_eq_true, decide_eq_true_eq] at h
    exact ⟨w, hw, u, hu, h.1.1, h.1.2, h.2⟩
  · rintro ⟨w, hw, u, hu, h1, h2, h3⟩
    refine ⟨w, hw, ?_⟩
    rw [List.any_eq_true]
    exact ⟨u, hu, by simp only [Bool.and_eq_true, decide_eq_true_eq]; exact ⟨⟨h1, h2⟩, h3⟩⟩
theorem R_up1 {k : Nat} {v : Int} (h : N.R f B k v = true) : N.R f B (k + 1) v = true := R_succ.mpr (.inl h)
theorem R_up {k j : Nat} {v : Int} (h : N.R f B k v = true) (e : k ≤ j) : N.R f B j v = true := by
  induction e with
  | refl => exact h
  | step _ ih => exact R_up1 ih
/-- just at this level -/
def Net.At (N : Net) (f : Way → Int) (B : List Int) (k : Nat) (v : Int) : Prop := N.R f B k v = true ∧ ∀ j, j < k → N.R f B j v = false
theorem at_uniq {k j : Nat} {v : Int} (h : N.At f B k v) (g : N.At f B j v) : k = j := by
  rcases Nat.lt_trichotomy k j with e | e | e
  · have := g.2 k e; rw [h.1] at this; cases this
  · exact e
  · have := h.2 j e; rw [g.1] at this; cases this
theorem at_of {k : Nat} {v : Int} (h : N.R f B k v = true) : ∃ j, j ≤ k ∧ N.At f B j v := by
  induction k with
  | zero => exact ⟨0, Nat.le_refl _, h, fun _ h => absurd h (Nat.not_lt_zero _)⟩
  | succ k ih =>
    cases hk : N.R f B k v with
    | true => obtain ⟨j, h1, h2⟩ := ih hk; exact ⟨j, by omega, h2⟩
    | false =>
      refine ⟨k + 1, Nat.le_refl _, h, fun j hj => ?_⟩
      cases hj2 : N.R f B j v with
      | false => rfl
      | true => rw [R_up hj2 (by omega)] at hk; cases hk
theorem at_le {k j : Nat} {v : Int} (h : N.At f B k v) (g : N.R f B j v = true) : k ≤ j := by
  refine Decidable.byContradiction fun e => ?_
  have := h.2 j (by omega)
  rw [g] at this; cases this
/-! a path back, step by step: (block, way), the last step first -/
abbrev Steps := List (Int × Way)
inductive Back (N : Net) (f : Way → Int) (B : List Int) : Nat → Int → Steps → Prop
  | nil {v : Int} : N.At f B 0 v → Back N f B 0 v []
  | cons {k : Nat} {u v : Int} {w : Way} {p : Steps} : Back N f B k u p → w ∈ N.L → u ∈ N.blocks → N.rs f u w = true → N.other w u = v → N.At f B (k + 1) v → Back N f B (k + 1) v ((u, w) :: p)
theorem Back.at {k : Nat} {v : Int} {p : Steps} (h : Back N f B k v p) : N.At f B k v := by
  cases h with
  | nil h => exact h
  | cons _ _ _ _ _ h => exact h
def one (f : Way → Int) (d : Int) (s : Int × Way) : Way → Int := fun w => if w = s.2 then f w + (if w.1 = s.1 then d else 0 - d) else f w
def pushed (f : Way → Int) (d : Int) (p : Steps) : Way → Int := p.foldl (fun f s => one f d s) f
theorem pushed_other {d : Int} {w : Way} : ∀ {p : Steps} {f : Way → Int}, (∀ s ∈ p, s.2 ≠ w) → pushed f d p w = f w
  | [], _, _ => rfl
  | s :: p, f, h => by
    show pushed (one f d s) d p w = f w
    rw [pushed_other fun s hs => h s (List.mem_cons_of_mem _ hs)]
    unfold one
    rw [if_neg (fun e => h s List.mem_cons_self e.symm)]
/-- levels of the steps of a path -/
theorem back_lev {k : Nat} {v : Int} {p : Steps} (h : Back N f B k v p) : ∀ s ∈ p, ∃ j, j < k ∧ N.At f B j s.1 ∧ N.At f B (j + 1) (N.other s.2 s.1) ∧ s.2 ∈ N.L ∧ s.1 ∈ N.blocks ∧ N.rs f s.1 s.2 = true := by
  induction h with
  | nil => exact fun _ h => by cases h
  | @cons k u v w p hb hw hu hr ho ha ih =>
    intro s hs
    rcases List.mem_cons.mp hs with rfl | hs
    · exact ⟨k, Nat.lt_succ_self _, hb.at, by rw [ho]; exact ha, hw, hu, hr⟩
    · obtain ⟨j, h1, h2⟩ := ih s hs
      exact ⟨j, by omega, h2⟩
/-- a way leads between two places, from either end to the other -/
structure Net.Ok (N : Net) : Prop where
  nd : N.L.Nodup
  rng : ∀ w ∈ N.L, (w.1 = -1 ∧ 0 ≤ w.2 ∧ w.2 < N.n) ∨ (0 ≤ w.1 ∧ w.1 < N.n ∧ 0 ≤ w.2 ∧ w.2 ≤ N.n)
  cap : ∀ w ∈ N.L, ∀ c, N.cap w = some c → c.1 ≤ 0 ∧ 0 ≤ c.2
theorem mem_blocks {u : Int} : u ∈ N.blocks ↔ 0 ≤ u ∧ u < N.n := by
  unfold Net.blocks
  rw [List.mem_map]
  constructor
  · rintro ⟨k, hk, rfl⟩
    have := List.mem_range.mp hk
    omega
  · rintro ⟨h1, h2⟩
    exact ⟨u.toNat, List.mem_range.mpr (by omega), by omega⟩
theorem touch_iff {w : Way} {u : Int} : touch w u = true ↔ w.1 = u ∨ w.2 = u := by
  unfold touch
  rw [Bool.or_eq_true, decide_eq_true_eq, decide_eq_true_eq]
/-- seen from the other end the other end is the first -/
theorem other_back {w : Way} {u v : Int} (ok : N.Ok) (hw : w ∈ N.L) (hu : u ∈ N.blocks) (hv : v ∈ N.blocks) (ht : touch w u = true) (ho : N.other w u = v) : N.other w v = u ∧ touch w v = true := by
  rw [mem_blocks] at hu hv
  rw [touch_iff] at ht ⊢
  unfold Net.other at ho ⊢
  have := ok.rng w hw
  by_cases h1 : w.1 = u
  · simp only [if_pos h1] at ho
    by_cases h2 : w.2 = (N.n : Int)
    · rw [if_pos h2] at ho; omega
    · rw [if_neg h2] at ho
      by_cases h3 : w.1 = v
      · simp only [if_pos h3]
        rw [if_neg h2]
        exact ⟨by omega, .inl h3⟩
      · simp only [if_neg h3]
        rw [if_neg (by omega)]
        exact ⟨h1, .inr ho⟩
  · simp only [if_neg h1] at ho
    have h2 : w.2 = u := by rcases ht with h | h; exact absurd h h1; exact h
    by_cases h3 : w.1 = (N.n : Int)
    · omega
    · rw [if_neg h3] at ho
      simp only [if_pos ho]
      rw [if_neg (by omega)]
      exact ⟨h2, .inl ho⟩
/-- a way of the path is on it once -/
theorem back_once (ok : N.Ok) {k : Nat} {v : Int} {p : Steps} (h : Back N f B k v p) : (p.map (·.2)).Nodup := by
  induction h with
  | nil => exact List.nodup_nil
  | @cons k u v w p hb hw hu hr ho ha ih =>
    rw [List.map_cons, List.nodup_cons]
    refine ⟨fun hm => ?_, ih⟩
    obtain ⟨s, hs, e⟩ := List.mem_map.mp hm
    have e : s.2 = w := e
    obtain ⟨j, hj, a1, a2, h1, h2, h3⟩ := back_lev hb s hs
    rw [e] at a2 h3
    have ht : touch w u = true := by unfold Net.rs at hr; rw [Bool.and_eq_true] at hr; exact hr.1
    have hts : touch w s.1 = true := by unfold Net.rs at h3; rw [Bool.and_eq_true] at h3; exact h3.1
    rw [touch_iff] at ht hts
    rw [mem_blocks] at hu h2
    by_cases es : s.1 = u
    · have := at_uniq hb.at (by rw [← es]; exact a1)
      omega
    · have eo : N.other w s.1 = u := by
        unfold Net.other
        rcases ht with t1 | t1 <;> rcases hts with t2 | t2
        · exact absurd (t2.symm.trans t1) es
        · rw [if_neg (show ¬ w.1 = s.1 by omega)]
          rw [if_neg (by omega)]; exact t1
        · rw [if_pos t2, if_neg (by omega)]; exact t1
        · exact absurd (t2.symm.trans t1) es
      rw [eo] at a2
      have e1 := at_uniq hb.at a2
      -- the block ahead is one level lower
      have eo2 : N.other w u = s.1 := by
        unfold Net.other
        rcases ht with t1 | t1 <;> rcases hts with t2 | t2
        · exact absurd (t2.symm.trans t1) es
        · rw [if_pos t1, if_neg (by omega)]; exact t2
        · rw [if_neg (show ¬ w.1 = u by omega), if_neg (by omega)]; exact t2
        · exact absurd (t2.symm.trans t1) es
      rw [eo2] at ho
      rw [← ho] at ha
      have := at_uniq ha a1
      omega
theorem pushed_at {d : Int} {s : Int × Way} : ∀ {p : Steps} {f : Way → Int}, (p.map (·.2)).Nodup → s ∈ p → pushed f d p s.2 = f s.2 + (if s.2.1 = s.1 then d else 0 - d)
  | t :: p, f, nd, h => by
    rw [List.map_cons, List.nodup_cons] at nd
    show pushed (one f d t) d p s.2 = _
    rcases List.mem_cons.mp h with rfl | h
    · rw [pushed_other fun r hr e => nd.1 (List.mem_map.mpr ⟨r, hr, e⟩)]
      unfold one
      rw [if_pos rfl]
    · rw [pushed_at nd.2 h]
      unfold one
      rw [if_neg (fun e => nd.1 (List.mem_map.mpr ⟨s, h, e⟩))]
end
end Fl

/-! FlowB: a push along a shortest way brings no place nearer; the number that falls with each push -/
namespace Fl
section
variable {N : Net} {f g : Way → Int} {B : List Int}
theorem ends_two {w : Way} {u s : Int} (ok : N.Ok) (hw : w ∈ N.L) (hu : u ∈ N.blocks) (ht : touch w u = true) (hs : touch w s = true) (ne : s ≠ u) : N.other w s = u := by
  rw [mem_blocks] at hu
  rw [touch_iff] at ht hs
  unfold Net.other
  rcases ht with t1 | t1 <;> rcases hs with t2 | t2
  · exact absurd (t2.symm.trans t1) ne
  · rw [if_neg (show ¬ w.1 = s by omega)]
    rw [if_neg (by omega)]; exact t1
  · rw [if_pos t2, if_neg (by omega)]; exact t1
  · exact absurd (t2.symm.trans t1) ne
theorem rs_touch {u : Int} {w : Way} (h : N.rs f u w = true) : touch w u = true := by unfold Net.rs at h; rw [Bool.and_eq_true] at h; exact h.1
theorem rs_room {u : Int} {w : Way} (h : N.rs f u w = true) : N.room f w u ≠ some 0 := by unfold Net.rs at h; rw [Bool.and_eq_true, decide_eq_true_eq] at h; exact h.2
theorem rs_of {u : Int} {w : Way} (h1 : touch w u = true) (h2 : N.room f w u ≠ some 0) : N.rs f u w = true := by unfold Net.rs; rw [Bool.and_eq_true, decide_eq_true_eq]; exact ⟨h1, h2⟩
theorem room_same {u : Int} {w : Way} (h : f w = g w) : N.room f w u = N.room g w u := by unfold Net.room; rw [h]
/-- room behind a push stood ahead of it, or is the way back along the path -/
theorem rs_pushed {k : Nat} {v : Int} {p : Steps} {d : Int} {u : Int} {w : Way} (ok : N.Ok) (hp : Back N f B k v p) (hu : u ∈ N.blocks) (hw : w ∈ N.L) (h : N.rs (pushed f d p) u w = true) : N.rs f u w = true ∨ ∃ s ∈ p, s.2 = w ∧ N.other w s.1 = u := by
  by_cases hm : ∃ s ∈ p, s.2 = w
  · obtain ⟨s, hs, rfl⟩ := hm
    obtain ⟨j, hj, a1, a2, h1, h2, h3⟩ := back_lev hp s hs
    by_cases e : s.1 = u
    · rw [← e]; exact .inl h3
    · exact .inr ⟨s, hs, rfl, ends_two ok h1 hu (rs_touch h) (rs_touch h3) e⟩
  · refine .inl (rs_of (rs_touch h) ?_)
    rw [← room_same (pushed_other fun s hs e => hm ⟨s, hs, e⟩)]
    exact rs_room h
theorem R_pushed {K : Nat} {t : Int} {p : Steps} {d : Int} (ok : N.Ok) (hp : Back N f B K t p) : ∀ {k : Nat} {v : Int}, N.R (pushed f d p) B k v = true → N.R f B k v = true
  | 0, _, h => h
  | k + 1, v, h => by
    rcases R_succ.mp h with h | ⟨w, hw, u, hu, h1, h2, h3⟩
    · exact R_up1 (R_pushed ok hp h)
    · have h1 := R_pushed ok hp h1
      rcases rs_pushed ok hp hu hw h2 with h4 | ⟨s, hs, e1, e2⟩
      · exact R_succ.mpr (.inr ⟨w, hw, u, hu, h1, h4, h3⟩)
      · obtain ⟨j, hj, a1, a2, q1, q2, q3⟩ := back_lev hp s hs
        rw [e1] at a2 q3
        rw [e2] at a2
        have hb := other_back ok hw q2 hu (rs_touch q3) e2
        rw [hb.1] at h3
        rw [← h3]
        have := at_le a2 h1
        exact R_up a1.1 (by omega)
/-! counting -/
def cnt {α : Type} (p : α → Bool) (l : List α) : Nat := (l.filter p).length
theorem cnt_le {α : Type} {p q : α → Bool} : ∀ {l : List α}, (∀ a ∈ l, p a = true → q a = true) → cnt p l ≤ cnt q l
  | [], _ => Nat.le_refl _
  | a :: l, h => by
    have ih := cnt_le (p := p) (q := q) fun b hb => h b (List.mem_cons_of_mem _ hb)
    unfold cnt at ih ⊢
    rw [List.filter_cons, List.filter_cons]
    have h0 := h a List.mem_cons_self
    split
    · rename_i hp
      rw [if_pos (h0 hp)]
      simp only [List.length_cons]; omega
    · split
      · simp only [List.length_cons]; omega
      · exact ih
theorem cnt_lt {α : Type} {p q : α → Bool} : ∀ {l : List α}, (∀ a ∈ l, p a = true → q a = true) → (∃ a ∈ l, q a = true ∧ p a = false) → cnt p l < cnt q l
  | [], _, ⟨_, h, _⟩ => by cases h
  | a :: l, h, ⟨b, hb, h1, h2⟩ => by
    have hle := cnt_le (p := p) (q := q) fun c hc => h c (List.mem_cons_of_mem _ hc)
    have h0 := h a List.mem_cons_self
    rcases List.mem_cons.mp hb with rfl | hb
    · unfold cnt at hle ⊢
      rw [List.filter_cons, List.filter_cons, if_neg (by rw [h2]; exact Bool.false_ne_true), if_pos h1]
      simp only [List.length_cons]; omega
    · have ih := cnt_lt (p := p) (q := q) (fun c hc => h c (List.mem_cons_of_mem _ hc)) ⟨b, hb, h1, h2⟩
      unfold cnt at ih ⊢
      rw [List.filter_cons, List.filter_cons]
      split
      · rename_i hp
        rw [if_pos (h0 hp)]
        simp only [List.length_cons]; omega
      · split
        · simp only [List.length_cons]; omega
        · exact ih
theorem cnt_len {α : Type} (p : α → Bool) (l : List α) : cnt p l ≤ l.length := List.length_filter_le _ _
/-- the places, with the number of steps -/
def Net.pairs (N : Net) : List (Int × Nat) := (-1 :: N.blocks).flatMap fun v => (List.range (N.n + 2)).map fun k => (v, k)
def Net.edges (N : Net) : List (Int × Way) := N.blocks.flatMap fun u => N.L.map fun w => (u, w)
def Net.lev (N : Net) (f : Way → Int) (B : List Int) (e : Int × Way) : Bool := N.rs f e.1 e.2 && (List.range (N.n + 2)).any fun k => N.R f B k e.1 && !N.R f B k (N.other e.2 e.1)
def Net.mu (N : Net) (f : Way → Int) (B : List Int) : Nat := cnt (fun q => N.R f B q.2 q.1) N.pairs * (N.edges.length + 1) + cnt (N.lev f B) N.edges
theorem mem_pairs {v : Int} {k : Nat} : (v, k) ∈ N.pairs ↔ (v = -1 ∨ v ∈ N.blocks) ∧ k < N.n + 2 := by
  unfold Net.pairs
  rw [List.mem_flatMap]
  constructor
  · rintro ⟨x, hx, h⟩
    obtain ⟨j, hj, e⟩ := List.mem_map.mp h
    cases e
    exact ⟨List.mem_cons.mp hx, List.mem_range.mp hj⟩
  · rintro ⟨h1, h2⟩
    exact ⟨v, List.mem_cons.mpr h1, List.mem_map.mpr ⟨k, List.mem_range.mpr h2, rfl⟩⟩
theorem mem_edges {u : Int} {w : Way} : (u, w) ∈ N.edges ↔ u ∈ N.blocks ∧ w ∈ N.L := by
  unfold Net.edges
  rw [List.mem_flatMap]
  constructor
  · rintro ⟨x, hx, h⟩
    obtain ⟨j, hj, e⟩ := List.mem_map.mp h
    cases e
    exact ⟨hx, hj⟩
  · rintro ⟨h1, h2⟩
    exact ⟨u, h1, List.mem_map.mpr ⟨w, h2, rfl⟩⟩
theorem other_place {u : Int} {w : Way} (ok : N.Ok) (hu : u ∈ N.blocks) (hw : w ∈ N.L) (ht : touch w u = true) : N.other w u = -1 ∨ N.other w u ∈ N.blocks := by
  rw [mem_blocks] at hu ⊢
  rw [touch_iff] at ht
  have := ok.rng w hw
  unfold Net.other
  by_cases h1 : w.1 = u
  · simp only [if_pos h1]
    split
    · exact .inl rfl
    · right; omega
  · simp only [if_neg h1]
    split
    · exact .inl rfl
    · rcases this with h | h
      · exact .inl h.1
      · right; omega
/-- a path that may be pushed by d: all have room for it, one has no more -/
structure Push (N : Net) (f : Way → Int) (B : List Int) (K : Nat) (p : Steps) (d : Int) : Prop where
  back : Back N f B K (-1) p
  most : K ≤ N.n + 1
  pos : 0 < d
  room : ∀ s ∈ p, ∀ r, N.room f s.2 s.1 = some r → d ≤ r
  crit : ∃ s ∈ p, N.room f s.2 s.1 = some d
theorem mu_falls {K : Nat} {p : Steps} {d : Int} (ok : N.Ok) (h : Push N f B K p d) : N.mu (pushed f d p) B < N.mu f B := by
  have hsub : ∀ q ∈ N.pairs, N.R (pushed f d p) B q.2 q.1 = true → N.R f B q.2 q.1 = true := fun q _ hq => R_pushed ok h.back hq
  have hlen := cnt_len (N.lev (pushed f d p) B) N.edges
  by_cases hall : ∀ q ∈ N.pairs, N.R f B q.2 q.1 = true → N.R (pushed f d p) B q.2 q.1 = true
  · have e : cnt (fun q => N.R (pushed f d p) B q.2 q.1) N.pairs = cnt (fun q => N.R f B q.2 q.1) N.pairs := Nat.le_antisymm (cnt_le hsub) (cnt_le hall)
    unfold Net.mu
    rw [e]
    refine Nat.add_lt_add_left (cnt_lt ?_ ?_) _
    · rintro ⟨u, w⟩ he hl
      obtain ⟨hu, hw⟩ := mem_edges.mp he
      unfold Net.lev at hl ⊢
      rw [Bool.and_eq_true, List.any_eq_true] at hl ⊢
      obtain ⟨hr, k, hk, hkk⟩ := hl
      simp only [Bool.and_eq_true, Bool.not_eq_true'] at hkk
      have hk2 := List.mem_range.mp hk
      have ht := rs_touch hr
      have hpl := other_place ok hu hw ht
      have r1 : N.R f B k u = true := hsub (u, k) (mem_pairs.mpr ⟨.inr hu, hk2⟩) hkk.1
      have r2 : N.R f B k (N.other w u) = false := by
        cases hb : N.R f B k (N.other w u) with
        | false => rfl
        | true =>
          have := hall (N.other w u, k) (mem_pairs.mpr ⟨hpl, hk2⟩) hb
          rw [hkk.2] at this; cases this
      rcases rs_pushed ok h.back hu hw hr with h4 | ⟨s, hs, e1, e2⟩
      · exact ⟨h4, k, hk, by simp only [r1, r2, Bool.not_false, Bool.and_self]⟩
      · obtain ⟨j, hj, a1, a2, q1, q2, q3⟩ := back_lev h.back s hs
        rw [e1] at a2 q3
        rw [e2] at a2
        have hb := other_back ok hw q2 hu (rs_touch q3) e2
        have := at_le a2 r1
        rw [hb.1, R_up a1.1 (by omega)] at r2
        cases r2
    · obtain ⟨s, hs, hc⟩ := h.crit
      obtain ⟨j, hj, a1, a2, q1, q2, q3⟩ := back_lev h.back s hs
      have hmost := h.most
      refine ⟨(s.1, s.2), mem_edges.mpr ⟨q2, q1⟩, ?_, ?_⟩
      · unfold Net.lev
        rw [Bool.and_eq_true, List.any_eq_true]
        refine ⟨q3, j, List.mem_range.mpr (by omega), ?_⟩
        simp only [a1.1, a2.2 j (by omega), Bool.not_false, Bool.and_self]
      · unfold Net.lev
        have hpa := pushed_at (d := d) (f := f) (back_once ok h.back) hs
        have : N.rs (pushed f d p) s.1 s.2 = false := by
          unfold Net.rs
          have hr0 : N.room (pushed f d p) s.2 s.1 = some 0 := by
            unfold Net.room at hc ⊢
            cases hcap : N.cap s.2 with
            | none => rw [hcap] at hc; cases hc
            | some c =>
              rw [hcap] at hc
              simp only [Option.some.injEq] at hc ⊢
              rw [hpa]
              split at hc
              · rename_i h1
                rw [if_pos h1, if_pos h1]; omega
              · rename_i h1
                rw [if_neg h1, if_neg h1]; omega
          rw [hr0]; simp
        show (N.rs (pushed f d p) s.1 s.2 && _) = false
        rw [this]; rfl
  · have hlt : cnt (fun q => N.R (pushed f d p) B q.2 q.1) N.pairs < cnt (fun q => N.R f B q.2 q.1) N.pairs := by
      refine cnt_lt hsub ?_
      refine Classical.byContradiction fun hn => hall fun q hq hr => ?_
      cases hb : N.R (pushed f d p) B q.2 q.1 with
      | true => rfl
      | false => exact absurd ⟨q, hq, hr, hb⟩ hn
    unfold Net.mu
    have h1 : (cnt (fun q => N.R (pushed f d p) B q.2 q.1) N.pairs + 1) * (N.edges.length + 1) ≤ cnt (fun q => N.R f B q.2 q.1) N.pairs * (N.edges.length + 1) := Nat.mul_le_mul_right _ hlt
    rw [Nat.add_mul] at h1
    omega
end
end Fl

/-! FlowC: what flows, what a set of blocks costs, and that the one is never more than the other; where nothing more can flow both are one -/
namespace Fl
section
variable {N : Net} {f g : Way → Int} {B S : List Int}
def Net.dst (N : Net) (w : Way) : Int := if w.2 = (N.n : Int) then -1 else w.2
def pick (p : Prop) [Decidable p] (x : Int) : Int := if p then x else 0
theorem pick_t {p : Prop} [Decidable p] {x : Int} (h : p) : pick p x = x := if_pos h
theorem pick_f {p : Prop} [Decidable p] {x : Int} (h : ¬ p) : pick p x = 0 := if_neg h
/-- how much more comes to a place than goes from it -/
def Net.net (N : Net) (f : Way → Int) (x : Int) : Int := (N.L.map fun w => pick (N.dst w = x) (f w) - pick (w.1 = x) (f w)).sum
def Net.Cons (N : Net) (f : Way → Int) (B : List Int) : Prop := ∀ b ∈ N.blocks, b ∉ B → N.net f b = 0
def Net.Bd (N : Net) (f : Way → Int) : Prop := ∀ w ∈ N.L, ∀ c, N.cap w = some c → c.1 ≤ f w ∧ f w ≤ c.2
theorem sum_add {α : Type} (p q : α → Int) (l : List α) : (l.map fun a => p a + q a).sum = (l.map p).sum + (l.map q).sum := by
  induction l with
  | nil => rfl
  | cons a l ih => simp only [List.map_cons, List.sum_cons, ih]; omega
theorem sum_one {p q : Way → Int} {w : Way} {e : Int} : ∀ {l : List Way}, l.Nodup → w ∈ l → (∀ v, v ≠ w → q v = p v) → q w = p w + e → (l.map q).sum = (l.map p).sum + e
  | a :: l, nd, h, h1, h2 => by
    rw [List.nodup_cons] at nd
    simp only [List.map_cons, List.sum_cons]
    rcases List.mem_cons.mp h with rfl | h
    · have : l.map q = l.map p := List.map_congr_left fun v hv => h1 v (fun e => nd.1 (e ▸ hv))
      rw [this, h2]; omega
    · rw [sum_one nd.2 h h1 h2, h1 a (fun e => nd.1 (e ▸ h))]; omega
/-- one step moves d from u to the other end -/
theorem net_one (ok : N.Ok) {u : Int} {w : Way} {d : Int} (hw : w ∈ N.L) (hu : u ∈ N.blocks) (ht : touch w u = true) (x : Int) : N.net (one f d (u, w)) x = N.net f x + (pick (x = N.other w u) d - pick (x = u) d) := by
  have hr := ok.rng w hw
  rw [mem_blocks] at hu
  rw [touch_iff] at ht
  refine sum_one ok.nd hw (fun v hv => ?_) ?_
  · unfold one
    rw [if_neg hv]
  · unfold one
    rw [if_pos rfl]
    by_cases h1 : w.1 = u
    · have eo : N.other w u = N.dst w := by unfold Net.other Net.dst; simp only [if_pos h1]
      rw [eo]
      simp only [if_pos h1]
      unfold pick
      by_cases h2 : N.dst w = x <;> by_cases h3 : w.1 = x
      · rw [if_pos h2, if_pos h3, if_pos h2, if_pos h3, if_pos h2.symm, if_pos (h3.symm.trans h1)]; omega
      · rw [if_pos h2, if_neg h3, if_pos h2, if_neg h3, if_pos h2.symm, if_neg (fun e => h3 (h1.trans e.symm))]; omega
      · rw [if_neg h2, if_pos h3, if_neg h2, if_pos h3, if_neg (fun e => h2 e.symm), if_pos (h3.symm.trans h1)]; omega
      · rw [if_neg h2, if_neg h3, if_neg h2, if_neg h3, if_neg (fun e => h2 e.symm), if_neg (fun e => h3 (h1.trans e.symm))]; omega
    · have h2 : w.2 = u := by rcases ht with h | h; exact absurd h h1; exact h
      have eo : N.other w u = w.1 := by unfold Net.other; simp only [if_neg h1]; rw [if_neg (by omega)]
      have ed : N.dst w = u := by unfold Net.dst; rw [if_neg (by omega)]; exact h2
      rw [eo, ed]
      simp only [if_neg h1]
      unfold pick
      by_cases h3 : u = x <;> by_cases h4 : w.1 = x
      · omega
      · rw [if_pos h3, if_neg h4, if_pos h3, if_neg h4, if_neg (fun e => h4 e.symm), if_pos h3.symm]; omega
      · rw [if_neg h3, if_pos h4, if_neg h3, if_pos h4, if_pos h4.symm, if_neg (fun e => h3 e.symm)]; omega
      · rw [if_neg h3, if_neg h4, if_neg h3, if_neg h4, if_neg (fun e => h4 e.symm), if_neg (fun e => h3 e.symm)]; omega
theorem net_pushed (ok : N.Ok) {k : Nat} {v : Int} {p : Steps} {d : Int} (h : Back N f B k v p) : ∃ b ∈ B, ∀ (g : Way → Int) (x : Int), N.net (pushed g d p) x = N.net g x + (pick (x = v) d - pick (x = b) d) := by
  induction h with
  | @nil v h =>
    refine ⟨v, of_decide_eq_true h.1, fun g x => ?_⟩
    show N.net g x = _
    omega
  | @cons k u v w p hb hw hu hr ho ha ih =>
    obtain ⟨b, hb, hx⟩ := ih
    refine ⟨b, hb, fun g x => ?_⟩
    show N.net (pushed (one g d (u, w)) d p) x = _
    rw [hx, net_one ok hw hu (rs_touch hr), ho]
    omega
theorem bd_pushed (ok : N.Ok) {K : Nat} {p : Steps} {d : Int} (h : Push N f B K p d) (hb : N.Bd f) : N.Bd (pushed f d p) := by
  intro w hw c hc
  have h0 := hb w hw c hc
  by_cases hm : ∃ s ∈ p, s.2 = w
  · obtain ⟨s, hs, rfl⟩ := hm
    have hr := h.room s hs
    have hp := h.pos
    rw [pushed_at (back_once ok h.back) hs]
    unfold Net.room at hr
    rw [hc] at hr
    have hr := hr _ rfl
    split at hr
    · rename_i e; rw [if_pos e]; omega
    · rename_i e; rw [if_neg e]; omega
  · rw [pushed_other fun s hs e => hm ⟨s, hs, e⟩]; exact h0
theorem cons_pushed (ok : N.Ok) {K : Nat} {p : Steps} {d : Int} (h : Push N f B K p d) (hc : N.Cons f B) : N.Cons (pushed f d p) B := by
  intro b hb hn
  obtain ⟨b0, hb0, hx⟩ := net_pushed (d := d) ok h.back
  rw [hx f b, hc b hb hn, pick_f (fun e => by rw [mem_blocks] at hb; omega), pick_f (fun e : b = b0 => hn (by rw [e]; exact hb0))]; rfl
/-! sets of blocks -/
/-- S is a set that holds B and puts nothing on a shut way -/
structure Fits (N : Net) (B S : List Int) : Prop where
  sub : ∀ b ∈ S, b ∈ N.blocks
  busy : ∀ b ∈ B, b ∈ S
  shut : ∀ w ∈ N.L, N.cap w = none → (w.1 ∈ S ↔ w.2 ∈ S)
def Net.costw (N : Net) (S : List Int) (w : Way) : Int := match N.cap w with
  | none => 0
  | some c => if w.1 ∈ S ∧ w.2 ∉ S then c.2 else if w.1 ∉ S ∧ w.2 ∈ S then 0 - c.1 else 0
def Net.cost (N : Net) (S : List Int) : Int := (N.L.map (N.costw S)).sum
def cross (f : Way → Int) (S : List Int) (w : Way) : Int := if w.1 ∈ S ∧ w.2 ∉ S then f w else if w.1 ∉ S ∧ w.2 ∈ S then 0 - f w else 0
theorem net_sum : ∀ {l : List Int}, l.Nodup → (l.map (N.net f)).sum = (N.L.map fun w => pick (N.dst w ∈ l) (f w) - pick (w.1 ∈ l) (f w)).sum
  | [], _ => by
    have : (N.L.map fun w => pick (N.dst w ∈ ([] : List Int)) (f w) - pick (w.1 ∈ ([] : List Int)) (f w)) = N.L.map fun _ => 0 := List.map_congr_left fun w _ => by rw [pick_f (by simp), pick_f (by simp)]; rfl
    rw [this]
    generalize N.L = L
    induction L with
    | nil => rfl
    | cons a L ih => simp only [List.map_cons, List.sum_cons]; rw [← ih]; rfl
  | a :: l, nd => by
    rw [List.nodup_cons] at nd
    rw [List.map_cons, List.sum_cons, net_sum nd.2]
    unfold Net.net
    rw [← sum_add]
    congr 1
    refine List.map_congr_left fun w _ => ?_
    unfold pick
    simp only [List.mem_cons]
    by_cases h1 : N.dst w = a <;> by_cases h2 : w.1 = a <;> by_cases h3 : N.dst w ∈ l <;> by_cases h4 : w.1 ∈ l
    all_goals first
      | (exfalso; rw [h1] at h3; exact nd.1 h3)
      | (exfalso; rw [h2] at h4; exact nd.1 h4)
      | (simp only [h1, h2, h3, h4, nd.1, if_true, if_false, or_true, or_false, true_or, false_or]; omega)
theorem blocks_nd : N.blocks.Nodup := by
  unfold Net.blocks
  have := List.nodup_range (n := N.n)
  rw [List.Nodup, List.pairwise_map]
  exact this.imp fun h e => h (by omega)
theorem dst_mem (ok : N.Ok) (hs : ∀ b ∈ S, b ∈ N.blocks) {w : Way} (hw : w ∈ N.L) : N.dst w ∈ S ↔ w.2 ∈ S := by
  unfold Net.dst
  split
  · rename_i e
    constructor
    · intro h; have := mem_blocks.mp (hs _ h); omega
    · intro h; have := mem_blocks.mp (hs _ h); omega
  · exact Iff.rfl
/-- what comes to the door is what crosses any right set -/
theorem amount_cross (ok : N.Ok) (hc : N.Cons f B) (hs : Fits N B S) : N.net f (-1) = (N.L.map (cross f S)).sum := by
  have nd : (-1 :: N.blocks.filter fun b => decide (b ∉ S)).Nodup := by
    rw [List.nodup_cons]
    refine ⟨fun h => ?_, blocks_nd.filter _⟩
    have := mem_blocks.mp (List.mem_filter.mp h).1
    omega
  have h1 := net_sum (N := N) (f := f) nd
  rw [List.map_cons, List.sum_cons] at h1
  have h2 : ((N.blocks.filter fun b => decide (b ∉ S)).map (N.net f)).sum = 0 := by
    have : ∀ l : List Int, (∀ b ∈ l, N.net f b = 0) → (l.map (N.net f)).sum = 0 := fun l => by
      induction l with
      | nil => intro _; rfl
      | cons a l ih =>
        intro h
        rw [List.map_cons, List.sum_cons, h a List.mem_cons_self, ih fun b hb => h b (List.mem_cons_of_mem _ hb)]; rfl
    refine this _ fun b hb => ?_
    obtain ⟨hb1, hb2⟩ := List.mem_filter.mp hb
    exact hc b hb1 fun h => (of_decide_eq_true hb2) (hs.busy b h)
  rw [h2, Int.add_zero] at h1
  rw [h1]
  congr 1
  refine List.map_congr_left fun w hw => ?_
  have hr := ok.rng w hw
  have hd := dst_mem ok hs.sub hw
  have hdp : N.dst w = -1 ∨ N.dst w ∈ N.blocks := by
    unfold Net.dst
    rw [mem_blocks]
    split
    · exact .inl rfl
    · right; omega
  have hsp : w.1 = -1 ∨ w.1 ∈ N.blocks := by rw [mem_blocks]; omega
  have m1 : N.dst w ∈ (-1 :: N.blocks.filter fun b => decide (b ∉ S)) ↔ w.2 ∉ S := by
    rw [List.mem_cons, List.mem_filter, decide_eq_true_eq, hd]
    constructor
    · rintro (h | ⟨_, h⟩)
      · rw [← hd, h]; intro h2; have := mem_blocks.mp (hs.sub _ h2); omega
      · exact h
    · intro h
      rcases hdp with h2 | h2
      · exact .inl h2
      · exact .inr ⟨h2, h⟩
  have m2 : w.1 ∈ (-1 :: N.blocks.filter fun b => decide (b ∉ S)) ↔ w.1 ∉ S := by
    rw [List.mem_cons, List.mem_filter, decide_eq_true_eq]
    constructor
    · rintro (h | ⟨_, h⟩)
      · rw [h]; intro h2; have := mem_blocks.mp (hs.sub _ h2); omega
      · exact h
    · intro h
      rcases hsp with h2 | h2
      · exact .inl h2
      · exact .inr ⟨h2, h⟩
  unfold pick cross
  simp only [m1, m2]
  by_cases a1 : w.1 ∈ S <;> by_cases a2 : w.2 ∈ S <;> simp [a1, a2]
theorem sum_le {p q : Way → Int} : ∀ {l : List Way}, (∀ w ∈ l, p w ≤ q w) → (l.map p).sum ≤ (l.map q).sum
  | [], _ => Int.le_refl _
  | a :: l, h => by
    simp only [List.map_cons, List.sum_cons]
    have h1 := h a List.mem_cons_self
    have h2 := sum_le (p := p) (q := q) fun w hw => h w (List.mem_cons_of_mem _ hw)
    omega
theorem sum_le_eq {p q : Way → Int} : ∀ {l : List Way}, (∀ w ∈ l, p w ≤ q w) → (l.map p).sum = (l.map q).sum → ∀ w ∈ l, p w = q w
  | [], _, _ => fun _ h => by cases h
  | a :: l, h, e => by
    simp only [List.map_cons, List.sum_cons] at e
    have h1 := h a List.mem_cons_self
    have h2 := sum_le (p := p) (q := q) fun w hw => h w (List.mem_cons_of_mem _ hw)
    intro w hw
    rcases List.mem_cons.mp hw with rfl | hw
    · omega
    · exact sum_le_eq (fun w hw => h w (List.mem_cons_of_mem _ hw)) (by omega) w hw
theorem cross_le (hb : N.Bd f) (hs : Fits N B S) {w : Way} (hw : w ∈ N.L) : cross f S w ≤ N.costw S w := by
  unfold cross Net.costw
  cases hc : N.cap w with
  | none =>
    have := hs.shut w hw hc
    by_cases a1 : w.1 ∈ S <;> by_cases a2 : w.2 ∈ S <;> simp_all
  | some c =>
    have := hb w hw c hc
    simp only
    split
    · exact this.2
    · split
      · omega
      · exact Int.le_refl _
/-- no right set costs less than what flows -/
theorem weak (ok : N.Ok) (hb : N.Bd f) (hc : N.Cons f B) (hs : Fits N B S) : N.net f (-1) ≤ N.cost S := by
  rw [amount_cross ok hc hs]
  exact sum_le fun w hw => cross_le hb hs hw
/-- it costs as much just where no way has room away from it -/
def Tight (N : Net) (f : Way → Int) (S : List Int) : Prop := ∀ w ∈ N.L, ∀ u ∈ S, touch w u = true → N.other w u ∉ S → N.room f w u = some 0
theorem tight_of_cost (ok : N.Ok) (hb : N.Bd f) (hc : N.Cons f B) (hs : Fits N B S) (e : N.net f (-1) = N.cost S) : Tight N f S := by
  have h := sum_le_eq (fun w hw => cross_le hb hs hw) ((amount_cross ok hc hs).symm.trans e)
  intro w hw u hu ht ho
  have h0 := h w hw
  have hr := ok.rng w hw
  have hub := mem_blocks.mp (hs.sub u hu)
  rw [touch_iff] at ht
  unfold cross Net.costw at h0
  unfold Net.room
  by_cases h1 : w.1 = u
  · have eo : N.other w u = N.dst w := by unfold Net.other Net.dst; simp only [if_pos h1]
    rw [eo, dst_mem ok hs.sub hw] at ho
    have hin : w.1 ∈ S ∧ w.2 ∉ S := ⟨by rw [h1]; exact hu, ho⟩
    cases hcap : N.cap w with
    | none => exact absurd ((hs.shut w hw hcap).mp hin.1) hin.2
    | some c =>
      rw [hcap] at h0
      simp only [if_pos hin] at h0
      simp only [if_pos h1]
      congr 1; omega
  · have h2 : w.2 = u := by rcases ht with h | h; exact absurd h h1; exact h
    have eo : N.other w u = w.1 := by unfold Net.other; simp only [if_neg h1]; rw [if_neg (by omega)]
    rw [eo] at ho
    have hin : w.1 ∉ S ∧ w.2 ∈ S := ⟨ho, by rw [h2]; exact hu⟩
    have hnin : ¬ (w.1 ∈ S ∧ w.2 ∉ S) := fun h => ho h.1
    cases hcap : N.cap w with
    | none => exact absurd ((hs.shut w hw hcap).mpr hin.2) hin.1
    | some c =>
      rw [hcap] at h0
      simp only [if_neg hnin, if_pos hin] at h0
      simp only [if_neg h1]
      congr 1; omega
theorem fits_of_tight (ok : N.Ok) (hsub : ∀ b ∈ S, b ∈ N.blocks) (hbusy : ∀ b ∈ B, b ∈ S) (ht : Tight N f S) : Fits N B S := by
  refine ⟨hsub, hbusy, fun w hw hc => ?_⟩
  have hr := ok.rng w hw
  have hroom : ∀ u, N.room f w u ≠ some 0 := fun u => by unfold Net.room; rw [hc]; simp
  constructor
  · intro h
    refine Classical.byContradiction fun hn => ?_
    have hd := dst_mem ok hsub hw
    exact hroom _ (ht w hw w.1 h (touch_iff.mpr (.inl rfl)) (by
      unfold Net.other
      simp only [if_pos rfl]
      show N.dst w ∉ S
      rw [hd]; exact hn))
  · intro h
    refine Classical.byContradiction fun hn => ?_
    have hb := mem_blocks.mp (hsub _ h)
    have ne : ¬ w.1 = w.2 := fun e => hn (e ▸ h)
    exact hroom _ (ht w hw w.2 h (touch_iff.mpr (.inr rfl)) (by
      unfold Net.other
      simp only [if_neg ne]
      rw [if_neg (by omega)]; exact hn))
theorem cost_of_tight (ok : N.Ok) (hc : N.Cons f B) (hs : Fits N B S) (ht : Tight N f S) : N.net f (-1) = N.cost S := by
  rw [amount_cross ok hc hs]
  unfold Net.cost
  congr 1
  refine List.map_congr_left fun w hw => ?_
  have hr := ok.rng w hw
  have hd := dst_mem ok hs.sub hw
  unfold cross Net.costw
  by_cases a1 : w.1 ∈ S <;> by_cases a2 : w.2 ∈ S
  · have n1 : ¬ (w.1 ∈ S ∧ w.2 ∉ S) := fun h => h.2 a2
    have n2 : ¬ (w.1 ∉ S ∧ w.2 ∈ S) := fun h => h.1 a1
    rw [if_neg n1, if_neg n2]
    cases N.cap w with
    | none => rfl
    | some c => simp only [if_neg n1, if_neg n2]
  · have h0 := ht w hw w.1 a1 (touch_iff.mpr (.inl rfl)) (by
      unfold Net.other
      simp only [if_pos rfl]
      show N.dst w ∉ S
      rw [hd]; exact a2)
    rw [if_pos ⟨a1, a2⟩]
    unfold Net.room at h0
    cases hcap : N.cap w with
    | none => rw [hcap] at h0; cases h0
    | some c =>
      rw [hcap] at h0
      simp only [if_pos rfl, Option.some.injEq] at h0
      simp only [if_pos (show w.1 ∈ S ∧ w.2 ∉ S from ⟨a1, a2⟩)]
      simp only [if_true] at h0
      omega
  · have hb := mem_blocks.mp (hs.sub _ a2)
    have ne : ¬ w.1 = w.2 := fun e => a1 (e ▸ a2)
    have h0 := ht w hw w.2 a2 (touch_iff.mpr (.inr rfl)) (by
      unfold Net.other
      simp only [if_neg ne]
      rw [if_neg (by omega)]; exact a1)
    have n1 : ¬ (w.1 ∈ S ∧ w.2 ∉ S) := fun h => a1 h.1
    rw [if_neg n1, if_pos ⟨a1, a2⟩]
    unfold Net.room at h0
    cases hcap : N.cap w with
    | none => rw [hcap] at h0; cases h0
    | some c =>
      rw [hcap] at h0
      simp only [if_neg ne, Option.some.injEq] at h0
      simp only [if_neg n1, if_pos (show w.1 ∉ S ∧ w.2 ∈ S from ⟨a1, a2⟩)]
      omega
  · have n1 : ¬ (w.1 ∈ S ∧ w.2 ∉ S) := fun h => a1 h.1
    have n2 : ¬ (w.1 ∉ S ∧ w.2 ∈ S) := fun h => a2 h.2
    rw [if_neg n1, if_neg n2]
    cases N.cap w with
    | none => rfl
    | some c => simp only [if_neg n1, if_neg n2]
end
end Fl

/-! FlowD: the places that are come to, the least and the greatest set that costs least; where there is none -/
namespace Fl
open Wk DL
section
variable {N : Net} {f g : Way → Int} {B S : List Int}
theorem at_path : ∀ {k : Nat} {v : Int}, N.At f B k v → ∃ p, Back N f B k v p
  | 0, v, h => ⟨[], .nil h⟩
  | k + 1, v, h => by
    rcases R_succ.mp h.1 with h1 | ⟨w, hw, u, hu, h1, h2, h3⟩
    · rw [h.2 k (Nat.lt_succ_self _)] at h1; cases h1
    · obtain ⟨j, hj, ha⟩ := at_of h1
      have e : j = k := by
        refine Decidable.byContradiction fun e => ?_
        have : N.R f B (j + 1) v = true := R_succ.mpr (.inr ⟨w, hw, u, hu, ha.1, h2, h3⟩)
        have h4 := h.2 (j + 1) (by omega)
        rw [this] at h4; cases h4
      subst e
      obtain ⟨p, hp⟩ := at_path ha
      exact ⟨(u, w) :: p, .cons hp hw hu h2 h3 h⟩
theorem back_len {k : Nat} {v : Int} {p : Steps} (h : Back N f B k v p) : p.length = k := by
  induction h with
  | nil => rfl
  | cons _ _ _ _ _ _ ih => rw [List.length_cons, ih]
theorem back_nd {k : Nat} {v : Int} {p : Steps} (h : Back N f B k v p) : (v :: p.map (·.1)).Nodup := by
  induction h with
  | nil => exact List.pairwise_singleton _ _
  | @cons k u v w p hb hw hu hr ho ha ih =>
    rw [List.nodup_cons]
    refine ⟨fun hm => ?_, ih⟩
    have hm : v ∈ u :: p.map (·.1) := hm
    rcases List.mem_cons.mp hm with e | hm
    · rw [e] at ha
      have := at_uniq ha hb.at
      omega
    · obtain ⟨s, hs, e⟩ := List.mem_map.mp hm
      obtain ⟨j, hj, a1, _⟩ := back_lev hb s hs
      have e : s.1 = v := e
      rw [e] at a1
      have := at_uniq ha a1
      omega
theorem at_small {k : Nat} {v : Int} (hv : v = -1 ∨ v ∈ N.blocks) (h : N.At f B k v) : k ≤ N.n := by
  obtain ⟨p, hp⟩ := at_path h
  have hl := back_len hp
  have hn := back_nd hp
  have hr : ∀ x ∈ v :: p.map (·.1), x = -1 ∨ x ∈ N.blocks := fun x hx => by
    rcases List.mem_cons.mp hx with rfl | hx
    · exact hv
    · obtain ⟨s, hs, rfl⟩ := List.mem_map.mp hx
      obtain ⟨j, hj, a1, a2, h1, h2, h3⟩ := back_lev hp s hs
      exact .inr h2
  have h2 : ((v :: p.map (·.1)).map fun x => (x + 1).toNat).Nodup := by
    rw [List.Nodup, List.pairwise_map] at *
    refine List.Pairwise.imp_of_mem (fun {a b} ha hb hne e => hne ?_) hn
    have ba := hr a ha
    have bb := hr b hb
    rw [mem_blocks] at ba bb
    omega
  have := nodup_len (n := N.n + 1) h2 fun k hk => by
    obtain ⟨x, hx, rfl⟩ := List.mem_map.mp hk
    have := hr x hx
    rw [mem_blocks] at this
    omega
  simp only [List.length_map, List.length_cons] at this
  omega
theorem R_stop {k : Nat} {v : Int} (hv : v = -1 ∨ v ∈ N.blocks) (h : N.R f B k v = true) : N.R f B N.n v = true := by
  obtain ⟨j, hj, ha⟩ := at_of h
  exact R_up ha.1 (at_small hv ha)
/-- the blocks that more can go to -/
def Net.reached (N : Net) (f : Way → Int) (B : List Int) : List Int := N.blocks.filter (N.R f B N.n)
theorem mem_reached {u : Int} : u ∈ N.reached f B ↔ u ∈ N.blocks ∧ N.R f B N.n u = true := by unfold Net.reached; rw [List.mem_filter]
theorem tight_reached (ok : N.Ok) (hd : N.R f B N.n (-1) = false) : Tight N f (N.reached f B) := by
  intro w hw u hu ht ho
  obtain ⟨hu1, hu2⟩ := mem_reached.mp hu
  refine Classical.byContradiction fun hr => ?_
  have hp := other_place ok hu1 hw ht
  have h1 : N.R f B (N.n + 1) (N.other w u) = true := R_succ.mpr (.inr ⟨w, hw, u, hu1, hu2, rs_of ht hr, rfl⟩)
  have h2 := R_stop hp h1
  rcases hp with e | hp
  · rw [e, hd] at h2; cases h2
  · exact ho (mem_reached.mpr ⟨hp, h2⟩)
theorem reached_in (hB : ∀ b ∈ B, b ∈ S) (ht : Tight N f S) : ∀ {k : Nat} {v : Int}, N.R f B k v = true → v ∈ S
  | 0, v, h => hB v (of_decide_eq_true h)
  | k + 1, v, h => by
    rcases R_succ.mp h with h1 | ⟨w, hw, u, hu, h1, h2, h3⟩
    · exact reached_in hB ht h1
    · refine Classical.byContradiction fun hn => ?_
      exact rs_room h2 (ht w hw u (reached_in hB ht h1) (rs_touch h2) (by rw [h3]; exact hn))
/-- the places from which more could go to the door -/
inductive ToD (N : Net) (f : Way → Int) : Int → Prop
  | door : ToD N f (-1)
  | step {u : Int} {w : Way} : u ∈ N.blocks → w ∈ N.L → N.rs f u w = true → ToD N f (N.other w u) → ToD N f u
theorem tod_reach {u : Int} (h : ToD N f u) : ∀ {k : Nat}, N.R f B k u = true → ∃ j, N.R f B j (-1) = true := by
  induction h with
  | door => exact fun h => ⟨_, h⟩
  | @step u w hu hw hr _ ih => exact fun {k} h => ih (k := k + 1) (R_succ.mpr (.inr ⟨w, hw, u, hu, h, hr, rfl⟩))
theorem tod_out (hs : ∀ b ∈ S, b ∈ N.blocks) (ht : Tight N f S) {u : Int} (h : ToD N f u) : u ∉ S := by
  induction h with
  | door => intro h; have := mem_blocks.mp (hs _ h); omega
  | @step u w hu hw hr _ ih => exact fun h => rs_room hr (ht w hw u h (rs_touch hr) ih)
theorem tight_wide (ok : N.Ok) (h1 : ∀ b, b ∈ S ↔ b ∈ N.blocks ∧ ¬ ToD N f b) : Tight N f S := by
  intro w hw u hu ht ho
  obtain ⟨hu1, hu2⟩ := (h1 u).mp hu
  refine Classical.byContradiction fun hr => hu2 (.step hu1 hw (rs_of ht hr) ?_)
  rcases other_place ok hu1 hw ht with e | hp
  · rw [e]; exact .door
  · exact Classical.byContradiction fun hn => ho ((h1 _).mpr ⟨hp, hn⟩)
/-- all rooms without a bound: no right set -/
theorem no_fits (ok : N.Ok) (hs : Fits N B S) {k : Nat} {v : Int} {p : Steps} (h : Back N f B k v p) (hr : ∀ s ∈ p, N.room f s.2 s.1 = none) : v ∈ S := by
  induction h with
  | nil h => exact hs.busy _ (of_decide_eq_true h.1)
  | @cons k u v w p hb hw hu hr0 ho ha ih =>
    have hu2 := ih fun s hs => hr s (List.mem_cons_of_mem _ hs)
    have hc : N.cap w = none := by
      have := hr (u, w) List.mem_cons_self
      unfold Net.room at this
      cases h : N.cap w with
      | none => rfl
      | some c => rw [h] at this; cases this
    have hsh := hs.shut w hw hc
    have ht := touch_iff.mp (rs_touch hr0)
    have hrg := ok.rng w hw
    have hub := mem_blocks.mp hu
    have hd := dst_mem ok hs.sub hw
    by_cases h1 : w.1 = u
    · have eo : N.other w u = N.dst w := by unfold Net.other Net.dst; simp only [if_pos h1]
      rw [← ho, eo, hd]
      exact hsh.mp (by rw [h1]; exact hu2)
    · have h2 : w.2 = u := by rcases ht with h | h; exact absurd h h1; exact h
      have eo : N.other w u = w.1 := by unfold Net.other; simp only [if_neg h1]; rw [if_neg (by omega)]
      rw [← ho, eo]
      exact hsh.mpr (by rw [h2]; exact hu2)
/-! what comes of it -/
/-- a flow that can't be more -/
structure Full (N : Net) (B : List Int) (f : Way → Int) : Prop where
  bd : N.Bd f
  cons : N.Cons f B
  full : N.R f B N.n (-1) = false
structure Least (N : Net) (B : List Int) (c : Int) (S : List Int) : Prop where
  fits : Fits N B S
  cost : N.cost S = c
  least : ∀ S', Fits N B S' → c ≤ N.cost S'
theorem full_reached (ok : N.Ok) (hB : ∀ b ∈ B, b ∈ N.blocks) (h : Full N B f) : Least N B (N.net f (-1)) (N.reached f B) ∧ ∀ S', Least N B (N.net f (-1)) S' → ∀ b ∈ N.reached f B, b ∈ S' := by
  have ht := tight_reached ok h.full
  have hsub : ∀ b ∈ N.reached f B, b ∈ N.blocks := fun b hb => (mem_reached.mp hb).1
  have hb : ∀ b ∈ B, b ∈ N.reached f B := fun b hb => mem_reached.mpr ⟨hB b hb, R_up (k := 0) (decide_eq_true hb) (Nat.zero_le _)⟩
  have hf := fits_of_tight ok hsub hb ht
  refine ⟨⟨hf, (cost_of_tight ok h.cons hf ht).symm, fun S' hs => weak ok h.bd h.cons hs⟩, fun S' hs b hb2 => ?_⟩
  exact reached_in hs.fits.busy (tight_of_cost ok h.bd h.cons hs.fits hs.cost.symm) (mem_reached.mp hb2).2
theorem full_wide (ok : N.Ok) (hB : ∀ b ∈ B, b ∈ N.blocks) (h : Full N B f) {W : List Int} (h1 : ∀ b, b ∈ W ↔ b ∈ N.blocks ∧ ¬ ToD N f b) : Least N B (N.net f (-1)) W ∧ ∀ S', Least N B (N.net f (-1)) S' → ∀ b ∈ S', b ∈ W := by
  have ht := tight_wide ok h1
  have hb : ∀ b ∈ B, b ∈ W := fun b hb => (h1 b).mpr ⟨hB b hb, fun hd => by
    obtain ⟨j, hj⟩ := tod_reach hd (B := B) (k := 0) (decide_eq_true hb)
    have := R_stop (.inl rfl) hj
    rw [h.full] at this; cases this⟩
  have hf := fits_of_tight ok (fun b hb => ((h1 b).mp hb).1) hb ht
  refine ⟨⟨hf, (cost_of_tight ok h.cons hf ht).symm, fun S' hs => weak ok h.bd h.cons hs⟩, fun S' hs b hb2 => ?_⟩
  exact (h1 b).mpr ⟨hs.fits.sub b hb2, fun hd => tod_out hs.fits.sub (tight_of_cost ok h.bd h.cons hs.fits hs.cost.symm) hd hb2⟩
end
end Fl

/-! FlowE: a search from some blocks, turn by turn: places with how they were come to -/
namespace Fl
/-- a place, and the block and way by which one came to it -/
abbrev Ent := Int × Option (Int × Way)
def ByWay (N : Net) (f : Way → Int) (B : List Int) (v u : Int) (w : Way) : Prop := ∃ k, N.At f B k u ∧ N.At f B (k + 1) v ∧ w ∈ N.L ∧ u ∈ N.blocks ∧ N.rs f u w = true ∧ N.other w u = v
def How (N : Net) (f : Way → Int) (B : List Int) (e : Ent) : Prop := (e.2 = none ∧ N.At f B 0 e.1) ∨ ∃ u w, e.2 = some (u, w) ∧ ByWay N f B e.1 u w
structure Mid (N : Net) (f : Way → Int) (B : List Int) (t : Nat) (Pr : Int → Way → Prop) (es : List Ent) (fu : List Int) : Prop where
  how : ∀ e ∈ es, How N f B e
  nd : (es.map (·.1)).Nodup
  keys : ∀ v, v ∈ es.map (·.1) ↔ N.R f B t v = true ∨ ∃ u w, Pr u w ∧ N.rs f u w = true ∧ N.other w u = v
  pl : ∀ v ∈ es.map (·.1), v = -1 ∨ v ∈ N.blocks
  fur : ∀ v, v ∈ fu ↔ v ∈ N.blocks ∧ v ∈ es.map (·.1) ∧ N.R f B t v = false
  fnd : fu.Nodup
section
variable {N : Net} {f : Way → Int} {B : List Int} {t : Nat} {Pr Pr' : Int → Way → Prop} {es : List Ent} {fu : List Int}
theorem Mid.start (nd : B.Nodup) (hB : ∀ b ∈ B, b ∈ N.blocks) : Mid N f B 0 (fun _ _ => False) (B.map fun b => (b, none)) [] := by
  have e : (B.map fun b => ((b, none) : Ent)).map (·.1) = B := by rw [List.map_map]; exact List.map_id' B
  refine ⟨fun e he => ?_, by rw [e]; exact nd, fun v => ?_, fun v hv => ?_, fun v => ?_, List.nodup_nil⟩
  · obtain ⟨b, hb, rfl⟩ := List.mem_map.mp he
    exact .inl ⟨rfl, decide_eq_true hb, fun _ h => absurd h (Nat.not_lt_zero _)⟩
  · rw [e]
    constructor
    · exact fun h => .inl (decide_eq_true h)
    · rintro (h | ⟨_, _, h, _⟩)
      · exact of_decide_eq_true h
      · exact h.elim
  · rw [e] at hv
    exact .inr (hB v hv)
  · rw [e]
    refine ⟨fun h => absurd h (by simp), fun h => ?_⟩
    have : N.R f B 0 v = true := decide_eq_true h.2.1
    rw [h.2.2] at this; cases this
theorem Mid.iff (h : Mid N f B t Pr es fu) (e : ∀ u w, Pr u w ↔ Pr' u w) : Mid N f B t Pr' es fu := by
  have : Pr = Pr' := funext fun u => funext fun w => propext (e u w)
  rw [← this]; exact h
theorem Mid.skip (h : Mid N f B t Pr es fu) {u : Int} {w : Way} (hs : N.rs f u w = true → N.other w u ∈ es.map (·.1)) : Mid N f B t (fun a b => Pr a b ∨ (a = u ∧ b = w)) es fu := by
  refine ⟨h.how, h.nd, fun v => ?_, h.pl, h.fur, h.fnd⟩
  rw [h.keys]
  constructor
  · rintro (g | ⟨a, b, g1, g2⟩)
    · exact .inl g
    · exact .inr ⟨a, b, .inl g1, g2⟩
  · rintro (g | ⟨a, b, g1 | ⟨rfl, rfl⟩, g2, g3⟩)
    · exact .inl g
    · exact .inr ⟨a, b, g1, g2, g3⟩
    · have := (h.keys v).mp (g3 ▸ hs g2)
      exact this
theorem Mid.add (ok : N.Ok) (h : Mid N f B t Pr es fu) {u : Int} {w : Way} (ha : N.At f B t u) (hw : w ∈ N.L) (hu : u ∈ N.blocks) (hr : N.rs f u w = true) (hn : N.other w u ∉ es.map (·.1)) :
    Mid N f B t (fun a b => Pr a b ∨ (a = u ∧ b = w)) (es ++ [(N.other w u, some (u, w))]) (if N.other w u = -1 then fu else fu ++ [N.other w u]) := by
  have hnr : N.R f B t (N.other w u) = false := by
    cases e : N.R f B t (N.other w u) with
    | false => rfl
    | true => exact absurd ((h.keys _).mpr (.inl e)) hn
  have hpl := other_place ok hu hw (rs_touch hr)
  have hat : N.At f B (t + 1) (N.other w u) := by
    refine ⟨R_succ.mpr (.inr ⟨w, hw, u, hu, ha.1, hr, rfl⟩), fun j hj => ?_⟩
    cases e : N.R f B j (N.other w u) with
    | false => rfl
    | true => rw [R_up e (by omega)] at hnr; cases hnr
  have em : (es ++ [((N.other w u, some (u, w)) : Ent)]).map (·.1) = es.map (·.1) ++ [N.other w u] := by rw [List.map_append]; rfl
  have hm : ∀ v, v ∈ es.map (·.1) ++ [N.other w u] ↔ v ∈ es.map (·.1) ∨ v = N.other w u := fun v => by rw [List.mem_append, List.mem_singleton]
  have hnf : N.other w u ∉ fu := fun hh => hn ((h.fur _).mp hh).2.1
  refine ⟨fun e he => ?_, ?_, fun v => ?_, fun v hv => ?_, fun v => ?_, ?_⟩
  · rcases List.mem_append.mp he with he | he
    · exact h.how e he
    · rw [List.mem_singleton] at he
      subst he
      exact .inr ⟨u, w, rfl, t, ha, hat, hw, hu, hr, rfl⟩
  · rw [em, List.nodup_append]
    refine ⟨h.nd, by simp, fun a ha b hb e => ?_⟩
    rw [List.mem_singleton] at hb
    subst e hb
    exact hn ha
  · rw [em, hm, h.keys]
    constructor
    · rintro ((g | ⟨a, b, g1, g2⟩) | rfl)
      · exact .inl g
      · exact .inr ⟨a, b, .inl g1, g2⟩
      · exact .inr ⟨u, w, .inr ⟨rfl, rfl⟩, hr, rfl⟩
    · rintro (g | ⟨a, b, g1 | ⟨rfl, rfl⟩, g2, g3⟩)
      · exact .inl (.inl g)
      · exact .inl (.inr ⟨a, b, g1, g2, g3⟩)
      · exact .inr g3.symm
  · rw [em, hm] at hv
    rcases hv with hv | rfl
    · exact h.pl v hv
    · exact hpl
  · rw [em, hm]
    by_cases e : N.other w u = -1
    · rw [if_pos e, h.fur]
      constructor
      · rintro ⟨g1, g2, g3⟩; exact ⟨g1, .inl g2, g3⟩
      · rintro ⟨g1, g2 | rfl, g3⟩
        · exact ⟨g1, g2, g3⟩
        · rw [e, mem_blocks] at g1; omega
    · rw [if_neg e, List.mem_append, List.mem_singleton, h.fur]
      constructor
      · rintro (⟨g1, g2, g3⟩ | rfl)
        · exact ⟨g1, .inl g2, g3⟩
        · exact ⟨hpl.resolve_left e, .inr rfl, hnr⟩
      · rintro ⟨g1, g2 | rfl, g3⟩
        · exact .inl ⟨g1, g2, g3⟩
        · exact .inr rfl
  · by_cases e : N.other w u = -1
    · rw [if_pos e]; exact h.fnd
    · rw [if_neg e, List.nodup_append]
      refine ⟨h.fnd, by simp, fun a ha b hb q => ?_⟩
      rw [List.mem_singleton] at hb
      subst q hb
      exact hnf ha
theorem Mid.turn {wt : List Int} (hw : ∀ v, v ∈ wt ↔ v ∈ N.blocks ∧ N.At f B t v) (h : Mid N f B t (fun u w => u ∈ wt ∧ w ∈ N.L ∧ touch w u = true) es fu) : Mid N f B (t + 1) (fun _ _ => False) es [] ∧ ∀ v, v ∈ fu ↔ v ∈ N.blocks ∧ N.At f B (t + 1) v := by
  have hk : ∀ v, v ∈ es.map (·.1) ↔ N.R f B (t + 1) v = true := fun v => by
    rw [h.keys]
    constructor
    · rintro (g | ⟨u, w, ⟨g1, g2, _⟩, g4, g5⟩)
      · exact R_up1 g
      · exact R_succ.mpr (.inr ⟨w, g2, u, ((hw u).mp g1).1, ((hw u).mp g1).2.1, g4, g5⟩)
    · intro g
      rcases R_succ.mp g with g | ⟨w, g1, u, g2, g3, g4, g5⟩
      · exact .inl g
      · obtain ⟨j, hj, ha⟩ := at_of g3
        rcases Nat.lt_or_eq_of_le hj with hl | rfl
        · exact .inl (R_up (R_succ.mpr (.inr ⟨w, g1, u, g2, ha.1, g4, g5⟩)) hl)
        · exact .inr ⟨u, w, ⟨(hw u).mpr ⟨g2, ha⟩, g1, rs_touch g4⟩, g4, g5⟩
  refine ⟨⟨h.how, h.nd, fun v => ?_, h.pl, fun v => ?_, List.nodup_nil⟩, fun v => ?_⟩
  · rw [hk]
    exact ⟨.inl, fun g => g.elim id fun ⟨_, _, g, _⟩ => g.elim⟩
  · rw [hk]
    refine ⟨fun g => absurd g (by simp), fun g => ?_⟩
    rw [g.2.2] at g; cases g.2.1
  · rw [h.fur, hk]
    constructor
    · rintro ⟨g1, g2, g3⟩
      refine ⟨g1, g2, fun j hj => ?_⟩
      cases e : N.R f B j v with
      | false => rfl
      | true => rw [R_up e (by omega)] at g3; cases g3
    · rintro ⟨g1, g2⟩
      exact ⟨g1, g2.1, g2.2 t (Nat.lt_succ_self _)⟩
theorem nodup_le {α : Type} [DecidableEq α] : ∀ {l m : List α}, l.Nodup → (∀ a ∈ l, a ∈ m) → l.length ≤ m.length
  | [], _, _, _ => Nat.zero_le _
  | a :: l, m, nd, h => by
    rw [List.nodup_cons] at nd
    have ha : a ∈ m := h a List.mem_cons_self
    have := nodup_le (m := m.erase a) nd.2 fun b hb => (List.mem_erase_of_ne (fun e => nd.1 (by rw [← e]; exact hb))).mpr (h b (List.mem_cons_of_mem _ hb))
    rw [List.length_erase_of_mem ha] at this
    have := List.length_pos_of_mem ha
    rw [List.length_cons]; omega
theorem Mid.len (h : Mid N f B t Pr es fu) : es.length ≤ N.n + 1 ∧ fu.length ≤ N.n := by
  have hb : N.blocks.length = N.n := by unfold Net.blocks; rw [List.length_map, List.length_range]
  constructor
  · have := nodup_le (m := -1 :: N.blocks) h.nd fun v hv => List.mem_cons.mpr (h.pl v hv)
    rw [List.length_map, List.length_cons, hb] at this; exact this
  · have := nodup_le (m := N.blocks) h.fnd fun v hv => ((h.fur v).mp hv).1
    rw [hb] at this; exact this
/-- the whole search: its keys are the places reached -/
theorem Mid.fin (h : Mid N f B (N.n + 1) Pr' es fu) (he : ∀ u w, ¬ Pr' u w) : ∀ v, v ∈ es.map (·.1) ↔ (v = -1 ∨ v ∈ N.blocks) ∧ N.R f B N.n v = true := fun v => by
  constructor
  · intro g
    refine ⟨h.pl v g, ?_⟩
    rcases (h.keys v).mp g with g2 | ⟨_, _, g2, _⟩
    · exact R_stop (h.pl v g) g2
    · exact absurd g2 (he _ _)
  · rintro ⟨_, g⟩
    exact (h.keys v).mpr (.inl (R_up1 g))
end
end Fl

/-! FlowF: the law's own search over all lists of blocks, plain -/
namespace Fl
open Wk DL
section
variable {N : Net} {f : Way → Int} {B S : List Int}
theorem blocks_up : N.blocks.Pairwise (· < ·) := by
  unfold Net.blocks
  rw [List.pairwise_map]
  exact List.pairwise_lt_range.imp fun h => by omega
theorem reached_up : (N.reached f B).Pairwise (· < ·) := blocks_up.filter _
theorem reached_nd : (N.reached f B).Nodup := reached_up.imp fun h e => by omega
abbrev nl (l : List Nat) : List Int := l.map fun (k : Nat) => (k : Int)
theorem mem_nl {l : List Nat} {k : Nat} : (k : Int) ∈ nl l ↔ k ∈ l := by
  rw [List.mem_map]
  exact ⟨fun ⟨a, h, e⟩ => by rw [← Int.ofNat_inj.mp e]; exact h, fun h => ⟨k, h, rfl⟩⟩
theorem nl_up {l : List Nat} (h : l.Pairwise (· < ·)) : (nl l).Pairwise (· < ·) := by
  rw [List.pairwise_map]
  exact h.imp fun h => by omega
/-- rising lists with the same members are one -/
theorem up_ext {l m : List Int} (h1 : l.Pairwise (· < ·)) (h2 : m.Pairwise (· < ·)) (h : ∀ x, x ∈ l ↔ x ∈ m) : l = m := by
  have n1 : l.Nodup := h1.imp fun h e => by omega
  have n2 : m.Nodup := h2.imp fun h e => by omega
  exact ((List.perm_ext_iff_of_nodup n1 n2).mpr h).eq_of_pairwise (fun a b _ _ h1 h2 => by omega) h1 h2
/-- a list with one block more, rising -/
def insU (l : List Nat) (k : Nat) : List Nat := sortU 60 (l ++ [k])
theorem mem_insU {l : List Nat} {k x : Nat} (h : ∀ x ∈ l, x < 60) (hk : k < 60) : x ∈ insU l k ↔ x ∈ l ∨ x = k := by
  unfold insU
  rw [mem_sortU, List.mem_append, List.mem_singleton]
  constructor
  · exact fun h => h.2
  · rintro (h1 | rfl)
    · exact ⟨h x h1, .inl h1⟩
    · exact ⟨hk, .inr rfl⟩
theorem insU_perm {l : List Nat} {k : Nat} (nd : l.Nodup) (h : ∀ x ∈ l, x < 60) (hk : k < 60) (hn : k ∉ l) : (insU l k).Perm (l ++ [k]) := by
  refine sortU_perm ?_ (fun _ => Iff.rfl) fun x hx => ?_
  · rw [List.nodup_append]
    refine ⟨nd, List.pairwise_singleton _ _, fun a ha b hb e => ?_⟩
    rw [List.mem_singleton] at hb
    exact hn (by rw [← hb, ← e]; exact ha)
  · rcases List.mem_append.mp hx with hx | hx
    · exact h x hx
    · rw [List.mem_singleton] at hx; rw [hx]; exact hk
def allL (some : List Nat) : Nat → List (List Nat)
  | 0 => [some]
  | k + 1 => if k ∈ some then allL some k else allL some k ++ (allL some k).map fun l => insU l k
structure AllOk (some : List Nat) (k : Nat) (l : List Nat) : Prop where
  up : l.Pairwise (· < ·)
  sub : ∀ x ∈ some, x ∈ l
  only : ∀ x ∈ l, x ∈ some ∨ x < k
theorem AllOk.lt {some : List Nat} {k : Nat} {l : List Nat} (h : AllOk some k l) (hs : ∀ x ∈ some, x < 60) (hk : k ≤ 60) : ∀ x ∈ l, x < 60 := fun x hx => by
  rcases h.only x hx with q | q
  · exact hs x q
  · omega
theorem AllOk.nd {some : List Nat} {k : Nat} {l : List Nat} (h : AllOk some k l) : l.Nodup := h.up.imp fun h e => by omega
theorem allL_ok {some : List Nat} (hu : some.Pairwise (· < ·)) (hs : ∀ x ∈ some, x < 60) : ∀ {k : Nat}, k ≤ 60 → ∀ l ∈ allL some k, AllOk some k l
  | 0, _, l, hl => by
    rw [show allL some 0 = [some] from rfl, List.mem_singleton] at hl
    subst hl
    exact ⟨hu, fun _ h => h, fun _ h => .inl h⟩
  | k + 1, hk, l, hl => by
    have ih := allL_ok hu hs (k := k) (by omega)
    unfold allL at hl
    split at hl
    · have h := ih l hl
      exact ⟨h.up, h.sub, fun x hx => (h.only x hx).imp id (by omega)⟩
    · rcases List.mem_append.mp hl with hl | hl
      · have h := ih l hl
        exact ⟨h.up, h.sub, fun x hx => (h.only x hx).imp id (by omega)⟩
      · obtain ⟨m, hm, rfl⟩ := List.mem_map.mp hl
        have h := ih m hm
        have hlt := h.lt hs (by omega)
        refine ⟨sortU_up _ _, fun x hx => (mem_insU hlt (by omega)).mpr (.inl (h.sub x hx)), fun x hx => ?_⟩
        rcases (mem_insU hlt (by omega)).mp hx with hx | rfl
        · exact (h.only x hx).imp id (by omega)
        · exact .inr (by omega)
theorem allL_len (some : List Nat) : ∀ k : Nat, (allL some k).length ≤ 2 ^ k
  | 0 => by show 1 ≤ _; simp
  | k + 1 => by
    have ih := allL_len some k
    unfold allL
    rw [Nat.pow_succ]
    split
    · omega
    · rw [List.length_append, List.length_map]; omega
/-- every list is among them -/
theorem allL_all {some : List Nat} (hu : some.Pairwise (· < ·)) (hs : ∀ x ∈ some, x < 60) (T : Nat → Prop) (hT : ∀ x ∈ some, T x) : ∀ {k : Nat}, k ≤ 60 → ∃ l ∈ allL some k, ∀ x, x ∈ l ↔ x ∈ some ∨ (x < k ∧ T x)
  | 0, _ => ⟨some, by show some ∈ [some]; simp, fun x => by simp⟩
  | k + 1, hk => by
    obtain ⟨l, hl, hx⟩ := allL_all hu hs T hT (k := k) (by omega)
    have hlt := (allL_ok hu hs (by omega) l hl).lt hs (by omega)
    by_cases hm : k ∈ some
    · refine ⟨l, by unfold allL; rw [if_pos hm]; exact hl, fun x => ?_⟩
      rw [hx]
      constructor
      · exact fun h => h.imp id fun ⟨a, b⟩ => ⟨by omega, b⟩
      · rintro (h | ⟨a, b⟩)
        · exact .inl h
        · by_cases e : x = k
          · subst e; exact .inl hm
          · exact .inr ⟨by omega, b⟩
    · by_cases hk2 : T k
      · refine ⟨insU l k, by unfold allL; rw [if_neg hm]; exact List.mem_append_right _ (List.mem_map.mpr ⟨l, hl, rfl⟩), fun x => ?_⟩
        rw [mem_insU hlt (by omega), hx]
        constructor
        · rintro ((h | ⟨a, b⟩) | rfl)
          · exact .inl h
          · exact .inr ⟨by omega, b⟩
          · exact .inr ⟨by omega, hk2⟩
        · rintro (h | ⟨a, b⟩)
          · exact .inl (.inl h)
          · by_cases e : x = k
            · exact .inr e
            · exact .inl (.inr ⟨by omega, b⟩)
      · refine ⟨l, by unfold allL; rw [if_neg hm]; exact List.mem_append_left _ hl, fun x => ?_⟩
        rw [hx]
        constructor
        · exact fun h => h.imp id fun ⟨a, b⟩ => ⟨by omega, b⟩
        · rintro (h | ⟨a, b⟩)
          · exact .inl h
          · by_cases e : x = k
            · subst e; exact absurd b hk2
            · exact .inr ⟨by omega, b⟩
/-! what a list costs by the law -/
def crL (l : List Nat) (w : Way) : Bool := !(decide (w.1 ∈ nl l) == decide (w.2 ∈ nl l))
def tmL (c : Way → Int) (p0 p1 : Int) (l : List Nat) (w : Way) : Int := if crL l w = true then c w * (if w.1 ∈ nl l then p1 else p0) else 0
def badL (sh : List Way) (l : List Nat) (w : Way) : Bool := crL l w && decide (w ∈ sh)
def priceL (ys : List Way) (c : Way → Int) (p0 p1 : Int) (sh : List Way) (l : List Nat) : Option Int := if ys.any (badL sh l) = true then none else some (ys.map (tmL c p0 p1 l)).sum
/-- the best lists of all -/
def BestOk (pr : List Nat → Option Int) (ls : List (List Nat)) : Option (Int × List (List Nat)) → Prop
  | none => ∀ l ∈ ls, pr l = none
  | some (c, bs) => bs ≠ [] ∧ (∀ l, l ∈ bs ↔ l ∈ ls ∧ pr l = some c) ∧ ∀ l ∈ ls, ∀ d, pr l = some d → c ≤ d
end
section
variable {N : Net} {f : Way → Int} {B S : List Int} {pr : List Nat → Option Int} {ls bs : List (List Nat)} {l : List Nat} {c d : Int}
theorem best_start : BestOk pr [] none := fun _ h => by cases h
theorem best_skip {b : Option (Int × List (List Nat))} (h : BestOk pr ls b) (hp : pr l = none) : BestOk pr (ls ++ [l]) b := by
  cases b with
  | none =>
    intro x hx
    rcases List.mem_append.mp hx with hx | hx
    · exact h x hx
    · rw [List.mem_singleton] at hx; rw [hx]; exact hp
  | some b =>
    obtain ⟨c, bs⟩ := b
    obtain ⟨h1, h2, h3⟩ := h
    refine ⟨h1, fun x => ?_, fun x hx d hd => ?_⟩
    · rw [h2, List.mem_append, List.mem_singleton]
      constructor
      · exact fun ⟨a, b⟩ => ⟨.inl a, b⟩
      · rintro ⟨a | rfl, b⟩
        · exact ⟨a, b⟩
        · rw [hp] at b; cases b
    · rcases List.mem_append.mp hx with hx | hx
      · exact h3 x hx d hd
      · rw [List.mem_singleton] at hx; rw [hx, hp] at hd; cases hd
theorem best_first (h : BestOk pr ls none) (hp : pr l = some c) : BestOk pr (ls ++ [l]) (some (c, [l])) := by
  refine ⟨by simp, fun x => ?_, fun x hx d hd => ?_⟩
  · rw [List.mem_singleton, List.mem_append, List.mem_singleton]
    constructor
    · rintro rfl; exact ⟨.inr rfl, hp⟩
    · rintro ⟨a | a, b⟩
      · rw [h x a] at b; cases b
      · exact a
  · rcases List.mem_append.mp hx with hx | hx
    · rw [h x hx] at hd; cases hd
    · rw [List.mem_singleton] at hx; rw [hx, hp] at hd; cases hd; omega
theorem best_less (h : BestOk pr ls (some (d, bs))) (hp : pr l = some c) (hc : c < d) : BestOk pr (ls ++ [l]) (some (c, [l])) := by
  obtain ⟨h1, h2, h3⟩ := h
  refine ⟨by simp, fun x => ?_, fun x hx e he => ?_⟩
  · rw [List.mem_singleton, List.mem_append, List.mem_singleton]
    constructor
    · rintro rfl; exact ⟨.inr rfl, hp⟩
    · rintro ⟨a | a, b⟩
      · have := h3 x a c b; omega
      · exact a
  · rcases List.mem_append.mp hx with hx | hx
    · have := h3 x hx e he; omega
    · rw [List.mem_singleton] at hx; rw [hx, hp] at he; cases he; omega
theorem best_same (h : BestOk pr ls (some (c, bs))) (hp : pr l = some c) : BestOk pr (ls ++ [l]) (some (c, bs ++ [l])) := by
  obtain ⟨h1, h2, h3⟩ := h
  refine ⟨by simp, fun x => ?_, fun x hx e he => ?_⟩
  · rw [List.mem_append, List.mem_append, List.mem_singleton, h2]
    constructor
    · rintro (⟨a, b⟩ | rfl)
      · exact ⟨.inl a, b⟩
      · exact ⟨.inr rfl, hp⟩
    · rintro ⟨a | a, b⟩
      · exact .inl ⟨a, b⟩
      · exact .inr a
  · rcases List.mem_append.mp hx with hx | hx
    · exact h3 x hx e he
    · rw [List.mem_singleton] at hx; rw [hx, hp] at he; cases he; omega
theorem best_more (h : BestOk pr ls (some (d, bs))) (hp : pr l = some c) (hc : d < c) : BestOk pr (ls ++ [l]) (some (d, bs)) := by
  obtain ⟨h1, h2, h3⟩ := h
  refine ⟨h1, fun x => ?_, fun x hx e he => ?_⟩
  · rw [h2, List.mem_append, List.mem_singleton]
    constructor
    · exact fun ⟨a, b⟩ => ⟨.inl a, b⟩
    · rintro ⟨a | rfl, b⟩
      · exact ⟨a, b⟩
      · rw [hp] at b; cases b; omega
  · rcases List.mem_append.mp hx with hx | hx
    · exact h3 x hx e he
    · rw [List.mem_singleton] at hx; rw [hx, hp] at he; cases he; omega
theorem fits_congr {T : List Int} (h : ∀ x, x ∈ S ↔ x ∈ T) (hs : Fits N B S) : Fits N B T :=
  ⟨fun b hb => hs.sub b ((h b).mpr hb), fun b hb => (h b).mp (hs.busy b hb), fun w hw hc => by rw [← h, ← h]; exact hs.shut w hw hc⟩
theorem cost_congr {T : List Int} (h : ∀ x, x ∈ S ↔ x ∈ T) : N.cost S = N.cost T := by
  unfold Net.cost
  congr 1
  refine List.map_congr_left fun w _ => ?_
  unfold Net.costw
  cases N.cap w with
  | none => rfl
  | some c => simp only [h]
theorem crL_iff {w : Way} : crL l w = true ↔ ¬ (w.1 ∈ nl l ↔ w.2 ∈ nl l) := by
  unfold crL
  by_cases a : w.1 ∈ nl l <;> by_cases b : w.2 ∈ nl l <;> simp [a, b]
/-- the net by counts, prices and shut ways -/
structure NetBy (N : Net) (c : Way → Int) (p0 p1 : Int) (sh : List Way) : Prop where
  cap : ∀ w, N.cap w = if w ∈ sh then none else some (0 - c w * p0, c w * p1)
  ok : N.Ok
section
variable {cw : Way → Int} {p0 p1 : Int} {sh : List Way}
theorem price_none (nb : NetBy N cw p0 p1 sh) (h : priceL N.L cw p0 p1 sh l = none) : ¬ Fits N B (nl l) := by
  intro hf
  unfold priceL at h
  split at h
  · rename_i h1
    rw [List.any_eq_true] at h1
    obtain ⟨w, hw, h1⟩ := h1
    unfold badL at h1
    rw [Bool.and_eq_true, decide_eq_true_eq] at h1
    exact crL_iff.mp h1.1 (hf.shut w hw (by rw [nb.cap, if_pos h1.2]))
  · cases h
theorem price_some {x : Int} (nb : NetBy N cw p0 p1 sh) (hl : ∀ k ∈ l, k < N.n) (hb : ∀ b ∈ B, b ∈ nl l) (h : priceL N.L cw p0 p1 sh l = some x) : Fits N B (nl l) ∧ x = N.cost (nl l) := by
  unfold priceL at h
  split at h
  · cases h
  · rename_i h1
    have h1 : ∀ w ∈ N.L, badL sh l w = false := fun w hw => by
      cases hb : badL sh l w with
      | false => rfl
      | true => exact absurd (List.any_eq_true.mpr ⟨w, hw, hb⟩) h1
    refine ⟨⟨fun b hb => ?_, hb, fun w hw hc => ?_⟩, ?_⟩
    · obtain ⟨k, hk, rfl⟩ := List.mem_map.mp hb
      rw [mem_blocks]
      have := hl k hk
      omega
    · refine Classical.byContradiction fun hn => ?_
      have h2 := h1 w hw
      unfold badL at h2
      rw [crL_iff.mpr hn, Bool.true_and, decide_eq_false_iff_not] at h2
      rw [nb.cap, if_neg h2] at hc
      cases hc
    · rw [← Option.some.inj h]
      unfold Net.cost
      congr 1
      refine List.map_congr_left fun w hw => ?_
      have h2 := h1 w hw
      unfold badL at h2
      unfold tmL Net.costw
      rw [nb.cap]
      by_cases hs : w ∈ sh
      · rw [if_pos hs]
        rw [decide_eq_true hs, Bool.and_true] at h2
        rw [h2]; rfl
      · rw [if_neg hs]
        by_cases a : w.1 ∈ nl l <;> by_cases b : w.2 ∈ nl l <;> simp [crL, a, b]
theorem price_fits (nb : NetBy N cw p0 p1 sh) (hl : ∀ k ∈ l, k < N.n) (h : Fits N B (nl l)) : priceL N.L cw p0 p1 sh l = some (N.cost (nl l)) := by
  cases hp : priceL N.L cw p0 p1 sh l with
  | none => exact absurd h (price_none nb hp)
  | some x => rw [(price_some nb hl h.busy hp).2]
/-- some list among them has just a set's members -/
theorem list_of {some : List Nat} (hu : some.Pairwise (· < ·)) (hn : N.n ≤ 60) (hs : ∀ x ∈ some, x < N.n) (h : Fits N (nl some) S) : ∃ l ∈ allL some N.n, ∀ x, x ∈ nl l ↔ x ∈ S := by
  obtain ⟨l, hl, hx⟩ := allL_all hu (fun x hx => by have := hs x hx; omega) (fun x => (x : Int) ∈ S) (fun x hx => h.busy _ (mem_nl.mpr hx)) (k := N.n) hn
  refine ⟨l, hl, fun x => ?_⟩
  constructor
  · intro hm
    obtain ⟨k, hk, rfl⟩ := List.mem_map.mp hm
    rcases (hx k).mp hk with q | q
    · exact h.busy _ (mem_nl.mpr q)
    · exact q.2
  · intro hm
    have hb := mem_blocks.mp (h.sub x hm)
    obtain ⟨k, rfl⟩ := Int.eq_ofNat_of_zero_le hb.1
    exact mem_nl.mpr ((hx k).mpr (.inr ⟨by omega, hm⟩))
structure LsOk (N : Net) (some : List Nat) : Prop where
  up : some.Pairwise (· < ·)
  lt : ∀ x ∈ some, x < N.n
  n60 : N.n ≤ 60
theorem LsOk.all {some : List Nat} (h : LsOk N some) {l : List Nat} (hl : l ∈ allL some N.n) : AllOk some N.n l := allL_ok h.up (fun x hx => by have := h.lt x hx; have := h.n60; omega) h.n60 l hl
theorem LsOk.lts {some : List Nat} (h : LsOk N some) {l : List Nat} (hl : l ∈ allL some N.n) : ∀ k ∈ l, k < N.n := fun k hk => ((h.all hl).only k hk).elim (h.lt k) id
theorem LsOk.busy {some : List Nat} (h : LsOk N some) {l : List Nat} (hl : l ∈ allL some N.n) : ∀ b ∈ nl some, b ∈ nl l := fun b hb => by
  obtain ⟨k, hk, rfl⟩ := List.mem_map.mp hb
  exact mem_nl.mpr ((h.all hl).sub k hk)
theorem best_nofits {some : List Nat} (nb : NetBy N cw p0 p1 sh) (ok : LsOk N some) (h : BestOk (priceL N.L cw p0 p1 sh) (allL some N.n) none) : ∀ S, ¬ Fits N (nl some) S := fun S hS => by
  obtain ⟨l, hl, hx⟩ := list_of ok.up ok.n60 ok.lt hS
  exact price_none nb (h l hl) (fits_congr (fun x => (hx x).symm) hS)
/-- the best lists are those that cost the least -/
theorem best_least {some : List Nat} (nb : NetBy N cw p0 p1 sh) (ok : LsOk N some) (h : BestOk (priceL N.L cw p0 p1 sh) (allL some N.n) (.some (c, bs))) :
    bs ≠ [] ∧ (∀ l ∈ bs, l ∈ allL some N.n ∧ Least N (nl some) c (nl l)) ∧ ∀ S, Least N (nl some) c S → ∃ l ∈ bs, ∀ x, x ∈ nl l ↔ x ∈ S := by
  obtain ⟨h1, h2, h3⟩ := h
  have hmin : ∀ S', Fits N (nl some) S' → c ≤ N.cost S' := fun S' hS => by
    obtain ⟨l, hl, hx⟩ := list_of ok.up ok.n60 ok.lt hS
    have := h3 l hl _ (price_fits nb (ok.lts hl) (fits_congr (fun x => (hx x).symm) hS))
    rw [cost_congr hx] at this
    exact this
  refine ⟨h1, fun l hl => ?_, fun S hS => ?_⟩
  · obtain ⟨a, b⟩ := (h2 l).mp hl
    obtain ⟨q1, q2⟩ := price_some nb (ok.lts a) (ok.busy a) b
    exact ⟨a, q1, q2.symm, hmin⟩
  · obtain ⟨l, hl, hx⟩ := list_of ok.up ok.n60 ok.lt hS.fits
    refine ⟨l, (h2 l).mpr ⟨hl, ?_⟩, hx⟩
    rw [price_fits nb (ok.lts hl) (fits_congr (fun x => (hx x).symm) hS.fits), cost_congr hx, hS.cost]
theorem best_full {some : List Nat} (nb : NetBy N cw p0 p1 sh) (ok : LsOk N some) (h : BestOk (priceL N.L cw p0 p1 sh) (allL some N.n) (.some (c, bs))) (hf : Full N (nl some) f) : c = N.net f (-1) := by
  obtain ⟨h1, h2, h3⟩ := best_least nb ok h
  have hb : ∀ b ∈ nl some, b ∈ N.blocks := fun b hb => by
    obtain ⟨k, hk, rfl⟩ := List.mem_map.mp hb
    rw [mem_blocks]; have := ok.lt k hk; omega
  obtain ⟨q1, q2⟩ := full_reached nb.ok hb hf
  cases bs with
  | nil => exact absurd rfl h1
  | cons l bs =>
    have hl := (h2 l List.mem_cons_self).2
    have e1 := hl.least _ q1.fits
    have e2 := q1.least _ hl.fits
    rw [q1.cost] at e1
    rw [hl.cost] at e2
    omega
theorem best_isSome {some : List Nat} (nb : NetBy N cw p0 p1 sh) (ok : LsOk N some) (h : BestOk (priceL N.L cw p0 p1 sh) (allL some N.n) none) : ¬ Full N (nl some) f := fun hf => by
  have hb : ∀ b ∈ nl some, b ∈ N.blocks := fun b hb => by
    obtain ⟨k, hk, rfl⟩ := List.mem_map.mp hb
    rw [mem_blocks]; have := ok.lt k hk; omega
  exact best_nofits nb ok h _ (full_reached nb.ok hb hf).1.fits
/-- of the first list those that all have -/
def dueL (bs : List (List Nat)) : List Nat := (bs.headD []).filter fun b => bs.all fun l => decide (b ∈ l)
theorem due_reached {some : List Nat} (nb : NetBy N cw p0 p1 sh) (ok : LsOk N some) (h : BestOk (priceL N.L cw p0 p1 sh) (allL some N.n) (.some (c, bs))) (hf : Full N (nl some) f) : N.reached f (nl some) = nl (dueL bs) ∧ dueL bs ∈ bs := by
  have hc := best_full nb ok h hf
  obtain ⟨h1, h2, h3⟩ := best_least nb ok h
  have hb : ∀ b ∈ nl some, b ∈ N.blocks := fun b hb => by
    obtain ⟨k, hk, rfl⟩ := List.mem_map.mp hb
    rw [mem_blocks]; have := ok.lt k hk; omega
  obtain ⟨q1, q2⟩ := full_reached nb.ok hb hf
  rw [← hc] at q1 q2
  obtain ⟨l0, hl0, hx⟩ := h3 _ q1
  have hup0 := nl_up (ok.all (h2 l0 hl0).1).up
  have e0 : N.reached f (nl some) = nl l0 := up_ext reached_up hup0 fun x => (hx x).symm
  have hhd : bs.headD [] ∈ bs := by
    cases bs with
    | nil => exact absurd rfl h1
    | cons a bs => exact List.mem_cons_self
  have hd : dueL bs = l0 := by
    have hup := (ok.all (h2 _ hhd).1).up
    have hdu : (dueL bs).Pairwise (· < ·) := hup.filter _
    have hm : ∀ k, k ∈ dueL bs ↔ k ∈ l0 := fun k => by
      unfold dueL
      rw [List.mem_filter, List.all_eq_true]
      constructor
      · exact fun ⟨_, h⟩ => of_decide_eq_true (h l0 hl0)
      · intro hk
        have hr : (k : Int) ∈ N.reached f (nl some) := by rw [e0]; exact mem_nl.mpr hk
        have hin : ∀ l ∈ bs, k ∈ l := fun l hl => mem_nl.mp (q2 _ (h2 l hl).2 _ hr)
        exact ⟨hin _ hhd, fun l hl => decide_eq_true (hin l hl)⟩
    exact nat_inj (up_ext (nl_up hdu) (nl_up (ok.all (h2 l0 hl0).1).up) fun x => by
      constructor
      · intro hx
        obtain ⟨k, hk, rfl⟩ := List.mem_map.mp hx
        exact mem_nl.mpr ((hm k).mp hk)
      · intro hx
        obtain ⟨k, hk, rfl⟩ := List.mem_map.mp hx
        exact mem_nl.mpr ((hm k).mpr hk))
  exact ⟨by rw [hd]; exact e0, by rw [hd]; exact hl0⟩
/-- the blocks that any list has -/
def anyL (n : Nat) (bs : List (List Nat)) : List Nat := (List.range n).filter fun b => bs.any fun l => decide (b ∈ l)
theorem any_wide {some : List Nat} (nb : NetBy N cw p0 p1 sh) (ok : LsOk N some) (h : BestOk (priceL N.L cw p0 p1 sh) (allL some N.n) (.some (c, bs))) (hf : Full N (nl some) f) {W : List Int} (hw : W.Pairwise (· < ·)) (h0 : ∀ b, b ∈ W ↔ b ∈ N.blocks ∧ ¬ ToD N f b) : W = nl (anyL N.n bs) ∧ anyL N.n bs ∈ bs := by
  have hc := best_full nb ok h hf
  obtain ⟨h1, h2, h3⟩ := best_least nb ok h
  have hb : ∀ b ∈ nl some, b ∈ N.blocks := fun b hb => by
    obtain ⟨k, hk, rfl⟩ := List.mem_map.mp hb
    rw [mem_blocks]; have := ok.lt k hk; omega
  obtain ⟨q1, q2⟩ := full_wide nb.ok hb hf h0
  rw [← hc] at q1 q2
  obtain ⟨l0, hl0, hx⟩ := h3 _ q1
  have hup0 := (ok.all (h2 l0 hl0).1).up
  have e0 : W = nl l0 := up_ext hw (nl_up hup0) fun x => (hx x).symm
  have hd : anyL N.n bs = l0 := by
    have hdu : (anyL N.n bs).Pairwise (· < ·) := List.pairwise_lt_range.filter _
    have hm : ∀ k, k ∈ anyL N.n bs ↔ k ∈ l0 := fun k => by
      unfold anyL
      rw [List.mem_filter, List.any_eq_true, List.mem_range]
      constructor
      · rintro ⟨_, l, hl, h⟩
        have : (k : Int) ∈ W := q2 _ (h2 l hl).2 _ (mem_nl.mpr (of_decide_eq_true h))
        rw [e0] at this
        exact mem_nl.mp this
      · exact fun hk => ⟨ok.lts (h2 l0 hl0).1 k hk, l0, hl0, decide_eq_true hk⟩
    exact nat_inj (up_ext (nl_up hdu) (nl_up hup0) fun x => by
      constructor
      · intro hx
        obtain ⟨k, hk, rfl⟩ := List.mem_map.mp hx
        exact mem_nl.mpr ((hm k).mp hk)
      · intro hx
        obtain ⟨k, hk, rfl⟩ := List.mem_map.mp hx
        exact mem_nl.mpr ((hm k).mpr hk))
  exact ⟨by rw [hd]; exact e0, by rw [hd]; exact hl0⟩
end
end
end Fl

/-! FlowG: the sweeps that find from where more can go to the door; what more shut ways do to the cost -/
namespace Fl
open Wk DL
section
variable {N : Net} {f : Way → Int}
structure Dor (N : Net) (f : Way → Int) (F : List Int) : Prop where
  nd : F.Nodup
  door : -1 ∈ F
  tod : ∀ u ∈ F, u = -1 ∨ (u ∈ N.blocks ∧ ToD N f u)
def clsd (N : Net) (f : Way → Int) (F : List Int) : Prop := ∀ u ∈ N.blocks, ∀ w ∈ N.L, N.rs f u w = true → N.other w u ∈ F → u ∈ F
structure Swp (N : Net) (f : Way → Int) (F0 : List Int) (J : Int → Way → Prop) (F : List Int) : Prop where
  dr : Dor N f F
  sub : ∀ u ∈ F0, u ∈ F
  did : ∀ u ∈ N.blocks, ∀ w ∈ N.L, J u w → N.rs f u w = true → N.other w u ∈ F0 → u ∈ F
theorem nodup_back {l m : List Int} (hl : l.Nodup) (hm : m.Nodup) (h : ∀ a ∈ l, a ∈ m) (hle : m.length ≤ l.length) : ∀ a ∈ m, a ∈ l := fun a ha => by
  by_cases hn : a ∈ l
  · exact hn
  · have := nodup_le (l := a :: l) (m := m) (List.nodup_cons.mpr ⟨hn, hl⟩) (fun b hb => (List.mem_cons.mp hb).elim (fun e => e ▸ ha) (h b))
    rw [List.length_cons] at this
    omega
theorem Dor.todd {F : List Int} (h : Dor N f F) : ∀ u ∈ F, ToD N f u := fun u hu => (h.tod u hu).elim (fun e => e ▸ .door) (·.2)
theorem cls_tod {F : List Int} (h : Dor N f F) (hc : clsd N f F) {u : Int} (t : ToD N f u) : u ∈ F := by
  induction t with
  | door => exact h.door
  | step hu hw hr _ ih => exact hc _ hu _ hw hr ih
theorem Dor.start : Dor N f [-1] := ⟨by simp, by simp, fun u hu => .inl (by simpa using hu)⟩
theorem Dor.len {F : List Int} (h : Dor N f F) : F.length ≤ N.n + 1 := by
  have := nodup_le (l := F) (m := -1 :: N.blocks) h.nd (fun u hu => (h.tod u hu).elim (fun e => e ▸ List.mem_cons_self) fun e => List.mem_cons_of_mem _ e.1)
  unfold Net.blocks at this
  simpa using this
theorem Swp.start {F : List Int} (h : Dor N f F) : Swp N f F (fun _ _ => False) F := ⟨h, fun _ h => h, fun _ _ _ _ h => h.elim⟩
theorem Swp.iff {F0 F : List Int} {J J' : Int → Way → Prop} (h : Swp N f F0 J F) (e : ∀ u ∈ N.blocks, ∀ w ∈ N.L, N.rs f u w = true → J' u w → J u w) : Swp N f F0 J' F := ⟨h.dr, h.sub, fun u hu w hw j r o => h.did u hu w hw (e u hu w hw r j) r o⟩
theorem Swp.skip {F0 F : List Int} {J : Int → Way → Prop} {u0 : Int} {w0 : Way} (h : Swp N f F0 J F) (hn : ¬ (N.other w0 u0 ∈ F ∧ N.rs f u0 w0 = true) ∨ u0 ∈ F) : Swp N f F0 (fun u w => J u w ∨ (u = u0 ∧ w = w0)) F := by
  refine ⟨h.dr, h.sub, fun u hu w hw j r o => ?_⟩
  rcases j with j | ⟨rfl, rfl⟩
  · exact h.did u hu w hw j r o
  · rcases hn with hn | hn
    · exact absurd ⟨h.sub _ o, r⟩ hn
    · exact hn
theorem Swp.add {F0 F : List Int} {J : Int → Way → Prop} {u0 : Int} {w0 : Way} (h : Swp N f F0 J F) (hu0 : u0 ∈ N.blocks) (hw0 : w0 ∈ N.L) (hr : N.rs f u0 w0 = true) (ho : N.other w0 u0 ∈ F) (hn : u0 ∉ F) : Swp N f F0 (fun u w => J u w ∨ (u = u0 ∧ w = w0)) (F ++ [u0]) := by
  refine ⟨⟨List.nodup_append.mpr ⟨h.dr.nd, by simp, fun a ha b hb e => hn (by rw [List.mem_singleton.mp hb] at e; exact e ▸ ha)⟩, List.mem_append_left _ h.dr.door, fun u hu => ?_⟩, fun u hu => List.mem_append_left _ (h.sub u hu), fun u hu w hw j r o => ?_⟩
  · rcases List.mem_append.mp hu with hu | hu
    · exact h.dr.tod u hu
    · rw [List.mem_singleton.mp hu]
      exact .inr ⟨hu0, .step hu0 hw0 hr (h.dr.todd _ ho)⟩
  · rcases j with j | ⟨rfl, rfl⟩
    · exact List.mem_append_left _ (h.did u hu w hw j r o)
    · exact List.mem_append_right _ (by simp)
theorem Swp.turn {F0 F : List Int} {i : Nat} (h : Swp N f F0 (fun _ _ => True) F) (h0 : Dor N f F0) (hi : clsd N f F0 ∨ i + 1 ≤ F0.length) : clsd N f F ∨ i + 2 ≤ F.length := by
  have hle := nodup_le h0.nd h.sub
  by_cases hlt : F.length ≤ F0.length
  · have hb := nodup_back h0.nd h.dr.nd h.sub hlt
    exact .inl fun u hu w hw r o => h.did u hu w hw trivial r (hb _ o)
  · rcases hi with hc | hi
    · refine .inl fun u hu w hw r o => h.sub u (hc u hu w hw r ?_)
      exact cls_tod h0 hc (h.dr.todd _ o)
    · exact .inr (by omega)
theorem Dor.fin {F : List Int} (h : Dor N f F) (hi : clsd N f F ∨ N.n + 1 ≤ F.length) : ∀ b ∈ N.blocks, b ∈ F ↔ ToD N f b := fun b hb => by
  refine ⟨fun hm => h.todd b hm, fun t => ?_⟩
  rcases hi with hc | hi
  · exact cls_tod h hc t
  · refine nodup_back (l := F) (m := -1 :: N.blocks) h.nd (List.nodup_cons.mpr ⟨fun hm => by rw [mem_blocks] at hm; omega, blocks_nd⟩) (fun u hu => (h.tod u hu).elim (fun e => e ▸ List.mem_cons_self) fun e => List.mem_cons_of_mem _ e.1) ?_ b (List.mem_cons_of_mem _ hb)
    unfold Net.blocks
    simpa using hi
/-- two nets that are alike but for the ways that are shut -/
structure More (N N' : Net) : Prop where
  n : N'.n = N.n
  L : N'.L = N.L
  cap : ∀ w c, N'.cap w = some c → N.cap w = some c
theorem More.blocks {N N' : Net} (h : More N N') : N'.blocks = N.blocks := by unfold Net.blocks; rw [h.n]
theorem More.fits {N N' : Net} {B S : List Int} (h : More N N') (hs : Fits N' B S) : Fits N B S := by
  refine ⟨fun b hb => by rw [← h.blocks]; exact hs.sub b hb, hs.busy, fun w hw hc => hs.shut w (by rw [h.L]; exact hw) ?_⟩
  cases e : N'.cap w with
  | none => rfl
  | some c => rw [h.cap w c e] at hc; cases hc
theorem More.cost {N N' : Net} {B S : List Int} (h : More N N') (hs : Fits N' B S) : N'.cost S = N.cost S := by
  unfold Net.cost
  rw [h.L]
  congr 1
  refine List.map_congr_left fun w hw => ?_
  unfold Net.costw
  cases e : N'.cap w with
  | some c => rw [h.cap w c e]
  | none =>
    have := hs.shut w (by rw [h.L]; exact hw) e
    cases N.cap w with
    | none => rfl
    | some c =>
      show (0 : Int) = if w.1 ∈ S ∧ w.2 ∉ S then c.2 else if w.1 ∉ S ∧ w.2 ∈ S then 0 - c.1 else 0
      rw [if_neg (fun q => q.2 (this.mp q.1)), if_neg (fun q => q.1 (this.mpr q.2))]
/-- more shut: it costs no less -/
theorem More.least {N N' : Net} {B S S' : List Int} {c c' : Int} (h : More N N') (h1 : Least N B c S) (h2 : Least N' B c' S') : c ≤ c' := by
  rw [← h2.cost, h.cost h2.fits]
  exact h1.least _ (h.fits h2.fits)
end
end Fl

local macro_rules | `(tactic| walk_at "mem") => `(tactic| repeat (first | with_reducible exact DL.mem_h | with_reducible apply DL.mem_t))
local macro_rules | `(tactic| walk_at "look") => `(tactic| repeat (first | with_reducible exact DL.Look.here | with_reducible apply DL.Look.there))
local macro_rules | `(tactic| walk_at "put") => `(tactic| repeat (first | with_reducible exact DL.SetAt.here | with_reducible apply DL.SetAt.there))
local macro_rules | `(tactic| walk_at "at") => `(tactic| repeat (first | with_reducible exact DL.At.here | with_reducible assumption | with_reducible exact DL.At.put (by assumption) _ | with_reducible apply DL.At.there | with_reducible apply DL.At.app))
local macro_rules | `(tactic| walk_at "isl") => `(tactic| first | with_reducible exact DL.isL_lst | exact Or.inr ⟨_, _, rfl, by walk_at "at"⟩)
local macro_rules | `(tactic| walk_at "isr") => `(tactic| first | with_reducible exact DL.isR_lst | with_reducible exact DL.isR_slst | exact Or.inl (Or.inr ⟨_, _, rfl, by walk_at "at"⟩))
local macro_rules | `(tactic| walk_at "room") => `(tactic| exact L2.Room.mono (by assumption) (by decide))
local macro_rules | `(tactic| walk_at "unf") => `(tactic| with_unfolding_all rfl)
local macro_rules | `(tactic| walk_at "e1") => `(tactic| with_reducible first
  | (refine DL.kName ?_; refine DL.we_name (by assumption) (by walk_at "mem") (by walk_at "look") ?_)
  | refine DL.we_int ?_
  | refine DL.we_bin ?_
  | refine DL.we_slice ?_
  | (refine DL.kIx ?_; refine DL.we_ix ?_ (by with_unfolding_all exact fun _ _ => rfl))
  | refine DL.we_str ?_
  | refine DL.we_neg ?_
  | (refine DL.kCmp ?_; refine DL.we_cmp ?_ (by with_unfolding_all first | rfl | exact L2.nomark _))
  | refine DL.we_tup ?_
  | (refine DL.kCall ?_; first
    | refine DL.we_call (by assumption) (by with_unfolding_all walk_at "room") (by assumption) (by walk_at "mem") ?_ (by walk_at "unf") (by walk_at "unf")
    | refine DL.we_blt (by assumption) (by walk_at "mem") (by first | exact PySem.boot_len | exact PyProof.Rows.boot_abs | exact DL.boot_max | exact DL.boot_min | exact PyProof.Rows.boot_sorted | exact PyProof.Rows.boot_repr | exact DL.boot_any | exact DL.boot_all | exact DL.boot_sum) ?_ (by walk_at "unf") (by walk_at "unf")
    | refine DL.we_bty (by assumption) (by walk_at "mem") (by first | exact PyProof.Rows.boot_int | exact PyProof.Rows.boot_list | exact PyProof.Rows.boot_dict | exact PyProof.Rows.boot_set | exact PyProof.Rows.boot_tuple | exact PyProof.Rows.boot_str) ?_ (by walk_at "unf") (by walk_at "unf"))
  | refine DL.we_non ?_
  | refine DL.we_bl ?_
  | refine DL.we_not ?_
  | refine DL.we_one ?_
  | refine DL.we_and ?_
  | refine DL.we_or ?_
  | refine DL.we_if ?_
  | refine DL.we_lst ?_
  | (refine DL.kAtt "append" ?_; refine DL.we_meth PySem.F.plainAttrs_list PySem.F.slot_list_append PySem.F.type_list_append ?_ (by walk_at "unf") (by walk_at "unf") (by walk_at "unf") (by walk_at "unf") (by walk_at "unf"))
  | (refine DL.kAtt "extend" ?_; refine DL.we_meth PySem.F.plainAttrs_list PySem.F.slot_list_extend PySem.F.type_list_extend ?_ (by walk_at "unf") (by walk_at "unf") (by walk_at "unf") (by walk_at "unf") (by walk_at "unf"))
  | (refine DL.kAtt "insert" ?_; refine DL.we_meth PySem.F.plainAttrs_list PySem.F.slot_list_insert PySem.F.type_list_insert ?_ (by walk_at "unf") (by walk_at "unf") (by walk_at "unf") (by walk_at "unf") (by walk_at "unf"))
  | (refine DL.kAtt "update" ?_; refine DL.we_meth PySem.F.plainAttrs_dict PySem.F.slot_dict_update PySem.F.type_dict_update ?_ (by walk_at "unf") (by walk_at "unf") (by walk_at "unf") (by walk_at "unf") (by walk_at "unf"))
  | (refine DL.kAtt "reverse" ?_; refine DL.we_meth0 PySem.F.plainAttrs_list PySem.F.slot_list_reverse PySem.F.type_list_reverse ?_ (by walk_at "unf") (by walk_at "unf"))
  | (refine DL.kAtt "clear" ?_; refine DL.we_meth0 PySem.F.plainAttrs_list PySem.F.slot_list_clear PySem.F.type_list_clear ?_ (by walk_at "unf") (by walk_at "unf"))
  | (refine DL.kAtt "pop" ?_; first | refine DL.we_meth PySem.F.plainAttrs_list PySem.F.slot_list_pop PySem.F.type_list_pop ?_ (by walk_at "unf") (by walk_at "unf") (by walk_at "unf") (by walk_at "unf") (by walk_at "unf") | refine DL.we_meth0 PySem.F.plainAttrs_list PySem.F.slot_list_pop PySem.F.type_list_pop ?_ (by walk_at "unf") (by walk_at "unf")))
local macro_rules | `(tactic| walk_at "od") => `(tactic| with_reducible first
  | refine DL.od_add ?_
  | refine DL.od_sub ?_
  | refine DL.od_lt ?_
  | refine DL.od_le ?_
  | refine DL.od_gt ?_
  | refine DL.od_ge ?_
  | refine DL.od_eqI ?_
  | refine DL.od_neI ?_
  | refine DL.od_eqS ?_
  | refine DL.od_neS ?_
  | (refine DL.kOp .Mod ?_; refine DL.od_mod (by omega) ?_)
  | (refine DL.kCo .In ?_; refine DL.od_inD (by assumption) (DL.GetD.dk (by walk_at "at")) ?_))
local macro_rules | `(tactic| walk_at "cd") => `(tactic| with_reducible first
  | refine DL.cd_intB ?_
  | refine DL.cd_abs ?_
  | (refine DL.kBl "max" ?_; refine DL.cd_max (by assumption) ?_)
  | (refine DL.kBl "min" ?_; refine DL.cd_min (by assumption) ?_)
  | (refine DL.kBl "len" ?_; first | refine DL.cd_len (Or.inl (by with_unfolding_all walk_at "isr")) ?_ | refine DL.cd_len (Or.inr rfl) ?_))
local macro_rules | `(tactic| walk_at "t1") => `(tactic| with_reducible first
  | (refine DL.kTC ?_; refine DL.wt_cmp ?_ (by with_unfolding_all first | rfl | exact L2.nomark _))
  | (refine DL.kTN ?_; refine DL.wt_truth ?_ (by with_unfolding_all exact fun _ => rfl))
  | (refine DL.kTL ?_; refine DL.wt_truth ?_ (by with_unfolding_all exact fun _ => rfl))
  | refine DL.wt_bool ?_
  | refine DL.ww_and ?_
  | refine DL.ww_or ?_
  | refine DL.ww_and1 ?_
  | refine DL.ww_or1 ?_
  | refine DL.wt_not ?_)
local macro_rules | `(tactic| walk_at "a1") => `(tactic| with_reducible first
  | (refine DL.kWA ?_; refine DL.wa_cons ?_ (by walk_at "unf"))
  | refine DL.wa_nil ?_)
local macro_rules | `(tactic| walk_at "ix") => `(tactic| first
  | exact DL.IxD.list (by with_unfolding_all walk_at "isr") (by with_unfolding_all rfl)
  | exact DL.IxD.tup (by with_unfolding_all rfl))
local macro_rules | `(tactic| walk_at "tyd") => `(tactic| first | exact DL.tyL (by with_unfolding_all walk_at "isr") | exact DL.tyK (by walk_at "at"))
local macro_rules | `(tactic| walk_at "k") => `(tactic| with_reducible refine ⟨_, rfl, ?_⟩)
local macro_rules | `(tactic| walk_at "run1") => `(tactic| first
  | (with_reducible refine DL.gWE ?_; walk_at "e1")
  | (with_reducible refine DL.gOD ?_; walk_at "od")
  | (with_reducible refine DL.gCD ?_; walk_at "cd")
  | (with_reducible refine DL.gWA ?_; walk_at "a1")
  | (with_reducible refine DL.gWT ?_; walk_at "t1")
  | (with_reducible refine DL.gWW ?_; walk_at "t1")
  | with_reducible refine DL.gBl ?_
  | with_reducible refine DL.gTr ?_
  | (with_reducible refine DL.kPut ?_; with_reducible refine DL.gPut (by walk_at "put") ?_)
  | (with_reducible refine DL.kIxd ?_; with_reducible refine DL.gIx (by walk_at "ix") ?_)
  | (with_reducible refine DL.kTy ?_; with_reducible refine DL.gTy (by walk_at "tyd") ?_)
  | with_reducible refine DL.gLen rfl ?_
  | (with_reducible refine DL.kSz ?_; with_reducible refine DL.gSz (DL.szl (by with_unfolding_all simp)) ?_)
  | with_reducible refine DL.gInt ?_
  | with_reducible refine DL.woS ?_
  | with_reducible refine DL.woN ?_
  | with_reducible refine DL.ite_ff ?_
  | with_reducible refine DL.ite_tt ?_)
local macro_rules | `(tactic| walk_at "run") => `(tactic| repeat walk_at "run1")
local macro_rules | `(tactic| walk_at "set") => `(tactic| (refine DL.wss_cons ?_; refine DL.ws_set (by assumption) (by walk_at "mem") ?_ (by walk_at "unf")))
local macro_rules | `(tactic| walk_at "put!") => `(tactic| refine ⟨_, by walk_at "put", ?_⟩)
local macro_rules | `(tactic| walk_at "if") => `(tactic| (refine DL.wss_cons ?_; refine DL.ws_if ?_))
local macro_rules | `(tactic| walk_at "ret") => `(tactic| (refine DL.wss_cons ?_; refine DL.ws_ret ?_))
local macro_rules | `(tactic| walk_at "expr") => `(tactic| (refine DL.wss_cons ?_; refine DL.ws_expr ?_ (by walk_at "unf")))
local macro_rules | `(tactic| walk_at "asg") => `(tactic| (refine DL.wss_cons ?_; refine DL.ws_asg ?_ (by walk_at "unf") (by walk_at "unf") (by walk_at "unf")))
local macro_rules | `(tactic| walk_at "wix") => `(tactic| refine DL.wg_ix ?_ (by intro _; with_unfolding_all rfl))
local macro_rules | `(tactic| walk_at "draw") => `(tactic| refine ⟨_, _, _, _, _, rfl, by walk_at "at", by assumption, by omega, by omega, by omega, ?_⟩)
local macro_rules | `(tactic| walk_at "unset") => `(tactic| repeat (first | with_reducible exact DL.Unset.here | with_reducible apply DL.Unset.there))
local macro_rules | `(tactic| walk_at "wiped") => `(tactic| repeat (first | exact DL.Wiped.nil | (apply DL.Wiped.cons; walk_at "unset")))
local macro_rules | `(tactic| walk_at "str") => `(tactic| first
  | refine DL.ite_sF (by decide +kernel) ?_
  | refine DL.ite_sT (by decide +kernel) ?_
  | refine DL.ite_nF (by decide +kernel) ?_
  | refine DL.ite_nT (by decide +kernel) ?_)
local macro_rules | `(tactic| walk_at "go") => `(tactic| repeat (first | walk_at "run1" | walk_at "str"))
/-! the law's own draws: defs that all laws share -/
namespace Gen
open PySem L2 DL Wk
def top (i : Nat) : Stmt := PySem.Challenge.pw_fewsaves_k42_what_the_cheapest_costs.main.body.getD i (.Pass ⟨0, 0, 0, 0⟩)
abbrev s_law_tape : Stmt := top 23
abbrev l_law_tape : List Str := ["_law_script", "_law_k", "_law_cell"]
abbrev n_law_tape : List Str := ["_law_script", "_law_k", "_law_cell"]
theorem sc_law_tape : FnScope n_law_tape ["_law_script", "_law_k"] (defScope s_law_tape) := ⟨rfl, rfl, rfl, by decide +kernel, rfl, by decide +kernel, by decide +kernel⟩
abbrev s_law_draw : Stmt := top 24
abbrev l_law_draw : List Str := ["_law_tape_here", "_law_many", "_law_found", "_law_once", "_law_twice"]
abbrev n_law_draw : List Str := ["_law_tape_here", "_law_many", "_law_found", "_law_once", "_law_twice"]
theorem sc_law_draw : FnScope n_law_draw ["_law_tape_here", "_law_many"] (defScope s_law_draw) := ⟨rfl, rfl, rfl, by decide +kernel, rfl, by decide +kernel, by decide +kernel⟩
section
variable {P : Program} {w : World} {K : PySem.W.Frag} {mg : Str → Option Value} {base : Heap}

/-- the tape: three numbers from nought, the last one at most n -/
def Tape (n : Nat) (c : Cell) : Prop := ∃ a b k : Int, c = .lst [.int a, .int b, .int k] ∧ 0 ≤ a ∧ 0 ≤ b ∧ b ≤ 2305843009216300000 ∧ 0 ≤ k ∧ k ≤ n
theorem Tape.mono {n m : Nat} {c : Cell} (h : Tape n c) (e : n ≤ m) : Tape m c := by
  obtain ⟨a, b, k, e1, h1, h2, h3, h4, h5⟩ := h
  exact ⟨a, b, k, e1, h1, h2, h3, h4, by omega⟩
abbrev sp_law_tape : DSp := fun ds M Q => ∃ (ns : List Int) (k : Int), ds = [.slst (ns.map .int), .int k] ∧ 0 ≤ k ∧ k ≤ 64 ∧ ∀ p c, Tape 0 c → Q (.ref p) ((p, c) :: M)
theorem ok_law_tape {f : Addr} {fd : FuncData} (F : Fun K "_law_tape" "_law_tape" s_law_tape f fd) (hm : mg "_law_tape" = some (.ref f)) (hb : Binds K fd ["_law_script", "_law_k"] []) (hB : ∀ x ∈ (["len", "abs", "int"] : List Str), mg x = none) : Fs P w K mg base 1 "_law_tape" 2 sp_law_tape := by
  refine fs_of (N := n_law_tape) (Ln := l_law_tape) (Bn := ["len", "abs", "int"]) (Fn := []) (Bx := ["len", "abs", "int"]) F hm hb sc_law_tape rfl (by decide +kernel) hB ?_
  rintro X ds M Q bod ⟨ns, k, rfl, hk, hk2, hQ⟩
  have st := bod.st
  show WSs X ([("_law_script", some (.slst (ns.map .int))), ("_law_k", some (.int k)), ("_law_cell", none)] : VEnv) M _ _
  refine ws_mid (fun Γ' M' => ∃ cell : Int, Γ' = ([("_law_script", some (.slst (ns.map .int))), ("_law_k", some (.int k)), ("_law_cell", some (.int cell))] : VEnv) ∧ M' = M) (ws_set st (by walk_at "mem") ?_ (by walk_at "unf")) ?_
  · walk_at "run"
    refine ite_d (fun h => ?_) (fun h => ?_)
    · walk_at "run"
      have h' : k < ((ns.map D.int).length : Int) := h
      obtain ⟨d, e, hd⟩ := atI_mem hk h'
      obtain ⟨v, _, rfl⟩ := List.mem_map.mp hd
      refine ⟨_, _, rfl, IxD.list (.inr rfl) e, ?_⟩
      walk_at "run"
      exact ⟨_, rfl, rfl⟩
    · walk_at "run"
      exact ⟨_, rfl, rfl⟩
  · rintro Γ' M' ⟨cell, rfl, rfl⟩
    walk_at "ret"
    refine we_lstO ?_
    walk_at "run"
    refine od_pow (cm_pow (by omega) (by omega) (by omega) (by omega)) ?_
    walk_at "run"
    have hb1 : (0 : Int) ≤ (if decide ((10 : Int) ^ (18 : Int).toNat ≤ if cell < 0 then -cell else cell) = true then 1 else 0) ∧ (if decide ((10 : Int) ^ (18 : Int).toNat ≤ if cell < 0 then -cell else cell) = true then (1 : Int) else 0) ≤ 1 := by
      generalize decide ((10 : Int) ^ (18 : Int).toNat ≤ if cell < 0 then -cell else cell) = b
      cases b <;> simp
    refine od_mul (cm_r (by omega) (by omega)) ?_
    walk_at "run"
    refine od_mul (cm_l (by omega) (by omega)) ?_
    walk_at "run"
    have m1 := Int.emod_nonneg cell (show (2305843009213693951 : Int) ≠ 0 by omega)
    have m2 := Int.emod_lt_of_pos cell (show (0 : Int) < 2305843009213693951 by omega)
    intro p
    refine hQ p _ ⟨_, _, _, rfl, Int.mul_nonneg ?_ hb1.1, by omega, by omega, by omega, by omega⟩
    split <;> omega

abbrev sp_law_draw : DSp := fun ds M Q => ∃ (t : Addr) (n : Int) (N : Nat) (c : Cell) (f : Cell → Mem), ds = [.ref t, .int n] ∧ At t M c f ∧ Tape N c ∧ N ≤ 1000000000 ∧ 0 < n ∧ n ≤ 1000000 ∧ ∀ r c', 0 ≤ r → r < n → Tape (N + 1) c' → Q (.int r) (f c')
theorem ok_law_draw {f : Addr} {fd : FuncData} (F : Fun K "_law_draw" "_law_draw" s_law_draw f fd) (hm : mg "_law_draw" = some (.ref f)) (hb : Binds K fd ["_law_tape_here", "_law_many"] []) : Fs P w K mg base 1 "_law_draw" 2 sp_law_draw := by
  refine fs_of (N := n_law_draw) (Ln := l_law_draw) (Bn := []) (Fn := []) (Bx := []) F hm hb sc_law_draw rfl (by decide +kernel) (fun _ h => by cases h) ?_
  rintro X ds M Q bod ⟨t, n, N, c, f, rfl, hat, ⟨a, b, k, rfl, ha, hb, hb2, hk, hk2⟩, hN, hn, hn2, hQ⟩
  have st := bod.st
  show WSs X ([("_law_tape_here", some (.ref t)), ("_law_many", some (.int n)), ("_law_found", none), ("_law_once", none), ("_law_twice", none)] : VEnv) M _ _
  walk_at "if"
  walk_at "run"
  refine ite_d (fun h => ?_) (fun h => ?_)
  · walk_at "set"
    walk_at "run"
    walk_at "asg"
    walk_at "run"
    refine od_fdiv ⟨hn, by omega⟩ ?_
    walk_at "wix"
    walk_at "run"
    refine ⟨_, _, _, _, rfl, rfl, by walk_at "at", by decide, by simp, ?_⟩
    walk_at "ret"
    walk_at "run"
    have m1 := Int.emod_nonneg a (show n ≠ 0 by omega)
    have m2 := Int.emod_lt_of_pos a hn
    exact hQ _ _ m1 m2 ⟨_, _, _, rfl, Int.ediv_nonneg ha (by omega), hb, hb2, hk, by omega⟩
  · refine wss_nil ?_
    walk_at "asg"
    walk_at "run"
    walk_at "wix"
    walk_at "run"
    refine ⟨_, _, _, _, rfl, rfl, by walk_at "at", by decide, by simp, ?_⟩
    walk_at "set"
    walk_at "run"
    refine od_mul (cm_l (by omega) (by omega)) ?_
    walk_at "run"
    refine od_pow (cm_pow (by omega) (by omega) (by omega) (by omega)) ?_
    walk_at "run"
    generalize ho : (b + 39373 * (k + 1)) ^ (5 : Int).toNat % 2147483647 = once
    have ho1 : 0 ≤ once ∧ once < 2147483647 := by rw [← ho]; exact ⟨Int.emod_nonneg _ (by omega), Int.emod_lt_of_pos _ (by omega)⟩
    walk_at "set"
    walk_at "run"
    refine od_mul (cm_l (by omega) (by omega)) ?_
    walk_at "run"
    generalize ht : (once + (k + 1)) * (once % 40009 + 7 + (k + 1)) % 2147483629 = twice
    have ht1 : 0 ≤ twice ∧ twice < 2147483629 := by rw [← ht]; exact ⟨Int.emod_nonneg _ (by omega), Int.emod_lt_of_pos _ (by omega)⟩
    walk_at "ret"
    walk_at "run"
    refine od_mul (cm_l (by omega) (by omega)) ?_
    walk_at "run"
    refine od_fdiv ⟨by omega, by omega⟩ ?_
    walk_at "run"
    have m1 := Int.emod_nonneg ((twice * 48271 + once) % 2147483587 / 64) (show n ≠ 0 by omega)
    have m2 := Int.emod_lt_of_pos ((twice * 48271 + once) % 2147483587 / 64) hn
    exact hQ _ _ m1 m2 ⟨_, _, _, rfl, ha, hb, hb2, by omega, by omega⟩
end
end Gen

namespace Gen
open PySem L2 DL Wk
abbrev s_law_nexts : Stmt := top 25
abbrev l_law_nexts : List Str := ["_law_tape_here", "_law_many", "_law_found", "_law_led", "_law_k", "_law_way", "_law_other", "_law_some"]
abbrev n_law_nexts : List Str := ["_law_tape_here", "_law_many", "_law_found", "_law_led", "_law_k", "_law_way", "_law_other", "_law_some", "_law_one"]
theorem sc_law_nexts : FnScope n_law_nexts ["_law_tape_here", "_law_many"] (defScope s_law_nexts) := ⟨rfl, rfl, rfl, by decide +kernel, rfl, by decide +kernel, by decide +kernel⟩
section
variable {P : Program} {w : World} {K : PySem.W.Frag} {mg : Str → Option Value} {base : Heap}
/-- the first i ends of m -/
structure PreOk (m i : Nat) (nx : List Nd) : Prop where
  len : nx.length = i
  ok : ∀ e ∈ nx, e.Ok m
  led : ∀ j, 1 ≤ j → j ≤ i → j < m → ∃ (a : Nat) (e : Nd), a < j ∧ nx[a]? = some e ∧ j ∈ e.nx
structure LedOk (nx : List Nd) (kvs : List (Key × D)) : Prop where
  len : kvs.length ≤ 2 * nx.length
  led : ∀ n : Nat, (valA kvs (.inl (n : Int))).isSome = true → ∃ (a : Nat) (e : Nd), nx[a]? = some e ∧ n ∈ e.nx
theorem NxOk.of {m : Nat} {nx : List Nd} (h : PreOk m m nx) : NxOk m nx := ⟨h.len, h.ok, fun j a b => h.led j a (by omega) b⟩
theorem PreOk.step {m i : Nat} {nx : List Nd} {e : Nd} (h : PreOk m i nx) (ho : e.Ok m) (hl : i + 1 < m → i + 1 ∈ e.nx ∨ ∃ (a : Nat) (e : Nd), nx[a]? = some e ∧ i + 1 ∈ e.nx) : PreOk m (i + 1) (nx ++ [e]) := by
  have gl := h.len
  have up : ∀ (a : Nat) (e' : Nd), nx[a]? = some e' → a < i ∧ (nx ++ [e])[a]? = some e' := fun a e' q => by
    have := (List.getElem?_eq_some_iff.mp q).1
    exact ⟨by omega, by rw [List.getElem?_append_left this]; exact q⟩
  refine ⟨by simp [h.len], fun e' he => ?_, fun j h1 h2 h3 => ?_⟩
  · rcases List.mem_append.mp he with he | he
    · exact h.ok _ he
    · rw [List.mem_singleton.mp he]; exact ho
  · by_cases hj : j ≤ i
    · obtain ⟨a, e', q1, q2, q3⟩ := h.led j h1 hj h3
      exact ⟨a, e', q1, (up _ _ q2).2, q3⟩
    · have : j = i + 1 := by omega
      subst this
      rcases hl h3 with q | ⟨a, e', q1, q2⟩
      · exact ⟨i, e, by omega, by rw [List.getElem?_append_right (by omega), gl]; simp, q⟩
      · exact ⟨a, e', by have := (up _ _ q1).1; omega, (up _ _ q1).2, q2⟩
theorem LedOk.step {nx : List Nd} {kvs : List (Key × D)} {e : Nd} (h : LedOk nx kvs) : LedOk (nx ++ [e]) (mergeA kvs (e.nx.map fun (n : Nat) => ((.inl (n : Int) : Key), D.bl true))) := by
  have l2 : e.nx.length ≤ 2 := by cases e <;> simp [Nd.nx]
  refine ⟨?_, fun n hn => ?_⟩
  · have := mergeA_length (e.nx.map fun (n : Nat) => ((.inl (n : Int) : Key), D.bl true)) kvs
    have := h.len
    rw [List.length_map] at *
    rw [List.length_append, List.length_singleton]
    omega
  · rw [mergeA_val, Bool.or_eq_true] at hn
    rcases hn with hn | hn
    · obtain ⟨a, e', q1, q2⟩ := h.led n hn
      have := (List.getElem?_eq_some_iff.mp q1).1
      exact ⟨a, e', by rw [List.getElem?_append_left this]; exact q1, q2⟩
    · have := valA_mem_keys.mp hn
      rw [List.map_map] at this
      obtain ⟨k, k1, k2⟩ := List.mem_map.mp this
      have : k = n := by
        have := Sum.inl.inj k2
        exact Int.ofNat_inj.mp this
      subst this
      exact ⟨nx.length, e, by simp, k1⟩
abbrev sp_law_nexts : DSp := fun ds M Q => ∃ (t : Addr) (m : Nat) (N : Nat) (c : Cell) (f : Cell → Mem), ds = [.ref t, .int (m : Int)] ∧ At t M c f ∧ Tape N c ∧ N ≤ 100000000 ∧ 1 ≤ m ∧ m ≤ 16 ∧ ∀ nx c', NxOk m nx → Tape (N + 2 * m) c' → Q (.lst (nx.map fun e => nlD e.nx)) (f c')
theorem ok_law_nexts {f : Addr} {fd : FuncData} (F : Fun K "_law_nexts" "_law_nexts" s_law_nexts f fd) (hm : mg "_law_nexts" = some (.ref f)) (hb : Binds K fd ["_law_tape_here", "_law_many"] []) (hB : ∀ x ∈ (["range", "max"] : List Str), mg x = none) (h_law_draw : Fs P w K mg base 1 "_law_draw" 2 sp_law_draw) : Fs P w K mg base 2 "_law_nexts" 2 sp_law_nexts := by
  refine fs_of (N := n_law_nexts) (Ln := l_law_nexts) (Bn := ["range", "max"]) (Fn := ["_law_draw"]) (Bx := ["range", "max"]) F hm hb sc_law_nexts rfl (by decide +kernel) hB ?_
  rintro X ds M Q bod ⟨t, m, N, c, f, rfl, hat, tp, hN, hm1, hm2, hQ⟩
  have st := bod.st
  have rm := bod.room
  have hd := bod.tr h_law_draw
  show WSs X ([("_law_tape_here", some (.ref t)), ("_law_many", some (.int m)), ("_law_found", none), ("_law_led", none), ("_law_k", none), ("_law_way", none), ("_law_other", none), ("_law_some", none), ("_law_one", none)] : VEnv) M _ _
  refine wss_cons (ws_par st (by walk_at "mem") (by walk_at "mem") (bod.lk (by decide +kernel)) (bod.lk (by decide +kernel)) bod.kind (by decide) (by walk_at "put") (by walk_at "put") ?_)
  walk_at "a1"
  refine we_lstO ?_
  walk_at "run"
  intro pf
  walk_at "run"
  refine we_dnew fun pl => ?_
  walk_at "run"
  refine ⟨_, _, _, _, rfl, by walk_at "put", by walk_at "put", ?_⟩
  refine wss_cons (ws_for st (wi_range st (by walk_at "mem") ?_))
  walk_at "run"
  refine ⟨by omega, by omega, fun i Γ' M' => ∃ (nx : List Nd) (kvs : List (Key × D)) (c' : Cell) (o1 o2 o3 o4 : Option D), PreOk m i nx ∧ LedOk nx kvs ∧ Tape (N + 2 * i) c' ∧ Γ' = ([("_law_tape_here", some (.ref t)), ("_law_many", some (.int m)), ("_law_found", some (.ref pf)), ("_law_led", some (.ref pl)), ("_law_k", o1), ("_law_way", o2), ("_law_other", o3), ("_law_some", o4), ("_law_one", none)] : VEnv) ∧ M' = (pl, .dK kvs) :: (pf, .lst (nx.map fun e => nlD e.nx)) :: f c', ?_, ?_, ?_, ?_⟩
  · exact ⟨[], [], c, _, _, _, _, ⟨rfl, (fun _ h => by cases h), fun j a b => by omega⟩, ⟨by simp, fun n h => by cases h⟩, tp, rfl, by rw [hat.self]; rfl⟩
  · intros; trivial
  · rintro i x Γ' M' hx ⟨nx, kvs, c1, o1, o2, o3, o4, hp, hl, tp1, rfl, rfl⟩
    obtain ⟨hi, rfl⟩ := rngD_inv hx
    have hi : i < m := by simpa using hi
    refine wg_name st (by walk_at "mem") (by walk_at "put") ?_
    have at1 := hat.put c1
    walk_at "set"
    walk_at "run"
    refine ⟨_, _, _, _, _, rfl, by walk_at "at", tp1, by omega, by omega, by omega, fun way c2 w0 w1 tp2 => ?_⟩
    walk_at "put!"
    walk_at "set"
    walk_at "run"
    have hmx : (0 : Int) < (if (m : Int) - 1 > 1 then (m : Int) - 1 else 1) ∧ (if (m : Int) - 1 > 1 then (m : Int) - 1 else 1) ≤ 16 ∧ (1 < m → (if (m : Int) - 1 > 1 then (m : Int) - 1 else 1) ≤ m - 1) := by
      split <;> omega
    refine ⟨_, _, _, _, _, rfl, by walk_at "at", tp2, by omega, by omega, by omega, fun oth c3 u0 u1 tp3 => ?_⟩
    obtain ⟨k, rfl⟩ := Int.eq_ofNat_of_zero_le u0
    have hk : 1 < m → 1 + k < m := fun q => by have := hmx.2.2 q; omega
    walk_at "run"
    walk_at "set"
    walk_at "run"
    refine ⟨_, _, rfl, IxD.list isR_lst at2, ?_⟩
    walk_at "run"
    refine ws_mid (fun Γ' M' => ∃ e : Nd, e.Ok m ∧ (i + 1 < m → i + 1 ∈ e.nx ∨ ∃ (a : Nat) (e : Nd), nx[a]? = some e ∧ i + 1 ∈ e.nx) ∧ Γ' = ([("_law_tape_here", some (.ref t)), ("_law_many", some (.int m)), ("_law_found", some (.ref pf)), ("_law_led", some (.ref pl)), ("_law_k", some (.int (0 + i))), ("_law_way", some (.int way)), ("_law_other", some (.int (1 + k))), ("_law_some", some (nlD e.nx)), ("_law_one", none)] : VEnv) ∧ M' = (pl, .dK kvs) :: (pf, .lst (nx.map fun e => nlD e.nx)) :: f c3) (ws_if ?_) ?_
    · walk_at "run"
      refine ite_d (fun h1 => ?_) (fun h1 => ?_)
      · walk_at "set"
        walk_at "run"
        have fin1 : 1 < m → (Nd.go (1 + k)).Ok m := fun q => ⟨by omega, hk q⟩
        refine ite_d (fun h2 => ?_) (fun h2 => ?_)
        · walk_at "run"
          refine ite_d (fun h3 => ?_) (fun h3 => ?_)
          · walk_at "run"
            refine wss_nil ?_
            refine ⟨.go (1 + k), fin1 (by omega), fun q => by omega, ?_, rfl⟩
            rw [nl1 (t := 1 + k) (by omega)]; rfl
          · walk_at "run"
            refine wss_nil ?_
            exact ⟨.out, trivial, fun q => by omega, rfl, rfl⟩
        · walk_at "run"
          refine wss_nil ?_
          exact ⟨.out, trivial, fun q => by omega, rfl, rfl⟩
      · refine wss_one (ws_if ?_)
        walk_at "run"
        have hi1 : 1 < m := by omega
        have fin1 : (Nd.go (1 + k)).Ok m := ⟨by omega, hk hi1⟩
        have rest : ∀ E : DE, (∀ e : Nd, e.Ok m → (i + 1 < m → i + 1 ∈ e.nx ∨ ∃ (a : Nat) (e : Nd), nx[a]? = some e ∧ i + 1 ∈ e.nx) → E.nx ([("_law_tape_here", some (.ref t)), ("_law_many", some (.int m)), ("_law_found", some (.ref pf)), ("_law_led", some (.ref pl)), ("_law_k", some (.int (0 + i))), ("_law_way", some (.int way)), ("_law_other", some (.int (1 + k))), ("_law_some", some (nlD e.nx)), ("_law_one", none)] : VEnv) ((pl, .dK kvs) :: (pf, .lst (nx.map fun e => nlD e.nx)) :: f c3)) → (¬ ((valA kvs (.inl (0 + (i : Int) + 1))).isSome = true ∧ way < 3)) → WSs X ([("_law_tape_here", some (.ref t)), ("_law_many", some (.int m)), ("_law_found", some (.ref pf)), ("_law_led", some (.ref pl)), ("_law_k", some (.int (0 + i))), ("_law_way", some (.int way)), ("_law_other", some (.int (1 + k))), ("_law_some", some (if way % 2 = 0 then D.lst [D.int (0 + i + 1), D.int (1 + k)] else D.lst [D.int (1 + k), D.int (0 + i + 1)])), ("_law_one", none)] : VEnv) ((pl, .dK kvs) :: (pf, .lst (nx.map fun e => nlD e.nx)) :: f c3) ((match (defBody s_law_nexts).getD 1 (.Pass ⟨0, 0, 0, 0⟩) with | .For _ _ b _ _ => (match b.getD 3 (.Pass ⟨0, 0, 0, 0⟩) with | .If _ _ [.If _ _ e _] _ => e | _ => []) | _ => [])) E := fun E hE _ => by
          refine wss_one (ws_if ?_)
          have go1 : WSs X ([("_law_tape_here", some (.ref t)), ("_law_many", some (.int m)), ("_law_found", some (.ref pf)), ("_law_led", some (.ref pl)), ("_law_k", some (.int (0 + i))), ("_law_way", some (.int way)), ("_law_other", some (.int (1 + k))), ("_law_some", some (if way % 2 = 0 then D.lst [D.int (0 + i + 1), D.int (1 + k)] else D.lst [D.int (1 + k), D.int (0 + i + 1)])), ("_law_one", none)] : VEnv) ((pl, .dK kvs) :: (pf, .lst (nx.map fun e => nlD e.nx)) :: f c3) ((match (defBody s_law_nexts).getD 1 (.Pass ⟨0, 0, 0, 0⟩) with | .For _ _ b _ _ => (match b.getD 3 (.Pass ⟨0, 0, 0, 0⟩) with | .If _ _ [.If _ _ [.If _ e _ _] _] _ => e | _ => []) | _ => [])) E := by
            walk_at "set"
            walk_at "run"
            refine wss_nil ?_
            rw [nl1 (t := i + 1) (by omega)]
            exact hE (.go (i + 1)) ⟨by omega, by omega⟩ (fun _ => .inl (by simp [Nd.nx]))
          walk_at "run"
          refine ite_d (fun h2 => ?_) (fun h2 => ?_)
          · exact go1
          · walk_at "run"
            refine ite_d (fun h3 => ?_) (fun h3 => ?_)
            · exact go1
            · refine wss_nil ?_
              by_cases hw : way % 2 = 0
              · rw [if_pos hw]
                rw [nl2 (t := i + 1) (o := 1 + k) (by omega) (by omega)]
                exact hE (.fork (i + 1) (1 + k)) ⟨by omega, by omega, by omega, hk hi1, by omega⟩ (fun _ => .inl (by simp [Nd.nx]))
              · rw [if_neg hw]
                rw [nl2 (t := 1 + k) (o := i + 1) (by omega) (by omega)]
                exact hE (.fork (1 + k) (i + 1)) ⟨by omega, hk hi1, by omega, by omega, by omega⟩ (fun _ => .inl (by simp [Nd.nx]))
        refine ite_b (fun h2 => ?_) (fun h2 => ?_)
        · walk_at "run"
          refine ite_d (fun h3 => ?_) (fun h3 => ?_)
          · have hled := hl.led (i + 1) (by rw [show ((i + 1 : Nat) : Int) = 0 + (i : Int) + 1 by omega]; exact h2)
            walk_at "set"
            walk_at "run"
            refine ite_d (fun h4 => ?_) (fun h4 => ?_)
            · walk_at "run"
              refine wss_nil ?_
              refine ⟨.go (1 + k), fin1, fun q => .inr hled, ?_, rfl⟩
              rw [nl1 (t := 1 + k) (by omega)]; rfl
            · walk_at "run"
              refine wss_nil ?_
              exact ⟨.out, trivial, fun q => .inr hled, rfl, rfl⟩
          · exact rest _ (fun e q1 q2 => ⟨e, q1, q2, rfl, rfl⟩) (fun q => h3 q.2)
        · exact rest _ (fun e q1 q2 => ⟨e, q1, q2, rfl, rfl⟩) (fun q => by rw [h2] at q; cases q.1)
    · rintro Γ' M' ⟨e, he1, he2, rfl, rfl⟩
      have at2 := hat.put c3
      walk_at "expr"
      walk_at "run"
      refine md_append (by walk_at "at") ?_ ?_
      · exact szlt (by have := hp.len; rw [List.length_map]; omega)
      walk_at "expr"
      refine we_gc ?_
      walk_at "run"
      refine we_map e.nx natD (fun n => .tup [natD n, .bl true]) [("_law_one", 8)] ["_law_one"] [] [] bod (by decide +kernel) (by walk_at "mem") (.cons (.there (.there (.there (.there (.there (.there (.there (.there .here)))))))) .nil) ?_
      refine wi_list ?_
      walk_at "run"
      refine ⟨_, isR_lst, rfl, szl (by cases e <;> simp [Nd.nx]), fun _ _ => isR_lst, fun a ha => ⟨_, by walk_at "put", fun X1 inn L acc => ?_⟩, fun p => ?_⟩
      · have st1 := inn.st
        walk_at "run"
        exact ⟨rfl, rfl⟩
      · walk_at "run"
        refine md_update st (by walk_at "at") (ps := e.nx.map fun (n : Nat) => ((.inl (n : Int) : Key), D.bl true)) ?_ ?_ ?_
        · rw [List.map_map]
          exact isL_ref .here
        · have h1 := hl.len
          have h2 := hp.len
          have h3 : e.nx.length ≤ 2 := by cases e <;> simp [Nd.nx]
          rw [List.length_map]
          exact szl (by omega)
        · refine ⟨[_], _, .refl _, wss_nil ?_⟩
          refine ⟨nx ++ [e], _, c3, _, _, _, _, hp.step he1 he2, hl.step, tp3.mono (by omega), rfl, ?_⟩
          simp
  · rintro Γ' M' ⟨nx, kvs, c', o1, o2, o3, o4, hp, hl, tp', rfl, rfl⟩
    rw [rngD_length, Int.toNat_natCast] at hp tp'
    walk_at "ret"
    refine we_fin ?_
    walk_at "run"
    exact ⟨_, _, [_], _, rfl, .swap _ _ _, hQ _ _ (NxOk.of hp) tp'⟩
end
end Gen

namespace Gen
open PySem L2 DL Wk
abbrev s_law_number : Stmt := top 26
abbrev l_law_number : List Str := ["_law_tape_here"]
abbrev n_law_number : List Str := ["_law_tape_here"]
theorem sc_law_number : FnScope n_law_number ["_law_tape_here"] (defScope s_law_number) := ⟨rfl, rfl, rfl, by decide +kernel, rfl, by decide +kernel, by decide +kernel⟩
section
variable {P : Program} {w : World} {K : PySem.W.Frag} {mg : Str → Option Value} {base : Heap}
abbrev sp_law_number : DSp := fun ds M Q => ∃ (t : Addr) (N : Nat) (c : Cell) (f : Cell → Mem), ds = [.ref t] ∧ At t M c f ∧ Tape N c ∧ N ≤ 500000000 ∧ ∀ n c', -1000000000000 ≤ n → n ≤ 1000000000000 → Tape (N + 3) c' → Q (.int n) (f c')
theorem ok_law_number {f : Addr} {fd : FuncData} (F : Fun K "_law_number" "_law_number" s_law_number f fd) (hm : mg "_law_number" = some (.ref f)) (hb : Binds K fd ["_law_tape_here"] []) (h_law_draw : Fs P w K mg base 1 "_law_draw" 2 sp_law_draw) : Fs P w K mg base 2 "_law_number" 1 sp_law_number := by
  refine fs_of (N := n_law_number) (Ln := l_law_number) (Bn := []) (Fn := ["_law_draw"]) (Bx := []) F hm hb sc_law_number rfl (by decide +kernel) (fun _ h => by cases h) ?_
  rintro X ds M Q bod ⟨t, N, c, f, rfl, hat, tp, hN, hQ⟩
  have st := bod.st
  have rm := bod.room
  have hd := bod.tr h_law_draw
  show WSs X ([("_law_tape_here", some (.ref t))] : VEnv) M _ _
  walk_at "ret"
  walk_at "run"
  refine od_pow (cm_pow (by omega) (by omega) (by omega) (by omega)) ?_
  walk_at "run"
  refine od_pow (cm_pow (by omega) (by omega) (by omega) (by omega)) ?_
  walk_at "run"
  walk_at "draw"
  intro r1 c1 a1 b1 tp1
  have at1 := hat.put c1
  walk_at "run"
  refine od_pow (cm_pow (by omega) (by omega) (by omega) (by omega)) ?_
  walk_at "run"
  refine ⟨_, _, _, _, _, rfl, by walk_at "at", tp1, by omega, by decide, by decide, ?_⟩
  intro r2 c2 a2 b2 tp2
  have at2 := hat.put c2
  walk_at "run"
  walk_at "draw"
  intro r3 c3 a3 b3 tp3
  obtain ⟨d, e1, e2⟩ := atI_mem (ds := [D.int 0, D.int 1, D.int (-1), D.int 7, D.int (10 ^ (12 : Int).toNat), D.int (0 - 10 ^ (12 : Int).toNat), D.int (r1 - 49), D.int r2]) a3 (by simpa using b3)
  refine ⟨_, d, rfl, IxD.list isR_lst e1, ?_⟩
  have hp : (10 : Int) ^ (12 : Int).toNat = 1000000000000 := by decide
  have hp6 : (10 : Int) ^ (6 : Int).toNat = 1000000 := by decide
  rw [hp6] at b2
  have : ∃ n : Int, d = .int n ∧ -1000000000000 ≤ n ∧ n ≤ 1000000000000 := by
    simp only [List.mem_cons, List.not_mem_nil, or_false, hp] at e2
    rcases e2 with rfl | rfl | rfl | rfl | rfl | rfl | rfl | rfl <;> exact ⟨_, rfl, by omega, by omega⟩
  obtain ⟨n, rfl, q1, q2⟩ := this
  exact hQ n c3 q1 q2 tp3
end
end Gen

namespace Gen
open PySem L2 DL Wk
abbrev s_law_deeds : Stmt := top 27
abbrev l_law_deeds : List Str := ["_law_tape_here", "_law_most", "_law_boxes_here", "_law_first", "_law_works", "_law_found", "_law_turn", "_law_way", "_law_n", "_law_box", "_law_other", "_law_called"]
abbrev n_law_deeds : List Str := ["_law_tape_here", "_law_most", "_law_boxes_here", "_law_first", "_law_works", "_law_found", "_law_turn", "_law_way", "_law_n", "_law_box", "_law_other", "_law_called"]
theorem sc_law_deeds : FnScope n_law_deeds ["_law_tape_here", "_law_most", "_law_boxes_here", "_law_first", "_law_works"] (defScope s_law_deeds) := ⟨rfl, rfl, rfl, by decide +kernel, rfl, by decide +kernel, by decide +kernel⟩
section
variable {P : Program} {w : World} {K : PySem.W.Frag} {mg : Str → Option Value} {base : Heap}
/-- the plain part of a list of deeds -/
structure DdsOk (nw m : Nat) (dd : List Dd) : Prop where
  ok : ∀ d ∈ dd, d.Ok nw
  plain : ∀ d ∈ dd, d.plain = true
  len : dd.length ≤ m
theorem DdsOk.push {nw m : Nat} {dd : List Dd} {d : Dd} (h : DdsOk nw m dd) (h1 : d.Ok nw) (h2 : d.plain = true) : DdsOk nw (m + 1) (dd ++ [d]) := by
  refine ⟨fun x hx => ?_, fun x hx => ?_, by have := h.len; simp; omega⟩
  · rcases List.mem_append.mp hx with hx | hx
    · exact h.ok _ hx
    · rw [List.mem_singleton.mp hx]; exact h1
  · rcases List.mem_append.mp hx with hx | hx
    · exact h.plain _ hx
    · rw [List.mem_singleton.mp hx]; exact h2
abbrev sp_law_deeds : DSp := fun ds M Q => ∃ (t : Addr) (N : Nat) (c : Cell) (f : Cell → Mem) (most nw first : Nat) (bs : List Nat), ds = [.ref t, .int (most : Int), .lst (bs.map natD), .int (first : Int), .int (nw : Int)] ∧ At t M c f ∧ Tape N c ∧ N ≤ 100000000 ∧ most ≤ 12 ∧ (1 ≤ nw ∧ nw ≤ 100) ∧ (bs ≠ [] ∧ bs.length ≤ 8 ∧ ∀ b ∈ bs, b < 8) ∧
  ∀ dd c', DdsOk nw 12 dd → Tape (N + 110) c' → Q (.lst (dd.map Dd.d)) (f c')
theorem ok_law_deeds {f : Addr} {fd : FuncData} (F : Fun K "_law_deeds" "_law_deeds" s_law_deeds f fd) (hm : mg "_law_deeds" = some (.ref f)) (hb : Binds K fd ["_law_tape_here", "_law_most", "_law_boxes_here", "_law_first", "_law_works"] []) (hB : ∀ x ∈ (["range", "int", "len"] : List Str), mg x = none) (h_law_draw : Fs P w K mg base 1 "_law_draw" 2 sp_law_draw) (h_law_number : Fs P w K mg base 2 "_law_number" 1 sp_law_number) : Fs P w K mg base 3 "_law_deeds" 5 sp_law_deeds := by
  refine fs_of (N := n_law_deeds) (Ln := l_law_deeds) (Bn := ["range", "int", "len"]) (Fn := ["_law_draw", "_law_number"]) (Bx := ["range", "int", "len"]) F hm hb sc_law_deeds rfl (by decide +kernel) hB ?_
  rintro X ds M Q bod ⟨t, N, c, f, most, nw, first, bs, rfl, hat, tp, hN, hm, ⟨hw1, hw2⟩, ⟨hb0, hb1, hb2⟩, hQ⟩
  have st := bod.st
  have rm := bod.room
  have hd := bod.tr h_law_draw
  have hn := bod.tr h_law_number
  have hbl : 0 < bs.length := List.length_pos_iff.mpr hb0
  have box : ∀ r : Int, 0 ≤ r → r < ((bs.map natD).length : Int) → ∃ b : Nat, atI (bs.map natD) r = some (.int (b : Int)) ∧ b < 8 := fun r h0 h1 => by
    obtain ⟨d, e1, e2⟩ := atI_mem h0 h1
    obtain ⟨b, hb, rfl⟩ := List.mem_map.mp e2
    exact ⟨b, e1, hb2 b hb⟩
  show WSs X ([("_law_tape_here", some (.ref t)), ("_law_most", some (.int (most : Int))), ("_law_boxes_here", some (.lst (bs.map natD))), ("_law_first", some (.int (first : Int))), ("_law_works", some (.int (nw : Int))), ("_law_found", none), ("_law_turn", none), ("_law_way", none), ("_law_n", none), ("_law_box", none), ("_law_other", none), ("_law_called", none)] : VEnv) M _ _
  walk_at "set"
  refine we_lstO ?_
  walk_at "run"
  intro pf
  walk_at "run"
  refine wss_cons (ws_for st (wi_range st (by walk_at "mem") ?_))
  walk_at "run"
  walk_at "draw"
  intro r1 c1 a1 b1 tp1
  have at1 := hat.put c1
  walk_at "run"
  refine ⟨_, _, rfl, IxD.list isR_lst atI_two, ?_⟩
  have hcap : ∃ z : Nat, z ≤ 12 ∧ (if r1 = 0 then D.int 12 else D.int (most : Int)) = .int (z : Int) := by
    split
    · exact ⟨12, by omega, rfl⟩
    · exact ⟨most, hm, rfl⟩
  obtain ⟨z, hz, ez⟩ := hcap
  rw [ez]
  walk_at "run"
  walk_at "draw"
  intro cnt c2 a2 b2 tp2
  refine ⟨_, rfl, by omega, by omega, fun i Γ' M' => ∃ (dd : List Dd) (c' : Cell) (o1 o2 o3 o4 o5 o6 : Option D), DdsOk nw i dd ∧ i ≤ 12 ∧ Tape (N + 2 + 9 * i) c' ∧ Γ' = ([("_law_tape_here", some (.ref t)), ("_law_most", some (.int (most : Int))), ("_law_boxes_here", some (.lst (bs.map natD))), ("_law_first", some (.int (first : Int))), ("_law_works", some (.int (nw : Int))), ("_law_found", some (.ref pf)), ("_law_turn", o1), ("_law_way", o2), ("_law_n", o3), ("_law_box", o4), ("_law_other", o5), ("_law_called", o6)] : VEnv) ∧ M' = (pf, .lst (dd.map Dd.d)) :: f c', ?_, ?_, ?_, ?_⟩
  · exact ⟨[], c2, _, _, _, _, _, _, ⟨by simp, by simp, by simp⟩, by omega, tp2, rfl, rfl⟩
  · intros; trivial
  · rintro i x Γ' M' hx ⟨dd, c3, o1, o2, o3, o4, o5, o6, hdd, hi12, tp3, rfl, rfl⟩
    obtain ⟨hi, rfl⟩ := rngD_inv hx
    have hi : i < 12 := by omega
    refine wg_name st (by walk_at "mem") (by walk_at "put") ?_
    have at3 := hat.put c3
    refine wss_cons (ws_par st (by walk_at "mem") (by walk_at "mem") (bod.lk (by decide +kernel)) (bod.lk (by decide +kernel)) bod.kind (by decide) (by walk_at "put") (by walk_at "put") ?_)
    walk_at "run"
    walk_at "draw"
    intro way c4 a4 b4 tp4
    have at4 := hat.put c4
    walk_at "run"
    refine ⟨_, _, _, _, rfl, by walk_at "at", tp4, by omega, ?_⟩
    intro n c5 a5 b5 tp5
    have at5 := hat.put c5
    walk_at "run"
    refine ⟨_, _, _, _, rfl, by walk_at "put", by walk_at "put", ?_⟩
    walk_at "set"
    walk_at "run"
    refine ⟨_, _, _, _, _, rfl, by walk_at "at", tp5, by omega, by simp; omega, by simp; omega, ?_⟩
    intro r6 c6 a6 b6 tp6
    have at6 := hat.put c6
    obtain ⟨b, eb, hb⟩ := box r6 a6 b6
    refine ⟨_, _, rfl, IxD.list isR_lst eb, ?_⟩
    walk_at "run"
    walk_at "set"
    walk_at "run"
    refine ⟨_, _, _, _, _, rfl, by walk_at "at", tp6, by omega, by simp; omega, by simp; omega, ?_⟩
    intro r7 c7 a7 b7 tp7
    have at7 := hat.put c7
    obtain ⟨o, eo, ho⟩ := box r7 a7 b7
    refine ⟨_, _, rfl, IxD.list isR_lst eo, ?_⟩
    walk_at "run"
    walk_at "set"
    walk_at "run"
    walk_at "draw"
    intro r8 c8 a8 b8 tp8
    have at8 := hat.put c8
    walk_at "run"
    walk_at "draw"
    intro r9 c9 a9 b9 tp9
    have at9 := hat.put c9
    walk_at "run"
    walk_at "draw"
    intro r10 c10 a10 b10 tp10
    have at10 := hat.put c10
    walk_at "run"
    refine ⟨_, _, rfl, IxD.list isR_lst atI_two, ?_⟩
    have hcall : ∃ z : Nat, (if r10 = 0 then D.int r9 else D.int ((first : Int) + 1 + r8)) = .int (z : Int) := by
      obtain ⟨k8, rfl⟩ := Int.eq_ofNat_of_zero_le a8
      obtain ⟨k9, rfl⟩ := Int.eq_ofNat_of_zero_le a9
      split
      · exact ⟨k9, rfl⟩
      · exact ⟨first + 1 + k8, by simp⟩
    obtain ⟨cz, ecz⟩ := hcall
    rw [ecz]
    walk_at "run"
    refine wss_one (ws_if ?_)
    have push : ∀ d : Dd, d.Ok nw → d.plain = true → ∃ (dd2 : List Dd) (c' : Cell) (o1 o2 o3 o4 o5 o6 : Option D), DdsOk nw (i + 1) dd2 ∧ i + 1 ≤ 12 ∧ Tape (N + 2 + 9 * (i + 1)) c' ∧ ([("_law_tape_here", some (.ref t)), ("_law_most", some (.int (most : Int))), ("_law_boxes_here", some (.lst (bs.map natD))), ("_law_first", some (.int (first : Int))), ("_law_works", some (.int (nw : Int))), ("_law_found", some (.ref pf)), ("_law_turn", some (.int (0 + i))), ("_law_way", some (.int way)), ("_law_n", some (.int n)), ("_law_box", some (.int (b : Int))), ("_law_other", some (.int (o : Int))), ("_law_called", some (.int (cz : Int)))] : VEnv) = ([("_law_tape_here", some (.ref t)), ("_law_most", some (.int (most : Int))), ("_law_boxes_here", some (.lst (bs.map natD))), ("_law_first", some (.int (first : Int))), ("_law_works", some (.int (nw : Int))), ("_law_found", some (.ref pf)), ("_law_turn", o1), ("_law_way", o2), ("_law_n", o3), ("_law_box", o4), ("_law_other", o5), ("_law_called", o6)] : VEnv) ∧ (pf, Cell.lst (List.map Dd.d (dd ++ [d]))) :: f c10 = (pf, .lst (dd2.map Dd.d)) :: f c' := fun d h1 h2 =>
      ⟨dd ++ [d], c10, _, _, _, _, _, _, hdd.push h1 h2, by omega, tp10.mono (by omega), rfl, rfl⟩
    have els : ∀ E : DE, E.nx = (fun Γ' M' => ∃ (dd : List Dd) (c' : Cell) (o1 o2 o3 o4 o5 o6 : Option D), DdsOk nw (i + 1) dd ∧ i + 1 ≤ 12 ∧ Tape (N + 2 + 9 * (i + 1)) c' ∧ Γ' = ([("_law_tape_here", some (.ref t)), ("_law_most", some (.int (most : Int))), ("_law_boxes_here", some (.lst (bs.map natD))), ("_law_first", some (.int (first : Int))), ("_law_works", some (.int (nw : Int))), ("_law_found", some (.ref pf)), ("_law_turn", o1), ("_law_way", o2), ("_law_n", o3), ("_law_box", o4), ("_law_other", o5), ("_law_called", o6)] : VEnv) ∧ M' = (pf, .lst (dd.map Dd.d)) :: f c') →
      WSs X ([("_law_tape_here", some (.ref t)), ("_law_most", some (.int (most : Int))), ("_law_boxes_here", some (.lst (bs.map natD))), ("_law_first", some (.int (first : Int))), ("_law_works", some (.int (nw : Int))), ("_law_found", some (.ref pf)), ("_law_turn", some (.int (0 + i))), ("_law_way", some (.int way)), ("_law_n", some (.int n)), ("_law_box", some (.int (b : Int))), ("_law_other", some (.int (o : Int))), ("_law_called", some (.int (cz : Int)))] : VEnv) ((pf, .lst (dd.map Dd.d)) :: f c10) (match (defBody s_law_deeds).getD 1 (.Pass ⟨0, 0, 0, 0⟩) with | .For _ _ b _ _ => (match b.getD 4 (.Pass ⟨0, 0, 0, 0⟩) with | .If _ _ e _ => e | _ => []) | _ => []) E := fun E hE => by
      walk_at "expr"
      walk_at "run"
      have hw3 : atI [D.tup [D.str "set", D.int (b : Int), D.int n], D.tup [D.str "add", D.int (b : Int), D.int (o : Int)], D.tup [D.str "tell", D.int (b : Int)]] (way % 3) = some (if way % 3 = 0 then (Dd.set b n).d else if way % 3 = 1 then (Dd.add b o).d else (Dd.tell b).d) := by
        rcases (by omega : way % 3 = 0 ∨ way % 3 = 1 ∨ way % 3 = 2) with h | h | h <;> rw [h] <;> simp [atI, ixN, Dd.d]
      refine ⟨_, _, rfl, IxD.list isR_lst hw3, ?_⟩
      walk_at "run"
      refine md_append (by walk_at "at") ?_ ?_
      · exact szlt (by have := hdd.len; rw [List.length_map]; omega)
      refine wss_nil ?_
      rw [hE]
      have e3 : ∃ d : Dd, d.Ok nw ∧ d.plain = true ∧ (if way % 3 = 0 then (Dd.set b n).d else if way % 3 = 1 then (Dd.add b o).d else (Dd.tell b).d) = d.d := by
        split
        · exact ⟨Dd.set b n, ⟨hb, a5, b5⟩, rfl, rfl⟩
        · split
          · exact ⟨Dd.add b o, ⟨hb, ho⟩, rfl, rfl⟩
          · exact ⟨Dd.tell b, hb, rfl, rfl⟩
      obtain ⟨d, d1, d2, d3⟩ := e3
      rw [d3]
      have := push d d1 d2
      rw [List.map_append] at this
      exact this
    walk_at "run"
    refine ite_d (fun h1 => ?_) (fun h1 => ?_)
    · walk_at "run"
      refine ite_d (fun h2 => ?_) (fun h2 => ?_)
      · walk_at "expr"
        walk_at "run"
        refine md_append (by walk_at "at") ?_ ?_
        · exact szlt (by have := hdd.len; rw [List.length_map]; omega)
        refine wss_nil ?_
        have := push (.call cz) (show cz < nw by omega) rfl
        rw [List.map_append] at this
        exact this
      · exact els _ rfl
    · exact els _ rfl
  · rintro Γ' M' ⟨dd, c', o1, o2, o3, o4, o5, o6, hdd, hi12, tp', rfl, rfl⟩
    rw [rngD_length] at hdd hi12 tp'
    walk_at "ret"
    refine we_fin ?_
    walk_at "run"
    exact ⟨_, _, [], _, rfl, .refl _, hQ _ _ ⟨hdd.ok, hdd.plain, by have := hdd.len; omega⟩ (tp'.mono (by omega))⟩
end
end Gen

namespace Gen
open PySem L2 DL Wk
abbrev s_law_work : Stmt := top 28
abbrev l_law_work : List Str := ["_law_tape_here", "_law_many", "_law_most", "_law_first", "_law_works", "_law_left", "_law_size", "_law_boxes_here", "_law_found", "_law_there", "_law_end"]
abbrev n_law_work : List Str := ["_law_tape_here", "_law_many", "_law_most", "_law_first", "_law_works", "_law_left", "_law_size", "_law_boxes_here", "_law_found", "_law_there", "_law_end", "_law_k"]
theorem sc_law_work : FnScope n_law_work ["_law_tape_here", "_law_many", "_law_most", "_law_first", "_law_works"] (defScope s_law_work) := ⟨rfl, rfl, rfl, by decide +kernel, rfl, by decide +kernel, by decide +kernel⟩
section
variable {P : Program} {w : World} {K : PySem.W.Frag} {mg : Str → Option Value} {base : Heap}
/-- a work whose ends are drawn, with its deeds -/
structure GotOk (nw : Nat) (w : W) : Prop where
  dd : ∀ b ∈ w, DdsOk nw 12 b.1
theorem Ok.of_got {nw m : Nat} {w : W} {nx : List Nd} (h : GotOk nw w) (hm : 1 ≤ m) (hm2 : m ≤ 16) (hx : NxOk m nx) (e : w.map (·.2) = nx) : Ok nw w ∧ Plain w ∧ w.length = m := by
  have hl : w.length = m := by have := hx.len; rw [← e, List.length_map] at this; exact this
  refine ⟨⟨by omega, by omega, fun b hb => (h.dd b hb).ok, fun b hb => Nat.le_trans (h.dd b hb).len (by omega), fun b hb => ?_, fun j h1 h2 => ?_⟩, fun b hb => ⟨(h.dd b hb).plain, (h.dd b hb).len⟩, hl⟩
  · rw [hl]
    exact hx.ok _ (by rw [← e]; exact List.mem_map.mpr ⟨b, hb, rfl⟩)
  · obtain ⟨i, e', q1, q2, q3⟩ := hx.led j h1 (by omega)
    rw [← e, List.getElem?_map] at q2
    obtain ⟨b, hb, rfl⟩ := Option.map_eq_some_iff.mp q2
    exact ⟨i, b, q1, hb, q3⟩
abbrev sp_law_work : DSp := fun ds M Q => ∃ (t : Addr) (N : Nat) (c : Cell) (f : Cell → Mem) (m most first nw : Nat), ds = [.ref t, .int (m : Int), .int (most : Int), .int (first : Int), .int (nw : Int)] ∧ At t M c f ∧ Tape N c ∧ N ≤ 50000000 ∧ (1 ≤ m ∧ m ≤ 16) ∧ most ≤ 12 ∧ (1 ≤ nw ∧ nw ≤ 100) ∧
  ∀ w c' p, Ok nw w → Plain w → w.length = m → Tape (N + 2000) c' → Q (.ref p) ((p, .lst (w.map Bk.d)) :: f c')
theorem ok_law_work {f : Addr} {fd : FuncData} (F : Fun K "_law_work" "_law_work" s_law_work f fd) (hm : mg "_law_work" = some (.ref f)) (hb : Binds K fd ["_law_tape_here", "_law_many", "_law_most", "_law_first", "_law_works"] []) (hB : ∀ x ∈ (["list", "range", "len"] : List Str), mg x = none) (h_law_draw : Fs P w K mg base 1 "_law_draw" 2 sp_law_draw) (h_law_nexts : Fs P w K mg base 2 "_law_nexts" 2 sp_law_nexts) (h_law_deeds : Fs P w K mg base 3 "_law_deeds" 5 sp_law_deeds) : Fs P w K mg base 4 "_law_work" 5 sp_law_work := by
  refine fs_of (N := n_law_work) (Ln := l_law_work) (Bn := ["list", "range", "len"]) (Fn := ["_law_draw", "_law_nexts", "_law_deeds"]) (Bx := ["list", "range", "len"]) F hm hb sc_law_work rfl (by decide +kernel) hB ?_
  rintro X ds M Q bod ⟨t, N, c, f, m, most, first, nw, rfl, hat, tp, hN, ⟨hm1, hm2⟩, hmo, ⟨hw1, hw2⟩, hQ⟩
  have st := bod.st
  have rm := bod.room
  have hd := bod.tr h_law_draw
  have hn := bod.tr h_law_nexts
  have he := bod.tr h_law_deeds
  show WSs X ([("_law_tape_here", some (.ref t)), ("_law_many", some (.int (m : Int))), ("_law_most", some (.int (most : Int))), ("_law_first", some (.int (first : Int))), ("_law_works", some (.int (nw : Int))), ("_law_left", none), ("_law_size", none), ("_law_boxes_here", none), ("_law_found", none), ("_law_there", none), ("_law_end", none), ("_law_k", none)] : VEnv) M _ _
  walk_at "set"
  refine we_listRngO st (by walk_at "mem") (by walk_at "mem") ?_ (by walk_at "unf")
  walk_at "run"
  refine ⟨by omega, by omega, fun pl => ?_⟩
  walk_at "run"
  walk_at "set"
  walk_at "run"
  walk_at "draw"
  intro r1 c1 a1 b1 tp1
  have at1 := hat.put c1
  have hcap : ∃ z : Nat, 1 ≤ z ∧ z ≤ 8 ∧ atI [D.int 3, D.int 3, D.int 8] r1 = some (.int (z : Int)) := by
    rcases (by omega : r1 = 0 ∨ r1 = 1 ∨ r1 = 2) with h | h | h <;> subst h
    · exact ⟨3, by omega, by omega, rfl⟩
    · exact ⟨3, by omega, by omega, rfl⟩
    · exact ⟨8, by omega, by omega, rfl⟩
  obtain ⟨z, hz1, hz2, ez⟩ := hcap
  refine ⟨_, _, rfl, IxD.list isR_lst ez, ?_⟩
  walk_at "run"
  walk_at "draw"
  intro r2 c2 a2 b2 tp2
  have at2 := hat.put c2
  obtain ⟨sz, rfl⟩ := Int.eq_ofNat_of_zero_le a2
  walk_at "run"
  refine wss_cons (ws_setSt (j := 7) [("_law_k", 11)] ["_law_k", "_law_left", "_law_tape_here"] ["len"] ["_law_draw"] bod (by decide +kernel) (by walk_at "mem") (by walk_at "wiped") (by walk_at "mem") (by decide +kernel) rfl (by decide +kernel) ?_)
  refine wi_range st (by walk_at "mem") ?_
  walk_at "run"
  refine ⟨by omega, by omega, fun i acc M' => ∃ (bs rest : List Nat) (c' : Cell), bs.length = i ∧ bs.length + rest.length = 8 ∧ (∀ b ∈ bs, b < 8) ∧ (∀ b ∈ rest, b < 8) ∧ acc = bs.map natD ∧ Tape (N + 2 + i) c' ∧ M' = (pl, .lst (rest.map natD)) :: f c', ?_, ?_, ?_, ?_⟩
  · exact ⟨[], [0, 1, 2, 3, 4, 5, 6, 7], c2, rfl, rfl, by simp, by simp, rfl, tp2, rfl⟩
  · intros; trivial
  · rintro i d acc M' hx ⟨bs, rest, c', hbl, hbr, hb1, hb2, rfl, tp', rfl⟩
    obtain ⟨hi, rfl⟩ := rngD_inv hx
    have hi : i < 1 + sz := by omega
    have at3 := hat.put c'
    refine ⟨szlt (by rw [List.length_map]; omega), _, by walk_at "put", fun X1 inn L => ?_⟩
    have st1 := inn.st
    have hd1 := inn.tr hd
    have rm1 := inn.rm rm
    walk_at "run"
    refine ⟨_, _, _, _, _, rfl, by walk_at "at", tp', by omega, by simp; omega, by simp; omega, ?_⟩
    intro r3 c3 a3 b3 tp3
    have at4 := hat.put c3
    walk_at "run"
    obtain ⟨k3, rfl⟩ := Int.eq_ofNat_of_zero_le a3
    have hk3 : k3 < rest.length := by simpa using b3
    refine md_popAt (by walk_at "at") (by omega) (by omega) (d := natD rest[k3]) (by simp [hk3]) ?_
    refine ⟨_, rfl, bs ++ [rest[k3]], rest.eraseIdx k3, c3, by simp [hbl], ?_, ?_, ?_, ?_, tp3, ?_⟩
    · have := List.length_eraseIdx_of_lt hk3
      simp
      omega
    · intro b hb
      rcases List.mem_append.mp hb with hb | hb
      · exact hb1 b hb
      · rw [List.mem_singleton.mp hb]; exact hb2 _ (List.getElem_mem hk3)
    · exact fun b hb => hb2 b (List.mem_of_mem_eraseIdx hb)
    · simp
    · rw [Int.toNat_natCast, map_erase]
  · rintro acc M' ⟨bs, rest, c', hbl, hbr, hb1, hb2, rfl, tp', rfl⟩ pb
    rw [rngD_length] at hbl tp'
    have at3 := hat.put c'
    walk_at "put!"
    refine wss_frz (by walk_at "look") (by walk_at "put") st (by walk_at "mem") ?_
    walk_at "set"
    refine we_lstO ?_
    walk_at "run"
    intro pf
    walk_at "run"
    refine wss_cons (ws_for st (wi_list ?_))
    walk_at "run"
    refine ⟨_, _, _, _, _, rfl, by walk_at "at", tp', by omega, hm1, hm2, ?_⟩
    intro nx c4 hnx tp4
    refine ⟨_, isR_lst, fun i Γ' M' => ∃ (w : W) (c' : Cell) (o1 o2 : Option D), GotOk nw w ∧ w.map (·.2) = nx.take i ∧ Tape (N + 50 + 110 * i) c' ∧ Γ' = ([("_law_tape_here", some (.ref t)), ("_law_many", some (.int (m : Int))), ("_law_most", some (.int (most : Int))), ("_law_first", some (.int (first : Int))), ("_law_works", some (.int (nw : Int))), ("_law_left", some (.ref pl)), ("_law_size", some (.int (1 + (sz : Int)))), ("_law_boxes_here", some (.lst (bs.map natD))), ("_law_found", some (.ref pf)), ("_law_there", o1), ("_law_end", o2), ("_law_k", none)] : VEnv) ∧ M' = (pf, .lst (w.map Bk.d)) :: (pl, .lst (rest.map natD)) :: f c', ?_, ?_, ?_, ?_⟩
    · exact ⟨[], c4, _, _, ⟨by simp⟩, by simp, tp4.mono (by omega), rfl, rfl⟩
    · exact fun _ _ _ _ => isR_lst
    · rintro i x Γ' M' hx ⟨w, c5, o1, o2, hgot, hends, tp5, rfl, rfl⟩
      rw [List.getElem?_map] at hx
      obtain ⟨e, he1, rfl⟩ := Option.map_eq_some_iff.mp hx
      have hi : i < nx.length := (List.getElem?_eq_some_iff.mp he1).1
      have hnl := hnx.len
      have hwl : w.length = i := by have := congrArg List.length hends; simp at this; omega
      refine wg_name st (by walk_at "mem") (by walk_at "put") ?_
      have at5 := hat.put c5
      refine ws_mid (fun Γ' M' => Γ' = ([("_law_tape_here", some (.ref t)), ("_law_many", some (.int (m : Int))), ("_law_most", some (.int (most : Int))), ("_law_first", some (.int (first : Int))), ("_law_works", some (.int (nw : Int))), ("_law_left", some (.ref pl)), ("_law_size", some (.int (1 + (sz : Int)))), ("_law_boxes_here", some (.lst (bs.map natD))), ("_law_found", some (.ref pf)), ("_law_there", some (nlD e.nx)), ("_law_end", some e.d), ("_law_k", none)] : VEnv) ∧ M' = (pf, .lst (w.map Bk.d)) :: (pl, .lst (rest.map natD)) :: f c5) (ws_set st (by walk_at "mem") ?_ (by walk_at "unf")) ?_
      · walk_at "run"
        refine od_eqNL (b := []) st ?_
        walk_at "run"
        refine ite_d (fun h => ?_) (fun h => ?_)
        · have he0 : e = .out := by cases e <;> first | rfl | cases h
          subst he0
          walk_at "run"
          exact ⟨rfl, rfl⟩
        · refine we_if ?_
          walk_at "run"
          refine ite_d (fun h1 => ?_) (fun h1 => ?_)
          · have he1 : ∃ a, e = .go a := by
              cases e with
              | out => exact absurd rfl h
              | go a => exact ⟨a, rfl⟩
              | fork a b => simp [Nd.nx, natD] at h1
            obtain ⟨a, rfl⟩ := he1
            walk_at "run"
            exact ⟨rfl, rfl⟩
          · have he1 : ∃ a b, e = .fork a b := by
              cases e with
              | out => exact absurd rfl h
              | go a => simp [Nd.nx, natD] at h1
              | fork a b => exact ⟨a, b, rfl⟩
            obtain ⟨a, b, rfl⟩ := he1
            walk_at "run"
            exact ⟨rfl, rfl⟩
      · rintro Γ' M' ⟨rfl, rfl⟩
        walk_at "expr"
        walk_at "run"
        refine ⟨_, _, _, _, most, nw, first, bs, rfl, by walk_at "at", tp5, by omega, hmo, ⟨hw1, hw2⟩, ⟨by intro h; subst h; simp at hbl; omega, by omega, hb1⟩, ?_⟩
        intro dd c6 hdd tp6
        walk_at "run"
        refine md_append (by walk_at "at") ?_ ?_
        · exact szlt (by rw [List.length_map]; omega)
        refine wss_nil ?_
        refine ⟨w ++ [(dd, e)], c6, _, _, ⟨fun b hb => ?_⟩, ?_, tp6.mono (by omega), rfl, ?_⟩
        · rcases List.mem_append.mp hb with hb | hb
          · exact hgot.dd b hb
          · rw [List.mem_singleton.mp hb]; exact hdd
        · rw [List.map_append, hends, List.take_add_one, he1]; rfl
        · rw [List.map_append]; rfl
    · rintro Γ' M' ⟨w, c5, o1, o2, hgot, hends, tp5, rfl, rfl⟩
      rw [List.length_map, List.take_length] at hends
      rw [List.length_map, hnx.len] at tp5
      obtain ⟨q1, q2, q3⟩ := Ok.of_got hgot hm1 hm2 hnx hends
      walk_at "ret"
      refine we_finO ?_
      walk_at "run"
      exact ⟨_, _, [_], _, rfl, .swap _ _ _, hQ _ _ _ q1 q2 q3 (tp5.mono (by omega))⟩
end
end Gen

namespace Gen
open PySem L2 DL Wk
abbrev s_law_small_works : Stmt := top 29
abbrev l_law_small_works : List Str := ["_law_tape_here", "_law_most", "_law_works", "_law_found", "_law_first", "_law_many"]
abbrev n_law_small_works : List Str := ["_law_tape_here", "_law_most", "_law_works", "_law_found", "_law_first", "_law_many"]
theorem sc_law_small_works : FnScope n_law_small_works ["_law_tape_here", "_law_most"] (defScope s_law_small_works) := ⟨rfl, rfl, rfl, by decide +kernel, rfl, by decide +kernel, by decide +kernel⟩
section
variable {P : Program} {w : World} {K : PySem.W.Frag} {mg : Str → Option Value} {base : Heap}
abbrev sp_law_small_works : DSp := fun ds M Q => ∃ (t : Addr) (N : Nat) (c : Cell) (f : Cell → Mem) (most : Nat), ds = [.ref t, .int (most : Int)] ∧ At t M c f ∧ Tape N c ∧ N ≤ 10000000 ∧ most ≤ 12 ∧
  ∀ ws c', WsOk ws → (∀ w ∈ ws, Plain w) → (∀ w ∈ ws, w.length ≤ 10) → Tape (N + 30000) c' → Q (.lst (ws.map W.d)) (f c')
theorem ok_law_small_works {f : Addr} {fd : FuncData} (F : Fun K "_law_small_works" "_law_small_works" s_law_small_works f fd) (hm : mg "_law_small_works" = some (.ref f)) (hb : Binds K fd ["_law_tape_here", "_law_most"] []) (hB : ∀ x ∈ (["range"] : List Str), mg x = none) (h_law_draw : Fs P w K mg base 1 "_law_draw" 2 sp_law_draw) (h_law_work : Fs P w K mg base 4 "_law_work" 5 sp_law_work) : Fs P w K mg base 5 "_law_small_works" 2 sp_law_small_works := by
  refine fs_of (N := n_law_small_works) (Ln := l_law_small_works) (Bn := ["range"]) (Fn := ["_law_draw", "_law_work"]) (Bx := ["range"]) F hm hb sc_law_small_works rfl (by decide +kernel) hB ?_
  rintro X ds M Q bod ⟨t, N, c, f, most, rfl, hat, tp, hN, hmo, hQ⟩
  have st := bod.st
  have rm := bod.room
  have hd := bod.tr h_law_draw
  have he := bod.tr h_law_work
  show WSs X ([("_law_tape_here", some (.ref t)), ("_law_most", some (.int (most : Int))), ("_law_works", none), ("_law_found", none), ("_law_first", none), ("_law_many", none)] : VEnv) M _ _
  refine wss_cons (ws_par st (by walk_at "mem") (by walk_at "mem") (bod.lk (by decide +kernel)) (bod.lk (by decide +kernel)) bod.kind (by decide) (by walk_at "put") (by walk_at "put") ?_)
  walk_at "run"
  walk_at "draw"
  intro r1 c1 a1 b1 tp1
  have at1 := hat.put c1
  obtain ⟨nw, hw1, hw2, ez⟩ : ∃ z : Nat, 1 ≤ z ∧ z ≤ 3 ∧ 1 + r1 = (z : Int) := by
    obtain ⟨k1, rfl⟩ := Int.eq_ofNat_of_zero_le a1
    exact ⟨1 + k1, by omega, by omega, by omega⟩
  refine od_add ?_
  rw [ez]
  walk_at "a1"
  refine we_lstO ?_
  walk_at "run"
  intro pf
  walk_at "run"
  refine ⟨_, _, _, _, rfl, by walk_at "put", by walk_at "put", ?_⟩
  refine wss_cons (ws_for st (wi_range st (by walk_at "mem") ?_))
  walk_at "run"
  refine ⟨by omega, by omega, fun i Γ' M' => ∃ (cs : List W) (c' : Cell) (o1 o2 : Option D), cs.length = i ∧ i ≤ nw ∧ (∀ c ∈ cs, Ok nw c ∧ Plain c ∧ c.length ≤ 10) ∧ Tape (N + 3 + 2010 * i) c' ∧ Γ' = ([("_law_tape_here", some (.ref t)), ("_law_most", some (.int (most : Int))), ("_law_works", some (.int (nw : Int))), ("_law_found", some (.ref pf)), ("_law_first", o1), ("_law_many", o2)] : VEnv) ∧ M' = (pf, .lst (cs.map W.d)) :: f c', ?_, ?_, ?_, ?_⟩
  · exact ⟨[], c1, _, _, rfl, by omega, by simp, tp1.mono (by omega), rfl, rfl⟩
  · intros; trivial
  · rintro i x Γ' M' hx ⟨cs, c4, o1, o2, hcl, hi10, hcs, tp4, rfl, rfl⟩
    obtain ⟨hi, rfl⟩ := rngD_inv hx
    have hi : i < nw := by simpa using hi
    refine wg_name st (by walk_at "mem") (by walk_at "put") ?_
    rw [Int.zero_add]
    have at4 := hat.put c4
    walk_at "set"
    walk_at "run"
    refine ⟨_, _, _, _, _, rfl, by walk_at "at", tp4, by omega, by omega, by omega, ?_⟩
    intro r5 c5 a5 b5 tp5
    have at5 := hat.put c5
    have hcap : ∃ z : Int, 1 ≤ z ∧ z ≤ 10 ∧ atI [D.int 4, D.int 10] r5 = some (.int z) := by
      rcases (by omega : r5 = 0 ∨ r5 = 1) with h | h <;> subst h
      · exact ⟨4, by omega, by omega, rfl⟩
      · exact ⟨10, by omega, by omega, rfl⟩
    obtain ⟨z, hz1, hz2, ez⟩ := hcap
    refine ⟨_, _, rfl, IxD.list isR_lst ez, ?_⟩
    walk_at "run"
    refine ⟨_, _, _, _, _, rfl, by walk_at "at", tp5, by omega, by omega, by omega, ?_⟩
    intro r6 c6 a6 b6 tp6
    have at6 := hat.put c6
    obtain ⟨m, hm1, hm2, em⟩ : ∃ m : Nat, 1 ≤ m ∧ m ≤ 10 ∧ 1 + r6 = (m : Int) := by
      obtain ⟨k1, rfl⟩ := Int.eq_ofNat_of_zero_le a6
      exact ⟨1 + k1, by omega, by omega, by omega⟩
    refine od_add ?_
    rw [em]
    walk_at "put!"
    walk_at "expr"
    walk_at "run"
    refine ⟨_, _, _, _, m, most, i, nw, rfl, by walk_at "at", tp6, by omega, ⟨hm1, by omega⟩, hmo, ⟨hw1, by omega⟩, ?_⟩
    intro w c7 p hok hpl hwl tp7
    walk_at "run"
    refine md_frz ?_
    refine md_append (by walk_at "at") ?_ ?_
    · exact szlt (by rw [List.length_map]; omega)
    refine wss_nil ?_
    refine ⟨cs ++ [w], c7, _, _, by simp [hcl], by omega, fun c hc => ?_, tp7.mono (by omega), rfl, ?_⟩
    · rcases List.mem_append.mp hc with hc | hc
      · exact hcs c hc
      · rw [List.mem_singleton.mp hc]; exact ⟨hok, hpl, by omega⟩
    · rw [List.map_append]; rfl
  · rintro Γ' M' ⟨cs, c4, o1, o2, hcl, hi10, hcs, tp4, rfl, rfl⟩
    rw [rngD_length, Int.toNat_natCast] at hcl hi10 tp4
    walk_at "ret"
    refine we_fin ?_
    walk_at "run"
    exact ⟨_, _, [], f c4, rfl, .refl _, hQ _ _ ⟨by omega, by omega, fun w hw => by rw [hcl]; exact (hcs w hw).1⟩ (fun c hc => (hcs c hc).2.1) (fun c hc => (hcs c hc).2.2) (tp4.mono (by omega))⟩
end
end Gen

namespace Gen
open PySem L2 DL Wk
abbrev s_law_ends : Stmt := top 30
abbrev l_law_ends : List Str := ["_law_work_here"]
abbrev n_law_ends : List Str := ["_law_work_here", "_law_deeds_here", "_law_end"]
theorem sc_law_ends : FnScope n_law_ends ["_law_work_here"] (defScope s_law_ends) := ⟨rfl, rfl, rfl, by decide +kernel, rfl, by decide +kernel, by decide +kernel⟩
abbrev s_law_ways : Stmt := top 31
abbrev l_law_ways : List Str := ["_law_work_here", "_law_found", "_law_block", "_law_there"]
abbrev n_law_ways : List Str := ["_law_work_here", "_law_found", "_law_block", "_law_there", "_law_to"]
theorem sc_law_ways : FnScope n_law_ways ["_law_work_here"] (defScope s_law_ways) := ⟨rfl, rfl, rfl, by decide +kernel, rfl, by decide +kernel, by decide +kernel⟩
section
variable {P : Program} {w : World} {K : PySem.W.Frag} {mg : Str → Option Value} {base : Heap}
abbrev sp_law_ends : DSp := fun ds M Q => ∃ (d : D) (w : W), ds = [d] ∧ IsR M d (w.map Bk.d) ∧ (∀ L acc, IsR ((L, .lst acc) :: M) d (w.map Bk.d)) ∧ w.length ≤ 16 ∧ Q (.lst (w.map fun b => nlD b.2.nx)) M
theorem ok_law_ends {f : Addr} {fd : FuncData} (F : Fun K "_law_ends" "_law_ends" s_law_ends f fd) (hm : mg "_law_ends" = some (.ref f)) (hb : Binds K fd ["_law_work_here"] []) (hB : ∀ x ∈ (["list"] : List Str), mg x = none) : Fs P w K mg base 1 "_law_ends" 1 sp_law_ends := by
  refine fs_of (N := n_law_ends) (Ln := l_law_ends) (Bn := []) (Fn := []) (Bx := ["list"]) F hm hb sc_law_ends rfl (by decide +kernel) hB ?_
  rintro X ds M Q bod ⟨d, w, rfl, hd, hst, hl, hQ⟩
  have st := bod.st
  show WSs X ([("_law_work_here", some (d)), ("_law_deeds_here", none), ("_law_end", none)] : VEnv) M _ _
  walk_at "ret"
  refine we_frz ?_
  refine we_mapT2 w (fun b => .lst (b.1.map Dd.d)) (fun b => b.2.d) (fun b => nlD b.2.nx) [("_law_deeds_here", 1), ("_law_end", 2)] ["_law_deeds_here", "_law_end"] ["list"] [] bod (by decide +kernel) (by walk_at "mem") (by walk_at "mem") (by walk_at "wiped") ?_
  refine wi_list ?_
  walk_at "run"
  refine ⟨_, hd, rfl, szl (by omega), hst, fun b hb => ⟨_, _, by walk_at "put", by walk_at "put", fun X1 inn L acc => ?_⟩, fun p => ⟨_, _, _, rfl, rfl, hQ⟩⟩
  have st1 := inn.st
  walk_at "run"
  obtain ⟨ds, e1, e2⟩ := b.2.cut
  refine ⟨_, .inr (.inl ⟨ds, e1, rfl⟩), ?_⟩
  walk_at "run"
  rw [e2]
  refine cd_list (.inr rfl) ?_
  exact ⟨rfl, rfl⟩
abbrev sp_law_ways : DSp := fun ds M Q => ∃ (d : D) (w : W), ds = [d] ∧ IsR M d (w.map Bk.d) ∧ (∀ L acc, IsR ((L, .lst acc) :: M) d (w.map Bk.d)) ∧ w.length ≤ 16 ∧ Q (.lst ((ways w).map pairD)) M
theorem ok_law_ways {f : Addr} {fd : FuncData} (F : Fun K "_law_ways" "_law_ways" s_law_ways f fd) (hm : mg "_law_ways" = some (.ref f)) (hb : Binds K fd ["_law_work_here"] []) (hB : ∀ x ∈ (["enumerate", "sorted", "len", "int"] : List Str), mg x = none) (h_law_ends : Fs P w K mg base 1 "_law_ends" 1 sp_law_ends) : Fs P w K mg base 2 "_law_ways" 1 sp_law_ways := by
  refine fs_of (N := n_law_ways) (Ln := l_law_ways) (Bn := ["enumerate", "sorted", "len", "int"]) (Fn := ["_law_ends"]) (Bx := ["enumerate", "sorted", "len", "int"]) F hm hb sc_law_ways rfl (by decide +kernel) hB ?_
  rintro X ds M Q bod ⟨d, w, rfl, hd, hst, hl, hQ⟩
  have st := bod.st
  have rm := bod.room
  have he := bod.tr h_law_ends
  show WSs X ([("_law_work_here", some (d)), ("_law_found", none), ("_law_block", none), ("_law_there", none), ("_law_to", none)] : VEnv) M _ _
  walk_at "set"
  walk_at "run"
  refine wss_cons (ws_for st (wi_enum st (by walk_at "mem") ?_))
  walk_at "run"
  refine ⟨_, _, rfl, hd, hst, hl, ?_⟩
  refine ⟨_, isR_lst, fun i Γ' M' => ∃ o1 o2 : Option D, Γ' = ([("_law_work_here", some (d)), ("_law_found", some (.lst (((-1, 0) :: waysFrom w.length 0 ((w.map (·.2)).take i)).map pairD))), ("_law_block", o1), ("_law_there", o2), ("_law_to", none)] : VEnv) ∧ M' = M, ?_, ?_, ?_, ?_⟩
  · exact ⟨_, _, rfl, rfl⟩
  · exact fun _ _ _ _ => isR_lst
  · rintro i x Γ' M' hx ⟨o1, o2, rfl, rfl⟩
    unfold enumD at hx
    rw [List.getElem?_mapIdx, List.getElem?_map] at hx
    obtain ⟨y, hy, rfl⟩ := Option.map_eq_some_iff.mp hx
    obtain ⟨b, hb, rfl⟩ := Option.map_eq_some_iff.mp hy
    have hi := (List.getElem?_eq_some_iff.mp hb).1
    refine wg_tup st rfl ?_
    refine wgs_cons (wg_name st (by walk_at "mem") (by walk_at "put") ?_)
    refine wgs_cons (wg_name st (by walk_at "mem") (by walk_at "put") ?_)
    refine wgs_nil ?_
    walk_at "set"
    walk_at "run"
    refine we_frz ?_
    refine we_map b.2.sx natD (fun (t : Nat) => pairD ((i : Int), (t : Int))) [("_law_to", 4)] ["_law_to", "_law_block"] [] [] bod (by decide +kernel) (by walk_at "mem") (by walk_at "wiped") ?_
    refine wi_list ?_
    walk_at "run"
    refine cd_sortedI isR_nl b.2.sx_perm b.2.sx_up ?_
    rw [List.map_map]
    refine ⟨_, isR_lst, rfl, szl (by have := b.2.sx_len; omega), fun _ _ => isR_lst, fun a ha => ⟨_, by walk_at "put", fun X1 inn L acc => ?_⟩, fun p => ⟨_, _, _, rfl, rfl, ?_⟩⟩
    · have st1 := inn.st
      walk_at "run"
      exact ⟨rfl, rfl⟩
    have hlen := waysFrom_len w.length ((w.map (·.2)).take i) 0
    rw [List.length_take, List.length_map] at hlen
    have hsx := b.2.sx_len
    refine od_cat isL_lst isL_lst ?_ ?_
    · simp only [List.length_map, List.length_cons]
      exact szl (by omega)
    walk_at "run"
    refine cd_len (.inl hd) ?_
    walk_at "run"
    refine od_eqNL (b := []) st ?_
    walk_at "run"
    refine od_rep isL_lst (by split <;> omega) (by split <;> exact szl (by simp)) ?_
    refine od_cat isL_lst isL_lst ?_ ?_
    · simp only [List.length_append, List.length_map, List.length_cons, List.length_flatten, List.map_replicate]
      have hz : (if decide (b.2.nx = []) = true then (1 : Int) else 0).toNat ≤ 1 := by split <;> simp
      generalize (if decide (b.2.nx = []) = true then (1 : Int) else 0).toNat = z at hz ⊢
      simp only [List.length_nil, List.sum_replicate_nat]
      exact szl (by omega)
    walk_at "run"
    refine wss_nil ?_
    refine ⟨some (.int (i : Int)), some (nlD b.2.nx), ?_, rfl⟩
    have hb2 : (w.map (·.2))[i]? = some b.2 := by rw [List.getElem?_map, hb]; rfl
    rw [List.take_add_one, hb2]
    simp only [Option.toList_some]
    rw [waysFrom_app, show ((w.map (·.2)).take i).length = i by simp; omega, Nat.zero_add]
    unfold wayK
    by_cases h : b.2.nx = []
    · rw [if_pos h, sx_nil _ h]
      simp [h, pairD]
    · rw [if_neg h]
      simp [h, pairD]
  · rintro Γ' M' ⟨o1, o2, rfl, rfl⟩
    rw [enumD_len, List.length_map, List.take_of_length_le (by simp)]
    walk_at "ret"
    walk_at "run"
    exact hQ
end
end Gen

namespace Gen
open PySem L2 DL Wk
abbrev sFlow_room : Stmt := inClass (top 8) 1
abbrev lFlow_room : List Str := ["self", "way", "block"]
abbrev nFlow_room : List Str := ["self", "way", "block"]
theorem scFlow_room : FnScope nFlow_room ["self", "way", "block"] (defScope sFlow_room) := ⟨rfl, rfl, rfl, by decide +kernel, rfl, by decide +kernel, by decide +kernel⟩
abbrev sFlow_other : Stmt := inClass (top 8) 2
abbrev lFlow_other : List Str := ["self", "way", "block", "there"]
abbrev nFlow_other : List Str := ["self", "way", "block", "there"]
theorem scFlow_other : FnScope nFlow_other ["self", "way", "block"] (defScope sFlow_other) := ⟨rfl, rfl, rfl, by decide +kernel, rfl, by decide +kernel, by decide +kernel⟩
abbrev sFlow_reach : Stmt := inClass (top 8) 3
abbrev lFlow_reach : List Str := ["self", "begins", "came", "waiting", "turn", "further", "block", "way", "there", "room"]
abbrev nFlow_reach : List Str := ["self", "begins", "came", "waiting", "turn", "further", "block", "way", "there", "room"]
theorem scFlow_reach : FnScope nFlow_reach ["self", "begins"] (defScope sFlow_reach) := ⟨rfl, rfl, rfl, by decide +kernel, rfl, by decide +kernel, by decide +kernel⟩
abbrev sFlow_push : Stmt := inClass (top 8) 4
abbrev lFlow_push : List Str := ["self", "came", "steps", "there", "rooms", "bounds", "block", "way"]
abbrev nFlow_push : List Str := ["self", "came", "steps", "there", "rooms", "bounds", "block", "way", "room"]
theorem scFlow_push : FnScope nFlow_push ["self", "came"] (defScope sFlow_push) := ⟨rfl, rfl, rfl, by decide +kernel, rfl, by decide +kernel, by decide +kernel⟩
abbrev sFlow_fill : Stmt := inClass (top 8) 5
abbrev lFlow_fill : List Str := ["self", "begins", "came"]
abbrev nFlow_fill : List Str := ["self", "begins", "came"]
theorem scFlow_fill : FnScope nFlow_fill ["self", "begins"] (defScope sFlow_fill) := ⟨rfl, rfl, rfl, by decide +kernel, rfl, by decide +kernel, by decide +kernel⟩
structure FlC (K : PySem.W.Frag) (C : Addr) : Prop where
  cls : Cls K C
  ways : NoAttr K C "ways"
  many : NoAttr K C "many"
  shut : NoAttr K C "shut"
  most : NoAttr K C "most"
  least : NoAttr K C "least"
  along : NoAttr K C "along"
  touching : NoAttr K C "touching"
/-- a flow's instance -/
structure Fw where
  r : Addr
  C : Addr
  lo : Hp
  N : Fl.Net
  sh : List (Int × Int)
  hi : Int × Int → Int
  ls : Int × Int → Int
  pm : Addr
  pl : Addr
  pa : Addr
  gs : List Addr
def fnD (L : List (Int × Int)) (f : Int × Int → Int) : List (List Key × D) := L.map fun w => (keyI w, .int (f w))
def tchL (N : Fl.Net) (u : Int) : List (Int × Int) := N.L.filter fun w => Fl.touch w u
def tchM (N : Fl.Net) (gs : List Addr) : Mem := List.zipWith (fun g u => (g, Cell.lst ((tchL N u).map pairD))) gs N.blocks
def Fw.fl (F : Fw) : List (Str × D) := [("ways", .lst (F.N.L.map pairD)), ("many", .int (F.N.n : Int)), ("shut", .lst (F.sh.map pairD)), ("most", .ref F.pm), ("least", .ref F.pl), ("along", .ref F.pa), ("touching", .lst (F.gs.map D.ref))]
def Fw.M (F : Fw) (f : Int × Int → Int) (R0 : Mem) : Mem := (F.r, .ins F.C F.fl F.lo) :: (F.pm, .dT (fnD F.N.L F.hi)) :: (F.pl, .dT (fnD F.N.L F.ls)) :: (F.pa, .dT (fnD F.N.L f)) :: (tchM F.N F.gs ++ R0)
structure FwOk (F : Fw) : Prop where
  ok : F.N.Ok
  cap : ∀ w, F.N.cap w = if w ∈ F.sh then none else some (F.ls w, F.hi w)
  n16 : F.N.n ≤ 16
  npos : 0 < F.N.n
  l40 : F.N.L.length ≤ 40
  gl : F.gs.length = F.N.n
  sl : F.sh.length ≤ 40
  sb : ∀ w ∈ F.sh, -1 ≤ w.1 ∧ w.1 ≤ 16 ∧ 0 ≤ w.2 ∧ w.2 ≤ 16
structure FwAt (F : Fw) (f : Int × Int → Int) (M : Mem) : Prop where
  r : ∃ g, At F.r M (.ins F.C F.fl F.lo) g
  pm : ∃ g, At F.pm M (.dT (fnD F.N.L F.hi)) g
  pl : ∃ g, At F.pl M (.dT (fnD F.N.L F.ls)) g
  pa : ∃ g, At F.pa M (.dT (fnD F.N.L f)) g
theorem Fw.at (F : Fw) (f : Int × Int → Int) (R0 : Mem) : FwAt F f (F.M f R0) := ⟨⟨_, .here⟩, ⟨_, .there .here⟩, ⟨_, .there (.there .here)⟩, ⟨_, .there (.there (.there .here))⟩⟩
theorem FwAt.cons {F : Fw} {f : Int × Int → Int} {M : Mem} {c : Addr × Cell} (h : FwAt F f M) : FwAt F f (c :: M) := by
  obtain ⟨⟨g1, h1⟩, ⟨g2, h2⟩, ⟨g3, h3⟩, ⟨g4, h4⟩⟩ := h
  exact ⟨⟨_, .there h1⟩, ⟨_, .there h2⟩, ⟨_, .there h3⟩, ⟨_, .there h4⟩⟩
theorem fnD_val {L : List (Int × Int)} {f : Int × Int → Int} {w : Int × Int} (h : w ∈ L) : valA (fnD L f) (keyI w) = some (.int (f w)) := by
  induction L with
  | nil => cases h
  | cons v L ih =>
    show valA ((keyI v, D.int (f v)) :: fnD L f) _ = _
    rw [valA_cons]
    by_cases e : v = w
    · rw [if_pos (by rw [e]), e]
    · rw [if_neg (fun q => e (keyI_inj q))]
      exact ih ((List.mem_cons.mp h).resolve_left fun q => e q.symm)
theorem fnD_put {L : List (Int × Int)} {f : Int × Int → Int} {w : Int × Int} {x : Int} (h : w ∈ L) : putA (fnD L f) (keyI w) (.int x) = fnD L fun v => if v = w then x else f v := by
  unfold putA
  have ha : (fnD L f).any (fun kv => decide (kv.1 = keyI w)) = true := by
    rw [List.any_eq_true]
    exact ⟨(keyI w, .int (f w)), List.mem_map.mpr ⟨w, h, rfl⟩, by simp⟩
  rw [if_pos ha]
  unfold fnD
  rw [List.map_map]
  refine List.map_congr_left fun v _ => ?_
  show (if keyI v = keyI w then (keyI v, D.int x) else (keyI v, D.int (f v))) = (keyI v, D.int (if v = w then x else f v))
  by_cases e : v = w
  · rw [if_pos (by rw [e]), if_pos e]
  · rw [if_neg (fun q => e (keyI_inj q)), if_neg e]
theorem at_tchM {N : Fl.Net} {gs : List Addr} {k : Nat} {g : Addr} (M : Mem) (hg : gs[k]? = some g) (hk : k < N.n) : ∃ f, At g (tchM N gs ++ M) (.lst ((tchL N (k : Int)).map pairD)) f := by
  have h1 : N.blocks[k]? = some (k : Int) := by
    unfold Fl.Net.blocks
    rw [List.getElem?_map, List.getElem?_range hk]; rfl
  unfold tchM
  generalize N.blocks = l at h1
  induction gs generalizing k l with
  | nil => simp at hg
  | cons a gs ih =>
    cases l with
    | nil => simp at h1
    | cons u l =>
      cases k with
      | zero =>
        simp only [List.getElem?_cons_zero, Option.some.injEq] at hg h1
        subst hg h1
        exact ⟨_, .here⟩
      | succ k =>
        have : ∀ (gs : List Addr) (l : List Int) (k : Nat) (g : Addr) (u : Int), gs[k]? = some g → l[k]? = some u → ∃ f, At g (List.zipWith (fun g u => (g, Cell.lst ((tchL N u).map pairD))) gs l ++ M) (.lst ((tchL N u).map pairD)) f := by
          intro gs
          induction gs with
          | nil => intro l k g u h; simp at h
          | cons a gs ih =>
            intro l k g u h h2
            cases l with
            | nil => simp at h2
            | cons v l =>
              cases k with
              | zero =>
                simp only [List.getElem?_cons_zero, Option.some.injEq] at h h2
                subst h h2
                exact ⟨_, .here⟩
              | succ k =>
                obtain ⟨f, h3⟩ := ih l k g u (by simpa using h) (by simpa using h2)
                exact ⟨_, .there h3⟩
        obtain ⟨f, h3⟩ := this gs l k g _ (by simpa using hg) (by simpa using h1)
        exact ⟨_, .there h3⟩
def roomD : Option Int → D
  | none => .non
  | some i => .int i
theorem pair_shaped {p : Int × Int} (h : -1 ≤ p.1 ∧ p.1 ≤ 16 ∧ 0 ≤ p.2 ∧ p.2 ≤ 16) : SeqAt.shaped (pairP p) = true := (shw_pair (by omega) (by omega) (by omega) (by omega)).shaped (by omega)
theorem pairs_shaped {l : List (Int × Int)} (h : ∀ p ∈ l, -1 ≤ p.1 ∧ p.1 ≤ 16 ∧ 0 ≤ p.2 ∧ p.2 ≤ 16) (hl : l.length ≤ 400) : SeqAt.shaped (.list (l.map pairP)) = true := (Shw.list (dep := 1) (n := 90) (k := 40000) (fun x hx => by
  obtain ⟨p, hp, rfl⟩ := List.mem_map.mp hx
  have := h p hp
  exact shw_pair (by omega) (by omega) (by omega) (by omega)) (by rw [List.length_map]; omega)).shaped (by omega)
theorem any_pair (l : List (Int × Int)) (y : Int × Int) : (l.map pairP).any (fun z => PyData.eqv z (pairP y)) = decide (y ∈ l) := by
  induction l with
  | nil => rfl
  | cons p l ih =>
    rw [List.map_cons, List.any_cons, ih]
    have : PyData.eqv (pairP p) (pairP y) = decide (p = y) := by
      simp only [pairP, PyData.eqv, PyData.eqvAll, Bool.and_true]
      by_cases h1 : p.1 = y.1 <;> by_cases h2 : p.2 = y.2 <;> simp [h1, h2, Prod.ext_iff]
    rw [this]
    by_cases h : p = y
    · simp [h]
    · simp [h, eq_comm (a := y)]
section
variable {P : Program} {w : World} {K : PySem.W.Frag} {mg : Str → Option Value} {base : Heap}
theorem way_rng {N : Fl.Net} (ok : N.Ok) (h16 : N.n ≤ 16) {w : Int × Int} (hw : w ∈ N.L) : -1 ≤ w.1 ∧ w.1 ≤ 16 ∧ 0 ≤ w.2 ∧ w.2 ≤ 16 := by
  have := ok.rng w hw
  omega
abbrev sproom (K : PySem.W.Frag) (C : Addr) : DSp := fun ds M Q => ∃ (F : Fw) (f : Int × Int → Int) (y : Int × Int) (u : Int), F.C = C ∧ ds = [.ref F.r, pairD y, .int u] ∧ FwAt F f M ∧ FlC K F.C ∧ FwOk F ∧ y ∈ F.N.L ∧ Q (roomD (F.N.room f y u)) M
theorem okroom {C f : Addr} {fd : FuncData} (F : Fun K "room" "Flow.room" sFlow_room f fd) (hb : Binds K fd ["self", "way", "block"] []) (hm : Meth K C "room" f) (hc : FlC K C) : Ms P w K mg base 1 C "room" 2 (sproom K C) := by
  refine ⟨f, fd, ["self", "way", "block"], hc.cls, hm, hb, rfl, gok_body (k := 0) (N := nFlow_room) (Ln := lFlow_room) (Bn := []) (Fn := []) (Bx := []) F scFlow_room rfl (by decide +kernel) (fun _ h => by cases h) ?_⟩
  rintro X ds M Q bod ⟨F, g, y, u, rfl, rfl, ⟨⟨g1, hr⟩, ⟨g2, hpm⟩, ⟨g3, hpl⟩, ⟨g4, hpa⟩⟩, hc, ok, hy, hQ⟩
  have st := bod.st
  rw [← bod.fr] at hc
  have hyr := way_rng ok.ok ok.n16 hy
  show WSs X ([("self", some (.ref F.r)), ("way", some (pairD y)), ("block", some (.int u))] : VEnv) M _ _
  refine wss_cons (ws_if ?_)
  refine wt_cmp ?_ (by with_unfolding_all first | rfl | exact L2.nomark _)
  walk_at "e1"
  refine we_fld ?_
  walk_at "e1"
  refine ⟨F.r, F.C, _, F.lo, _, .lst (F.sh.map pairD), rfl, hr, hc.cls, hc.shut, rfl, ?_⟩
  refine od_inP st (.tup (.cons (.int _) (.cons (.int _) .nil))) (py_pairs (ps := F.sh) isR_lst) (pair_shaped hyr) (pairs_shaped ok.sb (by have := ok.sl; omega)) ?_
  rw [show PyData.tuple [.int y.1, .int y.2] = pairP y from rfl, any_pair]
  refine ⟨_, rfl, ?_⟩
  have hcap := ok.cap y
  refine ite_d (fun h => ?_) (fun h => ?_)
  · walk_at "ret"
    walk_at "run"
    unfold Fl.Net.room at hQ
    rw [hcap, if_pos h] at hQ
    exact hQ
  · unfold Fl.Net.room at hQ
    rw [hcap, if_neg h] at hQ
    refine wss_nil ?_
    refine wss_cons (ws_if ?_)
    walk_at "run"
    refine ⟨_, _, rfl, IxD.tup rfl, ?_⟩
    walk_at "run"
    refine ite_d (fun h1 => ?_) (fun h1 => ?_)
    · have h1 : y.1 = u := h1
      simp only [if_pos h1] at hQ
      walk_at "ret"
      refine we_bin ?_
      refine we_dix st ?_
      refine we_fld ?_
      walk_at "e1"
      refine ⟨F.r, F.C, _, F.lo, _, .ref F.pm, rfl, hr, hc.cls, hc.most, rfl, ?_⟩
      walk_at "e1"
      have gm : GetD M (.ref F.pm) (pairD y) (valA (fnD F.N.L F.hi) (keyI y)) := GetD.dtI hpm
      rw [fnD_val hy] at gm
      refine ⟨_, gm, ?_⟩
      refine we_dix st ?_
      refine we_fld ?_
      walk_at "e1"
      refine ⟨F.r, F.C, _, F.lo, _, .ref F.pa, rfl, hr, hc.cls, hc.along, rfl, ?_⟩
      walk_at "e1"
      have ga : GetD M (.ref F.pa) (pairD y) (valA (fnD F.N.L g) (keyI y)) := GetD.dtI hpa
      rw [fnD_val hy] at ga
      refine ⟨_, ga, ?_⟩
      walk_at "run"
      exact hQ
    · have h1 : ¬ y.1 = u := h1
      simp only [if_neg h1] at hQ
      refine wss_nil ?_
      walk_at "ret"
      refine we_bin ?_
      refine we_dix st ?_
      refine we_fld ?_
      walk_at "e1"
      refine ⟨F.r, F.C, _, F.lo, _, .ref F.pa, rfl, hr, hc.cls, hc.along, rfl, ?_⟩
      walk_at "e1"
      have ga : GetD M (.ref F.pa) (pairD y) (valA (fnD F.N.L g) (keyI y)) := GetD.dtI hpa
      rw [fnD_val hy] at ga
      refine ⟨_, ga, ?_⟩
      refine we_dix st ?_
      refine we_fld ?_
      walk_at "e1"
      refine ⟨F.r, F.C, _, F.lo, _, .ref F.pl, rfl, hr, hc.cls, hc.least, rfl, ?_⟩
      walk_at "e1"
      have gm : GetD M (.ref F.pl) (pairD y) (valA (fnD F.N.L F.ls) (keyI y)) := GetD.dtI hpl
      rw [fnD_val hy] at gm
      refine ⟨_, gm, ?_⟩
      walk_at "run"
      exact hQ
abbrev spother (K : PySem.W.Frag) (C : Addr) : DSp := fun ds M Q => ∃ (F : Fw) (f : Int × Int → Int) (y : Int × Int) (u : Int), F.C = C ∧ ds = [.ref F.r, pairD y, .int u] ∧ FwAt F f M ∧ FlC K F.C ∧ Q (.int (F.N.other y u)) M
theorem okother {C f : Addr} {fd : FuncData} (F : Fun K "other" "Flow.other" sFlow_other f fd) (hb : Binds K fd ["self", "way", "block"] []) (hm : Meth K C "other" f) (hc : FlC K C) (hD : ∃ t, mg "DOOR" = some (.int (-1) t)) : Ms P w K mg base 1 C "other" 2 (spother K C) := by
  refine ⟨f, fd, ["self", "way", "block"], hc.cls, hm, hb, rfl, gok_body (k := 0) (N := nFlow_other) (Ln := lFlow_other) (Bn := []) (Fn := ["DOOR"]) (Bx := []) F scFlow_other rfl (by decide +kernel) (fun _ h => by cases h) ?_⟩
  rintro X ds M Q bod ⟨F, g, y, u, rfl, rfl, ⟨⟨g1, hr⟩, _, _, _⟩, hc, hQ⟩
  have st := bod.st
  rw [← bod.fr] at hc
  obtain ⟨tk, hD⟩ := hD
  rw [← bod.mg] at hD
  show WSs X ([("self", some (.ref F.r)), ("way", some (pairD y)), ("block", some (.int u)), ("there", none)] : VEnv) M _ _
  refine ws_mid (fun Γ' M' => M' = M ∧ Γ' = ([("self", some (.ref F.r)), ("way", some (pairD y)), ("block", some (.int u)), ("there", some (.int (if y.1 = u then y.2 else y.1)))] : VEnv)) ?_ ?_
  · refine ws_set st (by walk_at "mem") ?_ (by walk_at "unf")
    refine we_if ?_
    walk_at "run"
    refine ⟨_, _, rfl, IxD.tup rfl, ?_⟩
    walk_at "run"
    refine ite_d (fun h1 => ?_) (fun h1 => ?_)
    · have h1 : y.1 = u := h1
      walk_at "run"
      refine ⟨_, _, rfl, IxD.tup rfl, ?_⟩
      walk_at "put!"
      refine ⟨rfl, ?_⟩
      rw [if_pos h1]
    · have h1 : ¬ y.1 = u := h1
      walk_at "run"
      refine ⟨_, _, rfl, IxD.tup rfl, ?_⟩
      walk_at "put!"
      refine ⟨rfl, ?_⟩
      rw [if_neg h1]
  rintro Γ' M' ⟨rfl, rfl⟩
  unfold Fl.Net.other at hQ
  walk_at "ret"
  refine we_if ?_
  refine wt_cmp ?_ (by with_unfolding_all first | rfl | exact L2.nomark _)
  walk_at "e1"
  refine we_fld ?_
  walk_at "e1"
  refine ⟨F.r, F.C, _, F.lo, _, .int (F.N.n : Int), rfl, hr, hc.cls, hc.many, rfl, ?_⟩
  walk_at "run"
  refine ite_d (fun h1 => ?_) (fun h1 => ?_)
  · rw [if_pos h1] at hQ
    exact we_const st (by walk_at "mem") hD hQ
  · rw [if_neg h1] at hQ
    walk_at "run"
    exact hQ
end
end Gen

namespace Gen
open PySem L2 DL Wk
def howD : Option (Int × (Int × Int)) → D
  | none => .non
  | some p => .tup [.int p.1, pairD p.2]
def entD (es : List Fl.Ent) : List (Key × D) := es.map fun e => (.inl e.1, howD e.2)
theorem entD_in (es : List Fl.Ent) (v : Int) : (valA (entD es) (.inl v)).isSome = decide (v ∈ es.map (·.1)) := by
  induction es with
  | nil => rfl
  | cons e es ih =>
    show (valA ((.inl e.1, howD e.2) :: entD es) _).isSome = _
    rw [valA_cons]
    by_cases h : e.1 = v
    · rw [if_pos (by rw [h])]; simp [h]
    · rw [if_neg (fun q => h (Sum.inl.inj q)), ih]
      simp only [List.map_cons, List.mem_cons]
      exact decide_eq_decide.mpr ⟨.inr, fun q => q.resolve_left fun e => h e.symm⟩
theorem entD_get {es : List Fl.Ent} {e : Fl.Ent} (nd : (es.map (·.1)).Nodup) (h : e ∈ es) : valA (entD es) (.inl e.1) = some (howD e.2) := by
  induction es with
  | nil => cases h
  | cons d es ih =>
    show valA ((.inl d.1, howD d.2) :: entD es) _ = _
    rw [valA_cons]
    rw [List.map_cons, List.nodup_cons] at nd
    rcases List.mem_cons.mp h with rfl | h
    · rw [if_pos rfl]
    · rw [if_neg (fun q => nd.1 (by rw [Sum.inl.inj q]; exact List.mem_map.mpr ⟨e, h, rfl⟩))]
      exact ih nd.2 h
theorem entD_put {es : List Fl.Ent} {v : Int} {r : Option (Int × (Int × Int))} (h : v ∉ es.map (·.1)) : putA (entD es) (.inl v) (howD r) = entD (es ++ [(v, r)]) := by
  unfold putA
  rw [if_neg]
  · unfold entD
    rw [List.map_append]; rfl
  · rw [List.any_eq_true]
    rintro ⟨kv, hk, e⟩
    obtain ⟨d, hd, rfl⟩ := List.mem_map.mp hk
    have e : (Sum.inl d.1 : Key) = .inl v := of_decide_eq_true e
    exact h (List.mem_map.mpr ⟨d, hd, Sum.inl.inj e⟩)
theorem entD_merge : ∀ {es ds : List Fl.Ent}, ((ds ++ es).map (·.1)).Nodup → mergeA (entD ds) (entD es) = entD (ds ++ es)
  | [], ds, _ => by rw [List.append_nil]; rfl
  | e :: es, ds, nd => by
    have nd2 : (((ds ++ [e]) ++ es).map (·.1)).Nodup := by rw [List.append_assoc]; exact nd
    show mergeA (putA (entD ds) (.inl e.1) (howD e.2)) (entD es) = _
    rw [entD_put, entD_merge nd2, List.append_assoc]
    · rfl
    · rw [List.map_append, List.nodup_append] at nd
      exact fun hm => nd.2.2 _ hm _ (by simp) rfl
structure SrchF (N : Fl.Net) (f : Int × Int → Int) (B : List Int) (es : List Fl.Ent) : Prop where
  how : ∀ e ∈ es, Fl.How N f B e
  nd : (es.map (·.1)).Nodup
  keys : ∀ v, v ∈ es.map (·.1) ↔ (v = -1 ∨ v ∈ N.blocks) ∧ N.R f B N.n v = true
theorem py_room {M : Mem} (r : Option Int) : Py M (roomD r) (match r with | none => .none | some i => .int i) := by
  cases r with
  | none => exact .non
  | some i => exact .int i
theorem take_in {α : Type} {l : List α} {i : Nat} {a : α} (h : l[i]? = some a) (b : α) : b ∈ l.take (i + 1) ↔ b ∈ l.take i ∨ b = a := by
  rw [List.take_add_one, h]
  simp
section
variable {P : Program} {w : World} {K : PySem.W.Frag} {mg : Str → Option Value} {base : Heap}
abbrev spreach (K : PySem.W.Frag) (C : Addr) : DSp := fun ds M Q => ∃ (F : Fw) (f : Int × Int → Int) (B : List Int) (R0 : Mem), F.C = C ∧ ds = [.ref F.r, .lst (B.map D.int)] ∧ M = F.M f R0 ∧ FlC K F.C ∧ FwOk F ∧ B.Nodup ∧ (∀ b ∈ B, b ∈ F.N.blocks) ∧ ∀ pf es, SrchF F.N f B es → Q (.ref pf) ((pf, .dK (entD es)) :: M)
theorem okreach {C f : Addr} {fd : FuncData} (F : Fun K "reach" "Flow.reach" sFlow_reach f fd) (hb : Binds K fd ["self", "begins"] []) (hm : Meth K C "reach" f) (hc : FlC K C) (hD : ∃ t, mg "DOOR" = some (.int (-1) t)) (hB0 : ∀ x ∈ (["dict", "list", "range"] : List Str), mg x = none)
    (hro : Ms P w K mg base 1 C "room" 2 (sproom K C)) (hot : Ms P w K mg base 1 C "other" 2 (spother K C)) : Ms P w K mg base 2 C "reach" 1 (spreach K C) := by
  refine ⟨f, fd, ["self", "begins"], hc.cls, hm, hb, rfl, gok_body (k := 1) (N := nFlow_reach) (Ln := lFlow_reach) (Bn := ["dict", "list", "range"]) (Fn := ["DOOR"]) (Bx := ["dict", "list", "range"]) F scFlow_reach rfl (by decide +kernel) hB0 ?_⟩
  rintro X ds M Q bod ⟨F, g, B, R0, rfl, rfl, rfl, hc, ok, hnd, hB, hQ⟩
  have st := bod.st
  have rm := bod.room
  rw [← bod.fr] at hc
  have hro2 : Ms X.prog X.w X.K X.mg X.base 1 F.C "room" 2 (sproom X.K F.C) := by rw [bod.pr, bod.wd, bod.fr, bod.mg, bod.base]; exact hro
  have hot2 : Ms X.prog X.w X.K X.mg X.base 1 F.C "other" 2 (spother X.K F.C) := by rw [bod.pr, bod.wd, bod.fr, bod.mg, bod.base]; exact hot
  obtain ⟨tk, hD⟩ := hD
  rw [← bod.mg] at hD
  have hn16 := ok.n16
  have hBl : B.length ≤ F.N.n := by
    have := Fl.nodup_le hnd hB
    unfold Fl.Net.blocks at this
    rw [List.length_map, List.length_range] at this
    exact this
  show WSs X ([("self", some (.ref F.r)), ("begins", some (.lst (B.map D.int))), ("came", none), ("waiting", none), ("turn", none), ("further", none), ("block", none), ("way", none), ("there", none), ("room", none)] : VEnv) (F.M g R0) _ _
  walk_at "set"
  walk_at "run"
  refine we_frz ?_
  refine we_map B D.int (fun b => .tup [.int b, .non]) [("block", 6)] ["block"] [] [] bod (by decide +kernel) (by walk_at "mem") (by walk_at "wiped") ?_
  refine wi_list ?_
  walk_at "run"
  refine ⟨_, isR_lst, rfl, szl (by omega), fun _ _ => isR_lst, fun a ha => ⟨_, by walk_at "put", fun X1 inn L acc => ?_⟩, fun p => ⟨_, _, _, rfl, rfl, ?_⟩⟩
  · have st1 := inn.st
    walk_at "run"
    exact ⟨rfl, rfl⟩
  refine wa_nil ?_
  refine cd_dictP st (ps := entD (B.map fun b => (b, none))) (by unfold entD; rw [List.map_map, List.map_map]; exact isR_lst) fun pf => ?_
  have hm0 : mergeA [] (entD (B.map fun b => (b, none))) = entD (B.map fun b => (b, none)) := entD_merge (ds := []) (by rw [List.nil_append, List.map_map]; exact (List.map_id' B).symm ▸ hnd)
  rw [hm0]
  walk_at "run"
  walk_at "set"
  walk_at "run"
  refine cd_listO (.inl isR_lst) fun pw => ?_
  walk_at "run"
  refine wss_cons (ws_for st (wi_range st (by walk_at "mem") ?_))
  refine we_bin ?_
  refine we_fld ?_
  walk_at "e1"
  refine ⟨F.r, F.C, _, F.lo, _, .int (F.N.n : Int), rfl, .there (.there .here), hc.cls, hc.many, rfl, ?_⟩
  walk_at "run"
  refine ⟨by omega, by omega, fun t Γ' M' => ∃ (es : List Fl.Ent) (wt : List Int) (p : Addr) (o1 o2 o3 o4 o5 o6 : Option D), Fl.Mid F.N g B t (fun _ _ => False) es [] ∧ (∀ v, v ∈ wt ↔ v ∈ F.N.blocks ∧ F.N.At g B t v) ∧ wt.length ≤ F.N.n ∧ t ≤ F.N.n + 1 ∧ Γ' = ([("self", some (.ref F.r)), ("begins", some (.lst (B.map D.int))), ("came", some (.ref pf)), ("waiting", some (.ref p)), ("turn", o1), ("further", o2), ("block", o3), ("way", o4), ("there", o5), ("room", o6)] : VEnv) ∧ M' = (p, .lst (wt.map D.int)) :: (pf, .dK (entD es)) :: F.M g R0, ?_, ?_, ?_, ?_⟩
  · exact ⟨_, B, pw, _, _, _, _, _, _, .start hnd hB, fun v => ⟨fun h => ⟨hB v h, decide_eq_true h, fun _ h => absurd h (Nat.not_lt_zero _)⟩, fun h => of_decide_eq_true h.2.1⟩, hBl, by omega, rfl, rfl⟩
  · intros; trivial
  · rintro t x Γ' M' hx ⟨es, wt, p, o1, o2, o3, o4, o5, o6, mid, hwt, hwl, ht, rfl, rfl⟩
    obtain ⟨hi, rfl⟩ := rngD_inv hx
    refine wg_name st (by walk_at "mem") (by walk_at "put") ?_
    walk_at "set"
    refine we_lstO ?_
    walk_at "run"
    intro pz
    walk_at "run"
    refine wss_cons (ws_for st (wi_list ?_))
    walk_at "run"
    refine ⟨_, isR_ref (.there .here), fun i Γ' M' => ∃ (es : List Fl.Ent) (fu : List Int) (o3 o4 o5 o6 : Option D), Fl.Mid F.N g B t (fun a b => a ∈ wt.take i ∧ b ∈ F.N.L ∧ Fl.touch b a = true) es fu ∧ Γ' = ([("self", some (.ref F.r)), ("begins", some (.lst (B.map D.int))), ("came", some (.ref pf)), ("waiting", some (.ref p)), ("turn", some (.int (0 + (t : Int)))), ("further", some (.ref pz)), ("block", o3), ("way", o4), ("there", o5), ("room", o6)] : VEnv) ∧ M' = (pz, .lst (fu.map D.int)) :: (p, .lst (wt.map D.int)) :: (pf, .dK (entD es)) :: F.M g R0, ?_, ?_, ?_, ?_⟩
    · exact ⟨es, [], _, _, _, _, mid.iff (fun _ _ => by simp), rfl, rfl⟩
    · rintro _ _ _ ⟨es, fu, o3, o4, o5, o6, _, rfl, rfl⟩
      exact isR_ref (.there .here)
    · rintro i x Γ' M' hx ⟨es, fu, o3, o4, o5, o6, mid, rfl, rfl⟩
      rw [List.getElem?_map] at hx
      obtain ⟨u, hu, rfl⟩ := Option.map_eq_some_iff.mp hx
      obtain ⟨hub, hua⟩ := (hwt u).mp (List.mem_of_getElem? hu)
      have hub2 := hub
      obtain ⟨k, hk, rfl⟩ := List.mem_map.mp hub
      have hk : k < F.N.n := List.mem_range.mp hk
      have hgl : F.gs[k]? = some (F.gs[k]'(by have := ok.gl; omega)) := List.getElem?_eq_getElem _
      generalize (F.gs[k]'(by have := ok.gl; omega)) = gg at hgl
      obtain ⟨f0, hat⟩ := at_tchM (N := F.N) R0 hgl hk
      refine wg_name st (by walk_at "mem") (by walk_at "put") ?_
      refine wss_one (ws_for st (wi_list ?_))
      refine we_ix ?_ (by with_unfolding_all exact fun _ _ => rfl)
      refine we_fld ?_
      walk_at "e1"
      refine ⟨F.r, F.C, _, F.lo, _, .lst (F.gs.map D.ref), rfl, .there (.there (.there .here)), hc.cls, hc.touching, rfl, ?_⟩
      walk_at "run"
      refine ⟨_, _, rfl, IxD.list isR_lst (atI_map hgl), ?_⟩
      refine ⟨_, isR_ref (.there (.there (.there (.there (.there (.there (.there hat))))))), fun j Γ' M' => ∃ (es : List Fl.Ent) (fu : List Int) (o4 o5 o6 : Option D), Fl.Mid F.N g B t (fun a b => (a ∈ wt.take i ∧ b ∈ F.N.L ∧ Fl.touch b a = true) ∨ (a = (k : Int) ∧ b ∈ (tchL F.N (k : Int)).take j)) es fu ∧ Γ' = ([("self", some (.ref F.r)), ("begins", some (.lst (B.map D.int))), ("came", some (.ref pf)), ("waiting", some (.ref p)), ("turn", some (.int (0 + (t : Int)))), ("further", some (.ref pz)), ("block", some (.int (k : Int))), ("way", o4), ("there", o5), ("room", o6)] : VEnv) ∧ M' = (pz, .lst (fu.map D.int)) :: (p, .lst (wt.map D.int)) :: (pf, .dK (entD es)) :: F.M g R0, ?_, ?_, ?_, ?_⟩
      · exact ⟨es, fu, _, _, _, mid.iff (fun _ _ => by simp), rfl, rfl⟩
      · rintro _ _ _ ⟨es, fu, o4, o5, o6, _, rfl, rfl⟩
        exact isR_ref (.there (.there (.there (.there (.there (.there (.there hat)))))))
      · rintro j x Γ' M' hx ⟨es, fu, o4, o5, o6, mid, rfl, rfl⟩
        rw [List.getElem?_map] at hx
        obtain ⟨y, hy, rfl⟩ := Option.map_eq_some_iff.mp hx
        have hyt := List.mem_of_getElem? hy
        obtain ⟨hyL, hyk⟩ := List.mem_filter.mp hyt
        have hyk : Fl.touch y (k : Int) = true := hyk
        have hlen := mid.len
        have hjj : ∀ a b, ((a ∈ wt.take i ∧ b ∈ F.N.L ∧ Fl.touch b a = true) ∨ (a = (k : Int) ∧ b ∈ (tchL F.N (k : Int)).take j)) ∨ (a = (k : Int) ∧ b = y) ↔ (a ∈ wt.take i ∧ b ∈ F.N.L ∧ Fl.touch b a = true) ∨ (a = (k : Int) ∧ b ∈ (tchL F.N (k : Int)).take (j + 1)) := fun a b => by
          rw [take_in hy]
          constructor
          · rintro ((h | ⟨h1, h2⟩) | ⟨h1, h2⟩)
            · exact .inl h
            · exact .inr ⟨h1, .inl h2⟩
            · exact .inr ⟨h1, .inr h2⟩
          · rintro (h | ⟨h1, h2 | h2⟩)
            · exact .inl (.inl h)
            · exact .inl (.inr ⟨h1, h2⟩)
            · exact .inr ⟨h1, h2⟩
        refine wg_name st (by walk_at "mem") (by walk_at "put") ?_
        refine wss_cons (ws_par st (by walk_at "mem") (by walk_at "mem") (bod.lk (by decide +kernel)) (bod.lk (by decide +kernel)) bod.kind (by decide) (by walk_at "put") (by walk_at "put") ?_)
        refine wa_cons ?_
        refine we_ms hot2 (rm.mono (by decide)) st ?_ (by walk_at "unf") (by walk_at "unf") (by walk_at "unf")
        walk_at "e1"
        refine ⟨F.r, F.fl, F.lo, _, rfl, .there (.there (.there .here)), by walk_at "unf", ?_⟩
        walk_at "run"
        refine ⟨F, g, y, (k : Int), rfl, rfl, ((F.at g R0).cons.cons).cons, hc, ?_⟩
        refine wa_cons ?_
        refine we_ms hro2 (rm.mono (by decide)) st ?_ (by walk_at "unf") (by walk_at "unf") (by walk_at "unf")
        walk_at "e1"
        refine ⟨F.r, F.fl, F.lo, _, rfl, .there (.there (.there .here)), by walk_at "unf", ?_⟩
        walk_at "run"
        refine ⟨F, g, y, (k : Int), rfl, rfl, ((F.at g R0).cons.cons).cons, hc, ok, hyL, ?_⟩
        refine wa_nil ?_
        refine ⟨_, _, _, _, rfl, by walk_at "put", by walk_at "put", ?_⟩
        refine wss_one (ws_if ?_)
        walk_at "run"
        refine od_notInD st (GetD.dk (i := F.N.other y (k : Int)) (by walk_at "at")) ?_
        rw [entD_in]
        walk_at "run"
        refine ite_n (fun hnot => ?_) (fun hin => ?_)
        · have hnot : F.N.other y (k : Int) ∉ es.map (·.1) := by simpa using hnot
          walk_at "run"
          refine od_neP st (py_room _) (.int _) (by cases F.N.room g y (k : Int) <;> rfl) rfl ?_
          have hroom : (!PyData.eqv (match F.N.room g y (k : Int) with | none => PyData.none | some i => .int i) (.int 0)) = Fl.Net.rs F.N g (k : Int) y := by
            unfold Fl.Net.rs
            rw [hyk, Bool.true_and]
            cases F.N.room g y (k : Int) with
            | none => rfl
            | some i => by_cases h : i = 0 <;> simp [PyData.eqv, h]
          rw [hroom]
          walk_at "run"
          refine ite_b (fun hrs => ?_) (fun hrs => ?_)
          · have mid2 := (mid.add ok.ok hua hyL hub2 hrs hnot).iff hjj
            have hlen2 := mid2.len
            walk_at "asg"
            walk_at "run"
            refine wg_dix st ?_ (by intro _; with_unfolding_all rfl)
            walk_at "run"
            refine ⟨pf, _, rfl, .inl ⟨_, .inl (F.N.other y (k : Int)), by walk_at "at", rfl, szlt (by unfold entD; rw [List.length_map]; omega), ?_⟩⟩
            rw [show (D.tup [D.int (k : Int), pairD y]) = howD (some ((k : Int), y)) from rfl, entD_put hnot]
            refine wss_one (ws_if ?_)
            walk_at "run"
            refine we_const st (by walk_at "mem") hD ?_
            walk_at "run"
            refine ite_n (fun hd => ?_) (fun hd => ?_)
            · rw [if_neg hd] at mid2 hlen2
              walk_at "expr"
              walk_at "run"
              refine md_append (by walk_at "at") (szlt (by rw [List.length_map]; omega)) ?_
              refine wss_nil ?_
              exact ⟨_, _, _, _, _, mid2, rfl, by rw [List.map_append]; rfl⟩
            · rw [if_pos hd] at mid2
              refine wss_nil ?_
              exact ⟨_, _, _, _, _, mid2, rfl, rfl⟩
          · refine wss_nil ?_
            exact ⟨es, fu, _, _, _, (mid.skip (u := (k : Int)) (w := y) fun h => absurd h (by rw [hrs]; decide)).iff hjj, rfl, rfl⟩
        · have hin : F.N.other y (k : Int) ∈ es.map (·.1) := by simpa using hin
          refine wss_nil ?_
          exact ⟨es, fu, _, _, _, (mid.skip (u := (k : Int)) (w := y) fun _ => hin).iff hjj, rfl, rfl⟩
      · rintro Γ' M' ⟨es, fu, o4, o5, o6, mid, rfl, rfl⟩
        rw [List.length_map, List.take_length] at mid
        refine ⟨es, fu, _, _, _, _, mid.iff (fun a b => ?_), rfl, rfl⟩
        rw [take_in hu]
        unfold tchL
        rw [List.mem_filter]
        constructor
        · rintro (⟨h1, h2, h3⟩ | ⟨rfl, h2, h3⟩)
          · exact ⟨.inl h1, h2, h3⟩
          · exact ⟨.inr rfl, h2, h3⟩
        · rintro ⟨h1 | rfl, h2, h3⟩
          · exact .inl ⟨h1, h2, h3⟩
          · exact .inr ⟨rfl, h2, h3⟩
    · rintro Γ' M' ⟨es, fu, o3, o4, o5, o6, mid, rfl, rfl⟩
      rw [List.length_map, List.take_length] at mid
      have hlen := mid.len
      obtain ⟨mid2, hf⟩ := mid.turn hwt
      refine wss_gc (G := [(p, .lst (wt.map D.int))]) (M2 := (pz, .lst (fu.map D.int)) :: (pf, .dK (entD es)) :: F.M g R0) (.swap _ _ _) ?_
      walk_at "set"
      walk_at "run"
      refine wss_nil ?_
      exact ⟨es, fu, pz, _, _, _, _, _, _, mid2, hf, hlen.2, by omega, rfl, rfl⟩
  · rintro Γ' M' ⟨es, wt, p, o1, o2, o3, o4, o5, o6, mid, hwt, hwl, ht, rfl, rfl⟩
    rw [rngD_length] at mid
    rw [show ((F.N.n : Int) + 1).toNat = F.N.n + 1 from by omega] at mid
    walk_at "ret"
    refine we_gc ?_
    walk_at "run"
    exact ⟨[(p, _)], _, .refl _, hQ pf es ⟨mid.how, mid.nd, mid.fin fun _ _ h => h⟩⟩
end
end Gen

namespace Gen
open PySem L2 DL Wk
def stepD (s : Int × (Int × Int)) : D := .tup [.int s.1, pairD s.2]
section
variable {P : Program} {w : World} {K : PySem.W.Frag} {mg : Str → Option Value} {base : Heap}
abbrev sppush (K : PySem.W.Frag) (C : Addr) : DSp := fun ds M Q => ∃ (F : Fw) (f : Int × Int → Int) (B : List Int) (es : List Fl.Ent) (R0 : Mem) (pf : Addr), F.C = C ∧ ds = [.ref F.r, .ref pf] ∧ M = (pf, .dK (entD es)) :: F.M f R0 ∧ FlC K F.C ∧ FwOk F ∧ SrchF F.N f B es ∧ F.N.Bd f ∧ -1 ∈ es.map (·.1) ∧
  (∀ k p, Fl.Back F.N f B k (-1) p → (∀ s ∈ p, F.N.room f s.2 s.1 = none) → Q (.bl false) M) ∧ ∀ k p d, Fl.Push F.N f B k p d → Q (.bl true) ((pf, .dK (entD es)) :: F.M (Fl.pushed f d p) R0)
theorem okpush {C f : Addr} {fd : FuncData} (F : Fun K "push" "Flow.push" sFlow_push f fd) (hb : Binds K fd ["self", "came"] []) (hm : Meth K C "push" f) (hc : FlC K C) (hD : ∃ t, mg "DOOR" = some (.int (-1) t)) (hB0 : ∀ x ∈ (["min"] : List Str), mg x = none)
    (hro : Ms P w K mg base 1 C "room" 2 (sproom K C)) : Ms P w K mg base 2 C "push" 1 (sppush K C) := by
  refine ⟨f, fd, ["self", "came"], hc.cls, hm, hb, rfl, gok_body (k := 1) (N := nFlow_push) (Ln := lFlow_push) (Bn := ["min"]) (Fn := ["DOOR"]) (Bx := ["min"]) F scFlow_push rfl (by decide +kernel) hB0 ?_⟩
  rintro X ds M Q bod ⟨F, g, B, es, R0, pf, rfl, rfl, rfl, hc, ok, sr, hbd, hdoor, hQ0, hQ1⟩
  have st := bod.st
  have rm := bod.room
  rw [← bod.fr] at hc
  have hro2 : Ms X.prog X.w X.K X.mg X.base 1 F.C "room" 2 (sproom X.K F.C) := by rw [bod.pr, bod.wd, bod.fr, bod.mg, bod.base]; exact hro
  obtain ⟨tk, hD⟩ := hD
  rw [← bod.mg] at hD
  have hn16 := ok.n16
  obtain ⟨hpl0, hr0⟩ := (sr.keys _).mp hdoor
  obtain ⟨kk, hkk, hat0⟩ := Fl.at_of hr0
  show WSs X ([("self", some (.ref F.r)), ("came", some (.ref pf)), ("steps", none), ("there", none), ("rooms", none), ("bounds", none), ("block", none), ("way", none), ("room", none)] : VEnv) _ _ _
  walk_at "set"
  refine we_lstO ?_
  walk_at "run"
  intro ps
  walk_at "run"
  walk_at "set"
  refine we_const st (by walk_at "mem") hD ?_
  walk_at "run"
  refine wss_cons (ws_while st (fun m Γ' M' => ∃ (v : Int) (p : Fl.Steps), (v = -1 ∨ v ∈ F.N.blocks) ∧ F.N.At g B m v ∧ p.length + m = kk ∧ (∀ p', Fl.Back F.N g B m v p' → Fl.Back F.N g B kk (-1) (p ++ p')) ∧ Γ' = ([("self", some (.ref F.r)), ("came", some (.ref pf)), ("steps", some (.ref ps)), ("there", some (.int v)), ("rooms", none), ("bounds", none), ("block", none), ("way", none), ("room", none)] : VEnv) ∧ M' = (ps, .lst (p.map stepD)) :: (pf, .dK (entD es)) :: F.M g R0) kk ⟨-1, [], .inl rfl, hat0, by simp, fun _ h => h, rfl, rfl⟩ ?_)
  rintro m Γ' M' ⟨v, p, hpl, hat, hlen, hback, rfl, rfl⟩
  have hin : v ∈ es.map (·.1) := (sr.keys v).mpr ⟨hpl, Fl.R_stop hpl hat.1⟩
  obtain ⟨e, he, rfl⟩ := List.mem_map.mp hin
  have hget := entD_get sr.nd he
  have hG : GetD ((ps, .lst (p.map stepD)) :: (pf, .dK (entD es)) :: F.M g R0) (.ref pf) (.int e.1) (some (howD e.2)) := hget ▸ GetD.dk (i := e.1) (.there .here)
  have hhow := sr.how e he
  refine wt_cmp ?_ (by with_unfolding_all first | rfl | exact L2.nomark _)
  refine we_dix st ?_
  walk_at "run"
  refine ⟨_, hG, ?_⟩
  walk_at "run"
  refine od_notN ?_
  walk_at "run"
  obtain ⟨ev, eh⟩ := e
  rcases hhow with ⟨h1, h2⟩ | ⟨u, y, h1, hby⟩
  · have h1 : eh = none := h1
    subst h1
    have h0 : m = 0 := Fl.at_uniq hat h2
    subst h0
    have hb1 := hback [] (.nil hat)
    rw [List.append_nil] at hb1
    show if (!true) = true then _ else _
    rw [if_neg (by decide)]
    clear hback hG hget
    have hlk : kk ≤ F.N.n := Fl.at_small (.inl rfl) hat0
    have hpl0 : p.length = kk := hlen
    have hlev := Fl.back_lev hb1
    refine wss_cons (ws_setMapT2 (j := 4) p (fun s => .int s.1) (fun s => pairD s.2) (fun s => roomD (F.N.room g s.2 s.1)) [("block", 6), ("way", 7)] ["block", "way", "self"] [] [] bod (by decide +kernel) (by walk_at "mem") (by walk_at "mem") (by walk_at "wiped") (by walk_at "mem") (by decide +kernel) rfl (by decide +kernel) ?_)
    refine wi_list ?_
    walk_at "run"
    refine ⟨_, isR_ref .here, rfl, szl (by omega), fun _ _ => isR_ref (.there .here), fun s hs => ⟨_, _, by walk_at "put", by walk_at "put", fun X1 inn L acc => ?_⟩, fun pr => ?_⟩
    · have st1 := inn.st
      have hro3 : Ms X1.prog X1.w X1.K X1.mg X1.base 1 F.C "room" 2 (sproom X1.K F.C) := by rw [inn.pr, inn.wd, inn.fr, inn.mg, inn.base]; exact hro2
      rw [← inn.fr] at hc
      obtain ⟨j, _, _, _, hsL, _, _⟩ := hlev s hs
      refine we_ms hro3 ((inn.rm rm).mono (by decide)) st1 ?_ (by walk_at "unf") (by walk_at "unf") (by walk_at "unf")
      walk_at "e1"
      refine ⟨F.r, F.fl, F.lo, _, rfl, .there (.there (.there .here)), by walk_at "unf", ?_⟩
      walk_at "run"
      exact ⟨F, g, s.2, s.1, rfl, rfl, ((F.at g R0).cons.cons).cons, hc, ok, hsL, rfl, rfl⟩
    refine ⟨_, by walk_at "put", ?_⟩
    refine wss_cons (ws_setPick (j := 5) (p.map fun s => F.N.room g s.2 s.1) roomD (fun r => .int (r.getD 0)) Option.isSome [("room", 8)] ["room"] [] [] bod (by decide +kernel) (by walk_at "mem") (by walk_at "wiped") (by walk_at "mem") (by decide +kernel) rfl (by decide +kernel) ?_)
    refine wi_list ?_
    walk_at "run"
    refine ⟨_, isR_ref .here, by rw [List.map_map]; rfl, szl (by rw [List.length_map]; omega), fun _ _ => isR_ref (.there .here), fun r hr => ⟨_, by walk_at "put", fun X1 inn L acc => ?_, fun hi X1 inn L acc => ?_⟩, fun pb => ⟨_, by walk_at "put", ?_⟩⟩
    · have st1 := inn.st
      walk_at "run"
      refine od_notN ?_
      walk_at "run"
      cases r <;> exact ⟨rfl, rfl⟩
    · have st1 := inn.st
      walk_at "run"
      cases r with
      | none => cases hi
      | some r => exact ⟨rfl, rfl⟩
    obtain ⟨bs, hbs⟩ : ∃ bs : List Int, bs = ((p.map fun s => F.N.room g s.2 s.1).filter Option.isSome).map (·.getD 0) := ⟨_, rfl⟩
    have hbm : ∀ r : Int, r ∈ bs ↔ ∃ s ∈ p, F.N.room g s.2 s.1 = some r := fun r => by
      rw [hbs]
      constructor
      · intro h
        obtain ⟨o, ho, rfl⟩ := List.mem_map.mp h
        obtain ⟨ho, hs⟩ := List.mem_filter.mp ho
        obtain ⟨s, hs2, rfl⟩ := List.mem_map.mp ho
        refine ⟨s, hs2, ?_⟩
        cases hq : F.N.room g s.2 s.1 with
        | none => rw [hq] at hs; cases hs
        | some q => rfl
      · rintro ⟨s, hs, hq⟩
        exact List.mem_map.mpr ⟨some r, List.mem_filter.mpr ⟨List.mem_map.mpr ⟨s, hs, hq⟩, rfl⟩, rfl⟩
    rw [show (((p.map fun s => F.N.room g s.2 s.1).filter Option.isSome).map fun r => D.int (r.getD 0)) = bs.map D.int from by rw [hbs, List.map_map]; rfl]
    clear hbs
    refine wss_cons (ws_if ?_)
    walk_at "run"
    refine od_eqL st (ns := bs) (ms := []) (isR_ref .here) isR_lst ?_
    walk_at "run"
    refine ite_d (fun hnil => ?_) (fun hnil => ?_)
    · walk_at "ret"
      refine we_gc ?_
      walk_at "run"
      refine ⟨[_, _, _], _, .refl _, hQ0 kk p hb1 fun s hs => ?_⟩
      cases hq : F.N.room g s.2 s.1 with
      | none => rfl
      | some r => have := (hbm r).mpr ⟨s, hs, hq⟩; rw [hnil] at this; cases this
    refine wss_nil ?_
    obtain ⟨d, hd, hdl⟩ : ∃ d ∈ bs, ∀ y ∈ bs, d ≤ y := by
      clear hbm
      induction bs with
      | nil => exact absurd rfl hnil
      | cons b bs ih =>
        cases bs with
        | nil => exact ⟨b, by simp, fun y hy => by simp at hy; omega⟩
        | cons c cs =>
          obtain ⟨d, h1, h2⟩ := ih (by simp)
          by_cases hbd : b ≤ d
          · exact ⟨b, by simp, fun y hy => by rcases List.mem_cons.mp hy with rfl | hy; exact Int.le_refl _; exact Int.le_trans hbd (h2 y hy)⟩
          · exact ⟨d, by simp [h1], fun y hy => by rcases List.mem_cons.mp hy with rfl | hy; omega; exact h2 y hy⟩
    obtain ⟨sd, hsd, hsr⟩ := (hbm d).mp hd
    have hdpos : 0 < d := by
      obtain ⟨j, _, _, _, hsL, hsB, hsR⟩ := hlev sd hsd
      have hne := Fl.rs_room hsR
      have hq := hsr
      rw [hsr] at hne
      have hne : d ≠ 0 := fun e => hne (by rw [e])
      unfold Fl.Net.room at hq
      cases hcap : F.N.cap sd.2 with
      | none => rw [hcap] at hq; cases hq
      | some c =>
        rw [hcap] at hq
        have hbb := hbd sd.2 hsL c hcap
        have hq := Option.some.inj hq
        split at hq <;> omega
    have push : Fl.Push F.N g B kk p d := ⟨hb1, by omega, hdpos, fun s hs r hr => hdl r ((hbm r).mpr ⟨s, hs, hr⟩), sd, hsd, hsr⟩
    refine wss_cons (ws_for st (wi_list ?_))
    walk_at "run"
    refine ⟨_, isR_ref (.there (.there .here)), fun i Γ' M' => ∃ o1 o2 : Option D, Γ' = ([("self", some (.ref F.r)), ("came", some (.ref pf)), ("steps", some (.ref ps)), ("there", some (.int ev)), ("rooms", some (.ref pr)), ("bounds", some (.ref pb)), ("block", o1), ("way", o2), ("room", none)] : VEnv) ∧ M' = (pb, .lst (bs.map D.int)) :: (pr, .lst (p.map fun s => roomD (F.N.room g s.2 s.1))) :: (ps, .lst (p.map stepD)) :: (pf, .dK (entD es)) :: F.M (Fl.pushed g d (p.take i)) R0, ?_, ?_, ?_, ?_⟩
    · exact ⟨_, _, rfl, rfl⟩
    · rintro _ _ _ ⟨o1, o2, rfl, rfl⟩
      exact isR_ref (.there (.there .here))
    · rintro i x Γ' M' hx ⟨o1, o2, rfl, rfl⟩
      rw [List.getElem?_map] at hx
      obtain ⟨s, hs, rfl⟩ := Option.map_eq_some_iff.mp hx
      obtain ⟨s1, s2⟩ := s
      obtain ⟨jj, _, _, _, hsL, hsB, hsR⟩ := hlev _ (List.mem_of_getElem? hs)
      have hsL : s2 ∈ F.N.L := hsL
      have epush : Fl.pushed g d (p.take (i + 1)) = Fl.one (Fl.pushed g d (p.take i)) d (s1, s2) := by
        rw [List.take_add_one, hs]
        unfold Fl.pushed
        rw [List.foldl_append]; rfl
      refine wg_tup st rfl ?_
      refine wgs_cons (wg_name st (by walk_at "mem") (by walk_at "put") ?_)
      refine wgs_cons (wg_name st (by walk_at "mem") (by walk_at "put") ?_)
      refine wgs_nil ?_
      refine wss_one (ws_augDx st in_add (g := fun a b => a + b) (fun i j H R q => ⟨i, j, rfl, rfl, q⟩) ?_)
      refine we_fld ?_
      walk_at "e1"
      refine ⟨F.r, F.C, _, F.lo, _, .ref F.pa, rfl, .there (.there (.there (.there .here))), hc.cls, hc.along, rfl, ?_⟩
      walk_at "run"
      refine ⟨F.pa, _, _, keyI s2, _, rfl, rfl, .there (.there (.there (.there (.there (.there (.there .here)))))), fnD_val hsL, ?_⟩
      have key : ∀ z : Int, z = (if s2.1 = s1 then d else 0 - d) → putA (fnD F.N.L (Fl.pushed g d (p.take i))) (keyI s2) (.int (Fl.pushed g d (p.take i) s2 + z)) = fnD F.N.L (Fl.one (Fl.pushed g d (p.take i)) d (s1, s2)) := fun z hz => by
        rw [fnD_put hsL, hz]
        unfold Fl.one
        refine congrArg (fnD F.N.L) (funext fun v => ?_)
        by_cases e : v = s2
        · rw [if_pos e, if_pos e, e]
        · rw [if_neg e, if_neg e]
      refine we_if ?_
      walk_at "run"
      refine ⟨_, _, rfl, IxD.tup rfl, ?_⟩
      walk_at "run"
      have hl4 := ok.l40
      refine ite_d (fun h1 => ?_) (fun h1 => ?_)
      · have h1 : s2.1 = s1 := h1
        walk_at "run"
        refine cd_minL st (isR_ref .here) hd hdl ?_
        refine ⟨d, _, rfl, .there (.there (.there (.there (.there (.there (.there .here)))))), szlt (by unfold fnD; rw [List.length_map]; omega), ?_⟩
        refine ⟨_, _, rfl, ?_⟩
        rw [epush, key d (by rw [if_pos h1])]
        rfl
      · have h1 : ¬ s2.1 = s1 := h1
        walk_at "run"
        refine cd_minL st (isR_ref .here) hd hdl ?_
        walk_at "run"
        refine ⟨0 - d, _, rfl, .there (.there (.there (.there (.there (.there (.there .here)))))), szlt (by unfold fnD; rw [List.length_map]; omega), ?_⟩
        refine ⟨_, _, rfl, ?_⟩
        rw [epush, key (0 - d) (by rw [if_neg h1])]
        rfl
    · rintro Γ' M' ⟨o1, o2, rfl, rfl⟩
      rw [List.length_map, List.take_length]
      walk_at "ret"
      refine we_gc ?_
      walk_at "run"
      exact ⟨[_, _, _], _, .refl _, hQ1 kk p d push⟩
  · have h1 : eh = some (u, y) := h1
    subst h1
    obtain ⟨k', ha1, ha2, hyL, hub, hrs, hot⟩ := hby
    have hmk : m = k' + 1 := Fl.at_uniq hat ha2
    subst hmk
    show if (!false) = true then _ else _
    rw [if_pos (by decide)]
    walk_at "expr"
    walk_at "e1"
    walk_at "e1"
    refine gTy (tyL (isR_ref .here)) ?_
    refine wa_cons ?_
    refine we_dix st ?_
    walk_at "run"
    refine ⟨_, hG, ?_⟩
    walk_at "run"
    refine md_append (by walk_at "at") (szlt (by rw [List.length_map]; have := Fl.at_small hpl hat; have := Fl.at_small (.inl rfl) hat0; omega)) ?_
    walk_at "set"
    refine we_ix ?_ (by with_unfolding_all exact fun _ _ => rfl)
    refine we_dix st ?_
    walk_at "run"
    have hG2 : GetD ((ps, .lst (p.map stepD ++ [howD (some (u, y))])) :: (pf, .dK (entD es)) :: F.M g R0) (.ref pf) (.int ev) (some (howD (some (u, y)))) := hget ▸ GetD.dk (i := ev) (.there .here)
    refine ⟨_, hG2, ?_⟩
    walk_at "run"
    refine ⟨_, _, rfl, IxD.tup rfl, ?_⟩
    walk_at "run"
    refine wss_nil ?_
    exact ⟨k', Nat.lt_succ_self _, u, p ++ [(u, y)], .inr hub, ha1, by rw [List.length_append, List.length_singleton]; omega, fun p' hp => by rw [List.append_assoc]; exact hback _ (.cons hp hyL hub hrs hot ha2), rfl, by rw [List.map_append]; rfl⟩
end
end Gen

namespace Gen
open PySem L2 DL Wk
section
variable {P : Program} {w : World} {K : PySem.W.Frag} {mg : Str → Option Value} {base : Heap}
abbrev spfill (K : PySem.W.Frag) (C : Addr) : DSp := fun ds M Q => ∃ (F : Fw) (f : Int × Int → Int) (B : List Int) (R0 : Mem), F.C = C ∧ ds = [.ref F.r, .lst (B.map D.int)] ∧ M = F.M f R0 ∧ FlC K F.C ∧ FwOk F ∧ B.Nodup ∧ (∀ b ∈ B, b ∈ F.N.blocks) ∧ F.N.Bd f ∧ F.N.Cons f B ∧
  (∀ f', (∀ S, ¬ Fl.Fits F.N B S) → Q (.bl false) (F.M f' R0)) ∧ ∀ f', Fl.Full F.N B f' → Q (.bl true) (F.M f' R0)
theorem okfill {C f : Addr} {fd : FuncData} (F : Fun K "fill" "Flow.fill" sFlow_fill f fd) (hb : Binds K fd ["self", "begins"] []) (hm : Meth K C "fill" f) (hc : FlC K C) (hD : ∃ t, mg "DOOR" = some (.int (-1) t))
    (hre : Ms P w K mg base 2 C "reach" 1 (spreach K C)) (hpu : Ms P w K mg base 2 C "push" 1 (sppush K C)) : Ms P w K mg base 3 C "fill" 1 (spfill K C) := by
  refine ⟨f, fd, ["self", "begins"], hc.cls, hm, hb, rfl, gok_body (k := 2) (N := nFlow_fill) (Ln := lFlow_fill) (Bn := []) (Fn := ["DOOR"]) (Bx := []) F scFlow_fill rfl (by decide +kernel) (fun _ h => by cases h) ?_⟩
  rintro X ds M Q bod ⟨F, g, B, R0, rfl, rfl, rfl, hc, ok, hnd, hB, hbd, hcons, hQ0, hQ1⟩
  have st := bod.st
  have rm := bod.room
  rw [← bod.fr] at hc
  have hre2 : Ms X.prog X.w X.K X.mg X.base 2 F.C "reach" 1 (spreach X.K F.C) := by rw [bod.pr, bod.wd, bod.fr, bod.mg, bod.base]; exact hre
  have hpu2 : Ms X.prog X.w X.K X.mg X.base 2 F.C "push" 1 (sppush X.K F.C) := by rw [bod.pr, bod.wd, bod.fr, bod.mg, bod.base]; exact hpu
  obtain ⟨tk, hD⟩ := hD
  rw [← bod.mg] at hD
  show WSs X ([("self", some (.ref F.r)), ("begins", some (.lst (B.map D.int))), ("came", none)] : VEnv) _ _ _
  walk_at "set"
  refine we_ms hre2 (rm.mono (by decide)) st ?_ (by walk_at "unf") (by walk_at "unf") (by walk_at "unf")
  walk_at "e1"
  refine ⟨F.r, F.fl, F.lo, _, rfl, .here, by walk_at "unf", ?_⟩
  walk_at "run"
  refine ⟨F, g, B, R0, rfl, rfl, rfl, hc, ok, hnd, hB, fun pf es sr => ?_⟩
  walk_at "run"
  refine wss_cons (ws_while st (fun m Γ' M' => ∃ (f' : Int × Int → Int) (es : List Fl.Ent) (pf : Addr), F.N.Bd f' ∧ F.N.Cons f' B ∧ SrchF F.N f' B es ∧ m = F.N.mu f' B ∧ Γ' = ([("self", some (.ref F.r)), ("begins", some (.lst (B.map D.int))), ("came", some (.ref pf))] : VEnv) ∧ M' = (pf, .dK (entD es)) :: F.M f' R0) _ ⟨g, es, pf, hbd, hcons, sr, rfl, rfl, rfl⟩ ?_)
  clear sr hbd hcons
  rintro m Γ' M' ⟨g, es, pf, hbd, hcons, sr, hmu, rfl, rfl⟩
  refine wt_cmp ?_ (by with_unfolding_all first | rfl | exact L2.nomark _)
  refine we_const st (by walk_at "mem") hD ?_
  walk_at "run"
  rw [entD_in]
  walk_at "run"
  refine ite_d (fun hd => ?_) (fun hd => ?_)
  · refine wss_cons (ws_if ?_)
    refine wt_not ?_
    refine wt_truth ?_ (by with_unfolding_all exact fun _ => rfl)
    refine we_ms hpu2 (rm.mono (by decide)) st ?_ (by walk_at "unf") (by walk_at "unf") (by walk_at "unf")
    walk_at "e1"
    refine ⟨F.r, F.fl, F.lo, _, rfl, .there .here, by walk_at "unf", ?_⟩
    walk_at "run"
    refine ⟨F, g, B, es, R0, pf, rfl, rfl, rfl, hc, ok, sr, hbd, hd, fun k p hbk hnone => ?_, fun k p d push => ?_⟩
    · refine ⟨false, rfl, ?_⟩
      rw [if_pos (by decide)]
      walk_at "ret"
      refine we_gc ?_
      walk_at "run"
      exact ⟨[_], _, .refl _, hQ0 g fun S hS => by
        have h1 := Fl.no_fits ok.ok hS hbk hnone
        have h2 := Fl.mem_blocks.mp (hS.sub _ h1)
        omega⟩
    · refine ⟨true, rfl, ?_⟩
      rw [if_neg (by decide)]
      refine wss_nil ?_
      refine wss_gc (G := [(pf, .dK (entD es))]) (M2 := F.M (Fl.pushed g d p) R0) (.refl _) ?_
      walk_at "set"
      refine we_ms hre2 (rm.mono (by decide)) st ?_ (by walk_at "unf") (by walk_at "unf") (by walk_at "unf")
      walk_at "e1"
      refine ⟨F.r, F.fl, F.lo, _, rfl, .here, by walk_at "unf", ?_⟩
      walk_at "run"
      refine ⟨F, _, B, R0, rfl, rfl, rfl, hc, ok, hnd, hB, fun pf2 es2 sr2 => ?_⟩
      walk_at "run"
      refine wss_nil ?_
      exact ⟨_, by rw [hmu]; exact Fl.mu_falls ok.ok push, Fl.pushed g d p, es2, pf2, Fl.bd_pushed ok.ok push hbd, Fl.cons_pushed ok.ok push hcons, sr2, rfl, rfl, rfl⟩
  · walk_at "ret"
    refine we_gc ?_
    walk_at "run"
    refine ⟨[_], _, .refl _, hQ1 g ?_⟩
    refine ⟨hbd, hcons, ?_⟩
    cases hr : F.N.R g B F.N.n (-1) with
    | false => rfl
    | true => exact absurd ((sr.keys (-1)).mpr ⟨.inl rfl, hr⟩) hd
end
end Gen

namespace Gen
open PySem L2 DL Wk
abbrev scome_to : Stmt := top 4
abbrev lcome_to : List Str := ["nexts", "begins", "found", "waiting", "there"]
abbrev ncome_to : List Str := ["nexts", "begins", "found", "waiting", "there", "block"]
theorem sccome_to : FnScope ncome_to ["nexts", "begins"] (defScope scome_to) := ⟨rfl, rfl, rfl, by decide +kernel, rfl, by decide +kernel, by decide +kernel⟩
abbrev snexts_of : Stmt := top 3
abbrev lnexts_of : List Str := ["work"]
abbrev nnexts_of : List Str := ["work", "deeds", "end"]
theorem scnexts_of : FnScope nnexts_of ["work"] (defScope snexts_of) := ⟨rfl, rfl, rfl, by decide +kernel, rfl, by decide +kernel, by decide +kernel⟩
section
variable {P : Program} {w : World} {K : PySem.W.Frag} {mg : Str → Option Value} {base : Heap}
abbrev spcome_to : DSp := fun ds M Q => ∃ (nx : List (List Nat)) (bs : List Nat), ds = [.lst (nx.map nlD), .lst (bs.map natD)] ∧ NxIn nx ∧ (∀ b ∈ bs, b < nx.length) ∧ nx.length ≤ 60 ∧ bs.length ≤ 1000 ∧ (∀ l ∈ nx, l.length ≤ 1000) ∧ ∀ p, Q (.ref p) ((p, .lst ((comeL nx bs).map natD)) :: M)
theorem okcome_to {f : Addr} {fd : FuncData} (F : Fun K "come_to" "come_to" scome_to f fd) (hm : mg "come_to" = some (.ref f)) (hb : Binds K fd ["nexts", "begins"] []) (hB : ∀ x ∈ (["dict", "list", "len", "sorted"] : List Str), mg x = none) : Fs P w K mg base 1 "come_to" 2 spcome_to := by
  refine fs_of (N := ncome_to) (Ln := lcome_to) (Bn := ["dict", "list", "len", "sorted"]) (Fn := []) (Bx := ["dict", "list", "len", "sorted"]) F hm hb sccome_to rfl (by decide +kernel) hB ?_
  rintro X ds M Q bod ⟨nx, bs, rfl, hn, hb, h60, hbl, hnl, hQ⟩
  have st := bod.st
  show WSs X ([("nexts", some (.lst (nx.map nlD))), ("begins", some (.lst (bs.map natD))), ("found", none), ("waiting", none), ("there", none), ("block", none)] : VEnv) M _ _
  walk_at "set"
  walk_at "run"
  refine we_frz ?_
  refine we_map bs natD (fun n => .tup [natD n, .bl true]) [("block", 5)] ["block"] [] [] bod (by decide +kernel) (by walk_at "mem") (by walk_at "wiped") ?_
  refine wi_list ?_
  walk_at "run"
  refine ⟨_, isR_lst, rfl, szl (by omega), fun _ _ => isR_lst, fun a ha => ⟨_, by walk_at "put", fun X1 inn L acc => ?_⟩, fun p => ⟨_, _, _, rfl, rfl, ?_⟩⟩
  · have st1 := inn.st
    walk_at "run"
    exact ⟨rfl, rfl⟩
  refine wa_nil ?_
  refine cd_dictP st (ps := bs.map fun (n : Nat) => ((.inl (n : Int) : Key), D.bl true)) (by rw [List.map_map]; exact isR_lst) fun pf => ?_
  walk_at "run"
  walk_at "set"
  walk_at "run"
  refine cd_listO (.inl isR_lst) fun pw => ?_
  walk_at "run"
  obtain ⟨fd0, hk0, nd0, hm0, _⟩ := (KeysOf.merge (v := .bl true) bs keys_nil).ex
  rw [List.nil_append] at hm0
  refine wss_cons (ws_while st (fun m Γ' M' => ∃ (fd wt : List Nat) (kvs : List (Key × D)) (o1 : Option D), Dfs nx bs fd wt (fun _ => False) ∧ kvs.map (·.1) = (fd.map fun (n : Nat) => (Sum.inl (n : Int) : Key)) ∧ m = wt.length + 2 * (nx.length - fd.length) ∧ m ≤ bs.length + 2 * nx.length ∧ Γ' = ([("nexts", some (.lst (nx.map nlD))), ("begins", some (.lst (bs.map natD))), ("found", some (.ref pf)), ("waiting", some (.ref pw)), ("there", o1), ("block", none)] : VEnv) ∧ M' = (pw, .lst (wt.map natD)) :: (pf, .dK kvs) :: M) _ ⟨fd0, bs, _, _, .start nd0 hm0, hk0, rfl, by omega, rfl, rfl⟩ ?_)
  rintro m Γ' M' ⟨fd, wt, kvs, o1, dfs, hk, hm, hmb, rfl, rfl⟩
  walk_at "run"
  refine ite_d (fun hpos => ?_) (fun hpos => ?_)
  · have hne : wt ≠ [] := by rintro rfl; simp at hpos
    obtain ⟨wt, b, rfl⟩ : ∃ wt' b, wt = wt' ++ [b] := ⟨wt.dropLast, wt.getLast hne, (List.dropLast_concat_getLast hne).symm⟩
    obtain ⟨hbf, dfs1⟩ := dfs.pop
    have hbl2 := dfs.lt hn hb b hbf
    have el : nx[b]? = some nx[b] := List.getElem?_eq_getElem hbl2
    generalize nx[b] = l at el
    have hlm := List.mem_of_getElem? el
    have hll := hnl l hlm
    rw [List.length_append, List.length_singleton] at hm
    refine wss_one (ws_for st (wi_list ?_))
    rw [List.map_append, List.map_singleton]
    walk_at "run"
    refine md_pop (by walk_at "at") ?_
    refine ⟨_, _, rfl, IxD.list isR_lst (atI_map el), ?_⟩
    refine ⟨_, isR_lst, fun i Γ' M' => ∃ (fd wt : List Nat) (kvs : List (Key × D)) (o1 : Option D), Dfs nx bs fd wt (fun a => a = b) ∧ (∀ c ∈ l.take i, c ∈ fd) ∧ b ∈ fd ∧ kvs.map (·.1) = (fd.map fun (n : Nat) => (Sum.inl (n : Int) : Key)) ∧ wt.length + 2 * (nx.length - fd.length) + 1 ≤ m ∧ Γ' = ([("nexts", some (.lst (nx.map nlD))), ("begins", some (.lst (bs.map natD))), ("found", some (.ref pf)), ("waiting", some (.ref pw)), ("there", o1), ("block", none)] : VEnv) ∧ M' = (pw, .lst (wt.map natD)) :: (pf, .dK kvs) :: M, ?_, ?_, ?_, ?_⟩
    · exact ⟨fd, wt, kvs, _, dfs1, by simp, hbf, hk, by omega, rfl, rfl⟩
    · exact fun _ _ _ _ => isR_lst
    · rintro i x Γ' M' hx ⟨fd, wt, kvs, o1, dfs, hdone, hbf, hk, hmm, rfl, rfl⟩
      rw [List.getElem?_map] at hx
      obtain ⟨c, hc, rfl⟩ := Option.map_eq_some_iff.mp hx
      have hcl := List.mem_of_getElem? hc
      have hcn := hn.lt l hlm c hcl
      have hlen := dfs.len hn hb
      refine wg_name st (by walk_at "mem") (by walk_at "put") ?_
      refine wss_one (ws_if ?_)
      walk_at "run"
      refine od_notInD st (GetD.dk (i := (c : Int)) (by walk_at "at")) ?_
      rw [valA_in hk]
      have htk : ∀ fd' : List Nat, (∀ y ∈ fd, y ∈ fd') → c ∈ fd' → ∀ y ∈ l.take (i + 1), y ∈ fd' := fun fd' h1 h2 y hy => by
        rw [List.take_add_one, hc] at hy
        rcases List.mem_append.mp hy with hy | hy
        · exact h1 y (hdone y hy)
        · rw [Option.mem_toList] at hy
          exact Option.some.inj hy ▸ h2
      walk_at "run"
      refine ite_n (fun hnot => ?_) (fun hin => ?_)
      · walk_at "asg"
        walk_at "run"
        refine wg_dix st ?_ (by intro _; with_unfolding_all rfl)
        walk_at "run"
        have hfl : (fd ++ [c]).length ≤ nx.length := (dfs.push hbf el hcl hnot).len hn hb
        rw [List.length_append, List.length_singleton] at hfl
        have hkl : kvs.length = fd.length := by have := congrArg List.length hk; simpa using this
        refine ⟨pf, _, rfl, .inl ⟨kvs, .inl (c : Int), by walk_at "at", rfl, szlt (by omega), ?_⟩⟩
        walk_at "expr"
        walk_at "run"
        refine md_append (by walk_at "at") (szlt (by rw [List.length_map]; omega)) ?_
        refine wss_nil ?_
        refine ⟨fd ++ [c], wt ++ [c], putA kvs (.inl (c : Int)) (.bl true), _, dfs.push hbf el hcl hnot, htk _ (fun y hy => by simp [hy]) (by simp), by simp [hbf], ?_, ?_, rfl, ?_⟩
        · rw [putA_keys, valA_in hk, if_neg (by simpa using hnot), hk, List.map_append]; rfl
        · simp only [List.length_append, List.length_singleton]; omega
        · simp
      · exact wss_nil ⟨fd, wt, kvs, _, dfs, htk _ (fun y hy => hy) hin, hbf, hk, hmm, rfl, rfl⟩
    · rintro Γ' M' ⟨fd, wt, kvs, o1, dfs, hdone, hbf, hk, hmm, rfl, rfl⟩
      rw [List.length_map, List.take_length] at hdone
      exact ⟨_, by omega, fd, wt, kvs, _, dfs.done el hdone, hk, rfl, by omega, rfl, rfl⟩
  · have : wt = [] := by
      cases wt with
      | nil => rfl
      | cons a t => simp at hpos
    subst this
    have pm := dfs.fin hn hb
    have hfl := dfs.len hn hb
    walk_at "ret"
    refine we_finO ?_
    walk_at "run"
    refine cd_sortedKO st (by walk_at "at") (ks := fd.map fun (n : Nat) => (n : Int)) (by rw [hk, List.map_map]; rfl) (by rw [List.length_map]; omega) (pm.map _) (upI comeL_up) fun p => ?_
    refine ⟨p, _, [(pw, _), (pf, _)], M, rfl, .trans (.swap _ _ _) (.cons _ (.swap _ _ _)), ?_⟩
    rw [List.map_map]
    exact hQ p
abbrev spnexts_of : DSp := fun ds M Q => ∃ (d : D) (w : W), ds = [d] ∧ IsR M d (w.map Bk.d) ∧ (∀ L acc, IsR ((L, .lst acc) :: M) d (w.map Bk.d)) ∧ w.length ≤ 60 ∧ Q (.lst ((nexts w).map nlD)) M
theorem oknexts_of {f : Addr} {fd : FuncData} (F : Fun K "nexts_of" "nexts_of" snexts_of f fd) (hm : mg "nexts_of" = some (.ref f)) (hb : Binds K fd ["work"] []) (hB : ∀ x ∈ (["list"] : List Str), mg x = none) : Fs P w K mg base 1 "nexts_of" 1 spnexts_of := by
  refine fs_of (N := nnexts_of) (Ln := lnexts_of) (Bn := []) (Fn := []) (Bx := ["list"]) F hm hb scnexts_of rfl (by decide +kernel) hB ?_
  rintro X ds M Q bod ⟨d, w, rfl, hd, hst, hl, hQ⟩
  have st := bod.st
  show WSs X ([("work", some (d)), ("deeds", none), ("end", none)] : VEnv) M _ _
  walk_at "ret"
  refine we_frz ?_
  refine we_mapT2 w (fun b => .lst (b.1.map Dd.d)) (fun b => b.2.d) (fun b => nlD b.2.nx) [("deeds", 1), ("end", 2)] ["deeds", "end"] ["list"] [] bod (by decide +kernel) (by walk_at "mem") (by walk_at "mem") (by walk_at "wiped") ?_
  refine wi_list ?_
  walk_at "run"
  refine ⟨_, hd, rfl, szl (by omega), hst, fun b hb => ⟨_, _, by walk_at "put", by walk_at "put", fun X1 inn L acc => ?_⟩, fun p => ⟨_, _, _, rfl, rfl, ?_⟩⟩
  · have st1 := inn.st
    walk_at "run"
    obtain ⟨ds, e1, e2⟩ := b.2.cut
    refine ⟨_, .inr (.inl ⟨ds, e1, rfl⟩), ?_⟩
    walk_at "run"
    rw [e2]
    refine cd_list (.inr rfl) ?_
    exact ⟨rfl, rfl⟩
  · unfold nexts at hQ
    rw [List.map_map] at hQ
    exact hQ
end
end Gen

namespace Gen
open PySem L2 DL Wk
abbrev sways_of : Stmt := top 5
abbrev lways_of : List Str := ["work", "found", "block", "there"]
abbrev nways_of : List Str := ["work", "found", "block", "there", "to"]
theorem scways_of : FnScope nways_of ["work"] (defScope sways_of) := ⟨rfl, rfl, rfl, by decide +kernel, rfl, by decide +kernel, by decide +kernel⟩
section
variable {P : Program} {w : World} {K : PySem.W.Frag} {mg : Str → Option Value} {base : Heap}
abbrev spways_of : DSp := fun ds M Q => ∃ w : W, ds = [W.d w] ∧ w.length ≤ 16 ∧ Q (.lst ((ways w).map pairD)) M
theorem okways_of {f : Addr} {fd : FuncData} (F : Fun K "ways_of" "ways_of" sways_of f fd) (hm : mg "ways_of" = some (.ref f)) (hb : Binds K fd ["work"] []) (hB : ∀ x ∈ (["enumerate", "sorted", "len"] : List Str), mg x = none) (hDOOR : ∃ t, mg "DOOR" = some (.int (-1) t)) (hnexts_of : Fs P w K mg base 1 "nexts_of" 1 spnexts_of) : Fs P w K mg base 2 "ways_of" 1 spways_of := by
  refine fs_of (N := nways_of) (Ln := lways_of) (Bn := ["enumerate", "sorted", "len"]) (Fn := ["DOOR", "nexts_of"]) (Bx := ["enumerate", "sorted", "len"]) F hm hb scways_of rfl (by decide +kernel) hB ?_
  rintro X ds M Q bod ⟨w, rfl, hl, hQ⟩
  have st := bod.st
  have rm := bod.room
  have he := bod.tr hnexts_of
  obtain ⟨tk, hD⟩ := hDOOR
  rw [← bod.mg] at hD
  show WSs X ([("work", some (.lst (w.map Bk.d))), ("found", none), ("block", none), ("there", none), ("to", none)] : VEnv) M _ _
  walk_at "set"
  refine we_lstO ?_
  refine wa_cons (we_tup (wa_cons (we_const st (by walk_at "mem") hD ?_) (by walk_at "unf"))) (by walk_at "unf")
  walk_at "run"
  intro pf
  walk_at "run"
  refine wss_cons (ws_for st (wi_enum st (by walk_at "mem") ?_))
  walk_at "run"
  refine ⟨_, _, rfl, isR_lst, fun L acc => isR_lst, by omega, ?_⟩
  unfold nexts
  rw [List.map_map]
  refine ⟨_, isR_lst, fun i Γ' M' => ∃ o1 o2 : Option D, Γ' = ([("work", some (.lst (w.map Bk.d))), ("found", some (.ref pf)), ("block", o1), ("there", o2), ("to", none)] : VEnv) ∧ M' = (pf, .lst (((-1, 0) :: waysFrom w.length 0 ((w.map (·.2)).take i)).map pairD)) :: M, ?_, ?_, ?_, ?_⟩
  · exact ⟨_, _, rfl, rfl⟩
  · exact fun _ _ _ _ => isR_lst
  · rintro i x Γ' M' hx ⟨o1, o2, rfl, rfl⟩
    unfold enumD at hx
    rw [List.getElem?_mapIdx, List.getElem?_map] at hx
    obtain ⟨y, hy, rfl⟩ := Option.map_eq_some_iff.mp hx
    obtain ⟨b, hb, rfl⟩ := Option.map_eq_some_iff.mp hy
    have hi := (List.getElem?_eq_some_iff.mp hb).1
    refine wg_tup st rfl ?_
    refine wgs_cons (wg_name st (by walk_at "mem") (by walk_at "put") ?_)
    refine wgs_cons (wg_name st (by walk_at "mem") (by walk_at "put") ?_)
    refine wgs_nil ?_
    have hlen := waysFrom_len w.length ((w.map (·.2)).take i) 0
    rw [List.length_take, List.length_map] at hlen
    have hsx := b.2.sx_len
    walk_at "expr"
    walk_at "run"
    refine we_frz ?_
    refine we_map b.2.sx natD (fun (t : Nat) => pairD ((i : Int), (t : Int))) [("to", 4)] ["to", "block"] [] [] bod (by decide +kernel) (by walk_at "mem") (by walk_at "wiped") ?_
    refine wi_list ?_
    walk_at "run"
    refine cd_sortedI isR_nl b.2.sx_perm b.2.sx_up ?_
    rw [List.map_map]
    refine ⟨_, isR_lst, rfl, szl (by omega), fun _ _ => isR_lst, fun a ha => ⟨_, by walk_at "put", fun X1 inn L acc => ?_⟩, fun p => ⟨_, _, _, rfl, rfl, ?_⟩⟩
    · have st1 := inn.st
      walk_at "run"
      exact ⟨rfl, rfl⟩
    walk_at "run"
    refine md_extend (by walk_at "at") isL_lst ?_ ?_
    · simp only [List.length_map, List.length_cons]
      exact szl (by omega)
    have hb2 : (w.map (·.2))[i]? = some b.2 := by rw [List.getElem?_map, hb]; rfl
    have key : waysFrom w.length 0 ((w.map (·.2)).take (i + 1)) = waysFrom w.length 0 ((w.map (·.2)).take i) ++ wayK w.length i b.2 := by
      rw [List.take_add_one, hb2]
      simp only [Option.toList_some]
      rw [waysFrom_app, show ((w.map (·.2)).take i).length = i by simp; omega, Nat.zero_add]
    refine wss_one (ws_if ?_)
    walk_at "run"
    refine od_eqNL (b := []) st ?_
    walk_at "run"
    refine ite_d (fun h => ?_) (fun h => ?_)
    · walk_at "expr"
      walk_at "run"
      refine md_append (by walk_at "at") ?_ ?_
      · simp only [List.length_append, List.length_map, List.length_cons]
        exact szlt (by omega)
      refine wss_nil ?_
      refine ⟨some (.int (i : Int)), some (nlD b.2.nx), rfl, ?_⟩
      rw [key]
      unfold wayK
      rw [if_pos h, sx_nil _ h]
      simp [pairD]
    · refine wss_nil ?_
      refine ⟨some (.int (i : Int)), some (nlD b.2.nx), rfl, ?_⟩
      rw [key]
      unfold wayK
      rw [if_neg h]
      simp [pairD]
  · rintro Γ' M' ⟨o1, o2, rfl, rfl⟩
    rw [enumD_len, List.length_map, List.take_of_length_le (by simp)]
    walk_at "ret"
    refine we_frz ?_
    walk_at "run"
    exact ⟨_, _, _, rfl, rfl, hQ⟩
end
end Gen

namespace Gen
open PySem L2 DL Wk
abbrev sFlow_init : Stmt := inClass (top 8) 0
abbrev lFlow_init : List Str := ["self", "work", "counts", "prices", "shut", "way", "count", "block"]
abbrev nFlow_init : List Str := ["self", "work", "counts", "prices", "shut", "way", "count", "block"]
theorem scFlow_init : FnScope nFlow_init ["self", "work", "counts", "prices", "shut"] (defScope sFlow_init) := ⟨rfl, rfl, rfl, by decide +kernel, rfl, by decide +kernel, by decide +kernel⟩
theorem putFD_lt2 {f : Str} {v : D} {k n : Nat} : ∀ {l : List (Str × D)}, l.length + (k + 1) < n → (putFD f v l).length + k < n
  | [], h => by show 1 + k < n; simp at h; omega
  | (g, x) :: r, h => by
    unfold putFD
    split
    · simp only [List.length_cons] at h ⊢; omega
    · have := putFD_lt2 (f := f) (v := v) (k := k + 1) (n := n) (l := r) (by simp only [List.length_cons] at h; omega)
      simp only [List.length_cons]; omega
theorem zip_pairs {L : List (Int × Int)} {c : Int × Int → Int} : zipD (L.map pairD) (L.map fun w => D.int (c w)) = L.map fun w => D.tup [pairD w, .int (c w)] := by
  unfold zipD
  induction L with
  | nil => rfl
  | cons w L ih => simp only [List.map_cons, List.zipWith_cons_cons, ih]
theorem nodup_take_not {α : Type} {l : List α} {i : Nat} {a : α} (nd : l.Nodup) (h : l[i]? = some a) : a ∉ l.take i := by
  intro hm
  have hd : a ∈ l.drop i := List.mem_of_getElem? (i := 0) (by rw [List.getElem?_drop]; exact h)
  have h2 : (l.take i ++ l.drop i).Nodup := by rw [List.take_append_drop]; exact nd
  rw [List.nodup_append] at h2
  exact h2.2.2 a hm a hd rfl
def lsM (gs : List Addr) (xs : List (List (Int × Int))) : Mem := List.zipWith (fun g l => (g, Cell.lst (l.map pairD))) gs xs
theorem at_lsM (M : Mem) : ∀ {gs : List Addr} {xs : List (List (Int × Int))} {k : Nat} {g : Addr} {x : List (Int × Int)}, gs[k]? = some g → xs[k]? = some x → ∃ f, At g (lsM gs xs ++ M) (.lst (x.map pairD)) f ∧ ∀ y : List (Int × Int), f (.lst (y.map pairD)) = lsM gs (xs.set k y) ++ M
  | [], _, _, _, _, h, _ => by simp at h
  | _ :: _, [], _, _, _, _, h => by simp at h
  | a :: gs, z :: xs, 0, g, x, h1, h2 => by
    simp only [List.getElem?_cons_zero, Option.some.injEq] at h1 h2
    subst h1 h2
    exact ⟨_, .here, fun y => rfl⟩
  | a :: gs, z :: xs, k + 1, g, x, h1, h2 => by
    obtain ⟨f, h3, h4⟩ := at_lsM M (gs := gs) (xs := xs) (k := k) (by simpa using h1) (by simpa using h2)
    exact ⟨_, .there h3, fun y => by show _ :: f _ = _; rw [h4]; rfl⟩
theorem lsM_nil : ∀ gs : List Addr, lsM gs (List.replicate gs.length []) = gs.map fun q => (q, Cell.lst [])
  | [] => rfl
  | q :: gs => by show _ :: lsM gs (List.replicate gs.length []) = _; rw [lsM_nil gs]; rfl
theorem perm4 {α : Type} {G G' : List α} (four R0 : List α) (h : G'.Perm G) : (G' ++ (four ++ R0)).Perm (four.reverse ++ (G ++ R0)) := by
  rw [← List.append_assoc, ← List.append_assoc]
  exact ((List.perm_append_comm).trans ((List.reverse_perm four).symm.append h)).append_right R0
/-- the ways that touch each block, of the first i ways; of blocks below j one way more -/
def tchI (n : Nat) (L : List (Int × Int)) (i j : Nat) : List (List (Int × Int)) := (List.range n).map fun (k : Nat) => (L.take (if k < j then i + 1 else i)).filter fun w => Fl.touch w (k : Int)
theorem tchI_get {n : Nat} {L : List (Int × Int)} {i j : Nat} (h : j < n) : (tchI n L i j)[j]? = some ((L.take i).filter fun w => Fl.touch w (j : Int)) := by
  unfold tchI
  rw [List.getElem?_map, List.getElem?_range h]
  show some ((L.take (if j < j then i + 1 else i)).filter _) = _
  rw [if_neg (Nat.lt_irrefl _)]
theorem tchI_set {n : Nat} {L : List (Int × Int)} {i j : Nat} : (tchI n L i j).set j ((L.take (i + 1)).filter fun w => Fl.touch w (j : Int)) = tchI n L i (j + 1) := by
  refine List.ext_getElem? fun k => ?_
  rw [List.getElem?_set]
  unfold tchI
  rw [List.length_map, List.length_range, List.getElem?_map, List.getElem?_map]
  by_cases hk : k < n
  · rw [List.getElem?_range hk]
    by_cases e : j = k
    · subst e; rw [if_pos rfl, if_pos hk]; simp
    · rw [if_neg e]
      rcases Nat.lt_or_ge k j with q | q
      · simp [q, Nat.lt_succ_of_lt q]
      · simp [Nat.not_lt.mpr q, show ¬ k < j + 1 by omega]
  · rw [List.getElem?_eq_none (by rw [List.length_range]; omega)]
    by_cases e : j = k
    · subst e; rw [if_pos rfl, if_neg hk]; rfl
    · rw [if_neg e]; rfl
theorem tchI_same {n : Nat} {L : List (Int × Int)} {i j : Nat} (h : (L.take (i + 1)).filter (fun w => Fl.touch w (j : Int)) = (L.take i).filter fun w => Fl.touch w (j : Int)) : tchI n L i (j + 1) = tchI n L i j := by
  unfold tchI
  refine List.map_congr_left fun k _ => ?_
  by_cases e : k = j
  · subst e; rw [if_pos (Nat.lt_succ_self _), if_neg (Nat.lt_irrefl _), h]
  · have : (k < j + 1) ↔ (k < j) := by omega
    simp only [this]
theorem tchI_next {n : Nat} {L : List (Int × Int)} {i : Nat} : tchI n L i n = tchI n L (i + 1) 0 := by
  unfold tchI
  refine List.map_congr_left fun k hk => ?_
  rw [if_pos (List.mem_range.mp hk), if_neg (Nat.not_lt_zero _)]
theorem tch_fin {N : Fl.Net} {gs : List Addr} : lsM gs (tchI N.n N.L N.L.length 0) = tchM N gs := by
  unfold lsM tchM tchI Fl.Net.blocks tchL
  rw [List.zipWith_map_right, List.zipWith_map_right]
  refine congrArg (fun F => List.zipWith F gs (List.range N.n)) (funext fun g => funext fun k => ?_)
  show (g, Cell.lst (((N.L.take (if k < 0 then N.L.length + 1 else N.L.length)).filter fun w => Fl.touch w (k : Int)).map pairD)) = _
  rw [if_neg (Nat.not_lt_zero _), List.take_length]
theorem fnD_snoc {L : List (Int × Int)} {f : Int × Int → Int} {w : Int × Int} (h : w ∉ L) : putA (fnD L f) (keyI w) (.int (f w)) = fnD (L ++ [w]) f := by
  unfold putA
  rw [if_neg]
  · unfold fnD
    rw [List.map_append]; rfl
  · rw [List.any_eq_true]
    rintro ⟨kv, hk, e⟩
    obtain ⟨d, hd, rfl⟩ := List.mem_map.mp hk
    have e : keyI d = keyI w := of_decide_eq_true e
    exact h (keyI_inj e ▸ hd)
section
variable {P : Program} {w : World} {K : PySem.W.Frag} {mg : Str → Option Value} {base : Heap}
/-- what a new flow's instance is made of -/
structure FwIn where
  wk : W
  c : Int × Int → Int
  p0 : Int
  p1 : Int
  sh : List (Int × Int)
def FwIn.net (I : FwIn) : Fl.Net := ⟨I.wk.length, ways I.wk, fun w => if w ∈ I.sh then none else some (0 - I.c w * I.p0, I.c w * I.p1)⟩
abbrev spFinit (K : PySem.W.Frag) (C : Addr) : DSp := fun ds M Q => ∃ (a : Addr) (lo : Hp) (I : FwIn) (R0 : Mem), ds = [.ref a, W.d I.wk, .lst ((ways I.wk).map fun w => .int (I.c w)), .tup [.int I.p0, .int I.p1], .lst (I.sh.map pairD)] ∧ M = (a, .ins C [] lo) :: R0 ∧ FlC K C ∧ I.wk.length ≤ 16 ∧ (ways I.wk).Nodup ∧ (ways I.wk).length ≤ 40 ∧
  (0 ≤ I.p0 ∧ I.p0 ≤ 1000000 ∧ 0 ≤ I.p1 ∧ I.p1 ≤ 1000000) ∧ ∀ pm pl pa gs, gs.length = I.wk.length → Q .non (Fw.M ⟨a, C, lo, I.net, I.sh, fun w => I.c w * I.p1, fun w => 0 - I.c w * I.p0, pm, pl, pa, gs⟩ (fun _ => 0) R0)
theorem okFinit {C f : Addr} {fd : FuncData} (F : Fun K "__init__" "Flow.__init__" sFlow_init f fd) (hB : ∀ x ∈ (["len", "zip", "dict", "range"] : List Str), mg x = none) (hwy : Fs P w K mg base 2 "ways_of" 1 spways_of) : GOk P w K mg base 3 f fd ["self", "work", "counts", "prices", "shut"] (spD K 5 (spFinit K C)) := by
  refine gok_body (k := 2) (N := nFlow_init) (Ln := lFlow_init) (Bn := ["len", "zip", "dict", "range"]) (Fn := ["ways_of"]) (Bx := ["len", "zip", "dict", "range"]) F scFlow_init rfl (by decide +kernel) hB ?_
  rintro X ds M Q bod ⟨a, lo, I, R0, rfl, rfl, hc, h16, hnd, h40, hp, hQ⟩
  have st := bod.st
  have rm := bod.room
  have hw2 := bod.tr hwy
  rw [← bod.fr] at hc
  show WSs X ([("self", some (.ref a)), ("work", some (W.d I.wk)), ("counts", some (.lst ((ways I.wk).map fun w => .int (I.c w)))), ("prices", some (.tup [.int I.p0, .int I.p1])), ("shut", some (.lst (I.sh.map pairD))), ("way", none), ("count", none), ("block", none)] : VEnv) _ _ _
  refine wss_cons (ws_fld ?_)
  walk_at "run"
  refine ⟨I.wk, rfl, h16, ?_⟩
  walk_at "run"
  refine ⟨a, C, _, lo, _, rfl, .here, hc.cls, hc.ways, (by show _ + 0 < 1000; (repeat refine putFD_lt2 ?_); decide), ?_⟩
  refine wss_cons (ws_fld ?_)
  walk_at "run"
  refine cd_len (ds := I.wk.map Bk.d) (.inl isR_lst) ?_
  rw [List.length_map]
  walk_at "run"
  refine ⟨a, C, _, lo, _, rfl, .here, hc.cls, hc.many, (by show _ + 0 < 1000; (repeat refine putFD_lt2 ?_); decide), ?_⟩
  refine wss_cons (ws_fld ?_)
  walk_at "run"
  refine ⟨a, C, _, lo, _, rfl, .here, hc.cls, hc.shut, (by show _ + 0 < 1000; (repeat refine putFD_lt2 ?_); decide), ?_⟩
  refine wss_cons (ws_fld ?_)
  refine we_dnewT fun pm => ?_
  walk_at "run"
  refine ⟨a, C, _, lo, _, rfl, .there .here, hc.cls, hc.most, (by show _ + 0 < 1000; (repeat refine putFD_lt2 ?_); decide), ?_⟩
  refine wss_cons (ws_fld ?_)
  refine we_dnewT fun pl => ?_
  walk_at "run"
  refine ⟨a, C, _, lo, _, rfl, .there (.there .here), hc.cls, hc.least, (by show _ + 0 < 1000; (repeat refine putFD_lt2 ?_); decide), ?_⟩
  refine wss_cons (ws_for st (wi_zip st (by walk_at "mem") ?_))
  refine we_fld ?_
  walk_at "e1"
  refine ⟨a, C, _, lo, _, .lst ((ways I.wk).map pairD), rfl, .there (.there .here), hc.cls, hc.ways, rfl, ?_⟩
  walk_at "run"
  refine ⟨_, _, isR_lst, isR_lst, fun i Γ' M' => ∃ o1 o2 o3 : Option D, Γ' = ([("self", some (.ref a)), ("work", some (W.d I.wk)), ("counts", some (.lst ((ways I.wk).map fun w => .int (I.c w)))), ("prices", some (.tup [.int I.p0, .int I.p1])), ("shut", some (.lst (I.sh.map pairD))), ("way", o1), ("count", o2), ("block", o3)] : VEnv) ∧ M' = (pl, .dT (fnD ((ways I.wk).take i) fun w => 0 - I.c w * I.p0)) :: (pm, .dT (fnD ((ways I.wk).take i) fun w => I.c w * I.p1)) :: (a, .ins C [("ways", .lst ((ways I.wk).map pairD)), ("many", .int (I.wk.length : Int)), ("shut", .lst (I.sh.map pairD)), ("most", .ref pm), ("least", .ref pl)] lo) :: R0, ?_, ?_, ?_, ?_⟩
  · exact ⟨_, _, _, rfl, rfl⟩
  · exact fun _ _ _ _ => ⟨isR_lst, isR_lst⟩
  · rintro i x Γ' M' hx ⟨o1, o2, o3, rfl, rfl⟩
    rw [zip_pairs, List.getElem?_map] at hx
    obtain ⟨y, hy, rfl⟩ := Option.map_eq_some_iff.mp hx
    have hny := nodup_take_not hnd hy
    have hlt : ((ways I.wk).take i).length ≤ 40 := by rw [List.length_take]; omega
    refine wg_tup st rfl ?_
    refine wgs_cons (wg_name st (by walk_at "mem") (by walk_at "put") ?_)
    refine wgs_cons (wg_name st (by walk_at "mem") (by walk_at "put") ?_)
    refine wgs_nil ?_
    walk_at "asg"
    walk_at "run"
    refine od_mul (cm_r (by omega) (by omega)) ?_
    walk_at "run"
    refine wg_dix st ?_ (by intro _; with_unfolding_all rfl)
    refine we_fld ?_
    walk_at "e1"
    refine ⟨a, C, _, lo, _, .ref pm, rfl, .there (.there .here), hc.cls, hc.most, rfl, ?_⟩
    walk_at "run"
    refine ⟨pm, _, rfl, .inr ⟨_, keyI y, .there .here, rfl, szlt (by unfold fnD; rw [List.length_map]; omega), ?_⟩⟩
    have e1 : putA (fnD ((ways I.wk).take i) fun w => I.c w * I.p1) (keyI y) (.int (I.c y * I.p1)) = fnD ((ways I.wk).take (i + 1)) fun w => I.c w * I.p1 := by
      rw [List.take_add_one, hy]; exact fnD_snoc (f := fun w => I.c w * I.p1) hny
    have e0 : putA (fnD ((ways I.wk).take i) fun w => 0 - I.c w * I.p0) (keyI y) (.int (0 - I.c y * I.p0)) = fnD ((ways I.wk).take (i + 1)) fun w => 0 - I.c w * I.p0 := by
      rw [List.take_add_one, hy]; exact fnD_snoc (f := fun w => 0 - I.c w * I.p0) hny
    rw [e1]
    walk_at "asg"
    walk_at "run"
    refine od_mul (cm_r (by omega) (by omega)) ?_
    walk_at "run"
    refine wg_dix st ?_ (by intro _; with_unfolding_all rfl)
    refine we_fld ?_
    walk_at "e1"
    refine ⟨a, C, _, lo, _, .ref pl, rfl, .there (.there .here), hc.cls, hc.least, rfl, ?_⟩
    walk_at "run"
    refine ⟨pl, _, rfl, .inr ⟨_, keyI y, .here, rfl, szlt (by unfold fnD; rw [List.length_map]; omega), ?_⟩⟩
    rw [e0]
    refine wss_nil ?_
    exact ⟨_, _, _, rfl, rfl⟩
  · rintro Γ' M' ⟨o1, o2, o3, rfl, rfl⟩
    rw [zip_pairs, List.length_map, List.take_length]
    refine wss_cons (ws_fld ?_)
    walk_at "e1"
    refine wa_cons ?_
    refine we_frz ?_
    refine we_map (ways I.wk) pairD (fun w => .tup [pairD w, .int 0]) [("way", 5)] ["way"] [] [] bod (by decide +kernel) (by walk_at "mem") (by walk_at "wiped") ?_
    refine wi_list ?_
    refine we_fld ?_
    walk_at "e1"
    refine ⟨a, C, _, lo, _, .lst ((ways I.wk).map pairD), rfl, .there (.there .here), hc.cls, hc.ways, rfl, ?_⟩
    refine ⟨_, isR_lst, rfl, szl (by omega), fun _ _ => isR_lst, fun y hy => ⟨_, by walk_at "put", fun X1 inn L acc => ?_⟩, fun p => ⟨_, _, _, rfl, rfl, ?_⟩⟩
    · have st1 := inn.st
      walk_at "run"
      exact ⟨rfl, rfl⟩
    refine wa_nil ?_
    refine cd_dictT st (ps := (ways I.wk).map fun w => (w, D.int 0)) (by rw [List.map_map]; exact isR_lst) (by rw [List.map_map]; exact (List.map_id' _).symm ▸ hnd) fun pa => ?_
    rw [show (((ways I.wk).map fun w => (w, D.int 0)).map fun p => (keyI p.1, p.2)) = fnD (ways I.wk) (fun _ => 0) from by rw [List.map_map]; rfl]
    walk_at "run"
    refine ⟨a, C, _, lo, _, rfl, .there (.there (.there .here)), hc.cls, hc.along, (by show (5 : Nat) < 1000; decide), ?_⟩
    refine wss_cons (ws_fld ?_)
    refine we_frz ?_
    refine we_st [("block", 7)] ["block"] [] [] bod (by decide +kernel) (by walk_at "mem") (by walk_at "wiped") ?_
    refine wi_range st (by walk_at "mem") ?_
    walk_at "run"
    refine cd_len (ds := I.wk.map Bk.d) (.inl isR_lst) ?_
    rw [List.length_map]
    walk_at "run"
    refine ⟨by omega, by omega, fun i acc M' => ∃ gs : List Addr, gs.length = i ∧ acc = gs.map D.ref ∧ M' = (gs.reverse.map fun q => (q, Cell.lst [])) ++ ((pa, .dT (fnD (ways I.wk) fun _ => 0)) :: (pl, .dT (fnD (ways I.wk) fun w => 0 - I.c w * I.p0)) :: (pm, .dT (fnD (ways I.wk) fun w => I.c w * I.p1)) :: (a, .ins C [("ways", .lst ((ways I.wk).map pairD)), ("many", .int (I.wk.length : Int)), ("shut", .lst (I.sh.map pairD)), ("most", .ref pm), ("least", .ref pl), ("along", .ref pa)] lo) :: R0), ⟨[], rfl, rfl, rfl⟩, fun _ _ _ _ _ => trivial, ?_, ?_⟩
    · rintro i d acc M' hx ⟨gs, hgl, rfl, rfl⟩
      obtain ⟨hil, rfl⟩ := rngD_inv hx
      refine ⟨szlt (by rw [List.length_map]; omega), _, by walk_at "put", fun X1 inn L => ?_⟩
      refine we_gc ?_
      refine we_lstO ?_
      refine wa_nil ?_
      refine ⟨by rw [sizeLine_eq]; show (0 : Nat) ≤ _; omega, fun q => ?_⟩
      refine ⟨[], (L, .lst (gs.map D.ref)) :: (q, .lst []) :: ((gs.reverse.map fun q => (q, Cell.lst [])) ++ ((pa, .dT (fnD (ways I.wk) fun _ => 0)) :: (pl, .dT (fnD (ways I.wk) fun w => 0 - I.c w * I.p0)) :: (pm, .dT (fnD (ways I.wk) fun w => I.c w * I.p1)) :: (a, .ins C [("ways", .lst ((ways I.wk).map pairD)), ("many", .int (I.wk.length : Int)), ("shut", .lst (I.sh.map pairD)), ("most", .ref pm), ("least", .ref pl), ("along", .ref pa)] lo) :: R0)), .swap _ _ _, ?_⟩
      exact ⟨_, rfl, gs ++ [q], by rw [List.length_append, hgl]; rfl, by rw [List.map_append]; rfl, by rw [List.reverse_append]; rfl⟩
    · rintro acc M' ⟨gs, hgl, rfl, rfl⟩ p2
      refine ⟨p2, _, _, rfl, rfl, ?_⟩
      walk_at "run"
      rw [rngD_length] at hgl
      refine ⟨a, C, _, lo, _, rfl, At.app (.there (.there (.there .here))) _, hc.cls, hc.touching, (by show (6 : Nat) < 1000; decide), ?_⟩
      have hgl : gs.length = I.wk.length := by omega
      have hm0 : lsM gs (tchI I.wk.length (ways I.wk) 0 0) = gs.map fun q => (q, Cell.lst []) := by
        have : tchI I.wk.length (ways I.wk) 0 0 = List.replicate gs.length [] := by
          rw [hgl]
          unfold tchI
          refine List.eq_replicate_iff.mpr ⟨by rw [List.length_map, List.length_range], fun x hx => ?_⟩
          obtain ⟨k, _, rfl⟩ := List.mem_map.mp hx
          rw [if_neg (Nat.not_lt_zero _)]; rfl
        rw [this, lsM_nil]
      refine wss_gc (G := []) (M2 := (a, .ins C [("ways", .lst ((ways I.wk).map pairD)), ("many", .int (I.wk.length : Int)), ("shut", .lst (I.sh.map pairD)), ("most", .ref pm), ("least", .ref pl), ("along", .ref pa), ("touching", .lst (gs.map D.ref))] lo) :: (pm, .dT (fnD (ways I.wk) fun w => I.c w * I.p1)) :: (pl, .dT (fnD (ways I.wk) fun w => 0 - I.c w * I.p0)) :: (pa, .dT (fnD (ways I.wk) fun _ => 0)) :: (lsM gs (tchI I.wk.length (ways I.wk) 0 0) ++ R0)) ?_ ?_
      · rw [hm0]
        exact perm4 [_, _, _, _] R0 ((List.reverse_perm gs).map _)
      refine wss_cons (ws_for st (wi_list ?_))
      refine we_fld ?_
      walk_at "e1"
      refine ⟨a, C, _, lo, _, .lst ((ways I.wk).map pairD), rfl, .here, hc.cls, hc.ways, rfl, ?_⟩
      refine ⟨_, isR_lst, fun i Γ' M' => ∃ o1 o2 o3 : Option D, Γ' = ([("self", some (.ref a)), ("work", some (W.d I.wk)), ("counts", some (.lst ((ways I.wk).map fun w => .int (I.c w)))), ("prices", some (.tup [.int I.p0, .int I.p1])), ("shut", some (.lst (I.sh.map pairD))), ("way", o1), ("count", o2), ("block", o3)] : VEnv) ∧ M' = (a, .ins C [("ways", .lst ((ways I.wk).map pairD)), ("many", .int (I.wk.length : Int)), ("shut", .lst (I.sh.map pairD)), ("most", .ref pm), ("least", .ref pl), ("along", .ref pa), ("touching", .lst (gs.map D.ref))] lo) :: (pm, .dT (fnD (ways I.wk) fun w => I.c w * I.p1)) :: (pl, .dT (fnD (ways I.wk) fun w => 0 - I.c w * I.p0)) :: (pa, .dT (fnD (ways I.wk) fun _ => 0)) :: (lsM gs (tchI I.wk.length (ways I.wk) i 0) ++ R0), ?_, ?_, ?_, ?_⟩
      · exact ⟨_, _, _, rfl, rfl⟩
      · exact fun _ _ _ _ => isR_lst
      · rintro i x Γ' M' hx ⟨o1, o2, o3, rfl, rfl⟩
        rw [List.getElem?_map] at hx
        obtain ⟨y, hy, rfl⟩ := Option.map_eq_some_iff.mp hx
        refine wg_name st (by walk_at "mem") (by walk_at "put") ?_
        refine wss_one (ws_for st (wi_range st (by walk_at "mem") ?_))
        walk_at "run"
        refine cd_len (ds := I.wk.map Bk.d) (.inl isR_lst) ?_
        rw [List.length_map]
        walk_at "run"
        refine ⟨by omega, by omega, fun j Γ' M' => ∃ o3 : Option D, Γ' = ([("self", some (.ref a)), ("work", some (W.d I.wk)), ("counts", some (.lst ((ways I.wk).map fun w => .int (I.c w)))), ("prices", some (.tup [.int I.p0, .int I.p1])), ("shut", some (.lst (I.sh.map pairD))), ("way", some (pairD y)), ("count", o2), ("block", o3)] : VEnv) ∧ M' = (a, .ins C [("ways", .lst ((ways I.wk).map pairD)), ("many", .int (I.wk.length : Int)), ("shut", .lst (I.sh.map pairD)), ("most", .ref pm), ("least", .ref pl), ("along", .ref pa), ("touching", .lst (gs.map D.ref))] lo) :: (pm, .dT (fnD (ways I.wk) fun w => I.c w * I.p1)) :: (pl, .dT (fnD (ways I.wk) fun w => 0 - I.c w * I.p0)) :: (pa, .dT (fnD (ways I.wk) fun _ => 0)) :: (lsM gs (tchI I.wk.length (ways I.wk) i j) ++ R0), ?_, ?_, ?_, ?_⟩
        · exact ⟨_, rfl, rfl⟩
        · intros; trivial
        · rintro j x Γ' M' hx ⟨o3, rfl, rfl⟩
          obtain ⟨hj, rfl⟩ := rngD_inv hx
          have hj : j < I.wk.length := by omega
          refine wg_name st (by walk_at "mem") (by walk_at "put") ?_
          have hgk : gs[j]? = some (gs[j]'(by omega)) := List.getElem?_eq_getElem _
          generalize (gs[j]'(by omega)) = gg at hgk
          obtain ⟨f0, hat, hput⟩ := at_lsM R0 hgk (tchI_get (n := I.wk.length) (L := ways I.wk) (i := i) hj)
          refine wss_one (ws_if ?_)
          walk_at "run"
          refine od_inI (ns := [y.1, y.2]) (.inr rfl) ?_
          walk_at "run"
          refine ite_d (fun hin => ?_) (fun hout => ?_)
          · have ht : Fl.touch y (j : Int) = true := by
              rw [Fl.touch_iff]
              simp at hin
              omega
            have ef : ((ways I.wk).take (i + 1)).filter (fun w => Fl.touch w (j : Int)) = ((ways I.wk).take i).filter (fun w => Fl.touch w (j : Int)) ++ [y] := by
              rw [List.take_add_one, hy, List.filter_append]
              simp [ht]
            walk_at "expr"
            walk_at "e1"
            refine we_ix ?_ (by with_unfolding_all exact fun _ _ => rfl)
            refine we_fld ?_
            walk_at "e1"
            refine ⟨a, C, _, lo, _, .lst (gs.map D.ref), rfl, .here, hc.cls, hc.touching, rfl, ?_⟩
            walk_at "run"
            refine ⟨j, _, by rw [Int.zero_add], IxD.list isR_lst (atI_map hgk), ?_⟩
            refine gTy (tyL (isR_ref (.there (.there (.there (.there hat)))))) ?_
            walk_at "run"
            refine md_append (.there (.there (.there (.there hat)))) (szlt (by rw [List.length_map]; have := List.length_filter_le (fun w => Fl.touch w (j : Int)) ((ways I.wk).take i); rw [List.length_take] at this; omega)) ?_
            refine wss_nil ?_
            refine ⟨_, rfl, ?_⟩
            rw [← tchI_set, ef, ← hput, List.map_append]
            rfl
          · have ht : Fl.touch y (j : Int) = false := by
              rw [← Bool.not_eq_true, Fl.touch_iff]
              simp at hout
              omega
            refine wss_nil ?_
            refine ⟨_, rfl, ?_⟩
            rw [tchI_same (by rw [List.take_add_one, hy, List.filter_append]; simp [ht])]
        · rintro Γ' M' ⟨o3, rfl, rfl⟩
          rw [rngD_length, show ((I.wk.length : Int)).toNat = I.wk.length from by omega, tchI_next]
          exact ⟨_, _, _, rfl, rfl⟩
      · rintro Γ' M' ⟨o1, o2, o3, rfl, rfl⟩
        rw [List.length_map]
        refine wss_nil ?_
        rw [show I.wk.length = I.net.n from rfl, show ways I.wk = I.net.L from rfl, tch_fin]
        exact hQ pm pl pa gs hgl
end
end Gen

namespace Gen
open PySem L2 DL Wk
abbrev sboxes_written : Stmt := top 6
abbrev lboxes_written : List Str := ["deeds"]
abbrev nboxes_written : List Str := ["deeds", "deed"]
theorem scboxes_written : FnScope nboxes_written ["deeds"] (defScope sboxes_written) := ⟨rfl, rfl, rfl, by decide +kernel, rfl, by decide +kernel, by decide +kernel⟩
section
variable {P : Program} {w : World} {K : PySem.W.Frag} {mg : Str → Option Value} {base : Heap}
abbrev spboxes_written : DSp := fun ds M Q => ∃ dd : List Dd, ds = [.lst (dd.map Dd.d)] ∧ dd.length ≤ 24 ∧ Q (.lst ((dd.filter Dd.wr).map fun d => natD d.wb)) M
theorem okboxes_written {f : Addr} {fd : FuncData} (F : Fun K "boxes_written" "boxes_written" sboxes_written f fd) (hm : mg "boxes_written" = some (.ref f)) (hb : Binds K fd ["deeds"] []) : Fs P w K mg base 1 "boxes_written" 1 spboxes_written := by
  refine fs_of (N := nboxes_written) (Ln := lboxes_written) (Bn := []) (Fn := []) (Bx := []) F hm hb scboxes_written rfl (by decide +kernel) (fun _ h => by cases h) ?_
  rintro X ds M Q bod ⟨dd, rfl, hl, hQ⟩
  have st := bod.st
  show WSs X ([("deeds", some (.lst (dd.map Dd.d))), ("deed", none)] : VEnv) M _ _
  walk_at "ret"
  refine we_frz ?_
  refine we_pick dd Dd.d (fun d => natD d.wb) Dd.wr [("deed", 1)] ["deed"] [] [] bod (by decide +kernel) (by walk_at "mem") (by walk_at "wiped") ?_
  refine wi_list ?_
  walk_at "run"
  refine ⟨_, isR_lst, rfl, szl (by omega), fun _ _ => isR_lst, fun d hd => ⟨_, by walk_at "put", fun X1 inn L acc => ?_, fun hw X1 inn L acc => ?_⟩, fun p => ⟨_, _, _, rfl, rfl, hQ⟩⟩
  · have st1 := inn.st
    obtain ⟨ds, e1, e2, e3⟩ := d.at0
    walk_at "run"
    refine ⟨_, _, rfl, .inl ⟨ds, .inr e1, e2⟩, ?_⟩
    walk_at "run"
    refine od_inS (ns := ["set", "add"]) (.inr rfl) ?_
    walk_at "run"
    exact ⟨d.word_wr, rfl⟩
  · have st1 := inn.st
    obtain ⟨ds, e1, e2, e3⟩ := d.at0
    walk_at "run"
    refine ⟨_, _, rfl, .inl ⟨ds, .inr e1, e3⟩, ?_⟩
    exact ⟨rfl, rfl⟩
end
end Gen

namespace Gen
open PySem L2 DL Wk
abbrev s_law_reads : Stmt := top 32
abbrev l_law_reads : List Str := ["_law_deed", "_law_box"]
abbrev n_law_reads : List Str := ["_law_deed", "_law_box"]
theorem sc_law_reads : FnScope n_law_reads ["_law_deed", "_law_box"] (defScope s_law_reads) := ⟨rfl, rfl, rfl, by decide +kernel, rfl, by decide +kernel, by decide +kernel⟩
abbrev s_law_is_asked : Stmt := top 34
abbrev l_law_is_asked : List Str := ["_law_works", "_law_number_here", "_law_block", "_law_box", "_law_met", "_law_waiting", "_law_place", "_law_deeds_here", "_law_end", "_law_open_yet", "_law_deed"]
abbrev n_law_is_asked : List Str := ["_law_works", "_law_number_here", "_law_block", "_law_box", "_law_met", "_law_waiting", "_law_place", "_law_deeds_here", "_law_end", "_law_open_yet", "_law_deed", "_law_to"]
theorem sc_law_is_asked : FnScope n_law_is_asked ["_law_works", "_law_number_here", "_law_block", "_law_box"] (defScope s_law_is_asked) := ⟨rfl, rfl, rfl, by decide +kernel, rfl, by decide +kernel, by decide +kernel⟩
section
variable {P : Program} {w : World} {K : PySem.W.Frag} {mg : Str → Option Value} {base : Heap}
abbrev sp_law_reads : DSp := fun ds M Q => ∃ (d : Dd) (b : Nat), ds = [d.d, natD b] ∧ Q (.bl (d.rd b)) M
theorem ok_law_reads {f : Addr} {fd : FuncData} (F : Fun K "_law_reads" "_law_reads" s_law_reads f fd) (hm : mg "_law_reads" = some (.ref f)) (hb : Binds K fd ["_law_deed", "_law_box"] []) : Fs P w K mg base 1 "_law_reads" 2 sp_law_reads := by
  refine fs_of (N := n_law_reads) (Ln := l_law_reads) (Bn := []) (Fn := []) (Bx := []) F hm hb sc_law_reads rfl (by decide +kernel) (fun _ h => by cases h) ?_
  rintro X ds M Q bod ⟨d, b, rfl, hQ⟩
  have st := bod.st
  show WSs X ([("_law_deed", some (d.d)), ("_law_box", some (natD b))] : VEnv) M _ _
  cases d with
  | add x y =>
    unfold Dd.d
    walk_at "ret"
    walk_at "go"
    refine ⟨_, .inr (.inl ⟨_, rfl, rfl⟩), ?_⟩
    rw [show cutD [D.str "add", D.int (x : Int), D.int (y : Int)] (some 1) none = [D.int (x : Int), D.int (y : Int)] from cutD_from _ 1]
    refine od_inI (i := (b : Int)) (ns := [(x : Int), (y : Int)]) (.inr rfl) ?_
    walk_at "go"
    refine ite_d (fun h => ?_) (fun h => ?_)
    · have h' : (Dd.add x y).rd b = true := by
        simp only [List.mem_cons, List.not_mem_nil, or_false] at h
        simp only [Dd.rd, Bool.or_eq_true, decide_eq_true_eq]
        omega
      rw [h'] at hQ
      exact hQ
    · have h' : (Dd.add x y).rd b = false := by
        simp only [List.mem_cons, List.not_mem_nil, or_false] at h
        simp only [Dd.rd, Bool.or_eq_false_iff, decide_eq_false_iff_not]
        omega
      rw [h'] at hQ
      walk_at "go"
      exact hQ
  | tell x =>
    unfold Dd.d
    walk_at "ret"
    walk_at "go"
    refine od_eqI (j := (b : Int)) ?_
    rw [show decide ((x : Int) = (b : Int)) = decide (b = x) from decide_eq_decide.mpr (by omega)]
    exact hQ
  | _ =>
    unfold Dd.d
    walk_at "ret"
    walk_at "go"
    exact hQ
theorem nowr_step {b : Nat} {l : List Dd} {i : Nat} {d : Dd} (hd : l[i]? = some d) : decide (NoWr b (l.take (i + 1))) = (decide (NoWr b (l.take i)) && !d.wrB b) := by
  rw [Bool.eq_iff_iff, decide_eq_true_iff, Bool.and_eq_true, decide_eq_true_iff, Bool.not_eq_true', List.take_add_one, hd]
  constructor
  · intro h
    exact ⟨fun x hx => h x (List.mem_append_left _ hx), h d (by simp)⟩
  · rintro ⟨h1, h2⟩ x hx
    rcases List.mem_append.mp hx with hx | hx
    · exact h1 x hx
    · have : x = d := by simpa [eq_comm] using hx
      rw [this]; exact h2
theorem shw_places {ps : List (Nat × Nat)} (h : ∀ p ∈ ps, p.1 < 1000 ∧ p.2 < 1000) : Shw 2 (ps.length * 91) (.list (ps.map fun p => pairP ((p.1 : Int), (p.2 : Int)))) := by
  refine Shw.list (dep := 1) (n := 90) (fun x hx => ?_) (by rw [List.length_map]; omega)
  obtain ⟨p, hp, rfl⟩ := List.mem_map.mp hx
  have := h p hp
  exact shw_pair (by show (-10000000000000 : Int) < (p.1 : Int); omega) (by show (p.1 : Int) < 10000000000000; omega) (by show (-10000000000000 : Int) < (p.2 : Int); omega) (by show (p.2 : Int) < 10000000000000; omega)
theorem py_places {M : Mem} {d : D} {ps : List (Nat × Nat)} (h : IsR M d (ps.map plD)) : Py M d (.list (ps.map fun p => pairP ((p.1 : Int), (p.2 : Int)))) := by
  have g : ∀ p ∈ ps, Py M (plD p) (pairP ((p.1 : Int), (p.2 : Int))) := fun p _ => .tup (.cons (.int _) (.cons (.int _) .nil))
  rcases h with (rfl | ⟨a, f, rfl, h⟩) | rfl
  · exact .lst (Pys.of_map g)
  · exact .ref h (Pys.of_map g)
  · exact .slst (Pys.of_map g)
abbrev sp_law_is_asked : DSp := fun ds M Q => ∃ (ws : List W) (n k b : Nat), ds = [Ws.d ws, natD n, natD k, natD b] ∧ FitWs ws ∧ (∃ bk, At2 ws (n, k) bk) ∧ Q (.bl (awtB ws b n k)) M
theorem ok_law_is_asked {f : Addr} {fd : FuncData} (F : Fun K "_law_is_asked" "_law_is_asked" s_law_is_asked f fd) (hm : mg "_law_is_asked" = some (.ref f)) (hb : Binds K fd ["_law_works", "_law_number_here", "_law_block", "_law_box"] []) (h_law_reads : Fs P w K mg base 1 "_law_reads" 2 sp_law_reads) : Fs P w K mg base 2 "_law_is_asked" 4 sp_law_is_asked := by
  refine fs_of (N := n_law_is_asked) (Ln := l_law_is_asked) (Bn := []) (Fn := ["_law_reads"]) (Bx := []) F hm hb sc_law_is_asked rfl (by decide +kernel) (fun _ h => by cases h) ?_
  rintro X ds M Q bod ⟨ws, n, k, b, rfl, hf, ⟨bk0, hbk0⟩, hQ⟩
  have st := bod.st
  have rm := bod.room
  have h1 := bod.tr h_law_reads
  have hl60 := hf.len
  show WSs X ([("_law_works", some (.lst (ws.map W.d))), ("_law_number_here", some (natD n)), ("_law_block", some (natD k)), ("_law_box", some (natD b)), ("_law_met", none), ("_law_waiting", none), ("_law_place", none), ("_law_deeds_here", none), ("_law_end", none), ("_law_open_yet", none), ("_law_deed", none), ("_law_to", none)] : VEnv) M _ _
  refine wss_cons (ws_par st (by walk_at "mem") (by walk_at "mem") (bod.lk (by decide +kernel)) (bod.lk (by decide +kernel)) bod.kind (by decide) (by walk_at "put") (by walk_at "put") ?_)
  walk_at "a1"
  refine we_dnewT fun pm => ?_
  walk_at "a1"
  refine we_lstO ?_
  walk_at "run"
  intro pw
  walk_at "run"
  refine ⟨_, _, _, _, rfl, by walk_at "put", by walk_at "put", ?_⟩
  refine wss_cons (ws_while st (fun m Γ' M' => ∃ (met wt : List (Nat × Nat)) (kvs : List (List Key × D)) (o1 o2 o3 o4 o5 : Option D), Srch ws b (n, k) met wt (fun _ => False) ∧ kvs.map (·.1) = met.map key2 ∧ m = wt.length + 27 * (960 - met.length) ∧ m ≤ 30000 ∧ Γ' = ([("_law_works", some (.lst (ws.map W.d))), ("_law_number_here", some (natD n)), ("_law_block", some (natD k)), ("_law_box", some (natD b)), ("_law_met", some (.ref pm)), ("_law_waiting", some (.ref pw)), ("_law_place", o1), ("_law_deeds_here", o2), ("_law_end", o3), ("_law_open_yet", o4), ("_law_deed", o5), ("_law_to", none)] : VEnv) ∧ M' = (pw, .lst (wt.map plD)) :: (pm, .dT kvs) :: M) _ ⟨[], [(n, k)], [], _, _, _, _, _, .start hbk0, rfl, rfl, by simp, rfl, rfl⟩ ?_)
  rintro m Γ' M' ⟨met, wt, kvs, o1, o2, o3, o4, o5, sr, hk, hm, hmb, rfl, rfl⟩
  have bdp : ∀ p, p ∈ met ∨ p ∈ wt → p.1 < 1000 ∧ p.2 < 1000 := fun p hp => by
    obtain ⟨bk, w, q1, q2⟩ := sr.val p hp
    have := (List.getElem?_eq_some_iff.mp q1).1
    have := (List.getElem?_eq_some_iff.mp q2).1
    have := (hf.fit w (List.mem_of_getElem? q1)).len
    omega
  walk_at "run"
  refine od_neP st (py_places (isR_ref .here)) (py_places (ps := []) isR_lst) ((shw_places fun p hp => bdp p (.inr hp)).shaped (by omega)) ((shw_places (ps := []) fun p hp => (by cases hp)).shaped (by omega)) ?_
  rw [show PyData.eqv (.list (wt.map fun p => pairP ((p.1 : Int), (p.2 : Int)))) (.list (([] : List (Nat × Nat)).map fun p => pairP ((p.1 : Int), (p.2 : Int)))) = decide (wt = []) from by cases wt <;> simp [PyData.eqv, PyData.eqvAll]]
  walk_at "run"
  refine ite_n (fun hne => ?_) (fun hnil => ?_)
  rotate_left
  · subst hnil
    walk_at "ret"
    refine we_gc ?_
    walk_at "run"
    rw [awtB_f sr.fin] at hQ
    exact ⟨[(pw, _), (pm, _)], M, .refl _, hQ⟩
  obtain ⟨wt, p, rfl⟩ : ∃ wt' p, wt = wt' ++ [p] := ⟨wt.dropLast, wt.getLast hne, (List.dropLast_concat_getLast hne).symm⟩
  rw [List.length_append, List.length_singleton] at hm
  rw [List.map_append, List.map_singleton]
  walk_at "set"
  walk_at "run"
  refine md_pop (by walk_at "at") ?_
  walk_at "put!"
  refine wss_one (ws_if ?_)
  walk_at "run"
  refine od_notInD st (GetD.dt2 (by walk_at "at")) ?_
  rw [valA_in2 hk]
  walk_at "run"
  refine ite_n (fun hnot => ?_) (fun hin => ?_)
  rotate_left
  · refine wss_nil ⟨_, ?_, met, wt, kvs, _, _, _, _, _, sr.skip hin, hk, rfl, ?_, rfl, rfl⟩
    · omega
    · omega
  have sr1 := sr.meet hnot
  have hlen := sr1.len hf
  rw [List.length_append, List.length_singleton] at hlen
  obtain ⟨bk, w, hw, hbk⟩ := sr1.val p (.inl (by simp))
  have hwm := List.mem_of_getElem? hw
  have hkl : kvs.length = met.length := by have := congrArg List.length hk; simpa using this
  have h24 := (hf.fit w hwm).few bk (List.mem_of_getElem? hbk)
  have hdok := hf.ok w hwm bk (List.mem_of_getElem? hbk)
  walk_at "asg"
  walk_at "run"
  refine wg_dix st ?_ (by intro _; with_unfolding_all rfl)
  walk_at "run"
  refine ⟨pm, _, rfl, .inr ⟨kvs, key2 p, by walk_at "at", rfl, szlt (by omega), ?_⟩⟩
  have hk2 : (putA kvs (key2 p) (.bl true)).map (·.1) = (met ++ [p]).map key2 := by
    rw [putA_keys, valA_in2 hk, if_neg (by simpa using hnot), hk, List.map_append]; rfl
  generalize putA kvs (key2 p) (.bl true) = kvs2 at hk2
  walk_at "asg"
  walk_at "run"
  refine ⟨_, _, rfl, IxD.list isR_lst (atI_map hw), ?_⟩
  walk_at "run"
  refine ⟨_, _, rfl, IxD.list isR_lst (atI_map hbk), ?_⟩
  refine wg_tup st rfl ?_
  refine wgs_cons (wg_name st (by walk_at "mem") (by walk_at "put") ?_)
  refine wgs_cons (wg_name st (by walk_at "mem") (by walk_at "put") ?_)
  refine wgs_nil ?_
  walk_at "set"
  walk_at "run"
  refine wss_cons (ws_for st (wi_list ?_))
  walk_at "run"
  refine ⟨_, isR_lst, fun i Γ' M' => ∃ (wt2 : List (Nat × Nat)) (o5 : Option D), Srch ws b (n, k) (met ++ [p]) wt2 (fun q => q = p) ∧ (∀ j, j < i → ∀ d, bk.1[j]? = some d → NoWr b (bk.1.take j) → d.rd b = false) ∧ (∀ j, j < i → ∀ c, bk.1[j]? = some (.call c) → NoWr b (bk.1.take j) → (c, 0) ∈ met ++ [p] ∨ (c, 0) ∈ wt2) ∧ wt2.length ≤ wt.length + i ∧ Γ' = ([("_law_works", some (.lst (ws.map W.d))), ("_law_number_here", some (natD n)), ("_law_block", some (natD k)), ("_law_box", some (natD b)), ("_law_met", some (.ref pm)), ("_law_waiting", some (.ref pw)), ("_law_place", some (plD p)), ("_law_deeds_here", some (.lst (bk.1.map Dd.d))), ("_law_end", some bk.2.d), ("_law_open_yet", some (.bl (decide (NoWr b (bk.1.take i))))), ("_law_deed", o5), ("_law_to", none)] : VEnv) ∧ M' = (pw, .lst (wt2.map plD)) :: (pm, .dT kvs2) :: M, ?_, ?_, ?_, ?_⟩
  · exact ⟨wt, o5, sr1, fun j hj => absurd hj (Nat.not_lt_zero _), fun j hj => absurd hj (Nat.not_lt_zero _), by omega, by simp [NoWr], rfl⟩
  · exact fun _ _ _ _ => isR_lst
  · rintro i x Γ' M' hx ⟨wt2, o5, sr2, hrd, hcl, hwl, rfl, rfl⟩
    rw [List.getElem?_map] at hx
    obtain ⟨d, hd, rfl⟩ := Option.map_eq_some_iff.mp hx
    have hi := (List.getElem?_eq_some_iff.mp hd).1
    refine wg_name st (by walk_at "mem") (by walk_at "put") ?_
    refine ws_mid (fun Γ' M' => (NoWr b (bk.1.take i) → d.rd b = false) ∧ Γ' = ([("_law_works", some (.lst (ws.map W.d))), ("_law_number_here", some (natD n)), ("_law_block", some (natD k)), ("_law_box", some (natD b)), ("_law_met", some (.ref pm)), ("_law_waiting", some (.ref pw)), ("_law_place", some (plD p)), ("_law_deeds_here", some (.lst (bk.1.map Dd.d))), ("_law_end", some bk.2.d), ("_law_open_yet", some (.bl (decide (NoWr b (bk.1.take i))))), ("_law_deed", some d.d), ("_law_to", none)] : VEnv) ∧ M' = (pw, .lst (wt2.map plD)) :: (pm, .dT kvs2) :: M) (ws_if ?_) ?_
    · walk_at "run"
      refine ite_d (fun hop => ?_) (fun hop => ?_)
      · walk_at "run"
        refine ⟨d, b, rfl, ?_⟩
        walk_at "run"
        refine ite_b (fun h => ?_) (fun h => ?_)
        · walk_at "ret"
          refine we_gc ?_
          walk_at "run"
          rw [awtB_t (sr2.back p (.inl (by simp)) (.read hw hbk hd h hop))] at hQ
          exact ⟨[(pw, _), (pm, _)], M, .refl _, hQ⟩
        · exact wss_nil ⟨fun _ => h, rfl, rfl⟩
      · exact wss_nil ⟨fun h => absurd h hop, rfl, rfl⟩
    · rintro Γ' M' ⟨hrd2, rfl, rfl⟩
      have hrd3 : ∀ j, j < i + 1 → ∀ d, bk.1[j]? = some d → NoWr b (bk.1.take j) → d.rd b = false := fun j hj e he hn => by
        by_cases q : j = i
        · subst q; rw [hd] at he; cases he; exact hrd2 hn
        · exact hrd j (by omega) e he hn
      obtain ⟨dl, e1, e2, e3⟩ := d.at0
      refine ws_mid (fun Γ' M' => ∃ wt3 : List (Nat × Nat), Srch ws b (n, k) (met ++ [p]) wt3 (fun q => q = p) ∧ (∀ j, j < i + 1 → ∀ c, bk.1[j]? = some (.call c) → NoWr b (bk.1.take j) → (c, 0) ∈ met ++ [p] ∨ (c, 0) ∈ wt3) ∧ wt3.length ≤ wt.length + (i + 1) ∧ Γ' = ([("_law_works", some (.lst (ws.map W.d))), ("_law_number_here", some (natD n)), ("_law_block", some (natD k)), ("_law_box", some (natD b)), ("_law_met", some (.ref pm)), ("_law_waiting", some (.ref pw)), ("_law_place", some (plD p)), ("_law_deeds_here", some (.lst (bk.1.map Dd.d))), ("_law_end", some bk.2.d), ("_law_open_yet", some (.bl (decide (NoWr b (bk.1.take i))))), ("_law_deed", some d.d), ("_law_to", none)] : VEnv) ∧ M' = (pw, .lst (wt3.map plD)) :: (pm, .dT kvs2) :: M) (ws_if ?_) ?_
      · have keep : (NoWr b (bk.1.take i) → ∀ c, d ≠ .call c) → ∀ j, j < i + 1 → ∀ c, bk.1[j]? = some (.call c) → NoWr b (bk.1.take j) → (c, 0) ∈ met ++ [p] ∨ (c, 0) ∈ wt2 := fun hne j hj c he hn => by
          by_cases q : j = i
          · subst q; rw [hd] at he; cases he; exact absurd rfl (hne hn c)
          · exact hcl j (by omega) c he hn
        walk_at "run"
        refine ite_d (fun hop => ?_) (fun hop => ?_)
        · walk_at "run"
          refine ⟨_, _, rfl, .inl ⟨dl, .inr e1, e2⟩, ?_⟩
          walk_at "run"
          refine ite_d (fun h => ?_) (fun h => ?_)
          · obtain ⟨c, rfl⟩ := dd_call h
            have hc : c < ws.length := hdok _ (List.mem_of_getElem? hd)
            walk_at "expr"
            walk_at "run"
            refine ⟨_, _, rfl, .inl ⟨dl, .inr e1, e3⟩, ?_⟩
            walk_at "run"
            refine md_append (by walk_at "at") (szlt (by rw [List.length_map]; omega)) ?_
            refine wss_nil ?_
            have hwc := List.getElem?_eq_getElem hc
            have hpos := hf.pos ws[c] (List.getElem_mem hc)
            refine ⟨wt2 ++ [(c, 0)], sr2.push ⟨_, _, hwc, List.getElem?_eq_getElem hpos⟩ (fun q => sr2.back p (.inl (by simp)) (.call hw hbk hd hop q)), fun j hj c' he hn => ?_, by simp only [List.length_append, List.length_singleton]; omega, rfl, ?_⟩
            · by_cases q : j = i
              · subst q; rw [hd] at he; cases he; exact .inr (by simp)
              · exact (hcl j (by omega) c' he hn).imp id fun z => by simp [z]
            · rw [List.map_append]; rfl
          · exact wss_nil ⟨wt2, sr2, keep (fun _ c e => h (by rw [e]; rfl)), by omega, rfl, rfl⟩
        · exact wss_nil ⟨wt2, sr2, keep (fun q => absurd q hop), by omega, rfl, rfl⟩
      · rintro Γ' M' ⟨wt3, sr3, hcl3, hwl3, rfl, rfl⟩
        have fin : ∀ E : DE, E.nx = (fun Γ' M' => ∃ (wt2 : List (Nat × Nat)) (o5 : Option D), Srch ws b (n, k) (met ++ [p]) wt2 (fun q => q = p) ∧ (∀ j, j < i + 1 → ∀ d, bk.1[j]? = some d → NoWr b (bk.1.take j) → d.rd b = false) ∧ (∀ j, j < i + 1 → ∀ c, bk.1[j]? = some (.call c) → NoWr b (bk.1.take j) → (c, 0) ∈ met ++ [p] ∨ (c, 0) ∈ wt2) ∧ wt2.length ≤ wt.length + (i + 1) ∧ Γ' = ([("_law_works", some (.lst (ws.map W.d))), ("_law_number_here", some (natD n)), ("_law_block", some (natD k)), ("_law_box", some (natD b)), ("_law_met", some (.ref pm)), ("_law_waiting", some (.ref pw)), ("_law_place", some (plD p)), ("_law_deeds_here", some (.lst (bk.1.map Dd.d))), ("_law_end", some bk.2.d), ("_law_open_yet", some (.bl (decide (NoWr b (bk.1.take (i + 1)))))), ("_law_deed", o5), ("_law_to", none)] : VEnv) ∧ M' = (pw, .lst (wt2.map plD)) :: (pm, .dT kvs2) :: M) → d.wrB b = false → WSs X ([("_law_works", some (.lst (ws.map W.d))), ("_law_number_here", some (natD n)), ("_law_block", some (natD k)), ("_law_box", some (natD b)), ("_law_met", some (.ref pm)), ("_law_waiting", some (.ref pw)), ("_law_place", some (plD p)), ("_law_deeds_here", some (.lst (bk.1.map Dd.d))), ("_law_end", some bk.2.d), ("_law_open_yet", some (.bl (decide (NoWr b (bk.1.take i))))), ("_law_deed", some d.d), ("_law_to", none)] : VEnv) ((pw, .lst (wt3.map plD)) :: (pm, .dT kvs2) :: M) [] E := fun E hE hwb => by
          refine wss_nil ?_
          rw [hE]
          refine ⟨wt3, some d.d, sr3, hrd3, hcl3, hwl3, ?_, rfl⟩
          rw [nowr_step hd, hwb, Bool.not_false, Bool.and_true]
        refine wss_one (ws_if ?_)
        walk_at "run"
        refine ⟨_, _, rfl, .inl ⟨dl, .inr e1, e2⟩, ?_⟩
        walk_at "run"
        refine od_inS (ns := ["set", "add"]) (.inr rfl) ?_
        walk_at "run"
        rw [d.word_wr]
        refine ite_b (fun hwr => ?_) (fun hwr => ?_)
        · walk_at "run"
          refine ⟨_, _, rfl, .inl ⟨dl, .inr e1, e3⟩, ?_⟩
          walk_at "run"
          refine od_eqI (i := (d.wb : Int)) (j := (b : Int)) ?_
          walk_at "run"
          refine ite_d (fun hb => ?_) (fun hb => ?_)
          · walk_at "set"
            walk_at "run"
            refine wss_nil ?_
            refine ⟨wt3, some d.d, sr3, hrd3, hcl3, hwl3, ?_, rfl⟩
            have hwb : d.wrB b = true := by unfold Dd.wrB; rw [hwr, decide_eq_true (by omega)]; rfl
            rw [nowr_step hd, hwb, Bool.not_true, Bool.and_false]
          · refine fin _ rfl ?_
            unfold Dd.wrB
            rw [decide_eq_false (by omega), Bool.and_false]
        · refine fin _ rfl ?_
          unfold Dd.wrB
          rw [hwr, Bool.false_and]
  · rintro Γ' M' ⟨wt2, o5, sr2, hrd, hcl, hwl, rfl, rfl⟩
    rw [List.length_map] at hrd hcl hwl
    rw [List.length_map, List.take_length]
    have sound : ∀ {wt4 : List (Nat × Nat)}, Srch ws b (n, k) (met ++ [p]) wt4 (fun q => q = p) → (∀ q, q ∈ wt2 → q ∈ wt4) → (NoWr b bk.1 → ∀ t ∈ bk.2.nx, (p.1, t) ∈ wt4) → Srch ws b (n, k) (met ++ [p]) wt4 (fun _ => False) := fun {wt4} s4 hsub hnx => by
      have hbu : ∀ bk', At2 ws p bk' → bk' = bk := fun bk' h => h.uniq ⟨w, hw, hbk⟩
      refine s4.done ⟨fun bk' h i d hd hn => ?_, fun bk' h i c hd hn => ?_, fun bk' h hn t ht => ?_⟩
      · rw [hbu bk' h] at hd hn
        exact hrd i (List.getElem?_eq_some_iff.mp hd).1 d hd hn
      · rw [hbu bk' h] at hd hn
        exact (hcl i (List.getElem?_eq_some_iff.mp hd).1 c hd hn).imp id (hsub _)
      · rw [hbu bk' h] at hn ht
        exact .inr (hnx hn t ht)
    have hnx2 : bk.2.nx.length ≤ 2 := by cases bk.2 <;> simp [Nd.nx]
    refine wss_one (ws_if ?_)
    walk_at "run"
    refine ite_d (fun hop => ?_) (fun hop => ?_)
    · walk_at "expr"
      walk_at "run"
      refine we_frz ?_
      refine we_map bk.2.nx natD (fun t => plD (p.1, t)) [("_law_to", 11)] ["_law_to", "_law_place"] [] [] bod (by decide +kernel) (by walk_at "mem") (by walk_at "wiped") ?_
      refine wi_tup ?_
      walk_at "run"
      obtain ⟨dl, e1, e2⟩ := bk.2.cut
      refine ⟨_, .inr (.inl ⟨dl, e1, rfl⟩), ?_⟩
      rw [e2]
      refine ⟨_, rfl, rfl, szl (by omega), fun _ _ => trivial, fun t ht => ⟨_, by walk_at "put", fun X1 inn L acc => ?_⟩, fun pq => ⟨_, _, _, rfl, rfl, ?_⟩⟩
      · have st1 := inn.st
        walk_at "run"
        exact ⟨rfl, rfl⟩
      refine wa_nil ?_
      refine md_extend (by walk_at "at") isL_lst (by simp only [List.length_map]; exact szl (by omega)) ?_
      have val2 : ∀ t ∈ bk.2.nx, ∃ bk', At2 ws (p.1, t) bk' := fun t ht => by
        have hlt := (hf.nx w hwm).lt bk.2.nx (List.mem_iff_getElem?.mpr ⟨p.2, by unfold nexts; rw [List.getElem?_map, hbk]; rfl⟩) t ht
        rw [nexts_len] at hlt
        exact ⟨_, w, hw, List.getElem?_eq_getElem hlt⟩
      have more : ∀ l : List Nat, (∀ t ∈ l, t ∈ bk.2.nx) → ∀ wt3 : List (Nat × Nat), Srch ws b (n, k) (met ++ [p]) wt3 (fun q => q = p) → Srch ws b (n, k) (met ++ [p]) (wt3 ++ l.map fun t => (p.1, t)) (fun q => q = p) := fun l => by
        induction l with
        | nil => intro _ wt3 s3; simpa using s3
        | cons t l ih =>
          intro hl wt3 s3
          have ht := hl t List.mem_cons_self
          have := ih (fun t h => hl t (List.mem_cons_of_mem _ h)) _ (s3.push (q := (p.1, t)) (val2 t ht) fun q => s3.back p (.inl (by simp)) (.step hw hbk hop ht q))
          rw [List.append_assoc] at this
          exact this
      have s4 := sound (more bk.2.nx (fun t h => h) wt2 sr2) (fun q h => by simp [h]) (fun _ t ht => List.mem_append_right _ (List.mem_map.mpr ⟨t, ht, rfl⟩))
      refine wss_nil ⟨_, ?_, met ++ [p], _, kvs2, _, _, _, _, _, s4, hk2, rfl, ?_, rfl, ?_⟩
      · simp only [List.length_append, List.length_singleton, List.length_map]; omega
      · simp only [List.length_append, List.length_singleton, List.length_map]; omega
      · rw [List.map_append, List.map_map]; rfl
    · refine wss_nil ⟨_, ?_, met ++ [p], wt2, kvs2, _, _, _, _, _, sound sr2 (fun q h => h) (fun h => absurd h hop), hk2, rfl, ?_, rfl, rfl⟩
      · rw [List.length_append, List.length_singleton]; omega
      · rw [List.length_append, List.length_singleton]; omega
end
end Gen

namespace Gen
open PySem L2 DL Wk
abbrev s_law_writes : Stmt := top 33
abbrev l_law_writes : List Str := ["_law_work_here", "_law_box"]
abbrev n_law_writes : List Str := ["_law_work_here", "_law_box", "_law_b", "_law_one"]
theorem sc_law_writes : FnScope n_law_writes ["_law_work_here", "_law_box"] (defScope s_law_writes) := ⟨rfl, rfl, rfl, by decide +kernel, rfl, by decide +kernel, by decide +kernel⟩
abbrev s_law_behind : Stmt := top 35
abbrev l_law_behind : List Str := ["_law_work_here", "_law_box", "_law_found", "_law_nexts_here", "_law_block", "_law_turn"]
abbrev n_law_behind : List Str := ["_law_work_here", "_law_box", "_law_found", "_law_nexts_here", "_law_block", "_law_turn", "_law_to"]
theorem sc_law_behind : FnScope n_law_behind ["_law_work_here", "_law_box"] (defScope s_law_behind) := ⟨rfl, rfl, rfl, by decide +kernel, rfl, by decide +kernel, by decide +kernel⟩
section
variable {P : Program} {w : World} {K : PySem.W.Frag} {mg : Str → Option Value} {base : Heap}
abbrev sp_law_writes : DSp := fun ds M Q => ∃ (w : W) (b : Nat), ds = [W.d w, natD b] ∧ Fit w ∧ Q (nlD (writesL w b)) M
theorem ok_law_writes {f : Addr} {fd : FuncData} (F : Fun K "_law_writes" "_law_writes" s_law_writes f fd) (hm : mg "_law_writes" = some (.ref f)) (hb : Binds K fd ["_law_work_here", "_law_box"] []) (hB : ∀ x ∈ (["range", "len", "any"] : List Str), mg x = none) : Fs P w K mg base 1 "_law_writes" 2 sp_law_writes := by
  refine fs_of (N := n_law_writes) (Ln := l_law_writes) (Bn := ["range", "len"]) (Fn := []) (Bx := ["range", "len", "any"]) F hm hb sc_law_writes rfl (by decide +kernel) hB ?_
  rintro X ds M Q bod ⟨w, b, rfl, hf, hQ⟩
  have st := bod.st
  have h16 := hf.len
  show WSs X ([("_law_work_here", some (.lst (w.map Bk.d))), ("_law_box", some (natD b)), ("_law_b", none), ("_law_one", none)] : VEnv) M _ _
  walk_at "ret"
  refine we_frz ?_
  refine we_pick (List.range w.length) natD natD (fun k => wrK b (w.getD k bk0)) [("_law_b", 2)] ["_law_b", "_law_work_here", "_law_box"] ["any"] [] bod (by decide +kernel) (by walk_at "mem") (by walk_at "wiped") ?_
  refine wi_range st (by walk_at "mem") ?_
  walk_at "run"
  rw [List.length_map, Int.toNat_natCast, rng0]
  refine ⟨by omega, by omega, rfl, by rw [List.length_range]; exact szl (by omega), fun _ _ => trivial, fun k hk => ⟨_, by walk_at "put", fun X1 inn L acc => ?_, fun hw X1 inn L acc => ?_⟩, fun p => ⟨_, _, _, rfl, rfl, hQ⟩⟩
  · have st1 := inn.st
    have hk := List.mem_range.mp hk
    have hbm : w.getD k bk0 ∈ w := List.mem_of_getElem? (at_bk hk)
    have h24 := hf.few _ hbm
    walk_at "run"
    refine we_frz ?_
    refine we_mapB (w.getD k bk0).1 Dd.d (fun d => .bl (d.wrB b)) st1 (blk_in (own2 := [("_law_one", 3)]) (Vb := ["_law_one", "_law_box"]) (Bb := []) (Fb := []) bod inn (by decide +kernel)) (by walk_at "mem") (by walk_at "wiped") ?_
    refine wi_list ?_
    walk_at "run"
    refine ⟨_, _, rfl, IxD.list isR_lst (atI_map (at_bk hk)), ?_⟩
    walk_at "run"
    refine ⟨_, _, rfl, IxD.tup rfl, ?_⟩
    refine ⟨_, isR_lst, rfl, szl (by omega), fun _ _ => isR_lst, fun d hd => ⟨_, by walk_at "put", fun X2 inn2 L2 acc2 => ?_⟩, fun p => ⟨_, _, _, rfl, rfl, ?_⟩⟩
    · have st2 := inn2.st
      obtain ⟨dl, e1, e2, e3⟩ := d.at0
      walk_at "run"
      refine ⟨_, _, rfl, .inl ⟨dl, .inr e1, e2⟩, ?_⟩
      walk_at "run"
      refine od_inS (ns := ["set", "add"]) (.inr rfl) ?_
      rw [d.word_wr]
      refine ⟨_, rfl, ?_⟩
      refine ite_b (fun h => ?_) (fun h => ?_)
      · walk_at "run"
        refine ⟨_, _, rfl, .inl ⟨dl, .inr e1, e3⟩, ?_⟩
        walk_at "run"
        refine od_eqI (i := (d.wb : Int)) (j := (b : Int)) ?_
        refine ⟨rfl, ?_⟩
        unfold Dd.wrB
        rw [h, Bool.true_and, show decide ((d.wb : Int) = (b : Int)) = decide (d.wb = b) from decide_eq_decide.mpr Int.ofNat_inj]
      · refine ⟨rfl, ?_⟩
        unfold Dd.wrB
        rw [h, Bool.false_and]
    refine wa_nil ?_
    refine cd_any st1 (bs := (w.getD k bk0).1.map fun d => d.wrB b) (by rw [List.map_map]; exact isR_lst) ?_
    refine ⟨_, rfl, ?_, rfl⟩
    unfold wrK
    rw [List.any_map]; rfl
  · have st1 := inn.st
    walk_at "run"
    exact ⟨rfl, rfl⟩
theorem nl_app (a b : List Nat) : nlD (a ++ b) = .lst (a.map natD ++ b.map natD) := by rw [nlD, List.map_append]
theorem met_mem {l : List Nat} {k : Nat} : (!decide ((k : Int) ∈ l.map (fun (n : Nat) => (n : Int)))) = !decide (k ∈ l) := by
  rw [decide_eq_decide.mpr mem_natI]
/-- set and sorted of a frozen list of blocks -/
abbrev sp_law_behind : DSp := fun ds M Q => ∃ (w : W) (b : Nat), ds = [W.d w, natD b] ∧ Fit w ∧ NxIn (nexts w) ∧ (∀ l ∈ nexts w, l.Nodup) ∧ Q (nlD (reachL w b)) M
theorem ok_law_behind {f : Addr} {fd : FuncData} (F : Fun K "_law_behind" "_law_behind" s_law_behind f fd) (hm : mg "_law_behind" = some (.ref f)) (hb : Binds K fd ["_law_work_here", "_law_box"] []) (hB : ∀ x ∈ (["range", "len", "list", "sorted", "set"] : List Str), mg x = none) (h_law_ends : Fs P w K mg base 1 "_law_ends" 1 sp_law_ends) (h_law_writes : Fs P w K mg base 1 "_law_writes" 2 sp_law_writes) : Fs P w K mg base 2 "_law_behind" 2 sp_law_behind := by
  refine fs_of (N := n_law_behind) (Ln := l_law_behind) (Bn := ["range", "len", "list", "sorted", "set"]) (Fn := ["_law_ends", "_law_writes"]) (Bx := ["range", "len", "list", "sorted", "set"]) F hm hb sc_law_behind rfl (by decide +kernel) hB ?_
  rintro X ds M Q bod ⟨w, b, rfl, hf, hn, hu, hQ⟩
  have st := bod.st
  have rm := bod.room
  have h1 := bod.tr h_law_ends
  have h2 := bod.tr h_law_writes
  have h16 := hf.len
  have hnl := nexts_len w
  have hwl := writesL_len w b
  have hbe := begs_len w (writesL w b)
  show WSs X ([("_law_work_here", some (.lst (w.map Bk.d))), ("_law_box", some (natD b)), ("_law_found", none), ("_law_nexts_here", none), ("_law_block", none), ("_law_turn", none), ("_law_to", none)] : VEnv) M _ _
  refine wss_cons (ws_asg ?_ (by walk_at "unf") (sw_no2 (.inl (by rw [bod.sc]; decide +kernel))) (by walk_at "unf"))
  walk_at "run"
  refine ⟨_, w, rfl, isR_lst, fun _ _ => isR_lst, h16, ?_⟩
  walk_at "run"
  refine wg_tup st rfl ?_
  refine wgs_cons (wg_name st (by walk_at "mem") (by walk_at "put") ?_)
  refine wgs_cons (wg_name st (by walk_at "mem") (by walk_at "put") ?_)
  refine wgs_nil ?_
  rw [show w.map (fun b => nlD b.2.nx) = (nexts w).map nlD from by unfold nexts; rw [List.map_map]; rfl]
  refine wss_cons (ws_for st (wi_list ?_))
  walk_at "run"
  refine ⟨w, b, rfl, hf, ?_⟩
  refine ⟨_, isR_lst, fun i Γ' M' => ∃ o1 : Option D, Γ' = ([("_law_work_here", some (.lst (w.map Bk.d))), ("_law_box", some (natD b)), ("_law_found", some (nlD (begs w ((writesL w b).take i)))), ("_law_nexts_here", some (.lst ((nexts w).map nlD))), ("_law_block", o1), ("_law_turn", none), ("_law_to", none)] : VEnv) ∧ M' = M, ?_, ?_, ?_, ?_⟩
  · exact ⟨_, rfl, rfl⟩
  · exact fun _ _ _ _ => isR_lst
  · rintro i x Γ' M' hx ⟨o1, rfl, rfl⟩
    rw [List.getElem?_map] at hx
    obtain ⟨k, hkw, rfl⟩ := Option.map_eq_some_iff.mp hx
    have hkl := writesL_lt (List.mem_of_getElem? hkw)
    have hnx := at_nx hkl
    have h2n := nx_two (w := w) (k := k)
    have hbl := begs_len w ((writesL w b).take i)
    rw [List.length_take] at hbl
    refine wg_name st (by walk_at "mem") (by walk_at "put") ?_
    walk_at "set"
    walk_at "run"
    refine ⟨_, _, rfl, IxD.list isR_lst (atI_map hnx), ?_⟩
    refine od_cat isL_lst isL_lst (by simp only [List.length_map]; exact szl (by omega)) ?_
    walk_at "put!"
    refine wss_nil ?_
    refine ⟨some (natD k), ?_, rfl⟩
    rw [show begs w ((writesL w b).take (i + 1)) = begs w ((writesL w b).take i) ++ (nexts w).getD k [] from by rw [List.take_add_one, hkw]; unfold begs; simp, nl_app]
  · rintro Γ' M' ⟨o1, rfl, rfl⟩
    rw [List.length_map, List.take_length]
    have hlt := begs_lt (w := w) hn (l := writesL w b)
    refine wss_cons (ws_for st (wi_range st (by walk_at "mem") ?_))
    walk_at "run"
    rw [List.length_map]
    refine ⟨by omega, by omega, fun i Γ' M2 => ∃ (fd : List Nat) (o1 o2 : Option D), Bh (nexts w) (begs w (writesL w b)) fd ∧ (closedIn (nexts w) fd ∨ i ≤ cnt (nexts w).length fd) ∧ Γ' = ([("_law_work_here", some (.lst (w.map Bk.d))), ("_law_box", some (natD b)), ("_law_found", some (nlD fd)), ("_law_nexts_here", some (.lst ((nexts w).map nlD))), ("_law_block", o1), ("_law_turn", o2), ("_law_to", none)] : VEnv) ∧ M2 = M', ?_, ?_, ?_, ?_⟩
    · exact ⟨begs w (writesL w b), _, _, ⟨fun k hk => .base hk, fun k hk => hk, by omega⟩, .inr (Nat.zero_le _), rfl, rfl⟩
    · intros; trivial
    · rintro i x Γ' M2 hx ⟨fd, o1, o2, bh, hi, rfl, rfl⟩
      have hfl := bh.len
      have hcl := cnt_le (nexts w).length fd
      refine wg_name st (by walk_at "mem") (by walk_at "put") ?_
      refine wss_one (ws_for st (wi_list ?_))
      walk_at "run"
      refine cd_list (.inl isR_lst) ?_
      refine ⟨_, isR_lst, fun j Γ' M3 => ∃ (f2 : List Nat) (o1 : Option D), Bh (nexts w) (begs w (writesL w b)) f2 ∧ Bt (nexts w) fd j f2 ∧ Γ' = ([("_law_work_here", some (.lst (w.map Bk.d))), ("_law_box", some (natD b)), ("_law_found", some (nlD f2)), ("_law_nexts_here", some (.lst ((nexts w).map nlD))), ("_law_block", o1), ("_law_turn", some x), ("_law_to", none)] : VEnv) ∧ M3 = M2, ?_, ?_, ?_, ?_⟩
      · exact ⟨fd, o1, bh, ⟨fun k hk => hk, fun k hk => by simp at hk, fun _ => rfl⟩, rfl, rfl⟩
      · exact fun _ _ _ _ => isR_lst
      · rintro j y Γ' M3 hy ⟨f2, o1, bh2, bt, rfl, rfl⟩
        rw [List.getElem?_map] at hy
        obtain ⟨k, hkf, rfl⟩ := Option.map_eq_some_iff.mp hy
        have hk2 := bt.sub k (List.mem_of_getElem? hkf)
        have hkl : k < w.length := by have := (bh2.come k hk2).lt hn hlt; omega
        have hnx := at_nx hkl
        have h2n := nx_two (w := w) (k := k)
        have hf2 := bh2.len
        have hc2 := cnt_le (nexts w).length f2
        refine wg_name st (by walk_at "mem") (by walk_at "put") ?_
        refine wss_cons (ws_set st (by walk_at "mem") ?_ (by walk_at "unf"))
        walk_at "run"
        refine we_frz ?_
        refine we_pick ((nexts w).getD k []) natD natD (fun t => !decide (t ∈ f2)) [("_law_to", 6)] ["_law_to", "_law_found"] [] [] bod (by decide +kernel) (by walk_at "mem") (by walk_at "wiped") ?_
        refine wi_list ?_
        walk_at "run"
        refine ⟨_, _, rfl, IxD.list isR_lst (atI_map hnx), ?_⟩
        refine ⟨_, isR_lst, rfl, szl (by omega), fun _ _ => isR_lst, fun t ht => ⟨_, by walk_at "put", fun X1 inn L acc => ?_, fun hw X1 inn L acc => ?_⟩, fun p => ⟨_, _, _, rfl, rfl, ?_⟩⟩
        · have st1 := inn.st
          walk_at "run"
          refine od_notInI (i := (t : Int)) (ns := f2.map fun (n : Nat) => (n : Int)) (.inl isR_nl) ?_
          exact ⟨_, rfl, met_mem, rfl⟩
        · have st1 := inn.st
          walk_at "run"
          exact ⟨rfl, rfl⟩
        · have := List.length_filter_le (fun t => !decide (t ∈ f2)) ((nexts w).getD k [])
          refine od_cat isL_lst isL_lst (by simp only [List.length_map]; exact szl (by omega)) ?_
          walk_at "put!"
          refine wss_nil ?_
          refine ⟨f2 ++ addN (nexts w) f2 k, some (natD k), bh2.add hn hu hk2, bt.add hkf, ?_, rfl⟩
          rw [nl_app]; rfl
      · rintro Γ' M3 ⟨f2, o1, bh2, bt, rfl, rfl⟩
        rw [List.length_map] at bt
        exact ⟨f2, _, _, bh2, bt.step hn hi, rfl, rfl⟩
    · rintro Γ' M2 ⟨fd, o1, o2, bh, hi, rfl, rfl⟩
      have hfl := bh.len
      have hcl := cnt_le (nexts w).length fd
      rw [rngD_length, Int.toNat_natCast] at hi
      have hfin := bh.fin hn hlt (by rw [hnl] at hi ⊢; exact hi)
      walk_at "ret"
      refine we_gc ?_
      walk_at "run"
      refine cd_setI st (ns := fd.map fun (n : Nat) => (n : Int)) isR_nl (by rw [List.length_map]; omega) fun ps cc hcc => ?_
      walk_at "run"
      refine cd_sortedSet st .here ?_ (upI' (comeL_up (nx := nexts w) (bs := begs w (writesL w b)))) (fun k => ?_) ?_
      · have := hcc ((List.range 60).map fun (n : Nat) => (n : Int)) (fun k hk => by
          obtain ⟨n, hn', rfl⟩ := List.mem_map.mp hk
          have := (bh.come n hn').lt hn hlt
          exact List.mem_map.mpr ⟨n, List.mem_range.mpr (by omega), rfl⟩)
        rw [List.length_map, List.length_range] at this
        omega
      · rw [decide_eq_true_iff, List.mem_map, List.mem_map]
        exact ⟨fun ⟨n, h, e⟩ => ⟨n, (hfin n).mp h, e⟩, fun ⟨n, h, e⟩ => ⟨n, (hfin n).mpr h, e⟩⟩
      rw [List.map_map]
      exact ⟨[_], _, .refl _, hQ⟩
end
end Gen

namespace Gen
open PySem L2 DL Wk
abbrev sboxes_read : Stmt := top 10
abbrev lboxes_read : List Str := ["deed", "asked"]
abbrev nboxes_read : List Str := ["deed", "asked"]
theorem scboxes_read : FnScope nboxes_read ["deed", "asked"] (defScope sboxes_read) := ⟨rfl, rfl, rfl, by decide +kernel, rfl, by decide +kernel, by decide +kernel⟩
abbrev sfirst_touch : Stmt := top 11
abbrev lfirst_touch : List Str := ["deeds", "box", "asked", "deed"]
abbrev nfirst_touch : List Str := ["deeds", "box", "asked", "deed"]
theorem scfirst_touch : FnScope nfirst_touch ["deeds", "box", "asked"] (defScope sfirst_touch) := ⟨rfl, rfl, rfl, by decide +kernel, rfl, by decide +kernel, by decide +kernel⟩
abbrev sbackwards : Stmt := top 12
abbrev lbackwards : List Str := ["nexts"]
abbrev nbackwards : List Str := ["nexts", "to", "block"]
theorem scbackwards : FnScope nbackwards ["nexts"] (defScope sbackwards) := ⟨rfl, rfl, rfl, by decide +kernel, rfl, by decide +kernel, by decide +kernel⟩
abbrev sawaiting : Stmt := top 13
abbrev lawaiting : List Str := ["work", "box", "asked", "touches", "leads", "free"]
abbrev nawaiting : List Str := ["work", "box", "asked", "touches", "leads", "free", "deeds", "end", "some", "lead", "block", "touch"]
theorem scawaiting : FnScope nawaiting ["work", "box", "asked"] (defScope sawaiting) := ⟨rfl, rfl, rfl, by decide +kernel, rfl, by decide +kernel, by decide +kernel⟩
abbrev sasked_by : Stmt := top 14
abbrev lasked_by : List Str := ["works", "box", "found", "changed", "told"]
abbrev nasked_by : List Str := ["works", "box", "found", "changed", "told", "work"]
theorem scasked_by : FnScope nasked_by ["works", "box"] (defScope sasked_by) := ⟨rfl, rfl, rfl, by decide +kernel, rfl, by decide +kernel, by decide +kernel⟩
section
variable {P : Program} {w : World} {K : PySem.W.Frag} {mg : Str → Option Value} {base : Heap}
abbrev spboxes_read : DSp := fun ds M Q => ∃ (d : Dd) (al : List (List Nat)), ds = [d.d, .lst (al.map nlD)] ∧ d.Ok al.length ∧ Q (nlD (d.reads al)) M
theorem okboxes_read {f : Addr} {fd : FuncData} (F : Fun K "boxes_read" "boxes_read" sboxes_read f fd) (hm : mg "boxes_read" = some (.ref f)) (hb : Binds K fd ["deed", "asked"] []) : Fs P w K mg base 1 "boxes_read" 2 spboxes_read := by
  refine fs_of (N := nboxes_read) (Ln := lboxes_read) (Bn := []) (Fn := []) (Bx := []) F hm hb scboxes_read rfl (by decide +kernel) (fun _ h => by cases h) ?_
  rintro X ds M Q bod ⟨d, al, rfl, hok, hQ⟩
  have st := bod.st
  show WSs X ([("deed", some (d.d)), ("asked", some (.lst (al.map nlD)))] : VEnv) M _ _
  cases d with
  | call w =>
    unfold Dd.d
    have hw : w < al.length := hok
    have e : al[w]? = some (al.getD w []) := by rw [List.getD_eq_getElem?_getD, List.getElem?_eq_getElem hw]; rfl
    walk_at "if"
    walk_at "go"
    refine wss_nil ?_
    walk_at "if"
    walk_at "go"
    refine wss_nil ?_
    walk_at "if"
    walk_at "go"
    walk_at "ret"
    walk_at "go"
    refine ⟨_, _, rfl, IxD.list isR_lst (atI_map e), ?_⟩
    exact hQ
  | add x y =>
    unfold Dd.d
    walk_at "if"
    walk_at "go"
    walk_at "ret"
    walk_at "go"
    exact hQ
  | tell x =>
    unfold Dd.d
    walk_at "if"
    walk_at "go"
    refine wss_nil ?_
    walk_at "if"
    walk_at "go"
    walk_at "ret"
    walk_at "go"
    exact hQ
  | _ =>
    unfold Dd.d
    walk_at "if"
    walk_at "go"
    refine wss_nil ?_
    walk_at "if"
    walk_at "go"
    refine wss_nil ?_
    walk_at "if"
    walk_at "go"
    refine wss_nil ?_
    walk_at "ret"
    walk_at "go"
    exact hQ
theorem mem_nat1 {k : Nat} {l : List Nat} : decide ((k : Int) ∈ l.map (fun (n : Nat) => (n : Int))) = decide (k ∈ l) := decide_eq_decide.mpr mem_natI
abbrev spfirst_touch : DSp := fun ds M Q => ∃ (dd : List Dd) (b : Nat) (al : List (List Nat)), ds = [.lst (dd.map Dd.d), natD b, .lst (al.map nlD)] ∧ (∀ d ∈ dd, d.Ok al.length) ∧ dd.length ≤ 24 ∧ Q (.str (touch b al dd).s) M
theorem okfirst_touch {f : Addr} {fd : FuncData} (F : Fun K "first_touch" "first_touch" sfirst_touch f fd) (hm : mg "first_touch" = some (.ref f)) (hb : Binds K fd ["deeds", "box", "asked"] []) (hboxes_read : Fs P w K mg base 1 "boxes_read" 2 spboxes_read) (hboxes_written : Fs P w K mg base 1 "boxes_written" 1 spboxes_written) : Fs P w K mg base 2 "first_touch" 3 spfirst_touch := by
  refine fs_of (N := nfirst_touch) (Ln := lfirst_touch) (Bn := []) (Fn := ["boxes_read", "boxes_written"]) (Bx := []) F hm hb scfirst_touch rfl (by decide +kernel) (fun _ h => by cases h) ?_
  rintro X ds M Q bod ⟨dd, b, al, rfl, hok, hlen, hQ⟩
  have st := bod.st
  have rm := bod.room
  have h1 := bod.tr hboxes_read
  have h2 := bod.tr hboxes_written
  show WSs X ([("deeds", some (.lst (dd.map Dd.d))), ("box", some (natD b)), ("asked", some (.lst (al.map nlD))), ("deed", none)] : VEnv) M _ _
  refine wss_cons (ws_for st (wi_list ?_))
  walk_at "run"
  refine ⟨_, isR_lst, fun i Γ' M' => ∃ o1 : Option D, touch b al dd = touch b al (dd.drop i) ∧ Γ' = ([("deeds", some (.lst (dd.map Dd.d))), ("box", some (natD b)), ("asked", some (.lst (al.map nlD))), ("deed", o1)] : VEnv) ∧ M' = M, ?_, ?_, ?_, ?_⟩
  · exact ⟨_, rfl, rfl, rfl⟩
  · exact fun _ _ _ _ => isR_lst
  · rintro i x Γ' M' hx ⟨o1, ht, rfl, rfl⟩
    rw [List.getElem?_map] at hx
    obtain ⟨d, hd, rfl⟩ := Option.map_eq_some_iff.mp hx
    have hi := (List.getElem?_eq_some_iff.mp hd).1
    have hdr : dd.drop i = d :: dd.drop (i + 1) := by rw [List.drop_eq_getElem_cons hi, (List.getElem?_eq_some_iff.mp hd).2]
    rw [hdr, touch] at ht
    refine wg_name st (by walk_at "mem") (by walk_at "put") ?_
    refine wss_cons (ws_if ?_)
    walk_at "run"
    refine ⟨d, al, rfl, hok d (List.mem_of_getElem? hd), ?_⟩
    walk_at "run"
    refine od_inI (i := (b : Int)) (ns := (d.reads al).map fun (n : Nat) => (n : Int)) (.inl isR_nl) ?_
    rw [mem_nat1]
    walk_at "run"
    refine ite_d (fun h => ?_) (fun h => ?_)
    · walk_at "ret"
      walk_at "run"
      rw [if_pos h] at ht
      rw [ht] at hQ
      exact hQ
    · rw [if_neg h] at ht
      refine wss_nil ?_
      refine wss_one (ws_if ?_)
      walk_at "run"
      refine ⟨[d], rfl, by simp, ?_⟩
      walk_at "run"
      refine od_inI (i := (b : Int)) (ns := (([d].filter Dd.wr).map Dd.wb).map fun (n : Nat) => (n : Int)) (.inl (by rw [List.map_map, List.map_map]; exact isR_lst)) ?_
      rw [mem_nat1]
      have hw : decide (b ∈ ([d].filter Dd.wr).map Dd.wb) = d.wrB b := by
        unfold Dd.wrB
        cases hd : d.wr <;> simp [hd, eq_comm]
      rw [hw]
      walk_at "run"
      refine ite_b (fun h => ?_) (fun h => ?_)
      · walk_at "ret"
        walk_at "run"
        rw [if_pos h] at ht
        rw [ht] at hQ
        exact hQ
      · rw [h, if_neg Bool.false_ne_true] at ht
        exact wss_nil ⟨_, ht, rfl, rfl⟩
  · rintro Γ' M' ⟨o1, ht, rfl, rfl⟩
    rw [List.length_map, List.drop_length] at ht
    walk_at "ret"
    walk_at "run"
    rw [ht] at hQ
    exact hQ
abbrev spbackwards : DSp := fun ds M Q => ∃ nx : List (List Nat), ds = [.lst (nx.map nlD)] ∧ nx.length ≤ 60 ∧ Q (.lst ((leads nx).map nlD)) M
theorem okbackwards {f : Addr} {fd : FuncData} (F : Fun K "backwards" "backwards" sbackwards f fd) (hm : mg "backwards" = some (.ref f)) (hb : Binds K fd ["nexts"] []) (hB : ∀ x ∈ (["range", "len"] : List Str), mg x = none) : Fs P w K mg base 1 "backwards" 1 spbackwards := by
  refine fs_of (N := nbackwards) (Ln := lbackwards) (Bn := ["range", "len"]) (Fn := []) (Bx := ["range", "len"]) F hm hb scbackwards rfl (by decide +kernel) hB ?_
  rintro X ds M Q bod ⟨nx, rfl, hlen, hQ⟩
  have st := bod.st
  show WSs X ([("nexts", some (.lst (nx.map nlD))), ("to", none), ("block", none)] : VEnv) M _ _
  walk_at "ret"
  refine we_frz ?_
  refine we_map (List.range nx.length) natD (fun to => nlD ((List.range nx.length).filter fun k => decide (to ∈ nx.getD k []))) [("to", 1)] ["to", "nexts"] ["range", "len"] [] bod (by decide +kernel) (by walk_at "mem") (by walk_at "wiped") ?_
  refine wi_range st (by walk_at "mem") ?_
  walk_at "run"
  rw [List.length_map, Int.toNat_natCast, rng0]
  refine ⟨by omega, by omega, rfl, by rw [List.length_range]; exact szl (by omega), fun _ _ => trivial, fun to hto => ⟨_, by walk_at "put", fun X1 inn L acc => ?_⟩, fun p => ⟨_, _, _, rfl, rfl, ?_⟩⟩
  · have st1 := inn.st
    refine we_frz ?_
    refine we_pickB (List.range nx.length) natD natD (fun k => decide (to ∈ nx.getD k [])) st1 (blk_in (own2 := [("block", 2)]) (Vb := ["block", "nexts", "to"]) (Bb := []) (Fb := []) bod inn (by decide +kernel)) (by walk_at "mem") (by walk_at "wiped") ?_
    refine wi_range st1 (by walk_at "mem") ?_
    walk_at "run"
    rw [List.length_map, Int.toNat_natCast, rng0]
    refine ⟨by omega, by omega, rfl, by rw [List.length_range]; exact szl (by omega), fun _ _ => trivial, fun k hk => ⟨_, by walk_at "put", fun X2 inn2 L2 acc2 => ?_, fun hw X2 inn2 L2 acc2 => ?_⟩, fun p => ⟨_, _, _, rfl, rfl, ?_⟩⟩
    · have st2 := inn2.st
      have hkl := List.mem_range.mp hk
      have e : nx[k]? = some (nx.getD k []) := by rw [List.getD_eq_getElem?_getD, List.getElem?_eq_getElem hkl]; rfl
      walk_at "run"
      refine ⟨_, _, rfl, IxD.list isR_lst (atI_map e), ?_⟩
      walk_at "run"
      refine od_inI (i := (to : Int)) (ns := (nx.getD k []).map fun (n : Nat) => (n : Int)) (.inl isR_nl) ?_
      rw [mem_nat1]
      exact ⟨_, rfl, rfl, rfl⟩
    · have st2 := inn2.st
      walk_at "run"
      exact ⟨rfl, rfl⟩
    · exact ⟨rfl, rfl⟩
  · unfold leads at hQ
    rw [List.map_map] at hQ
    exact hQ
abbrev spawaiting : DSp := fun ds M Q => ∃ (w : W) (b : Nat) (al : List (List Nat)), ds = [W.d w, natD b, .lst (al.map nlD)] ∧ Fit w ∧ (∀ k ∈ w, ∀ d ∈ k.1, d.Ok al.length) ∧ ∀ p, Q (.ref p) ((p, .lst ((awaitL w b al).map natD)) :: M)
theorem okawaiting {f : Addr} {fd : FuncData} (F : Fun K "awaiting" "awaiting" sawaiting f fd) (hm : mg "awaiting" = some (.ref f)) (hb : Binds K fd ["work", "box", "asked"] []) (hB : ∀ x ∈ (["enumerate"] : List Str), mg x = none) (hfirst_touch : Fs P w K mg base 2 "first_touch" 3 spfirst_touch) (hnexts_of : Fs P w K mg base 1 "nexts_of" 1 spnexts_of) (hbackwards : Fs P w K mg base 1 "backwards" 1 spbackwards) (hcome_to : Fs P w K mg base 1 "come_to" 2 spcome_to) : Fs P w K mg base 3 "awaiting" 3 spawaiting := by
  refine fs_of (N := nawaiting) (Ln := lawaiting) (Bn := ["enumerate"]) (Fn := ["backwards", "nexts_of", "come_to"]) (Bx := ["enumerate"]) F hm hb scawaiting rfl (by decide +kernel) hB ?_
  rintro X ds M Q bod ⟨w, b, al, rfl, hf, hok, hQ⟩
  have st := bod.st
  have rm := bod.room
  have h1 := bod.tr hfirst_touch
  have h2 := bod.tr hnexts_of
  have h3 := bod.tr hbackwards
  have h4 := bod.tr hcome_to
  have h16 := hf.len
  have hnl := nexts_len w
  have hll := leads_len (nexts w)
  show WSs X ([("work", some (.lst (w.map Bk.d))), ("box", some (natD b)), ("asked", some (.lst (al.map nlD))), ("touches", none), ("leads", none), ("free", none), ("deeds", none), ("end", none), ("some", none), ("lead", none), ("block", none), ("touch", none)] : VEnv) M _ _
  refine wss_cons (ws_set st (by walk_at "mem") ?_ (sw_cell (by rw [bod.sc]; decide +kernel)))
  refine we_frz ?_
  refine we_mapT2 w (fun b => .lst (b.1.map Dd.d)) (fun b => b.2.d) (fun k => .str (touch b al k.1).s) [("deeds", 6), ("end", 7)] ["deeds", "end", "box", "asked"] [] ["first_touch"] bod (by decide +kernel) (by walk_at "mem") (by walk_at "mem") (by walk_at "wiped") ?_
  refine wi_list ?_
  walk_at "run"
  refine ⟨_, isR_lst, rfl, szl (by omega), fun _ _ => isR_lst, fun a ha => ⟨_, _, by walk_at "put", by walk_at "put", fun X1 inn L acc => ?_⟩, fun p => ⟨_, _, _, rfl, rfl, ?_⟩⟩
  · have st1 := inn.st
    have g1 := inn.tr h1
    have rm1 := inn.rm rm
    walk_at "run"
    exact ⟨a.1, b, al, rfl, hok a ha, hf.few a ha, rfl, rfl⟩
  rw [show w.map (fun k => D.str (touch b al k.1).s) = (tchs w b al).map Tch.d from by rw [tchs, List.map_map]; rfl]
  walk_at "put!"
  walk_at "set"
  walk_at "run"
  refine ⟨_, w, rfl, isR_lst, fun _ _ => isR_lst, by omega, ?_⟩
  walk_at "run"
  refine ⟨nexts w, rfl, by omega, ?_⟩
  walk_at "run"
  have leadlt : ∀ l ∈ leads (nexts w), l.length ≤ 60 ∧ ∀ k ∈ l, k < w.length := fun l hl => by
    unfold leads at hl
    obtain ⟨to, _, rfl⟩ := List.mem_map.mp hl
    refine ⟨?_, fun k hk => ?_⟩
    · have := List.length_filter_le (fun k => decide (to ∈ (nexts w).getD k [])) (List.range (nexts w).length)
      rw [List.length_range] at this
      omega
    · have := List.mem_range.mp (List.mem_filter.mp hk).1
      omega
  refine wss_cons (ws_setMap (j := 5) (leads (nexts w)) nlD (fun l => nlD (l.filter fun k => decide ((tchs w b al).getD k .w = .n))) [("some", 8)] ["some", "touches"] [] [] bod (by decide +kernel) (by walk_at "mem") (by walk_at "wiped") (by walk_at "mem") (by decide +kernel) rfl (by decide +kernel) ?_)
  refine wi_list ?_
  walk_at "run"
  refine ⟨_, isR_lst, rfl, szl (by omega), fun _ _ => isR_lst, fun l hl => ⟨_, by walk_at "put", fun X1 inn L acc => ?_⟩, fun p => ?_⟩
  · have st1 := inn.st
    obtain ⟨l60, llt⟩ := leadlt l hl
    refine we_frz ?_
    refine we_pickB l natD natD (fun k => decide ((tchs w b al).getD k .w = .n)) st1 (blk_in (own2 := [("lead", 9)]) (Vb := ["lead", "touches"]) (Bb := []) (Fb := []) bod inn (by decide +kernel)) (by walk_at "mem") (by walk_at "wiped") ?_
    refine wi_list ?_
    walk_at "run"
    refine ⟨_, isR_lst, rfl, szl (by omega), fun _ _ => isR_lst, fun k hk => ⟨_, by walk_at "put", fun X2 inn2 L2 acc2 => ?_, fun hw X2 inn2 L2 acc2 => ?_⟩, fun p => ⟨_, _, _, rfl, rfl, ?_⟩⟩
    · have st2 := inn2.st
      have hkl : k < (tchs w b al).length := by rw [tchs_len]; exact llt k hk
      have e : (tchs w b al)[k]? = some ((tchs w b al).getD k .w) := by rw [List.getD_eq_getElem?_getD, List.getElem?_eq_getElem hkl]; rfl
      walk_at "run"
      refine ⟨_, _, rfl, IxD.list isR_lst (atI_map e), ?_⟩
      walk_at "run"
      refine od_eqS ?_
      exact ⟨_, rfl, Tch.s_n _, rfl⟩
    · have st2 := inn2.st
      walk_at "run"
      exact ⟨rfl, rfl⟩
    · exact ⟨rfl, rfl⟩
  rw [show (leads (nexts w)).map (fun l => nlD (l.filter fun k => decide ((tchs w b al).getD k .w = .n))) = (freeL w b al).map nlD from by rw [freeL, List.map_map]; rfl]
  walk_at "put!"
  refine wss_frz (by walk_at "look") (by walk_at "put") st (by walk_at "mem") ?_
  walk_at "ret"
  walk_at "run"
  refine we_frz ?_
  refine we_pickT2 (List.range w.length) natD (fun k => ((tchs w b al).getD k .w).d) natD (fun k => decide ((tchs w b al).getD k .w = .r)) [("block", 10), ("touch", 11)] ["block", "touch"] [] [] bod (by decide +kernel) (by walk_at "mem") (by walk_at "mem") (by walk_at "wiped") ?_
  refine wi_enum st (by walk_at "mem") ?_
  walk_at "run"
  refine ⟨_, isR_lst, ?_, by rw [List.length_range]; exact szl (by omega), fun _ _ => isR_lst, fun k hk => ⟨_, _, by walk_at "put", by walk_at "put", fun X1 inn L acc => ?_, fun hw X1 inn L acc => ?_⟩, fun p => ⟨_, _, _, rfl, rfl, ?_⟩⟩
  · rw [enum_range Tch.d .w, tchs_len]
  · have st1 := inn.st
    walk_at "run"
    refine od_eqS ?_
    exact ⟨_, rfl, Tch.s_r _, rfl⟩
  · have st1 := inn.st
    walk_at "run"
    exact ⟨rfl, rfl⟩
  walk_at "run"
  have hbl : (begL w b al).length ≤ w.length := by
    have := List.length_filter_le (fun k => decide ((tchs w b al).getD k .w = .r)) (List.range w.length)
    rw [List.length_range] at this
    exact this
  refine ⟨freeL w b al, begL w b al, rfl, freeL_in, begL_lt, by rw [freeL_len]; omega, by omega, fun l hl => ?_, fun p => hQ p⟩
  unfold freeL at hl
  obtain ⟨l', hl', rfl⟩ := List.mem_map.mp hl
  have := List.length_filter_le (fun k => decide ((tchs w b al).getD k .w = .n)) l'
  have := (leadlt l' hl').1
  omega
abbrev spasked_by : DSp := fun ds M Q => ∃ (ws : List W) (b : Nat), ds = [Ws.d ws, natD b] ∧ FitWs ws ∧ b < 1000 ∧ Q (.lst ((askedD b (askT ws b)).map nlD)) M
theorem okasked_by {f : Addr} {fd : FuncData} (F : Fun K "asked_by" "asked_by" sasked_by f fd) (hm : mg "asked_by" = some (.ref f)) (hb : Binds K fd ["works", "box"] []) (hB : ∀ x ∈ (["int"] : List Str), mg x = none) (hawaiting : Fs P w K mg base 3 "awaiting" 3 spawaiting) : Fs P w K mg base 4 "asked_by" 2 spasked_by := by
  refine fs_of (N := nasked_by) (Ln := lasked_by) (Bn := []) (Fn := []) (Bx := ["int"]) F hm hb scasked_by rfl (by decide +kernel) hB ?_
  rintro X ds M Q bod ⟨ws, b, rfl, hf, hb, hQ⟩
  have st := bod.st
  have rm := bod.room
  have h1 := bod.tr hawaiting
  have hl := hf.len
  show WSs X ([("works", some (.lst (ws.map W.d))), ("box", some (natD b)), ("found", none), ("changed", none), ("told", none), ("work", none)] : VEnv) M _ _
  refine wss_cons (ws_set st (by walk_at "mem") ?_ (sw_cell (by rw [bod.sc]; decide +kernel)))
  refine we_frz ?_
  refine we_map ws W.d (fun _ => nlD []) [("work", 5)] ["work"] [] [] bod (by decide +kernel) (by walk_at "mem") (by walk_at "wiped") ?_
  refine wi_list ?_
  walk_at "run"
  refine ⟨_, isR_lst, rfl, szl (by omega), fun _ _ => isR_lst, fun a ha => ⟨_, by walk_at "put", fun X1 inn L acc => ?_⟩, fun p => ⟨_, _, _, rfl, rfl, ?_⟩⟩
  · have st1 := inn.st
    walk_at "run"
    exact ⟨rfl, rfl⟩
  rw [show ws.map (fun _ => nlD []) = (askedD b (ws.map fun _ => false)).map nlD from by rw [askedD, List.map_map, List.map_map]; rfl]
  walk_at "put!"
  walk_at "set"
  walk_at "run"
  refine wss_cons (ws_while st (fun m Γ' M' => ∃ (ts : List Bool) (ch : Bool) (o1 : Option D), AskOk ws b ts ∧ (ch = false → askStep ws b ts = ts) ∧ m = (if ch = true then 1 + (ws.length - cntT ts) else 0) ∧ Γ' = ([("works", some (.lst (ws.map W.d))), ("box", some (natD b)), ("found", some (.lst ((askedD b ts).map nlD))), ("changed", some (.bl ch)), ("told", o1), ("work", none)] : VEnv) ∧ M' = M) _ ⟨_, true, _, .start, fun h => (by cases h), rfl, rfl, rfl⟩ ?_)
  rintro m Γ' M' ⟨ts, ch, o1, hok, hch, hm, rfl, rfl⟩
  walk_at "run"
  cases ch with
  | true =>
    rw [if_pos rfl] at hm ⊢
    have htl := hok.len
    refine wss_cons (ws_setMap (j := 4) ws W.d (fun w => nlD (if decide (0 ∈ awaitL w b (askedD b ts)) = true then [b] else [])) [("work", 5)] ["work", "box", "found"] ["int"] ["awaiting"] bod (by decide +kernel) (by walk_at "mem") (by walk_at "wiped") (by walk_at "mem") (by decide +kernel) rfl (by decide +kernel) ?_)
    refine wi_list ?_
    walk_at "run"
    refine ⟨_, isR_lst, rfl, szl (by omega), fun _ _ => isR_lst, fun a ha => ⟨_, by walk_at "put", fun X1 inn L acc => ?_⟩, fun p => ?_⟩
    · have st1 := inn.st
      have g1 := inn.tr h1
      have rm1 := inn.rm rm
      walk_at "run"
      refine ⟨a, b, askedD b ts, rfl, hf.fit a ha, fun k hk d hd => by rw [askedD_len, htl]; exact hf.ok a ha k hk d hd, fun p => ?_⟩
      walk_at "run"
      refine od_frzR ?_
      refine od_inI (i := ((0 : Nat) : Int)) (ns := (awaitL a b (askedD b ts)).map fun (n : Nat) => (n : Int)) (.inl (by rw [List.map_map]; exact isR_lst)) ?_
      rw [mem_nat1]
      walk_at "run"
      refine od_rep isL_lst (by split <;> omega) (by split <;> exact szl (by simp)) ?_
      refine ⟨rfl, ?_⟩
      by_cases q : 0 ∈ awaitL a b (askedD b ts) <;> simp [q]
    rw [told_step]
    walk_at "put!"
    refine wss_frz (by walk_at "look") (by walk_at "put") st (by walk_at "mem") ?_
    walk_at "set"
    walk_at "run"
    have hsl : (askStep ws b ts).length = ws.length := askStep_len
    refine od_neP st (py_nls isR_lst) (py_nls isR_lst) ((shw_nls (askedD_bd hb) (by rw [askedD_len, hsl]; omega)).shaped (by omega)) ((shw_nls (askedD_bd hb) (by rw [askedD_len, htl]; omega)).shaped (by omega)) ?_
    rw [show PyData.eqv (.list ((askedD b (askStep ws b ts)).map nlP)) (.list ((askedD b ts).map nlP)) = decide (askStep ws b ts = ts) from by simp only [PyData.eqv]; rw [eqv_nls]; exact decide_eq_decide.mpr askedD_inj]
    walk_at "put!"
    walk_at "set"
    walk_at "run"
    refine wss_nil ?_
    have hcnt := leT_cnt hok.up
    have hle := cntT_le (askStep ws b ts)
    by_cases q : askStep ws b ts = ts
    · rw [decide_eq_true q]
      exact ⟨0, by omega, _, false, _, hok.step, fun _ => by rw [q, q], rfl, rfl, rfl⟩
    · rw [decide_eq_false q]
      have := hcnt.2 fun e => q e.symm
      exact ⟨_, by show (if true = true then 1 + (ws.length - cntT (askStep ws b ts)) else 0) < m; rw [if_pos rfl]; omega, _, true, _, hok.step, fun h => (by cases h), rfl, rfl, rfl⟩
  | false =>
    rw [if_neg Bool.false_ne_true]
    rw [hok.is hf.nx (hch rfl)]
    walk_at "ret"
    walk_at "run"
    exact hQ
end
end Gen

namespace Gen
open PySem L2 DL Wk
abbrev sawaited : Stmt := top 15
abbrev lawaited : List Str := ["works", "number", "box"]
abbrev nawaited : List Str := ["works", "number", "box"]
theorem scawaited : FnScope nawaited ["works", "number", "box"] (defScope sawaited) := ⟨rfl, rfl, rfl, by decide +kernel, rfl, by decide +kernel, by decide +kernel⟩
abbrev swriting : Stmt := top 16
abbrev lwriting : List Str := ["work", "box"]
abbrev nwriting : List Str := ["work", "box", "block", "one"]
theorem scwriting : FnScope nwriting ["work", "box"] (defScope swriting) := ⟨rfl, rfl, rfl, by decide +kernel, rfl, by decide +kernel, by decide +kernel⟩
abbrev sreached : Stmt := top 17
abbrev lreached : List Str := ["works", "number", "box", "work", "nexts", "begins", "block", "to"]
abbrev nreached : List Str := ["works", "number", "box", "work", "nexts", "begins", "block", "to"]
theorem screached : FnScope nreached ["works", "number", "box"] (defScope sreached) := ⟨rfl, rfl, rfl, by decide +kernel, rfl, by decide +kernel, by decide +kernel⟩
section
variable {P : Program} {w : World} {K : PySem.W.Frag} {mg : Str → Option Value} {base : Heap}
abbrev spawaited : DSp := fun ds M Q => ∃ (ws : List W) (n b : Nat) (w : W), ds = [Ws.d ws, natD n, natD b] ∧ FitWs ws ∧ ws[n]? = some w ∧ b < 1000 ∧ ∀ p, Q (.ref p) ((p, .lst ((awtL ws n b w.length).map natD)) :: M)
theorem okawaited {f : Addr} {fd : FuncData} (F : Fun K "awaited" "awaited" sawaited f fd) (hm : mg "awaited" = some (.ref f)) (hb : Binds K fd ["works", "number", "box"] []) (hawaiting : Fs P w K mg base 3 "awaiting" 3 spawaiting) (hasked_by : Fs P w K mg base 4 "asked_by" 2 spasked_by) : Fs P w K mg base 5 "awaited" 3 spawaited := by
  refine fs_of (N := nawaited) (Ln := lawaited) (Bn := []) (Fn := ["awaiting", "asked_by"]) (Bx := []) F hm hb scawaited rfl (by decide +kernel) (fun _ h => by cases h) ?_
  rintro X ds M Q bod ⟨ws, n, b, w, rfl, hf, hw, hb, hQ⟩
  have st := bod.st
  have rm := bod.room
  have h1 := bod.tr hawaiting
  have h2 := bod.tr hasked_by
  have hwm := List.mem_of_getElem? hw
  show WSs X ([("works", some (.lst (ws.map W.d))), ("number", some (natD n)), ("box", some (natD b))] : VEnv) M _ _
  walk_at "ret"
  walk_at "run"
  refine ⟨_, _, rfl, IxD.list isR_lst (atI_map hw), ?_⟩
  walk_at "run"
  refine ⟨ws, b, rfl, hf, hb, ?_⟩
  walk_at "run"
  refine ⟨w, b, _, rfl, hf.fit w hwm, fun k hk d hd => ?_, fun p => ?_⟩
  · rw [askedD_len, askT_len]; exact hf.ok w hwm k hk d hd
  · rw [awtL_is hf.nx hw]
    exact hQ p
abbrev spwriting : DSp := fun ds M Q => ∃ (w : W) (b : Nat), ds = [W.d w, natD b] ∧ Fit w ∧ Q (nlD (writesL w b)) M
theorem okwriting {f : Addr} {fd : FuncData} (F : Fun K "writing" "writing" swriting f fd) (hm : mg "writing" = some (.ref f)) (hb : Binds K fd ["work", "box"] []) (hB : ∀ x ∈ (["enumerate"] : List Str), mg x = none) (hboxes_written : Fs P w K mg base 1 "boxes_written" 1 spboxes_written) : Fs P w K mg base 2 "writing" 2 spwriting := by
  refine fs_of (N := nwriting) (Ln := lwriting) (Bn := ["enumerate"]) (Fn := []) (Bx := ["enumerate"]) F hm hb scwriting rfl (by decide +kernel) hB ?_
  rintro X ds M Q bod ⟨w, b, rfl, hf, hQ⟩
  have st := bod.st
  have rm := bod.room
  have h1 := bod.tr hboxes_written
  have h16 := hf.len
  show WSs X ([("work", some (.lst (w.map Bk.d))), ("box", some (natD b)), ("block", none), ("one", none)] : VEnv) M _ _
  walk_at "ret"
  refine we_frz ?_
  refine we_pickT2 (List.range w.length) natD (fun k => (w.getD k bk0).d) natD (fun k => wrK b (w.getD k bk0)) [("block", 2), ("one", 3)] ["block", "one", "box"] [] ["boxes_written"] bod (by decide +kernel) (by walk_at "mem") (by walk_at "mem") (by walk_at "wiped") ?_
  refine wi_enum st (by walk_at "mem") ?_
  walk_at "run"
  refine ⟨_, isR_lst, ?_, by rw [List.length_range]; exact szl (by omega), fun _ _ => isR_lst, fun k hk => ⟨_, _, by walk_at "put", by walk_at "put", fun X1 inn L acc => ?_, fun hw X1 inn L acc => ?_⟩, fun p => ⟨_, _, _, rfl, rfl, hQ⟩⟩
  · rw [enum_range Bk.d bk0]
  · have st1 := inn.st
    have g1 := inn.tr h1
    have rm1 := inn.rm rm
    have hk := List.mem_range.mp hk
    have hbm : w.getD k bk0 ∈ w := List.mem_of_getElem? (at_bk hk)
    walk_at "run"
    refine ⟨_, _, rfl, IxD.tup rfl, ?_⟩
    walk_at "run"
    refine ⟨_, rfl, hf.few _ hbm, ?_⟩
    walk_at "run"
    refine od_inI (i := (b : Int)) (ns := (((w.getD k bk0).1.filter Dd.wr).map Dd.wb).map fun (n : Nat) => (n : Int)) (.inl (by rw [List.map_map, List.map_map]; exact isR_lst)) ?_
    rw [mem_nat1]
    exact ⟨_, rfl, wrK_mem, rfl⟩
  · have st1 := inn.st
    walk_at "run"
    exact ⟨rfl, rfl⟩
abbrev spreached : DSp := fun ds M Q => ∃ (ws : List W) (n b : Nat) (w : W), ds = [Ws.d ws, natD n, natD b] ∧ FitWs ws ∧ ws[n]? = some w ∧ ∀ p, Q (.ref p) ((p, .lst ((reachL w b).map natD)) :: M)
theorem okreached {f : Addr} {fd : FuncData} (F : Fun K "reached" "reached" sreached f fd) (hm : mg "reached" = some (.ref f)) (hb : Binds K fd ["works", "number", "box"] []) (hB : ∀ x ∈ (["sorted"] : List Str), mg x = none) (hnexts_of : Fs P w K mg base 1 "nexts_of" 1 spnexts_of) (hwriting : Fs P w K mg base 2 "writing" 2 spwriting) (hcome_to : Fs P w K mg base 1 "come_to" 2 spcome_to) : Fs P w K mg base 3 "reached" 3 spreached := by
  refine fs_of (N := nreached) (Ln := lreached) (Bn := ["sorted"]) (Fn := ["nexts_of", "writing", "come_to"]) (Bx := ["sorted"]) F hm hb screached rfl (by decide +kernel) hB ?_
  rintro X ds M Q bod ⟨ws, n, b, w, rfl, hf, hw, hQ⟩
  have st := bod.st
  have rm := bod.room
  have h1 := bod.tr hnexts_of
  have h2 := bod.tr hwriting
  have h3 := bod.tr hcome_to
  have hwm := List.mem_of_getElem? hw
  have hfw := hf.fit w hwm
  have hn := hf.nx w hwm
  have h16 := hfw.len
  have hnl := nexts_len w
  show WSs X ([("works", some (.lst (ws.map W.d))), ("number", some (natD n)), ("box", some (natD b)), ("work", none), ("nexts", none), ("begins", none), ("block", none), ("to", none)] : VEnv) M _ _
  walk_at "set"
  walk_at "run"
  refine ⟨_, _, rfl, IxD.list isR_lst (atI_map hw), ?_⟩
  walk_at "put!"
  walk_at "set"
  walk_at "run"
  refine ⟨_, w, rfl, isR_lst, fun _ _ => isR_lst, by omega, ?_⟩
  walk_at "run"
  walk_at "set"
  refine we_dnew fun pb => ?_
  walk_at "run"
  have hwl := writesL_len w b
  refine wss_cons (ws_for st (wi_list ?_))
  walk_at "run"
  refine ⟨w, b, rfl, hfw, ?_⟩
  refine ⟨_, isR_lst, fun i Γ' M' => ∃ (kvs : List (Key × D)) (o1 o2 : Option D), KeysOf kvs (begs w ((writesL w b).take i)) ∧ Γ' = ([("works", some (.lst (ws.map W.d))), ("number", some (natD n)), ("box", some (natD b)), ("work", some (W.d w)), ("nexts", some (.lst ((nexts w).map nlD))), ("begins", some (.ref pb)), ("block", o1), ("to", o2)] : VEnv) ∧ M' = (pb, .dK kvs) :: M, ?_, ?_, ?_, ?_⟩
  · exact ⟨[], _, _, by simpa [begs] using keys_nil, rfl, rfl⟩
  · exact fun _ _ _ _ => isR_lst
  · rintro i x Γ' M' hx ⟨kvs, o1, o2, hk, rfl, rfl⟩
    rw [List.getElem?_map] at hx
    obtain ⟨k, hkw, rfl⟩ := Option.map_eq_some_iff.mp hx
    have hkl := writesL_lt (List.mem_of_getElem? hkw)
    have hnx := at_nx hkl
    have h2n := nx_two (w := w) (k := k)
    have hbl := begs_len w ((writesL w b).take i)
    rw [List.length_take] at hbl
    refine wg_name st (by walk_at "mem") (by walk_at "put") ?_
    refine wss_one (ws_for st (wi_list ?_))
    walk_at "run"
    refine ⟨_, _, rfl, IxD.list isR_lst (atI_map hnx), ?_⟩
    refine ⟨_, isR_lst, fun j Γ' M' => ∃ (kvs : List (Key × D)) (o2 : Option D), KeysOf kvs (begs w ((writesL w b).take i) ++ ((nexts w).getD k []).take j) ∧ Γ' = ([("works", some (.lst (ws.map W.d))), ("number", some (natD n)), ("box", some (natD b)), ("work", some (W.d w)), ("nexts", some (.lst ((nexts w).map nlD))), ("begins", some (.ref pb)), ("block", some (natD k)), ("to", o2)] : VEnv) ∧ M' = (pb, .dK kvs) :: M, ?_, ?_, ?_, ?_⟩
    · exact ⟨kvs, o2, by simpa using hk, rfl, rfl⟩
    · exact fun _ _ _ _ => isR_lst
    · rintro j x Γ' M' hx ⟨kvs, o2, hk, rfl, rfl⟩
      rw [List.getElem?_map] at hx
      obtain ⟨t, ht, rfl⟩ := Option.map_eq_some_iff.mp hx
      refine wg_name st (by walk_at "mem") (by walk_at "put") ?_
      walk_at "asg"
      walk_at "run"
      refine wg_dix st ?_ (by intro _; with_unfolding_all rfl)
      walk_at "run"
      have hlen := hk.len
      rw [List.length_append, List.length_take] at hlen
      refine ⟨pb, _, rfl, .inl ⟨kvs, .inl (t : Int), by walk_at "at", rfl, szlt (by omega), ?_⟩⟩
      refine wss_nil ⟨_, _, ?_, rfl, rfl⟩
      have := hk.put t (.bl true)
      rw [List.append_assoc] at this
      rw [List.take_add_one, ht]
      exact this
    · rintro Γ' M' ⟨kvs, o2, hk, rfl, rfl⟩
      rw [List.length_map, List.take_length] at hk
      refine ⟨kvs, _, _, ?_, rfl, rfl⟩
      rw [List.take_add_one, hkw]
      unfold begs at hk ⊢
      simpa using hk
  · rintro Γ' M' ⟨kvs, o1, o2, hk, rfl, rfl⟩
    rw [List.length_map, List.take_length] at hk
    obtain ⟨ks, k1, k2, k3, k4⟩ := hk.ex
    have hlt := begs_lt (w := w) hn (l := writesL w b)
    have pm := sortU_perm (m := w.length) k2 k3 fun t ht => by have := hlt t ht; omega
    have hbl := begs_len w (writesL w b)
    have hsl := sortU_len w.length (begs w (writesL w b))
    walk_at "ret"
    refine we_finO ?_
    walk_at "run"
    refine cd_sortedK st (by walk_at "at") (ks := ks.map fun (n : Nat) => (n : Int)) (by rw [k1, List.map_map]; rfl) (by rw [List.length_map]; omega) (pm.map _) (upI (sortU_up _ _)) ?_
    walk_at "run"
    refine ⟨nexts w, sortU w.length (begs w (writesL w b)), by rw [List.map_map]; rfl, hn, fun t ht => ?_, by omega, by omega, fun l hl => Nat.le_trans (nexts_two w l hl) (by decide), fun p => ?_⟩
    · have := (mem_sortU.mp ht).1; omega
    · refine ⟨p, _, [(pb, _)], M, rfl, .swap _ _ _, ?_⟩
      rw [comeL_congr (cs := begs w (writesL w b)) fun t => by rw [mem_sortU]; exact ⟨fun q => q.2, fun q => ⟨by have := hlt t q; omega, q⟩⟩]
      exact hQ p
end
end Gen

namespace Gen
open PySem L2 DL Wk
abbrev sbusy : Stmt := top 18
abbrev lbusy : List Str := ["works", "number", "box", "write", "late", "both"]
abbrev nbusy : List Str := ["works", "number", "box", "write", "late", "both", "block"]
theorem scbusy : FnScope nbusy ["works", "number", "box"] (defScope sbusy) := ⟨rfl, rfl, rfl, by decide +kernel, rfl, by decide +kernel, by decide +kernel⟩
section
variable {P : Program} {w : World} {K : PySem.W.Frag} {mg : Str → Option Value} {base : Heap}
abbrev spbusy : DSp := fun ds M Q => ∃ (ws : List W) (n b : Nat) (w : W), ds = [Ws.d ws, natD n, natD b] ∧ FitWs ws ∧ ws[n]? = some w ∧ b < 1000 ∧ ∀ p, Q (.ref p) ((p, .lst ((busyL ws n b w).map natD)) :: M)
theorem okbusy {f : Addr} {fd : FuncData} (F : Fun K "busy" "busy" sbusy f fd) (hm : mg "busy" = some (.ref f)) (hb : Binds K fd ["works", "number", "box"] []) (hB : ∀ x ∈ (["sorted"] : List Str), mg x = none) (hwriting : Fs P w K mg base 2 "writing" 2 spwriting) (hawaited : Fs P w K mg base 5 "awaited" 3 spawaited) (hreached : Fs P w K mg base 3 "reached" 3 spreached) : Fs P w K mg base 6 "busy" 3 spbusy := by
  refine fs_of (N := nbusy) (Ln := lbusy) (Bn := ["sorted"]) (Fn := ["writing", "awaited", "reached"]) (Bx := ["sorted"]) F hm hb scbusy rfl (by decide +kernel) hB ?_
  rintro X ds M Q bod ⟨ws, n, b, w, rfl, hf, hw, hb, hQ⟩
  have st := bod.st
  have rm := bod.room
  have h1 := bod.tr hwriting
  have h2 := bod.tr hawaited
  have h3 := bod.tr hreached
  have hwm := List.mem_of_getElem? hw
  have hfw := hf.fit w hwm
  have h16 := hfw.len
  have hwl := writesL_len w b
  have rl : (reachL w b).length ≤ 16 := by
    have := comeL_len (nx := nexts w) (bs := begs w (writesL w b))
    have := nexts_len w
    unfold reachL
    omega
  show WSs X ([("works", some (.lst (ws.map W.d))), ("number", some (natD n)), ("box", some (natD b)), ("write", none), ("late", none), ("both", none), ("block", none)] : VEnv) M _ _
  walk_at "set"
  walk_at "run"
  refine ⟨_, _, rfl, IxD.list isR_lst (atI_map hw), ?_⟩
  walk_at "run"
  refine ⟨w, b, rfl, hfw, ?_⟩
  walk_at "put!"
  walk_at "set"
  walk_at "run"
  refine ⟨ws, n, b, w, rfl, hf, hw, hb, fun p1 => ?_⟩
  walk_at "put!"
  refine wss_frz (x := "late") (by walk_at "look") (by walk_at "put") st (by walk_at "mem") ?_
  refine wss_cons (ws_setPick (j := 5) (reachL w b) natD natD (fun k => decide (k ∈ awtL ws n b w.length)) [("block", 6)] ["block", "late"] [] [] bod (by decide +kernel) (by walk_at "mem") (by walk_at "wiped") (by walk_at "mem") (by decide +kernel) rfl (by decide +kernel) ?_)
  refine wi_list ?_
  walk_at "run"
  refine ⟨ws, n, b, w, rfl, hf, hw, fun p2 => ?_⟩
  refine ⟨_, isR_ref .here, rfl, szl (by omega), fun _ _ => isR_ref (.there .here), fun k hk => ⟨_, by walk_at "put", fun X1 inn L acc => ?_, fun hw X1 inn L acc => ?_⟩, fun p => ⟨_, by walk_at "put", ?_⟩⟩
  · have st1 := inn.st
    walk_at "run"
    refine od_inI (i := (k : Int)) (ns := (awtL ws n b w.length).map fun (n : Nat) => (n : Int)) (.inl isR_nl) ?_
    exact ⟨_, rfl, decide_eq_decide.mpr mem_natI, rfl⟩
  · have st1 := inn.st
    walk_at "run"
    exact ⟨rfl, rfl⟩
  refine wss_frz (x := "both") (by walk_at "look") (by walk_at "put") st (by walk_at "mem") ?_
  have fl : ((reachL w b).filter fun k => decide (k ∈ awtL ws n b w.length)).length ≤ 16 := Nat.le_trans (List.length_filter_le _ _) rl
  walk_at "ret"
  refine we_gc ?_
  walk_at "run"
  refine we_frz ?_
  refine we_pick ((reachL w b).filter fun k => decide (k ∈ awtL ws n b w.length)) natD natD (fun k => !decide (k ∈ writesL w b)) [("block", 6)] ["block", "write"] [] [] bod (by decide +kernel) (by walk_at "mem") (by walk_at "wiped") ?_
  refine wi_list ?_
  walk_at "run"
  refine ⟨_, isR_lst, rfl, szl (by omega), fun _ _ => isR_lst, fun k hk => ⟨_, by walk_at "put", fun X1 inn L acc => ?_, fun hw X1 inn L acc => ?_⟩, fun p => ⟨_, _, _, rfl, rfl, ?_⟩⟩
  · have st1 := inn.st
    walk_at "run"
    refine od_notInI (i := (k : Int)) (ns := (writesL w b).map fun (n : Nat) => (n : Int)) (.inl isR_nl) ?_
    exact ⟨_, rfl, met_mem, rfl⟩
  · have st1 := inn.st
    walk_at "run"
    exact ⟨rfl, rfl⟩
  have gl := List.length_filter_le (fun k => !decide (k ∈ writesL w b)) ((reachL w b).filter fun k => decide (k ∈ awtL ws n b w.length))
  refine od_cat isL_lst isL_lst (by simp only [List.length_map]; exact szl (by omega)) ?_
  refine wa_nil ?_
  rw [← nl_app]
  refine cd_sortedIO (ns := (busyP ws n b w (writesL w b)).map fun (n : Nat) => (n : Int)) (ms := (busyL ws n b w).map fun (n : Nat) => (n : Int)) isR_nl (busyP_perm.map _) ((upI' (sortU_up _ _)).imp fun h => Int.le_of_lt h) fun q => ?_
  rw [List.map_map]
  exact ⟨[_], _, .swap _ _ _, hQ q⟩
end
end Gen

namespace Gen
open PySem L2 DL Wk
abbrev s_law_busy : Stmt := top 36
abbrev l_law_busy : List Str := ["_law_works", "_law_number_here", "_law_box", "_law_work_here", "_law_both"]
abbrev n_law_busy : List Str := ["_law_works", "_law_number_here", "_law_box", "_law_work_here", "_law_both", "_law_b"]
theorem sc_law_busy : FnScope n_law_busy ["_law_works", "_law_number_here", "_law_box"] (defScope s_law_busy) := ⟨rfl, rfl, rfl, by decide +kernel, rfl, by decide +kernel, by decide +kernel⟩
abbrev s_law_boxes : Stmt := top 37
abbrev l_law_boxes : List Str := ["_law_work_here"]
abbrev n_law_boxes : List Str := ["_law_work_here", "_law_box"]
theorem sc_law_boxes : FnScope n_law_boxes ["_law_work_here"] (defScope s_law_boxes) := ⟨rfl, rfl, rfl, by decide +kernel, rfl, by decide +kernel, by decide +kernel⟩
section
variable {P : Program} {w : World} {K : PySem.W.Frag} {mg : Str → Option Value} {base : Heap}
abbrev sp_law_busy : DSp := fun ds M Q => ∃ (ws : List W) (n b : Nat) (w : W), ds = [Ws.d ws, natD n, natD b] ∧ FitWs ws ∧ ws[n]? = some w ∧ (∀ l ∈ nexts w, l.Nodup) ∧ Q (nlD (busyL ws n b w)) M
theorem ok_law_busy {f : Addr} {fd : FuncData} (F : Fun K "_law_busy" "_law_busy" s_law_busy f fd) (hm : mg "_law_busy" = some (.ref f)) (hb : Binds K fd ["_law_works", "_law_number_here", "_law_box"] []) (hB : ∀ x ∈ (["sorted", "set"] : List Str), mg x = none) (h_law_behind : Fs P w K mg base 2 "_law_behind" 2 sp_law_behind) (h_law_is_asked : Fs P w K mg base 2 "_law_is_asked" 4 sp_law_is_asked) (h_law_writes : Fs P w K mg base 1 "_law_writes" 2 sp_law_writes) : Fs P w K mg base 3 "_law_busy" 3 sp_law_busy := by
  refine fs_of (N := n_law_busy) (Ln := l_law_busy) (Bn := ["sorted", "set"]) (Fn := ["_law_behind", "_law_writes"]) (Bx := ["sorted", "set"]) F hm hb sc_law_busy rfl (by decide +kernel) hB ?_
  rintro X ds M Q bod ⟨ws, n, b, w, rfl, hf, hw, hnd, hQ⟩
  have st := bod.st
  have rm := bod.room
  have h1 := bod.tr h_law_behind
  have h2 := bod.tr h_law_is_asked
  have h3 := bod.tr h_law_writes
  have hwm := List.mem_of_getElem? hw
  have hfw := hf.fit w hwm
  have h16 := hfw.len
  have hwl := writesL_len w b
  show WSs X ([("_law_works", some (.lst (ws.map W.d))), ("_law_number_here", some (natD n)), ("_law_box", some (natD b)), ("_law_work_here", none), ("_law_both", none), ("_law_b", none)] : VEnv) M _ _
  walk_at "set"
  walk_at "run"
  refine ⟨_, _, rfl, IxD.list isR_lst (atI_map hw), ?_⟩
  walk_at "put!"
  refine wss_cons (ws_setPick (j := 4) (reachL w b) natD natD (fun k => awtB ws b n k) [("_law_b", 5)] ["_law_b", "_law_works", "_law_number_here", "_law_box"] [] ["_law_is_asked"] bod (by decide +kernel) (by walk_at "mem") (by walk_at "wiped") (by walk_at "mem") (by decide +kernel) rfl (by decide +kernel) ?_)
  refine wi_list ?_
  walk_at "run"
  refine ⟨w, b, rfl, hfw, hf.nx w hwm, hnd, ?_⟩
  walk_at "run"
  have rl : (reachL w b).length ≤ 16 := by
    have := comeL_len (nx := nexts w) (bs := begs w (writesL w b))
    have := nexts_len w
    unfold reachL
    omega
  have rlt : ∀ k ∈ reachL w b, k < w.length := fun k hk => by
    have := (mem_comeL.mp hk).1
    have := nexts_len w
    omega
  refine ⟨_, isR_lst, rfl, szl (by omega), fun _ _ => isR_lst, fun k hk => ⟨_, by walk_at "put", fun X1 inn L acc => ?_, fun hw X1 inn L acc => ?_⟩, fun p => ⟨_, by walk_at "put", ?_⟩⟩
  · have st1 := inn.st
    have g1 := inn.tr h2
    have rm1 := inn.rm rm
    have hkl := rlt k hk
    walk_at "run"
    refine ⟨ws, n, k, b, rfl, hf, ⟨_, w, hw, List.getElem?_eq_getElem hkl⟩, ?_⟩
    walk_at "run"
    exact ⟨rfl, rfl⟩
  · have st1 := inn.st
    walk_at "run"
    exact ⟨rfl, rfl⟩
  refine wss_frz (x := "_law_both") (by walk_at "look") (by walk_at "put") st (by walk_at "mem") ?_
  have bl : ((reachL w b).filter fun k => awtB ws b n k).length ≤ 16 := Nat.le_trans (List.length_filter_le _ _) rl
  walk_at "ret"
  refine we_gc ?_
  walk_at "run"
  refine ⟨w, b, rfl, hfw, ?_⟩
  walk_at "run"
  refine od_cat isL_lst isL_lst (by simp only [List.length_map]; exact szl (by omega)) ?_
  refine wa_nil ?_
  rw [← nl_app]
  refine cd_setI st (ns := (writesL w b ++ (reachL w b).filter fun k => awtB ws b n k).map fun (n : Nat) => (n : Int)) isR_nl (by simp only [List.length_map, List.length_append]; omega) fun ps cc hcc => ?_
  walk_at "run"
  have hall : ∀ k ∈ writesL w b ++ (reachL w b).filter fun k => awtB ws b n k, k < w.length := fun k hk => by
    rcases List.mem_append.mp hk with hk | hk
    · exact writesL_lt hk
    · exact rlt k (List.mem_filter.mp hk).1
  refine cd_sortedSet st .here ?_ (upI' (sortU_up w.length (writesL w b ++ (reachL w b).filter fun k => awtB ws b n k))) (fun k => ?_) ?_
  · have := hcc ((List.range 60).map fun (n : Nat) => (n : Int)) (fun k hk => by
      obtain ⟨n, hn', rfl⟩ := List.mem_map.mp hk
      have := hall n hn'
      exact List.mem_map.mpr ⟨n, List.mem_range.mpr (by omega), rfl⟩)
    rw [List.length_map, List.length_range] at this
    omega
  · rw [decide_eq_true_iff, List.mem_map, List.mem_map]
    exact ⟨fun ⟨n, h, e⟩ => ⟨n, (mem_sortU.mp h).2, e⟩, fun ⟨n, h, e⟩ => ⟨n, mem_sortU.mpr ⟨hall n h, h⟩, e⟩⟩
  rw [List.map_map]
  exact ⟨[_], _, .refl _, hQ⟩
/-- the boxes below eight that are written -/
abbrev boxL (w : W) : List Nat := (List.range 8).filter fun b => !decide (writesL w b = [])
abbrev sp_law_boxes : DSp := fun ds M Q => ∃ w : W, ds = [W.d w] ∧ Fit w ∧ ∀ p, Q (.ref p) ((p, .lst ((boxL w).map natD)) :: M)
theorem ok_law_boxes {f : Addr} {fd : FuncData} (F : Fun K "_law_boxes" "_law_boxes" s_law_boxes f fd) (hm : mg "_law_boxes" = some (.ref f)) (hb : Binds K fd ["_law_work_here"] []) (hB : ∀ x ∈ (["range"] : List Str), mg x = none) (h_law_writes : Fs P w K mg base 1 "_law_writes" 2 sp_law_writes) : Fs P w K mg base 2 "_law_boxes" 1 sp_law_boxes := by
  refine fs_of (N := n_law_boxes) (Ln := l_law_boxes) (Bn := ["range"]) (Fn := []) (Bx := ["range"]) F hm hb sc_law_boxes rfl (by decide +kernel) hB ?_
  rintro X ds M Q bod ⟨w, rfl, hf, hQ⟩
  have st := bod.st
  have rm := bod.room
  have h1 := bod.tr h_law_writes
  have h16 := hf.len
  show WSs X ([("_law_work_here", some (.lst (w.map Bk.d))), ("_law_box", none)] : VEnv) M _ _
  walk_at "ret"
  refine we_pick (List.range 8) natD natD (fun b => !decide (writesL w b = [])) [("_law_box", 1)] ["_law_box", "_law_work_here"] [] ["_law_writes"] bod (by decide +kernel) (by walk_at "mem") (by walk_at "wiped") ?_
  refine wi_range st (by walk_at "mem") ?_
  walk_at "run"
  rw [show ((8 : Int).toNat) = 8 from rfl, rng0]
  refine ⟨by omega, by omega, rfl, by rw [List.length_range]; exact szl (by omega), fun _ _ => trivial, fun b hb => ⟨_, by walk_at "put", fun X1 inn L acc => ?_, fun hw X1 inn L acc => ?_⟩, fun p => hQ p⟩
  · have st1 := inn.st
    have g1 := inn.tr h1
    have rm1 := inn.rm rm
    have hwl := writesL_len w b
    walk_at "run"
    refine ⟨w, b, rfl, hf, ?_⟩
    walk_at "run"
    refine od_neL st1 (ns := (writesL w b).map fun (n : Nat) => (n : Int)) (ms := []) isR_nl isR_lst ?_
    refine ⟨_, rfl, ?_, rfl⟩
    rw [decide_eq_decide.mpr (show (writesL w b).map (fun (n : Nat) => (n : Int)) = [] ↔ writesL w b = [] from List.map_eq_nil_iff)]
  · have st1 := inn.st
    walk_at "run"
    exact ⟨rfl, rfl⟩
theorem boxL_nd (w : W) : (boxL w).Nodup := List.nodup_range.filter _
theorem boxL_len (w : W) : (boxL w).length ≤ 8 := by
  have := List.length_filter_le (fun b => !decide (writesL w b = [])) (List.range 8)
  rw [List.length_range] at this
  exact this
theorem boxL_lt {w : W} {b : Nat} (h : b ∈ boxL w) : b < 8 := List.mem_range.mp (List.mem_filter.mp h).1
theorem boxL_eq (w : W) : boxL w = boxesOf w := by
  unfold boxesOf
  refine List.filter_congr fun b _ => ?_
  rw [Bool.eq_iff_iff, Bool.not_eq_true', decide_eq_false_iff_not, decide_eq_true_iff]
  unfold wrote writesL
  rw [List.filter_eq_nil_iff]
  constructor
  · intro h
    refine Classical.byContradiction fun hb => h fun k hk hw => hb ?_
    have hk := List.mem_range.mp hk
    rw [← wrK_mem, decide_eq_true_iff] at hw
    exact List.mem_flatMap.mpr ⟨_, List.mem_of_getElem? (at_bk hk), hw⟩
  · intro h hn
    obtain ⟨bk, h1, h2⟩ := List.mem_flatMap.mp h
    obtain ⟨k, hk⟩ := List.mem_iff_getElem?.mp h1
    have hkl := (List.getElem?_eq_some_iff.mp hk).1
    refine hn k (List.mem_range.mpr hkl) ?_
    have e : w.getD k bk0 = bk := Option.some.inj ((at_bk hkl).symm.trans hk)
    rw [e, ← wrK_mem, decide_eq_true_iff]
    exact h2
end
end Gen

namespace Gen
open PySem L2 DL Wk
abbrev s_law_counts : Stmt := top 38
abbrev l_law_counts : List Str := ["_law_tape_here", "_law_work_here", "_law_some"]
abbrev n_law_counts : List Str := ["_law_tape_here", "_law_work_here", "_law_some", "_law_way"]
theorem sc_law_counts : FnScope n_law_counts ["_law_tape_here", "_law_work_here"] (defScope s_law_counts) := ⟨rfl, rfl, rfl, by decide +kernel, rfl, by decide +kernel, by decide +kernel⟩
abbrev s_law_prices : Stmt := top 39
abbrev l_law_prices : List Str := ["_law_tape_here"]
abbrev n_law_prices : List Str := ["_law_tape_here"]
theorem sc_law_prices : FnScope n_law_prices ["_law_tape_here"] (defScope s_law_prices) := ⟨rfl, rfl, rfl, by decide +kernel, rfl, by decide +kernel, by decide +kernel⟩
section
variable {P : Program} {w : World} {K : PySem.W.Frag} {mg : Str → Option Value} {base : Heap}
abbrev sp_law_counts : DSp := fun ds M Q => ∃ (t : Addr) (N : Nat) (c : Cell) (f : Cell → Mem) (w : W), ds = [.ref t, W.d w] ∧ At t M c f ∧ Tape N c ∧ N ≤ 900000000 ∧ w.length ≤ 16 ∧ ∀ (cs : List Int) (c' : Cell), cs.length = (ways w).length → (∀ x ∈ cs, 0 ≤ x ∧ x ≤ 1000000000000) → Tape (N + 50) c' → Q (.lst (cs.map D.int)) (f c')
theorem ok_law_counts {f : Addr} {fd : FuncData} (F : Fun K "_law_counts" "_law_counts" s_law_counts f fd) (hm : mg "_law_counts" = some (.ref f)) (hb : Binds K fd ["_law_tape_here", "_law_work_here"] []) (h_law_draw : Fs P w K mg base 1 "_law_draw" 2 sp_law_draw) (h_law_ways : Fs P w K mg base 2 "_law_ways" 1 sp_law_ways) : Fs P w K mg base 3 "_law_counts" 2 sp_law_counts := by
  refine fs_of (N := n_law_counts) (Ln := l_law_counts) (Bn := []) (Fn := ["_law_draw", "_law_ways"]) (Bx := []) F hm hb sc_law_counts rfl (by decide +kernel) (fun _ h => by cases h) ?_
  rintro X ds M Q bod ⟨t, N, c, f, w, rfl, hat, tp, hN, h16, hQ⟩
  have st := bod.st
  have rm := bod.room
  have hd := bod.tr h_law_draw
  have h1 := bod.tr h_law_ways
  have hwl : (ways w).length ≤ 40 := by
    have := ways_len w
    omega
  show WSs X ([("_law_tape_here", some (.ref t)), ("_law_work_here", some (.lst (w.map Bk.d))), ("_law_some", none), ("_law_way", none)] : VEnv) M _ _
  walk_at "set"
  walk_at "run"
  refine od_pow (cm_pow (by omega) (by omega) (by omega) (by omega)) ?_
  generalize hT : (10 : Int) ^ (12 : Int).toNat = T
  walk_at "run"
  walk_at "draw"
  intro r1 c1 a1 b1 tp1
  have at1 := hat.put c1
  walk_at "run"
  refine od_pow (cm_pow (by omega) (by omega) (by omega) (by omega)) ?_
  walk_at "run"
  refine ⟨_, _, _, _, _, rfl, by walk_at "at", tp1, by omega, by decide, by decide, ?_⟩
  intro r2 c2 a2 b2 tp2
  have at2 := hat.put c2
  walk_at "run"
  have hp : T = 1000000000000 := by rw [← hT]; decide
  have hp6 : (10 : Int) ^ (6 : Int).toNat = 1000000 := by decide
  rw [hp6] at b2
  have hall : ∀ d ∈ [D.int 0, D.int 1, D.int 2, D.int 10, D.int T, D.int (1 + r1), D.int r2], ∃ n : Int, d = .int n ∧ 0 ≤ n ∧ n ≤ 1000000000000 := fun d e2 => by
    simp only [List.mem_cons, List.not_mem_nil, or_false, hp] at e2
    rcases e2 with rfl | rfl | rfl | rfl | rfl | rfl | rfl <;> exact ⟨_, rfl, by omega, by omega⟩
  walk_at "ret"
  refine we_frz ?_
  refine we_st [("_law_way", 3)] ["_law_way", "_law_some", "_law_tape_here"] [] ["_law_draw"] bod (by decide +kernel) (by walk_at "mem") (by walk_at "wiped") ?_
  refine wi_list ?_
  walk_at "run"
  refine ⟨_, w, rfl, isR_lst, fun _ _ => isR_lst, h16, ?_⟩
  refine ⟨_, isR_lst, fun i acc M' => ∃ (cs : List Int) (c' : Cell), cs.length = i ∧ acc = cs.map D.int ∧ (∀ x ∈ cs, 0 ≤ x ∧ x ≤ 1000000000000) ∧ Tape (N + 2 + i) c' ∧ M' = f c', ?_, ?_, ?_, ?_⟩
  · exact ⟨[], c2, rfl, rfl, by simp, tp2, rfl⟩
  · exact fun _ _ _ _ _ => isR_lst
  · rintro i d acc M' hx ⟨cs, c3, hcl, rfl, hcs, tp3, rfl⟩
    have hil := (List.getElem?_eq_some_iff.mp hx).1
    rw [List.length_map] at hil
    have at3 := hat.put c3
    refine ⟨szlt (by rw [List.length_map]; omega), _, by walk_at "put", fun X1 inn L => ?_⟩
    have st1 := inn.st
    have hd1 := inn.tr hd
    have rm1 := inn.rm rm
    walk_at "run"
    refine ⟨_, _, _, _, _, rfl, by walk_at "at", tp3, by omega, by omega, by omega, ?_⟩
    intro r4 c4 a4 b4 tp4
    walk_at "run"
    obtain ⟨d', e1, e2⟩ := atI_mem (ds := [D.int 0, D.int 1, D.int 2, D.int 10, D.int T, D.int (1 + r1), D.int r2]) a4 (by simpa using b4)
    obtain ⟨n, rfl, q1, q2⟩ := hall d' e2
    refine ⟨_, _, rfl, IxD.list isR_lst e1, ?_⟩
    refine ⟨_, rfl, cs ++ [n], c4, by simp [hcl], by simp, fun x hx => ?_, tp4.mono (by omega), rfl⟩
    rcases List.mem_append.mp hx with hx | hx
    · exact hcs x hx
    · rw [List.mem_singleton] at hx; rw [hx]; exact ⟨q1, q2⟩
  · rintro acc M' ⟨cs, c3, hcl, rfl, hcs, tp3, rfl⟩ p
    rw [List.length_map] at hcl tp3
    exact ⟨_, _, _, rfl, rfl, hQ cs c3 hcl hcs (tp3.mono (by omega))⟩
abbrev sp_law_prices : DSp := fun ds M Q => ∃ (t : Addr) (N : Nat) (c : Cell) (f : Cell → Mem), ds = [.ref t] ∧ At t M c f ∧ Tape N c ∧ N ≤ 900000000 ∧ ∀ (p0 p1 : Int) (c' : Cell), (0 ≤ p0 ∧ p0 ≤ 1000000 ∧ 0 ≤ p1 ∧ p1 ≤ 1000000) → Tape (N + 2) c' → Q (.tup [.int p0, .int p1]) (f c')
theorem ok_law_prices {f : Addr} {fd : FuncData} (F : Fun K "_law_prices" "_law_prices" s_law_prices f fd) (hm : mg "_law_prices" = some (.ref f)) (hb : Binds K fd ["_law_tape_here"] []) (h_law_draw : Fs P w K mg base 1 "_law_draw" 2 sp_law_draw) : Fs P w K mg base 2 "_law_prices" 1 sp_law_prices := by
  refine fs_of (N := n_law_prices) (Ln := l_law_prices) (Bn := []) (Fn := ["_law_draw"]) (Bx := []) F hm hb sc_law_prices rfl (by decide +kernel) (fun _ h => by cases h) ?_
  rintro X ds M Q bod ⟨t, N, c, f, rfl, hat, tp, hN, hQ⟩
  have st := bod.st
  have rm := bod.room
  have hd := bod.tr h_law_draw
  show WSs X ([("_law_tape_here", some (.ref t))] : VEnv) M _ _
  walk_at "ret"
  walk_at "run"
  refine od_pow (cm_pow (by omega) (by omega) (by omega) (by omega)) ?_
  generalize hT1 : (10 : Int) ^ (6 : Int).toNat = T1
  have hT1 : T1 = 1000000 := by rw [← hT1]; decide +kernel
  walk_at "run"
  walk_at "draw"
  intro r1 c1 a1 b1 tp1
  have at1 := hat.put c1
  walk_at "run"
  obtain ⟨d1, e1, e2⟩ := atI_mem (ds := [D.int 0, D.int 1, D.int 1, D.int 3, D.int T1]) a1 (by simpa using b1)
  obtain ⟨p0, rfl, hp0, hp1⟩ : ∃ n : Int, d1 = .int n ∧ 0 ≤ n ∧ n ≤ 1000000 := by
    simp only [List.mem_cons, List.not_mem_nil, or_false] at e2
    rcases e2 with rfl | rfl | rfl | rfl | rfl <;> exact ⟨_, rfl, by omega, by omega⟩
  refine ⟨_, _, rfl, IxD.list isR_lst e1, ?_⟩
  walk_at "run"
  refine od_pow (cm_pow (by omega) (by omega) (by omega) (by omega)) ?_
  generalize hT2 : (10 : Int) ^ (6 : Int).toNat = T2
  have hT2 : T2 = 1000000 := by rw [← hT2]; decide +kernel
  walk_at "run"
  refine ⟨_, _, _, _, _, rfl, by walk_at "at", tp1, by omega, by omega, by omega, ?_⟩
  intro r2 c2 a2 b2 tp2
  walk_at "run"
  obtain ⟨d2, e3, e4⟩ := atI_mem (ds := [D.int 1, D.int 0, D.int 1, D.int 2, D.int T2]) a2 (by simpa using b2)
  obtain ⟨p1, rfl, hp2, hp3⟩ : ∃ n : Int, d2 = .int n ∧ 0 ≤ n ∧ n ≤ 1000000 := by
    simp only [List.mem_cons, List.not_mem_nil, or_false] at e4
    rcases e4 with rfl | rfl | rfl | rfl | rfl <;> exact ⟨_, rfl, by omega, by omega⟩
  refine ⟨_, _, rfl, IxD.list isR_lst e3, ?_⟩
  walk_at "run"
  exact hQ p0 p1 c2 ⟨hp0, hp1, hp2, hp3⟩ tp2
end
end Gen

namespace Gen
open PySem L2 DL Wk Fl
abbrev s_law_cost : Stmt := top 40
abbrev l_law_cost : List Str := ["_law_work_here", "_law_inside", "_law_many", "_law_prices_here", "_law_shut_here", "_law_total", "_law_way"]
abbrev n_law_cost : List Str := ["_law_work_here", "_law_inside", "_law_many", "_law_prices_here", "_law_shut_here", "_law_total", "_law_way"]
theorem sc_law_cost : FnScope n_law_cost ["_law_work_here", "_law_inside", "_law_many", "_law_prices_here", "_law_shut_here"] (defScope s_law_cost) := ⟨rfl, rfl, rfl, by decide +kernel, rfl, by decide +kernel, by decide +kernel⟩
abbrev s_law_lists : Stmt := top 41
abbrev l_law_lists : List Str := ["_law_work_here", "_law_some", "_law_found", "_law_block"]
abbrev n_law_lists : List Str := ["_law_work_here", "_law_some", "_law_found", "_law_block", "_law_one"]
theorem sc_law_lists : FnScope n_law_lists ["_law_work_here", "_law_some"] (defScope s_law_lists) := ⟨rfl, rfl, rfl, by decide +kernel, rfl, by decide +kernel, by decide +kernel⟩
abbrev s_law_shut : Stmt := top 43
abbrev l_law_shut : List Str := ["_law_tape_here", "_law_work_here", "_law_ways_here", "_law_way", "_law_found"]
abbrev n_law_shut : List Str := ["_law_tape_here", "_law_work_here", "_law_ways_here", "_law_way", "_law_found", "_law_one"]
theorem sc_law_shut : FnScope n_law_shut ["_law_tape_here", "_law_work_here"] (defScope s_law_shut) := ⟨rfl, rfl, rfl, by decide +kernel, rfl, by decide +kernel, by decide +kernel⟩
abbrev s_law_cheapest : Stmt := top 42
abbrev l_law_cheapest : List Str := ["_law_works", "_law_number_here", "_law_box", "_law_counts_here", "_law_prices_here", "_law_shut_here", "_law_work_here", "_law_best", "_law_many", "_law_one", "_law_price"]
abbrev n_law_cheapest : List Str := ["_law_works", "_law_number_here", "_law_box", "_law_counts_here", "_law_prices_here", "_law_shut_here", "_law_work_here", "_law_best", "_law_many", "_law_one", "_law_price"]
theorem sc_law_cheapest : FnScope n_law_cheapest ["_law_works", "_law_number_here", "_law_box", "_law_counts_here", "_law_prices_here", "_law_shut_here"] (defScope s_law_cheapest) := ⟨rfl, rfl, rfl, by decide +kernel, rfl, by decide +kernel, by decide +kernel⟩
theorem busyL_up (ws : List W) (n b : Nat) (w : W) : (busyL ws n b w).Pairwise (· < ·) := sortU_up _ _
theorem busyL_lt {ws : List W} {n b : Nat} {w : W} {k : Nat} (h : k ∈ busyL ws n b w) : k < w.length := (mem_sortU.mp h).1
section
variable {P : Program} {w : World} {K : PySem.W.Frag} {mg : Str → Option Value} {base : Heap}
abbrev sp_law_cost : DSp := fun ds M Q => ∃ (w : W) (l : List Nat) (pm : Addr) (f : Cell → Mem) (c : Int × Int → Int) (p0 p1 : Int) (sh : List (Int × Int)), ds = [W.d w, nlD l, .ref pm, .tup [.int p0, .int p1], .lst (sh.map pairD)] ∧ At pm M (.dT (fnD (ways w) c)) f ∧ Fit w ∧ (∀ y ∈ ways w, 0 ≤ c y ∧ c y ≤ 1000000000000) ∧
  (sh.length ≤ 80 ∧ ∀ y ∈ sh, -1 ≤ y.1 ∧ y.1 ≤ 16 ∧ 0 ≤ y.2 ∧ y.2 ≤ 16) ∧ Q (roomD (priceL (ways w) c p0 p1 sh l)) M
theorem ok_law_cost {f : Addr} {fd : FuncData} (F : Fun K "_law_cost" "_law_cost" s_law_cost f fd) (hm : mg "_law_cost" = some (.ref f)) (hb : Binds K fd ["_law_work_here", "_law_inside", "_law_many", "_law_prices_here", "_law_shut_here"] []) (hB : ∀ x ∈ (["int"] : List Str), mg x = none) (h_law_ways : Fs P w K mg base 2 "_law_ways" 1 sp_law_ways) : Fs P w K mg base 3 "_law_cost" 5 sp_law_cost := by
  refine fs_of (N := n_law_cost) (Ln := l_law_cost) (Bn := ["int"]) (Fn := ["_law_ways"]) (Bx := ["int"]) F hm hb sc_law_cost rfl (by decide +kernel) hB ?_
  rintro X ds M Q bod ⟨w, l, pm, f, c, p0, p1, sh, rfl, hat, hf, hc, ⟨hs1, hs2⟩, hQ⟩
  have st := bod.st
  have rm := bod.room
  have h1 := bod.tr h_law_ways
  have h16 := hf.len
  have hyb : ∀ y ∈ ways w, -1 ≤ y.1 ∧ y.1 ≤ 16 ∧ 0 ≤ y.2 ∧ y.2 ≤ 16 := ways_bd hf
  show WSs X ([("_law_work_here", some (.lst (w.map Bk.d))), ("_law_inside", some (nlD l)), ("_law_many", some (.ref pm)), ("_law_prices_here", some (.tup [.int p0, .int p1])), ("_law_shut_here", some (.lst (sh.map pairD))), ("_law_total", none), ("_law_way", none)] : VEnv) M _ _
  walk_at "set"
  walk_at "run"
  refine wss_cons (ws_for st (wi_list ?_))
  walk_at "run"
  refine ⟨_, w, rfl, isR_lst, fun _ _ => isR_lst, h16, ?_⟩
  refine ⟨_, isR_lst, fun i Γ' M' => ∃ o1 : Option D, (∀ y ∈ (ways w).take i, badL sh l y = false) ∧ Γ' = ([("_law_work_here", some (.lst (w.map Bk.d))), ("_law_inside", some (nlD l)), ("_law_many", some (.ref pm)), ("_law_prices_here", some (.tup [.int p0, .int p1])), ("_law_shut_here", some (.lst (sh.map pairD))), ("_law_total", some (.int (((ways w).take i).map (tmL c p0 p1 l)).sum)), ("_law_way", o1)] : VEnv) ∧ M' = M, ?_, ?_, ?_, ?_⟩
  · exact ⟨_, by simp, rfl, rfl⟩
  · exact fun _ _ _ _ => isR_lst
  · rintro i x Γ' M' hx ⟨o1, hall, rfl, rfl⟩
    rw [List.getElem?_map] at hx
    obtain ⟨y, hy, rfl⟩ := Option.map_eq_some_iff.mp hx
    have hym := List.mem_of_getElem? hy
    have hyr := hyb y hym
    have hcy := hc y hym
    have hnext : (((ways w).take (i + 1)).map (tmL c p0 p1 l)).sum = (((ways w).take i).map (tmL c p0 p1 l)).sum + tmL c p0 p1 l y := by
      rw [List.take_add_one, hy]; simp
    have hall2 : badL sh l y = false → ∀ z ∈ (ways w).take (i + 1), badL sh l z = false := fun hb z hz => by
      rw [List.take_add_one, hy] at hz
      rcases List.mem_append.mp hz with hz | hz
      · exact hall z hz
      · simp at hz; rw [hz]; exact hb
    refine wg_name st (by walk_at "mem") (by walk_at "put") ?_
    refine wss_one (ws_if ?_)
    walk_at "run"
    refine ⟨_, _, rfl, IxD.tup rfl, ?_⟩
    walk_at "run"
    refine od_inI (i := y.1) (ns := nl l) (.inl isR_nl) ?_
    walk_at "run"
    refine ⟨_, _, rfl, IxD.tup rfl, ?_⟩
    walk_at "run"
    refine od_inI (i := y.2) (ns := nl l) (.inl isR_nl) ?_
    refine od_neB st ?_
    walk_at "run"
    rw [show (!(decide (y.1 ∈ nl l) == decide (y.2 ∈ nl l))) = crL l y from rfl]
    refine ite_b (fun hcr => ?_) (fun hcr => ?_)
    · refine wss_cons (ws_if ?_)
      walk_at "run"
      refine od_inP st (.tup (.cons (.int _) (.cons (.int _) .nil))) (py_pairs (ps := sh) isR_lst) (pair_shaped hyr) (pairs_shaped hs2 (by omega)) ?_
      rw [show PyData.tuple [.int y.1, .int y.2] = pairP y from rfl, any_pair]
      walk_at "run"
      refine ite_d (fun hsh => ?_) (fun hsh => ?_)
      · walk_at "ret"
        walk_at "run"
        have : priceL (ways w) c p0 p1 sh l = none := by
          unfold priceL
          rw [if_pos]
          rw [List.any_eq_true]
          exact ⟨y, hym, by unfold badL; rw [hcr, Bool.true_and]; exact decide_eq_true hsh⟩
        rw [this] at hQ
        exact hQ
      · refine wss_nil ?_
        walk_at "set"
        walk_at "e1"
        walk_at "e1"
        walk_at "e1"
        refine we_dix st ?_
        walk_at "run"
        have gm : GetD M' (.ref pm) (pairD y) (valA (fnD (ways w) c) (keyI y)) := GetD.dtI hat
        rw [fnD_val hym] at gm
        refine ⟨_, gm, ?_⟩
        walk_at "run"
        refine ⟨_, _, rfl, IxD.tup rfl, ?_⟩
        walk_at "run"
        refine od_inI (i := y.1) (ns := nl l) (.inl isR_nl) ?_
        walk_at "run"
        refine ⟨_, .int (if y.1 ∈ nl l then p1 else p0), rfl, IxD.tup (by by_cases h : y.1 ∈ nl l <;> simp [h, atI] <;> rfl), ?_⟩
        refine od_mul (cm_l (by omega) (by omega)) ?_
        walk_at "run"
        refine wss_nil ?_
        exact ⟨some (pairD y), hall2 (by unfold badL; rw [decide_eq_false hsh, Bool.and_false]), by rw [hnext, show tmL c p0 p1 l y = c y * (if y.1 ∈ nl l then p1 else p0) from by unfold tmL; rw [if_pos hcr]], rfl⟩
    · refine wss_nil ?_
      exact ⟨some (pairD y), hall2 (by unfold badL; rw [hcr, Bool.false_and]), by rw [hnext, show tmL c p0 p1 l y = 0 from by unfold tmL; rw [if_neg (by rw [hcr]; decide)], Int.add_zero], rfl⟩
  · rintro Γ' M' ⟨o1, hall, rfl, rfl⟩
    rw [List.length_map, List.take_length] at *
    walk_at "ret"
    walk_at "run"
    have : priceL (ways w) c p0 p1 sh l = some (((ways w).map (tmL c p0 p1 l)).sum) := by
      unfold priceL
      rw [if_neg]
      intro hn
      rw [List.any_eq_true] at hn
      obtain ⟨y, hy, hb⟩ := hn
      rw [hall y hy] at hb
      cases hb
    rw [this] at hQ
    exact hQ
abbrev sp_law_lists : DSp := fun ds M Q => ∃ (w : W) (l : List Nat), ds = [W.d w, nlD l] ∧ w.length ≤ 16 ∧ l.Pairwise (· < ·) ∧ (∀ k ∈ l, k < w.length) ∧ Q (.lst ((allL l w.length).map nlD)) M
theorem ok_law_lists {f : Addr} {fd : FuncData} (F : Fun K "_law_lists" "_law_lists" s_law_lists f fd) (hm : mg "_law_lists" = some (.ref f)) (hb : Binds K fd ["_law_work_here", "_law_some"] []) (hB : ∀ x ∈ (["list", "range", "len", "sorted"] : List Str), mg x = none) : Fs P w K mg base 1 "_law_lists" 2 sp_law_lists := by
  refine fs_of (N := n_law_lists) (Ln := l_law_lists) (Bn := ["list", "range", "len"]) (Fn := []) (Bx := ["list", "range", "len", "sorted"]) F hm hb sc_law_lists rfl (by decide +kernel) hB ?_
  rintro X ds M Q bod ⟨w, l, rfl, h16, hup, hlt, hQ⟩
  have st := bod.st
  have rm := bod.room
  have h60 : ∀ k ∈ l, k < 60 := fun k hk => by have := hlt k hk; omega
  show WSs X ([("_law_work_here", some (.lst (w.map Bk.d))), ("_law_some", some (nlD l)), ("_law_found", none), ("_law_block", none), ("_law_one", none)] : VEnv) M _ _
  walk_at "set"
  walk_at "run"
  refine cd_list (.inl isR_lst) ?_
  walk_at "run"
  refine wss_cons (ws_for st (wi_range st (by walk_at "mem") ?_))
  walk_at "run"
  rw [List.length_map]
  refine ⟨by omega, by omega, fun i Γ' M' => ∃ o1 : Option D, i ≤ w.length ∧ Γ' = ([("_law_work_here", some (.lst (w.map Bk.d))), ("_law_some", some (nlD l)), ("_law_found", some (.lst ((allL l i).map nlD))), ("_law_block", o1), ("_law_one", none)] : VEnv) ∧ M' = M, ?_, ?_, ?_, ?_⟩
  · exact ⟨_, by omega, rfl, rfl⟩
  · intros; trivial
  · rintro i x Γ' M' hx ⟨o1, hi0, rfl, rfl⟩
    obtain ⟨hi, rfl⟩ := rngD_inv hx
    have hi : i < w.length := by simpa using hi
    have hlen := allL_len l i
    have hp16 : 2 ^ i ≤ 65536 := Nat.le_trans (Nat.pow_le_pow_right (by decide) (by omega : i ≤ 16)) (by decide)
    refine wg_name st (by walk_at "mem") (by walk_at "put") ?_
    rw [Int.zero_add]
    refine wss_one (ws_if ?_)
    walk_at "run"
    refine od_notInI (i := (i : Int)) (ns := nl l) (.inl isR_nl) ?_
    walk_at "run"
    refine ite_n (fun hn => ?_) (fun hn => ?_)
    · have hn : i ∉ l := fun h => hn (mem_nl.mpr h)
      walk_at "set"
      walk_at "run"
      refine we_frz ?_
      refine we_map (allL l i) nlD (fun m => nlD (insU m i)) [("_law_one", 4)] ["_law_one", "_law_block"] ["sorted"] [] bod (by decide +kernel) (by walk_at "mem") (by walk_at "wiped") ?_
      refine wi_list ?_
      walk_at "run"
      refine ⟨_, isR_lst, rfl, szl (by omega), fun _ _ => isR_lst, fun m hm => ⟨_, by walk_at "put", fun X1 inn L acc => ?_⟩, fun p => ⟨_, _, _, rfl, rfl, ?_⟩⟩
      · have st1 := inn.st
        have hmo := allL_ok hup h60 (k := i) (by omega) m hm
        have hm60 := hmo.lt h60 (by omega)
        have hmi : i ∉ m := fun h => by
          rcases hmo.only i h with q | q
          · exact hn q
          · omega
        have hml : m.length ≤ 60 := Wk.nodup_len hmo.nd hm60
        walk_at "run"
        refine od_cat isL_lst isL_lst (by simp only [List.length_map]; exact szl (by simp; omega)) ?_
        refine wa_nil ?_
        have e : (m.map natD ++ [D.int (i : Int)]) = ((nl (m ++ [i])).map D.int) := by rw [List.map_map, List.map_append]; rfl
        rw [e]
        refine cd_sortedI isR_lst ((insU_perm hmo.nd hm60 (by omega) hmi).map _) ((upI' (sortU_up _ _)).imp fun h => Int.le_of_lt h) ?_
        refine ⟨rfl, ?_⟩
        rw [List.map_map]; rfl
      refine od_cat isL_lst isL_lst (by simp only [List.length_map]; exact szl (by omega)) ?_
      walk_at "put!"
      refine wss_nil ?_
      have e : allL l (i + 1) = allL l i ++ (allL l i).map fun m => insU m i := by
        show (if i ∈ l then allL l i else allL l i ++ (allL l i).map fun m => insU m i) = _
        rw [if_neg hn]
      exact ⟨some (.int (i : Int)), by omega, by rw [e, List.map_append, List.map_map]; rfl, rfl⟩
    · have hn : i ∈ l := mem_nl.mp hn
      refine wss_nil ?_
      have e : allL l (i + 1) = allL l i := by
        show (if i ∈ l then allL l i else allL l i ++ (allL l i).map fun m => insU m i) = _
        rw [if_pos hn]
      exact ⟨some (.int (i : Int)), by omega, by rw [e], rfl⟩
  · rintro Γ' M' ⟨o1, hi0, rfl, rfl⟩
    rw [rngD_length, Int.toNat_natCast]
    walk_at "ret"
    walk_at "run"
    exact hQ
abbrev sp_law_shut : DSp := fun ds M Q => ∃ (t : Addr) (N : Nat) (c : Cell) (f : Cell → Mem) (w : W), ds = [.ref t, W.d w] ∧ At t M c f ∧ Tape N c ∧ N ≤ 900000000 ∧ w.length ≤ 16 ∧ ∀ (sh : List (Int × Int)) (c' : Cell), sh.length ≤ (ways w).length → (∀ y ∈ sh, y ∈ ways w) → Tape (N + 100) c' → Q (.lst (sh.map pairD)) (f c')
theorem ok_law_shut {f : Addr} {fd : FuncData} (F : Fun K "_law_shut" "_law_shut" s_law_shut f fd) (hm : mg "_law_shut" = some (.ref f)) (hb : Binds K fd ["_law_tape_here", "_law_work_here"] []) (h_law_draw : Fs P w K mg base 1 "_law_draw" 2 sp_law_draw) (h_law_ways : Fs P w K mg base 2 "_law_ways" 1 sp_law_ways) : Fs P w K mg base 3 "_law_shut" 2 sp_law_shut := by
  refine fs_of (N := n_law_shut) (Ln := l_law_shut) (Bn := []) (Fn := ["_law_ways", "_law_draw"]) (Bx := []) F hm hb sc_law_shut rfl (by decide +kernel) (fun _ h => by cases h) ?_
  rintro X ds M Q bod ⟨t, N, c, f, w, rfl, hat, tp, hN, h16, hQ⟩
  have st := bod.st
  have rm := bod.room
  have hd := bod.tr h_law_draw
  have h1 := bod.tr h_law_ways
  have hwl : (ways w).length ≤ 40 := by
    have := ways_len w
    omega
  show WSs X ([("_law_tape_here", some (.ref t)), ("_law_work_here", some (.lst (w.map Bk.d))), ("_law_ways_here", none), ("_law_way", none), ("_law_found", none), ("_law_one", none)] : VEnv) M _ _
  refine wss_cons (ws_asg ?_ (by walk_at "unf") (sw_no2 (.inr (by rw [bod.sc]; decide +kernel))) (by walk_at "unf"))
  walk_at "run"
  refine ⟨_, w, rfl, isR_lst, fun _ _ => isR_lst, h16, ?_⟩
  walk_at "run"
  walk_at "draw"
  intro r1 c1 a1 b1 tp1
  have at1 := hat.put c1
  walk_at "run"
  refine wg_tup st rfl ?_
  refine wgs_cons (wg_name st (by walk_at "mem") (by walk_at "put") ?_)
  refine wgs_cons (wg_name st (by walk_at "mem") (by walk_at "put") ?_)
  refine wgs_nil ?_
  refine wss_cons (ws_setStP (j := 4) [("_law_one", 5)] ["_law_one", "_law_way", "_law_tape_here"] [] ["_law_draw"] bod (by decide +kernel) (by walk_at "mem") (by walk_at "wiped") (by walk_at "mem") (by decide +kernel) rfl (by decide +kernel) ?_)
  refine wi_list ?_
  walk_at "run"
  refine ⟨_, isR_lst, fun i acc M' => ∃ (sh : List (Int × Int)) (c' : Cell), sh.length ≤ i ∧ acc = sh.map pairD ∧ (∀ y ∈ sh, y ∈ ways w) ∧ Tape (N + 1 + 2 * i) c' ∧ M' = f c', ?_, ?_, ?_, ?_⟩
  · exact ⟨[], c1, by simp, rfl, by simp, tp1.mono (by omega), rfl⟩
  · exact fun _ _ _ _ _ => isR_lst
  · rintro i d acc M' hx ⟨sh, c2, hl, rfl, hm, tp2, rfl⟩
    rw [List.getElem?_map] at hx
    obtain ⟨y, hy, rfl⟩ := Option.map_eq_some_iff.mp hx
    have hil := (List.getElem?_eq_some_iff.mp hy).1
    have hym := List.mem_of_getElem? hy
    have at2 := hat.put c2
    refine ⟨_, by walk_at "put", fun X1 inn L => ?_⟩
    have st1 := inn.st
    have g1 := inn.tr hd
    have rm1 := inn.rm rm
    have hyes : ∀ z ∈ sh ++ [y], z ∈ ways w := fun z hz => by
      rcases List.mem_append.mp hz with hz | hz
      · exact hm z hz
      · rw [List.mem_singleton] at hz; rw [hz]; exact hym
    have hlen2 : (sh ++ [y]).length ≤ i + 1 := by rw [List.length_append, List.length_singleton]; omega
    walk_at "run"
    refine ite_d (fun h1 => ?_) (fun h1 => ?_)
    · walk_at "run"
      refine ⟨_, _, _, _, _, rfl, by walk_at "at", tp2, by omega, by omega, by omega, ?_⟩
      intro r2 c3 a3 b3 tp3
      have at3 := hat.put c3
      walk_at "run"
      refine ite_d (fun h2 => ?_) (fun h2 => ?_)
      · refine ⟨_, rfl, ?_⟩
        rw [if_pos rfl]
        refine ⟨szlt (by rw [List.length_map]; omega), fun X2 inn2 => ?_⟩
        have st2 := inn2.st
        walk_at "run"
        exact ⟨rfl, sh ++ [y], c3, hlen2, by rw [List.map_append]; rfl, hyes, tp3.mono (by omega), rfl⟩
      · walk_at "run"
        refine ite_d (fun h3 => ?_) (fun h3 => ?_)
        · omega
        · refine ⟨_, rfl, ?_⟩
          rw [if_neg (by decide)]
          exact ⟨sh, c3, by omega, rfl, hm, tp3.mono (by omega), rfl⟩
    · walk_at "run"
      refine ite_d (fun h3 => ?_) (fun h3 => ?_)
      · walk_at "run"
        refine ⟨_, _, _, _, _, rfl, by walk_at "at", tp2, by omega, by omega, by omega, ?_⟩
        intro r2 c3 a3 b3 tp3
        have at3 := hat.put c3
        walk_at "run"
        refine ⟨_, rfl, ?_⟩
        refine ite_d (fun h2 => ?_) (fun h2 => ?_)
        · refine ⟨szlt (by rw [List.length_map]; omega), fun X2 inn2 => ?_⟩
          have st2 := inn2.st
          walk_at "run"
          exact ⟨rfl, sh ++ [y], c3, hlen2, by rw [List.map_append]; rfl, hyes, tp3.mono (by omega), rfl⟩
        · exact ⟨sh, c3, by omega, rfl, hm, tp3.mono (by omega), rfl⟩
      · refine ⟨_, rfl, ?_⟩
        rw [if_neg (by decide)]
        exact ⟨sh, c2, by omega, rfl, hm, tp2.mono (by omega), rfl⟩
  · rintro acc M' ⟨sh, c2, hl, rfl, hm, tp2, rfl⟩ pf
    rw [List.length_map] at hl tp2
    have at2 := hat.put c2
    walk_at "put!"
    refine wss_frz (x := "_law_found") (by walk_at "look") (by walk_at "put") st (by walk_at "mem") ?_
    walk_at "ret"
    refine we_if ?_
    walk_at "run"
    refine ⟨_, _, _, _, _, rfl, by walk_at "at", tp2, by omega, by omega, by omega, ?_⟩
    intro r2 c3 a3 b3 tp3
    walk_at "run"
    refine ite_d (fun h2 => ?_) (fun h2 => ?_)
    · refine we_revL ?_
      walk_at "run"
      refine ⟨_, isR_lst, ?_⟩
      rw [← List.map_reverse]
      exact hQ sh.reverse c3 (by rw [List.length_reverse]; omega) (fun y hy => hm y (List.mem_reverse.mp hy)) (tp3.mono (by omega))
    · walk_at "run"
      exact hQ sh c3 (by omega) hm (tp3.mono (by omega))
def bestE (p : Addr) : Option (Int × List (List Nat)) → D
  | none => .non
  | some b => .tup [.int b.1, .ref p]
def bestM (p : Addr) : Option (Int × List (List Nat)) → Mem
  | none => []
  | some b => [(p, .lst (b.2.map nlD))]
theorem zip_fnD {ys : List (Int × Int)} {cs : List Int} (nd : ys.Nodup) (hl : ys.length = cs.length) : (ys.map keyI).zip (cs.map D.int) = fnD ys (cA ys cs) := by
  unfold fnD
  refine List.ext_getElem? fun i => ?_
  rw [List.getElem?_map]
  cases hy : ys[i]? with
  | none =>
    have := List.getElem?_eq_none_iff.mp hy
    rw [List.getElem?_eq_none (by rw [List.length_zip, List.length_map, List.length_map]; omega)]; rfl
  | some y =>
    have hi := (List.getElem?_eq_some_iff.mp hy).1
    have hc := List.getElem?_eq_getElem (show i < cs.length by omega)
    have hz : ((ys.map keyI).zip (cs.map D.int))[i]? = some (keyI y, .int cs[i]) := List.getElem?_zip_eq_some.mpr ⟨by rw [List.getElem?_map, hy]; rfl, by rw [List.getElem?_map, hc]; rfl⟩
    rw [hz]
    show some (keyI y, D.int cs[i]) = some (keyI y, .int (cA ys cs y))
    rw [cA_zip nd hy hc]
theorem cA_bd {ys : List (Int × Int)} {cs : List Int} (nd : ys.Nodup) (hl : ys.length = cs.length) (hc : ∀ c ∈ cs, 0 ≤ c ∧ c ≤ 1000000000000) : ∀ y ∈ ys, 0 ≤ cA ys cs y ∧ cA ys cs y ≤ 1000000000000 := fun y hy => by
  obtain ⟨i, hi⟩ := List.mem_iff_getElem?.mp hy
  have hlt := (List.getElem?_eq_some_iff.mp hi).1
  have hq := List.getElem?_eq_getElem (show i < cs.length by omega)
  rw [cA_zip nd hi hq]
  exact hc _ (List.getElem_mem _)
abbrev sp_law_cheapest : DSp := fun ds M Q => ∃ (ws : List W) (n b : Nat) (w : W) (cs : List Int) (p0 p1 : Int) (sh : List (Int × Int)), ds = [Ws.d ws, natD n, natD b, .lst (cs.map D.int), .tup [.int p0, .int p1], .lst (sh.map pairD)] ∧ FitWs ws ∧ ws[n]? = some w ∧ (∀ l ∈ nexts w, l.Nodup) ∧ (∀ b ∈ w, b.2.nx.Nodup) ∧ (cs.length = (ways w).length ∧ ∀ c ∈ cs, 0 ≤ c ∧ c ≤ 1000000000000) ∧ (sh.length ≤ 80 ∧ ∀ y ∈ sh, -1 ≤ y.1 ∧ y.1 ≤ 16 ∧ 0 ≤ y.2 ∧ y.2 ≤ 16) ∧
  (BestOk (priceL (ways w) (cA (ways w) cs) p0 p1 sh) (allL (busyL ws n b w) w.length) none → Q .non M) ∧ ∀ c bs p, BestOk (priceL (ways w) (cA (ways w) cs) p0 p1 sh) (allL (busyL ws n b w) w.length) (some (c, bs)) → bs.length ≤ 65536 → Q (.tup [.int c, .ref p]) ((p, .lst (bs.map nlD)) :: M)
theorem ok_law_cheapest {f : Addr} {fd : FuncData} (F : Fun K "_law_cheapest" "_law_cheapest" s_law_cheapest f fd) (hm : mg "_law_cheapest" = some (.ref f)) (hb : Binds K fd ["_law_works", "_law_number_here", "_law_box", "_law_counts_here", "_law_prices_here", "_law_shut_here"] []) (hB : ∀ x ∈ (["dict", "zip"] : List Str), mg x = none) (h_law_ways : Fs P w K mg base 2 "_law_ways" 1 sp_law_ways) (h_law_lists : Fs P w K mg base 1 "_law_lists" 2 sp_law_lists) (h_law_busy : Fs P w K mg base 3 "_law_busy" 3 sp_law_busy) (h_law_cost : Fs P w K mg base 3 "_law_cost" 5 sp_law_cost) : Fs P w K mg base 4 "_law_cheapest" 6 sp_law_cheapest := by
  refine fs_of (N := n_law_cheapest) (Ln := l_law_cheapest) (Bn := ["dict", "zip"]) (Fn := ["_law_ways", "_law_lists", "_law_busy", "_law_cost"]) (Bx := ["dict", "zip"]) F hm hb sc_law_cheapest rfl (by decide +kernel) hB ?_
  rintro X ds M Q bod ⟨ws, n, b, w, cs, p0, p1, sh, rfl, hf, hw, hnd, hnd2, ⟨hcl, hcs⟩, hsh, hQ0, hQ1⟩
  have st := bod.st
  have rm := bod.room
  have h1 := bod.tr h_law_ways
  have h2 := bod.tr h_law_lists
  have h3 := bod.tr h_law_busy
  have h4 := bod.tr h_law_cost
  have hfw := hf.fit w (List.mem_of_getElem? hw)
  have h16 := hfw.len
  have hcb := cA_bd (ways_nd hnd2) hcl.symm hcs
  have hlen := allL_len (busyL ws n b w) w.length
  have hp16 : 2 ^ w.length ≤ 65536 := Nat.le_trans (Nat.pow_le_pow_right (by decide) h16) (by decide)
  show WSs X ([("_law_works", some (.lst (ws.map W.d))), ("_law_number_here", some (natD n)), ("_law_box", some (natD b)), ("_law_counts_here", some (.lst (cs.map D.int))), ("_law_prices_here", some (.tup [.int p0, .int p1])), ("_law_shut_here", some (.lst (sh.map pairD))), ("_law_work_here", none), ("_law_best", none), ("_law_many", none), ("_law_one", none), ("_law_price", none)] : VEnv) M _ _
  refine wss_cons (ws_par st (by walk_at "mem") (by walk_at "mem") (bod.lk (by decide +kernel)) (bod.lk (by decide +kernel)) bod.kind (by decide) (by walk_at "put") (by walk_at "put") ?_)
  walk_at "run"
  refine ⟨_, _, rfl, IxD.list isR_lst (atI_map hw), ?_⟩
  walk_at "run"
  refine ⟨_, _, _, _, rfl, by walk_at "put", by walk_at "put", ?_⟩
  walk_at "set"
  refine we_dictZip st (by walk_at "mem") (by walk_at "mem") ?_
  walk_at "run"
  refine ⟨_, w, rfl, isR_lst, fun _ _ => isR_lst, h16, ?_⟩
  walk_at "run"
  refine ⟨_, _, ways w, cs.map D.int, rfl, isR_lst, isR_lst, by rw [List.length_map]; omega, ways_nd hnd2, fun pm => ?_⟩
  walk_at "put!"
  rw [zip_fnD (ways_nd hnd2) hcl.symm]
  refine wss_cons (ws_for st (wi_list ?_))
  walk_at "run"
  refine ⟨ws, n, b, w, rfl, hf, hw, hnd, ?_⟩
  walk_at "run"
  refine ⟨w, busyL ws n b w, rfl, h16, busyL_up _ _ _ _, fun k hk => busyL_lt hk, ?_⟩
  generalize hL : allL (busyL ws n b w) w.length = L at hQ0 hQ1 hlen ⊢
  generalize hpr : priceL (ways w) (cA (ways w) cs) p0 p1 sh = pr at hQ0 hQ1
  refine ⟨_, isR_lst, fun i Γ' M' => ∃ (o : Option (Int × List (List Nat))) (p : Addr) (o1 o2 : Option D), BestOk pr (L.take i) o ∧ (∀ c bs, o = some (c, bs) → bs.length ≤ i) ∧ Γ' = ([("_law_works", some (.lst (ws.map W.d))), ("_law_number_here", some (natD n)), ("_law_box", some (natD b)), ("_law_counts_here", some (.lst (cs.map D.int))), ("_law_prices_here", some (.tup [.int p0, .int p1])), ("_law_shut_here", some (.lst (sh.map pairD))), ("_law_work_here", some (W.d w)), ("_law_best", some (bestE p o)), ("_law_many", some (.ref pm)), ("_law_one", o1), ("_law_price", o2)] : VEnv) ∧ M' = bestM p o ++ ((pm, .dT (fnD (ways w) (cA (ways w) cs))) :: M), ?_, ?_, ?_, ?_⟩
  · exact ⟨none, pm, _, _, best_start, fun _ _ h => (by cases h), rfl, rfl⟩
  · exact fun _ _ _ _ => isR_lst
  · rintro i x Γ' M' hx ⟨o, p, o1, o2, hbest, hbl, rfl, rfl⟩
    rw [List.getElem?_map] at hx
    obtain ⟨l, hl, rfl⟩ := Option.map_eq_some_iff.mp hx
    have hil := (List.getElem?_eq_some_iff.mp hl).1
    have htk : L.take (i + 1) = L.take i ++ [l] := by rw [List.take_add_one, hl]; rfl
    refine wg_name st (by walk_at "mem") (by walk_at "put") ?_
    walk_at "set"
    walk_at "run"
    refine ⟨w, l, pm, _, cA (ways w) cs, p0, p1, sh, rfl, At.app .here _, hfw, hcb, hsh, ?_⟩
    rw [hpr]
    walk_at "put!"
    cases hp : pr l with
    | none =>
      refine wss_cons (ws_if ?_)
      walk_at "run"
      refine od_notN ?_
      walk_at "run"
      show if (!true) = true then _ else _
      rw [if_neg (by decide)]
      refine wss_nil ?_
      refine wss_cons (ws_if ?_)
      walk_at "run"
      refine od_notN ?_
      walk_at "run"
      show if (!true) = true then _ else _
      rw [if_neg (by decide)]
      refine wss_nil ?_
      refine wss_nil ?_
      exact ⟨o, p, _, _, by rw [htk]; exact best_skip hbest hp, fun c bs e => by have := hbl c bs e; omega, rfl, rfl⟩
    | some x =>
      rw [show roomD (some x) = D.int x from rfl]
      refine ws_mid (fun Γ' M' => ∃ (d : Int) (bs : List (List Nat)) (q : Addr), bs.length ≤ i ∧ ((x = d ∧ BestOk pr (L.take (i + 1)) (some (d, bs ++ [l]))) ∨ (x ≠ d ∧ BestOk pr (L.take (i + 1)) (some (d, bs)))) ∧ Γ' = ([("_law_works", some (.lst (ws.map W.d))), ("_law_number_here", some (natD n)), ("_law_box", some (natD b)), ("_law_counts_here", some (.lst (cs.map D.int))), ("_law_prices_here", some (.tup [.int p0, .int p1])), ("_law_shut_here", some (.lst (sh.map pairD))), ("_law_work_here", some (W.d w)), ("_law_best", some (.tup [.int d, .ref q])), ("_law_many", some (.ref pm)), ("_law_one", some (nlD l)), ("_law_price", some (.int x))] : VEnv) ∧ M' = (q, .lst (bs.map nlD)) :: (pm, .dT (fnD (ways w) (cA (ways w) cs))) :: M) (ws_if ?_) ?_
      · walk_at "run"
        refine od_notN ?_
        walk_at "run"
        show if (!false) = true then _ else _
        rw [if_pos (by decide)]
        cases o with
        | none =>
          walk_at "run"
          refine od_isN ?_
          walk_at "run"
          show if true = true then _ else _
          rw [if_pos rfl, if_pos rfl]
          walk_at "set"
          walk_at "e1"
          walk_at "a1"
          walk_at "e1"
          walk_at "a1"
          refine we_lstO ?_
          walk_at "run"
          intro q
          walk_at "run"
          refine wss_nil ?_
          exact ⟨x, [], q, by simp, .inl ⟨rfl, by rw [htk]; exact best_first hbest hp⟩, rfl, rfl⟩
        | some b0 =>
          obtain ⟨d, bs⟩ := b0
          have hbl2 := hbl d bs rfl
          rw [show bestE p (some (d, bs)) = .tup [.int d, .ref p] from rfl]
          walk_at "run"
          refine od_isN ?_
          walk_at "run"
          show if false = true then _ else _
          rw [if_neg (by decide)]
          walk_at "run"
          refine ite_d (fun hlt => ?_) (fun hlt => ?_)
          · refine wss_gc (G := [(p, .lst (bs.map nlD))]) (M2 := (pm, .dT (fnD (ways w) (cA (ways w) cs))) :: M) (.refl _) ?_
            walk_at "set"
            walk_at "e1"
            walk_at "a1"
            walk_at "e1"
            walk_at "a1"
            refine we_lstO ?_
            walk_at "run"
            intro q
            walk_at "run"
            refine wss_nil ?_
            exact ⟨x, [], q, by simp, .inl ⟨rfl, by rw [htk]; exact best_less hbest hp hlt⟩, rfl, rfl⟩
          · refine wss_nil ?_
            by_cases he : x = d
            · subst he
              exact ⟨x, bs, p, hbl2, .inl ⟨rfl, by rw [htk]; exact best_same hbest hp⟩, rfl, rfl⟩
            · exact ⟨d, bs, p, hbl2, .inr ⟨he, by rw [htk]; exact best_more hbest hp (by omega)⟩, rfl, rfl⟩
      · rintro Γ' M' ⟨d, bs, q, hbl2, hor, rfl, rfl⟩
        refine wss_one (ws_if ?_)
        walk_at "run"
        refine od_notN ?_
        walk_at "run"
        show if (!false) = true then _ else _
        rw [if_pos (by decide)]
        walk_at "run"
        refine ite_d (fun he => ?_) (fun he => ?_)
        · rcases hor with ⟨_, hb⟩ | ⟨hne, _⟩
          · walk_at "expr"
            walk_at "run"
            refine md_append (by walk_at "at") (szlt (by rw [List.length_map]; omega)) ?_
            refine wss_nil ?_
            exact ⟨some (d, bs ++ [l]), q, _, _, hb, fun c bs' e => by cases e; rw [List.length_append, List.length_singleton]; omega, rfl, by rw [show bs.map nlD ++ [nlD l] = (bs ++ [l]).map nlD from by rw [List.map_append]; rfl]; rfl⟩
          · exact absurd he hne
        · rcases hor with ⟨he2, _⟩ | ⟨hne, hb⟩
          · exact absurd he2 he
          · refine wss_nil ?_
            exact ⟨some (d, bs), q, _, _, hb, fun c bs' e => by cases e; omega, rfl, rfl⟩
  · rintro Γ' M' ⟨o, p, o1, o2, hbest, hbl, rfl, rfl⟩
    rw [List.length_map, List.take_length] at hbest
    rw [List.length_map] at hbl
    cases o with
    | none =>
      walk_at "ret"
      refine we_gc ?_
      walk_at "run"
      exact ⟨[_], _, .refl _, hQ0 hbest⟩
    | some b0 =>
      obtain ⟨d, bs⟩ := b0
      have hbl2 := hbl d bs rfl
      walk_at "ret"
      refine we_gc ?_
      walk_at "run"
      exact ⟨[_], _, .swap _ _ _, hQ1 d bs p hbest (by omega)⟩
end
end Gen

namespace Gen
open PySem L2 DL Wk
abbrev sfilled : Stmt := top 20
abbrev lfilled : List Str := ["works", "number", "box", "counts", "prices", "shut", "flow"]
abbrev nfilled : List Str := ["works", "number", "box", "counts", "prices", "shut", "flow"]
theorem scfilled : FnScope nfilled ["works", "number", "box", "counts", "prices", "shut"] (defScope sfilled) := ⟨rfl, rfl, rfl, by decide +kernel, rfl, by decide +kernel, by decide +kernel⟩
section
variable {P : Program} {w : World} {K : PySem.W.Frag} {mg : Str → Option Value} {base : Heap}
structure InOk (I : FwIn) : Prop where
  l16 : I.wk.length ≤ 16
  pos : 0 < I.wk.length
  nd : (ways I.wk).Nodup
  l40 : (ways I.wk).length ≤ 40
  pr : 0 ≤ I.p0 ∧ I.p0 ≤ 1000000 ∧ 0 ≤ I.p1 ∧ I.p1 ≤ 1000000
  c0 : ∀ w ∈ ways I.wk, 0 ≤ I.c w
  net : I.net.Ok
  sl : I.sh.length ≤ 40
  sb : ∀ w ∈ I.sh, -1 ≤ w.1 ∧ w.1 ≤ 16 ∧ 0 ≤ w.2 ∧ w.2 ≤ 16
abbrev spfilled (K : PySem.W.Frag) (C : Addr) : DSp := fun ds M Q => ∃ (ws : List W) (n b : Nat) (I : FwIn), ds = [Ws.d ws, natD n, natD b, .lst ((ways I.wk).map fun w => .int (I.c w)), .tup [.int I.p0, .int I.p1], .lst (I.sh.map pairD)] ∧ FlC K C ∧ FitWs ws ∧ ws[n]? = some I.wk ∧ b < 1000 ∧ InOk I ∧
  ((busyL ws n b I.wk).map fun (k : Nat) => (k : Int)).Nodup ∧ (∀ k ∈ (busyL ws n b I.wk).map fun (k : Nat) => (k : Int), k ∈ I.net.blocks) ∧
  ((∀ S, ¬ Fl.Fits I.net ((busyL ws n b I.wk).map fun (k : Nat) => (k : Int)) S) → Q .non M) ∧ ∀ (F : Fw) f', F.N = I.net → F.C = C → FwOk F → Fl.Full I.net ((busyL ws n b I.wk).map fun (k : Nat) => (k : Int)) f' → Q (.ref F.r) (F.M f' M)
theorem fw_ok {I : FwIn} (ok : InOk I) {a C : Addr} {lo : Hp} {pm pl pa : Addr} {gs : List Addr} (hg : gs.length = I.wk.length) : FwOk ⟨a, C, lo, I.net, I.sh, fun w => I.c w * I.p1, fun w => 0 - I.c w * I.p0, pm, pl, pa, gs⟩ :=
  ⟨ok.net, fun _ => rfl, ok.l16, ok.pos, ok.l40, hg, ok.sl, ok.sb⟩
theorem fw_bd {I : FwIn} (ok : InOk I) : I.net.Bd (fun _ => 0) := fun w hw c hc => ok.net.cap w hw c hc
theorem fw_cons {I : FwIn} (B : List Int) : I.net.Cons (fun _ => 0) B := fun b _ _ => by
  unfold Fl.Net.net
  generalize I.net.L = l
  induction l with
  | nil => rfl
  | cons w l ih => rw [List.map_cons, List.sum_cons, ih]; unfold Fl.pick; split <;> split <;> rfl
theorem okfilled {C f : Addr} {fd : FuncData} (F : Fun K "filled" "filled" sfilled f fd) (hm : mg "filled" = some (.ref f)) (hb : Binds K fd ["works", "number", "box", "counts", "prices", "shut"] []) (hc : FlC K C) (hMk : Mks P w K mg base 3 "Flow" C 4 (spFinit K C)) (hfi : Ms P w K mg base 3 C "fill" 1 (spfill K C)) (hbu : Fs P w K mg base 6 "busy" 3 spbusy) : Fs P w K mg base 7 "filled" 6 (spfilled K C) := by
  refine fs_of (k := 6) (N := nfilled) (Ln := lfilled) (Bn := []) (Fn := ["Flow", "busy"]) (Bx := []) F hm hb scfilled rfl (by decide +kernel) (fun _ h => by cases h) ?_
  rintro X ds M Q bod ⟨ws, n, b, I, rfl, hc, hfit, hn, hb, ok, hnd, hB, hQ0, hQ1⟩
  have st := bod.st
  have rm := bod.room
  have hbu2 := bod.tr hbu
  have hc2 := hc
  rw [← bod.fr] at hc
  have hMk2 : Mks X.prog X.w X.K X.mg X.base 3 "Flow" C 4 (spFinit K C) := by rw [bod.pr, bod.wd, bod.fr, bod.mg, bod.base]; exact hMk
  have hfi2 : Ms X.prog X.w X.K X.mg X.base 3 C "fill" 1 (spfill X.K C) := by rw [bod.pr, bod.wd, bod.fr, bod.mg, bod.base]; exact hfi
  show WSs X ([("works", some (Ws.d ws)), ("number", some (natD n)), ("box", some (natD b)), ("counts", some (.lst ((ways I.wk).map fun w => .int (I.c w)))), ("prices", some (.tup [.int I.p0, .int I.p1])), ("shut", some (.lst (I.sh.map pairD))), ("flow", none)] : VEnv) _ _ _
  walk_at "set"
  refine we_mk hMk2 (rm.mono (by decide)) st (by walk_at "mem") ?_ (by walk_at "unf") (by walk_at "unf")
  walk_at "run"
  refine ⟨_, _, rfl, IxD.list isR_lst (atI_map hn), ?_⟩
  walk_at "run"
  refine fun a lo => ⟨a, lo, I, _, rfl, rfl, hc2, ok.l16, ok.nd, ok.l40, ok.pr, fun pm pl pa gs hgs => ⟨rfl, ?_⟩⟩
  walk_at "put!"
  have fok := fw_ok ok (a := a) (C := C) (lo := lo) (pm := pm) (pl := pl) (pa := pa) hgs
  generalize hF : (⟨a, C, lo, I.net, I.sh, fun w => I.c w * I.p1, fun w => 0 - I.c w * I.p0, pm, pl, pa, gs⟩ : Fw) = F at fok ⊢
  have hFN : F.N = I.net := by rw [← hF]
  have hFC : F.C = C := by rw [← hF]
  have hFr : F.r = a := by rw [← hF]
  rw [show (D.ref a) = .ref F.r from by rw [hFr]]
  clear hF hFr
  subst hFC
  walk_at "ret"
  refine we_if ?_
  refine wt_truth ?_ (by with_unfolding_all exact fun _ => rfl)
  refine we_ms hfi2 (rm.mono (by decide)) st ?_ (by walk_at "unf") (by walk_at "unf") (by walk_at "unf")
  walk_at "e1"
  refine ⟨F.r, F.fl, F.lo, _, rfl, .here, by walk_at "unf", ?_⟩
  refine wa_cons ?_
  refine we_frz ?_
  walk_at "run"
  refine ⟨ws, n, b, I.wk, rfl, hfit, hn, hb, fun p => ⟨p, _, _, rfl, rfl, ?_⟩⟩
  refine wa_nil ?_
  refine ⟨rfl, F, _, (busyL ws n b I.wk).map fun (k : Nat) => (k : Int), _, rfl, by rw [List.map_map]; rfl, rfl, hc, fok, hnd, by rw [hFN]; exact hB, by rw [hFN]; exact fw_bd ok, by rw [hFN]; exact fw_cons _, fun f' hno => ?_, fun f' hfull => ?_⟩
  · refine ⟨false, rfl, ?_⟩
    rw [if_neg (by decide)]
    refine we_gc ?_
    walk_at "run"
    exact ⟨_ :: _ :: _ :: _ :: tchM F.N F.gs, M, .refl _, hQ0 fun S => by rw [← hFN]; exact hno S⟩
  · refine ⟨true, rfl, ?_⟩
    rw [if_pos (by decide)]
    walk_at "run"
    exact hQ1 F f' hFN rfl fok (by rw [← hFN]; exact hfull)
end
end Gen

namespace Gen
open PySem L2 DL Wk
abbrev sFlow_amount : Stmt := inClass (top 8) 7
abbrev lFlow_amount : List Str := ["self", "total", "way"]
abbrev nFlow_amount : List Str := ["self", "total", "way"]
theorem scFlow_amount : FnScope nFlow_amount ["self"] (defScope sFlow_amount) := ⟨rfl, rfl, rfl, by decide +kernel, rfl, by decide +kernel, by decide +kernel⟩
abbrev sleast_cost : Stmt := top 21
abbrev lleast_cost : List Str := ["works", "number", "box", "counts", "prices", "shut", "flow"]
abbrev nleast_cost : List Str := ["works", "number", "box", "counts", "prices", "shut", "flow"]
theorem scleast_cost : FnScope nleast_cost ["works", "number", "box", "counts", "prices", "shut"] (defScope sleast_cost) := ⟨rfl, rfl, rfl, by decide +kernel, rfl, by decide +kernel, by decide +kernel⟩
/-- what one way brings to the door and out -/
def toOut (n : Nat) (f : Int × Int → Int) (w : Int × Int) : Int := if w.1 = -1 then 0 - f w else if w.2 = (n : Int) then f w else 0
theorem net_toOut {N : Fl.Net} (ok : N.Ok) (f : Int × Int → Int) : (N.L.map (toOut N.n f)).sum = N.net f (-1) := by
  unfold Fl.Net.net
  congr 1
  refine List.map_congr_left fun w hw => ?_
  have hr := ok.rng w hw
  unfold toOut Fl.Net.dst
  by_cases h1 : w.1 = -1
  · rw [if_pos h1, Fl.pick_t h1, Fl.pick_f (by split <;> omega)]
  · rw [if_neg h1, Fl.pick_f h1]
    by_cases h2 : w.2 = (N.n : Int)
    · rw [if_pos h2, Fl.pick_t (by rw [if_pos h2])]; omega
    · rw [if_neg h2, Fl.pick_f (by rw [if_neg h2]; omega)]; rfl
section
variable {P : Program} {w : World} {K : PySem.W.Frag} {mg : Str → Option Value} {base : Heap}
abbrev spamount (K : PySem.W.Frag) (C : Addr) : DSp := fun ds M Q => ∃ (F : Fw) (f : Int × Int → Int) (R0 : Mem), F.C = C ∧ ds = [.ref F.r] ∧ M = F.M f R0 ∧ FlC K F.C ∧ FwOk F ∧ Q (.int (F.N.net f (-1))) M
theorem okamount {C f : Addr} {fd : FuncData} (F : Fun K "amount" "Flow.amount" sFlow_amount f fd) (hb : Binds K fd ["self"] []) (hm : Meth K C "amount" f) (hc : FlC K C) (hD : ∃ t, mg "DOOR" = some (.int (-1) t)) : Ms P w K mg base 1 C "amount" 0 (spamount K C) := by
  refine ⟨f, fd, ["self"], hc.cls, hm, hb, rfl, gok_body (k := 0) (N := nFlow_amount) (Ln := lFlow_amount) (Bn := []) (Fn := ["DOOR"]) (Bx := []) F scFlow_amount rfl (by decide +kernel) (fun _ h => by cases h) ?_⟩
  rintro X ds M Q bod ⟨F, g, R0, rfl, rfl, rfl, hc, ok, hQ⟩
  have st := bod.st
  have rm := bod.room
  rw [← bod.fr] at hc
  obtain ⟨tk, hD⟩ := hD
  rw [← bod.mg] at hD
  show WSs X ([("self", some (.ref F.r)), ("total", none), ("way", none)] : VEnv) (F.M g R0) _ _
  walk_at "set"
  walk_at "run"
  refine wss_cons (ws_for st (wi_list ?_))
  refine we_fld ?_
  walk_at "e1"
  refine ⟨F.r, F.C, _, F.lo, _, .lst (F.N.L.map pairD), rfl, .here, hc.cls, hc.ways, rfl, ?_⟩
  refine ⟨_, isR_lst, fun i Γ' M' => ∃ o1 : Option D, Γ' = ([("self", some (.ref F.r)), ("total", some (.int ((F.N.L.take i).map (toOut F.N.n g)).sum)), ("way", o1)] : VEnv) ∧ M' = F.M g R0, ?_, ?_, ?_, ?_⟩
  · exact ⟨_, rfl, rfl⟩
  · exact fun _ _ _ _ => isR_lst
  · rintro i x Γ' M' hx ⟨o1, rfl, rfl⟩
    rw [List.getElem?_map] at hx
    obtain ⟨y, hy, rfl⟩ := Option.map_eq_some_iff.mp hx
    have hym := List.mem_of_getElem? hy
    have hnext : ((F.N.L.take (i + 1)).map (toOut F.N.n g)).sum = ((F.N.L.take i).map (toOut F.N.n g)).sum + toOut F.N.n g y := by
      rw [List.take_add_one, hy]; simp
    refine wg_name st (by walk_at "mem") (by walk_at "put") ?_
    refine wss_one (ws_if ?_)
    walk_at "run"
    refine ⟨_, _, rfl, IxD.tup rfl, ?_⟩
    refine we_const st (by walk_at "mem") hD ?_
    walk_at "run"
    refine ite_d (fun h1 => ?_) (fun h1 => ?_)
    · refine wss_one (ws_augI st (by walk_at "mem") ip_sub (by walk_at "look") ?_)
      refine we_dix st ?_
      refine we_fld ?_
      walk_at "e1"
      refine ⟨F.r, F.C, _, F.lo, _, .ref F.pa, rfl, .here, hc.cls, hc.along, rfl, ?_⟩
      walk_at "run"
      refine ⟨.int (g y), by rw [← fnD_val (L := F.N.L) (f := g) hym]; exact GetD.dtI (.there (.there (.there .here))), ?_⟩
      refine ⟨_, _, rfl, by walk_at "put", ?_⟩
      exact ⟨some (pairD y), by rw [hnext, show toOut F.N.n g y = 0 - g y from by unfold toOut; rw [if_pos h1], show ∀ a b : Int, a + (0 - b) = a - b from fun a b => by omega], rfl⟩
    · refine wss_one (ws_if ?_)
      walk_at "run"
      refine ⟨_, _, rfl, IxD.tup rfl, ?_⟩
      refine we_fld ?_
      walk_at "e1"
      refine ⟨F.r, F.C, _, F.lo, _, .int (F.N.n : Int), rfl, .here, hc.cls, hc.many, rfl, ?_⟩
      walk_at "run"
      refine ite_d (fun h2 => ?_) (fun h2 => ?_)
      · refine wss_one (ws_augI st (by walk_at "mem") ip_add (by walk_at "look") ?_)
        refine we_dix st ?_
        refine we_fld ?_
        walk_at "e1"
        refine ⟨F.r, F.C, _, F.lo, _, .ref F.pa, rfl, .here, hc.cls, hc.along, rfl, ?_⟩
        walk_at "run"
        refine ⟨.int (g y), by rw [← fnD_val (L := F.N.L) (f := g) hym]; exact GetD.dtI (.there (.there (.there .here))), ?_⟩
        refine ⟨_, _, rfl, by walk_at "put", ?_⟩
        exact ⟨some (pairD y), by rw [hnext, show toOut F.N.n g y = g y from by unfold toOut; rw [if_neg h1, if_pos h2]], rfl⟩
      · refine wss_nil ?_
        exact ⟨some (pairD y), by rw [hnext, show toOut F.N.n g y = 0 from by unfold toOut; rw [if_neg h1, if_neg h2], Int.add_zero], rfl⟩
  · rintro Γ' M' ⟨o1, rfl, rfl⟩
    rw [List.length_map, List.take_length, net_toOut ok.ok]
    walk_at "ret"
    walk_at "run"
    exact hQ
abbrev spleast_cost (K : PySem.W.Frag) (C : Addr) : DSp := fun ds M Q => ∃ (ws : List W) (n b : Nat) (I : FwIn) (B : List Int), ds = [Ws.d ws, natD n, natD b, .lst ((ways I.wk).map fun w => .int (I.c w)), .tup [.int I.p0, .int I.p1], .lst (I.sh.map pairD)] ∧ B = ((busyL ws n b I.wk).map fun (k : Nat) => (k : Int)) ∧ FlC K C ∧ FitWs ws ∧ ws[n]? = some I.wk ∧ b < 1000 ∧ InOk I ∧ B.Nodup ∧ (∀ k ∈ B, k ∈ I.net.blocks) ∧
  ((∀ S, ¬ Fl.Fits I.net B S) → Q .non M) ∧ ∀ f', Fl.Full I.net B f' → Q (.int (I.net.net f' (-1))) M
theorem okleast_cost {C f : Addr} {fd : FuncData} (F : Fun K "least_cost" "least_cost" sleast_cost f fd) (hm : mg "least_cost" = some (.ref f)) (hb : Binds K fd ["works", "number", "box", "counts", "prices", "shut"] []) (hc : FlC K C) (hfd : Fs P w K mg base 7 "filled" 6 (spfilled K C)) (ham : Ms P w K mg base 1 C "amount" 0 (spamount K C)) : Fs P w K mg base 8 "least_cost" 6 (spleast_cost K C) := by
  refine fs_of (k := 7) (N := nleast_cost) (Ln := lleast_cost) (Bn := []) (Fn := ["filled"]) (Bx := []) F hm hb scleast_cost rfl (by decide +kernel) (fun _ h => by cases h) ?_
  rintro X ds M Q bod ⟨ws, n, b, I, B, rfl, hBe, hc, hfit, hn, hb, ok, hnd, hB, hQ0, hQ1⟩
  have st := bod.st
  have rm := bod.room
  have hfd2 := bod.tr hfd
  have hc2 := hc
  rw [← bod.fr] at hc
  have ham2 : Ms X.prog X.w X.K X.mg X.base 1 C "amount" 0 (spamount X.K C) := by rw [bod.pr, bod.wd, bod.fr, bod.mg, bod.base]; exact ham
  show WSs X ([("works", some (Ws.d ws)), ("number", some (natD n)), ("box", some (natD b)), ("counts", some (.lst ((ways I.wk).map fun w => .int (I.c w)))), ("prices", some (.tup [.int I.p0, .int I.p1])), ("shut", some (.lst (I.sh.map pairD))), ("flow", none)] : VEnv) _ _ _
  subst hBe
  walk_at "set"
  walk_at "run"
  refine ⟨ws, n, b, I, rfl, hc2, hfit, hn, hb, ok, hnd, hB, fun hno => ?_, fun F f' hFN hFC fok hfull => ?_⟩
  · walk_at "run"
    walk_at "ret"
    refine we_if ?_
    walk_at "run"
    refine od_isN ?_
    walk_at "run"
    rw [if_pos (show isNonD D.non = true from rfl)]
    walk_at "run"
    exact hQ0 hno
  · walk_at "run"
    subst hFC
    walk_at "ret"
    refine we_if ?_
    walk_at "run"
    refine od_isN ?_
    walk_at "run"
    rw [if_neg (show ¬ isNonD (D.ref F.r) = true from Bool.false_ne_true)]
    refine we_gc ?_
    refine we_ms0 ham2 (rm.mono (by decide)) st ?_ (by walk_at "unf")
    walk_at "e1"
    refine ⟨F.r, F.fl, F.lo, _, rfl, .here, by walk_at "unf", ?_⟩
    refine ⟨F, f', M, rfl, rfl, rfl, hc, fok, ?_⟩
    rw [hFN]
    refine ⟨(F.r, .ins F.C F.fl F.lo) :: (F.pm, .dT (fnD F.N.L F.hi)) :: (F.pl, .dT (fnD F.N.L F.ls)) :: (F.pa, .dT (fnD F.N.L f')) :: tchM F.N F.gs, M, .refl _, hQ1 f' hfull⟩
end
end Gen

namespace Gen
open PySem L2 DL Wk Fl
theorem py_wsX {M : Mem} (ws : List W) : PyX M (.lst (ws.map W.d)) (.list (ws.map W.p)) := .lst (PyXs.of_map fun w _ => w.pyx)
theorem shw_workP {w : W} (h : Fit w) (hp : Plain w) : Shw 4 54400 w.p := by
  refine Shw.list (dep := 3) (n := 3390) (fun x hx => ?_) (by have := h.len; rw [List.length_map]; omega)
  obtain ⟨b, hb, rfl⟩ := List.mem_map.mp hx
  refine Shw.tuple (dep := 2) (n := 1692) (fun y hy => ?_) (by simp)
  simp only [List.mem_cons, List.not_mem_nil, or_false] at hy
  rcases hy with rfl | rfl
  · refine Shw.list (dep := 1) (n := 140) (fun z hz => ?_) (by have := (hp b hb).2; rw [List.length_map]; omega)
    obtain ⟨d, hd, rfl⟩ := List.mem_map.mp hz
    exact shw_dd (h.num b hb d hd)
  · exact (shw_nd (h.nd b hb)).mono (by omega) (by omega)
theorem shw_wsP {ws : List W} (h : FitWs ws) (hp : ∀ w ∈ ws, Plain w) (hl : ws.length ≤ 10) : Shw 5 600000 (.list (ws.map W.p)) := by
  refine Shw.list (dep := 4) (n := 54400) (fun x hx => ?_) (by rw [List.length_map]; omega)
  obtain ⟨w, hw, rfl⟩ := List.mem_map.mp hx
  exact shw_workP (h.fit w hw) (hp w hw)
theorem ints_py {M : Mem} (cs : List Int) : PyX M (.lst (cs.map D.int)) (.list (cs.map PyData.int)) := .lst (PyXs.of_map fun n _ => .int n)
theorem pairs_pyx {M : Mem} (sh : List (Int × Int)) : PyX M (.lst (sh.map pairD)) (.list (sh.map pairP)) := .lst (PyXs.of_map fun p _ => .tup (.cons (.int _) (.cons (.int _) .nil)))
theorem shx_ints {cs : List Int} (h : ∀ c ∈ cs, 0 ≤ c ∧ c ≤ 1000000000000) (hl : cs.length ≤ 100) : ShX 1 4500 (.list (cs.map PyData.int)) := by
  refine (Shw.list (dep := 0) (n := 44) (fun x hx => ?_) (by rw [List.length_map]; omega)).x
  obtain ⟨n, hn, rfl⟩ := List.mem_map.mp hx
  have := h n hn
  exact .int (by omega) (by omega)
theorem shw_pair {p : Int × Int} (h : -1 ≤ p.1 ∧ p.1 ≤ 16 ∧ 0 ≤ p.2 ∧ p.2 ≤ 16) : Shw 1 100 (pairP p) := by
  refine Shw.tuple (dep := 0) (n := 44) (fun x hx => ?_) (by simp)
  simp only [List.mem_cons, List.not_mem_nil, or_false] at hx
  rcases hx with rfl | rfl
  · exact .int (by omega) (by omega)
  · exact .int (by omega) (by omega)
theorem shx_pairs {sh : List (Int × Int)} (h : ∀ p ∈ sh, -1 ≤ p.1 ∧ p.1 ≤ 16 ∧ 0 ≤ p.2 ∧ p.2 ≤ 16) (hl : sh.length ≤ 100) : ShX 2 10100 (.list (sh.map pairP)) := by
  refine (Shw.list (dep := 1) (n := 100) (fun x hx => ?_) (by rw [List.length_map]; omega)).x
  obtain ⟨p, hp, rfl⟩ := List.mem_map.mp hx
  exact shw_pair (h p hp)
theorem shx_kept {ws : List W} {cs : List Int} {sh : List (Int × Int)} (h : FitWs ws) (hp : ∀ w ∈ ws, Plain w) (hl : ws.length ≤ 10) (hc : ∀ c ∈ cs, 0 ≤ c ∧ c ≤ 1000000000000) (hcl : cs.length ≤ 100) (hs : ∀ p ∈ sh, -1 ≤ p.1 ∧ p.1 ≤ 16 ∧ 0 ≤ p.2 ∧ p.2 ≤ 16) (hsl : sh.length ≤ 100) :
    ShX 6 900000 (.list [.list (ws.map W.p), .list (cs.map PyData.int), .list (sh.map pairP)]) := by
  obtain ⟨a1, a2, a3, a4⟩ := (shw_wsP h hp hl).x
  obtain ⟨b1, b2, b3, b4⟩ := shx_ints hc hcl
  obtain ⟨c1, c2, c3, c4⟩ := shx_pairs hs hsl
  refine ⟨by simp only [PyData.showable, PyData.showableAll] at *; simp [a1, b1, c1], ?_, ?_, by simp only [PyData.leavesShort, PyData.leavesShortAll] at *; simp [a4, b4, c4]⟩
  · show PyData.depth _ ≤ _
    rw [PyData.depth]
    simp only [PyData.depthAll]
    omega
  · show PyData.weight _ ≤ _
    rw [PyData.weight]
    simp only [PyData.weightAll]
    omega
theorem ways_rng {w : W} (hp : 0 < w.length) (hn : ∀ b ∈ w, ∀ t ∈ b.2.nx, 1 ≤ t ∧ t < w.length) : ∀ y ∈ ways w, (y.1 = -1 ∧ 0 ≤ y.2 ∧ y.2 < (w.length : Int)) ∨ (0 ≤ y.1 ∧ y.1 < (w.length : Int) ∧ 0 ≤ y.2 ∧ y.2 ≤ (w.length : Int)) := fun y hy => by
  have hw : ways w = (-1, 0) :: waysFrom w.length 0 (w.map (·.2)) := rfl
  rw [hw] at hy
  rcases List.mem_cons.mp hy with e | hm
  · rw [e]; exact .inl ⟨rfl, by decide, by show (0 : Int) < _; omega⟩
  · obtain ⟨i', e', g1, g2⟩ := mem_waysFrom hm
    have h1 := wayK_fst g2
    have hi := (List.getElem?_eq_some_iff.mp g1).1
    rw [List.length_map] at hi
    have h2 : 0 ≤ y.2 ∧ y.2 ≤ (w.length : Int) := by
      unfold wayK at g2
      split at g2
      · rw [List.mem_singleton] at g2
        rw [g2]; exact ⟨by omega, by omega⟩
      · obtain ⟨t, ht, e⟩ := List.mem_map.mp g2
        have ht := sxm.mp ht
        rw [List.getElem?_map] at g1
        obtain ⟨b, hb, eb⟩ := Option.map_eq_some_iff.mp g1
        have := hn b (List.mem_of_getElem? hb) t (by rw [eb]; exact ht)
        rw [← e]; exact ⟨by show (0 : Int) ≤ (t : Int); omega, by show (t : Int) ≤ _; omega⟩
    exact .inr ⟨by omega, by omega, h2⟩
theorem ways_bd16 {w : W} (hp : 0 < w.length) (h16 : w.length ≤ 16) (hn : ∀ b ∈ w, ∀ t ∈ b.2.nx, 1 ≤ t ∧ t < w.length) : ∀ y ∈ ways w, -1 ≤ y.1 ∧ y.1 ≤ 16 ∧ 0 ≤ y.2 ∧ y.2 ≤ 16 := fun y hy => by
  rcases ways_rng hp hn y hy with h | h <;> omega
theorem cA_map {ys : List (Int × Int)} {cs : List Int} (nd : ys.Nodup) (hl : ys.length = cs.length) : ys.map (cA ys cs) = cs := by
  refine List.ext_getElem? fun i => ?_
  rw [List.getElem?_map]
  cases hy : ys[i]? with
  | none => rw [List.getElem?_eq_none (by have := List.getElem?_eq_none_iff.mp hy; omega)]; rfl
  | some y =>
    have hi := (List.getElem?_eq_some_iff.mp hy).1
    have hc := List.getElem?_eq_getElem (show i < cs.length by omega)
    show some (cA ys cs y) = _
    rw [cA_zip nd hy hc, hc]
/-- what a flow is asked of -/
structure AskF (w : W) (cs : List Int) (p0 p1 : Int) (sh : List (Int × Int)) : Prop where
  pos : 0 < w.length
  l16 : w.length ≤ 16
  nx : ∀ b ∈ w, ∀ t ∈ b.2.nx, 1 ≤ t ∧ t < w.length
  nd : ∀ b ∈ w, b.2.nx.Nodup
  cl : cs.length = (ways w).length
  cs : ∀ c ∈ cs, 0 ≤ c ∧ c ≤ 1000000000000
  pr : 0 ≤ p0 ∧ p0 ≤ 1000000 ∧ 0 ≤ p1 ∧ p1 ≤ 1000000
  sl : sh.length ≤ 40
  sh : ∀ y ∈ sh, y ∈ ways w
abbrev fwI (w : W) (cs : List Int) (p0 p1 : Int) (sh : List (Int × Int)) : FwIn := ⟨w, cA (ways w) cs, p0, p1, sh⟩
section
variable {w : W} {cs : List Int} {p0 p1 : Int} {sh : List (Int × Int)}
theorem AskF.c0 (h : AskF w cs p0 p1 sh) : ∀ y ∈ ways w, 0 ≤ cA (ways w) cs y ∧ cA (ways w) cs y ≤ 1000000000000 := cA_bd (ways_nd h.nd) h.cl.symm h.cs
theorem AskF.wl (h : AskF w cs p0 p1 sh) : (ways w).length ≤ 40 := by
  have := ways_len w
  have := h.l16
  omega
theorem AskF.sb (h : AskF w cs p0 p1 sh) : ∀ y ∈ sh, -1 ≤ y.1 ∧ y.1 ≤ 16 ∧ 0 ≤ y.2 ∧ y.2 ≤ 16 := fun y hy => ways_bd16 h.pos h.l16 h.nx y (h.sh y hy)
theorem AskF.net (h : AskF w cs p0 p1 sh) : (fwI w cs p0 p1 sh).net.Ok := by
  refine ⟨ways_nd h.nd, ways_rng h.pos h.nx, fun y hy c hc => ?_⟩
  have g := (h.c0 y hy).1
  have hc : (if y ∈ sh then none else some (0 - cA (ways w) cs y * p0, cA (ways w) cs y * p1)) = some c := hc
  split at hc
  · cases hc
  · cases hc
    have g1 := Int.mul_nonneg g h.pr.1
    have g2 := Int.mul_nonneg g h.pr.2.2.1
    exact ⟨by show 0 - _ ≤ (0 : Int); omega, g2⟩
theorem AskF.ok (h : AskF w cs p0 p1 sh) : InOk (fwI w cs p0 p1 sh) := ⟨h.l16, h.pos, ways_nd h.nd, h.wl, h.pr, fun y hy => (h.c0 y hy).1, h.net, h.sl, h.sb⟩
theorem AskF.by (h : AskF w cs p0 p1 sh) : NetBy (fwI w cs p0 p1 sh).net (cA (ways w) cs) p0 p1 sh := ⟨fun _ => rfl, h.net⟩
theorem AskF.ls (h : AskF w cs p0 p1 sh) (ws : List W) (n b : Nat) : LsOk (fwI w cs p0 p1 sh).net (busyL ws n b w) := ⟨busyL_up _ _ _ _, fun _ hx => busyL_lt hx, Nat.le_trans h.l16 (by decide)⟩
theorem AskF.csD (h : AskF w cs p0 p1 sh) : D.lst ((ways (fwI w cs p0 p1 sh).wk).map fun y => .int ((fwI w cs p0 p1 sh).c y)) = .lst (cs.map D.int) := by
  show D.lst ((ways w).map fun y => .int (cA (ways w) cs y)) = _
  rw [show ((ways w).map fun y => D.int (cA (ways w) cs y)) = ((ways w).map (cA (ways w) cs)).map D.int from by rw [List.map_map]; rfl, cA_map (ways_nd h.nd) h.cl.symm]
theorem AskF.bnd (ws : List W) (n b : Nat) : ((busyL ws n b w).map fun (k : Nat) => (k : Int)).Nodup := (nl_up (busyL_up ws n b w)).imp fun h e => by omega
theorem AskF.bin (ws : List W) (n b : Nat) : ∀ k ∈ (busyL ws n b w).map fun (k : Nat) => (k : Int), k ∈ (fwI w cs p0 p1 sh).net.blocks := fun k hk => by
  obtain ⟨j, hj, rfl⟩ := List.mem_map.mp hk
  have := busyL_lt hj
  rw [Fl.mem_blocks]
  exact ⟨by omega, by show (j : Int) < ((w.length : Nat) : Int); omega⟩
end
theorem _root_.DL.Shw.shaped1 {d : Nat} {n : Nat} {p : PyData} (h : Shw d n p) (hd : d ≤ 60 := by omega) : SeqAt.shaped p = true := h.shaped hd
theorem any_nl (bs : List (List Nat)) (d : List Nat) : (bs.map nlP).any (fun z => PyData.eqv z (nlP d)) = decide (d ∈ bs) := by
  rw [List.any_map, Bool.eq_iff_iff]
  simp only [List.any_eq_true, decide_eq_true_eq, Function.comp_apply]
  constructor
  · rintro ⟨y, hy, e⟩
    have e' : y = d := by simpa [nlP, PyData.eqv, eqv_nats] using e
    exact e' ▸ hy
  · exact fun h => ⟨d, h, by simp [nlP, PyData.eqv, eqv_nats]⟩
theorem shaped_nls {l : List (List Nat)} (h : ∀ m ∈ l, (∀ n ∈ m, n < 1000) ∧ m.length ≤ 100) : SeqAt.shaped (.list (l.map nlP)) = true := by
  refine (Shw.list (dep := 1) (n := 4500) (k := l.length * 4501) (fun x hx => ?_) (by rw [List.length_map]; omega)).shaped (by omega)
  obtain ⟨m, hm, rfl⟩ := List.mem_map.mp hx
  exact shw_nats (h m hm).1 (h m hm).2
end Gen

namespace Gen
open PySem L2 DL Wk Fl
abbrev slaw : Stmt := top 44
abbrev llaw : List Str := ["_law_script", "_law_k", "_law_tape_here", "_law_works", "_law_number_here", "_law_work_here", "_law_boxes_here", "_law_box", "_law_counts_here", "_law_prices_here", "_law_shut_here", "_law_best", "_law_due", "_law_found", "_law_ways_here", "_law_more", "_law_other"]
abbrev nlaw : List Str := ["_law_script", "_law_k", "_law_tape_here", "_law_works", "_law_number_here", "_law_work_here", "_law_boxes_here", "_law_box", "_law_counts_here", "_law_prices_here", "_law_shut_here", "_law_best", "_law_due", "_law_found", "_law_ways_here", "_law_more", "_law_other", "_law_way"]
theorem sclaw : FnScope nlaw ["_law_script"] (defScope slaw) := ⟨rfl, rfl, rfl, by decide +kernel, rfl, by decide +kernel, by decide +kernel⟩
section
variable {P : Program} {w : World} {K : PySem.W.Frag} {mg : Str → Option Value} {base : Heap}
abbrev splaw : DSp := fun ds M Q => ∃ ns : List Int, ds = [.slst (ns.map .int)] ∧ M = [] ∧ ∀ M', Q (.bl true) M'
theorem law_start (ns : List Int) (hl : ns.length ≤ 63) (hb : ∀ z ∈ ns, PySem.Builtin.Int.intBits z ≤ 1048576) : splaw [.slst (ns.map .int)] [] fun d _ => d = .bl true := ⟨ns, rfl, rfl, fun _ => rfl⟩
theorem oklaw {C f : Addr} {fd : FuncData} (F : Fun K "law" "law" slaw f fd) (hB : ∀ x ∈ (["range", "max", "min", "len", "enumerate", "int", "isinstance", "bool"] : List Str), mg x = none) (h_law_tape : Fs P w K mg base 1 "_law_tape" 2 sp_law_tape) (h_law_small_works : Fs P w K mg base 5 "_law_small_works" 2 sp_law_small_works) (h_law_boxes : Fs P w K mg base 2 "_law_boxes" 1 sp_law_boxes) (h_law_counts : Fs P w K mg base 3 "_law_counts" 2 sp_law_counts) (h_law_prices : Fs P w K mg base 2 "_law_prices" 1 sp_law_prices) (h_law_shut : Fs P w K mg base 3 "_law_shut" 2 sp_law_shut) (h_law_ways : Fs P w K mg base 2 "_law_ways" 1 sp_law_ways) (h_law_draw : Fs P w K mg base 1 "_law_draw" 2 sp_law_draw) (h_law_cheapest : Fs P w K mg base 4 "_law_cheapest" 6 sp_law_cheapest) (hleast_cost : Fs P w K mg base 8 "least_cost" 6 (spleast_cost K C)) (hc : FlC K C) (hsys : ∃ mm, base.Ns PySem.sysModules mm) : GOk P w K mg base 10 f fd ["_law_script"] (spD K 1 splaw) := by
  refine gok_body (N := nlaw) (Ln := llaw) (Bn := ["range", "max", "min", "len", "enumerate", "int", "isinstance", "bool"]) (Fn := ["_law_tape", "_law_small_works", "_law_boxes", "_law_counts", "_law_prices", "_law_shut", "_law_cheapest", "least_cost", "_law_ways", "_law_draw"]) (Bx := ["range", "max", "min", "len", "enumerate", "int", "isinstance", "bool"]) F sclaw rfl (by decide +kernel) hB ?_
  rintro X ds M Q bod ⟨ns, rfl, rfl, hQ⟩
  have st := bod.st
  have rm := bod.room
  have d1 := bod.tr h_law_tape
  have d2 := bod.tr h_law_small_works
  have d3 := bod.tr h_law_boxes
  have d4 := bod.tr h_law_counts
  have d5 := bod.tr h_law_prices
  have d6 := bod.tr h_law_shut
  have d7 := bod.tr h_law_cheapest
  have d8 := bod.tr hleast_cost
  have d9 := bod.tr h_law_ways
  have d10 := bod.tr h_law_draw
  have hsy : ∃ mm, X.base.Ns sysModules mm := by rw [bod.base]; exact hsys
  show WSs X ([("_law_script", some (.slst (ns.map .int))), ("_law_k", none), ("_law_tape_here", none), ("_law_works", none), ("_law_number_here", none), ("_law_work_here", none), ("_law_boxes_here", none), ("_law_box", none), ("_law_counts_here", none), ("_law_prices_here", none), ("_law_shut_here", none), ("_law_best", none), ("_law_due", none), ("_law_found", none), ("_law_ways_here", none), ("_law_more", none), ("_law_other", none), ("_law_way", none)] : VEnv) _ _ _
  refine wss_cons (ws_for st (wi_range st (by walk_at "mem") ?_))
  walk_at "run"
  have hcnt : ∃ z : Int, (if (if (2 : Int) < ((ns.map D.int).length : Int) then (2 : Int) else ((ns.map D.int).length : Int)) > 1 then (if (2 : Int) < ((ns.map D.int).length : Int) then (2 : Int) else ((ns.map D.int).length : Int)) else 1) = z ∧ 0 ≤ z ∧ z ≤ 2 := by
    refine ⟨_, rfl, ?_, ?_⟩ <;> (split <;> split <;> omega)
  obtain ⟨z, ez, hz0, hz6⟩ := hcnt
  rw [ez]
  refine ⟨by omega, by omega, fun i Γ' M' => ∃ o1 o2 o3 o4 o5 o6 o7 o8 o9 o10 o11 o12 o14 o15 o16 o17 : Option D, Γ' = ([("_law_script", some (.slst (ns.map .int))), ("_law_k", o1), ("_law_tape_here", o2), ("_law_works", o3), ("_law_number_here", o4), ("_law_work_here", o5), ("_law_boxes_here", o6), ("_law_box", o7), ("_law_counts_here", o8), ("_law_prices_here", o9), ("_law_shut_here", o10), ("_law_best", o11), ("_law_due", o12), ("_law_found", o14), ("_law_ways_here", o15), ("_law_more", o16), ("_law_other", o17), ("_law_way", none)] : VEnv), ?_, ?_, ?_, ?_⟩
  · exact ⟨_, _, _, _, _, _, _, _, _, _, _, _, _, _, _, _, rfl⟩
  · intros; trivial
  · rintro i x Γ' M' hx ⟨o1, o2, o3, o4, o5, o6, o7, o8, o9, o10, o11, o12, o14, o15, o16, o17, rfl⟩
    obtain ⟨hi, rfl⟩ := rngD_inv hx
    refine wg_name st (by walk_at "mem") (by walk_at "put") ?_
    walk_at "set"
    walk_at "run"
    refine ⟨ns, _, rfl, by omega, by omega, fun t c0 tp0 => ?_⟩
    walk_at "run"
    walk_at "set"
    walk_at "run"
    refine ⟨t, 0, _, _, 3, rfl, .here, tp0, by omega, by omega, fun ws c1 hok hpl hle tp1 => ?_⟩
    walk_at "run"
    have hf : FitWs ws := hok.fitWs
    have hl10 := hok.len
    refine wss_one (ws_for st (wi_enum st (by walk_at "mem") ?_))
    walk_at "run"
    refine ⟨_, isR_lst, fun j Γ' M2 => ∃ (o4 o5 o6 o7 o8 o9 o10 o11 o12 o14 o15 o16 o17 : Option D) (c : Cell) (f : Cell → Mem), At t M2 c f ∧ Tape (30000 + 2000 * j) c ∧ Γ' = ([("_law_script", some (.slst (ns.map .int))), ("_law_k", some (.int (0 + (i : Int)))), ("_law_tape_here", some (.ref t)), ("_law_works", some (.lst (ws.map W.d))), ("_law_number_here", o4), ("_law_work_here", o5), ("_law_boxes_here", o6), ("_law_box", o7), ("_law_counts_here", o8), ("_law_prices_here", o9), ("_law_shut_here", o10), ("_law_best", o11), ("_law_due", o12), ("_law_found", o14), ("_law_ways_here", o15), ("_law_more", o16), ("_law_other", o17), ("_law_way", none)] : VEnv), ?_, ?_, ?_, ?_⟩
    · exact ⟨_, _, _, _, _, _, _, _, _, _, _, _, _, c1, _, .here, tp1, rfl⟩
    · exact fun _ _ _ _ => isR_lst
    · rintro j x Γ' M2 hx ⟨o4, o5, o6, o7, o8, o9, o10, o11, o12, o14, o15, o16, o17, c, f, hat, tp, rfl⟩
      unfold enumD at hx
      rw [List.getElem?_mapIdx, List.getElem?_map] at hx
      obtain ⟨y, hy, rfl⟩ := Option.map_eq_some_iff.mp hx
      obtain ⟨w, hw, rfl⟩ := Option.map_eq_some_iff.mp hy
      have hj := (List.getElem?_eq_some_iff.mp hw).1
      have hwm := List.mem_of_getElem? hw
      have hfw := hf.fit w hwm
      have hok1 := hok.ok w hwm
      have h16 := hfw.len
      have hnx : ∀ b ∈ w, ∀ t ∈ b.2.nx, 1 ≤ t ∧ t < w.length := fun b hb => (hok1.nd b hb).nx
      have hnd : ∀ b ∈ w, b.2.nx.Nodup := fun b hb => hok1.nodup _ (List.mem_map.mpr ⟨b, hb, rfl⟩)
      have hpos : 0 < w.length := hok1.pos
      have hwl : (ways w).length ≤ 40 := by
        have := ways_len w
        omega
      refine wg_tup st rfl ?_
      refine wgs_cons (wg_name st (by walk_at "mem") (by walk_at "put") ?_)
      refine wgs_cons (wg_name st (by walk_at "mem") (by walk_at "put") ?_)
      refine wgs_nil ?_
      walk_at "set"
      refine we_frz ?_
      walk_at "run"
      refine ⟨w, rfl, hfw, fun pb => ⟨pb, _, _, rfl, rfl, ?_⟩⟩
      walk_at "put!"
      have hbl := boxL_len w
      have hblt : ∀ b ∈ boxL w, b < 8 := fun b hb => boxL_lt hb
      refine wss_one (ws_for st (wi_list ?_))
      refine WE.imp (Q := fun d M1 => M1 = M2 ∧ ∃ bl : List Nat, d = nlD bl ∧ bl.length ≤ 8 ∧ ∀ b ∈ bl, b < 8) ?_ ?_
      · refine we_if ?_
        walk_at "run"
        refine cd_len (ds := w.map Bk.d) (.inl isR_lst) ?_
        walk_at "run"
        refine ite_b (fun _ => ?_) (fun _ => ?_)
        · walk_at "run"
          exact ⟨rfl, _, rfl, hbl, hblt⟩
        · walk_at "run"
          refine od_mul (cm_l (by omega) (by omega)) ?_
          have ek : (2 : Int) * (if decide ((0 : Int) + (i : Int) = 0) = true then 1 else 0) = ((if i = 0 then 2 else 0 : Nat) : Int) := by
            by_cases h : i = 0
            · subst h; rfl
            · rw [if_neg h, if_neg (by rw [decide_eq_true_iff]; omega)]; rfl
          rw [ek]
          refine ⟨_, rfl, _, .inl ⟨_, isR_lst, rfl⟩, rfl, (boxL w).take (if i = 0 then 2 else 0), ?_, ?_, ?_⟩
          · rw [cutD_to, ← List.map_take]
          · rw [List.length_take]; omega
          · exact fun b hb => hblt b (List.mem_of_mem_take hb)
      · rintro d M1 ⟨rfl, bl, rfl, hbl8, hbb⟩
        refine ⟨_, isR_lst, fun m Γ' M3 => ∃ (o7 o8 o9 o10 o11 o12 o14 o15 o16 o17 : Option D) (c : Cell) (f : Cell → Mem), At t M3 c f ∧ Tape (30000 + 2000 * j + 160 * m) c ∧ Γ' = ([("_law_script", some (.slst (ns.map .int))), ("_law_k", some (.int (0 + (i : Int)))), ("_law_tape_here", some (.ref t)), ("_law_works", some (.lst (ws.map W.d))), ("_law_number_here", some (.int (j : Int))), ("_law_work_here", some (W.d w)), ("_law_boxes_here", some (nlD (boxL w))), ("_law_box", o7), ("_law_counts_here", o8), ("_law_prices_here", o9), ("_law_shut_here", o10), ("_law_best", o11), ("_law_due", o12), ("_law_found", o14), ("_law_ways_here", o15), ("_law_more", o16), ("_law_other", o17), ("_law_way", none)] : VEnv), ?_, ?_, ?_, ?_⟩
        · exact ⟨_, _, _, _, _, _, _, _, _, _, c, _, hat, tp, rfl⟩
        · exact fun _ _ _ _ => isR_lst
        · rintro m x Γ' M3 hx ⟨o7, o8, o9, o10, o11, o12, o14, o15, o16, o17, c, f, hat, tp, rfl⟩
          rw [List.getElem?_map] at hx
          obtain ⟨b, hb, rfl⟩ := Option.map_eq_some_iff.mp hx
          have hm := (List.getElem?_eq_some_iff.mp hb).1
          have hb8 := hbb b (List.mem_of_getElem? hb)
          refine wg_name st (by walk_at "mem") (by walk_at "put") ?_
          walk_at "set"
          walk_at "run"
          refine ⟨t, _, c, f, w, rfl, hat, tp, by omega, h16, fun cs c2 hcl hcs tp2 => ?_⟩
          have hat2 := hat.put c2
          walk_at "put!"
          walk_at "set"
          walk_at "run"
          refine ⟨t, _, c2, f, rfl, hat2, tp2, by omega, fun p0 p1 c3 hpr tp3 => ?_⟩
          have hat3 := hat.put c3
          walk_at "put!"
          walk_at "set"
          walk_at "run"
          refine ⟨t, _, c3, f, w, rfl, hat3, tp3, by omega, h16, fun sh c4 hsl hsh tp4 => ?_⟩
          have hat4 := hat.put c4
          walk_at "put!"
          have ask : AskF w cs p0 p1 sh := ⟨hpos, h16, hnx, hnd, hcl, hcs, hpr, by omega, hsh⟩
          walk_at "set"
          walk_at "run"
          refine ⟨ws, j, b, w, cs, p0, p1, sh, rfl, hf, hw, hok1.nodup, hnd, ⟨hcl, hcs⟩, ⟨by omega, ask.sb⟩, fun hbest => ?_, fun cc bs p hbest hbsl => ?_⟩
          · walk_at "put!"
            have hno := best_nofits ask.by (ask.ls ws j b) hbest
            walk_at "set"
            refine we_if ?_
            walk_at "run"
            refine od_isN ?_
            walk_at "run"
            rw [if_pos (show isNonD D.non = true from rfl)]
            walk_at "run"
            walk_at "set"
            walk_at "run"
            refine ⟨ws, j, b, fwI w cs p0 p1 sh, _, by rw [ask.csD]; rfl, rfl, hc, hf, hw, by omega, ask.ok, AskF.bnd _ _ _, AskF.bin _ _ _, fun _ => ?_, fun f' hfull => absurd hfull (best_isSome ask.by (ask.ls ws j b) hbest)⟩
            walk_at "put!"
            refine wss_cons (ws_if ?_)
            walk_at "run"
            refine od_neP st .non .non rfl rfl ?_
            rw [show (!PyData.eqv PyData.none PyData.none) = false from rfl]
            walk_at "run"
            refine we_isA st (by walk_at "mem") (by walk_at "mem") (by decide +kernel : bootBuiltins "bool" = some (.type "bool")) ?_
            walk_at "run"
            refine ⟨_, false, .non, by decide +kernel, ?_⟩
            walk_at "run"
            refine wss_nil ?_
            walk_at "set"
            walk_at "run"
            refine ⟨_, w, rfl, isR_lst, fun _ _ => isR_lst, h16, ?_⟩
            walk_at "put!"
            have hwp : 1 ≤ (ways w).length := by
              show 1 ≤ ((-1, 0) :: waysFrom w.length 0 (w.map (·.2))).length
              rw [List.length_cons]; omega
            walk_at "set"
            walk_at "e1"
            walk_at "e1"
            refine we_frz ?_
            refine we_stP [("_law_way", 17)] ["_law_way", "_law_shut_here"] [] [] bod (by decide +kernel) (by walk_at "mem") (by walk_at "wiped") ?_
            refine wi_list ?_
            walk_at "run"
            refine ⟨t, _, _, c4, _, rfl, hat4, tp4, by omega, by rw [List.length_map]; omega, by rw [List.length_map]; omega, fun r c5 hr0 hr1 tp5 => ?_⟩
            have hat5 := hat4.put c5
            rw [List.length_map] at hr1
            obtain ⟨y, hy⟩ : ∃ y, (ways w)[r.toNat]? = some y := ⟨_, List.getElem?_eq_getElem (by omega)⟩
            have hym := List.mem_of_getElem? hy
            have hyb := ways_bd16 hpos h16 hnx y hym
            have hwl2 : (ways w).length ≤ 21 := by
              have h1 := ways_len w
              have h2 := hle w hwm
              omega
            refine ⟨_, _, rfl, IxD.list isR_lst (atI_ofNat hr0 (by rw [List.getElem?_map, hy]; rfl)), ?_⟩
            walk_at "run"
            refine ⟨_, isR_lst, fun i acc M' => M' = _ ∧ acc = (if i = 0 then [] else if y ∈ sh then [] else [pairD y]), ⟨rfl, rfl⟩, fun _ _ _ _ _ => isR_lst, ?_, ?_⟩
            · rintro i' d acc M' hx ⟨rfl, rfl⟩
              have hi := (List.getElem?_eq_some_iff.mp hx).1
              obtain rfl : i' = 0 := by simpa using hi
              cases hx
              refine ⟨_, by walk_at "put", fun X1 inn L => ?_⟩
              have st1 := inn.st
              walk_at "run"
              refine od_notInP st1 (.tup (.cons (.int _) (.cons (.int _) .nil))) (py_pairs (ps := sh) isR_lst) (pair_shaped hyb) (pairs_shaped ask.sb (by omega)) ?_
              rw [show PyData.tuple [.int y.1, .int y.2] = pairP y from rfl, any_pair]
              by_cases hys : y ∈ sh
              · rw [decide_eq_true hys]
                refine ⟨_, rfl, _, rfl, ?_⟩
                show if (!true) = true then _ else _
                rw [if_neg (by decide)]
                exact ⟨rfl, by simp [hys]⟩
              · rw [decide_eq_false hys]
                refine ⟨_, rfl, _, rfl, ?_⟩
                show if (!false) = true then _ else _
                rw [if_pos (by decide)]
                refine ⟨szlt (by simp), fun X2 inn2 => ?_⟩
                have st2 := inn2.st
                walk_at "run"
                exact ⟨rfl, rfl, by simp [hys, pairD]⟩
            rintro acc M' ⟨rfl, rfl⟩ pz
            refine ⟨pz, _, _, rfl, rfl, ?_⟩
            obtain ⟨sh2, hsh2⟩ : ∃ sh2, sh2 = sh ++ (if y ∈ sh then [] else [y]) := ⟨_, rfl⟩
            have hsl2 : sh2.length ≤ 40 := by
              rw [hsh2, List.length_append]
              split <;> simp <;> omega
            refine od_cat isL_lst isL_lst (szl (by rw [List.length_map]; split <;> (try split) <;> simp <;> omega)) ?_
            rw [show (sh.map pairD ++ if [pairD y].length = 0 then [] else if y ∈ sh then [] else [pairD y]) = sh2.map pairD from by
              rw [hsh2, if_neg (by simp), List.map_append]
              split <;> rfl]
            walk_at "put!"
            have hss : ∀ z, z ∈ sh → z ∈ sh2 := fun z hz => by rw [hsh2]; exact List.mem_append_left _ hz
            have ask2 : AskF w cs p0 p1 sh2 := ⟨hpos, h16, hnx, hnd, hcl, hcs, hpr, hsl2, fun z hz => by
              rw [hsh2] at hz
              rcases List.mem_append.mp hz with hz | hz
              · exact hsh z hz
              · split at hz
                · cases hz
                · rw [List.mem_singleton.mp hz]; exact hym⟩
            have more : More (fwI w cs p0 p1 sh).net (fwI w cs p0 p1 sh2).net := ⟨rfl, rfl, fun z c hc => by
              have hc : (if z ∈ sh2 then none else some (0 - cA (ways w) cs z * p0, cA (ways w) cs z * p1)) = some c := hc
              show (if z ∈ sh then none else some (0 - cA (ways w) cs z * p0, cA (ways w) cs z * p1)) = some c
              split at hc
              · cases hc
              · rename_i hn
                rw [if_neg (fun h => hn (hss z h))]; exact hc⟩
            walk_at "set"
            walk_at "run"
            refine ⟨ws, j, b, fwI w cs p0 p1 sh2, _, by rw [ask2.csD]; rfl, rfl, hc, hf, hw, by omega, ask2.ok, AskF.bnd _ _ _, AskF.bin _ _ _, fun _ => ?_, fun f' hfull => absurd (more.fits (full_reached ask2.net (AskF.bin _ _ _) hfull).1.fits) (hno _)⟩
            walk_at "put!"
            refine wss_cons (ws_if ?_)
            walk_at "run"
            refine od_isN ?_
            walk_at "run"
            rw [if_pos (show isNonD D.non = true from rfl)]
            walk_at "run"
            refine od_notN ?_
            walk_at "run"
            show if (!true) = true then _ else _
            rw [if_neg (by decide)]
            refine wss_nil ?_
            refine wss_one (ws_if ?_)
            walk_at "run"
            refine od_notN ?_
            walk_at "run"
            show if (!true) = true then _ else _
            rw [if_neg (by decide)]
            refine wss_nil ?_
            exact ⟨_, _, _, _, _, _, _, _, _, _, c5, _, hat5, tp5.mono (by omega), rfl⟩
          · walk_at "put!"
            have hsome := best_least ask.by (ask.ls ws j b) hbest
            have hne := hsome.1
            have hl0 : ∃ l0, l0 ∈ bs := by
              cases bs with
              | nil => exact absurd rfl hne
              | cons a r => exact ⟨a, List.mem_cons_self⟩
            obtain ⟨l0, hl0m⟩ := hl0
            have hls := (hsome.2.1 l0 hl0m).2
            walk_at "set"
            refine we_if ?_
            walk_at "run"
            refine od_isN ?_
            walk_at "run"
            rw [if_neg (show ¬ isNonD (D.tup [.int cc, .ref p]) = true from Bool.false_ne_true)]
            walk_at "run"
            walk_at "set"
            walk_at "run"
            refine ⟨ws, j, b, fwI w cs p0 p1 sh, _, by rw [ask.csD]; rfl, rfl, hc, hf, hw, by omega, ask.ok, AskF.bnd _ _ _, AskF.bin _ _ _, fun hno => absurd hls.fits (hno _), fun f' hfull => ?_⟩
            rw [← show cc = (fwI w cs p0 p1 sh).net.net f' (-1) from best_full ask.by (ask.ls ws j b) hbest hfull]
            walk_at "put!"
            refine wss_cons (ws_if ?_)
            walk_at "run"
            refine ite_n (fun h => absurd rfl h) (fun _ => ?_)
            walk_at "run"
            refine we_isBoolI st (by walk_at "mem") (by walk_at "mem") ?_
            walk_at "run"
            refine wss_nil ?_
            have hat4 : At t ((p, .lst (bs.map nlD)) :: f c4) c4 (fun c => (p, .lst (bs.map nlD)) :: f c) := .there hat4
            walk_at "set"
            walk_at "run"
            refine ⟨_, w, rfl, isR_lst, fun _ _ => isR_lst, h16, ?_⟩
            walk_at "put!"
            have hwp : 1 ≤ (ways w).length := by
              show 1 ≤ ((-1, 0) :: waysFrom w.length 0 (w.map (·.2))).length
              rw [List.length_cons]; omega
            walk_at "set"
            walk_at "e1"
            walk_at "e1"
            refine we_frz ?_
            refine we_stP [("_law_way", 17)] ["_law_way", "_law_shut_here"] [] [] bod (by decide +kernel) (by walk_at "mem") (by walk_at "wiped") ?_
            refine wi_list ?_
            walk_at "run"
            refine ⟨t, _, _, c4, _, rfl, hat4, tp4, by omega, by rw [List.length_map]; omega, by rw [List.length_map]; omega, fun r c5 hr0 hr1 tp5 => ?_⟩
            have hat5 := hat4.put c5
            rw [List.length_map] at hr1
            obtain ⟨y, hy⟩ : ∃ y, (ways w)[r.toNat]? = some y := ⟨_, List.getElem?_eq_getElem (by omega)⟩
            have hym := List.mem_of_getElem? hy
            have hyb := ways_bd16 hpos h16 hnx y hym
            have hwl2 : (ways w).length ≤ 21 := by
              have h1 := ways_len w
              have h2 := hle w hwm
              omega
            refine ⟨_, _, rfl, IxD.list isR_lst (atI_ofNat hr0 (by rw [List.getElem?_map, hy]; rfl)), ?_⟩
            walk_at "run"
            refine ⟨_, isR_lst, fun i acc M' => M' = _ ∧ acc = (if i = 0 then [] else if y ∈ sh then [] else [pairD y]), ⟨rfl, rfl⟩, fun _ _ _ _ _ => isR_lst, ?_, ?_⟩
            · rintro i' d acc M' hx ⟨rfl, rfl⟩
              have hi := (List.getElem?_eq_some_iff.mp hx).1
              obtain rfl : i' = 0 := by simpa using hi
              cases hx
              refine ⟨_, by walk_at "put", fun X1 inn L => ?_⟩
              have st1 := inn.st
              walk_at "run"
              refine od_notInP st1 (.tup (.cons (.int _) (.cons (.int _) .nil))) (py_pairs (ps := sh) isR_lst) (pair_shaped hyb) (pairs_shaped ask.sb (by omega)) ?_
              rw [show PyData.tuple [.int y.1, .int y.2] = pairP y from rfl, any_pair]
              by_cases hys : y ∈ sh
              · rw [decide_eq_true hys]
                refine ⟨_, rfl, _, rfl, ?_⟩
                show if (!true) = true then _ else _
                rw [if_neg (by decide)]
                exact ⟨rfl, by simp [hys]⟩
              · rw [decide_eq_false hys]
                refine ⟨_, rfl, _, rfl, ?_⟩
                show if (!false) = true then _ else _
                rw [if_pos (by decide)]
                refine ⟨szlt (by simp), fun X2 inn2 => ?_⟩
                have st2 := inn2.st
                walk_at "run"
                exact ⟨rfl, rfl, by simp [hys, pairD]⟩
            rintro acc M' ⟨rfl, rfl⟩ pz
            refine ⟨pz, _, _, rfl, rfl, ?_⟩
            obtain ⟨sh2, hsh2⟩ : ∃ sh2, sh2 = sh ++ (if y ∈ sh then [] else [y]) := ⟨_, rfl⟩
            have hsl2 : sh2.length ≤ 40 := by
              rw [hsh2, List.length_append]
              split <;> simp <;> omega
            refine od_cat isL_lst isL_lst (szl (by rw [List.length_map]; split <;> (try split) <;> simp <;> omega)) ?_
            rw [show (sh.map pairD ++ if [pairD y].length = 0 then [] else if y ∈ sh then [] else [pairD y]) = sh2.map pairD from by
              rw [hsh2, if_neg (by simp), List.map_append]
              split <;> rfl]
            walk_at "put!"
            have hss : ∀ z, z ∈ sh → z ∈ sh2 := fun z hz => by rw [hsh2]; exact List.mem_append_left _ hz
            have ask2 : AskF w cs p0 p1 sh2 := ⟨hpos, h16, hnx, hnd, hcl, hcs, hpr, hsl2, fun z hz => by
              rw [hsh2] at hz
              rcases List.mem_append.mp hz with hz | hz
              · exact hsh z hz
              · split at hz
                · cases hz
                · rw [List.mem_singleton.mp hz]; exact hym⟩
            have more : More (fwI w cs p0 p1 sh).net (fwI w cs p0 p1 sh2).net := ⟨rfl, rfl, fun z c hc => by
              have hc : (if z ∈ sh2 then none else some (0 - cA (ways w) cs z * p0, cA (ways w) cs z * p1)) = some c := hc
              show (if z ∈ sh then none else some (0 - cA (ways w) cs z * p0, cA (ways w) cs z * p1)) = some c
              split at hc
              · cases hc
              · rename_i hn
                rw [if_neg (fun h => hn (hss z h))]; exact hc⟩
            walk_at "set"
            walk_at "run"
            refine ⟨ws, j, b, fwI w cs p0 p1 sh2, _, by rw [ask2.csD]; rfl, rfl, hc, hf, hw, by omega, ask2.ok, AskF.bnd _ _ _, AskF.bin _ _ _, fun _ => ?_, fun f2 hfull2 => ?_⟩
            · walk_at "put!"
              refine wss_cons (ws_if ?_)
              walk_at "run"
              refine od_isN ?_
              walk_at "run"
              rw [if_neg (show ¬ isNonD (D.int cc) = true from Bool.false_ne_true)]
              refine wss_nil ?_
              refine wss_one (ws_if ?_)
              walk_at "run"
              refine od_notN ?_
              walk_at "run"
              show if (!false) = true then _ else _
              rw [if_pos (by decide)]
              walk_at "run"
              refine od_notN ?_
              walk_at "run"
              show if (!true) = true then _ else _
              rw [if_neg (by decide)]
              refine wss_nil ?_
              exact ⟨_, _, _, _, _, _, _, _, _, _, c5, _, hat5, tp5.mono (by omega), rfl⟩
            · have hle : cc ≤ (fwI w cs p0 p1 sh2).net.net f2 (-1) := more.least hls (full_reached ask2.net (AskF.bin _ _ _) hfull2).1
              generalize (fwI w cs p0 p1 sh2).net.net f2 (-1) = c9 at hle
              walk_at "put!"
              refine wss_cons (ws_if ?_)
              walk_at "run"
              refine od_isN ?_
              walk_at "run"
              rw [if_neg (show ¬ isNonD (D.int cc) = true from Bool.false_ne_true)]
              refine wss_nil ?_
              refine wss_one (ws_if ?_)
              walk_at "run"
              refine od_notN ?_
              walk_at "run"
              show if (!false) = true then _ else _
              rw [if_pos (by decide)]
              walk_at "run"
              refine od_notN ?_
              walk_at "run"
              show if (!false) = true then _ else _
              rw [if_pos (by decide)]
              walk_at "run"
              refine ite_d (fun h => absurd h (by omega)) (fun _ => ?_)
              refine wss_nil ?_
              exact ⟨_, _, _, _, _, _, _, _, _, _, c5, _, hat5, tp5.mono (by omega), rfl⟩
        · rintro Γ' M3 ⟨o7, o8, o9, o10, o11, o12, o14, o15, o16, o17, c, f, hat, tp, rfl⟩
          rw [List.length_map] at tp
          exact ⟨_, _, _, _, _, _, _, _, _, _, _, _, _, c, f, hat, tp.mono (by omega), rfl⟩
    · rintro Γ' M2 ⟨o4, o5, o6, o7, o8, o9, o10, o11, o12, o14, o15, o16, o17, c, f, hat, tp, rfl⟩
      exact ⟨_, _, _, _, _, _, _, _, _, _, _, _, _, _, _, _, rfl⟩
  · rintro Γ' M' ⟨o1, o2, o3, o4, o5, o6, o7, o8, o9, o10, o11, o12, o14, o15, o16, o17, rfl⟩
    walk_at "ret"
    walk_at "run"
    exact hQ _
end
end Gen

namespace Gen
open PySem L2 DL Wk PyProof.Rows

theorem all_mk {l : PySem.W.OpenLaw} {w : World} {K : PySem.W.Frag} {h : Heap} {mg : Str → Option Value} {fa f1 f2 f3 f4 f5 f6 f7 f8 f9 f10 f11 f12 f13 f14 f15 f16 f17 f18 f19 f20 f21 f22 f23 f24 f25 f26 f27 f28 f29 f30 f31 f32 f33 f34 f35 f36 f37 : Addr} (X : K.In h) (G : h.Ns mainGlobals mg) (hfa : mg "law" = some (.ref fa))
    {od1 an1 od2 an2 od3 an3 od4 an4 od5 an5 od6 an6 od7 an7 od8 an8 od9 an9 od10 an10 od11 an11 od12 an12 od13 an13 od14 an14 od15 an15 od16 an16 od17 an17 od18 an18 od19 an19 od20 an20 od21 an21 od22 an22 od23 an23 od24 an24 od25 an25 od26 an26 od27 an27 od28 an28 od29 an29 od30 an30 od31 an31 od32 an32 od33 an33 od34 an34 od35 an35 od36 an36 od37 an37 : Option Addr} {sl1 sl2 sl3 sl4 sl5 sl6 sl7 sl8 sl9 sl10 sl11 sl12 sl13 sl14 sl15 sl16 sl17 sl18 sl19 sl20 sl21 sl22 sl23 sl24 sl25 sl26 sl27 sl28 sl29 sl30 sl31 sl32 sl33 sl34 sl35 sl36 sl37 : Array (Option Value)} {oc1 kV1 dc1 pm1 cd1 ct1 oc2 kV2 dc2 pm2 cd2 ct2 oc3 kV3 dc3 pm3 cd3 ct3 oc4 kV4 dc4 pm4 cd4 ct4 oc5 kV5 dc5 pm5 cd5 ct5 oc6 kV6 dc6 pm6 cd6 ct6 oc7 kV7 dc7 pm7 cd7 ct7 oc8 kV8 dc8 pm8 cd8 ct8 oc9 kV9 dc9 pm9 cd9 ct9 oc10 kV10 dc10 pm10 cd10 ct10 oc11 kV11 dc11 pm11 cd11 ct11 oc12 kV12 dc12 pm12 cd12 ct12 oc13 kV13 dc13 pm13 cd13 ct13 oc14 kV14 dc14 pm14 cd14 ct14 oc15 kV15 dc15 pm15 cd15 ct15 oc16 kV16 dc16 pm16 cd16 ct16 oc17 kV17 dc17 pm17 cd17 ct17 oc18 kV18 dc18 pm18 cd18 ct18 oc19 kV19 dc19 pm19 cd19 ct19 oc20 kV20 dc20 pm20 cd20 ct20 oc21 kV21 dc21 pm21 cd21 ct21 oc22 kV22 dc22 pm22 cd22 ct22 oc23 kV23 dc23 pm23 cd23 ct23 oc24 kV24 dc24 pm24 cd24 ct24 oc25 kV25 dc25 pm25 cd25 ct25 oc26 kV26 dc26 pm26 cd26 ct26 oc27 kV27 dc27 pm27 cd27 ct27 oc28 kV28 dc28 pm28 cd28 ct28 oc29 kV29 dc29 pm29 cd29 ct29 oc30 kV30 dc30 pm30 cd30 ct30 oc31 kV31 dc31 pm31 cd31 ct31 oc32 kV32 dc32 pm32 cd32 ct32 oc33 kV33 dc33 pm33 cd33 ct33 oc34 kV34 dc34 pm34 cd34 ct34 oc35 kV35 dc35 pm35 cd35 ct35 oc36 kV36 dc36 pm36 cd36 ct36 oc37 kV37 dc37 pm37 cd37 ct37 : Value}
    {tk0 : Tok}
    (a1 : PySem.W.nsIn K mainGlobals "nexts_of" = some (some (.ref f1))) (l1 : K.lookup f1 = some ⟨oc1, od1, .func (PySem.W.fnOf "nexts_of" "nexts_of" (defArgs snexts_of) (defBody snexts_of) (defScope snexts_of) .none kV1 dc1 pm1 an1 cd1 ct1), sl1⟩) (c1 : PySem.W.codeIn K cd1 "nexts_of" = true) (k1 : PySem.W.keepIn K (.ref f1) = true)
    (a2 : PySem.W.nsIn K mainGlobals "come_to" = some (some (.ref f2))) (l2 : K.lookup f2 = some ⟨oc2, od2, .func (PySem.W.fnOf "come_to" "come_to" (defArgs scome_to) (defBody scome_to) (defScope scome_to) .none kV2 dc2 pm2 an2 cd2 ct2), sl2⟩) (c2 : PySem.W.codeIn K cd2 "come_to" = true) (k2 : PySem.W.keepIn K (.ref f2) = true)
    (a3 : PySem.W.nsIn K mainGlobals "ways_of" = some (some (.ref f3))) (l3 : K.lookup f3 = some ⟨oc3, od3, .func (PySem.W.fnOf "ways_of" "ways_of" (defArgs sways_of) (defBody sways_of) (defScope sways_of) .none kV3 dc3 pm3 an3 cd3 ct3), sl3⟩) (c3 : PySem.W.codeIn K cd3 "ways_of" = true) (k3 : PySem.W.keepIn K (.ref f3) = true)
    (a4 : PySem.W.nsIn K mainGlobals "boxes_written" = some (some (.ref f4))) (l4 : K.lookup f4 = some ⟨oc4, od4, .func (PySem.W.fnOf "boxes_written" "boxes_written" (defArgs sboxes_written) (defBody sboxes_written) (defScope sboxes_written) .none kV4 dc4 pm4 an4 cd4 ct4), sl4⟩) (c4 : PySem.W.codeIn K cd4 "boxes_written" = true) (k4 : PySem.W.keepIn K (.ref f4) = true)
    (a5 : PySem.W.nsIn K mainGlobals "boxes_read" = some (some (.ref f5))) (l5 : K.lookup f5 = some ⟨oc5, od5, .func (PySem.W.fnOf "boxes_read" "boxes_read" (defArgs sboxes_read) (defBody sboxes_read) (defScope sboxes_read) .none kV5 dc5 pm5 an5 cd5 ct5), sl5⟩) (c5 : PySem.W.codeIn K cd5 "boxes_read" = true) (k5 : PySem.W.keepIn K (.ref f5) = true)
    (a6 : PySem.W.nsIn K mainGlobals "first_touch" = some (some (.ref f6))) (l6 : K.lookup f6 = some ⟨oc6, od6, .func (PySem.W.fnOf "first_touch" "first_touch" (defArgs sfirst_touch) (defBody sfirst_touch) (defScope sfirst_touch) .none kV6 dc6 pm6 an6 cd6 ct6), sl6⟩) (c6 : PySem.W.codeIn K cd6 "first_touch" = true) (k6 : PySem.W.keepIn K (.ref f6) = true)
    (a7 : PySem.W.nsIn K mainGlobals "backwards" = some (some (.ref f7))) (l7 : K.lookup f7 = some ⟨oc7, od7, .func (PySem.W.fnOf "backwards" "backwards" (defArgs sbackwards) (defBody sbackwards) (defScope sbackwards) .none kV7 dc7 pm7 an7 cd7 ct7), sl7⟩) (c7 : PySem.W.codeIn K cd7 "backwards" = true) (k7 : PySem.W.keepIn K (.ref f7) = true)
    (a8 : PySem.W.nsIn K mainGlobals "awaiting" = some (some (.ref f8))) (l8 : K.lookup f8 = some ⟨oc8, od8, .func (PySem.W.fnOf "awaiting" "awaiting" (defArgs sawaiting) (defBody sawaiting) (defScope sawaiting) .none kV8 dc8 pm8 an8 cd8 ct8), sl8⟩) (c8 : PySem.W.codeIn K cd8 "awaiting" = true) (k8 : PySem.W.keepIn K (.ref f8) = true)
    (a9 : PySem.W.nsIn K mainGlobals "asked_by" = some (some (.ref f9))) (l9 : K.lookup f9 = some ⟨oc9, od9, .func (PySem.W.fnOf "asked_by" "asked_by" (defArgs sasked_by) (defBody sasked_by) (defScope sasked_by) .none kV9 dc9 pm9 an9 cd9 ct9), sl9⟩) (c9 : PySem.W.codeIn K cd9 "asked_by" = true) (k9 : PySem.W.keepIn K (.ref f9) = true)
    (a10 : PySem.W.nsIn K mainGlobals "awaited" = some (some (.ref f10))) (l10 : K.lookup f10 = some ⟨oc10, od10, .func (PySem.W.fnOf "awaited" "awaited" (defArgs sawaited) (defBody sawaited) (defScope sawaited) .none kV10 dc10 pm10 an10 cd10 ct10), sl10⟩) (c10 : PySem.W.codeIn K cd10 "awaited" = true) (k10 : PySem.W.keepIn K (.ref f10) = true)
    (a11 : PySem.W.nsIn K mainGlobals "writing" = some (some (.ref f11))) (l11 : K.lookup f11 = some ⟨oc11, od11, .func (PySem.W.fnOf "writing" "writing" (defArgs swriting) (defBody swriting) (defScope swriting) .none kV11 dc11 pm11 an11 cd11 ct11), sl11⟩) (c11 : PySem.W.codeIn K cd11 "writing" = true) (k11 : PySem.W.keepIn K (.ref f11) = true)
    (a12 : PySem.W.nsIn K mainGlobals "reached" = some (some (.ref f12))) (l12 : K.lookup f12 = some ⟨oc12, od12, .func (PySem.W.fnOf "reached" "reached" (defArgs sreached) (defBody sreached) (defScope sreached) .none kV12 dc12 pm12 an12 cd12 ct12), sl12⟩) (c12 : PySem.W.codeIn K cd12 "reached" = true) (k12 : PySem.W.keepIn K (.ref f12) = true)
    (a13 : PySem.W.nsIn K mainGlobals "busy" = some (some (.ref f13))) (l13 : K.lookup f13 = some ⟨oc13, od13, .func (PySem.W.fnOf "busy" "busy" (defArgs sbusy) (defBody sbusy) (defScope sbusy) .none kV13 dc13 pm13 an13 cd13 ct13), sl13⟩) (c13 : PySem.W.codeIn K cd13 "busy" = true) (k13 : PySem.W.keepIn K (.ref f13) = true)
    (a14 : PySem.W.nsIn K mainGlobals "filled" = some (some (.ref f14))) (l14 : K.lookup f14 = some ⟨oc14, od14, .func (PySem.W.fnOf "filled" "filled" (defArgs sfilled) (defBody sfilled) (defScope sfilled) .none kV14 dc14 pm14 an14 cd14 ct14), sl14⟩) (c14 : PySem.W.codeIn K cd14 "filled" = true) (k14 : PySem.W.keepIn K (.ref f14) = true)
    (a15 : PySem.W.nsIn K mainGlobals "least_cost" = some (some (.ref f15))) (l15 : K.lookup f15 = some ⟨oc15, od15, .func (PySem.W.fnOf "least_cost" "least_cost" (defArgs sleast_cost) (defBody sleast_cost) (defScope sleast_cost) .none kV15 dc15 pm15 an15 cd15 ct15), sl15⟩) (c15 : PySem.W.codeIn K cd15 "least_cost" = true) (k15 : PySem.W.keepIn K (.ref f15) = true)
    (a16 : PySem.W.nsIn K mainGlobals "_law_tape" = some (some (.ref f16))) (l16 : K.lookup f16 = some ⟨oc16, od16, .func (PySem.W.fnOf "_law_tape" "_law_tape" (defArgs s_law_tape) (defBody s_law_tape) (defScope s_law_tape) .none kV16 dc16 pm16 an16 cd16 ct16), sl16⟩) (c16 : PySem.W.codeIn K cd16 "_law_tape" = true) (k16 : PySem.W.keepIn K (.ref f16) = true)
    (a17 : PySem.W.nsIn K mainGlobals "_law_draw" = some (some (.ref f17))) (l17 : K.lookup f17 = some ⟨oc17, od17, .func (PySem.W.fnOf "_law_draw" "_law_draw" (defArgs s_law_draw) (defBody s_law_draw) (defScope s_law_draw) .none kV17 dc17 pm17 an17 cd17 ct17), sl17⟩) (c17 : PySem.W.codeIn K cd17 "_law_draw" = true) (k17 : PySem.W.keepIn K (.ref f17) = true)
    (a18 : PySem.W.nsIn K mainGlobals "_law_nexts" = some (some (.ref f18))) (l18 : K.lookup f18 = some ⟨oc18, od18, .func (PySem.W.fnOf "_law_nexts" "_law_nexts" (defArgs s_law_nexts) (defBody s_law_nexts) (defScope s_law_nexts) .none kV18 dc18 pm18 an18 cd18 ct18), sl18⟩) (c18 : PySem.W.codeIn K cd18 "_law_nexts" = true) (k18 : PySem.W.keepIn K (.ref f18) = true)
    (a19 : PySem.W.nsIn K mainGlobals "_law_number" = some (some (.ref f19))) (l19 : K.lookup f19 = some ⟨oc19, od19, .func (PySem.W.fnOf "_law_number" "_law_number" (defArgs s_law_number) (defBody s_law_number) (defScope s_law_number) .none kV19 dc19 pm19 an19 cd19 ct19), sl19⟩) (c19 : PySem.W.codeIn K cd19 "_law_number" = true) (k19 : PySem.W.keepIn K (.ref f19) = true)
    (a20 : PySem.W.nsIn K mainGlobals "_law_deeds" = some (some (.ref f20))) (l20 : K.lookup f20 = some ⟨oc20, od20, .func (PySem.W.fnOf "_law_deeds" "_law_deeds" (defArgs s_law_deeds) (defBody s_law_deeds) (defScope s_law_deeds) .none kV20 dc20 pm20 an20 cd20 ct20), sl20⟩) (c20 : PySem.W.codeIn K cd20 "_law_deeds" = true) (k20 : PySem.W.keepIn K (.ref f20) = true)
    (a21 : PySem.W.nsIn K mainGlobals "_law_work" = some (some (.ref f21))) (l21 : K.lookup f21 = some ⟨oc21, od21, .func (PySem.W.fnOf "_law_work" "_law_work" (defArgs s_law_work) (defBody s_law_work) (defScope s_law_work) .none kV21 dc21 pm21 an21 cd21 ct21), sl21⟩) (c21 : PySem.W.codeIn K cd21 "_law_work" = true) (k21 : PySem.W.keepIn K (.ref f21) = true)
    (a22 : PySem.W.nsIn K mainGlobals "_law_small_works" = some (some (.ref f22))) (l22 : K.lookup f22 = some ⟨oc22, od22, .func (PySem.W.fnOf "_law_small_works" "_law_small_works" (defArgs s_law_small_works) (defBody s_law_small_works) (defScope s_law_small_works) .none kV22 dc22 pm22 an22 cd22 ct22), sl22⟩) (c22 : PySem.W.codeIn K cd22 "_law_small_works" = true) (k22 : PySem.W.keepIn K (.ref f22) = true)
    (a23 : PySem.W.nsIn K mainGlobals "_law_ends" = some (some (.ref f23))) (l23 : K.lookup f23 = some ⟨oc23, od23, .func (PySem.W.fnOf "_law_ends" "_law_ends" (defArgs s_law_ends) (defBody s_law_ends) (defScope s_law_ends) .none kV23 dc23 pm23 an23 cd23 ct23), sl23⟩) (c23 : PySem.W.codeIn K cd23 "_law_ends" = true) (k23 : PySem.W.keepIn K (.ref f23) = true)
    (a24 : PySem.W.nsIn K mainGlobals "_law_ways" = some (some (.ref f24))) (l24 : K.lookup f24 = some ⟨oc24, od24, .func (PySem.W.fnOf "_law_ways" "_law_ways" (defArgs s_law_ways) (defBody s_law_ways) (defScope s_law_ways) .none kV24 dc24 pm24 an24 cd24 ct24), sl24⟩) (c24 : PySem.W.codeIn K cd24 "_law_ways" = true) (k24 : PySem.W.keepIn K (.ref f24) = true)
    (a25 : PySem.W.nsIn K mainGlobals "_law_reads" = some (some (.ref f25))) (l25 : K.lookup f25 = some ⟨oc25, od25, .func (PySem.W.fnOf "_law_reads" "_law_reads" (defArgs s_law_reads) (defBody s_law_reads) (defScope s_law_reads) .none kV25 dc25 pm25 an25 cd25 ct25), sl25⟩) (c25 : PySem.W.codeIn K cd25 "_law_reads" = true) (k25 : PySem.W.keepIn K (.ref f25) = true)
    (a26 : PySem.W.nsIn K mainGlobals "_law_writes" = some (some (.ref f26))) (l26 : K.lookup f26 = some ⟨oc26, od26, .func (PySem.W.fnOf "_law_writes" "_law_writes" (defArgs s_law_writes) (defBody s_law_writes) (defScope s_law_writes) .none kV26 dc26 pm26 an26 cd26 ct26), sl26⟩) (c26 : PySem.W.codeIn K cd26 "_law_writes" = true) (k26 : PySem.W.keepIn K (.ref f26) = true)
    (a27 : PySem.W.nsIn K mainGlobals "_law_is_asked" = some (some (.ref f27))) (l27 : K.lookup f27 = some ⟨oc27, od27, .func (PySem.W.fnOf "_law_is_asked" "_law_is_asked" (defArgs s_law_is_asked) (defBody s_law_is_asked) (defScope s_law_is_asked) .none kV27 dc27 pm27 an27 cd27 ct27), sl27⟩) (c27 : PySem.W.codeIn K cd27 "_law_is_asked" = true) (k27 : PySem.W.keepIn K (.ref f27) = true)
    (a28 : PySem.W.nsIn K mainGlobals "_law_behind" = some (some (.ref f28))) (l28 : K.lookup f28 = some ⟨oc28, od28, .func (PySem.W.fnOf "_law_behind" "_law_behind" (defArgs s_law_behind) (defBody s_law_behind) (defScope s_law_behind) .none kV28 dc28 pm28 an28 cd28 ct28), sl28⟩) (c28 : PySem.W.codeIn K cd28 "_law_behind" = true) (k28 : PySem.W.keepIn K (.ref f28) = true)
    (a29 : PySem.W.nsIn K mainGlobals "_law_busy" = some (some (.ref f29))) (l29 : K.lookup f29 = some ⟨oc29, od29, .func (PySem.W.fnOf "_law_busy" "_law_busy" (defArgs s_law_busy) (defBody s_law_busy) (defScope s_law_busy) .none kV29 dc29 pm29 an29 cd29 ct29), sl29⟩) (c29 : PySem.W.codeIn K cd29 "_law_busy" = true) (k29 : PySem.W.keepIn K (.ref f29) = true)
    (a30 : PySem.W.nsIn K mainGlobals "_law_boxes" = some (some (.ref f30))) (l30 : K.lookup f30 = some ⟨oc30, od30, .func (PySem.W.fnOf "_law_boxes" "_law_boxes" (defArgs s_law_boxes) (defBody s_law_boxes) (defScope s_law_boxes) .none kV30 dc30 pm30 an30 cd30 ct30), sl30⟩) (c30 : PySem.W.codeIn K cd30 "_law_boxes" = true) (k30 : PySem.W.keepIn K (.ref f30) = true)
    (a31 : PySem.W.nsIn K mainGlobals "_law_counts" = some (some (.ref f31))) (l31 : K.lookup f31 = some ⟨oc31, od31, .func (PySem.W.fnOf "_law_counts" "_law_counts" (defArgs s_law_counts) (defBody s_law_counts) (defScope s_law_counts) .none kV31 dc31 pm31 an31 cd31 ct31), sl31⟩) (c31 : PySem.W.codeIn K cd31 "_law_counts" = true) (k31 : PySem.W.keepIn K (.ref f31) = true)
    (a32 : PySem.W.nsIn K mainGlobals "_law_prices" = some (some (.ref f32))) (l32 : K.lookup f32 = some ⟨oc32, od32, .func (PySem.W.fnOf "_law_prices" "_law_prices" (defArgs s_law_prices) (defBody s_law_prices) (defScope s_law_prices) .none kV32 dc32 pm32 an32 cd32 ct32), sl32⟩) (c32 : PySem.W.codeIn K cd32 "_law_prices" = true) (k32 : PySem.W.keepIn K (.ref f32) = true)
    (a33 : PySem.W.nsIn K mainGlobals "_law_cost" = some (some (.ref f33))) (l33 : K.lookup f33 = some ⟨oc33, od33, .func (PySem.W.fnOf "_law_cost" "_law_cost" (defArgs s_law_cost) (defBody s_law_cost) (defScope s_law_cost) .none kV33 dc33 pm33 an33 cd33 ct33), sl33⟩) (c33 : PySem.W.codeIn K cd33 "_law_cost" = true) (k33 : PySem.W.keepIn K (.ref f33) = true)
    (a34 : PySem.W.nsIn K mainGlobals "_law_lists" = some (some (.ref f34))) (l34 : K.lookup f34 = some ⟨oc34, od34, .func (PySem.W.fnOf "_law_lists" "_law_lists" (defArgs s_law_lists) (defBody s_law_lists) (defScope s_law_lists) .none kV34 dc34 pm34 an34 cd34 ct34), sl34⟩) (c34 : PySem.W.codeIn K cd34 "_law_lists" = true) (k34 : PySem.W.keepIn K (.ref f34) = true)
    (a35 : PySem.W.nsIn K mainGlobals "_law_cheapest" = some (some (.ref f35))) (l35 : K.lookup f35 = some ⟨oc35, od35, .func (PySem.W.fnOf "_law_cheapest" "_law_cheapest" (defArgs s_law_cheapest) (defBody s_law_cheapest) (defScope s_law_cheapest) .none kV35 dc35 pm35 an35 cd35 ct35), sl35⟩) (c35 : PySem.W.codeIn K cd35 "_law_cheapest" = true) (k35 : PySem.W.keepIn K (.ref f35) = true)
    (a36 : PySem.W.nsIn K mainGlobals "_law_shut" = some (some (.ref f36))) (l36 : K.lookup f36 = some ⟨oc36, od36, .func (PySem.W.fnOf "_law_shut" "_law_shut" (defArgs s_law_shut) (defBody s_law_shut) (defScope s_law_shut) .none kV36 dc36 pm36 an36 cd36 ct36), sl36⟩) (c36 : PySem.W.codeIn K cd36 "_law_shut" = true) (k36 : PySem.W.keepIn K (.ref f36) = true)
    (a37 : PySem.W.nsIn K mainGlobals "law" = some (some (.ref f37))) (l37 : K.lookup f37 = some ⟨oc37, od37, .func (PySem.W.fnOf "law" "law" (defArgs slaw) (defBody slaw) (defScope slaw) .none kV37 dc37 pm37 an37 cd37 ct37), sl37⟩) (c37 : PySem.W.codeIn K cd37 "law" = true) (k37 : PySem.W.keepIn K (.ref f37) = true)
    (z0 : PySem.W.nsIn K mainGlobals "list" = some none)
    (z1 : PySem.W.nsIn K mainGlobals "dict" = some none)
    (z2 : PySem.W.nsIn K mainGlobals "len" = some none)
    (z3 : PySem.W.nsIn K mainGlobals "sorted" = some none)
    (z4 : PySem.W.nsIn K mainGlobals "enumerate" = some none)
    (z5 : PySem.W.nsIn K mainGlobals "range" = some none)
    (z6 : PySem.W.nsIn K mainGlobals "int" = some none)
    (z7 : PySem.W.nsIn K mainGlobals "abs" = some none)
    (z8 : PySem.W.nsIn K mainGlobals "max" = some none)
    (z9 : PySem.W.nsIn K mainGlobals "any" = some none)
    (z10 : PySem.W.nsIn K mainGlobals "set" = some none)
    (z11 : PySem.W.nsIn K mainGlobals "zip" = some none)
    (z12 : PySem.W.nsIn K mainGlobals "min" = some none)
    (z13 : PySem.W.nsIn K mainGlobals "isinstance" = some none)
    (z14 : PySem.W.nsIn K mainGlobals "bool" = some none)
    (y0 : PySem.W.nsIn K mainGlobals "DOOR" = some (some (.int (-1) tk0)))
    {CF gF0 gF1 gF2 gF3 gF4 gF5 gF6 : Addr} {modF0 manF0 modF1 manF1 modF2 manF2 modF3 manF3 modF4 manF4 modF5 manF5 modF6 manF6 : Option Addr} {mslF0 mslF1 mslF2 mslF3 mslF4 mslF5 mslF6 : Array (Option Value)} {mocF0 mkVF0 mdcF0 mpmF0 mcdF0 mctF0 mocF1 mkVF1 mdcF1 mpmF1 mcdF1 mctF1 mocF2 mkVF2 mdcF2 mpmF2 mcdF2 mctF2 mocF3 mkVF3 mdcF3 mpmF3 mcdF3 mctF3 mocF4 mkVF4 mdcF4 mpmF4 mcdF4 mctF4 mocF5 mkVF5 mdcF5 mpmF5 mcdF5 mctF5 mocF6 mkVF6 mdcF6 mpmF6 mcdF6 mctF6 : Value}
    (aF : PySem.W.nsIn K mainGlobals "Flow" = some (some (.ref CF)))
    (pgF : PySem.W.plainGet K CF Str.empty = true)
    (hdF : PySem.W.hasDictIn K CF = true)
    (poF : PySem.W.plainOver K CF = true)
    (saF : PySem.W.findIn K (.ref CF) "__setattr__" = some (some (.builtin "object.__setattr__")))
    (mkF : PySem.W.makesIn K CF = true)
    (kpF : PySem.W.keepIn K (.ref CF) = true)
    (nAF0 : PySem.W.findIn K (.ref CF) "ways" = some none)
    (nAF1 : PySem.W.findIn K (.ref CF) "many" = some none)
    (nAF2 : PySem.W.findIn K (.ref CF) "shut" = some none)
    (nAF3 : PySem.W.findIn K (.ref CF) "most" = some none)
    (nAF4 : PySem.W.findIn K (.ref CF) "least" = some none)
    (nAF5 : PySem.W.findIn K (.ref CF) "along" = some none)
    (nAF6 : PySem.W.findIn K (.ref CF) "touching" = some none)
    (mtF0 : PySem.W.findIn K (.ref CF) "room" = some (some (.ref gF0)))
    (msF0 : PySem.W.isFn K (.ref gF0) = true)
    (mkF0 : PySem.W.keepIn K (.ref gF0) = true)
    (mlF0 : K.lookup gF0 = some ⟨mocF0, modF0, .func (PySem.W.fnOf "room" "Flow.room" (defArgs sFlow_room) (defBody sFlow_room) (defScope sFlow_room) .none mkVF0 mdcF0 mpmF0 manF0 mcdF0 mctF0), mslF0⟩)
    (mcF0 : PySem.W.codeIn K mcdF0 "Flow.room" = true)
    (mtF1 : PySem.W.findIn K (.ref CF) "other" = some (some (.ref gF1)))
    (msF1 : PySem.W.isFn K (.ref gF1) = true)
    (mkF1 : PySem.W.keepIn K (.ref gF1) = true)
    (mlF1 : K.lookup gF1 = some ⟨mocF1, modF1, .func (PySem.W.fnOf "other" "Flow.other" (defArgs sFlow_other) (defBody sFlow_other) (defScope sFlow_other) .none mkVF1 mdcF1 mpmF1 manF1 mcdF1 mctF1), mslF1⟩)
    (mcF1 : PySem.W.codeIn K mcdF1 "Flow.other" = true)
    (mtF2 : PySem.W.findIn K (.ref CF) "reach" = some (some (.ref gF2)))
    (msF2 : PySem.W.isFn K (.ref gF2) = true)
    (mkF2 : PySem.W.keepIn K (.ref gF2) = true)
    (mlF2 : K.lookup gF2 = some ⟨mocF2, modF2, .func (PySem.W.fnOf "reach" "Flow.reach" (defArgs sFlow_reach) (defBody sFlow_reach) (defScope sFlow_reach) .none mkVF2 mdcF2 mpmF2 manF2 mcdF2 mctF2), mslF2⟩)
    (mcF2 : PySem.W.codeIn K mcdF2 "Flow.reach" = true)
    (mtF3 : PySem.W.findIn K (.ref CF) "push" = some (some (.ref gF3)))
    (msF3 : PySem.W.isFn K (.ref gF3) = true)
    (mkF3 : PySem.W.keepIn K (.ref gF3) = true)
    (mlF3 : K.lookup gF3 = some ⟨mocF3, modF3, .func (PySem.W.fnOf "push" "Flow.push" (defArgs sFlow_push) (defBody sFlow_push) (defScope sFlow_push) .none mkVF3 mdcF3 mpmF3 manF3 mcdF3 mctF3), mslF3⟩)
    (mcF3 : PySem.W.codeIn K mcdF3 "Flow.push" = true)
    (mtF4 : PySem.W.findIn K (.ref CF) "fill" = some (some (.ref gF4)))
    (msF4 : PySem.W.isFn K (.ref gF4) = true)
    (mkF4 : PySem.W.keepIn K (.ref gF4) = true)
    (mlF4 : K.lookup gF4 = some ⟨mocF4, modF4, .func (PySem.W.fnOf "fill" "Flow.fill" (defArgs sFlow_fill) (defBody sFlow_fill) (defScope sFlow_fill) .none mkVF4 mdcF4 mpmF4 manF4 mcdF4 mctF4), mslF4⟩)
    (mcF4 : PySem.W.codeIn K mcdF4 "Flow.fill" = true)
    (mtF5 : PySem.W.findIn K (.ref CF) "amount" = some (some (.ref gF5)))
    (msF5 : PySem.W.isFn K (.ref gF5) = true)
    (mkF5 : PySem.W.keepIn K (.ref gF5) = true)
    (mlF5 : K.lookup gF5 = some ⟨mocF5, modF5, .func (PySem.W.fnOf "amount" "Flow.amount" (defArgs sFlow_amount) (defBody sFlow_amount) (defScope sFlow_amount) .none mkVF5 mdcF5 mpmF5 manF5 mcdF5 mctF5), mslF5⟩)
    (mcF5 : PySem.W.codeIn K mcdF5 "Flow.amount" = true)
    (mtF6 : PySem.W.findIn K (.ref CF) "__init__" = some (some (.ref gF6)))
    (msF6 : PySem.W.isFn K (.ref gF6) = true)
    (mkF6 : PySem.W.keepIn K (.ref gF6) = true)
    (mlF6 : K.lookup gF6 = some ⟨mocF6, modF6, .func (PySem.W.fnOf "__init__" "Flow.__init__" (defArgs sFlow_init) (defBody sFlow_init) (defScope sFlow_init) .none mkVF6 mdcF6 mpmF6 manF6 mcdF6 mctF6), mslF6⟩)
    (mcF6 : PySem.W.codeIn K mcdF6 "Flow.__init__" = true)
    : ∃ fd : FuncData, (∀ (s : Shared) (v : Value), BindsTo s fd ⟨[v], []⟩ [("_law_script", v)]) ∧ ∀ base : Heap, K.In base → base.Ns mainGlobals mg → (∃ mm, base.Ns sysModules mm) → GOk l.prog w K mg base 10 fa fd ["_law_script"] (spD K 1 splaw) := by
  have e := hfa.symm.trans (PySem.W.mg_of X G a37)
  cases e
  have F1 := fun_mk (st := snexts_of) l1 c1 k1
  have b1 := F1.binds (ps := ["work"]) fun _ _ _ _ _ _ us hl => match us, hl with | [_], _ => rfl
  have F2 := fun_mk (st := scome_to) l2 c2 k2
  have b2 := F2.binds (ps := ["nexts", "begins"]) fun _ _ _ _ _ _ us hl => match us, hl with | [_, _], _ => rfl
  have F3 := fun_mk (st := sways_of) l3 c3 k3
  have b3 := F3.binds (ps := ["work"]) fun _ _ _ _ _ _ us hl => match us, hl with | [_], _ => rfl
  have F4 := fun_mk (st := sboxes_written) l4 c4 k4
  have b4 := F4.binds (ps := ["deeds"]) fun _ _ _ _ _ _ us hl => match us, hl with | [_], _ => rfl
  have F5 := fun_mk (st := sboxes_read) l5 c5 k5
  have b5 := F5.binds (ps := ["deed", "asked"]) fun _ _ _ _ _ _ us hl => match us, hl with | [_, _], _ => rfl
  have F6 := fun_mk (st := sfirst_touch) l6 c6 k6
  have b6 := F6.binds (ps := ["deeds", "box", "asked"]) fun _ _ _ _ _ _ us hl => match us, hl with | [_, _, _], _ => rfl
  have F7 := fun_mk (st := sbackwards) l7 c7 k7
  have b7 := F7.binds (ps := ["nexts"]) fun _ _ _ _ _ _ us hl => match us, hl with | [_], _ => rfl
  have F8 := fun_mk (st := sawaiting) l8 c8 k8
  have b8 := F8.binds (ps := ["work", "box", "asked"]) fun _ _ _ _ _ _ us hl => match us, hl with | [_, _, _], _ => rfl
  have F9 := fun_mk (st := sasked_by) l9 c9 k9
  have b9 := F9.binds (ps := ["works", "box"]) fun _ _ _ _ _ _ us hl => match us, hl with | [_, _], _ => rfl
  have F10 := fun_mk (st := sawaited) l10 c10 k10
  have b10 := F10.binds (ps := ["works", "number", "box"]) fun _ _ _ _ _ _ us hl => match us, hl with | [_, _, _], _ => rfl
  have F11 := fun_mk (st := swriting) l11 c11 k11
  have b11 := F11.binds (ps := ["work", "box"]) fun _ _ _ _ _ _ us hl => match us, hl with | [_, _], _ => rfl
  have F12 := fun_mk (st := sreached) l12 c12 k12
  have b12 := F12.binds (ps := ["works", "number", "box"]) fun _ _ _ _ _ _ us hl => match us, hl with | [_, _, _], _ => rfl
  have F13 := fun_mk (st := sbusy) l13 c13 k13
  have b13 := F13.binds (ps := ["works", "number", "box"]) fun _ _ _ _ _ _ us hl => match us, hl with | [_, _, _], _ => rfl
  have F14 := fun_mk (st := sfilled) l14 c14 k14
  have b14 := F14.binds (ps := ["works", "number", "box", "counts", "prices", "shut"]) fun _ _ _ _ _ _ us hl => match us, hl with | [_, _, _, _, _, _], _ => rfl
  have F15 := fun_mk (st := sleast_cost) l15 c15 k15
  have b15 := F15.binds (ps := ["works", "number", "box", "counts", "prices", "shut"]) fun _ _ _ _ _ _ us hl => match us, hl with | [_, _, _, _, _, _], _ => rfl
  have F16 := fun_mk (st := s_law_tape) l16 c16 k16
  have b16 := F16.binds (ps := ["_law_script", "_law_k"]) fun _ _ _ _ _ _ us hl => match us, hl with | [_, _], _ => rfl
  have F17 := fun_mk (st := s_law_draw) l17 c17 k17
  have b17 := F17.binds (ps := ["_law_tape_here", "_law_many"]) fun _ _ _ _ _ _ us hl => match us, hl with | [_, _], _ => rfl
  have F18 := fun_mk (st := s_law_nexts) l18 c18 k18
  have b18 := F18.binds (ps := ["_law_tape_here", "_law_many"]) fun _ _ _ _ _ _ us hl => match us, hl with | [_, _], _ => rfl
  have F19 := fun_mk (st := s_law_number) l19 c19 k19
  have b19 := F19.binds (ps := ["_law_tape_here"]) fun _ _ _ _ _ _ us hl => match us, hl with | [_], _ => rfl
  have F20 := fun_mk (st := s_law_deeds) l20 c20 k20
  have b20 := F20.binds (ps := ["_law_tape_here", "_law_most", "_law_boxes_here", "_law_first", "_law_works"]) fun _ _ _ _ _ _ us hl => match us, hl with | [_, _, _, _, _], _ => rfl
  have F21 := fun_mk (st := s_law_work) l21 c21 k21
  have b21 := F21.binds (ps := ["_law_tape_here", "_law_many", "_law_most", "_law_first", "_law_works"]) fun _ _ _ _ _ _ us hl => match us, hl with | [_, _, _, _, _], _ => rfl
  have F22 := fun_mk (st := s_law_small_works) l22 c22 k22
  have b22 := F22.binds (ps := ["_law_tape_here", "_law_most"]) fun _ _ _ _ _ _ us hl => match us, hl with | [_, _], _ => rfl
  have F23 := fun_mk (st := s_law_ends) l23 c23 k23
  have b23 := F23.binds (ps := ["_law_work_here"]) fun _ _ _ _ _ _ us hl => match us, hl with | [_], _ => rfl
  have F24 := fun_mk (st := s_law_ways) l24 c24 k24
  have b24 := F24.binds (ps := ["_law_work_here"]) fun _ _ _ _ _ _ us hl => match us, hl with | [_], _ => rfl
  have F25 := fun_mk (st := s_law_reads) l25 c25 k25
  have b25 := F25.binds (ps := ["_law_deed", "_law_box"]) fun _ _ _ _ _ _ us hl => match us, hl with | [_, _], _ => rfl
  have F26 := fun_mk (st := s_law_writes) l26 c26 k26
  have b26 := F26.binds (ps := ["_law_work_here", "_law_box"]) fun _ _ _ _ _ _ us hl => match us, hl with | [_, _], _ => rfl
  have F27 := fun_mk (st := s_law_is_asked) l27 c27 k27
  have b27 := F27.binds (ps := ["_law_works", "_law_number_here", "_law_block", "_law_box"]) fun _ _ _ _ _ _ us hl => match us, hl with | [_, _, _, _], _ => rfl
  have F28 := fun_mk (st := s_law_behind) l28 c28 k28
  have b28 := F28.binds (ps := ["_law_work_here", "_law_box"]) fun _ _ _ _ _ _ us hl => match us, hl with | [_, _], _ => rfl
  have F29 := fun_mk (st := s_law_busy) l29 c29 k29
  have b29 := F29.binds (ps := ["_law_works", "_law_number_here", "_law_box"]) fun _ _ _ _ _ _ us hl => match us, hl with | [_, _, _], _ => rfl
  have F30 := fun_mk (st := s_law_boxes) l30 c30 k30
  have b30 := F30.binds (ps := ["_law_work_here"]) fun _ _ _ _ _ _ us hl => match us, hl with | [_], _ => rfl
  have F31 := fun_mk (st := s_law_counts) l31 c31 k31
  have b31 := F31.binds (ps := ["_law_tape_here", "_law_work_here"]) fun _ _ _ _ _ _ us hl => match us, hl with | [_, _], _ => rfl
  have F32 := fun_mk (st := s_law_prices) l32 c32 k32
  have b32 := F32.binds (ps := ["_law_tape_here"]) fun _ _ _ _ _ _ us hl => match us, hl with | [_], _ => rfl
  have F33 := fun_mk (st := s_law_cost) l33 c33 k33
  have b33 := F33.binds (ps := ["_law_work_here", "_law_inside", "_law_many", "_law_prices_here", "_law_shut_here"]) fun _ _ _ _ _ _ us hl => match us, hl with | [_, _, _, _, _], _ => rfl
  have F34 := fun_mk (st := s_law_lists) l34 c34 k34
  have b34 := F34.binds (ps := ["_law_work_here", "_law_some"]) fun _ _ _ _ _ _ us hl => match us, hl with | [_, _], _ => rfl
  have F35 := fun_mk (st := s_law_cheapest) l35 c35 k35
  have b35 := F35.binds (ps := ["_law_works", "_law_number_here", "_law_box", "_law_counts_here", "_law_prices_here", "_law_shut_here"]) fun _ _ _ _ _ _ us hl => match us, hl with | [_, _, _, _, _, _], _ => rfl
  have F36 := fun_mk (st := s_law_shut) l36 c36 k36
  have b36 := F36.binds (ps := ["_law_tape_here", "_law_work_here"]) fun _ _ _ _ _ _ us hl => match us, hl with | [_, _], _ => rfl
  have F37 := fun_mk (st := slaw) l37 c37 k37
  have zz0 := PySem.W.mg_none_of X G z0
  have zz1 := PySem.W.mg_none_of X G z1
  have zz2 := PySem.W.mg_none_of X G z2
  have zz3 := PySem.W.mg_none_of X G z3
  have zz4 := PySem.W.mg_none_of X G z4
  have zz5 := PySem.W.mg_none_of X G z5
  have zz6 := PySem.W.mg_none_of X G z6
  have zz7 := PySem.W.mg_none_of X G z7
  have zz8 := PySem.W.mg_none_of X G z8
  have zz9 := PySem.W.mg_none_of X G z9
  have zz10 := PySem.W.mg_none_of X G z10
  have zz11 := PySem.W.mg_none_of X G z11
  have zz12 := PySem.W.mg_none_of X G z12
  have zz13 := PySem.W.mg_none_of X G z13
  have zz14 := PySem.W.mg_none_of X G z14
  have yy0 := PySem.W.mg_of X G y0
  have fc : FlC K CF := ⟨⟨pgF, hdF, poF, saF⟩, nAF0, nAF1, nAF2, nAF3, nAF4, nAF5, nAF6⟩
  have GF0 := fun_mk (st := sFlow_room) mlF0 mcF0 mkF0
  have bmF0 := GF0.binds (ps := ["self", "way", "block"]) fun _ _ _ _ _ _ us hl => match us, hl with | [_, _, _], _ => rfl
  have MF0 : Meth K CF "room" gF0 := ⟨mtF0, msF0, mkF0⟩
  have GF1 := fun_mk (st := sFlow_other) mlF1 mcF1 mkF1
  have bmF1 := GF1.binds (ps := ["self", "way", "block"]) fun _ _ _ _ _ _ us hl => match us, hl with | [_, _, _], _ => rfl
  have MF1 : Meth K CF "other" gF1 := ⟨mtF1, msF1, mkF1⟩
  have GF2 := fun_mk (st := sFlow_reach) mlF2 mcF2 mkF2
  have bmF2 := GF2.binds (ps := ["self", "begins"]) fun _ _ _ _ _ _ us hl => match us, hl with | [_, _], _ => rfl
  have MF2 : Meth K CF "reach" gF2 := ⟨mtF2, msF2, mkF2⟩
  have GF3 := fun_mk (st := sFlow_push) mlF3 mcF3 mkF3
  have bmF3 := GF3.binds (ps := ["self", "came"]) fun _ _ _ _ _ _ us hl => match us, hl with | [_, _], _ => rfl
  have MF3 : Meth K CF "push" gF3 := ⟨mtF3, msF3, mkF3⟩
  have GF4 := fun_mk (st := sFlow_fill) mlF4 mcF4 mkF4
  have bmF4 := GF4.binds (ps := ["self", "begins"]) fun _ _ _ _ _ _ us hl => match us, hl with | [_, _], _ => rfl
  have MF4 : Meth K CF "fill" gF4 := ⟨mtF4, msF4, mkF4⟩
  have GF5 := fun_mk (st := sFlow_amount) mlF5 mcF5 mkF5
  have bmF5 := GF5.binds (ps := ["self"]) fun _ _ _ _ _ _ us hl => match us, hl with | [_], _ => rfl
  have MF5 : Meth K CF "amount" gF5 := ⟨mtF5, msF5, mkF5⟩
  have GF6 := fun_mk (st := sFlow_init) mlF6 mcF6 mkF6
  have bmF6 := GF6.binds (ps := ["self", "work", "counts", "prices", "shut"]) fun _ _ _ _ _ _ us hl => match us, hl with | [_, _, _, _, _], _ => rfl
  have S17 : ∀ base : Heap, (∃ mm, base.Ns sysModules mm) → Fs l.prog w K mg base 1 "_law_draw" 2 sp_law_draw := fun base hs => ok_law_draw F17 (PySem.W.mg_of X G a17) b17
  have S23 : ∀ base : Heap, (∃ mm, base.Ns sysModules mm) → Fs l.prog w K mg base 1 "_law_ends" 1 sp_law_ends := fun base hs => ok_law_ends F23 (PySem.W.mg_of X G a23) b23 (by intro x hx; rw [List.mem_singleton] at hx; subst hx; exact zz0)
  have S34 : ∀ base : Heap, (∃ mm, base.Ns sysModules mm) → Fs l.prog w K mg base 1 "_law_lists" 2 sp_law_lists := fun base hs => ok_law_lists F34 (PySem.W.mg_of X G a34) b34 (by intro x hx; simp only [List.mem_cons, List.not_mem_nil, or_false] at hx; rcases hx with rfl | rfl | rfl | rfl; exact zz0; exact zz5; exact zz2; exact zz3)
  have S25 : ∀ base : Heap, (∃ mm, base.Ns sysModules mm) → Fs l.prog w K mg base 1 "_law_reads" 2 sp_law_reads := fun base hs => ok_law_reads F25 (PySem.W.mg_of X G a25) b25
  have S16 : ∀ base : Heap, (∃ mm, base.Ns sysModules mm) → Fs l.prog w K mg base 1 "_law_tape" 2 sp_law_tape := fun base hs => ok_law_tape F16 (PySem.W.mg_of X G a16) b16 (by intro x hx; simp only [List.mem_cons, List.not_mem_nil, or_false] at hx; rcases hx with rfl | rfl | rfl; exact zz2; exact zz7; exact zz6)
  have S26 : ∀ base : Heap, (∃ mm, base.Ns sysModules mm) → Fs l.prog w K mg base 1 "_law_writes" 2 sp_law_writes := fun base hs => ok_law_writes F26 (PySem.W.mg_of X G a26) b26 (by intro x hx; simp only [List.mem_cons, List.not_mem_nil, or_false] at hx; rcases hx with rfl | rfl | rfl; exact zz5; exact zz2; exact zz9)
  have S7 : ∀ base : Heap, (∃ mm, base.Ns sysModules mm) → Fs l.prog w K mg base 1 "backwards" 1 spbackwards := fun base hs => okbackwards F7 (PySem.W.mg_of X G a7) b7 (by intro x hx; simp only [List.mem_cons, List.not_mem_nil, or_false] at hx; rcases hx with rfl | rfl; exact zz5; exact zz2)
  have S5 : ∀ base : Heap, (∃ mm, base.Ns sysModules mm) → Fs l.prog w K mg base 1 "boxes_read" 2 spboxes_read := fun base hs => okboxes_read F5 (PySem.W.mg_of X G a5) b5
  have S4 : ∀ base : Heap, (∃ mm, base.Ns sysModules mm) → Fs l.prog w K mg base 1 "boxes_written" 1 spboxes_written := fun base hs => okboxes_written F4 (PySem.W.mg_of X G a4) b4
  have S2 : ∀ base : Heap, (∃ mm, base.Ns sysModules mm) → Fs l.prog w K mg base 1 "come_to" 2 spcome_to := fun base hs => okcome_to F2 (PySem.W.mg_of X G a2) b2 (by intro x hx; simp only [List.mem_cons, List.not_mem_nil, or_false] at hx; rcases hx with rfl | rfl | rfl | rfl; exact zz1; exact zz0; exact zz2; exact zz3)
  have S1 : ∀ base : Heap, (∃ mm, base.Ns sysModules mm) → Fs l.prog w K mg base 1 "nexts_of" 1 spnexts_of := fun base hs => oknexts_of F1 (PySem.W.mg_of X G a1) b1 (by intro x hx; rw [List.mem_singleton] at hx; subst hx; exact zz0)
  have T5 : ∀ base : Heap, (∃ mm, base.Ns sysModules mm) → Ms l.prog w K mg base 1 CF "amount" 0 (spamount K CF) := fun base hs => okamount GF5 bmF5 MF5 fc ⟨_, yy0⟩
  have T1 : ∀ base : Heap, (∃ mm, base.Ns sysModules mm) → Ms l.prog w K mg base 1 CF "other" 2 (spother K CF) := fun base hs => okother GF1 bmF1 MF1 fc ⟨_, yy0⟩
  have T0 : ∀ base : Heap, (∃ mm, base.Ns sysModules mm) → Ms l.prog w K mg base 1 CF "room" 2 (sproom K CF) := fun base hs => okroom GF0 bmF0 MF0 fc
  have S28 : ∀ base : Heap, (∃ mm, base.Ns sysModules mm) → Fs l.prog w K mg base 2 "_law_behind" 2 sp_law_behind := fun base hs => ok_law_behind F28 (PySem.W.mg_of X G a28) b28 (by intro x hx; simp only [List.mem_cons, List.not_mem_nil, or_false] at hx; rcases hx with rfl | rfl | rfl | rfl | rfl; exact zz5; exact zz2; exact zz0; exact zz3; exact zz10) (S23 base hs) (S26 base hs)
  have S30 : ∀ base : Heap, (∃ mm, base.Ns sysModules mm) → Fs l.prog w K mg base 2 "_law_boxes" 1 sp_law_boxes := fun base hs => ok_law_boxes F30 (PySem.W.mg_of X G a30) b30 (by intro x hx; rw [List.mem_singleton] at hx; subst hx; exact zz5) (S26 base hs)
  have S27 : ∀ base : Heap, (∃ mm, base.Ns sysModules mm) → Fs l.prog w K mg base 2 "_law_is_asked" 4 sp_law_is_asked := fun base hs => ok_law_is_asked F27 (PySem.W.mg_of X G a27) b27 (S25 base hs)
  have S18 : ∀ base : Heap, (∃ mm, base.Ns sysModules mm) → Fs l.prog w K mg base 2 "_law_nexts" 2 sp_law_nexts := fun base hs => ok_law_nexts F18 (PySem.W.mg_of X G a18) b18 (by intro x hx; simp only [List.mem_cons, List.not_mem_nil, or_false] at hx; rcases hx with rfl | rfl; exact zz5; exact zz8) (S17 base hs)
  have S19 : ∀ base : Heap, (∃ mm, base.Ns sysModules mm) → Fs l.prog w K mg base 2 "_law_number" 1 sp_law_number := fun base hs => ok_law_number F19 (PySem.W.mg_of X G a19) b19 (S17 base hs)
  have S32 : ∀ base : Heap, (∃ mm, base.Ns sysModules mm) → Fs l.prog w K mg base 2 "_law_prices" 1 sp_law_prices := fun base hs => ok_law_prices F32 (PySem.W.mg_of X G a32) b32 (S17 base hs)
  have S24 : ∀ base : Heap, (∃ mm, base.Ns sysModules mm) → Fs l.prog w K mg base 2 "_law_ways" 1 sp_law_ways := fun base hs => ok_law_ways F24 (PySem.W.mg_of X G a24) b24 (by intro x hx; simp only [List.mem_cons, List.not_mem_nil, or_false] at hx; rcases hx with rfl | rfl | rfl | rfl; exact zz4; exact zz3; exact zz2; exact zz6) (S23 base hs)
  have S6 : ∀ base : Heap, (∃ mm, base.Ns sysModules mm) → Fs l.prog w K mg base 2 "first_touch" 3 spfirst_touch := fun base hs => okfirst_touch F6 (PySem.W.mg_of X G a6) b6 (S5 base hs) (S4 base hs)
  have S3 : ∀ base : Heap, (∃ mm, base.Ns sysModules mm) → Fs l.prog w K mg base 2 "ways_of" 1 spways_of := fun base hs => okways_of F3 (PySem.W.mg_of X G a3) b3 (by intro x hx; simp only [List.mem_cons, List.not_mem_nil, or_false] at hx; rcases hx with rfl | rfl | rfl; exact zz4; exact zz3; exact zz2) ⟨_, yy0⟩ (S1 base hs)
  have S11 : ∀ base : Heap, (∃ mm, base.Ns sysModules mm) → Fs l.prog w K mg base 2 "writing" 2 spwriting := fun base hs => okwriting F11 (PySem.W.mg_of X G a11) b11 (by intro x hx; rw [List.mem_singleton] at hx; subst hx; exact zz4) (S4 base hs)
  have T3 : ∀ base : Heap, (∃ mm, base.Ns sysModules mm) → Ms l.prog w K mg base 2 CF "push" 1 (sppush K CF) := fun base hs => okpush GF3 bmF3 MF3 fc ⟨_, yy0⟩ (by intro x hx; rw [List.mem_singleton] at hx; subst hx; exact zz12) (T0 base hs)
  have T2 : ∀ base : Heap, (∃ mm, base.Ns sysModules mm) → Ms l.prog w K mg base 2 CF "reach" 1 (spreach K CF) := fun base hs => okreach GF2 bmF2 MF2 fc ⟨_, yy0⟩ (by intro x hx; simp only [List.mem_cons, List.not_mem_nil, or_false] at hx; rcases hx with rfl | rfl | rfl; exact zz1; exact zz0; exact zz5) (T0 base hs) (T1 base hs)
  have S29 : ∀ base : Heap, (∃ mm, base.Ns sysModules mm) → Fs l.prog w K mg base 3 "_law_busy" 3 sp_law_busy := fun base hs => ok_law_busy F29 (PySem.W.mg_of X G a29) b29 (by intro x hx; simp only [List.mem_cons, List.not_mem_nil, or_false] at hx; rcases hx with rfl | rfl; exact zz3; exact zz10) (S28 base hs) (S27 base hs) (S26 base hs)
  have S33 : ∀ base : Heap, (∃ mm, base.Ns sysModules mm) → Fs l.prog w K mg base 3 "_law_cost" 5 sp_law_cost := fun base hs => ok_law_cost F33 (PySem.W.mg_of X G a33) b33 (by intro x hx; rw [List.mem_singleton] at hx; subst hx; exact zz6) (S24 base hs)
  have S31 : ∀ base : Heap, (∃ mm, base.Ns sysModules mm) → Fs l.prog w K mg base 3 "_law_counts" 2 sp_law_counts := fun base hs => ok_law_counts F31 (PySem.W.mg_of X G a31) b31 (S17 base hs) (S24 base hs)
  have S20 : ∀ base : Heap, (∃ mm, base.Ns sysModules mm) → Fs l.prog w K mg base 3 "_law_deeds" 5 sp_law_deeds := fun base hs => ok_law_deeds F20 (PySem.W.mg_of X G a20) b20 (by intro x hx; simp only [List.mem_cons, List.not_mem_nil, or_false] at hx; rcases hx with rfl | rfl | rfl; exact zz5; exact zz6; exact zz2) (S17 base hs) (S19 base hs)
  have S36 : ∀ base : Heap, (∃ mm, base.Ns sysModules mm) → Fs l.prog w K mg base 3 "_law_shut" 2 sp_law_shut := fun base hs => ok_law_shut F36 (PySem.W.mg_of X G a36) b36 (S17 base hs) (S24 base hs)
  have S8 : ∀ base : Heap, (∃ mm, base.Ns sysModules mm) → Fs l.prog w K mg base 3 "awaiting" 3 spawaiting := fun base hs => okawaiting F8 (PySem.W.mg_of X G a8) b8 (by intro x hx; rw [List.mem_singleton] at hx; subst hx; exact zz4) (S6 base hs) (S1 base hs) (S7 base hs) (S2 base hs)
  have S12 : ∀ base : Heap, (∃ mm, base.Ns sysModules mm) → Fs l.prog w K mg base 3 "reached" 3 spreached := fun base hs => okreached F12 (PySem.W.mg_of X G a12) b12 (by intro x hx; rw [List.mem_singleton] at hx; subst hx; exact zz3) (S1 base hs) (S11 base hs) (S2 base hs)
  have T4 : ∀ base : Heap, (∃ mm, base.Ns sysModules mm) → Ms l.prog w K mg base 3 CF "fill" 1 (spfill K CF) := fun base hs => okfill GF4 bmF4 MF4 fc ⟨_, yy0⟩ (T2 base hs) (T3 base hs)
  have TK : ∀ base : Heap, (∃ mm, base.Ns sysModules mm) → Mks l.prog w K mg base 3 "Flow" CF 4 (spFinit K CF) := fun base hs => ⟨gF6, _, ["self", "work", "counts", "prices", "shut"], PySem.W.mg_of X G aF, ⟨mkF, mtF6, msF6, kpF⟩, bmF6, rfl, okFinit GF6 (by intro x hx; simp only [List.mem_cons, List.not_mem_nil, or_false] at hx; rcases hx with rfl | rfl | rfl | rfl; exact zz2; exact zz11; exact zz1; exact zz5) (S3 base hs)⟩
  have S35 : ∀ base : Heap, (∃ mm, base.Ns sysModules mm) → Fs l.prog w K mg base 4 "_law_cheapest" 6 sp_law_cheapest := fun base hs => ok_law_cheapest F35 (PySem.W.mg_of X G a35) b35 (by intro x hx; simp only [List.mem_cons, List.not_mem_nil, or_false] at hx; rcases hx with rfl | rfl; exact zz1; exact zz11) (S24 base hs) (S34 base hs) (S29 base hs) (S33 base hs)
  have S21 : ∀ base : Heap, (∃ mm, base.Ns sysModules mm) → Fs l.prog w K mg base 4 "_law_work" 5 sp_law_work := fun base hs => ok_law_work F21 (PySem.W.mg_of X G a21) b21 (by intro x hx; simp only [List.mem_cons, List.not_mem_nil, or_false] at hx; rcases hx with rfl | rfl | rfl; exact zz0; exact zz5; exact zz2) (S17 base hs) (S18 base hs) (S20 base hs)
  have S9 : ∀ base : Heap, (∃ mm, base.Ns sysModules mm) → Fs l.prog w K mg base 4 "asked_by" 2 spasked_by := fun base hs => okasked_by F9 (PySem.W.mg_of X G a9) b9 (by intro x hx; rw [List.mem_singleton] at hx; subst hx; exact zz6) (S8 base hs)
  have S22 : ∀ base : Heap, (∃ mm, base.Ns sysModules mm) → Fs l.prog w K mg base 5 "_law_small_works" 2 sp_law_small_works := fun base hs => ok_law_small_works F22 (PySem.W.mg_of X G a22) b22 (by intro x hx; rw [List.mem_singleton] at hx; subst hx; exact zz5) (S17 base hs) (S21 base hs)
  have S10 : ∀ base : Heap, (∃ mm, base.Ns sysModules mm) → Fs l.prog w K mg base 5 "awaited" 3 spawaited := fun base hs => okawaited F10 (PySem.W.mg_of X G a10) b10 (S8 base hs) (S9 base hs)
  have S13 : ∀ base : Heap, (∃ mm, base.Ns sysModules mm) → Fs l.prog w K mg base 6 "busy" 3 spbusy := fun base hs => okbusy F13 (PySem.W.mg_of X G a13) b13 (by intro x hx; rw [List.mem_singleton] at hx; subst hx; exact zz3) (S11 base hs) (S10 base hs) (S12 base hs)
  have S14 : ∀ base : Heap, (∃ mm, base.Ns sysModules mm) → Fs l.prog w K mg base 7 "filled" 6 (spfilled K CF) := fun base hs => okfilled F14 (PySem.W.mg_of X G a14) b14 fc (TK base hs) (T4 base hs) (S13 base hs)
  have S15 : ∀ base : Heap, (∃ mm, base.Ns sysModules mm) → Fs l.prog w K mg base 8 "least_cost" 6 (spleast_cost K CF) := fun base hs => okleast_cost F15 (PySem.W.mg_of X G a15) b15 fc (S14 base hs) (T5 base hs)
  exact ⟨PySem.W.fnOf "law" "law" (defArgs slaw) (defBody slaw) (defScope slaw) .none kV37 dc37 pm37 an37 cd37 ct37, fun s v => .of_eq rfl, fun base _ _ hs => oklaw F37 (by intro x hx; simp only [List.mem_cons, List.not_mem_nil, or_false] at hx; rcases hx with rfl | rfl | rfl | rfl | rfl | rfl | rfl | rfl; exact zz5; exact zz8; exact zz12; exact zz2; exact zz4; exact zz6; exact zz13; exact zz14) (S16 base hs) (S22 base hs) (S30 base hs) (S31 base hs) (S32 base hs) (S36 base hs) (S24 base hs) (S17 base hs) (S35 base hs) (S15 base hs) fc hs⟩
end Gen

open PySem PySem.W PyProof.Rows in
set_option maxRecDepth 100000 in
set_option maxHeartbeats 0 in
theorem PySem.Challenge.cw_fewsaves_k42_what_the_cheapest_costs_holds : PySem.Challenge.rw_fewsaves_k42_what_the_cheapest_costs.Holds := by
  w_on; o_law; k_head; (case hw => w_witness2)
  k_fill
  refine DL.walk_g (l := PySem.Challenge.rw_fewsaves_k42_what_the_cheapest_costs) (n := 63) (k := 10) (x := "_law_script") (G := Gen.splaw) rfl (by decide) (by decide +kernel) rfl ⟨rfl, by decide, by decide⟩ (fun w h Y => PySem.W.kIn_of Y) ?F ?G
  case G =>
    intro ns hl hb
    exact Gen.law_start ns hl hb
  case F =>
    intro w mg fa h KX G hmg
    refine' Gen.all_mk KX G hmg ?a1 ?l1 ?c1 ?k1 ?a2 ?l2 ?c2 ?k2 ?a3 ?l3 ?c3 ?k3 ?a4 ?l4 ?c4 ?k4 ?a5 ?l5 ?c5 ?k5 ?a6 ?l6 ?c6 ?k6 ?a7 ?l7 ?c7 ?k7 ?a8 ?l8 ?c8 ?k8 ?a9 ?l9 ?c9 ?k9 ?a10 ?l10 ?c10 ?k10 ?a11 ?l11 ?c11 ?k11 ?a12 ?l12 ?c12 ?k12 ?a13 ?l13 ?c13 ?k13 ?a14 ?l14 ?c14 ?k14 ?a15 ?l15 ?c15 ?k15 ?a16 ?l16 ?c16 ?k16 ?a17 ?l17 ?c17 ?k17 ?a18 ?l18 ?c18 ?k18 ?a19 ?l19 ?c19 ?k19 ?a20 ?l20 ?c20 ?k20 ?a21 ?l21 ?c21 ?k21 ?a22 ?l22 ?c22 ?k22 ?a23 ?l23 ?c23 ?k23 ?a24 ?l24 ?c24 ?k24 ?a25 ?l25 ?c25 ?k25 ?a26 ?l26 ?c26 ?k26 ?a27 ?l27 ?c27 ?k27 ?a28 ?l28 ?c28 ?k28 ?a29 ?l29 ?c29 ?k29 ?a30 ?l30 ?c30 ?k30 ?a31 ?l31 ?c31 ?k31 ?a32 ?l32 ?c32 ?k32 ?a33 ?l33 ?c33 ?k33 ?a34 ?l34 ?c34 ?k34 ?a35 ?l35 ?c35 ?k35 ?a36 ?l36 ?c36 ?k36 ?a37 ?l37 ?c37 ?k37 ?z0 ?z1 ?z2 ?z3 ?z4 ?z5 ?z6 ?z7 ?z8 ?z9 ?z10 ?z11 ?z12 ?z13 ?z14 ?y0 ?aF ?pgF ?hdF ?poF ?saF ?mkF ?kpF ?nAF0 ?nAF1 ?nAF2 ?nAF3 ?nAF4 ?nAF5 ?nAF6 ?mtF0 ?msF0 ?mkF0 ?mlF0 ?mcF0 ?mtF1 ?msF1 ?mkF1 ?mlF1 ?mcF1 ?mtF2 ?msF2 ?mkF2 ?mlF2 ?mcF2 ?mtF3 ?msF3 ?mkF3 ?mlF3 ?mcF3 ?mtF4 ?msF4 ?mkF4 ?mlF4 ?mcF4 ?mtF5 ?msF5 ?mkF5 ?mlF5 ?mcF5 ?mtF6 ?msF6 ?mkF6 ?mlF6 ?mcF6
    (case a1 => k_is)
    (case l1 => k_is)
    (case c1 => k_is)
    (case k1 => k_is)
    (case a2 => k_is)
    (case l2 => k_is)
    (case c2 => k_is)
    (case k2 => k_is)
    (case a3 => k_is)
    (case l3 => k_is)
    (case c3 => k_is)
    (case k3 => k_is)
    (case a4 => k_is)
    (case l4 => k_is)
    (case c4 => k_is)
    (case k4 => k_is)
    (case a5 => k_is)
    (case l5 => k_is)
    (case c5 => k_is)
    (case k5 => k_is)
    (case a6 => k_is)
    (case l6 => k_is)
    (case c6 => k_is)
    (case k6 => k_is)
    (case a7 => k_is)
    (case l7 => k_is)
    (case c7 => k_is)
    (case k7 => k_is)
    (case a8 => k_is)
    (case l8 => k_is)
    (case c8 => k_is)
    (case k8 => k_is)
    (case a9 => k_is)
    (case l9 => k_is)
    (case c9 => k_is)
    (case k9 => k_is)
    (case a10 => k_is)
    (case l10 => k_is)
    (case c10 => k_is)
    (case k10 => k_is)
    (case a11 => k_is)
    (case l11 => k_is)
    (case c11 => k_is)
    (case k11 => k_is)
    (case a12 => k_is)
    (case l12 => k_is)
    (case c12 => k_is)
    (case k12 => k_is)
    (case a13 => k_is)
    (case l13 => k_is)
    (case c13 => k_is)
    (case k13 => k_is)
    (case a14 => k_is)
    (case l14 => k_is)
    (case c14 => k_is)
    (case k14 => k_is)
    (case a15 => k_is)
    (case l15 => k_is)
    (case c15 => k_is)
    (case k15 => k_is)
    (case a16 => k_is)
    (case l16 => k_is)
    (case c16 => k_is)
    (case k16 => k_is)
    (case a17 => k_is)
    (case l17 => k_is)
    (case c17 => k_is)
    (case k17 => k_is)
    (case a18 => k_is)
    (case l18 => k_is)
    (case c18 => k_is)
    (case k18 => k_is)
    (case a19 => k_is)
    (case l19 => k_is)
    (case c19 => k_is)
    (case k19 => k_is)
    (case a20 => k_is)
    (case l20 => k_is)
    (case c20 => k_is)
    (case k20 => k_is)
    (case a21 => k_is)
    (case l21 => k_is)
    (case c21 => k_is)
    (case k21 => k_is)
    (case a22 => k_is)
    (case l22 => k_is)
    (case c22 => k_is)
    (case k22 => k_is)
    (case a23 => k_is)
    (case l23 => k_is)
    (case c23 => k_is)
    (case k23 => k_is)
    (case a24 => k_is)
    (case l24 => k_is)
    (case c24 => k_is)
    (case k24 => k_is)
    (case a25 => k_is)
    (case l25 => k_is)
    (case c25 => k_is)
    (case k25 => k_is)
    (case a26 => k_is)
    (case l26 => k_is)
    (case c26 => k_is)
    (case k26 => k_is)
    (case a27 => k_is)
    (case l27 => k_is)
    (case c27 => k_is)
    (case k27 => k_is)
    (case a28 => k_is)
    (case l28 => k_is)
    (case c28 => k_is)
    (case k28 => k_is)
    (case a29 => k_is)
    (case l29 => k_is)
    (case c29 => k_is)
    (case k29 => k_is)
    (case a30 => k_is)
    (case l30 => k_is)
    (case c30 => k_is)
    (case k30 => k_is)
    (case a31 => k_is)
    (case l31 => k_is)
    (case c31 => k_is)
    (case k31 => k_is)
    (case a32 => k_is)
    (case l32 => k_is)
    (case c32 => k_is)
    (case k32 => k_is)
    (case a33 => k_is)
    (case l33 => k_is)
    (case c33 => k_is)
    (case k33 => k_is)
    (case a34 => k_is)
    (case l34 => k_is)
    (case c34 => k_is)
    (case k34 => k_is)
    (case a35 => k_is)
    (case l35 => k_is)
    (case c35 => k_is)
    (case k35 => k_is)
    (case a36 => k_is)
    (case l36 => k_is)
    (case c36 => k_is)
    (case k36 => k_is)
    (case a37 => k_is)
    (case l37 => k_is)
    (case c37 => k_is)
    (case k37 => k_is)
    (case z0 => k_is)
    (case z1 => k_is)
    (case z2 => k_is)
    (case z3 => k_is)
    (case z4 => k_is)
    (case z5 => k_is)
    (case z6 => k_is)
    (case z7 => k_is)
    (case z8 => k_is)
    (case z9 => k_is)
    (case z10 => k_is)
    (case z11 => k_is)
    (case z12 => k_is)
    (case z13 => k_is)
    (case z14 => k_is)
    (case y0 => k_is)
    (case aF => k_is)
    (case pgF => k_is)
    (case hdF => k_is)
    (case poF => k_is)
    (case saF => k_is)
    (case mkF => k_is)
    (case kpF => k_is)
    (case nAF0 => k_is)
    (case nAF1 => k_is)
    (case nAF2 => k_is)
    (case nAF3 => k_is)
    (case nAF4 => k_is)
    (case nAF5 => k_is)
    (case nAF6 => k_is)
    (case mtF0 => k_is)
    (case msF0 => k_is)
    (case mkF0 => k_is)
    (case mlF0 => k_is)
    (case mcF0 => k_is)
    (case mtF1 => k_is)
    (case msF1 => k_is)
    (case mkF1 => k_is)
    (case mlF1 => k_is)
    (case mcF1 => k_is)
    (case mtF2 => k_is)
    (case msF2 => k_is)
    (case mkF2 => k_is)
    (case mlF2 => k_is)
    (case mcF2 => k_is)
    (case mtF3 => k_is)
    (case msF3 => k_is)
    (case mkF3 => k_is)
    (case mlF3 => k_is)
    (case mcF3 => k_is)
    (case mtF4 => k_is)
    (case msF4 => k_is)
    (case mkF4 => k_is)
    (case mlF4 => k_is)
    (case mcF4 => k_is)
    (case mtF5 => k_is)
    (case msF5 => k_is)
    (case mkF5 => k_is)
    (case mlF5 => k_is)
    (case mcF5 => k_is)
    (case mtF6 => k_is)
    (case msF6 => k_is)
    (case mkF6 => k_is)
    (case mlF6 => k_is)
    (case mcF6 => k_is)
