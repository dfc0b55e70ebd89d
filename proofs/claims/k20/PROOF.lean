import PyProof.Rows.All
import Wide.All
import OpenK.AllK
import Wide.FinOn
import HandS.ForMost
import HandS.Deep
import HandS.Wide
import HandS.More
import HandS.SortInts
import HandS.TupAny
import PyProof.ReprRoads
import HandS.Small
import HandS.EndBits
import KE.KDictPairs
import HandS.Conv
import HandS.SortRule
import HandS.Strs
import HandS.SetFor
import KE.SortData
import HandS.Zip
import KE.KDictZip
import KE.KDictCopyH
import HandS.IsInst
import HandS.DictTup
import HandS.Finally
import PyProof.EqAt
import PyProof.EqKinds
import PyProof.TupleCall
import HandS.ForExc
import HandS.ExcSuper
import HandS.ExcOwn
import PyProof.NeKinds
import PyProof.Rows.EqBoolInt
import HandS.Style
import HandS.ClsMeth
import PyProof.ReprBulk
import KE.GoesMore
import KE.GoesEnum
import HandS.NoneIn
import HandS.RaiseMore
import HandS.Codes
import HandS.ExcInit
import KE.KExcIs
import HandS.ExcValue
import KE.KDictWalk
import PyProof.TupleKey
import PyProof.Rows.SeqRoads
import PySem.Challenge.RW_fewsaves_k20_plans_or_not
set_option Elab.async false
set_option linter.all false
set_option maxRecDepth 100000
set_option maxHeartbeats 4000000
set_option pp.maxSteps 400
/-! Core1: values by depth (D), owned cells (Cell, Mem), the judgements WE, WT, WG, WI, WS over HandS. -/
namespace DL
open PySem PySem.Spec PyProof.Rows L2

/-- a value by what it holds: lst, tup stand for ever; ref a points at an owned cell; slst is a list that is read alone -/
inductive D where
  | non | bl (b : Bool) | int (i : Int) | str (x : Str) | ref (a : Addr)
  | lst (xs : List D) | tup (xs : List D) | slst (xs : List D)

inductive Cell where
  | lst (xs : List D)
  | dK (kvs : List (Key × D))
  | dT (kvs : List (List Key × D))
  | set (S : Int → Bool) (n : Nat)
  | ins (C : Addr) (fs : List (Str × D)) (lo : Hp)
  | raw (o : HO)
  | fzK (o : Obj) (us : List (Key × V)) (kvs : List (Key × D))
  | fzT (o : Obj) (us : List (List Key × V)) (kvs : List (List Key × D))
  | fzX (o : Obj) (ks vs : List D)
abbrev Mem := List (Addr × Cell)
abbrev VEnv := List (Str × Option D)

mutual
inductive Rep (K : PySem.W.Frag) (S : Hp) : V → D → Prop
  | non : Rep K S .non .non
  | bl (b : Bool) : Rep K S (.bl b) (.bl b)
  | int (i : Int) : Rep K S (.int i) (.int i)
  | str (x : Str) : Rep K S (.str x) (.str x)
  | ref (a : Addr) : Rep K S (.ref a) (.ref a)
  | lst {a : Addr} {xs : List V} {ds : List D} : S a = some (.lst xs) → Reps K S xs ds → Rep K S (.ref a) (.lst ds)
  | tup {a : Addr} {xs : List V} {ds : List D} : S a = some (.tup xs) → Reps K S xs ds → Rep K S (.ref a) (.tup ds)
  | slst {a : Addr} {xs : List V} {ds : List D} : SqL K S a xs → Reps K S xs ds → Rep K S (.ref a) (.slst ds)
inductive Reps (K : PySem.W.Frag) (S : Hp) : List V → List D → Prop
  | nil : Reps K S [] []
  | cons {v : V} {vs : List V} {d : D} {ds : List D} : Rep K S v d → Reps K S vs ds → Reps K S (v :: vs) (d :: ds)
end

section
variable {K : PySem.W.Frag} {S S' S1 S2 H H' : Hp} {v : V} {d : D} {vs ws : List V} {ds es : List D}
theorem Same.of_new {p : Addr} {o : HO} (h : S p = none) : Same S (upd S p o) := fun b o' e => by
  rw [upd_ne (ne_of_none e h)]; exact e
mutual
theorem Rep.mono (e : Same S S') : ∀ {v : V} {d : D}, Rep K S v d → Rep K S' v d
  | _, _, .non => .non
  | _, _, .bl b => .bl b
  | _, _, .int i => .int i
  | _, _, .str x => .str x
  | _, _, .ref a => .ref a
  | _, _, .lst h r => .lst (e _ _ h) (Reps.mono e r)
  | _, _, .tup h r => .tup (e _ _ h) (Reps.mono e r)
  | _, _, .slst h r => .slst (e.seq h) (Reps.mono e r)
theorem Reps.mono (e : Same S S') : ∀ {vs : List V} {ds : List D}, Reps K S vs ds → Reps K S' vs ds
  | _, _, .nil => .nil
  | _, _, .cons h r => .cons (Rep.mono e h) (Reps.mono e r)
end
theorem Reps.length : ∀ {vs : List V} {ds : List D}, Reps K S vs ds → vs.length = ds.length
  | _, _, .nil => rfl
  | _, _, .cons _ r => by rw [List.length_cons, List.length_cons, Reps.length r]
theorem Reps.get : ∀ {vs : List V} {ds : List D} {i : Nat} {d : D}, Reps K S vs ds → ds[i]? = some d → ∃ v, vs[i]? = some v ∧ Rep K S v d
  | _, _, _, _, .nil, h => by simp at h
  | _, _, 0, _, .cons h _, e => by simp at e; subst e; exact ⟨_, rfl, h⟩
  | _, _, i + 1, d, .cons _ r, e => by
    obtain ⟨v, a, b⟩ := Reps.get (i := i) (d := d) r (by simpa using e)
    exact ⟨v, by simpa using a, b⟩
theorem Reps.getV : ∀ {vs : List V} {ds : List D} {i : Nat} {v : V}, Reps K S vs ds → vs[i]? = some v → ∃ d, ds[i]? = some d ∧ Rep K S v d
  | _, _, _, _, .nil, h => by simp at h
  | _, _, 0, _, .cons h _, e => by simp at e; subst e; exact ⟨_, rfl, h⟩
  | _, _, i + 1, v, .cons _ r, e => by
    obtain ⟨d, a, b⟩ := Reps.getV (i := i) (v := v) r (by simpa using e)
    exact ⟨d, by simpa using a, b⟩
theorem Reps.append : ∀ {vs ws : List V} {ds es : List D}, Reps K S vs ds → Reps K S ws es → Reps K S (vs ++ ws) (ds ++ es)
  | _, _, _, _, .nil, r => r
  | _, _, _, _, .cons h t, r => .cons h (Reps.append t r)
theorem Reps.take : ∀ {vs : List V} {ds : List D} (n : Nat), Reps K S vs ds → Reps K S (vs.take n) (ds.take n)
  | _, _, 0, _ => .nil
  | _, _, _ + 1, .nil => .nil
  | _, _, n + 1, .cons h t => .cons h (Reps.take n t)
theorem Reps.drop : ∀ {vs : List V} {ds : List D} (n : Nat), Reps K S vs ds → Reps K S (vs.drop n) (ds.drop n)
  | _, _, 0, r => r
  | _, _, _ + 1, .nil => .nil
  | _, _, n + 1, .cons _ t => Reps.drop n t
theorem Reps.set {x : V} {y : D} (h : Rep K S x y) : ∀ {vs : List V} {ds : List D} (n : Nat), Reps K S vs ds → Reps K S (vs.set n x) (ds.set n y)
  | _, _, _, .nil => .nil
  | _, _, 0, .cons _ t => .cons h t
  | _, _, n + 1, .cons a t => .cons a (Reps.set h n t)
theorem Reps.one (h : Rep K S v d) : Reps K S [v] [d] := .cons h .nil
theorem Rep.int_inv {i : Int} (h : Rep K S v (.int i)) : v = .int i := by cases h; rfl
theorem Rep.bl_inv {b : Bool} (h : Rep K S v (.bl b)) : v = .bl b := by cases h; rfl
theorem Rep.str_inv {x : Str} (h : Rep K S v (.str x)) : v = .str x := by cases h; rfl
theorem Rep.non_inv (h : Rep K S v .non) : v = .non := by cases h; rfl
theorem Rep.ref_inv {a : Addr} (h : Rep K S v (.ref a)) : v = .ref a := by cases h; rfl
theorem Rep.tup_inv (h : Rep K S v (.tup ds)) : ∃ a xs, v = .ref a ∧ S a = some (.tup xs) ∧ Reps K S xs ds := by
  cases h with
  | tup h r => exact ⟨_, _, rfl, h, r⟩
theorem Rep.lst_inv (h : Rep K S v (.lst ds)) : ∃ a xs, v = .ref a ∧ S a = some (.lst xs) ∧ Reps K S xs ds := by
  cases h with
  | lst h r => exact ⟨_, _, rfl, h, r⟩
theorem Rep.slst_inv (h : Rep K S v (.slst ds)) : ∃ a xs, v = .ref a ∧ SqL K S a xs ∧ Reps K S xs ds := by
  cases h with
  | slst h r => exact ⟨_, _, rfl, h, r⟩
theorem Reps.of_map {α : Type} {f : α → V} {g : α → D} {l : List α} (h : ∀ a ∈ l, Rep K S (f a) (g a)) : Reps K S (l.map f) (l.map g) := by
  induction l with
  | nil => exact .nil
  | cons a l ih => exact .cons (h a List.mem_cons_self) (ih fun b hb => h b (List.mem_cons_of_mem _ hb))
theorem Reps.ints : ∀ {ns : List Int}, Reps K S (ns.map V.int) (ns.map D.int) := Reps.of_map fun a _ => .int a
theorem Reps.ints_inv : ∀ {vs : List V} {ns : List Int}, Reps K S vs (ns.map D.int) → vs = ns.map V.int
  | _, [], .nil => rfl
  | _, n :: ns, .cons h r => by rw [h.int_inv, Reps.ints_inv r]; rfl
theorem Reps.strs_inv : ∀ {vs : List V} {ns : List Str}, Reps K S vs (ns.map D.str) → vs = ns.map V.str
  | _, [], .nil => rfl
  | _, n :: ns, .cons h r => by rw [h.str_inv, Reps.strs_inv r]; rfl
theorem Reps.bls_inv : ∀ {vs : List V} {ns : List Bool}, Reps K S vs (ns.map D.bl) → vs = ns.map V.bl
  | _, [], .nil => rfl
  | _, n :: ns, .cons h r => by rw [h.bl_inv, Reps.bls_inv r]; rfl
end

/-- what an owned cell holds -/
def PK {κ : Type} (K : PySem.W.Frag) (S : Hp) (kvs : List (κ × V)) (ds : List (κ × D)) : Prop := kvs.map (·.1) = ds.map (·.1) ∧ Reps K S (kvs.map (·.2)) (ds.map (·.2))
/-- the locked dict o at a, whatever its keys are: keys us, values xs -/
structure DxAt (a : Addr) (o : Obj) (us xs : List V) : Prop where
  ns : (a == sysModules) = false
  ex : o.ExactDict
  dt : ∃ (es : Array DictEntry) (ep : Nat), o.data = .dict es ep ∧ Vals us (es.toList.map (·.key)) ∧ Vals xs (es.toList.map (·.val))
  sz : us.length ≤ sizeLine
abbrev frzX (o : Obj) : HO := .frz o (.ext fun _ => True)
def CellOk (K : PySem.W.Frag) (S H : Hp) (a : Addr) : Cell → Prop
  | .lst ds => ∃ xs, H a = some (.lst xs) ∧ Reps K S xs ds
  | .dK ds => ∃ kvs, H a = some (.dK kvs) ∧ PK K S kvs ds
  | .dT ds => ∃ kvs, H a = some (.dT kvs) ∧ PK K S kvs ds
  | .set f n => H a = some (.set f n)
  | .ins C ds lo => (∃ dx fs, H a = some (.ins C dx fs) ∧ PK K S fs ds) ∧ Same lo S
  | .raw o => H a = some o ∧ ∀ xs, o ≠ .tup xs
  | .fzK o us ds => H a = some (.frz o (.dK us)) ∧ PK K S us ds
  | .fzT o us ds => H a = some (.frz o (.dT us)) ∧ PK K S us ds
  | .fzX o ks vs => H a = some (frzX o) ∧ ∃ us xs, DxAt a o us xs ∧ Reps K S us ks ∧ Reps K S xs vs
structure MO (K : PySem.W.Frag) (S : Hp) (M : Mem) (H : Hp) : Prop where
  sub : Same S H
  own : ∀ p ∈ M, S p.1 = none ∧ CellOk K S H p.1 p.2
  nd : (M.map (·.1)).Nodup

section
variable {K : PySem.W.Frag} {S S' S1 S2 H H' : Hp} {M M' : Mem} {a p : Addr} {c c' : Cell}
theorem PK.mono {κ : Type} {kvs : List (κ × V)} {ds : List (κ × D)} (e : Same S S') (h : PK K S kvs ds) : PK K S' kvs ds := ⟨h.1, h.2.mono e⟩
theorem CellOk.mono (e : Same S S') : ∀ {c : Cell}, CellOk K S H a c → CellOk K S' H a c
  | .lst _, ⟨xs, h, r⟩ => ⟨xs, h, r.mono e⟩
  | .dK _, ⟨xs, h, r⟩ => ⟨xs, h, r.mono e⟩
  | .dT _, ⟨xs, h, r⟩ => ⟨xs, h, r.mono e⟩
  | .set _ _, h => h
  | .ins _ _ _, ⟨⟨dx, fs, h, r⟩, l⟩ => ⟨⟨dx, fs, h, r.mono e⟩, l.trans e⟩
  | .raw _, h => h
  | .fzK _ _ _, ⟨h, r⟩ => ⟨h, r.mono e⟩
  | .fzT _ _ _, ⟨h, r⟩ => ⟨h, r.mono e⟩
  | .fzX _ _ _, ⟨h, us, xs, x, r1, r2⟩ => ⟨h, us, xs, x, r1.mono e, r2.mono e⟩
theorem CellOk.there : ∀ {c : Cell}, CellOk K S H a c → ∃ o, H a = some o
  | .lst _, ⟨_, h, _⟩ => ⟨_, h⟩
  | .dK _, ⟨_, h, _⟩ => ⟨_, h⟩
  | .dT _, ⟨_, h, _⟩ => ⟨_, h⟩
  | .set _ _, h => ⟨_, h⟩
  | .ins _ _ _, ⟨⟨_, _, h, _⟩, _⟩ => ⟨_, h⟩
  | .raw o, h => ⟨o, h.1⟩
  | .fzK _ _ _, ⟨h, _⟩ => ⟨_, h⟩
  | .fzT _ _ _, ⟨h, _⟩ => ⟨_, h⟩
  | .fzX _ _ _, ⟨h, _⟩ => ⟨_, h⟩
theorem CellOk.heap (e : H' a = H a) : ∀ {c : Cell}, CellOk K S H a c → CellOk K S H' a c
  | .lst _, ⟨xs, h, r⟩ => ⟨xs, e.trans h, r⟩
  | .dK _, ⟨xs, h, r⟩ => ⟨xs, e.trans h, r⟩
  | .dT _, ⟨xs, h, r⟩ => ⟨xs, e.trans h, r⟩
  | .set _ _, h => e.trans h
  | .ins _ _ _, ⟨⟨dx, fs, h, r⟩, l⟩ => ⟨⟨dx, fs, e.trans h, r⟩, l⟩
  | .raw _, h => ⟨e.trans h.1, h.2⟩
  | .fzK _ _ _, ⟨h, r⟩ => ⟨e.trans h, r⟩
  | .fzT _ _ _, ⟨h, r⟩ => ⟨e.trans h, r⟩
  | .fzX _ _ _, ⟨h, r⟩ => ⟨e.trans h, r⟩
theorem MO.free (m : MO K S M H) (h : H p = none) : S p = none := m.sub.free h
theorem MO.notin (m : MO K S M H) (h : H p = none) : ∀ q ∈ M, q.1 ≠ p := fun q hq e => by
  obtain ⟨o, ho⟩ := (m.own q hq).2.there
  rw [e, h] at ho
  cases ho

/-- the owned cell at a, and how the memory stands when it is another one -/
inductive At (a : Addr) : Mem → Cell → (Cell → Mem) → Prop
  | here {c : Cell} {M : Mem} : At a ((a, c) :: M) c (fun c' => (a, c') :: M)
  | there {q : Addr × Cell} {c : Cell} {M : Mem} {f : Cell → Mem} : At a M c f → At a (q :: M) c (fun c' => q :: f c')
theorem At.mem {f : Cell → Mem} (h : At a M c f) : (a, c) ∈ M := by
  induction h with
  | here => exact List.mem_cons_self
  | there _ ih => exact List.mem_cons_of_mem _ ih
theorem At.put {f : Cell → Mem} (h : At a M c f) (c' : Cell) : At a (f c') c' f := by
  induction h with
  | here => exact .here
  | there _ ih => exact .there ih
theorem At.self {f : Cell → Mem} (h : At a M c f) : f c = M := by
  induction h with
  | here => rfl
  | there _ ih => exact congrArg (_ :: ·) ih
theorem At.keys {f : Cell → Mem} (h : At a M c f) (c' : Cell) : (f c').map (·.1) = M.map (·.1) := by
  induction h with
  | here => rfl
  | there _ ih => rw [List.map_cons, List.map_cons, ih]
theorem At.of_put {f : Cell → Mem} (h : At a M c f) (c' : Cell) : ∀ p ∈ f c', p = (a, c') ∨ p ∈ M := by
  induction h with
  | here => exact fun p hp => (List.mem_cons.mp hp).imp id (List.mem_cons_of_mem _)
  | there _ ih =>
    intro p hp
    rcases List.mem_cons.mp hp with e | hp
    · exact .inr (e ▸ List.mem_cons_self)
    · exact (ih p hp).imp id (List.mem_cons_of_mem _)
theorem At.perm {f : Cell → Mem} (h : At a M c f) : ∃ M1, ∀ c', List.Perm (f c') ((a, c') :: M1) := by
  induction h with
  | @here c M => exact ⟨M, fun c' => List.Perm.refl _⟩
  | @there q c M f h ih =>
    obtain ⟨M1, e⟩ := ih
    exact ⟨q :: M1, fun c' => ((e c').cons q).trans (List.Perm.swap ..)⟩

theorem MO.perm (m : MO K S M H) (e : List.Perm M M') : MO K S M' H :=
  ⟨m.sub, fun p hp => m.own p (e.mem_iff.mpr hp), (e.map (·.1)).nodup_iff.mp m.nd⟩
theorem MO.at_ok {f : Cell → Mem} (m : MO K S M H) (h : At a M c f) : CellOk K S H a c := (m.own (a, c) h.mem).2
theorem MO.at_free {f : Cell → Mem} (m : MO K S M H) (h : At a M c f) : S a = none := (m.own (a, c) h.mem).1
theorem MO.uniq {c1 c2 : Cell} (m : MO K S M H) (h1 : (a, c1) ∈ M) (h2 : (a, c2) ∈ M) : c1 = c2 := by
  have nd := m.nd
  clear m
  induction M with
  | nil => cases h1
  | cons q M ih =>
    rw [List.map_cons, List.nodup_cons] at nd
    rcases List.mem_cons.mp h1 with e1 | h1
    · rcases List.mem_cons.mp h2 with e2 | h2
      · exact (Prod.mk.inj (e1.trans e2.symm)).2
      · exact absurd (List.mem_map.mpr ⟨_, h2, by rw [← e1]⟩) nd.1
    · rcases List.mem_cons.mp h2 with e2 | h2
      · exact absurd (List.mem_map.mpr ⟨_, h1, by rw [← e2]⟩) nd.1
      · exact ih h1 h2 nd.2
/-- the cell at a is written -/
theorem MO.write {f : Cell → Mem} {o : HO} (m : MO K S M H) (h : At a M c f) (new : CellOk K S (upd H a o) a c') : MO K S (f c') (upd H a o) := by
  have fa := m.at_free h
  refine ⟨fun b o' e => ?_, fun p hp => ?_, by rw [h.keys]; exact m.nd⟩
  · rw [upd_ne (fun q => by rw [q, fa] at e; cases e)]
    exact m.sub b o' e
  · by_cases ep : p.1 = a
    · have nd : ((f c').map (·.1)).Nodup := by rw [h.keys]; exact m.nd
      have e : p.2 = c' := by
        have h2 : (a, c') ∈ f c' := (h.put c').mem
        have h1 : (a, p.2) ∈ f c' := by rw [← ep]; exact hp
        clear hp
        generalize f c' = L at nd h1 h2
        induction L with
        | nil => cases h1
        | cons q L ih =>
          rw [List.map_cons, List.nodup_cons] at nd
          rcases List.mem_cons.mp h1 with e1 | h1
          · rcases List.mem_cons.mp h2 with e2 | h2
            · exact (Prod.mk.inj (e1.trans e2.symm)).2
            · exact absurd (List.mem_map.mpr ⟨_, h2, by rw [← e1]⟩) nd.1
          · rcases List.mem_cons.mp h2 with e2 | h2
            · exact absurd (List.mem_map.mpr ⟨_, h1, by rw [← e2]⟩) nd.1
            · exact ih nd.2 h1 h2
      rw [ep, e]
      exact ⟨fa, new⟩
    · rcases h.of_put c' p hp with e | hm
      · exact absurd (by rw [e]) ep
      · exact ⟨(m.own p hm).1, (m.own p hm).2.heap (upd_ne ep)⟩
theorem MO.writeL {f : Cell → Mem} {xs : List V} {ds : List D} (m : MO K S M H) (h : At a M c f) (r : Reps K S xs ds) : MO K S (f (.lst ds)) (upd H a (.lst xs)) :=
  m.write h (c' := .lst ds) ⟨xs, upd_same, r⟩
/-- a new owned cell -/
theorem MO.alloc {o : HO} (m : MO K S M H) (h : H p = none) (new : CellOk K S (upd H p o) p c) : MO K S ((p, c) :: M) (upd H p o) := by
  refine ⟨m.sub.trans (Same.of_new h), fun q hq => ?_, ?_⟩
  · rcases List.mem_cons.mp hq with e | hq
    · subst e; exact ⟨m.free h, new⟩
    · exact ⟨(m.own q hq).1, (m.own q hq).2.heap (upd_ne (m.notin h q hq))⟩
  · rw [List.map_cons, List.nodup_cons]
    refine ⟨fun hm => ?_, m.nd⟩
    obtain ⟨q, hq, e⟩ := List.mem_map.mp hm
    exact m.notin h q hq e
/-- a new object that stands for ever -/
theorem MO.laid {o : HO} (m : MO K S M H) (h : H p = none) : Same S (upd S p o) ∧ MO K (upd S p o) M (upd H p o) := by
  have fs := m.free h
  refine ⟨Same.of_new fs, fun b o' e => ?_, fun q hq => ?_, m.nd⟩
  · by_cases hb : b = p
    · subst hb; rw [upd_same] at e ⊢; exact e
    · rw [upd_ne hb] at e ⊢; exact m.sub b o' e
  · have ne := m.notin h q hq
    exact ⟨by rw [upd_ne ne]; exact (m.own q hq).1, ((m.own q hq).2.heap (upd_ne ne)).mono (Same.of_new fs)⟩
/-- an owned list is owned no more -/
theorem MO.freeze {ds : List D} (m : MO K S ((p, .lst ds) :: M) H) : ∃ S', Same S S' ∧ MO K S' M H ∧ Rep K S' (.ref p) (.lst ds) := by
  obtain ⟨fs, xs, hx, r⟩ := m.own (p, .lst ds) List.mem_cons_self
  have fs : S p = none := fs
  have hx : H p = some (.lst xs) := hx
  have nd := m.nd
  rw [List.map_cons, List.nodup_cons] at nd
  have s1 : Same S (upd S p (.lst xs)) := Same.of_new fs
  refine ⟨upd S p (.lst xs), s1, ⟨fun b o' e => ?_, fun q hq => ?_, nd.2⟩, .lst upd_same (r.mono s1)⟩
  · by_cases hb : b = p
    · subst hb; rw [upd_same] at e; rw [← e]; exact hx
    · rw [upd_ne hb] at e; exact m.sub b o' e
  · have ne : q.1 ≠ p := fun e => nd.1 (List.mem_map.mpr ⟨q, hq, e⟩)
    have o := m.own q (List.mem_cons_of_mem _ hq)
    exact ⟨by rw [upd_ne ne]; exact o.1, o.2.mono s1⟩
/-- an owned cell is forgotten -/
theorem MO.drop {q : Addr × Cell} (m : MO K S (q :: M) H) : MO K S M H := by
  have nd := m.nd
  rw [List.map_cons, List.nodup_cons] at nd
  exact ⟨m.sub, fun p hp => m.own p (List.mem_cons_of_mem _ hp), nd.2⟩

/-- d is a list of ds, owned or not -/
def IsL (M : Mem) (d : D) (ds : List D) : Prop := d = .lst ds ∨ ∃ a f, d = .ref a ∧ At a M (.lst ds) f
/-- .. or one that is read alone -/
def IsR (M : Mem) (d : D) (ds : List D) : Prop := IsL M d ds ∨ d = .slst ds
theorem IsL.get {v : V} {d : D} {ds : List D} (h : IsL M d ds) (m : MO K S M H) (r : Rep K S v d) : ∃ a xs, v = .ref a ∧ H a = some (.lst xs) ∧ Reps K S xs ds := by
  rcases h with rfl | ⟨a, f, rfl, h⟩
  · obtain ⟨a, xs, e, h, r⟩ := r.lst_inv
    exact ⟨a, xs, e, m.sub _ _ h, r⟩
  · obtain ⟨xs, hx, rs⟩ := m.at_ok h
    exact ⟨a, xs, r.ref_inv, hx, rs⟩
theorem IsR.get {v : V} {d : D} {ds : List D} (h : IsR M d ds) (m : MO K S M H) (r : Rep K S v d) : ∃ a xs, v = .ref a ∧ SqL K H a xs ∧ Reps K S xs ds := by
  rcases h with h | rfl
  · obtain ⟨a, xs, e, h, r⟩ := h.get m r
    exact ⟨a, xs, e, .of h, r⟩
  · obtain ⟨a, xs, e, h, r⟩ := r.slst_inv
    exact ⟨a, xs, e, m.sub.seq h, r⟩
theorem Rep.tup_get {v : V} {ds : List D} (m : MO K S M H) (r : Rep K S v (.tup ds)) : ∃ a xs, v = .ref a ∧ H a = some (.tup xs) ∧ Reps K S xs ds := by
  obtain ⟨a, xs, e, h, r⟩ := r.tup_inv
  exact ⟨a, xs, e, m.sub _ _ h, r⟩
end

/-! ### judgements -/
def Post (K : PySem.W.Frag) (S : Hp) (Q : D → Mem → Prop) (v : V) (H : Hp) : Prop := ∃ d M S', Q d M ∧ Same S S' ∧ MO K S' M H ∧ Rep K S' v d
def PostB (K : PySem.W.Frag) (S : Hp) (Q : Bool → Mem → Prop) (b : Bool) (H : Hp) : Prop := ∃ M S', Q b M ∧ Same S S' ∧ MO K S' M H
def PostA (K : PySem.W.Frag) (S : Hp) (Q : List D → Mem → Prop) (vs : List V) (H : Hp) : Prop := ∃ ds M S', Q ds M ∧ Same S S' ∧ MO K S' M H ∧ Reps K S' vs ds
structure SR (X : Cx) (S : Hp) (σ : L2.St) (Γ : VEnv) : Prop where
  len : σ.length = X.N.length
  names : Γ.map (·.1) = X.N
  vals : ∀ (i : Nat) (x : Str) (d : D), Γ[i]? = some (x, some d) → ∃ v, σ[i]? = some (some v) ∧ Rep X.K S v d
theorem SR.mono {X : Cx} {S S' : Hp} {σ : L2.St} {Γ : VEnv} (r : SR X S σ Γ) (e : Same S S') : SR X S' σ Γ :=
  ⟨r.len, r.names, fun i x d h => let ⟨v, a, b⟩ := r.vals i x d h; ⟨v, a, b.mono e⟩⟩

def tE (X : Cx) (e : Expr) : TE := fun σ H R => ∀ pins s, Inv X pins σ H s → wpAny (model X.prog X.w) X.A (eval e X.env) (EP X pins σ R) X.xe s
def tT (X : Cx) (e : Expr) : TT := fun σ H R => ∀ pins s, Inv X pins σ H s → wpAny (model X.prog X.w) X.A (isTrue e X.env (eval e X.env)) (TP X pins σ R) X.xe s
def tW (X : Cx) (e : Expr) : TT := fun σ H R => ∀ (whole : Sem Value) pins s, Inv X pins σ H s → wpAny (model X.prog X.w) X.A (isTrue e X.env whole) (TP X pins σ R) X.xe s
def tA (X : Cx) (es : List Expr) : TA := fun σ H R => ∀ pos pins s, Inv X pins σ H s → wpAny (model X.prog X.w) X.A (spliced (backTo pos (starEach es X.env))) (AP X pins σ R) X.xe s
def tS (X : Cx) (st : Stmt) : TS := fun D σ H => ∀ pins s, Inv X pins σ H s → wpAny (model X.prog X.w) X.A (exec st X.env) (SP X pins D) X.xe s
def tSs (X : Cx) (st : List Stmt) : TS := fun D σ H => ∀ pins s, Inv X pins σ H s → wpAny (model X.prog X.w) X.A (execs st X.env) (SP X pins D) X.xe s
def tG (X : Cx) (tg : Expr) : TG := fun v σ H R => ∀ pins s u, Inv X pins σ H s → RelV v u → wpAny (model X.prog X.w) X.A (assign tg X.env u) (fun _ s' => ∃ σ' H', Inv X pins σ' H' s' ∧ R σ' H') X.xe s
def tI (X : Cx) (tg iter : Expr) : TI := fun σ H R => ∀ pins s, Inv X pins σ H s → wpAny (model X.prog X.w) X.A (eval iter X.env) (fun v s1 => wpAny (model X.prog X.w) X.A (pyIter v) (PIE X pins σ tg R) X.xe s1) X.xe s
def rC (X : Cx) (f : Value → Value → Sem Value) : R2 := fun x y H R => ∀ pins s σ v u, Inv X pins σ H s → RelV x v → RelV y u → wpAny (model X.prog X.w) X.A (f v u) (EP X pins σ R) X.xe s
section
variable {X : Cx} {e : Expr} {es : List Expr} {st : Stmt} {sts : List Stmt} {tg : Expr} {σ : L2.St} {H : Hp}
theorem pe_c : PE X e (tE X e) := ⟨fun pins s σ H Q I h => h pins s I⟩
theorem pt_c : PT X e (tT X e) := ⟨fun pins s σ H Q I h => h pins s I⟩
theorem pw_c : PW X e (tW X e) := ⟨fun w pins s σ H Q I h => h w pins s I⟩
theorem pa_c : PA X es (tA X es) := ⟨fun pos pins s σ H Q I h => h pos pins s I⟩
theorem ps_c : PS X st (tS X st) := ⟨fun pins s σ H Q I h => h pins s I⟩
theorem pss_c : PSs X sts (tSs X sts) := ⟨fun pins s σ H Q I h => h pins s I⟩
theorem pg_c : PG X tg (tG X tg) := ⟨fun pins s σ H v u Q I r h => h pins s u I r⟩
theorem pi_c {it : Expr} : PI X tg it (tI X tg it) := ⟨fun pins s σ H Q I h => h pins s I⟩
theorem or_c {f : Value → Value → Sem Value} : OpR X f (rC X f) := fun pins s σ H x y v u Q I rx ry h => h pins s σ v u I rx ry
theorem tE_of {t : TE} {R : VK} (h : PE X e t) (q : t σ H R) : tE X e σ H R := fun pins s I => h.run pins s σ H R I q
theorem tT_of {t : TT} {R : Bool → Hp → Prop} (h : PT X e t) (q : t σ H R) : tT X e σ H R := fun pins s I => h.run pins s σ H R I q
theorem tW_of {t : TT} {R : Bool → Hp → Prop} (h : PW X e t) (q : t σ H R) : tW X e σ H R := fun w pins s I => h.run w pins s σ H R I q
theorem tA_of {t : TA} {R : List V → Hp → Prop} (h : PA X es t) (q : t σ H R) : tA X es σ H R := fun p pins s I => h.run p pins s σ H R I q
theorem tS_of {t : TS} {R : Ends} (h : PS X st t) (q : t R σ H) : tS X st R σ H := fun pins s I => h.run pins s σ H R I q
theorem tSs_of {t : TS} {R : Ends} (h : PSs X sts t) (q : t R σ H) : tSs X sts R σ H := fun pins s I => h.run pins s σ H R I q
theorem tE_mono {R R' : VK} (h : tE X e σ H R) (m : ∀ v H', R v H' → R' v H') : tE X e σ H R' := fun pins s I =>
  thn (h pins s I) fun _ _ ⟨v, H', I', r, q⟩ => ⟨v, H', I', r, m _ _ q⟩
theorem tT_mono {R R' : Bool → Hp → Prop} (h : tT X e σ H R) (m : ∀ v H', R v H' → R' v H') : tT X e σ H R' := fun pins s I =>
  thn (h pins s I) fun _ _ ⟨H', I', q⟩ => ⟨H', I', m _ _ q⟩
theorem tW_mono {R R' : Bool → Hp → Prop} (h : tW X e σ H R) (m : ∀ v H', R v H' → R' v H') : tW X e σ H R' := fun w pins s I =>
  thn (h w pins s I) fun _ _ ⟨H', I', q⟩ => ⟨H', I', m _ _ q⟩
theorem tA_mono {R R' : List V → Hp → Prop} (h : tA X es σ H R) (m : ∀ v H', R v H' → R' v H') : tA X es σ H R' := fun p pins s I =>
  thn (h p pins s I) fun _ _ ⟨v, H', I', r, q⟩ => ⟨v, H', I', r, m _ _ q⟩
theorem tG_mono {v : V} {R R' : L2.St → Hp → Prop} (h : tG X tg v σ H R) (m : ∀ v H', R v H' → R' v H') : tG X tg v σ H R' := fun pins s u I r =>
  thn (h pins s u I r) fun _ _ ⟨v, H', I', q⟩ => ⟨v, H', I', m _ _ q⟩
theorem rC_mono {f : Value → Value → Sem Value} {x y : V} {R R' : VK} (h : rC X f x y H R) (m : ∀ v H', R v H' → R' v H') : rC X f x y H R' := fun pins s σ v u I rx ry =>
  thn (h pins s σ v u I rx ry) fun _ _ ⟨v, H', I', r, q⟩ => ⟨v, H', I', r, m _ _ q⟩
end
def WE (X : Cx) (Γ : VEnv) (M : Mem) (e : Expr) (Q : D → Mem → Prop) : Prop := ∀ S σ H, SR X S σ Γ → MO X.K S M H → tE X e σ H (Post X.K S Q)
def WT (X : Cx) (Γ : VEnv) (M : Mem) (e : Expr) (Q : Bool → Mem → Prop) : Prop := ∀ S σ H, SR X S σ Γ → MO X.K S M H → tT X e σ H (PostB X.K S Q)
def WW (X : Cx) (Γ : VEnv) (M : Mem) (e : Expr) (Q : Bool → Mem → Prop) : Prop := ∀ S σ H, SR X S σ Γ → MO X.K S M H → tW X e σ H (PostB X.K S Q)
def WA (X : Cx) (Γ : VEnv) (M : Mem) (es : List Expr) (Q : List D → Mem → Prop) : Prop := ∀ S σ H, SR X S σ Γ → MO X.K S M H → tA X es σ H (PostA X.K S Q)
def OD (X : Cx) (f : Value → Value → Sem Value) (da db : D) (M : Mem) (Q : D → Mem → Prop) : Prop := ∀ S H x y, Rep X.K S x da → Rep X.K S y db → MO X.K S M H → rC X f x y H (Post X.K S Q)
structure DE where
  nx : VEnv → Mem → Prop
  rt : D → Mem → Prop
  bk : VEnv → Mem → Prop := fun _ _ => False
  ct : VEnv → Mem → Prop := fun _ _ => False
abbrev DE.thn (E : DE) (n : VEnv → Mem → Prop) : DE := { E with nx := n }
def PostG (X : Cx) (S : Hp) (Q : VEnv → Mem → Prop) (σ : L2.St) (H : Hp) : Prop := ∃ Γ M S', Q Γ M ∧ Same S S' ∧ SR X S' σ Γ ∧ MO X.K S' M H
def ends (X : Cx) (S : Hp) (E : DE) : Ends := { nx := PostG X S E.nx, rt := Post X.K S E.rt, bk := PostG X S E.bk, ct := PostG X S E.ct }
def WS (X : Cx) (Γ : VEnv) (M : Mem) (st : Stmt) (E : DE) : Prop := ∀ S σ H, SR X S σ Γ → MO X.K S M H → tS X st (ends X S E) σ H
def WSs (X : Cx) (Γ : VEnv) (M : Mem) (st : List Stmt) (E : DE) : Prop := ∀ S σ H, SR X S σ Γ → MO X.K S M H → tSs X st (ends X S E) σ H
def WG (X : Cx) (Γ : VEnv) (M : Mem) (tg : Expr) (d : D) (Q : VEnv → Mem → Prop) : Prop := ∀ S σ H v, SR X S σ Γ → MO X.K S M H → Rep X.K S v d → tG X tg v σ H (PostG X S Q)
section
variable {K : PySem.W.Frag} {X : Cx} {S S' S1 H : Hp} {v : V} {Q Q' : D → Mem → Prop} {b : Bool} {vs : List V} {σ : L2.St}
theorem Post.weak (h : Post K S' Q v H) (e : Same S S') : Post K S Q v H := let ⟨d, M, S1, q, s, m, r⟩ := h; ⟨d, M, S1, q, e.trans s, m, r⟩
theorem PostB.weak {Q : Bool → Mem → Prop} (h : PostB K S' Q b H) (e : Same S S') : PostB K S Q b H := let ⟨M, S1, q, s, m⟩ := h; ⟨M, S1, q, e.trans s, m⟩
theorem PostA.weak {Q : List D → Mem → Prop} (h : PostA K S' Q vs H) (e : Same S S') : PostA K S Q vs H := let ⟨d, M, S1, q, s, m, r⟩ := h; ⟨d, M, S1, q, e.trans s, m, r⟩
theorem PostG.weak {Q : VEnv → Mem → Prop} (h : PostG X S' Q σ H) (e : Same S S') : PostG X S Q σ H := let ⟨d, M, S1, q, s, m, r⟩ := h; ⟨d, M, S1, q, e.trans s, m, r⟩
theorem Post.imp (h : Post K S Q v H) (e : ∀ d M, Q d M → Q' d M) : Post K S Q' v H := let ⟨d, M, S1, q, s, m, r⟩ := h; ⟨d, M, S1, e _ _ q, s, m, r⟩
theorem PostG.imp {Q Q' : VEnv → Mem → Prop} (h : PostG X S Q σ H) (e : ∀ d M, Q d M → Q' d M) : PostG X S Q' σ H := let ⟨d, M, S1, q, s, m, r⟩ := h; ⟨d, M, S1, e _ _ q, s, m, r⟩
theorem Post.of {d : D} {M : Mem} (m : MO K S M H) (r : Rep K S v d) (q : Q d M) : Post K S Q v H := ⟨d, M, S, q, .refl _, m, r⟩
theorem SP.imp {pins : List (Addr × Obj)} {D D' : Ends} {f : Flow} {s : Shared} (h : SP X pins D f s) (h1 : ∀ σ H, D.nx σ H → D'.nx σ H) (h2 : ∀ v H, D.rt v H → D'.rt v H) (h3 : ∀ σ H, D.bk σ H → D'.bk σ H) (h4 : ∀ σ H, D.ct σ H → D'.ct σ H) : SP X pins D' f s := by
  cases f with
  | next => exact let ⟨σ', H', I, q⟩ := h; ⟨σ', H', I, h1 _ _ q⟩
  | brk => exact let ⟨σ', H', I, q⟩ := h; ⟨σ', H', I, h3 _ _ q⟩
  | cont => exact let ⟨σ', H', I, q⟩ := h; ⟨σ', H', I, h4 _ _ q⟩
  | ret u => exact let ⟨v, σ', H', I, r, q⟩ := h; ⟨v, σ', H', I, r, h2 _ _ q⟩
theorem SP.weak {pins : List (Addr × Obj)} {E : DE} {f : Flow} {s : Shared} (h : SP X pins (ends X S' E) f s) (e : Same S S') : SP X pins (ends X S E) f s :=
  SP.imp h (fun _ _ q => PostG.weak q e) (fun _ _ q => Post.weak q e) (fun _ _ q => PostG.weak q e) (fun _ _ q => PostG.weak q e)
end
end DL

/-! Core2: rules for expressions. -/
namespace DL
open PySem PySem.Spec PyProof.Rows L2

/-- what stands fast in a body: L the names that may be stored, V those that may be read, B the built-ins, F the defs that it names -/
structure Stat (X : Cx) (Ln Vn Bn Fn : List Str) : Prop where
  calm : X.calm = true
  vis : ∀ x ∈ Vn, Vis X.env.scope x ∧ (x == ("__debug__" : Str)) = false ∧ (x == ("__classdict__" : Str)) = false
  po : PassesOwn (model X.prog X.w) X.A X.env X.xe
  nd : X.N.Nodup
  loc : ∀ x ∈ Ln, Loc X.env.scope x ∧ (X.fn x = true ∨ X.env.scope.names.lookup x = some .local)
  blt : ∀ x ∈ Bn, Gl X x ∧ X.mg x = none ∧ x ≠ "__name__" ∧ (x == ("__debug__" : Str)) = false
  gfn : ∀ x ∈ Fn, Gl X x ∧ (x == ("__debug__" : Str)) = false
  hu : X.A.units + 100 < cLine
  gd : X.A.guards = some []

inductive Look : VEnv → Str → D → Prop
  | here {Γ : VEnv} {x : Str} {d : D} : Look ((x, some d) :: Γ) x d
  | there {Γ : VEnv} {x : Str} {d : D} {p : Str × Option D} : Look Γ x d → Look (p :: Γ) x d
theorem Look.at {Γ : VEnv} {x : Str} {d : D} (h : Look Γ x d) : ∃ i : Nat, Γ[i]? = some (x, some d) := by
  induction h with
  | here => exact ⟨0, rfl⟩
  | there _ ih => exact let ⟨i, e⟩ := ih; ⟨i + 1, by simpa using e⟩
inductive SetAt : VEnv → Str → D → VEnv → Prop
  | here {Γ : VEnv} {x : Str} {d : D} {o : Option D} : SetAt ((x, o) :: Γ) x d ((x, some d) :: Γ)
  | there {Γ Γ' : VEnv} {x : Str} {d : D} {p : Str × Option D} : SetAt Γ x d Γ' → SetAt (p :: Γ) x d (p :: Γ')
theorem SetAt.at {Γ Γ' : VEnv} {x : Str} {d : D} (h : SetAt Γ x d Γ') : ∃ (i : Nat) (o : Option D), Γ[i]? = some (x, o) ∧ Γ' = Γ.set i (x, some d) := by
  induction h with
  | here => exact ⟨0, _, rfl, rfl⟩
  | there _ ih => exact let ⟨i, o, e, q⟩ := ih; ⟨i + 1, o, by simpa using e, by rw [q]; rfl⟩

section
variable {X : Cx} {S S' H : Hp} {σ : L2.St} {Γ Γ' : VEnv} {M : Mem} {x : Str} {d : D} {v : V} {Ln Vn Bn Fn : List Str}
theorem SR.name {i : Nat} {o : Option D} (r : SR X S σ Γ) (h : Γ[i]? = some (x, o)) : X.N[i]? = some x := by
  rw [← r.names, List.getElem?_map, h]; rfl
theorem SR.put {i : Nat} {o : Option D} (r : SR X S σ Γ) (h : Γ[i]? = some (x, o)) (rv : Rep X.K S v d) (hx : Loc X.env.scope x ∧ (X.fn x = true ∨ X.env.scope.names.lookup x = some .local)) :
    SR X S (σ.set i (some v)) (Γ.set i (x, some d)) := by
  have hN := r.name h
  have hi : i < σ.length := by rw [r.len]; exact (List.getElem?_eq_some_iff.mp hN).1
  refine ⟨by rw [List.length_set]; exact r.len, ?_, fun j y e hj => ?_⟩
  · rw [List.map_set, r.names]
    obtain ⟨hlt, e⟩ := List.getElem?_eq_some_iff.mp hN
    show X.N.set i x = X.N
    rw [← e]; exact List.set_getElem_self hlt
  · by_cases hji : i = j
    · subst hji
      rw [List.getElem?_set_self (by rw [← List.length_map (f := (·.1)), r.names]; exact (List.getElem?_eq_some_iff.mp hN).1)] at hj
      cases hj
      exact ⟨v, List.getElem?_set_self hi, rv⟩
    · rw [List.getElem?_set_ne hji] at hj
      obtain ⟨w, a, b⟩ := r.vals j y e hj
      exact ⟨w, by rw [List.getElem?_set_ne hji]; exact a, b⟩
end

section
variable {X : Cx} {Γ : VEnv} {M : Mem} {Q : D → Mem → Prop} {QB : Bool → Mem → Prop} {QA : List D → Mem → Prop} {x : Str} {d : D} {pos p : Pos} {a b c e : Expr} {es : List Expr} {Ln Vn Bn Fn : List Str}

/-- the closing of a reading: the heap grew as told -/
theorem tE_post {S : Hp} {σ : L2.St} {H : Hp} {R : VK} {Q : D → Mem → Prop} (h : tE X e σ H (Post X.K S Q)) (m : ∀ d M S' v H', Q d M → Same S S' → MO X.K S' M H' → Rep X.K S' v d → R v H') : tE X e σ H R :=
  tE_mono h fun v H' ⟨d, M, S', q, s, mo, r⟩ => m d M S' v H' q s mo r
theorem WE.imp {Q' : D → Mem → Prop} (h : WE X Γ M e Q) (m : ∀ d M', Q d M' → Q' d M') : WE X Γ M e Q' := fun S σ H hΓ hM => tE_mono (h S σ H hΓ hM) fun _ _ p => p.imp m
theorem WE.perm {M' : Mem} (h : WE X Γ M' e Q) (pm : List.Perm M M') : WE X Γ M e Q := fun S σ H hΓ hM => h S σ H hΓ (hM.perm pm)

theorem we_name (st : Stat X Ln Vn Bn Fn) (hv : x ∈ Vn) (h : Look Γ x d) (q : Q d M) : WE X Γ M (.Name x pos) Q := by
  intro S σ H hΓ hM
  obtain ⟨i, e⟩ := h.at
  obtain ⟨v, hv', rv⟩ := hΓ.vals i x d e
  obtain ⟨vis, d1, d2⟩ := st.vis x hv
  exact tE_of (pe_var (hΓ.name e) vis d1 d2) ⟨v, hv', .of hM rv q⟩
theorem we_int {i : Int} {j} (q : Q (.int i) M) : WE X Γ M (.Constant (.int i) j pos) Q := fun S σ H hΓ hM => tE_of pe_int (Post.of hM (.int i) q)
theorem we_str {s : Str} {j} (q : Q (.str s) M) : WE X Γ M (.Constant (.str s) j pos) Q := fun S σ H hΓ hM => tE_of pe_str (Post.of hM (.str s) q)
theorem we_bl {s : Bool} {j} (q : Q (.bl s) M) : WE X Γ M (.Constant (.bool s) j pos) Q := fun S σ H hΓ hM => tE_of pe_bl (Post.of hM (.bl s) q)
theorem we_non {j} (q : Q .non M) : WE X Γ M (.Constant .none j pos) Q := fun S σ H hΓ hM => tE_of pe_non (Post.of hM .non q)
theorem two {S : Hp} {σ : L2.St} {H : Hp} {R : V → V → Hp → Prop} (hΓ : SR X S σ Γ) (hM : MO X.K S M H) {Q2 : D → D → Mem → Prop} (h : WE X Γ M a fun da M1 => WE X Γ M1 b fun db M2 => Q2 da db M2)
    (k : ∀ x y H2 S2 da db M2, Same S S2 → MO X.K S2 M2 H2 → Rep X.K S2 x da → Rep X.K S2 y db → Q2 da db M2 → R x y H2) : tE X a σ H fun x H1 => tE X b σ H1 fun y H2 => R x y H2 := by
  refine tE_post (h S σ H hΓ hM) fun da M1 S1 x H1 q1 s1 m1 r1 => ?_
  refine tE_post (q1 S1 σ H1 (hΓ.mono s1) m1) fun db M2 S2 y H2 q2 s2 m2 r2 => ?_
  exact k x y H2 S2 da db M2 (s1.trans s2) m2 (r1.mono s2) r2 q2
theorem we_bin {op : Operator} (h : WE X Γ M a fun da M1 => WE X Γ M1 b fun db M2 => OD X (binaryOp op) da db M2 Q) : WE X Γ M (.BinOp a op b pos) Q := by
  intro S σ H hΓ hM
  exact tE_of (pe_op or_c pe_c pe_c) (two hΓ hM h fun x y H2 S2 da db M2 s m rx ry q => rC_mono (q S2 H2 x y rx ry m) fun _ _ p => p.weak s)
theorem we_cmp {op : CmpOp} (h : WE X Γ M a fun da M1 => WE X Γ M1 b fun db M2 => OD X (compareOp op) da db M2 Q) (hm : behindInMarks op b = false) : WE X Γ M (.Compare a [op] [b] pos) Q := by
  intro S σ H hΓ hM
  exact tE_of (pe_cmpR or_c pe_c pe_c hm) (two hΓ hM h fun x y H2 S2 da db M2 s m rx ry q => rC_mono (q S2 H2 x y rx ry m) fun _ _ p => p.weak s)
theorem wt_cmp {op : CmpOp} (h : WE X Γ M a fun da M1 => WE X Γ M1 b fun db M2 => OD X (compareOp op) da db M2 fun d M3 => ∃ k, d = .bl k ∧ QB k M3) (hm : behindInMarks op b = false) : WT X Γ M (.Compare a [op] [b] pos) QB := by
  intro S σ H hΓ hM
  refine tT_of (pt_cmpR or_c pe_c pe_c hm) (two hΓ hM h fun x y H2 S2 da db M2 s m rx ry q => rC_mono (q S2 H2 x y rx ry m) ?_)
  rintro z H3 ⟨d3, M3, S3, ⟨k, rfl, qk⟩, s3, m3, r3⟩
  exact ⟨k, r3.bl_inv, M3, S3, qk, s.trans s3, m3⟩
/-- a op1 b op2 c -/
theorem chainR {op op' : CmpOp} {S : Hp} {σ : L2.St} {H : Hp} {R : VK} (hΓ : SR X S σ Γ) (hM : MO X.K S M H) (h : WE X Γ M a fun da M1 => WE X Γ M1 b fun db M2 => OD X (compareOp op) da db M2 fun d M3 => ∃ k, d = .bl k ∧
      (if k = true then WE X Γ M3 c fun dc M4 => OD X (compareOp op') db dc M4 Q else Q (.bl false) M3)) (w : ∀ v H', Post X.K S Q v H' → R v H') : tChain (rC X (compareOp op)) (rC X (compareOp op')) (tE X a) (tE X b) (tE X c) σ H R := by
  refine tE_post (h S σ H hΓ hM) fun da M1 S1 x H1 q1 s1 m1 r1 => ?_
  refine tE_post (q1 S1 σ H1 (hΓ.mono s1) m1) fun db M2 S2 y H2 q2 s2 m2 r2 => ?_
  refine rC_mono (q2 S2 H2 x y (r1.mono s2) r2 m2) ?_
  rintro z H3 ⟨d3, M3, S3, ⟨k, rfl, qk⟩, s3, m3, r3⟩
  refine ⟨k, r3.bl_inv, ?_⟩
  have s123 := (s1.trans s2).trans s3
  cases k with
  | true =>
    rw [if_pos rfl] at qk ⊢
    refine tE_post (qk S3 σ H3 (hΓ.mono s123) m3) fun dc M4 S4 w' H4 q4 s4 m4 r4 => ?_
    exact rC_mono (q4 S4 H4 y w' ((r2.mono s3).mono s4) r4 m4) fun _ _ p => w _ _ (p.weak (s123.trans s4))
  | false =>
    rw [if_neg Bool.false_ne_true] at qk ⊢
    exact w _ _ ⟨_, M3, S3, qk, s123, m3, .bl false⟩
theorem we_chain {op op' : CmpOp} (h : WE X Γ M a fun da M1 => WE X Γ M1 b fun db M2 => OD X (compareOp op) da db M2 fun d M3 => ∃ k, d = .bl k ∧
      (if k = true then WE X Γ M3 c fun dc M4 => OD X (compareOp op') db dc M4 Q else Q (.bl false) M3)) (hm : lastMarks [op, op'] [b, c] = false := by with_unfolding_all rfl) : WE X Γ M (.Compare a [op, op'] [b, c] pos) Q := by
  intro S σ H hΓ hM
  exact tE_of (pe_chain or_c or_c pe_c pe_c pe_c hm) (chainR hΓ hM h fun _ _ p => p)
/-- a test that is a value's truth -/
def TrD (M : Mem) : D → Bool → Prop
  | .non, k => k = false
  | .bl b, k => k = b
  | .int i, k => k = (i != 0)
  | .lst ds, k => k = !ds.isEmpty
  | .tup ds, k => k = !ds.isEmpty
  | .ref a, k => ∃ ds f, At a M (.lst ds) f ∧ k = !ds.isEmpty
  | .str x, k => x.length ≤ sizeLine ∧ k = ((x.length : Int) != 0)
  | _, _ => False
theorem reps_empty {K : PySem.W.Frag} {S : Hp} {vs : List V} {ds : List D} (h : Reps K S vs ds) : vs.isEmpty = ds.isEmpty := by
  cases h <;> rfl
theorem TrD.tru {K : PySem.W.Frag} {S H : Hp} {k : Bool} {v : V} : ∀ {d : D}, TrD M d k → MO K S M H → Rep K S v d → TruV K v H k
  | .non, h, m, r => by cases r; exact h
  | .bl b, h, m, r => by cases r; exact h
  | .int i, h, m, r => by cases r; exact h
  | .str x, h, m, r => by cases r; exact h
  | .lst ds, h, m, r => by
    obtain ⟨a, xs, rfl, e, rs⟩ := r.lst_inv
    exact .inl ⟨xs, .of (m.sub _ _ e), by rw [reps_empty rs]; exact h⟩
  | .tup ds, h, m, r => by
    obtain ⟨a, xs, rfl, e, rs⟩ := r.tup_inv
    exact .inr (.inl ⟨xs, .of (m.sub _ _ e), by rw [reps_empty rs]; exact h⟩)
  | .ref a, ⟨ds, f, h, e⟩, m, r => by
    obtain ⟨xs, hx, rs⟩ := m.at_ok h
    rw [r.ref_inv]
    exact .inl ⟨xs, .of hx, by rw [reps_empty rs]; exact e⟩
  | .slst _, h, _, _ => h.elim
theorem wt_truth (h : WE X Γ M a fun d M1 => ∃ k, TrD M1 d k ∧ QB k M1) (he : ∀ whole, isTrue a X.env whole = (do let v ← whole; standAt a.pos; holding [v] (truthy v)) := by intro _; rfl) : WT X Γ M a QB := by
  intro S σ H hΓ hM
  refine tT_of (pt_truth pe_c he) (tE_post (h S σ H hΓ hM) fun d M1 S1 v H1 ⟨k, t, q⟩ s1 m1 r1 => ?_)
  exact ⟨k, t.tru m1 r1, M1, S1, q, s1, m1⟩
theorem tT_post {S : Hp} {σ : L2.St} {H : Hp} {R : Bool → Hp → Prop} (h : tT X e σ H (PostB X.K S QB)) (m : ∀ k M S' H', QB k M → Same S S' → MO X.K S' M H' → R k H') : tT X e σ H R :=
  tT_mono h fun k H' ⟨M, S', q, s, mo⟩ => m k M S' H' q s mo
theorem wt_not (h : WT X Γ M a fun k M1 => QB (!k) M1) : WT X Γ M (.UnaryOp .Not a pos) QB := by
  intro S σ H hΓ hM
  exact tT_of (pt_not pt_c) (tT_post (h S σ H hΓ hM) fun k M1 S1 H1 q s1 m1 => ⟨M1, S1, q, s1, m1⟩)
theorem ww_and1 (h : WT X Γ M a QB) : WW X Γ M (.BoolOp .And [a] pos) QB := fun S σ H hΓ hM => tW_of (pw_and1 pt_c) (h S σ H hΓ hM)
theorem ww_or1 (h : WT X Γ M a QB) : WW X Γ M (.BoolOp .Or [a] pos) QB := fun S σ H hΓ hM => tW_of (pw_or1 pt_c) (h S σ H hΓ hM)
theorem ww_and (h : WT X Γ M a fun k M1 => if k = true then WW X Γ M1 (.BoolOp .And (b :: es) pos) QB else QB false M1) : WW X Γ M (.BoolOp .And (a :: b :: es) pos) QB := by
  intro S σ H hΓ hM
  refine tW_of (pw_and pt_c pw_c) (tT_post (h S σ H hΓ hM) fun k M1 S1 H1 q s1 m1 => ?_)
  cases k with
  | true => exact tW_mono (q S1 σ H1 (hΓ.mono s1) m1) fun _ _ p => PostB.weak p s1
  | false => exact ⟨M1, S1, q, s1, m1⟩
theorem ww_or (h : WT X Γ M a fun k M1 => if k = true then QB true M1 else WW X Γ M1 (.BoolOp .Or (b :: es) pos) QB) : WW X Γ M (.BoolOp .Or (a :: b :: es) pos) QB := by
  intro S σ H hΓ hM
  refine tW_of (pw_or pt_c pw_c) (tT_post (h S σ H hΓ hM) fun k M1 S1 H1 q s1 m1 => ?_)
  cases k with
  | true => exact ⟨M1, S1, q, s1, m1⟩
  | false => exact tW_mono (q S1 σ H1 (hΓ.mono s1) m1) fun _ _ p => PostB.weak p s1
theorem wt_bool {op} (h : WW X Γ M (.BoolOp op es pos) QB) : WT X Γ M (.BoolOp op es pos) QB := fun S σ H hΓ hM pins s I => h S σ H hΓ hM _ pins s I
/-- .. as values -/
theorem we_one {op} (h : WE X Γ M a Q) : WE X Γ M (.BoolOp op [a] pos) Q := fun S σ H hΓ hM => tE_of (pe_one pe_c) (h S σ H hΓ hM)
theorem we_and (h : WE X Γ M a fun d M1 => ∃ k, d = .bl k ∧ if k = true then WE X Γ M1 (.BoolOp .And (b :: es) pos) Q else Q (.bl false) M1) : WE X Γ M (.BoolOp .And (a :: b :: es) pos) Q := by
  intro S σ H hΓ hM
  refine tE_of (pe_and pe_c pe_c) (tE_post (h S σ H hΓ hM) fun d M1 S1 v H1 q s1 m1 r1 => ?_)
  obtain ⟨k, rfl, q⟩ := q
  refine ⟨k, r1.bl_inv, ?_⟩
  cases k with
  | true => exact tE_mono (q S1 σ H1 (hΓ.mono s1) m1) fun _ _ p => p.weak s1
  | false => exact ⟨_, M1, S1, q, s1, m1, .bl false⟩
theorem we_or (h : WE X Γ M a fun d M1 => ∃ k, d = .bl k ∧ if k = true then Q (.bl true) M1 else WE X Γ M1 (.BoolOp .Or (b :: es) pos) Q) : WE X Γ M (.BoolOp .Or (a :: b :: es) pos) Q := by
  intro S σ H hΓ hM
  refine tE_of (pe_or pe_c pe_c) (tE_post (h S σ H hΓ hM) fun d M1 S1 v H1 q s1 m1 r1 => ?_)
  obtain ⟨k, rfl, q⟩ := q
  refine ⟨k, r1.bl_inv, ?_⟩
  cases k with
  | false => exact tE_mono (q S1 σ H1 (hΓ.mono s1) m1) fun _ _ p => p.weak s1
  | true => exact ⟨_, M1, S1, q, s1, m1, .bl true⟩
theorem we_not (h : WE X Γ M a fun d M1 => ∃ k, d = .bl k ∧ Q (.bl (!k)) M1) : WE X Γ M (.UnaryOp .Not a pos) Q := by
  intro S σ H hΓ hM
  refine tE_of (pe_not pe_c) (tE_post (h S σ H hΓ hM) fun d M1 S1 v H1 q s1 m1 r1 => ?_)
  obtain ⟨k, rfl, q⟩ := q
  exact ⟨k, r1.bl_inv, _, M1, S1, q, s1, m1, .bl _⟩
theorem we_neg (h : WE X Γ M a fun d M1 => ∃ i, d = .int i ∧ Q (.int (-i)) M1) : WE X Γ M (.UnaryOp .USub a pos) Q := by
  intro S σ H hΓ hM
  refine tE_of (pe_un un_neg pe_c) (tE_post (h S σ H hΓ hM) fun d M1 S1 v H1 q s1 m1 r1 => ?_)
  obtain ⟨i, rfl, q⟩ := q
  exact ⟨i, r1.int_inv, _, M1, S1, q, s1, m1, .int _⟩
theorem we_if (h : WT X Γ M c fun k M1 => if k = true then WE X Γ M1 a Q else WE X Γ M1 b Q) : WE X Γ M (.IfExp c a b pos) Q := by
  intro S σ H hΓ hM
  refine tE_of (pe_ifExp pt_c pe_c pe_c) (tT_post (h S σ H hΓ hM) fun k M1 S1 H1 q s1 m1 => ?_)
  cases k with
  | true => exact tE_mono (q S1 σ H1 (hΓ.mono s1) m1) fun _ _ p => p.weak s1
  | false => exact tE_mono (q S1 σ H1 (hΓ.mono s1) m1) fun _ _ p => p.weak s1

/-! ### arguments, displays -/
theorem tA_post {S : Hp} {σ : L2.St} {H : Hp} {R : List V → Hp → Prop} (h : tA X es σ H (PostA X.K S QA)) (m : ∀ ds M S' vs H', QA ds M → Same S S' → MO X.K S' M H' → Reps X.K S' vs ds → R vs H') : tA X es σ H R :=
  tA_mono h fun v H' ⟨d, M, S', q, s, mo, r⟩ => m d M S' v H' q s mo r
theorem wa_nil (q : QA [] M) : WA X Γ M [] QA := fun S σ H hΓ hM => tA_of pa_nil ⟨[], M, S, q, .refl _, hM, .nil⟩
theorem wa_cons (h : WE X Γ M e fun d M1 => WA X Γ M1 es fun ds M2 => QA (d :: ds) M2) (hs : starEach (e :: es) X.env = (false, eval e X.env) :: starEach es X.env := by rfl) : WA X Γ M (e :: es) QA := by
  intro S σ H hΓ hM
  refine tA_of (pa_cons pe_c pa_c hs) (tE_post (h S σ H hΓ hM) fun d M1 S1 v H1 q s1 m1 r1 => ?_)
  exact tA_post (q S1 σ H1 (hΓ.mono s1) m1) fun ds M2 S2 vs H2 q2 s2 m2 r2 => ⟨_, M2, S2, q2, s1.trans s2, m2, .cons (r1.mono s2) r2⟩
theorem we_tup {x1} (h : WA X Γ M es fun ds M1 => ds.length ≤ sizeLine ∧ Q (.tup ds) M1) : WE X Γ M (.Tuple es x1 pos) Q := by
  intro S σ H hΓ hM
  refine tE_of (pe_tup pa_c) (tA_post (h S σ H hΓ hM) fun ds M1 S1 vs H1 ⟨hl, q⟩ s1 m1 r1 => ⟨by rw [r1.length]; exact hl, fun p hp => ?_⟩)
  obtain ⟨s2, m2⟩ := m1.laid (o := .tup vs) hp
  exact ⟨_, M1, _, q, s1.trans s2, m2, .tup upd_same (r1.mono s2)⟩
theorem we_lst (h : WA X Γ M es fun ds M1 => ds.length ≤ sizeLine ∧ Q (.lst ds) M1) : WE X Γ M (.List es pos) Q := by
  intro S σ H hΓ hM
  refine tE_of (pe_lst pa_c) (tA_post (h S σ H hΓ hM) fun ds M1 S1 vs H1 ⟨hl, q⟩ s1 m1 r1 => ⟨by rw [r1.length]; exact hl, fun p hp => ?_⟩)
  obtain ⟨s2, m2⟩ := m1.laid (o := .lst vs) hp
  exact ⟨_, M1, _, q, s1.trans s2, m2, .lst upd_same (r1.mono s2)⟩
/-- a list that will be changed -/
theorem we_lstO (h : WA X Γ M es fun ds M1 => ds.length ≤ sizeLine ∧ ∀ p, Q (.ref p) ((p, .lst ds) :: M1)) : WE X Γ M (.List es pos) Q := by
  intro S σ H hΓ hM
  refine tE_of (pe_lst pa_c) (tA_post (h S σ H hΓ hM) fun ds M1 S1 vs H1 ⟨hl, q⟩ s1 m1 r1 => ⟨by rw [r1.length]; exact hl, fun p hp => ?_⟩)
  exact ⟨_, _, S1, q p, s1, m1.alloc hp ⟨vs, upd_same, r1⟩, .ref p⟩
/-- an owned list is owned no more -/
theorem WE.frz (h : WE X Γ M e fun d M1 => (∃ p ds M2, d = .ref p ∧ M1 = (p, .lst ds) :: M2 ∧ Q (.lst ds) M2) ∨ Q d M1) : WE X Γ M e Q := by
  intro S σ H hΓ hM
  refine tE_mono (h S σ H hΓ hM) ?_
  rintro v H' ⟨d, M1, S1, q | q, s1, m1, r1⟩
  · obtain ⟨p, ds, M2, rfl, rfl, q⟩ := q
    obtain ⟨S2, s2, m2, r2⟩ := m1.freeze
    rw [← r1.ref_inv] at r2
    exact ⟨_, M2, S2, q, s1.trans s2, m2, r2⟩
  · exact ⟨d, M1, S1, q, s1, m1, r1⟩
end
end DL

/-! Core3: operators, subscripts, slices, equality, repr, calls. -/
namespace DL
open PySem PySem.Spec PyProof.Rows L2

section
variable {X : Cx} {Γ : VEnv} {M : Mem} {Q : D → Mem → Prop} {x : Str} {pos p apos : Pos} {a b c e : Expr} {es : List Expr} {Ln Vn Bn Fn : List Str}

theorem od_of {f : Value → Value → Sem Value} {da db : D} {r : R2} (ho : OpR X f r) (h : ∀ S H x y, Rep X.K S x da → Rep X.K S y db → MO X.K S M H → r x y H (Post X.K S Q)) : OD X f da db M Q :=
  fun S H x y rx ry m pins s σ v u I rv ru => ho pins s σ H x y v u _ I rv ru (h S H x y rx ry m)

/-! ### ints -/
theorem od_I {f : Value → Value → Sem Value} {C : Int → Int → Prop} {g : Int → Int → V} {g' : Int → Int → D} (ho : OpR X f (rI C g)) (hg : ∀ S i j, Rep X.K S (g i j) (g' i j)) {i j : Int} (hc : C i j) (q : Q (g' i j) M) : OD X f (.int i) (.int j) M Q :=
  od_of ho fun S H x y rx ry m => ⟨i, j, rx.int_inv, ry.int_inv, hc, .of m (hg S i j) q⟩
theorem od_I0 {f : Value → Value → Sem Value} {g : Int → Int → V} {g' : Int → Int → D} (ho : OpR X f (rI0 g)) (hg : ∀ S i j, Rep X.K S (g i j) (g' i j)) {i j : Int} (q : Q (g' i j) M) : OD X f (.int i) (.int j) M Q :=
  od_of ho fun S H x y rx ry m => ⟨i, j, rx.int_inv, ry.int_inv, .of m (hg S i j) q⟩
theorem od_add {i j : Int} (q : Q (.int (i + j)) M) : OD X (binaryOp .Add) (.int i) (.int j) M Q := od_I0 op_add (fun _ _ _ => .int _) q
theorem od_sub {i j : Int} (q : Q (.int (i - j)) M) : OD X (binaryOp .Sub) (.int i) (.int j) M Q := od_I0 op_sub (fun _ _ _ => .int _) q
theorem od_mul {i j : Int} (hc : CMul i j) (q : Q (.int (i * j)) M) : OD X (binaryOp .Mult) (.int i) (.int j) M Q := od_I op_mul (fun _ _ _ => .int _) hc q
theorem od_fdiv {i j : Int} (hc : CDiv i j) (q : Q (.int (i / j)) M) : OD X (binaryOp .FloorDiv) (.int i) (.int j) M Q := od_I op_fdiv (fun _ _ _ => .int _) hc q
theorem od_mod {i j : Int} (hc : 0 < j) (q : Q (.int (i % j)) M) : OD X (binaryOp .Mod) (.int i) (.int j) M Q := od_I op_mod (fun _ _ _ => .int _) hc q
theorem od_pow {i j : Int} (hc : CPow i j) (q : Q (.int (i ^ j.toNat)) M) : OD X (binaryOp .Pow) (.int i) (.int j) M Q := od_I op_pow (fun _ _ _ => .int _) hc q
theorem od_lt {i j : Int} (q : Q (.bl (decide (i < j))) M) : OD X (compareOp .Lt) (.int i) (.int j) M Q := od_I0 op_lt (fun _ _ _ => .bl _) q
theorem od_le {i j : Int} (q : Q (.bl (decide (i ≤ j))) M) : OD X (compareOp .LtE) (.int i) (.int j) M Q := od_I0 op_le (fun _ _ _ => .bl _) q
theorem od_gt {i j : Int} (q : Q (.bl (decide (j < i))) M) : OD X (compareOp .Gt) (.int i) (.int j) M Q := od_I0 op_gt (fun _ _ _ => .bl _) q
theorem od_ge {i j : Int} (q : Q (.bl (decide (j ≤ i))) M) : OD X (compareOp .GtE) (.int i) (.int j) M Q := od_I0 op_ge (fun _ _ _ => .bl _) q
theorem dec_i {i j : Int} : decide (V.int i = V.int j) = decide (i = j) := by rw [dec_int, Bool.beq_eq_decide_eq]
theorem dec_s {i j : Str} : decide (V.str i = V.str j) = decide (i = j) := by rw [dec_str, Bool.beq_eq_decide_eq]
theorem od_eqI {i j : Int} (q : Q (.bl (decide (i = j))) M) : OD X (compareOp .Eq) (.int i) (.int j) M Q :=
  od_of op_eq fun S H x y rx ry m => by rw [rx.int_inv, ry.int_inv]; exact ⟨rfl, by rw [dec_i]; exact .of m (.bl _) q⟩
theorem od_neI {i j : Int} (q : Q (.bl (!decide (i = j))) M) : OD X (compareOp .NotEq) (.int i) (.int j) M Q :=
  od_of op_ne fun S H x y rx ry m => by rw [rx.int_inv, ry.int_inv]; exact ⟨rfl, by rw [dec_i]; exact .of m (.bl _) q⟩
theorem od_eqS {i j : Str} (q : Q (.bl (decide (i = j))) M) : OD X (compareOp .Eq) (.str i) (.str j) M Q :=
  od_of op_eq fun S H x y rx ry m => by rw [rx.str_inv, ry.str_inv]; exact ⟨rfl, by rw [dec_s]; exact .of m (.bl _) q⟩
theorem od_neS {i j : Str} (q : Q (.bl (!decide (i = j))) M) : OD X (compareOp .NotEq) (.str i) (.str j) M Q :=
  od_of op_ne fun S H x y rx ry m => by rw [rx.str_inv, ry.str_inv]; exact ⟨rfl, by rw [dec_s]; exact .of m (.bl _) q⟩
def isNonD : D → Bool
  | .non => true
  | _ => false
/-! ### lists and tuples -/
theorem post_lst {K : PySem.W.Frag} {S H : Hp} {xs : List V} {ds : List D} (m : MO K S M H) (r : Reps K S xs ds) (q : Q (.lst ds) M) : ∀ p, H p = none → Post K S Q (.ref p) (upd H p (.lst xs)) := fun p hp => by
  obtain ⟨s2, m2⟩ := m.laid (o := .lst xs) hp
  exact ⟨_, M, _, q, s2, m2, .lst upd_same (r.mono s2)⟩
theorem post_tup {K : PySem.W.Frag} {S H : Hp} {xs : List V} {ds : List D} (m : MO K S M H) (r : Reps K S xs ds) (q : Q (.tup ds) M) : ∀ p, H p = none → Post K S Q (.ref p) (upd H p (.tup xs)) := fun p hp => by
  obtain ⟨s2, m2⟩ := m.laid (o := .tup xs) hp
  exact ⟨_, M, _, q, s2, m2, .tup upd_same (r.mono s2)⟩
theorem post_own {K : PySem.W.Frag} {S H : Hp} {xs : List V} {ds : List D} (m : MO K S M H) (r : Reps K S xs ds) (q : ∀ p, Q (.ref p) ((p, .lst ds) :: M)) : ∀ p, H p = none → Post K S Q (.ref p) (upd H p (.lst xs)) := fun p hp =>
  ⟨_, _, S, q p, .refl _, m.alloc hp ⟨xs, upd_same, r⟩, .ref p⟩
theorem od_cat {da db : D} {xs ys : List D} (ha : IsL M da xs) (hb : IsL M db ys) (hl : xs.length + ys.length ≤ sizeLine) (q : Q (.lst (xs ++ ys)) M) : OD X (binaryOp .Add) da db M Q :=
  od_of op_cat fun S H x y rx ry m => by
    obtain ⟨pa, us, rfl, h1, r1⟩ := ha.get m rx
    obtain ⟨pb, ws, rfl, h2, r2⟩ := hb.get m ry
    exact ⟨pa, pb, us, ws, rfl, rfl, h1, h2, by rw [r1.length, r2.length]; exact hl, post_lst m (r1.append r2) q⟩
theorem reps_rep {K : PySem.W.Frag} {S : Hp} {xs : List V} {ds : List D} (r : Reps K S xs ds) : ∀ n : Nat, Reps K S (List.replicate n xs).flatten (List.replicate n ds).flatten
  | 0 => .nil
  | n + 1 => by
    rw [List.replicate_succ, List.replicate_succ, List.flatten_cons, List.flatten_cons]
    exact r.append (reps_rep r n)
theorem od_rep {da : D} {xs : List D} {k : Int} (ha : IsL M da xs) (hk : 0 ≤ k ∧ k ≤ 1000000) (hl : xs.length * k.toNat ≤ sizeLine) (q : Q (.lst (List.replicate k.toNat xs).flatten) M) : OD X (binaryOp .Mult) da (.int k) M Q :=
  od_of op_rep fun S H x y rx ry m => by
    obtain ⟨pa, us, rfl, h1, r1⟩ := ha.get m rx
    exact ⟨pa, k, us, rfl, ry.int_inv, h1, by omega, by omega, by rw [r1.length]; exact hl, post_lst m (reps_rep r1 _) q⟩
/-! ### in, of ints and of texts -/
theorem inV_ints {i : Int} {ns : List Int} : inV (.int i) (ns.map V.int) = decide (i ∈ ns) := by
  unfold inV
  rw [List.any_map, Bool.eq_iff_iff]
  simp only [List.any_eq_true, decide_eq_true_eq, Function.comp_apply]
  constructor
  · rintro ⟨y, hy, e⟩
    have e' : y = i := by simpa [eqV] using e
    exact e' ▸ hy
  · exact fun h => ⟨i, h, by simp [eqV]⟩
theorem inV_strs {i : Str} {ns : List Str} : inV (.str i) (ns.map V.str) = decide (i ∈ ns) := by
  unfold inV
  rw [List.any_map, Bool.eq_iff_iff]
  simp only [List.any_eq_true, decide_eq_true_eq, Function.comp_apply]
  constructor
  · rintro ⟨y, hy, e⟩
    have e' : y = i := by simpa [eqV] using e
    exact e' ▸ hy
  · exact fun h => ⟨i, h, by simp [eqV]⟩
theorem flat_ints (ns : List Int) : (ns.map V.int).all flatV = true := by rw [List.all_map]; exact List.all_eq_true.mpr fun _ _ => rfl
theorem flat_strs (ns : List Str) : (ns.map V.str).all flatV = true := by rw [List.all_map]; exact List.all_eq_true.mpr fun _ _ => rfl
theorem od_inI {i : Int} {d : D} {ns : List Int} (h : IsR M d (ns.map D.int) ∨ d = .tup (ns.map D.int)) (q : Q (.bl (decide (i ∈ ns))) M) : OD X (compareOp .In) (.int i) d M Q :=
  od_of op_in_seq fun S H x y rx ry m => by
    rw [rx.int_inv]
    have fin : Post X.K S Q (.bl (if false = true then !inV (.int i) (ns.map V.int) else inV (.int i) (ns.map V.int))) H := by
      rw [if_neg Bool.false_ne_true, inV_ints]; exact .of m (.bl _) q
    rcases h with h | rfl
    · obtain ⟨pb, ws, rfl, h2, r2⟩ := h.get m ry
      rw [r2.ints_inv] at h2
      exact ⟨pb, _, rfl, .inl h2, rfl, flat_ints ns, fin⟩
    · obtain ⟨pb, ws, rfl, h2, r2⟩ := Rep.tup_get m ry
      rw [r2.ints_inv] at h2
      exact ⟨pb, _, rfl, .inr (.of h2), rfl, flat_ints ns, fin⟩
theorem od_notInI {i : Int} {d : D} {ns : List Int} (h : IsR M d (ns.map D.int) ∨ d = .tup (ns.map D.int)) (q : Q (.bl (!decide (i ∈ ns))) M) : OD X (compareOp .NotIn) (.int i) d M Q :=
  od_of op_notIn_seq fun S H x y rx ry m => by
    rw [rx.int_inv]
    have fin : Post X.K S Q (.bl (if true = true then !inV (.int i) (ns.map V.int) else inV (.int i) (ns.map V.int))) H := by
      rw [if_pos rfl, inV_ints]; exact .of m (.bl _) q
    rcases h with h | rfl
    · obtain ⟨pb, ws, rfl, h2, r2⟩ := h.get m ry
      rw [r2.ints_inv] at h2
      exact ⟨pb, _, rfl, .inl h2, rfl, flat_ints ns, fin⟩
    · obtain ⟨pb, ws, rfl, h2, r2⟩ := Rep.tup_get m ry
      rw [r2.ints_inv] at h2
      exact ⟨pb, _, rfl, .inr (.of h2), rfl, flat_ints ns, fin⟩
theorem od_inS {i : Str} {d : D} {ns : List Str} (h : IsR M d (ns.map D.str) ∨ d = .tup (ns.map D.str)) (q : Q (.bl (decide (i ∈ ns))) M) : OD X (compareOp .In) (.str i) d M Q :=
  od_of op_in_seq fun S H x y rx ry m => by
    rw [rx.str_inv]
    have fin : Post X.K S Q (.bl (if false = true then !inV (.str i) (ns.map V.str) else inV (.str i) (ns.map V.str))) H := by
      rw [if_neg Bool.false_ne_true, inV_strs]; exact .of m (.bl _) q
    rcases h with h | rfl
    · obtain ⟨pb, ws, rfl, h2, r2⟩ := h.get m ry
      rw [r2.strs_inv] at h2
      exact ⟨pb, _, rfl, .inl h2, rfl, flat_strs ns, fin⟩
    · obtain ⟨pb, ws, rfl, h2, r2⟩ := Rep.tup_get m ry
      rw [r2.strs_inv] at h2
      exact ⟨pb, _, rfl, .inr (.of h2), rfl, flat_strs ns, fin⟩
/-! ### data of any depth -/
mutual
inductive Py (M : Mem) : D → PyData → Prop
  | non : Py M .non .none
  | bl (b : Bool) : Py M (.bl b) (.bool b)
  | int (i : Int) : Py M (.int i) (.int i)
  | str (x : Str) : Py M (.str x) (.str x)
  | lst {ds : List D} {ps : List PyData} : Pys M ds ps → Py M (.lst ds) (.list ps)
  | slst {ds : List D} {ps : List PyData} : Pys M ds ps → Py M (.slst ds) (.list ps)
  | tup {ds : List D} {ps : List PyData} : Pys M ds ps → Py M (.tup ds) (.tuple ps)
  | ref {a : Addr} {ds : List D} {ps : List PyData} {f : Cell → Mem} : At a M (.lst ds) f → Pys M ds ps → Py M (.ref a) (.list ps)
inductive Pys (M : Mem) : List D → List PyData → Prop
  | nil : Pys M [] []
  | cons {d : D} {ds : List D} {p : PyData} {ps : List PyData} : Py M d p → Pys M ds ps → Pys M (d :: ds) (p :: ps)
end
mutual
theorem Py.dp {K : PySem.W.Frag} {S H : Hp} (m : MO K S M H) : ∀ {d : D} {p : PyData} {v : V}, Py M d p → Rep K S v d → Dp K H v p
  | _, _, _, .non, r => by cases r; exact .non
  | _, _, _, .bl b, r => by cases r; exact .bl b
  | _, _, _, .int i, r => by cases r; exact .int i
  | _, _, _, .str x, r => by cases r; exact .str x
  | _, _, _, .lst h, r => by
    obtain ⟨a, xs, rfl, e, rs⟩ := r.lst_inv
    exact .lst (.of (m.sub _ _ e)) (Pys.dp m h rs)
  | _, _, _, .slst h, r => by
    obtain ⟨a, xs, rfl, e, rs⟩ := r.slst_inv
    exact .lst (m.sub.seq e) (Pys.dp m h rs)
  | _, _, _, .tup h, r => by
    obtain ⟨a, xs, rfl, e, rs⟩ := r.tup_inv
    exact .tup (.of (m.sub _ _ e)) (Pys.dp m h rs)
  | _, _, _, .ref g h, r => by
    obtain ⟨xs, e, rs⟩ := m.at_ok g
    rw [r.ref_inv]
    exact .lst (.of e) (Pys.dp m h rs)
theorem Pys.dp {K : PySem.W.Frag} {S H : Hp} (m : MO K S M H) : ∀ {ds : List D} {ps : List PyData} {vs : List V}, Pys M ds ps → Reps K S vs ds → DpAll K H vs ps
  | _, _, _, .nil, r => by cases r; exact .nil
  | _, _, _, .cons h t, .cons r rs => .cons (Py.dp m h r) (Pys.dp m t rs)
end
theorem Pys.of_map {α : Type} {f : α → D} {g : α → PyData} {l : List α} (h : ∀ a ∈ l, Py M (f a) (g a)) : Pys M (l.map f) (l.map g) := by
  induction l with
  | nil => exact .nil
  | cons a l ih => exact .cons (h a List.mem_cons_self) (ih fun b hb => h b (List.mem_cons_of_mem _ hb))
theorem Pys.append {ds es : List D} {ps qs : List PyData} (h : Pys M ds ps) (g : Pys M es qs) : Pys M (ds ++ es) (ps ++ qs) := by
  induction ds generalizing ps with
  | nil => cases h; exact g
  | cons d ds ih =>
    cases h with
    | cons a b => exact .cons a (ih b)
theorem od_eqP {d e : D} {p q : PyData} (st : Stat X Ln Vn Bn Fn) (h1 : Py M d p) (h2 : Py M e q) (s1 : SeqAt.shaped p = true) (s2 : SeqAt.shaped q = true) (k : Q (.bl (PyData.eqv p q)) M) : OD X (compareOp .Eq) d e M Q :=
  od_of (op_eqD (by have := st.hu; omega)) fun S H x y rx ry m => ⟨p, q, h1.dp m rx, h2.dp m ry, s1, s2, .of m (.bl _) k⟩
theorem od_neP {d e : D} {p q : PyData} (st : Stat X Ln Vn Bn Fn) (h1 : Py M d p) (h2 : Py M e q) (s1 : SeqAt.shaped p = true) (s2 : SeqAt.shaped q = true) (k : Q (.bl (!PyData.eqv p q)) M) : OD X (compareOp .NotEq) d e M Q :=
  od_of (op_neD (by have := st.hu; omega)) fun S H x y rx ry m => ⟨p, q, h1.dp m rx, h2.dp m ry, s1, s2, .of m (.bl _) k⟩
/-! ### subscripts -/
theorem atI_rep {K : PySem.W.Frag} {S : Hp} {xs : List V} {ds : List D} {i : Int} {d : D} (r : Reps K S xs ds) (h : atI ds i = some d) : ∃ v, atI xs i = some v ∧ Rep K S v d := by
  unfold atI at h ⊢
  rw [r.length]
  cases e : ixN ds.length i with
  | none => rw [e] at h; cases h
  | some j =>
    rw [e] at h
    exact r.get h
theorem atI_ofNat {α : Type} {xs : List α} {i : Int} {d : α} (h0 : 0 ≤ i) (h : xs[i.toNat]? = some d) : atI xs i = some d := by
  have e := atI_nat h
  rw [Int.toNat_of_nonneg h0] at e
  exact e
/-- d[i] of a list, a tuple, a text -/
def IxD (M : Mem) (d : D) (i : Int) (r : D) : Prop := (∃ ds, (IsR M d ds ∨ d = .tup ds) ∧ atI ds i = some r) ∨ ∃ (z : Str) (c : Nat), d = .str z ∧ z.length ≤ sizeLine ∧ atI z.cps.toList i = some c ∧ r = .str ⟨#[c]⟩
theorem we_ix (h : WE X Γ M a fun da M1 => WE X Γ M1 b fun db M2 => ∃ i r, db = .int i ∧ IxD M2 da i r ∧ Q r M2) (hs : PlainIx b := by exact fun _ _ => rfl) : WE X Γ M (.Subscript a b pos) Q := by
  intro S σ H hΓ hM
  refine tE_of (pe_ix ix_seq pe_c pe_c hs) (two hΓ hM h fun x y H2 S2 da db M2 s m rx ry q => ?_)
  obtain ⟨i, r, rfl, hi, q⟩ := q
  rcases hi with ⟨ds, hd | rfl, he⟩ | ⟨z, c, rfl, hz, he, rfl⟩
  · obtain ⟨pa, us, rfl, h1, r1⟩ := hd.get m rx
    obtain ⟨v, hv, rv⟩ := atI_rep r1 he
    exact .inl ⟨pa, us, i, v, rfl, ry.int_inv, h1, hv, r, M2, S2, q, s, m, rv⟩
  · obtain ⟨pa, us, rfl, h1, r1⟩ := Rep.tup_get m rx
    obtain ⟨v, hv, rv⟩ := atI_rep r1 he
    exact .inr (.inl ⟨pa, us, i, v, rfl, ry.int_inv, .of h1, hv, r, M2, S2, q, s, m, rv⟩)
  · exact .inr (.inr ⟨z, i, c, rx.str_inv, ry.int_inv, hz, he, _, M2, S2, q, s, m, .str _⟩)

end
end DL

/-! Core4: slices, calls of defs and built-ins, methods, dicts. -/
namespace DL
open PySem PySem.Spec PyProof.Rows L2

section
variable {X : Cx} {Γ : VEnv} {M : Mem} {Q : D → Mem → Prop} {QB : Bool → Mem → Prop} {x : Str} {pos p p2 apos : Pos} {a b c e o : Expr} {es : List Expr} {Ln Vn Bn Fn : List Str}

/-! ### slices -/
def cutD {α : Type} (xs : List α) (lo hi : Option Int) : List α := (xs.drop (HT.sIx xs.length 0 lo)).take (HT.sIx xs.length xs.length hi - HT.sIx xs.length 0 lo)
theorem cut_rep {K : PySem.W.Frag} {S : Hp} {xs : List V} {ds : List D} (r : Reps K S xs ds) (lo hi : Option Int) : Reps K S (cutV xs lo hi) (cutD ds lo hi) := by
  unfold cutV cutD
  rw [r.length]
  exact (r.drop _).take _
def SlD (M : Mem) (d : D) (lo hi : Option Int) (r : D) : Prop := (∃ ds, IsR M d ds ∧ r = .lst (cutD ds lo hi)) ∨ (∃ ds, d = .tup ds ∧ r = .tup (cutD ds lo hi)) ∨ ∃ z : Str, d = .str z ∧ z.length ≤ sizeLine ∧ r = .str (cutS z lo hi)
def WO (X : Cx) (Γ : VEnv) (M : Mem) : Option Expr → (Option Int → Mem → Prop) → Prop
  | none, Q => Q none M
  | some e, Q => WE X Γ M e fun d M1 => ∃ i, d = .int i ∧ Q (some i) M1
def tO (X : Cx) : Option Expr → TO
  | none => tNoPart
  | some e => tPart (tE X e)
theorem po_c : ∀ o : Option Expr, PO X o (tO X o)
  | none => po_none
  | some _ => po_some pe_c
theorem tO_post {S : Hp} {σ : L2.St} {H : Hp} {R : Option Int → Hp → Prop} {QO : Option Int → Mem → Prop} : ∀ {o : Option Expr}, WO X Γ M o QO → SR X S σ Γ → MO X.K S M H → (∀ i M' S' H', QO i M' → Same S S' → MO X.K S' M' H' → R i H') → tO X o σ H R
  | none, h, hΓ, hM, m => m none M S H h (.refl _) hM
  | some e, h, hΓ, hM, m => tE_post (h S σ H hΓ hM) fun d M1 S1 v H1 ⟨i, ed, q⟩ s1 m1 r1 => ⟨i, by subst ed; exact r1.int_inv, m _ _ _ _ q s1 m1⟩
theorem we_slice {lo hi : Option Expr} (h : WE X Γ M e fun d M1 => WO X Γ M1 lo fun l M2 => WO X Γ M2 hi fun u M3 => ∃ r, SlD M3 d l u r ∧ Q r M3) : WE X Γ M (.Subscript e (.Slice lo hi none p2) pos) Q := by
  intro S σ H hΓ hM
  refine tE_of (pe_slice (SlR.or sl_list (SlR.or sl_tupA sl_str)) pe_c (po_c lo) (po_c hi)) ?_
  refine tE_post (h S σ H hΓ hM) fun d M1 S1 x H1 q1 s1 m1 r1 => ?_
  refine tO_post q1 (hΓ.mono s1) m1 fun l M2 S2 H2 q2 s2 m2 => ?_
  refine tO_post q2 ((hΓ.mono s1).mono s2) m2 fun u M3 S3 H3 q3 s3 m3 => ?_
  obtain ⟨r, hr, q⟩ := q3
  have rx := (r1.mono s2).mono s3
  have s13 := (s1.trans s2).trans s3
  rcases hr with ⟨ds, hd, rfl⟩ | ⟨ds, rfl, rfl⟩ | ⟨z, rfl, hz, rfl⟩
  · obtain ⟨pa, us, rfl, h1, r1⟩ := hd.get m3 rx
    exact .inl ⟨pa, us, rfl, h1, fun p hp => (post_lst m3 (cut_rep r1 l u) q p hp).weak s13⟩
  · obtain ⟨pa, us, rfl, h1, r1⟩ := Rep.tup_inv rx
    refine .inr (.inl ⟨pa, us, rfl, .of (m3.sub _ _ h1), fun e => ?_, fun _ p hp => (post_tup m3 (cut_rep r1 l u) q p hp).weak s13⟩)
    have e2 : cutV us l u = us := by unfold cutV; rw [e.1, e.2, List.drop_zero, Nat.sub_zero, List.take_length]
    have r2 := cut_rep r1 l u
    rw [e2] at r2
    exact ⟨_, M3, S3, q, s13, m3, .tup h1 r2⟩
  · exact .inr (.inr ⟨z, rx.str_inv, hz, _, M3, S3, q, s13, m3, .str _⟩)
theorem cutD_from {α : Type} (xs : List α) (k : Nat) : cutD xs (some (k : Int)) none = xs.drop k := by
  unfold cutD
  rw [HT.sIx_none, HT.sIx_nat, ← List.length_drop, List.take_length]
  by_cases h : k ≤ xs.length
  · rw [Nat.min_eq_left h]
  · rw [Nat.min_eq_right (by omega), List.drop_length, List.drop_eq_nil_of_le (by omega)]
theorem cutD_to {α : Type} (xs : List α) (k : Nat) : cutD xs none (some (k : Int)) = xs.take k := by
  unfold cutD
  rw [HT.sIx_none, HT.sIx_nat, List.drop_zero, Nat.sub_zero]
  by_cases h : k ≤ xs.length
  · rw [Nat.min_eq_left h]
  · rw [Nat.min_eq_right (by omega), List.take_length, List.take_of_length_le (by omega)]

/-! ### calls of what the text defines -/
/-- what a def does with values by depth: from arguments and memory what must hold so that Q holds behind it -/
abbrev DSp := List D → Mem → (D → Mem → Prop) → Prop
def spD (K : PySem.W.Frag) (n : Nat) (G : DSp) : Sp := fun vs H R _ => vs.length = n ∧ ∃ S M ds Q, MO K S M H ∧ Reps K S vs ds ∧ G ds M Q ∧ ∀ v H', Post K S Q v H' → R v H'
/-- a def's promise where nothing is being shown (repr) -/
structure GOk (P : Program) (w : World) (K : PySem.W.Frag) (mg : Str → Option Value) (base : Heap) (k : Nat) (f : Addr) (fd : FuncData) (ps : List Str) (sp : Sp) : Prop where
  len : ∀ vs H Q E, sp vs H Q E → vs.length = ps.length
  run : ∀ (A : Around), A.guards = some [] → ∀ (outer : List Env) (s : Shared) (H : Hp) (args : Args) (us : List Value) (vs : List V) (Q : VK) (E : XK),
    Room k A → Env0 P w K mg base A outer s H → BindsTo s fd args (ps.zip us) → Vals vs us → sp vs H Q E → codeAny (model P w) A (.call (.ref f) args) (CR CX0 outer P w H s Q E) s
/-- the name x stands for a def of n parameters that promises G, by at most level k -/
structure Fs (P : Program) (w : World) (K : PySem.W.Frag) (mg : Str → Option Value) (base : Heap) (k : Nat) (x : Str) (n : Nat) (G : DSp) : Prop where
  ex : ∃ (f : Addr) (fd : FuncData) (ps : List Str), mg x = some (.ref f) ∧ PySem.W.keepIn K (.ref f) = true ∧ Binds K fd ps [] ∧ ps.length = n ∧ GOk P w K mg base k f fd ps (spD K n G)
theorem run_g {pins : List (Addr × Obj)} {σ : L2.St} {H : Hp} {s : Shared} {R : VK} {us : List Value} {vs : List V} {k : Nat} {f : Addr} {fd : FuncData} {ps : List Str} {sp : Sp} (G : GOk X.prog X.w X.K X.mg X.base k f fd ps sp) (gd : X.A.guards = some [])
    (hr : Room k X.A) (hb : Binds X.K fd ps []) (I : Inv X pins σ H s) (r : Vals vs us) (h : sp vs H R E0) : wpAny (model X.prog X.w) X.A (call (.ref f) us) (EP X pins σ R) X.xe s := by
  have hl : (us ++ []).length = ps.length := by rw [List.append_nil, ← r.length]; exact G.len _ _ _ _ h
  have hbb := hb s us I.kIn hl
  rw [List.append_nil] at hbb
  refine wpAny_call (codeAny_mono (G.run X.A gd X.stack s H ⟨us, []⟩ us vs R E0 hr I.env0 hbb r h) fun r s' hq => ?_)
  cases r with
  | error e => exact False.elim hq
  | ok fl =>
    cases fl <;> first | exact I.after hq | exact False.elim hq
theorem we_call {k n : Nat} {G : DSp} (h : Fs X.prog X.w X.K X.mg X.base k x n G) (hr : Room k X.A) (st : Stat X Ln Vn Bn Fn) (hx : x ∈ Fn) (ha : WA X Γ M (e :: es) fun ds M1 => ds.length = n ∧ G ds M1 Q)
    (he : starEach (e :: es) X.env = (false, eval e X.env) :: starEach es X.env := by rfl) (hpl : (backTo pos (starEach es X.env)).any (·.1) = false := by rfl) : WE X Γ M (.Call (.Name x p) (e :: es) [] pos) Q := by
  obtain ⟨f, fd, ps, hm, hk, hb, hn, Gk⟩ := h.ex
  intro S σ H hΓ hM
  intro pins s I
  refine wpAny_Call_Name_kw (ld_glob I (st.gfn x hx).1 hm ?_ (st.gfn x hx).2)
  refine PySem.W.callWith_K (first := []) (h₀ := X.base) I.ok.mod.kin hk (thn (ha S σ H hΓ hM pos pins s I) ?_) he hpl
  rintro us s1 ⟨vs, H1, I1, r, ds, M1, S1, ⟨hl, q⟩, s01, m1, r1⟩
  exact ⟨I1.kIn, run_g Gk st.gd hr hb I1 r ⟨by rw [r1.length]; exact hl, S1, M1, ds, Q, m1, r1, q, fun v H' z => z.weak s01⟩⟩
/-! ### calls of built-ins -/
def CD (X : Cx) (f : Value) (ds : List D) (M : Mem) (Q : D → Mem → Prop) : Prop := ∀ S H xs, Reps X.K S xs ds → MO X.K S M H → ∃ r, CallR X f r ∧ r xs H (Post X.K S Q)
theorem cd_of {f : Value} {ds : List D} {r : List V → Hp → VK → Prop} (hc : CallR X f r) (h : ∀ S H xs, Reps X.K S xs ds → MO X.K S M H → r xs H (Post X.K S Q)) : CD X f ds M Q := fun S H xs rx m => ⟨r, hc, h S H xs rx m⟩
def rCd (X : Cx) (f : Value) : List V → Hp → VK → Prop := fun xs H R => ∃ r, CallR X f r ∧ r xs H R
theorem cr_c {f : Value} : CallR X f (rCd X f) := fun pins s σ H xs us Q I rx ⟨r, hc, q⟩ => hc pins s σ H xs us Q I rx q
theorem we_blt {id : String} (st : Stat X Ln Vn Bn Fn) (hx : x ∈ Bn) (hv : bootBuiltins x = some (.builtin id)) (ha : WA X Γ M (e :: es) fun ds M1 => CD X (.builtin id) ds M1 Q) (he : starEach (e :: es) X.env = (false, eval e X.env) :: starEach es X.env := by rfl)
    (hpl : (backTo pos (starEach es X.env)).any (·.1) = false := by rfl) : WE X Γ M (.Call (.Name x p) (e :: es) [] pos) Q := by
  intro S σ H hΓ hM
  obtain ⟨g1, g2, g3, g4⟩ := st.blt x hx
  exact tE_of (pe_callB cr_c g1 g2 hv pa_c g3 g4 he hpl) (tA_post (ha S σ H hΓ hM) fun ds M1 S1 vs H1 q s1 m1 r1 => let ⟨r, hc, q⟩ := q S1 H1 vs r1 m1; ⟨fun xs H R => R = Post X.K S Q ∧ r xs H (Post X.K S1 Q), fun pins s σ H xs us R I rx ⟨eR, z⟩ => by
    subst eR
    exact thn (hc pins s σ H xs us _ I rx z) fun _ _ ⟨v, H', I', rv, q⟩ => ⟨v, H', I', rv, Post.weak q s1⟩, rfl, q⟩)
theorem we_bty {T : String} (st : Stat X Ln Vn Bn Fn) (hx : x ∈ Bn) (hv : bootBuiltins x = some (.type T)) (ha : WA X Γ M (e :: es) fun ds M1 => CD X (.type T) ds M1 Q) (he : starEach (e :: es) X.env = (false, eval e X.env) :: starEach es X.env := by rfl)
    (hpl : (backTo pos (starEach es X.env)).any (·.1) = false := by rfl) : WE X Γ M (.Call (.Name x p) (e :: es) [] pos) Q := by
  intro S σ H hΓ hM
  obtain ⟨g1, g2, g3, g4⟩ := st.blt x hx
  exact tE_of (pe_callTy cr_c g1 g2 hv pa_c g3 g4 he hpl) (tA_post (ha S σ H hΓ hM) fun ds M1 S1 vs H1 q s1 m1 r1 => let ⟨r, hc, q⟩ := q S1 H1 vs r1 m1; ⟨fun xs H R => R = Post X.K S Q ∧ r xs H (Post X.K S1 Q), fun pins s σ H xs us R I rx ⟨eR, z⟩ => by
    subst eR
    exact thn (hc pins s σ H xs us _ I rx z) fun _ _ ⟨v, H', I', rv, q⟩ => ⟨v, H', I', rv, Post.weak q s1⟩, rfl, q⟩)
theorem reps_one {K : PySem.W.Frag} {S : Hp} {xs : List V} {d : D} (r : Reps K S xs [d]) : ∃ v, xs = [v] ∧ Rep K S v d := by
  cases r with
  | cons h t => cases t; exact ⟨_, rfl, h⟩
theorem reps_two {K : PySem.W.Frag} {S : Hp} {xs : List V} {d1 d2 : D} (r : Reps K S xs [d1, d2]) : ∃ v w, xs = [v, w] ∧ Rep K S v d1 ∧ Rep K S w d2 := by
  cases r with
  | cons h t => obtain ⟨w, rfl, hw⟩ := reps_one t; exact ⟨_, _, rfl, h, hw⟩
theorem cd_len {d : D} {ds : List D} (h : IsR M d ds ∨ d = .tup ds) (q : Q (.int ds.length) M) : CD X (.builtin "len") [d] M Q := cd_of call_len_seq fun S H xs rx m => by
  obtain ⟨v, rfl, rv⟩ := reps_one rx
  rcases h with h | rfl
  · obtain ⟨pa, us, rfl, h1, r1⟩ := h.get m rv
    exact ⟨pa, us, rfl, .inl h1, by rw [r1.length]; exact .of m (.int _) q⟩
  · obtain ⟨pa, us, rfl, h1, r1⟩ := Rep.tup_get m rv
    exact ⟨pa, us, rfl, .inr (.of h1), by rw [r1.length]; exact .of m (.int _) q⟩
theorem cd_abs {i : Int} (q : Q (.int (if i < 0 then -i else i)) M) : CD X (.builtin "abs") [.int i] M Q := cd_of call_abs fun S H xs rx m => by
  obtain ⟨v, rfl, rv⟩ := reps_one rx
  exact ⟨i, by rw [rv.int_inv], .of m (.int _) q⟩
theorem cd_max {i j : Int} (st : Stat X Ln Vn Bn Fn) (q : Q (.int (if j > i then j else i)) M) : CD X (.builtin "max") [.int i, .int j] M Q := cd_of (call_max2 st.calm) fun S H xs rx m => by
  obtain ⟨v, w, rfl, rv, rw'⟩ := reps_two rx
  exact ⟨i, j, by rw [rv.int_inv, rw'.int_inv], .of m (.int _) q⟩
theorem cd_min {i j : Int} (st : Stat X Ln Vn Bn Fn) (q : Q (.int (if j < i then j else i)) M) : CD X (.builtin "min") [.int i, .int j] M Q := cd_of (call_min2 st.calm) fun S H xs rx m => by
  obtain ⟨v, w, rfl, rv, rw'⟩ := reps_two rx
  exact ⟨i, j, by rw [rv.int_inv, rw'.int_inv], .of m (.int _) q⟩
theorem cd_intB {k : Bool} (q : Q (.int (if k then 1 else 0)) M) : CD X (.type "int") [.bl k] M Q := cd_of call_int1 fun S H xs rx m => by
  obtain ⟨v, rfl, rv⟩ := reps_one rx
  exact .inr ⟨k, by rw [rv.bl_inv], .of m (.int _) q⟩
theorem cd_list {d : D} {ds : List D} (h : IsR M d ds ∨ d = .tup ds) (q : Q (.lst ds) M) : CD X (.type "list") [d] M Q := cd_of call_list_of fun S H xs rx m => by
  obtain ⟨v, rfl, rv⟩ := reps_one rx
  rcases h with h | rfl
  · obtain ⟨pa, us, rfl, h1, r1⟩ := h.get m rv
    exact ⟨pa, us, rfl, .inl h1, post_lst m r1 q⟩
  · obtain ⟨pa, us, rfl, h1, r1⟩ := Rep.tup_get m rv
    exact ⟨pa, us, rfl, .inr (.of h1), post_lst m r1 q⟩
theorem cd_listO {d : D} {ds : List D} (h : IsR M d ds ∨ d = .tup ds) (q : ∀ p, Q (.ref p) ((p, .lst ds) :: M)) : CD X (.type "list") [d] M Q := cd_of call_list_of fun S H xs rx m => by
  obtain ⟨v, rfl, rv⟩ := reps_one rx
  rcases h with h | rfl
  · obtain ⟨pa, us, rfl, h1, r1⟩ := h.get m rv
    exact ⟨pa, us, rfl, .inl h1, post_own m r1 q⟩
  · obtain ⟨pa, us, rfl, h1, r1⟩ := Rep.tup_get m rv
    exact ⟨pa, us, rfl, .inr (.of h1), post_own m r1 q⟩
/-- sorted of ints: the one rising arrangement -/
theorem cd_sortedI {d : D} {ns ms : List Int} (h : IsR M d (ns.map D.int)) (hp : ms.Perm ns) (hs : ms.Pairwise (· ≤ ·)) (q : Q (.lst (ms.map D.int)) M) : CD X (.builtin "sorted") [d] M Q := cd_of cr_sortedI fun S H xs rx m => by
  obtain ⟨v, rfl, rv⟩ := reps_one rx
  obtain ⟨pa, us, rfl, h1, r1⟩ := h.get m rv
  rw [r1.ints_inv] at h1
  refine ⟨pa, ns, rfl, h1, fun ns' p h2 h3 hp' => ?_⟩
  have e : ns' = ms := (h2.trans hp.symm).eq_of_pairwise (fun a b _ _ h1 h2 => Int.le_antisymm h1 h2) h3 hs
  subst e
  exact post_lst m Reps.ints q p hp'
/-! ### methods -/
def TyD (M : Mem) : String → D → Prop := fun T d => (T = "list" ∧ ∃ ds, IsR M d ds) ∨ (T = "str" ∧ ∃ z, d = .str z) ∨ (T = "dict" ∧ ∃ a f, d = .ref a ∧ ((∃ kvs, At a M (.dK kvs) f) ∨ ∃ kvs, At a M (.dT kvs) f))
theorem TyD.ty {K : PySem.W.Frag} {S H : Hp} {T : String} {d : D} {v : V} (h : TyD M T d) (m : MO K S M H) (r : Rep K S v d) : tyV K T v H := by
  rcases h with ⟨rfl, ds, h⟩ | ⟨rfl, z, rfl⟩ | ⟨rfl, a, f, rfl, h⟩
  · obtain ⟨a, xs, rfl, h1, _⟩ := h.get m r
    exact .inl ⟨rfl, xs, h1⟩
  · rw [r.str_inv]; exact rfl
  · rw [r.ref_inv]
    rcases h with ⟨kvs, h⟩ | ⟨kvs, h⟩
    · obtain ⟨ks, hk, _⟩ := m.at_ok h
      exact .inr (.inr (.inl ⟨rfl, .inl ⟨ks, hk⟩⟩))
    · obtain ⟨ks, hk, _⟩ := m.at_ok h
      exact .inr (.inr (.inl ⟨rfl, .inr ⟨ks, hk⟩⟩))
def MD (X : Cx) (id : String) (d : D) (ds : List D) (M : Mem) (Q : D → Mem → Prop) : Prop := ∀ S H v xs, Rep X.K S v d → Reps X.K S xs ds → MO X.K S M H → ∃ r, MtR X id r ∧ r v xs H (Post X.K S Q)
def rMd (X : Cx) (id : String) : V → List V → Hp → VK → Prop := fun v xs H R => ∃ r, MtR X id r ∧ r v xs H R
theorem mr_c {id : String} : MtR X id (rMd X id) := fun pins s σ H x xs v us Q I rx rs ⟨r, hc, q⟩ => hc pins s σ H x xs v us Q I rx rs q
theorem md_of {id : String} {d : D} {ds : List D} {r : V → List V → Hp → VK → Prop} (hc : MtR X id r) (h : ∀ S H v xs, Rep X.K S v d → Reps X.K S xs ds → MO X.K S M H → r v xs H (Post X.K S Q)) : MD X id d ds M Q := fun S H v xs rv rx m => ⟨r, hc, h S H v xs rv rx m⟩
theorem md_weak {id : String} {S S' H : Hp} {v : V} {xs : List V} (s1 : Same S S') (h : ∃ r, MtR X id r ∧ r v xs H (Post X.K S' Q)) : rMd X id v xs H (Post X.K S Q) := by
  obtain ⟨r, hc, q⟩ := h
  refine ⟨fun v xs H R => R = Post X.K S Q ∧ r v xs H (Post X.K S' Q), fun pins s σ H x xs v us R I rx rs ⟨eR, z⟩ => ?_, rfl, q⟩
  subst eR
  exact thn (hc pins s σ H x xs v us _ I rx rs z) fun _ _ ⟨v, H', I', rv, q⟩ => ⟨v, H', I', rv, Post.weak q s1⟩
theorem we_meth {T id : String} {name : Str} (pa : PlainAttrs T) (slot : Slot T name id) (hty : typeOf (.builtin id) = pure (.type "method_descriptor")) (h : WE X Γ M o fun d M1 => TyD M1 T d ∧ WA X Γ M1 (e :: es) fun ds M2 => MD X id d ds M2 Q)
    (hbase : attributeBase o name X.env (eval o X.env) = eval o X.env := by rfl)
    (hfew : ((backTo pos (starEach (e :: es) X.env)).all (fun x => !x.1) && (backToKw pos (keywordEach [] X.env)).all (fun x => x.1.isSome) && decide ((e :: es).length + ([] : List Keyword).length + (if ([] : List Keyword).isEmpty then 0 else 1) < 30)) = true := by rfl)
    (hline : (apos.endLine == pos.line) = true := by rfl) (hs : starEach (e :: es) X.env = (false, eval e X.env) :: starEach es X.env := by rfl) (hplain : (backTo pos (starEach es X.env)).any (·.1) = false := by rfl) : WE X Γ M (.Call (.Attribute o name apos) (e :: es) [] pos) Q := by
  intro S σ H hΓ hM
  refine tE_of (pe_bm pa slot hty mr_c pe_c pa_c hbase hfew hline hs hplain) ?_
  refine tE_post (h S σ H hΓ hM) fun d M1 S1 v H1 ⟨ty, q⟩ s1 m1 r1 => ⟨ty.ty m1 r1, ?_⟩
  exact tA_post (q S1 σ H1 (hΓ.mono s1) m1) fun ds M2 S2 xs H2 q2 s2 m2 r2 => md_weak (s1.trans s2) (q2 S2 H2 v xs (r1.mono s2) r2 m2)
theorem we_meth0 {T id : String} {name : Str} (pa : PlainAttrs T) (slot : Slot T name id) (hty : typeOf (.builtin id) = pure (.type "method_descriptor")) (h : WE X Γ M o fun d M1 => TyD M1 T d ∧ MD X id d [] M1 Q)
    (hbase : attributeBase o name X.env (eval o X.env) = eval o X.env := by rfl) (hline : (apos.endLine == pos.line) = true := by rfl) : WE X Γ M (.Call (.Attribute o name apos) [] [] pos) Q := by
  intro S σ H hΓ hM
  refine tE_of (pe_bm0 pa slot hty mr_c pe_c hbase hline) ?_
  exact tE_post (h S σ H hΓ hM) fun d M1 S1 v H1 ⟨ty, q⟩ s1 m1 r1 => ⟨ty.ty m1 r1, md_weak s1 (q S1 H1 v [] r1 .nil m1)⟩
theorem md_append {a : Addr} {ds : List D} {d : D} {f : Cell → Mem} (h : At a M (.lst ds) f) (hl : ds.length < sizeLine) (q : Q .non (f (.lst (ds ++ [d])))) : MD X "list.append" (.ref a) [d] M Q := md_of mt_append fun S H v xs rv rx m => by
  obtain ⟨y, rfl, ry⟩ := reps_one rx
  obtain ⟨us, hx, r⟩ := m.at_ok h
  exact ⟨a, us, y, rv.ref_inv, rfl, hx, by rw [r.length]; exact hl, .of (m.writeL h (r.append (.one ry))) .non q⟩
theorem md_extend {a : Addr} {ds es : List D} {d : D} {f : Cell → Mem} (h : At a M (.lst ds) f) (hd : IsL M d es) (hl : ds.length + es.length ≤ sizeLine) (q : Q .non (f (.lst (ds ++ es)))) : MD X "list.extend" (.ref a) [d] M Q := md_of mt_extend fun S H v xs rv rx m => by
  obtain ⟨y, rfl, ry⟩ := reps_one rx
  obtain ⟨us, hx, r⟩ := m.at_ok h
  obtain ⟨b, ws, rfl, hb, r2⟩ := hd.get m ry
  exact ⟨a, b, us, ws, rv.ref_inv, rfl, hx, hb, by rw [r.length, r2.length]; exact hl, .of (m.writeL h (r.append r2)) .non q⟩
theorem md_pop {a : Addr} {ds : List D} {d : D} {f : Cell → Mem} (h : At a M (.lst (ds ++ [d])) f) (q : Q d (f (.lst ds))) : MD X "list.pop" (.ref a) [] M Q := md_of mt_pop fun S H v xs rv rx m => by
  cases rx
  obtain ⟨us, hx, r⟩ := m.at_ok h
  have hl := r.length
  rw [List.length_append, List.length_singleton] at hl
  obtain ⟨y, hy, ry⟩ := r.get (i := ds.length) (d := d) (by simp)
  have rd := r.take ds.length
  rw [List.take_left] at rd
  refine ⟨a, us, y, rv.ref_inv, rfl, hx, by rw [hl]; exact hy, .of (m.writeL h ?_) ry q⟩
  rw [List.dropLast_eq_take, hl, Nat.add_sub_cancel]; exact rd
theorem reps_erase {K : PySem.W.Frag} {S : Hp} : ∀ {xs : List V} {ds : List D} (k : Nat), Reps K S xs ds → Reps K S (xs.eraseIdx k) (ds.eraseIdx k)
  | _, _, _, .nil => .nil
  | _, _, 0, .cons _ t => t
  | _, _, k + 1, .cons h t => .cons h (reps_erase k t)
theorem md_popAt {a : Addr} {ds : List D} {d : D} {i : Int} {f : Cell → Mem} (h : At a M (.lst ds) f) (h0 : 0 ≤ i) (h2 : i < 2 ^ 62) (hi : ds[i.toNat]? = some d) (q : Q d (f (.lst (ds.eraseIdx i.toNat)))) : MD X "list.pop" (.ref a) [.int i] M Q := md_of mt_popAt fun S H v xs rv rx m => by
  obtain ⟨y, rfl, ry⟩ := reps_one rx
  obtain ⟨us, hx, r⟩ := m.at_ok h
  obtain ⟨y, hy, ry'⟩ := r.get hi
  have hlt : i.toNat < us.length := (List.getElem?_eq_some_iff.mp hy).1
  exact ⟨a, us, i, i.toNat, y, rv.ref_inv, by rw [ry.int_inv], hx, by omega, by omega, seqIndex_of h0 (by omega), hy, .of (m.writeL h (reps_erase _ r)) ry' q⟩
theorem reps_rev {K : PySem.W.Frag} {S : Hp} : ∀ {xs : List V} {ds : List D}, Reps K S xs ds → Reps K S xs.reverse ds.reverse
  | _, _, .nil => .nil
  | _, _, .cons h t => by rw [List.reverse_cons, List.reverse_cons]; exact (reps_rev t).append (.one h)
end
end DL

/-! Core5: targets, what is walked, statements, comprehensions, defs. -/
namespace DL
open PySem PySem.Spec PyProof.Rows L2

section
variable {X : Cx} {Γ Γ' : VEnv} {M : Mem} {Q : D → Mem → Prop} {QB : Bool → Mem → Prop} {QE : VEnv → Mem → Prop} {x : Str} {d : D} {pos p p2 apos : Pos} {a b c e o i tg iter : Expr} {es : List Expr} {Ln Vn Bn Fn : List Str} {E : DE}

/-! ### targets -/
theorem tG_of {σ : L2.St} {H : Hp} {v : V} {t : TG} {R : L2.St → Hp → Prop} (h : PG X tg t) (q : t v σ H R) : tG X tg v σ H R := fun pins s u I r => h.run pins s σ H v u R I r q
theorem wg_name (st : Stat X Ln Vn Bn Fn) (hx : x ∈ Ln) (h : SetAt Γ x d Γ') (q : QE Γ' M) : WG X Γ M (.Name x pos) d QE := by
  intro S σ H v hΓ hM rv
  obtain ⟨i, o, e, rfl⟩ := h.at
  exact tG_of (pg_name st.nd (hΓ.name e) (st.loc x hx).1 (st.loc x hx).2) ⟨_, M, S, q, .refl _, hΓ.put e rv (st.loc x hx), hM⟩
def tGs (X : Cx) (ts : List Expr) : TGs := fun vs σ H R => ∀ pins s us, Inv X pins σ H s → Vals vs us → wpAny (model X.prog X.w) X.A (assignInOrder ((assignEach ts X.env).map (·.2)) us) (fun _ s' => ∃ σ' H', Inv X pins σ' H' s' ∧ R σ' H') X.xe s
theorem pgs_c {ts : List Expr} : PGs X ts (tGs X ts) := ⟨fun pins s σ H vs us Q I r h => h pins s us I r⟩
theorem tGs_of {σ : L2.St} {H : Hp} {vs : List V} {t : TGs} {R : L2.St → Hp → Prop} (h : PGs X es t) (q : t vs σ H R) : tGs X es vs σ H R := fun pins s u I r => h.run pins s σ H vs u R I r q
theorem tGs_mono {σ : L2.St} {H : Hp} {vs : List V} {R R' : L2.St → Hp → Prop} (h : tGs X es vs σ H R) (m : ∀ v H', R v H' → R' v H') : tGs X es vs σ H R' := fun pins s u I r =>
  thn (h pins s u I r) fun _ _ ⟨v, H', I', q⟩ => ⟨v, H', I', m _ _ q⟩
def WGs (X : Cx) (Γ : VEnv) (M : Mem) (ts : List Expr) (ds : List D) (Q : VEnv → Mem → Prop) : Prop := ∀ S σ H vs, SR X S σ Γ → MO X.K S M H → Reps X.K S vs ds → tGs X ts vs σ H (PostG X S Q)
theorem wgs_nil (q : QE Γ M) : WGs X Γ M [] [] QE := fun S σ H vs hΓ hM r => tGs_of pgs_nil ⟨by cases r; rfl, Γ, M, S, q, .refl _, hΓ, hM⟩
theorem wgs_cons {ds : List D} (h : WG X Γ M tg d fun Γ1 M1 => WGs X Γ1 M1 es ds QE) (hs : (assignEach (tg :: es) X.env).map (·.2) = assign tg X.env :: (assignEach es X.env).map (·.2) := by rfl) : WGs X Γ M (tg :: es) (d :: ds) QE := by
  intro S σ H vs hΓ hM r
  cases r with
  | cons r rs =>
    refine tGs_of (pgs_cons pg_c pgs_c hs) ⟨_, _, rfl, tG_mono (h S σ H _ hΓ hM r) ?_⟩
    rintro σ1 H1 ⟨Γ1, M1, S1, q, s1, e1, m1⟩
    exact tGs_mono (q S1 σ1 H1 _ e1 m1 (rs.mono s1)) fun _ _ z => z.weak s1
theorem wg_tup {k n : Nat} {ds : List D} (st : Stat X Ln Vn Bn Fn) (hl : ds.length = n) (h : WGs X Γ M es ds QE) (hn : (assignEach es X.env).length = n := by rfl) (hst : (assignEach es X.env).findIdx? (·.1) = none := by rfl) : WG X Γ M (.Tuple es k pos) (.tup ds) QE := by
  intro S σ H v hΓ hM r
  obtain ⟨pa, us, rfl, h1, r1⟩ := Rep.tup_get hM r
  exact tG_of (pg_tup st.calm pgs_c hn hst) ⟨pa, us, rfl, .of h1, by rw [r1.length]; exact hl, h S σ H us hΓ hM r1⟩
/-- o[i] = .. of an owned list -/
theorem wg_ix (h : WE X Γ M o fun do_ M1 => WE X Γ M1 i fun di M2 => ∃ (q : Addr) (j : Int) (ds : List D) (f : Cell → Mem), do_ = .ref q ∧ di = .int j ∧ At q M2 (.lst ds) f ∧ 0 ≤ j ∧ j < ds.length ∧ QE Γ (f (.lst (ds.set j.toNat d))))
    (ha : ∀ v, assign (.Subscript o i pos) X.env v = (do
      let ov ← holding [v] (eval o X.env)
      let iv ← holding [v, ov] (eval i X.env)
      standAt pos
      holding [v, ov, iv] (setItem ov iv v)
      release [v, ov, iv] []) := by intro _; rfl) : WG X Γ M (.Subscript o i pos) d QE := by
  intro S σ H v hΓ hM r
  refine tG_of (pg_sub pe_c pe_c set_list ha) ?_
  refine tE_post (h S σ H hΓ hM) fun d1 M1 S1 v1 H1 q1 s1 m1 r1 => ?_
  refine tE_post (q1 S1 σ H1 (hΓ.mono s1) m1) fun d2 M2 S2 v2 H2 q2 s2 m2 r2 => ?_
  obtain ⟨q, j, ds, f, rfl, rfl, h, h0, hj, k⟩ := q2
  obtain ⟨us, hx, ru⟩ := m2.at_ok h
  have hl := ru.length
  refine ⟨q, us, j, j.toNat, (r1.mono s2).ref_inv, r2.int_inv, hx, ?_, _, _, S2, k, s1.trans s2, (hΓ.mono s1).mono s2, m2.writeL h (ru.set ((r.mono s1).mono s2) _)⟩
  unfold ixN
  rw [if_pos h0, if_pos (by omega)]

/-! ### what is walked -/
structure Walks (K : PySem.W.Frag) (J : It) (items : List D) (Stb : Mem → Prop) (S0 : Hp) : Prop where
  go : ∀ S M H i, Same S0 S → MO K S M H → Stb M → i < items.length → J.go i H
  stop : ∀ S M H i, Same S0 S → MO K S M H → Stb M → items.length ≤ i → J.stop i H
  yld : ∀ S M H i x H', Same S0 S → MO K S M H → Stb M → i < items.length → J.yld i H x H' → ∃ d S', items[i]? = some d ∧ Same S S' ∧ MO K S' M H' ∧ Rep K S' x d
def PostI (X : Cx) (S : Hp) (Q : List D → (Mem → Prop) → Mem → Prop) (J : It) (H : Hp) : Prop := ∃ items Stb M S', Q items Stb M ∧ Same S S' ∧ MO X.K S' M H ∧ Walks X.K J items Stb S'
def WI (X : Cx) (Γ : VEnv) (M : Mem) (tg iter : Expr) (Q : List D → (Mem → Prop) → Mem → Prop) : Prop := ∀ S σ H, SR X S σ Γ → MO X.K S M H → tI X tg iter σ H (PostI X S Q)
theorem tI_of {σ : L2.St} {H : Hp} {t : TI} {R : It → Hp → Prop} (h : PI X tg iter t) (q : t σ H R) : tI X tg iter σ H R := fun pins s I => h.run pins s σ H R I q
theorem tI_mono {σ : L2.St} {H : Hp} {R R' : It → Hp → Prop} (h : tI X tg iter σ H R) (m : ∀ v H', R v H' → R' v H') : tI X tg iter σ H R' := fun pins s I =>
  thn (h pins s I) fun v s1 h1 => thn h1 fun u s2 ⟨it, fp, tn, J, H', e, I', T, t0, f, q⟩ => ⟨it, fp, tn, J, H', e, I', T, t0, f, m _ _ q⟩
variable {QI : List D → (Mem → Prop) → Mem → Prop}
theorem wi_list (h : WE X Γ M iter fun d M1 => ∃ ds, IsR M1 d ds ∧ QI ds (fun M' => IsR M' d ds) M1) : WI X Γ M tg iter QI := by
  intro S σ H hΓ hM
  refine tI_of (pi_list pe_c) (tE_post (h S σ H hΓ hM) fun d M1 S1 v H1 ⟨ds, hd, q⟩ s1 m1 r1 => ?_)
  obtain ⟨pa, us, rfl, h1, ru⟩ := hd.get m1 r1
  have again : ∀ {S' : Hp} {M' : Mem} {H' : Hp}, Same S1 S' → MO X.K S' M' H' → IsR M' d ds → ∃ us, SqL X.K H' pa us ∧ Reps X.K S' us ds := fun s' m' hd' => by
    obtain ⟨pb, us', e, h', ru'⟩ := hd'.get m' (r1.mono s')
    cases e
    exact ⟨us', h', ru'⟩
  refine ⟨pa, rfl, ⟨us, h1⟩, ds, _, M1, S1, q, s1, m1, ⟨fun S' M' H' k s' m' hs hk => ?_, fun S' M' H' k s' m' hs hk => ?_, fun S' M' H' k x H'' s' m' hs hk y => ?_⟩⟩
  · obtain ⟨us', h', ru'⟩ := again s' m' hs
    exact ⟨us', us'[k]'(by rw [ru'.length]; exact hk), h', by simp⟩
  · obtain ⟨us', h', ru'⟩ := again s' m' hs
    exact ⟨us', h', by rw [ru'.length]; exact hk⟩
  · obtain ⟨us', h', ru'⟩ := again s' m' hs
    obtain ⟨rfl, y⟩ := y
    obtain ⟨dk, e1, e2⟩ := ru'.getV (y us' h')
    exact ⟨dk, S', e1, .refl _, m', e2⟩
theorem wi_tup (h : WE X Γ M iter fun d M1 => ∃ ds, d = .tup ds ∧ QI ds (fun _ => True) M1) : WI X Γ M tg iter QI := by
  intro S σ H hΓ hM
  refine tI_of (pi_tup pe_c) (tE_post (h S σ H hΓ hM) fun d M1 S1 v H1 ⟨ds, hd, q⟩ s1 m1 r1 => ?_)
  subst hd
  obtain ⟨pa, us, rfl, h1, ru⟩ := Rep.tup_inv r1
  have again : ∀ {S' : Hp} {M' : Mem} {H' : Hp}, Same S1 S' → MO X.K S' M' H' → SqT X.K H' pa us ∧ Reps X.K S' us ds := fun s' m' => ⟨.of (m'.sub _ _ (s' _ _ h1)), ru.mono s'⟩
  refine ⟨pa, rfl, ⟨us, .of (m1.sub _ _ h1)⟩, ds, _, M1, S1, q, s1, m1, ⟨fun S' M' H' k s' m' hs hk => ?_, fun S' M' H' k s' m' hs hk => ?_, fun S' M' H' k x H'' s' m' hs hk y => ?_⟩⟩
  · obtain ⟨h', ru'⟩ := again s' m'
    exact ⟨us, us[k]'(by rw [ru'.length]; exact hk), h', by simp⟩
  · obtain ⟨h', ru'⟩ := again s' m'
    exact ⟨us, h', by rw [ru'.length]; exact hk⟩
  · obtain ⟨h', ru'⟩ := again s' m'
    obtain ⟨rfl, y⟩ := y
    obtain ⟨dk, e1, e2⟩ := ru'.getV (y us h')
    exact ⟨dk, S', e1, .refl _, m', e2⟩
def rngD (lo : Int) (n : Nat) : List D := (List.range n).map fun (k : Nat) => D.int (lo + (k : Int))
theorem rngD_length (lo : Int) (n : Nat) : (rngD lo n).length = n := by unfold rngD; rw [List.length_map, List.length_range]
theorem rngD_get {lo : Int} {n k : Nat} (h : k < n) : (rngD lo n)[k]? = some (.int (lo + (k : Int))) := by
  unfold rngD; rw [List.getElem?_map, List.getElem?_range h]; rfl
theorem rngD_inv {lo : Int} {n k : Nat} {d : D} (h : (rngD lo n)[k]? = some d) : k < n ∧ d = .int (lo + (k : Int)) := by
  have hk : k < n := by have := (List.getElem?_eq_some_iff.mp h).1; rw [rngD_length] at this; exact this
  rw [rngD_get hk] at h
  exact ⟨hk, (Option.some.inj h).symm⟩
theorem walks_rng {K : PySem.W.Frag} {lo : Int} {n : Nat} {S0 : Hp} : Walks K (Itr lo n) (rngD lo n) (fun _ => True) S0 :=
  ⟨fun S M H i _ _ _ h => by rw [rngD_length] at h; exact h, fun S M H i _ _ _ h => by rw [rngD_length] at h; exact h, fun S M H i x H' _ m _ h ⟨e1, e2⟩ => by
    rw [rngD_length] at h
    subst e1 e2
    exact ⟨_, S, rngD_get h, .refl _, m, .int _⟩⟩
theorem wi_range (st : Stat X Ln Vn Bn Fn) (hx : ("range" : Str) ∈ Bn) (h : WE X Γ M a fun d M1 => ∃ j, d = .int j ∧ -(2 ^ 62) ≤ j ∧ j < 2 ^ 62 ∧ QI (rngD 0 j.toNat) (fun _ => True) M1) (hs : starEach [a] X.env = [(false, eval a X.env)] := by rfl) :
    WI X Γ M tg (.Call (.Name "range" p) [a] [] pos) QI := by
  intro S σ H hΓ hM
  refine tI_of (pi_range1 (st.blt _ hx).1 (st.blt _ hx).2.1 pa_c hs) ?_
  refine tA_post (QA := fun ds M1 => ∃ j, ds = [.int j] ∧ -(2 ^ 62) ≤ j ∧ j < 2 ^ 62 ∧ QI (rngD 0 j.toNat) (fun _ => True) M1) (wa_cons (h.imp fun d M1 ⟨j, e, q⟩ => wa_nil ⟨j, by rw [e], q⟩) hs S σ H hΓ hM) ?_
  rintro ds M1 S1 vs H1 ⟨j, rfl, h1, h2, q⟩ s1 m1 r1
  obtain ⟨v, rfl, rv⟩ := reps_one r1
  exact ⟨j, by rw [rv.int_inv], h1, h2, _, _, M1, S1, q, s1, m1, walks_rng⟩
def enumD (ds : List D) : List D := ds.mapIdx fun k d => .tup [.int (k : Int), d]
theorem wi_enum {elts : List Expr} {kk : Nat} {tpos : Pos} (st : Stat X Ln Vn Bn Fn) (hx : ("enumerate" : Str) ∈ Bn) (h : WE X Γ M e fun d M1 => ∃ ds, IsR M1 d ds ∧ QI (enumD ds) (fun M' => IsR M' d ds) M1) (hs : starEach [e] X.env = [(false, eval e X.env)] := by rfl) :
    WI X Γ M (.Tuple elts kk tpos) (.Call (.Name "enumerate" p) [e] [] pos) QI := by
  intro S σ H hΓ hM
  refine tI_of (pi_enum (st.blt _ hx).1 (st.blt _ hx).2.1 pa_c hs) ?_
  refine tA_post (QA := fun es M1 => ∃ d ds, es = [d] ∧ IsR M1 d ds ∧ QI (enumD ds) (fun M' => IsR M' d ds) M1) (wa_cons (h.imp fun d M1 ⟨ds, q⟩ => wa_nil ⟨d, ds, rfl, q⟩) hs S σ H hΓ hM) ?_
  rintro es M1 S1 vs H1 ⟨d, ds, rfl, hd, q⟩ s1 m1 r1
  obtain ⟨v, rfl, rv⟩ := reps_one r1
  obtain ⟨pa, us, rfl, h1, ru⟩ := hd.get m1 rv
  have again : ∀ {S' : Hp} {M' : Mem} {H' : Hp}, Same S1 S' → MO X.K S' M' H' → IsR M' d ds → ∃ us, SqL X.K H' pa us ∧ Reps X.K S' us ds := fun s' m' hd' => by
    obtain ⟨pb, us', e, h', ru'⟩ := hd'.get m' (rv.mono s')
    cases e
    exact ⟨us', h', ru'⟩
  have el : (enumD ds).length = ds.length := by unfold enumD; rw [List.length_mapIdx]
  refine ⟨pa, us, rfl, h1, _, _, M1, S1, q, s1, m1, ⟨fun S' M' H' k s' m' hs hk => ?_, fun S' M' H' k s' m' hs hk => ?_, fun S' M' H' k x H'' s' m' hs hk y => ?_⟩⟩
  · obtain ⟨us', h', ru'⟩ := again s' m' hs
    exact ⟨us', us'[k]'(by rw [ru'.length, ← el]; exact hk), h', by simp⟩
  · obtain ⟨us', h', ru'⟩ := again s' m' hs
    exact ⟨us', h', by rw [ru'.length, ← el]; exact hk⟩
  · obtain ⟨us', h', ru'⟩ := again s' m' hs
    obtain ⟨T, x, rfl, hT, rfl, y⟩ := y
    obtain ⟨dk, e1, e2⟩ := ru'.getV (y us' h')
    obtain ⟨s2, m2⟩ := m'.laid (o := .tup [.int (k : Nat), x]) hT
    exact ⟨.tup [.int (k : Int), dk], _, by unfold enumD; rw [List.getElem?_mapIdx, e1]; rfl, s2, m2, .tup upd_same (.cons (.int _) (.one (e2.mono s2)))⟩
def zipD (ds es : List D) : List D := List.zipWith (fun d e => .tup [d, e]) ds es
/-! ### statements -/
theorem tSs_weak {S S' : Hp} {σ : L2.St} {H : Hp} {s : List Stmt} (h : tSs X s (ends X S' E) σ H) (e : Same S S') : tSs X s (ends X S E) σ H := fun pins s I => thn (h pins s I) fun f s' q => SP.weak q e
theorem wss_nil (q : E.nx Γ M) : WSs X Γ M [] E := fun S σ H hΓ hM => tSs_of pss_nil ⟨Γ, M, S, q, .refl _, hΓ, hM⟩
theorem wss_cons {s : Stmt} {rest : List Stmt} (h : WS X Γ M s (E.thn fun Γ1 M1 => WSs X Γ1 M1 rest E)) : WSs X Γ M (s :: rest) E := by
  intro S σ H hΓ hM
  refine tSs_of (pss_cons ps_c pss_c) ?_
  intro pins s I
  refine thn (h S σ H hΓ hM pins s I) fun f s' q => SP.imp q ?_ (fun _ _ z => z) (fun _ _ z => z) (fun _ _ z => z)
  rintro σ1 H1 ⟨Γ1, M1, S1, q1, s1, e1, m1⟩
  exact tSs_weak (q1 S1 σ1 H1 e1 m1) s1
theorem wss_one {s : Stmt} (h : WS X Γ M s E) : WSs X Γ M [s] E := fun S σ H hΓ hM => tSs_of (pss_one ps_c) (h S σ H hΓ hM)
theorem ws_asg (h : WE X Γ M e fun d M1 => WG X Γ M1 tg d E.nx) (hs : swapsWithSole [tg] e pos.line X.env = pure false := by rfl) (hw : swappedStores [tg] e X.env = pure none := by rfl) (h1 : (assignEach [tg] X.env).map (·.2) = [assign tg X.env] := by rfl) : WS X Γ M (.Assign [tg] e pos) E := by
  intro S σ H hΓ hM
  refine tS_of (ps_asg pe_c pg_c hs hw h1) (tE_post (h S σ H hΓ hM) fun d M1 S1 v H1 q s1 m1 r1 => ?_)
  exact tG_mono (q S1 σ H1 v (hΓ.mono s1) m1 r1) fun _ _ z => PostG.weak z s1
/-- x = e -/
theorem ws_set {pos' : Pos} (st : Stat X Ln Vn Bn Fn) (hx : x ∈ Ln) (h : WE X Γ M e fun d M1 => ∃ Γ', SetAt Γ x d Γ' ∧ E.nx Γ' M1) (hs : swapsWith e (some (.Name x pos')) pos.line X.env = pure false := by rfl) : WS X Γ M (.Assign [.Name x pos'] e pos) E := by
  intro S σ H hΓ hM pins s I
  have fin : tE X e σ H fun v H1 => ∃ i, X.N[i]? = some x ∧ PostG X S E.nx (σ.set i (some v)) H1 := tE_post (h S σ H hΓ hM) fun d M1 S1 v H1 ⟨Γ', hp, q⟩ s1 m1 r1 => by
    obtain ⟨i, o, e, rfl⟩ := hp.at
    have hΓ1 := hΓ.mono s1
    exact ⟨i, hΓ1.name e, _, M1, S1, q, s1, hΓ1.put e r1 (st.loc x hx), m1⟩
  refine wpAny_Assign_Name (thn (fin pins s I) fun v s1 ⟨y, H1, I1, r1, i, hi, q⟩ => ?_) hs
  exact store_ok I1 st.nd hi (st.loc x hx).1 r1 (fun s2 I2 => ⟨_, H1, I2, q⟩) (st.loc x hx).2
/-- x, y = a, b with plain names: stored from the right -/
theorem sw_par {x y : Str} {px py pt pt2 : Pos} {kt k2 : Nat} {env : Env} (hk : env.scope.kind = .function) (hx : env.scope.names.lookup x = some .local) (hy : env.scope.names.lookup y = some .local) (hne : x ≠ y) (hl : (py.line == px.line) = true)
    (h1 : ([a, b].any fun | .Starred .. => true | _ => false) = false) (h2 : [a, b].all (foldedForSure 8) = false) (h3 : [a, b].all (constantsAlone 8) = false) :
    swappedStores [.Tuple [.Name x px, .Name y py] kt pt] (.Tuple [a, b] k2 pt2) env = pure (some [x, y]) := by
  have kx : env.kindOf x = some .local := hx
  have ky : env.kindOf y = some .local := hy
  have hb : env.blockKind = .function := by unfold Env.blockKind; rw [hk]; rfl
  have hxy : (y == x) = false := beq_eq_false_iff_ne.mpr (Ne.symm hne)
  unfold swappedStores
  simp [hb, kx, ky, h1, h2, h3, hl, hxy, Expr.pos, List.filterMap, List.eraseDups, List.eraseDupsBy, List.eraseDupsBy.loop]
  intro h
  exfalso
  simp only [List.any_cons, List.any_nil, Bool.or_false, Bool.or_eq_false_iff] at h1
  rcases h with h | h
  · have g := h1.1
    cases a <;> first | exact Bool.noConfusion h | exact Bool.noConfusion g
  · have g := h1.2
    cases b <;> first | exact Bool.noConfusion h | exact Bool.noConfusion g
theorem ws_par {x y : Str} {Γx Γy : VEnv} {px py pt pt2 : Pos} {kt k2 : Nat} (st : Stat X Ln Vn Bn Fn) (hx : x ∈ Ln) (hy : y ∈ Ln) (hxl : X.env.scope.names.lookup x = some .local) (hyl : X.env.scope.names.lookup y = some .local) (hk : X.env.scope.kind = .function) (hne : x ≠ y)
    (hx0 : SetAt Γ x .non Γx) (hy0 : SetAt Γ y .non Γy)
    (h : WA X Γ M [a, b] fun ds M1 => ∃ d e Γ1 Γ2, ds = [d, e] ∧ SetAt Γ x d Γ1 ∧ SetAt Γ1 y e Γ2 ∧ E.nx Γ2 M1)
    (hl : (py.line == px.line) = true := by rfl) (h1 : ([a, b].any fun | .Starred .. => true | _ => false) = false := by rfl) (h2 : [a, b].all (foldedForSure 8) = false := by rfl) (h3 : [a, b].all (constantsAlone 8) = false := by rfl)
    (hs : swapsWithSole [.Tuple [.Name x px, .Name y py] kt pt] (.Tuple [a, b] k2 pt2) pos.line X.env = pure false := by rfl) : WS X Γ M (.Assign [.Tuple [.Name x px, .Name y py] kt pt] (.Tuple [a, b] k2 pt2) pos) E := by
  intro S σ H hΓ hM
  obtain ⟨i, ox, gx, _⟩ := hx0.at
  obtain ⟨j, oy, gy, _⟩ := hy0.at
  have hi := hΓ.name gx
  have hj := hΓ.name gy
  have hij : i ≠ j := fun e => hne (by rw [e, hj] at hi; exact (Option.some.inj hi).symm)
  refine tS_of (ps_par st.calm st.nd hi hj hij hxl hyl pa_c (sw_par hk hxl hyl hne hl h1 h2 h3) hs) (tA_post (h S σ H hΓ hM) ?_)
  rintro ds M1 S1 vs H1 ⟨d, e, Γ1, Γ2, rfl, g1, g2, q⟩ s1 m1 r1
  obtain ⟨v, w, rfl, rv, rw'⟩ := reps_two r1
  obtain ⟨i', o1, e1, rfl⟩ := g1.at
  have gg := (hΓ.mono s1).put e1 rv (st.loc x hx)
  obtain ⟨j', o2, e2, rfl⟩ := g2.at
  have ei : i' = i := nodup_ix st.nd ((hΓ.mono s1).name e1) hi
  have ej : j' = j := nodup_ix st.nd (gg.name e2) hj
  subst ei ej
  exact ⟨v, w, rfl, _, M1, S1, q, s1, gg.put e2 rw' (st.loc y hy), m1⟩
theorem ws_expr (h : WE X Γ M e fun _ M1 => E.nx Γ M1) (hs : swapsWith e none pos.line X.env = pure false := by rfl) : WS X Γ M (.Expr e pos) E := by
  intro S σ H hΓ hM
  exact tS_of (ps_expr pe_c hs) (tE_post (h S σ H hΓ hM) fun d M1 S1 v H1 q s1 m1 _ => ⟨Γ, M1, S1, q, s1, hΓ.mono s1, m1⟩)
theorem ws_ret (h : WE X Γ M e E.rt) : WS X Γ M (.Return (some e) pos) E := fun S σ H hΓ hM => tS_of (ps_ret pe_c) (h S σ H hΓ hM)
theorem ws_cont (q : E.ct Γ M) : WS X Γ M (.Continue pos) E := fun S σ H hΓ hM => tS_of ps_continue ⟨Γ, M, S, q, .refl _, hΓ, hM⟩
theorem ws_if {s t : List Stmt} (h : WT X Γ M c fun k M1 => if k = true then WSs X Γ M1 s E else WSs X Γ M1 t E) : WS X Γ M (.If c s t pos) E := by
  intro S σ H hΓ hM
  refine tS_of (ps_if pt_c pss_c pss_c) (tT_post (h S σ H hΓ hM) fun k M1 S1 H1 q s1 m1 => ?_)
  cases k with
  | true => exact tSs_weak (q S1 σ H1 (hΓ.mono s1) m1) s1
  | false => exact tSs_weak (q S1 σ H1 (hΓ.mono s1) m1) s1
/-! ### loops -/
theorem ws_for {body : List Stmt} (st : Stat X Ln Vn Bn Fn) (h : WI X Γ M tg iter fun items Stb M1 => ∃ I : Nat → VEnv → Mem → Prop, I 0 Γ M1 ∧ (∀ i Γ' M', I i Γ' M' → Stb M') ∧
      (∀ i x Γ' M', items[i]? = some x → I i Γ' M' → WG X Γ' M' tg x fun Γ2 M2 => WSs X Γ2 M2 body { E with nx := I (i + 1), ct := I (i + 1), bk := E.nx }) ∧ ∀ Γ' M', I items.length Γ' M' → E.nx Γ' M')
    (hs : ∀ x, foldedSetIterable iter X.env x = pure x := by intro _; rfl) : WS X Γ M (.For tg iter body [] pos) E := by
  intro S σ H hΓ hM
  refine tS_of (ps_for st.po st.calm pi_c pg_c pss_c hs) (tI_mono (h S σ H hΓ hM) ?_)
  rintro J H1 ⟨items, Stb, M1, S1, ⟨I, i0, istb, step, done⟩, s1, m1, W⟩
  refine ⟨fun i m σ' H' => m = items.length - i ∧ i ≤ items.length ∧ ∃ Γ' M' S', I i Γ' M' ∧ Same S1 S' ∧ SR X S' σ' Γ' ∧ MO X.K S' M' H', ⟨items.length, by simp, Nat.zero_le _, Γ, M1, S1, i0, .refl _, hΓ.mono s1, m1⟩, ?_⟩
  rintro i m σ2 H2 ⟨rfl, hi, Γ2, M2, S2, p, s2, e2, m2⟩
  by_cases hlt : i < items.length
  · refine .inr ⟨W.go S2 M2 H2 i s2 m2 (istb _ _ _ p) hlt, fun σ' H' => ∃ Γ' M' S', I (i + 1) Γ' M' ∧ Same S1 S' ∧ SR X S' σ' Γ' ∧ MO X.K S' M' H', fun σ' H' q => ⟨items.length - (i + 1), by omega, rfl, hlt, q⟩, fun x H' y => ?_⟩
    obtain ⟨d, S3, ed, s3, m3, r3⟩ := W.yld S2 M2 H2 i x H' s2 m2 (istb _ _ _ p) hlt y
    refine tG_mono (step i d Γ2 M2 ed p S3 σ2 H' x (e2.mono s3) m3 r3) ?_
    rintro σ4 H4 ⟨Γ4, M4, S4, q4, s4, e4, m4⟩
    have s14 := (s2.trans s3).trans s4
    intro pins s Iv
    refine thn (q4 S4 σ4 H4 e4 m4 pins s Iv) fun f s' q => SP.imp q ?_ ?_ ?_ ?_
    · rintro σ5 H5 ⟨Γ5, M5, S5, q5, s5, e5, m5⟩
      exact ⟨Γ5, M5, S5, q5, s14.trans s5, e5, m5⟩
    · exact fun v H5 z => Post.weak z (s1.trans s14)
    · exact fun σ5 H5 z => PostG.weak z (s1.trans s14)
    · rintro σ5 H5 ⟨Γ5, M5, S5, q5, s5, e5, m5⟩
      exact ⟨Γ5, M5, S5, q5, s14.trans s5, e5, m5⟩
  · have e : i = items.length := by omega
    subst e
    exact .inl ⟨W.stop S2 M2 H2 _ s2 m2 (istb _ _ _ p) (Nat.le_refl _), Γ2, M2, S2, done _ _ p, s1.trans s2, e2, m2⟩
theorem ws_while {body : List Stmt} (st : Stat X Ln Vn Bn Fn) (I : Nat → VEnv → Mem → Prop) (m0 : Nat) (i0 : I m0 Γ M)
    (step : ∀ m Γ' M', I m Γ' M' → WT X Γ' M' c fun k M1 => if k = true then WSs X Γ' M1 body { E with nx := fun Γ2 M2 => ∃ m', m' < m ∧ I m' Γ2 M2, ct := fun Γ2 M2 => ∃ m', m' < m ∧ I m' Γ2 M2, bk := E.nx } else E.nx Γ' M1) : WS X Γ M (.While c body [] pos) E := by
  intro S σ H hΓ hM
  refine tS_of (ps_while st.po pt_c pss_c) ⟨fun m σ' H' => ∃ Γ' M' S', I m Γ' M' ∧ Same S S' ∧ SR X S' σ' Γ' ∧ MO X.K S' M' H', ⟨m0, Γ, M, S, i0, .refl _, hΓ, hM⟩, ?_⟩
  rintro m σ2 H2 ⟨Γ2, M2, S2, p, s2, e2, m2⟩
  refine tT_post (step m Γ2 M2 p S2 σ2 H2 e2 m2) fun k M3 S3 H3 q3 s3 m3 => ?_
  have s13 := s2.trans s3
  cases k with
  | true =>
    rw [if_pos rfl] at q3 ⊢
    refine ⟨fun σ' H' => ∃ m', m' < m ∧ ∃ Γ' M' S', I m' Γ' M' ∧ Same S S' ∧ SR X S' σ' Γ' ∧ MO X.K S' M' H', fun σ' H' q => q, ?_⟩
    intro pins s Iv
    refine thn (q3 S3 σ2 H3 (e2.mono s3) m3 pins s Iv) fun f s' q => SP.imp q ?_ ?_ ?_ ?_
    · rintro σ5 H5 ⟨Γ5, M5, S5, ⟨m', hm, q5⟩, s5, e5, m5⟩
      exact ⟨m', hm, Γ5, M5, S5, q5, s13.trans s5, e5, m5⟩
    · exact fun v H5 z => Post.weak z s13
    · exact fun σ5 H5 z => PostG.weak z s13
    · rintro σ5 H5 ⟨Γ5, M5, S5, ⟨m', hm, q5⟩, s5, e5, m5⟩
      exact ⟨m', hm, Γ5, M5, S5, q5, s13.trans s5, e5, m5⟩
  | false =>
    rw [if_neg Bool.false_ne_true] at q3 ⊢
    exact ⟨Γ2, M3, S3, q3, s13, e2.mono s3, m3⟩
end
end DL

/-! Core6: list comprehensions. -/
namespace DL
open PySem PySem.Spec PyProof.Rows L2

inductive Unset : VEnv → Str → VEnv → Prop
  | here {Γ : VEnv} {x : Str} {o : Option D} : Unset ((x, o) :: Γ) x ((x, none) :: Γ)
  | there {Γ Γ' : VEnv} {x : Str} {p : Str × Option D} : Unset Γ x Γ' → Unset (p :: Γ) x (p :: Γ')
inductive Wiped : VEnv → List (Str × Nat) → VEnv → Prop
  | nil {Γ : VEnv} : Wiped Γ [] Γ
  | cons {Γ Γ1 Γ2 : VEnv} {x : Str} {i : Nat} {own : List (Str × Nat)} : Unset Γ x Γ1 → Wiped Γ1 own Γ2 → Wiped Γ ((x, i) :: own) Γ2
theorem Unset.at {Γ Γ' : VEnv} {x : Str} (h : Unset Γ x Γ') : ∃ (i : Nat) (o : Option D), Γ[i]? = some (x, o) ∧ Γ' = Γ.set i (x, none) := by
  induction h with
  | here => exact ⟨0, _, rfl, rfl⟩
  | there _ ih => exact let ⟨i, o, e, q⟩ := ih; ⟨i + 1, o, by simpa using e, by rw [q]; rfl⟩
theorem set_name {Γ : VEnv} {i : Nat} {x : Str} {o o' : Option D} (h : Γ[i]? = some (x, o)) : (Γ.set i (x, o')).map (·.1) = Γ.map (·.1) := by
  rw [List.map_set]
  obtain ⟨hlt, e⟩ := List.getElem?_eq_some_iff.mp h
  have hl : i < (Γ.map (·.1)).length := by rw [List.length_map]; exact hlt
  have e2 : (Γ.map (·.1))[i] = x := by rw [List.getElem_map, e]
  show (Γ.map (·.1)).set i x = _
  rw [← e2]; exact List.set_getElem_self hl
theorem Wiped.names {Γ Γ' : VEnv} {own : List (Str × Nat)} (h : Wiped Γ own Γ') : Γ'.map (·.1) = Γ.map (·.1) := by
  induction h with
  | nil => rfl
  | cons u _ ih =>
    obtain ⟨i, o, e, rfl⟩ := u.at
    rw [ih, set_name e]
theorem Wiped.back {N : List Str} (nd : N.Nodup) {Γ Γ' : VEnv} {own : List (Str × Nat)} (h : Wiped Γ own Γ') : Γ.map (·.1) = N → (∀ p ∈ own, N[p.2]? = some p.1) → ∀ (j : Nat) (x : Str) (d : D), Γ'[j]? = some (x, some d) → Γ[j]? = some (x, some d) ∧ ∀ p ∈ own, j ≠ p.2 := by
  induction h with
  | nil => exact fun _ _ j x d h => ⟨h, fun p hp => by cases hp⟩
  | @cons Γ Γ1 Γ2 x i own u _ ih =>
    intro hn ho j y d hj
    obtain ⟨k, o, e, rfl⟩ := u.at
    obtain ⟨h1, h2⟩ := ih (by rw [set_name e]; exact hn) (fun p hp => ho p (List.mem_cons_of_mem _ hp)) j y d hj
    have hk : k < Γ.length := (List.getElem?_eq_some_iff.mp e).1
    have hjk : k ≠ j := fun q => by
      subst q
      rw [List.getElem?_set_self hk] at h1
      cases h1
    rw [List.getElem?_set_ne hjk] at h1
    refine ⟨h1, fun p hp => ?_⟩
    rcases List.mem_cons.mp hp with q | hp
    · subst q
      have a1 : N[k]? = some x := by rw [← hn, List.getElem?_map, e]; rfl
      exact fun q => hjk (nodup_ix nd a1 (by rw [q]; exact ho _ List.mem_cons_self))
    · exact h2 p hp
theorem wipe_idem {σ : L2.St} {i : Nat} {y : Option V} : ∀ {vs : List Nat}, i ∈ vs → wipe (σ.set i y) vs = wipe σ vs
  | [], h => by cases h
  | v :: vs, h => by
    unfold wipe
    by_cases hi : i ∈ vs
    · rw [wipe_idem hi]
    · have e : v = i := by
        rcases List.mem_cons.mp h with q | q
        · exact q.symm
        · exact absurd q hi
      subst e
      have comm : ∀ ws : List Nat, v ∉ ws → wipe (σ.set v y) ws = (wipe σ ws).set v y := by
        intro ws
        induction ws with
        | nil => intro _; rfl
        | cons w ws ih =>
          intro hw
          unfold wipe
          rw [ih fun z => hw (List.mem_cons_of_mem _ z), List.set_comm _ _ (fun q => hw (by rw [q]; exact List.mem_cons_self))]
      rw [comm vs hi, List.set_set]
theorem wipe_wipe {σ : L2.St} : ∀ {vs ws : List Nat}, (∀ v ∈ vs, v ∈ ws) → wipe (wipe σ vs) ws = wipe σ ws
  | [], ws, _ => rfl
  | v :: vs, ws, h => by
    show wipe ((wipe σ vs).set v none) ws = _
    rw [wipe_idem (h v List.mem_cons_self), wipe_wipe fun u hu => h u (List.mem_cons_of_mem _ hu)]

section
variable {X : Cx} {Γ Γ' Γb : VEnv} {M : Mem} {Q : D → Mem → Prop} {x : Str} {pos p px : Pos} {elt tg iter : Expr} {ifs : List Expr} {Ln Vn Bn Fn Vb Bb Fb : List Str} {E : DE} {scope : Scope} {own : List (Str × Nat)}

theorem SR.wipe {S : Hp} {σ : L2.St} (r : SR X S σ Γ) (nd : X.N.Nodup) (h : Wiped Γ own Γb) (ho : ∀ p ∈ own, X.N[p.2]? = some p.1) : SR X S (wipe σ (own.map (·.2))) Γb := by
  refine ⟨by rw [wipe_length]; exact r.len, by rw [h.names]; exact r.names, fun j y d hj => ?_⟩
  obtain ⟨h1, h2⟩ := h.back nd r.names ho j y d hj
  obtain ⟨v, hv, rv⟩ := r.vals j y d h1
  refine ⟨v, ?_, rv⟩
  rw [wipe_out fun hm => ?_]
  · exact hv
  · obtain ⟨q, hq, e⟩ := List.mem_map.mp hm
    exact h2 q hq e.symm
/-- the block's context -/
abbrev BX (X : Cx) (scope : Scope) (s : Shared) (H : Hp) (C : Addr) (cl : List (Str × Addr)) (fp : List Addr) : Cx := X.blk s H scope (compEnvC scope cl C X.env) fp
/-- of every block -/
def AB (X : Cx) (scope : Scope) (φ : Cx → Prop) : Prop := ∀ (s : Shared) (H : Hp) (C : Addr) (cl : List (Str × Addr)) (fp : List Addr), φ (BX X scope s H C cl fp)
def WTs (X : Cx) (Γ : VEnv) (M : Mem) : List Expr → (Bool → Mem → Prop) → Prop
  | [], Q => Q true M
  | [c], Q => WT X Γ M c Q
  | _, _ => False
def tTs (X : Cx) : List Expr → TT
  | [] => tYes
  | [c] => tT X c
  | _ => fun _ _ _ => False
theorem pts_c : ∀ {ifs : List Expr}, ifs.length ≤ 1 → PTs X ifs (tTs X ifs)
  | [], _ => pts_nil
  | [c], _ => pts_one pt_c
  | _ :: _ :: _, h => by simp at h
theorem tTs_post {S : Hp} {σ : L2.St} {H : Hp} {R : Bool → Hp → Prop} {QB : Bool → Mem → Prop} : ∀ {ifs : List Expr}, WTs X Γ M ifs QB → SR X S σ Γ → MO X.K S M H → (∀ k M S' H', QB k M → Same S S' → MO X.K S' M H' → R k H') → tTs X ifs σ H R
  | [], h, hΓ, hM, m => m true M S H h (.refl _) hM
  | [c], h, hΓ, hM, m => tT_post (h S σ H hΓ hM) m
  | _ :: _ :: _, h, _, _, _ => h.elim

/-- what a turn of a comprehension does: at the item d -/
def Turn1 (X : Cx) (scope : Scope) (Γ2 : VEnv) (ifs : List Expr) (elt : Expr) (I : Nat → List D → Mem → Prop) (k : Nat) (acc : List D) (M' : Mem) : Prop :=
  ∀ L : Addr, AB X scope fun X1 => WTs X1 Γ2 ((L, .lst acc) :: M') ifs fun b M3 => if b = true then AB X scope fun X2 => WE X2 Γ2 M3 elt fun d M4 => acc.length < sizeLine ∧ ∃ M5, M4 = (L, .lst acc) :: M5 ∧ I (k + 1) (acc ++ [d]) M5
    else ∃ M5, M3 = (L, .lst acc) :: M5 ∧ I (k + 1) acc M5
/-- the target: a name, or a tuple of names -/
inductive SetAts : VEnv → List Str → List D → VEnv → Prop
  | nil {Γ : VEnv} : SetAts Γ [] [] Γ
  | cons {Γ Γ1 Γ2 : VEnv} {x : Str} {d : D} {xs : List Str} {ds : List D} : SetAt Γ x d Γ1 → SetAts Γ1 xs ds Γ2 → SetAts Γ (x :: xs) (d :: ds) Γ2
def gNames : List Nat → TGs
  | [] => gNil
  | i :: is => gCons (gName i) (gNames is)

def tEall (X : Cx) (scope : Scope) (e : Expr) : TE := fun σ H R => AB X scope fun X1 => tE X1 e σ H R
def tTall (X : Cx) (scope : Scope) (ifs : List Expr) : TT := fun σ H R => AB X scope fun X1 => tTs X1 ifs σ H R
theorem lc_read {g : TG} {S : Hp} {σ : L2.St} {H : Hp} {R : VK} (hΓ : SR X S σ Γ) (hM : MO X.K S M H)
    (h : WI X Γ M tg iter fun items Stb M1 => ∃ I : Nat → List D → Mem → Prop, I 0 [] M1 ∧ (∀ i acc M' L, I i acc M' → Stb ((L, .lst acc) :: M')) ∧
      (∀ i d acc M', items[i]? = some d → I i acc M' → ∃ Γ2, (∀ (S' : Hp) (v : V) (H' : Hp) (k : L2.St → Hp → Prop), Rep X.K S' v d → SR X S' σ Γ → MO X.K S' M' H' → (∀ σ2, SR X S' σ2 Γ2 → wipe σ2 (own.map (·.2)) = wipe σ (own.map (·.2)) → k σ2 H') → g v (wipe σ (own.map (·.2))) H' k) ∧ Turn1 X scope Γ2 ifs elt I i acc M') ∧
      ∀ acc M', I items.length acc M' → ∀ p, Q (.ref p) ((p, .lst acc) :: M')) (hR : ∀ v H', Post X.K S Q v H' → R v H') : tLc (tI X tg iter) g (tTall X scope ifs) (tEall X scope elt) (own.map (·.2)) σ H R := by
  refine tI_mono (h S σ H hΓ hM) ?_
  rintro J H1 ⟨items, Stb, M1, S1, ⟨I, i0, istb, step, done⟩, s1, m1, W⟩
  intro L hL
  refine ⟨fun i m H' => m = items.length - i ∧ i ≤ items.length ∧ ∃ acc M' S', I i acc M' ∧ Same S1 S' ∧ MO X.K S' ((L, .lst acc) :: M') H', ⟨items.length, by simp, Nat.zero_le _, [], M1, S1, i0, .refl _, m1.alloc hL ⟨[], upd_same, .nil⟩⟩, ?_⟩
  rintro i m H2 ⟨rfl, hi, acc, M2, S2, p, s2, m2⟩
  by_cases hlt : i < items.length
  · refine .inr ⟨W.go S2 _ H2 i s2 m2 (istb _ _ _ _ p) hlt, fun H' => ∃ acc M' S', I (i + 1) acc M' ∧ Same S1 S' ∧ MO X.K S' ((L, .lst acc) :: M') H', fun H' q => ⟨items.length - (i + 1), by omega, rfl, hlt, q⟩, fun v H' y => ?_⟩
    obtain ⟨d, S3, ed, s3, m3, r3⟩ := W.yld S2 _ H2 i v H' s2 m2 (istb _ _ _ _ p) hlt y
    obtain ⟨Γ2, tgt, turn⟩ := step i d acc M2 ed p
    have s13 := s2.trans s3
    refine tgt S3 v H' _ r3 (hΓ.mono (s1.trans s13)) m3.drop fun σ2 e2 hw => ⟨hw, ?_⟩
    intro sa Ha Ca cla fpa
    refine tTs_post (turn L sa Ha Ca cla fpa) ⟨e2.len, e2.names, e2.vals⟩ m3 fun b M4 S4 H4 q4 s4 m4 => ?_
    cases b with
    | true =>
      rw [if_pos rfl] at q4 ⊢
      intro sb Hb Cb clb fpb
      have e4 := e2.mono s4
      refine tE_post (q4 sb Hb Cb clb fpb S4 σ2 H4 ⟨e4.len, e4.names, e4.vals⟩ m4) ?_
      rintro d5 M5 S5 v5 H5 ⟨hz, M6, rfl, q6⟩ s5 m5 r5
      obtain ⟨us, hx, ru⟩ := m5.at_ok At.here
      exact ⟨us, hx, by rw [ru.length]; exact hz, acc ++ [d5], M6, S5, q6, (s13.trans s4).trans s5, m5.writeL At.here (ru.append (.one r5))⟩
    | false =>
      rw [if_neg Bool.false_ne_true] at q4 ⊢
      obtain ⟨M5, rfl, q5⟩ := q4
      exact ⟨acc, M5, S4, q5, s13.trans s4, m4⟩
  · have e : i = items.length := by omega
    subst e
    exact .inl ⟨W.stop S2 _ H2 _ s2 m2 (istb _ _ _ _ p) (Nat.le_refl _), hR _ _ ⟨_, _, S2, done _ _ p L, s1.trans s2, m2, .ref L⟩⟩

theorem tgt_name {i : Nat} {d : D} {Γ2 : VEnv} {S : Hp} {σ : L2.St} (nd : X.N.Nodup) (hxi : (x, i) ∈ own) (ho : ∀ p ∈ own, X.N[p.2]? = some p.1) (hwp : Wiped Γ own Γb) (hs : SetAt Γb x d Γ2) :
    ∀ (S' : Hp) (v : V) (H' : Hp) (k : L2.St → Hp → Prop), Rep X.K S' v d → SR X S' σ Γ → MO X.K S' M H' → (∀ σ2, SR X S' σ2 Γ2 → wipe σ2 (own.map (·.2)) = wipe σ (own.map (·.2)) → k σ2 H') → gName i v (wipe σ (own.map (·.2))) H' k := by
  intro S' v H' k r e m hk
  have e1 := e.wipe nd hwp ho
  obtain ⟨j, o, ej, rfl⟩ := hs.at
  have hj := e1.name ej
  have ij : j = i := nodup_ix nd hj (ho _ hxi)
  subst ij
  have hmem : j ∈ own.map (·.2) := List.mem_map.mpr ⟨_, hxi, rfl⟩
  refine hk _ ⟨by rw [List.length_set]; exact e1.len, by rw [set_name ej]; exact e1.names, fun l y d' hl => ?_⟩ (by rw [wipe_idem hmem, wipe_wipe fun v hv => hv])
  have hjlt : j < (wipe σ (own.map (·.2))).length := by rw [e1.len]; exact (List.getElem?_eq_some_iff.mp hj).1
  by_cases hjl : j = l
  · subst hjl
    rw [List.getElem?_set_self (List.getElem?_eq_some_iff.mp ej).1] at hl
    cases hl
    exact ⟨v, List.getElem?_set_self hjlt, r⟩
  · rw [List.getElem?_set_ne hjl] at hl
    obtain ⟨w, a, b⟩ := e1.vals l y d' hl
    exact ⟨w, by rw [List.getElem?_set_ne hjl]; exact a, b⟩
theorem tgt_names : ∀ {xs : List Str} {is : List Nat} {ds : List D} {Γ1 Γ2 : VEnv} {S' : Hp} {vs : List V} {σ1 : L2.St} {ws : List Nat} {H' : Hp} {k : L2.St → Hp → Prop}, X.N.Nodup → Paired (fun x i => X.N[i]? = some x ∧ i ∈ ws) xs is → SetAts Γ1 xs ds Γ2 → Reps X.K S' vs ds → SR X S' σ1 Γ1 →
    (∀ σ2, SR X S' σ2 Γ2 → wipe σ2 ws = wipe σ1 ws → k σ2 H') → gNames is vs σ1 H' k
  | _, _, _, _, _, _, _, _, _, _, _, nd, .nil, .nil, .nil, e, hk => ⟨rfl, hk _ e rfl⟩
  | _, _, _, _, _, S', _, σ1, ws, H', k, nd, .cons (a := x) (b := i) hx t, .cons (d := d) h1 h2, .cons (v := v) r rs, e, hk => by
    refine ⟨_, _, rfl, ?_⟩
    obtain ⟨j, o, ej, rfl⟩ := h1.at
    have hj := e.name ej
    have ij : j = i := nodup_ix nd hj hx.1
    subst ij
    have hjlt : j < σ1.length := by rw [e.len]; exact (List.getElem?_eq_some_iff.mp hj).1
    have e1 : SR X S' (σ1.set j (some v)) _ := ⟨by rw [List.length_set]; exact e.len, by rw [set_name (o' := some d) ej]; exact e.names, fun l y d' hl => by
      by_cases hjl : j = l
      · subst hjl
        rw [List.getElem?_set_self (List.getElem?_eq_some_iff.mp ej).1] at hl
        cases hl
        exact ⟨v, List.getElem?_set_self hjlt, r⟩
      · rw [List.getElem?_set_ne hjl] at hl
        obtain ⟨w, a, b⟩ := e.vals l y d' hl
        exact ⟨w, by rw [List.getElem?_set_ne hjl]; exact a, b⟩⟩
    exact tgt_names nd t h2 rs e1 fun σ2 e2 hw => hk σ2 e2 (by rw [hw, wipe_idem hx.2])

theorem pg_nm {X : Cx} {Ln Vn Bn Fn : List Str} {x : Str} {i : Nat} {px : Pos} (st : Stat X Ln Vn Bn Fn) (hx : x ∈ Ln) (hi : X.N[i]? = some x) : PG X (.Name x px) (gName i) := pg_name st.nd hi (st.loc x hx).1 (st.loc x hx).2
/-- [elt for x in iter if ..] -/
theorem we_lc {i : Nat} (st : Stat X Ln Vn Bn Fn) (st' : AB X scope fun X1 => Stat X1 (own.map (·.1)) Vb Bb Fb) (hxi : (x, i) ∈ own) (ok : BlkOk X.N X.env.scope scope own) (hwp : Wiped Γ own Γb) (hif : ifs.length ≤ 1)
    (h : WI X Γ M (.Name x px) iter fun items Stb M1 => ∃ I : Nat → List D → Mem → Prop, I 0 [] M1 ∧ (∀ i acc M' L, I i acc M' → Stb ((L, .lst acc) :: M')) ∧
      (∀ i d acc M', items[i]? = some d → I i acc M' → ∃ Γ2, SetAt Γb x d Γ2 ∧ Turn1 X scope Γ2 ifs elt I i acc M') ∧ ∀ acc M', I items.length acc M' → ∀ p, Q (.ref p) ((p, .lst acc) :: M')) (hs : ∀ x, foldedSetIterable iter X.env x = pure x := by intro _; rfl) :
    WE X Γ M (.ListComp elt [⟨.Name x px, iter, ifs, 0⟩] scope pos) Q := by
  intro S σ H hΓ hM
  refine tE_of (pe_lc (g := gName i) (tt := tTall X scope ifs) (te := tEall X scope elt) st.calm st.nd pi_c ok (fun s H C cl fp => pg_nm (st' s H C cl fp) (List.mem_map.mpr ⟨_, hxi, rfl⟩) (ok.ix _ hxi)) (fun s H C cl fp => ?_) (fun s H C cl fp => ?_) hs) ?_
  · exact ⟨fun pins s' σ' H' R I q => (pts_c hif).run pins s' σ' H' R I (q s H C cl fp)⟩
  · exact ⟨fun pins s' σ' H' R I q => q s H C cl fp pins s' I⟩
  · refine lc_read (Γ := Γ) hΓ hM (fun S σ' H' a b => tI_mono (h S σ' H' a b) ?_) fun _ _ z => z
    rintro J H1 ⟨items, Stb, M1, S1, ⟨I, i0, istb, step, done⟩, s1, m1, W⟩
    exact ⟨items, Stb, M1, S1, ⟨I, i0, istb, fun i d acc M' e p => let ⟨Γ2, hs2, t⟩ := step i d acc M' e p; ⟨Γ2, tgt_name (S := S) st.nd hxi ok.ix hwp hs2, t⟩, done⟩, s1, m1, W⟩
/-- [elt for x, y, .. in iter if ..] -/
theorem we_lcT {xs : List Str} {is : List Nat} {ts : List Expr} {kk n : Nat} (st : Stat X Ln Vn Bn Fn) (st' : AB X scope fun X1 => Stat X1 (own.map (·.1)) Vb Bb Fb) (hxi : Paired (fun x i => (x, i) ∈ own) xs is) (ok : BlkOk X.N X.env.scope scope own) (hwp : Wiped Γ own Γb) (hif : ifs.length ≤ 1)
    (hts : AB X scope fun X1 => PGs X1 ts (gNames is)) (hn : AB X scope fun X1 => (assignEach ts X1.env).length = n ∧ (assignEach ts X1.env).findIdx? (·.1) = none)
    (h : WI X Γ M (.Tuple ts kk px) iter fun items Stb M1 => ∃ I : Nat → List D → Mem → Prop, I 0 [] M1 ∧ (∀ i acc M' L, I i acc M' → Stb ((L, .lst acc) :: M')) ∧
      (∀ i d acc M', items[i]? = some d → I i acc M' → ∃ ds Γ2, d = .tup ds ∧ ds.length = n ∧ SetAts Γb xs ds Γ2 ∧ Turn1 X scope Γ2 ifs elt I i acc M') ∧ ∀ acc M', I items.length acc M' → ∀ p, Q (.ref p) ((p, .lst acc) :: M')) (hs : ∀ x, foldedSetIterable iter X.env x = pure x := by intro _; rfl) :
    WE X Γ M (.ListComp elt [⟨.Tuple ts kk px, iter, ifs, 0⟩] scope pos) Q := by
  intro S σ H hΓ hM
  refine tE_of (pe_lc (g := gTup X.K n (gNames is)) (tt := tTall X scope ifs) (te := tEall X scope elt) st.calm st.nd pi_c ok (fun s H C cl fp => pg_tup (st' s H C cl fp).calm (hts s H C cl fp) (hn s H C cl fp).1 (hn s H C cl fp).2) (fun s H C cl fp => ?_) (fun s H C cl fp => ?_) hs) ?_
  · exact ⟨fun pins s' σ' H' R I q => (pts_c hif).run pins s' σ' H' R I (q s H C cl fp)⟩
  · exact ⟨fun pins s' σ' H' R I q => q s H C cl fp pins s' I⟩
  · refine lc_read (Γ := Γ) hΓ hM (fun S σ' H' a b => tI_mono (h S σ' H' a b) ?_) fun _ _ z => z
    rintro J H1 ⟨items, Stb, M1, S1, ⟨I, i0, istb, step, done⟩, s1, m1, W⟩
    refine ⟨items, Stb, M1, S1, ⟨I, i0, istb, fun i d acc M' e p => ?_, done⟩, s1, m1, W⟩
    obtain ⟨ds, Γ2, rfl, hl, hs2, t⟩ := step i d acc M' e p
    refine ⟨Γ2, fun S' v H' k r e m hk => ?_, t⟩
    obtain ⟨pa, us, rfl, h1, ru⟩ := Rep.tup_get m r
    refine ⟨pa, us, rfl, .of h1, by rw [ru.length]; exact hl, tgt_names (ws := own.map (·.2)) st.nd (Paired.mapP hxi fun a b q => ⟨ok.ix _ q, List.mem_map.mpr ⟨_, q, rfl⟩⟩) hs2 ru (e.wipe st.nd hwp ok.ix) fun σ2 e2 hw => hk σ2 e2 (by rw [hw, wipe_wipe fun v hv => hv])⟩

/-- name = [elt for x in iter if ..] on one line -/
theorem ws_setLc {i j : Nat} {y : Str} {py spos : Pos} (st : Stat X Ln Vn Bn Fn) (hy : y ∈ Ln) (hyl : X.env.scope.names.lookup y = some .local) (hk : X.env.scope.kind = .function) (hNy : X.N[j]? = some y) (ha : (scope.names.any fun (n, k) => n == y && (k == .local || k == .cell)) = false)
    (st' : AB X scope fun X1 => Stat X1 (own.map (·.1)) Vb Bb Fb) (hxi : (x, i) ∈ own) (ok : BlkOk X.N X.env.scope scope own) (hwp : Wiped Γ own Γb) (hif : ifs.length ≤ 1)
    (h : WI X Γ M (.Name x px) iter fun items Stb M1 => ∃ I : Nat → List D → Mem → Prop, I 0 [] M1 ∧ (∀ i acc M' L, I i acc M' → Stb ((L, .lst acc) :: M')) ∧
      (∀ i d acc M', items[i]? = some d → I i acc M' → ∃ Γ2, SetAt Γb x d Γ2 ∧ Turn1 X scope Γ2 ifs elt I i acc M') ∧ ∀ acc M', I items.length acc M' → ∀ p, ∃ Γ', SetAt Γ y (.ref p) Γ' ∧ E.nx Γ' ((p, .lst acc) :: M'))
    (hl : (py.line == pos.line) = true := by rfl) (hl2 : spos.line = py.line := by rfl) (hs : ∀ x, foldedSetIterable iter X.env x = pure x := by intro _; rfl) :
    WS X Γ M (.Assign [.Name y py] (.ListComp elt [⟨.Name x px, iter, ifs, 0⟩] scope pos) spos) E := by
  intro S σ H hΓ hM
  have sw : swapsWith (.ListComp elt [⟨.Name x px, iter, ifs, 0⟩] scope pos) (some (.Name y py)) spos.line X.env = pure true := sw_true hk hyl hl ha
  refine tS_of (ps_setLc (g := gName i) (tt := tTall X scope ifs) (te := tEall X scope elt) st.calm st.nd hNy hyl sw pi_c ok (fun s H C cl fp => pg_nm (st' s H C cl fp) (List.mem_map.mpr ⟨_, hxi, rfl⟩) (ok.ix _ hxi)) (fun s H C cl fp => ?_) (fun s H C cl fp => ?_) hs) ?_
  · exact ⟨fun pins s' σ' H' R I q => (pts_c hif).run pins s' σ' H' R I (q s H C cl fp)⟩
  · exact ⟨fun pins s' σ' H' R I q => q s H C cl fp pins s' I⟩
  · show tLc (tI X (.Name x px) iter) (gName i) (tTall X scope ifs) (tEall X scope elt) (own.map (·.2)) σ H (fun v H' => gName j v σ H' (PostG X S E.nx))
    refine lc_read (Γ := Γ) (Q := fun d M' => ∃ Γ', SetAt Γ y d Γ' ∧ E.nx Γ' M') hΓ hM (fun S σ' H' a b => tI_mono (h S σ' H' a b) ?_) ?_
    · rintro J H1 ⟨items, Stb, M1, S1, ⟨I, i0, istb, step, done⟩, s1, m1, W⟩
      exact ⟨items, Stb, M1, S1, ⟨I, i0, istb, fun i d acc M' e p => let ⟨Γ2, hs2, t⟩ := step i d acc M' e p; ⟨Γ2, tgt_name (S := S) st.nd hxi ok.ix hwp hs2, t⟩, done⟩, s1, m1, W⟩
    · rintro v H' ⟨d, M1, S1, ⟨Γ', hp, q⟩, s1, m1, r1⟩
      obtain ⟨l, o, e, rfl⟩ := hp.at
      have hΓ1 := hΓ.mono s1
      have lj : l = j := nodup_ix st.nd (hΓ1.name e) hNy
      subst lj
      exact ⟨_, M1, S1, q, s1, hΓ1.put e r1 (st.loc y hy), m1⟩
/-! ### a block's own names, checked once -/
def blkChk (sc scope : Scope) (own Vb Bb Fb Bx : List Str) : Bool :=
  (Vb.all fun x => (match (relS scope sc).names.lookup x with | some .local => true | some .cell => true | some .free => true | _ => false) && !(x == ("__debug__" : Str)) && !(x == ("__classdict__" : Str))) &&
  (own.all fun x => (match (relS scope sc).names.lookup x with | some .local => true | some .cell => scope.names.lookup x == some .cell | _ => false)) &&
  ((Bb ++ Fb).all fun x => (relS scope sc).names.lookup x == some .globalImplicit) && (Bb.all fun x => decide (x ∈ Bx) && !(x == ("__name__" : Str))) && ((Bb ++ Fb).all fun x => !(x == ("__debug__" : Str)))
theorem blk_stat {sc : Scope} {ow Bx : List Str} (st : Stat X Ln Vn Bn Fn) (hBx : ∀ x ∈ Bx, X.mg x = none) (hsc : X.env.scope = sc) (c : blkChk sc scope ow Vb Bb Fb Bx = true) : AB X scope fun X1 => Stat X1 ow Vb Bb Fb := by
  intro s H C cl fp
  have hr : (BX X scope s H C cl fp).env.scope = relS scope sc := by rw [← hsc]; rfl
  unfold blkChk at c
  simp only [Bool.and_eq_true, List.all_eq_true] at c
  obtain ⟨⟨⟨⟨c1, c2⟩, c3⟩, c4⟩, c5⟩ := c
  refine ⟨st.calm, fun x hx => ?_, PassesOwn.never, st.nd, fun x hx => ?_, fun x hx => ?_, fun x hx => ?_, st.hu, st.gd⟩
  · have q := c1 x hx
    refine ⟨?_, by simpa using q.1.2, by simpa using q.2⟩
    show Vis (BX X scope s H C cl fp).env.scope x
    rw [hr]
    have q1 := q.1.1
    unfold Vis
    split at q1 <;> first | exact .inl (by assumption) | exact .inr (.inl (by assumption)) | exact .inr (.inr (by assumption)) | cases q1
  · have q := c2 x hx
    show Loc (BX X scope s H C cl fp).env.scope x ∧ ((scope.names.lookup x == some .cell) = true ∨ (BX X scope s H C cl fp).env.scope.names.lookup x = some .local)
    rw [hr]
    unfold L2.Loc
    split at q
    · rename_i h1
      exact ⟨.inl h1, .inr h1⟩
    · rename_i h1
      exact ⟨.inr h1, .inl q⟩
    · cases q
  · have g := c4 x hx
    have g5 := c5 x (List.mem_append_left _ hx)
    refine ⟨?_, hBx x (by simpa using g.1), by simpa using g.2, by simpa using g5⟩
    show (BX X scope s H C cl fp).env.scope.names.lookup x = some .globalImplicit
    rw [hr]
    simpa using c3 x (List.mem_append_left _ hx)
  · have g5 := c5 x (List.mem_append_right _ hx)
    refine ⟨?_, by simpa using g5⟩
    show (BX X scope s H C cl fp).env.scope.names.lookup x = some .globalImplicit
    rw [hr]
    simpa using c3 x (List.mem_append_right _ hx)
theorem pgs_n2 {x y : Str} {i j : Nat} {px py : Pos} (st' : AB X scope fun X1 => Stat X1 (own.map (·.1)) Vb Bb Fb) (ok : BlkOk X.N X.env.scope scope own) (hx : (x, i) ∈ own) (hy : (y, j) ∈ own) : AB X scope fun X1 => PGs X1 [.Name x px, .Name y py] (gNames [i, j]) := fun s H C cl fp =>
  pgs_cons (pg_nm (st' s H C cl fp) (List.mem_map.mpr ⟨_, hx, rfl⟩) (ok.ix _ hx)) (pgs_cons (pg_nm (st' s H C cl fp) (List.mem_map.mpr ⟨_, hy, rfl⟩) (ok.ix _ hy)) pgs_nil)
end
end DL

/-! Core7: a def by its body, the law's end. -/
namespace DL
open PySem PySem.Spec PyProof.Rows L2

/-- the names at a def's entry -/
def startE : List Str → List D → VEnv
  | [], _ => []
  | x :: N, d :: ds => (x, some d) :: startE N ds
  | x :: N, [] => (x, none) :: startE N []
theorem startE_names : ∀ (N : List Str) (ds : List D), (startE N ds).map (·.1) = N
  | [], _ => rfl
  | x :: N, d :: ds => by rw [startE, List.map_cons, startE_names N ds]
  | x :: N, [] => by rw [startE, List.map_cons, startE_names N []]
theorem startE_at : ∀ {N : List Str} {ds : List D} {i : Nat} {x : Str} {d : D}, (startE N ds)[i]? = some (x, some d) → ds[i]? = some d
  | [], _, _, _, _, h => by simp [startE] at h
  | _ :: N, e :: ds, 0, x, d, h => by simp [startE] at h; simp [h.2]
  | _ :: N, e :: ds, i + 1, x, d, h => by
    simp only [startE, List.getElem?_cons_succ] at h ⊢
    exact startE_at h
  | _ :: N, [], 0, x, d, h => by simp [startE] at h
  | _ :: N, [], i + 1, x, d, h => by
    simp only [startE, List.getElem?_cons_succ] at h
    have := startE_at h
    simp at this

def defChk (sc : Scope) (Ln Bn Fn Bx : List Str) : Bool :=
  (Bn.all fun x => decide (x ∈ Bx)) && ((Ln.all fun x => (match sc.names.lookup x with | some .local => true | some .cell => true | _ => false) && !(x == ("__debug__" : Str)) && !(x == ("__classdict__" : Str))) &&
  ((Bn ++ Fn).all fun x => (sc.names.lookup x == some .globalImplicit) && !(x == ("__debug__" : Str))) && (Bn.all fun x => !(x == ("__name__" : Str))))

section
variable {P : Program} {w : World} {K : PySem.W.Frag} {mg : Str → Option Value} {base : Heap}
/-- what is known of the context of a def's body -/
structure Bod (P : Program) (w : World) (K : PySem.W.Frag) (mg : Str → Option Value) (base : Heap) (k : Nat) (sc : Scope) (N Ln Bn Fn Bx : List Str) (X : Cx) : Prop where
  st : Stat X Ln Ln Bn Fn
  sc : X.env.scope = sc
  N : X.N = N
  room : Room k X.A
  kind : X.env.scope.kind = .function
  tr : ∀ {j : Nat} {x : Str} {n : Nat} {G : DSp}, Fs P w K mg base j x n G → Fs X.prog X.w X.K X.mg X.base j x n G
  mg : X.mg = mg
  blt : ∀ x ∈ Bx, X.mg x = none
  base : X.base = base
  stk : X.stack = X.env :: X.outer
  frm : X.env.frame = some X.env.locals
  pr : X.prog = P
  wd : X.w = w
  fr : X.K = K
/-- THE RULE for a def by its body -/
theorem gok_body {x qual : Str} {sd : Stmt} {f : Addr} {fd : FuncData} {N Ln ps Bn Fn Bx : List Str} {k n : Nat} {G : DSp} (F : Fun K x qual sd f fd) (S : FnScope N ps (defScope sd)) (hn : ps.length = n) (c : defChk (defScope sd) Ln Bn Fn Bx = true) (hB : ∀ x ∈ Bx, mg x = none)
    (h : ∀ (X : Cx) (ds : List D) (M : Mem) (Q : D → Mem → Prop), Bod P w K mg base k (defScope sd) N Ln Bn Fn Bx X → G ds M Q → WSs X (startE N ds) M (defBody sd) { nx := fun _ M' => Q .non M', rt := Q }) : GOk P w K mg base (k + 1) f fd ps (spD K n G) := by
  obtain ⟨oc, od, kV, doc, pm, an, cdv, ct, osl, rfl, lk, hcd⟩ := F.ex
  have len : ∀ vs H Q E, spD K n G vs H Q E → vs.length = ps.length := fun vs H Q E h => h.1.trans hn.symm
  refine ⟨len, fun A gd outer s H args us vs R E hr e0 hb r hsp => ?_⟩
  have hl := len _ _ _ _ hsp
  have keep : ∀ b o, base.get? b = some o → s.heap.get? b = some o := fun b o e => (e0.bs b o e).1
  have KX : K.In s.heap := e0.mod.kin.keeps keep
  have lim : s.heap.NoLimit := e0.mod.nolimit.keeps keep
  refine codeAny_call_function hr.depth (KX _ _ lk) rfl S.co S.gen rfl (PySem.W.codeRec_of KX hcd) (hb _ _ _ _ ?_)
  refine wpAny_newFunctionEnv_cells S.kind (fun ⟨m, v⟩ hy => (S.par m (List.of_mem_zip hy).1).imp id fun q => ⟨q, PySem.W.cellsFrom_some _ _ _ (.inl q)⟩) fun env he s1 x1 => ?_
  subst he
  refine ⟨lim.keeps x1.toInCall.keep, codeAny_func ?_⟩
  have I := inv_start (CX := CX0) (E := E) S hr.hd e0 hl r x1
  generalize hX : (cxOf CX0 P w K mg base N qual (defScope sd) f cdv A outer s H E) = X0 at I
  obtain ⟨_, S0, M0, ds, Q, m0, r0, g0, hR⟩ := hsp
  have hc := c
  unfold defChk at hc
  simp only [Bool.and_eq_true, List.all_eq_true] at hc
  obtain ⟨c0, ⟨c1, c2⟩, c3⟩ := hc
  have room := hr.deeper (envOfC qual (defScope sd) s.heap.objs.size f cdv)
  have bod : Bod P w K mg base k (defScope sd) N Ln Bn Fn Bx X0.nox := by
    subst hX
    refine ⟨⟨rfl, fun y hy => ?_, PassesOwn.never, S.nd, fun y hy => ?_, fun y hy => ?_, fun y hy => ?_, ?_, gd⟩, rfl, rfl, room, S.kind, fun q => q, rfl, hB, rfl, rfl, rfl, rfl, rfl, rfl⟩
    · have q := c1 y hy
      have q1 := q.1.1
      refine ⟨?_, by simpa using q.1.2, by simpa using q.2⟩
      split at q1
      · exact .inl (by assumption)
      · exact .inr (.inl (by assumption))
      · cases q1
    · have q1 := (c1 y hy).1.1
      refine ⟨?_, .inl rfl⟩
      split at q1
      · exact .inl (by assumption)
      · exact .inr (by assumption)
      · cases q1
    · have q := c2 y (List.mem_append_left _ hy)
      exact ⟨(by simpa using q.1 : (defScope sd).names.lookup y = some .globalImplicit), hB y (by simpa using c0 y hy), by simpa using c3 y hy, by simpa using q.2⟩
    · have q := c2 y (List.mem_append_right _ hy)
      exact ⟨(by simpa using q.1 : (defScope sd).names.lookup y = some .globalImplicit), by simpa using q.2⟩
    · have u := room.un
      show (A.deeper (envOfC qual (defScope sd) s.heap.objs.size f cdv)).units + 100 < cLine
      omega
  have sr : SR X0.nox S0 (start N vs) (startE N ds) := by
    subst hX
    have hln : (start N vs).length = N.length := I.len
    refine ⟨hln, startE_names N ds, fun i y d hi => ?_⟩
    obtain ⟨v, hv, rv⟩ := r0.get (startE_at hi)
    refine ⟨v, ?_, rv⟩
    unfold L2.start
    rw [List.getElem?_append_left (by rw [List.length_map]; exact (List.getElem?_eq_some_iff.mp hv).1), List.getElem?_map, hv]
    rfl
  have hK : X0.K = K := by subst hX; rfl
  have main := h X0.nox ds M0 Q bod g0 S0 (start N vs) H sr (by rw [show X0.nox.K = K from hK]; exact m0) [] s1 (I.wish _)
  have eA : X0.A = A.deeper (envOfC qual (defScope sd) s.heap.objs.size f cdv) := by subst hX; rfl
  have eE : X0.env = envOfC qual (defScope sd) s.heap.objs.size f cdv := by subst hX; rfl
  have eM : model X0.prog X0.w = model P w := by subst hX; rfl
  have main2 : wpAny (model P w) (A.deeper (envOfC qual (defScope sd) s.heap.objs.size f cdv)) (execs (defBody sd) (envOfC qual (defScope sd) s.heap.objs.size f cdv)) (SP X0.nox [] (ends X0.nox S0 { nx := fun _ M' => Q .non M', rt := Q })) (fun _ _ => False) s1 := by
    rw [← eA, ← eE, ← eM]; exact main
  refine wpAny_mono main2 (fun fl s' hs => ?_) fun _ _ z => False.elim z
  have fin : ∀ {σ' : L2.St} {H' : Hp} {v : V} {u : Value}, Inv X0.nox [] σ' H' s' → RelV v u → Post K S0 Q v H' → CE outer P w H s R u s' := fun {σ' H' v u} J rv q => by
    subst hX
    exact ⟨v, H', J.os, J.bare, J.base, J.hok, rv, hR v H' q⟩
  cases fl with
  | ret u =>
    obtain ⟨v, σ', H', J, rv, q⟩ := hs
    exact fin J rv (by rw [← hK]; exact q)
  | next =>
    obtain ⟨σ', H', J, Γ', M', S', q, s2, _, m2⟩ := hs
    exact fin (v := V.non) (u := Value.none) J rfl ⟨.non, M', S', q, s2, by rw [← hK]; exact m2, .non⟩
  | brk =>
    obtain ⟨_, _, _, _, _, _, q, _⟩ := hs
    exact False.elim q
  | cont =>
    obtain ⟨_, _, _, _, _, _, q, _⟩ := hs
    exact False.elim q
/-- a def of the text, as what its callers want -/
theorem fs_of {x qual : Str} {sd : Stmt} {f : Addr} {fd : FuncData} {N Ln ps Bn Fn Bx : List Str} {k n : Nat} {G : DSp} (F : Fun K x qual sd f fd) (hm : mg x = some (.ref f)) (hb : Binds K fd ps []) (S : FnScope N ps (defScope sd)) (hn : ps.length = n) (c : defChk (defScope sd) Ln Bn Fn Bx = true) (hB : ∀ x ∈ Bx, mg x = none)
    (h : ∀ (X : Cx) (ds : List D) (M : Mem) (Q : D → Mem → Prop), Bod P w K mg base k (defScope sd) N Ln Bn Fn Bx X → G ds M Q → WSs X (startE N ds) M (defBody sd) { nx := fun _ M' => Q .non M', rt := Q }) : Fs P w K mg base (k + 1) x n G :=
  ⟨f, fd, ps, hm, F.kp, hb, hn, gok_body F S hn c hB h⟩
end

/-! ### the law's own call -/
/-- a heap in which the script alone is tracked, where it is no object of the module -/
def onlyAt (a : Addr) (o : HO) : Hp := fun b => if b = a then some o else none
theorem law_run {P : Program} {w : World} {K : PySem.W.Frag} {mg mb : Str → Option Value} {k : Nat} {fa a : Addr} {fd : FuncData} {x : Str} {G : DSp} {s : Shared} {vs : List Value} {ns : List Int} (KX : K.In s.heap) (g1 : s.heap.Ns mainGlobals mg) (g2 : s.heap.Ns builtinsNs mb)
    (g3 : ∀ x : Str, x ≠ "__name__" → mb x = bootBuiltins x) (g4 : s.heap.NoLimit) (g5 : s.gens = #[]) (ha : s.heap.get? a = some { cls := .type "list", data := .seq vs.toArray }) (hi : IntsAre vs ns) (hl : ns.length ≤ sizeLine) (hr : Room k callerA)
    (g6 : ∃ mm, s.heap.Ns sysModules mm) (F : ∀ base : Heap, K.In base → base.Ns mainGlobals mg → (∃ mm, base.Ns sysModules mm) → GOk P w K mg base k fa fd [x] (spD K 1 G)) (hb : ∀ (s : Shared) (u : Value), BindsTo s fd ⟨[u], []⟩ [(x, u)]) (hG : G [.slst (ns.map .int)] [] fun d _ => d = .bl true) :
    codeAny (model P w) callerA (.call (.ref fa) ⟨[.ref a], []⟩) (fun r s' => r = .ok (.ret (.bool true)) ∧ OldK s.heap s'.heap ∧ s'.os = s.os ∧ AllBare s'.gens) s := by
  have rv := vals_ints hi
  -- whichever way the script is seen
  have both : ∀ H : Hp, (∀ b o, H b = some o → b = a ∧ ∃ q xs, o = .frz q (.lst xs)) → SqL K H a (ns.map V.int) → HOk P w H s.heap → (H a ≠ none → K.lookup a = none) →
      codeAny (model P w) callerA (.call (.ref fa) ⟨[.ref a], []⟩) (fun r s' => r = .ok (.ret (.bool true)) ∧ OldK s.heap s'.heap ∧ s'.os = s.os ∧ AllBare s'.gens) s := by
    intro H hH hS hok hK
    have away : ∀ {b : Addr} {o : Obj} {es : Array DictEntry} {ep : Nat}, s.heap.get? b = some o → o.data = .dict es ep → H b = none := by
      intro b o es ep e d
      match q : H b with
      | none => rfl
      | some u =>
        rw [(hH b u q).1, ha] at e
        cases e
        exact nomatch (show Data.seq vs.toArray _ = Data.dict es ep from d)
    have ns_of : ∀ {b : Addr} {m : Str → Option Value}, s.heap.Ns b m → (hidT s.heap H).Ns b m := by
      rintro b m ⟨o, es, ep, e, d, r⟩
      exact ⟨o, es, ep, hidT_get e (away e d), d, r⟩
    have kin : K.In (hidT s.heap H) := by
      intro b o e
      refine hidT_get (KX b o e) ?_
      match q : H b with
      | none => rfl
      | some u =>
        have eb := (hH b u q).1
        subst eb
        rw [hK (by rw [q]; exact Option.some_ne_none u)] at e
        cases e
    have md : Mod K mg (hidT s.heap H) := by
      obtain ⟨mc, l1, l2⟩ := g4
      exact ⟨kin, ns_of g1, ⟨mb, ns_of g2, g3⟩, mc, ns_of l1, l2⟩
    have env : Env0 P w K mg (hidT s.heap H) callerA [] s H := ⟨rfl, md, fun b o e => of_hidT e, Nat.le_of_eq (hidT_size _ _), trivial, fun b hb => (by cases hb), hok, .of_eq g5⟩
    -- the script as data by depth: it stands in S
    have mo : MO K H [] H := ⟨.refl _, fun p hp => (by cases hp), List.nodup_nil⟩
    have run := (F _ kin (ns_of g1) (let ⟨mm, q⟩ := g6; ⟨mm, ns_of q⟩)).run callerA rfl [] s H ⟨[.ref a], []⟩ [.ref a] [.ref a] (fun v _ => v = .bl true) E0 hr env (hb s (.ref a)) (.cons rfl .nil)
      ⟨rfl, H, [], _, _, mo, .one (.slst hS Reps.ints), hG, fun v H' ⟨d, M', S', e, _, _, r⟩ => (by subst e; exact r.bl_inv)⟩
    refine codeAny_mono run fun r s' h => ?_
    match r, h with
    | .error e, h => exact h.elim
    | .ok (.ret u), h =>
      obtain ⟨v, H', os, bare, un, hok', rv', q⟩ := h
      subst q
      cases rv'
      refine ⟨rfl, OldK.of_keep fun b o e => ?_, os, bare⟩
      match q : H b with
      | none => exact un.keep b o e q (fun z => (by cases z)) (fun z => (by cases z))
      | some u =>
        obtain ⟨_, ob, xs, eu⟩ := hH b u q
        subst eu
        have t1 := (hok b _ q).1
        have t2 := (hok' b _ (un.frzs b ob _ q)).1
        rw [t1] at e
        cases e
        exact t2
    | .ok .next, h => exact h.elim
    | .ok .brk, h => exact h.elim
    | .ok .cont, h => exact h.elim
  match hk : K.lookup a with
  | some o =>
    have e := KX a o hk
    rw [ha] at e
    cases e
    refine both (fun _ => none) (fun b o z => nomatch z) (.inr ⟨_, vs.toArray, _, hk, rfl, rfl, rfl, ?_, by simpa using rv⟩) (fun b u z => nomatch z) fun z => absurd rfl z
    rw [List.size_toArray, hi.length]
    exact hl
  | none =>
    refine both (onlyAt a (.frz { cls := .type "list", data := .seq vs.toArray } (.lst (ns.map V.int)))) (fun b o z => ?_) (.inl (.inr ⟨_, if_pos rfl⟩)) (fun b u z => ?_) fun _ => hk
    all_goals
      unfold onlyAt at z
      split at z
      · cases z
        rename_i hba
        subst hba
        first
          | exact ⟨rfl, _, _, rfl⟩
          | exact ⟨ha, by rw [List.length_map]; exact hl, vs, _, rv, ha⟩
      · cases z
/-- the goal that k_head leaves, from the law's promise -/
theorem walk_g {l : PySem.W.OpenLaw} {n k : Nat} {q : Program} {loose : List Str} {XP : (Str → Option Value) → Heap → Prop} {YP : World → Heap → Prop} {d : DefRec} {K : Params → PySem.W.Frag} {G : DSp} {x : Str} (hn : l.most = some n) (hn2 : n ≤ sizeLine) (hi : importsNone q = true)
    (hdf : d.params.defaults = []) (hr : Room k callerA) (hY : ∀ (w : World) (h : Heap), YP w h → (K w.params).In h)
    (F : ∀ (w : World) (mg : Str → Option Value) (fa : Addr) (h : Heap), (K w.params).In h → h.Ns mainGlobals mg → mg d.name = some (.ref fa) → ∃ fd : FuncData, (∀ (s : Shared) (u : Value), BindsTo s fd ⟨[u], []⟩ [(x, u)]) ∧
      ∀ base : Heap, (K w.params).In base → base.Ns mainGlobals mg → (∃ mm, base.Ns sysModules mm) → GOk l.prog w (K w.params) mg base k fa fd [x] (spD (K w.params) 1 G))
    (hG : ∀ ns : List Int, ns.length ≤ n → (∀ z ∈ ns, Builtin.Int.intBits z ≤ 1048576) → G [.slst (ns.map .int)] [] fun d _ => d = .bl true) : PySem.W.WalkO q loose XP YP l.row.toRowW d [] (fun f vs => PySem.call f vs) := by
  refine Att.attach_callB hn hdf ?_
  intro w s0 s mg mb fa o pm cd doc a vs ns Gr Y ho hd hcd hm hobj hints hlen hbits hg
  obtain ⟨fd, hb, hF⟩ := F w mg fa _ (hY w _ Y) Gr.T.g hm
  exact law_run (hY w _ Y) Gr.T.g Gr.T.b Gr.T.builtins Gr.T.nolimit hg hobj hints (Nat.le_trans hlen hn2) hr (let ⟨mm, q, _⟩ := (Gr.T.seer hi).mods; ⟨mm, q⟩) hF hb (hG ns hlen hbits)
end DL

/-! Core8: dicts. -/
namespace DL
open PySem PySem.Spec PyProof.Rows L2

section
variable {κ α : Type} [DecidableEq κ]
def valA (kvs : List (κ × α)) (k : κ) : Option α := (kvs.find? fun kv => decide (kv.1 = k)).map (·.2)
def putA (kvs : List (κ × α)) (k : κ) (v : α) : List (κ × α) := if (kvs.any fun kv => decide (kv.1 = k)) = true then kvs.map (fun kv => if kv.1 = k then (kv.1, v) else kv) else kvs ++ [(k, v)]
theorem valA_nil {k : κ} : valA ([] : List (κ × α)) k = none := rfl
theorem valA_cons {p : κ × α} {r : List (κ × α)} {k : κ} : valA (p :: r) k = if p.1 = k then some p.2 else valA r k := by
  by_cases h : p.1 = k <;> simp [valA, List.find?_cons, h]
theorem valA_append {r s : List (κ × α)} {k : κ} : valA (r ++ s) k = (valA r k).or (valA s k) := by
  induction r with
  | nil => simp [valA_nil]
  | cons p r ih =>
    rw [List.cons_append, valA_cons, valA_cons]
    by_cases h : p.1 = k
    · rw [if_pos h, if_pos h]; rfl
    · rw [if_neg h, if_neg h]; exact ih
theorem valA_map (kvs : List (κ × α)) (k j : κ) (v : α) : valA (kvs.map fun kv => if kv.1 = k then (kv.1, v) else kv) j = if j = k then (valA kvs j).map (fun _ => v) else valA kvs j := by
  induction kvs with
  | nil => simp [valA_nil]
  | cons p r ih =>
    rw [List.map_cons, valA_cons, valA_cons, ih]
    by_cases hp : p.1 = k
    · rw [if_pos hp]
      by_cases hj : p.1 = j
      · have e : j = k := hj.symm.trans hp
        simp [hj, e]
      · have e : ¬ j = k := fun q => hj (hp.trans q.symm)
        simp [hj, e]
    · rw [if_neg hp]
      by_cases hj : p.1 = j
      · have e : ¬ j = k := fun q => hp (hj.trans q)
        simp [hj, e]
      · simp [hj]
theorem valA_any {kvs : List (κ × α)} {k : κ} : (kvs.any fun kv => decide (kv.1 = k)) = (valA kvs k).isSome := by
  induction kvs with
  | nil => rfl
  | cons p r ih =>
    rw [List.any_cons, valA_cons]
    by_cases h : p.1 = k
    · simp [h]
    · simp [h, ih]
theorem valA_put (kvs : List (κ × α)) (k j : κ) (v : α) : valA (putA kvs k v) j = if j = k then some v else valA kvs j := by
  unfold putA
  rw [valA_any]
  by_cases h : (valA kvs k).isSome = true
  · rw [if_pos h, valA_map]
    by_cases e : j = k
    · subst e
      obtain ⟨w, hw⟩ := Option.isSome_iff_exists.mp h
      simp [hw]
    · simp [e]
  · rw [if_neg h, valA_append, valA_cons, valA_nil]
    by_cases e : j = k
    · subst e
      rw [Option.not_isSome_iff_eq_none.mp h]
      simp
    · simp [e, Ne.symm e]
theorem putA_keys (kvs : List (κ × α)) (k : κ) (v : α) : (putA kvs k v).map (·.1) = if (valA kvs k).isSome = true then kvs.map (·.1) else kvs.map (·.1) ++ [k] := by
  unfold putA
  rw [valA_any]
  by_cases h : (valA kvs k).isSome = true
  · rw [if_pos h, if_pos h, List.map_map]
    refine List.map_congr_left fun p _ => ?_
    show (if p.1 = k then (p.1, v) else p).1 = p.1
    split <;> rfl
  · rw [if_neg h, if_neg h, List.map_append]; rfl
theorem putA_length_le (kvs : List (κ × α)) (k : κ) (v : α) : (putA kvs k v).length ≤ kvs.length + 1 := by
  unfold putA
  split
  · rw [List.length_map]; omega
  · rw [List.length_append, List.length_singleton]; exact Nat.le_refl _
theorem valA_mem_keys {kvs : List (κ × α)} {k : κ} : (valA kvs k).isSome = true ↔ k ∈ kvs.map (·.1) := by
  induction kvs with
  | nil => simp [valA_nil]
  | cons p r ih =>
    rw [valA_cons, List.map_cons, List.mem_cons]
    by_cases h : p.1 = k
    · simp [h]
    · rw [if_neg h, ih]
      constructor
      · exact .inr
      · rintro (q | q)
        · exact absurd q.symm h
        · exact q
end
section
variable {κ : Type} [DecidableEq κ] {K : PySem.W.Frag} {S : Hp}
theorem PK.nil : PK K S ([] : List (κ × V)) [] := ⟨rfl, .nil⟩
theorem PK.ind {kvs : List (κ × V)} {ds : List (κ × D)} (h : PK K S kvs ds) : (kvs = [] ∧ ds = []) ∨ ∃ k v d kr dr, kvs = (k, v) :: kr ∧ ds = (k, d) :: dr ∧ Rep K S v d ∧ PK K S kr dr := by
  obtain ⟨h1, h2⟩ := h
  cases kvs with
  | nil => cases ds with
    | nil => exact .inl ⟨rfl, rfl⟩
    | cons _ _ => cases h1
  | cons p kr => cases ds with
    | nil => cases h1
    | cons q dr =>
      rw [List.map_cons, List.map_cons] at h1 h2
      cases h2 with
      | cons r rs =>
        have e := (List.cons.inj h1)
        exact .inr ⟨p.1, p.2, q.2, kr, dr, rfl, by rw [e.1], r, e.2, rs⟩
theorem PK.cons {k : κ} {v : V} {d : D} {kr : List (κ × V)} {dr : List (κ × D)} (r : Rep K S v d) (h : PK K S kr dr) : PK K S ((k, v) :: kr) ((k, d) :: dr) := ⟨by rw [List.map_cons, List.map_cons, h.1], .cons r h.2⟩
theorem PK.length {kvs : List (κ × V)} {ds : List (κ × D)} (h : PK K S kvs ds) : kvs.length = ds.length := by
  have := congrArg List.length h.1
  simpa using this
theorem PK.val : ∀ {kvs : List (κ × V)} {ds : List (κ × D)} {k : κ}, PK K S kvs ds → (valV kvs k = none ∧ valA ds k = none) ∨ ∃ v d, valV kvs k = some v ∧ valA ds k = some d ∧ Rep K S v d
  | [], ds, k, h => by
    rcases h.ind with ⟨_, rfl⟩ | ⟨_, _, _, _, _, e, _⟩
    · exact .inl ⟨rfl, rfl⟩
    · cases e
  | p :: kr, ds, k, h => by
    rcases h.ind with ⟨e, _⟩ | ⟨k', v, d, kr', dr, e, rfl, r, t⟩
    · cases e
    · cases e
      by_cases hk : k' = k
      · exact .inr ⟨v, d, by rw [valV_pos (p := (k', v)) hk], by rw [valA_cons, if_pos hk], r⟩
      · rw [valV_neg (p := (k', v)) hk, valA_cons, if_neg hk]
        exact PK.val t
theorem PK.app : ∀ {kvs ks : List (κ × V)} {ds es : List (κ × D)}, PK K S kvs ds → PK K S ks es → PK K S (kvs ++ ks) (ds ++ es) := fun h g =>
  ⟨by rw [List.map_append, List.map_append, h.1, g.1], by rw [List.map_append, List.map_append]; exact h.2.append g.2⟩
theorem PK.map {k : κ} {v : V} {d : D} (r : Rep K S v d) : ∀ {kvs : List (κ × V)} {ds : List (κ × D)}, PK K S kvs ds → PK K S (kvs.map fun kv => if kv.1 = k then (kv.1, v) else kv) (ds.map fun kv => if kv.1 = k then (kv.1, d) else kv)
  | [], ds, h => by
    rcases h.ind with ⟨_, rfl⟩ | ⟨_, _, _, _, _, e, _⟩
    · exact .nil
    · cases e
  | p :: kr, ds, h => by
    rcases h.ind with ⟨e, _⟩ | ⟨k', v', d', kr', dr, e, rfl, r', t⟩
    · cases e
    · cases e
      rw [List.map_cons, List.map_cons]
      by_cases hk : k' = k
      · rw [if_pos hk, if_pos hk]; exact .cons r (PK.map r t)
      · rw [if_neg hk, if_neg hk]; exact .cons r' (PK.map r t)
theorem PK.put {k : κ} {v : V} {d : D} {kvs : List (κ × V)} {ds : List (κ × D)} (h : PK K S kvs ds) (r : Rep K S v d) : PK K S (putK kvs k v) (putA ds k d) := by
  have e : (kvs.any fun kv => decide (kv.1 = k)) = (ds.any fun kv => decide (kv.1 = k)) := by
    have e1 : (kvs.any fun kv => decide (kv.1 = k)) = (kvs.map (·.1)).any fun x => decide (x = k) := by rw [List.any_map]; rfl
    have e2 : (ds.any fun kv => decide (kv.1 = k)) = (ds.map (·.1)).any fun x => decide (x = k) := by rw [List.any_map]; rfl
    rw [e1, e2, h.1]
  unfold putK putA
  rw [e]
  split
  · exact PK.map r h
  · exact h.app ⟨rfl, .one r⟩
end

section
variable {X : Cx} {Γ : VEnv} {M : Mem} {Q : D → Mem → Prop} {QB : Bool → Mem → Prop} {QE : VEnv → Mem → Prop} {x : Str} {d : D} {pos p p2 apos : Pos} {a b c e o i : Expr} {es : List Expr} {Ln Vn Bn Fn : List Str}

theorem we_dnew (q : ∀ p, Q (.ref p) ((p, .dK []) :: M)) : WE X Γ M (.Dict [] [] pos) Q := fun S σ H hΓ hM => tE_of pe_dnewK fun p hp => ⟨_, _, S, q p, .refl _, hM.alloc hp ⟨[], upd_same, .nil⟩, .ref p⟩
theorem we_dnewT (q : ∀ p, Q (.ref p) ((p, .dT []) :: M)) : WE X Γ M (.Dict [] [] pos) Q := fun S σ H hΓ hM => tE_of pe_dnewT fun p hp => ⟨_, _, S, q p, .refl _, hM.alloc hp ⟨[], upd_same, .nil⟩, .ref p⟩
/-- a key by depth -/
def kD : Key → D
  | .inl i => .int i
  | .inr x => .str x
theorem rep_kD {K : PySem.W.Frag} {S : Hp} {v : V} {k : Key} (r : Rep K S v (kD k)) : v = kV k := by
  cases k with
  | inl i => exact r.int_inv
  | inr x => exact r.str_inv
theorem reps_kD {K : PySem.W.Frag} {S : Hp} : ∀ {vs : List V} {ks : List Key}, Reps K S vs (ks.map kD) → vs = ks.map kV
  | _, [], .nil => rfl
  | _, k :: ks, .cons h t => by rw [rep_kD h, reps_kD t]; rfl
theorem rep_of_key {K : PySem.W.Frag} {S : Hp} (k : Key) : Rep K S (kV k) (kD k) := by
  cases k with
  | inl i => exact .int i
  | inr x => exact .str x
/-- the dict at d holds r at the key y -/
def GetD (M : Mem) (d y : D) (r : Option D) : Prop := ∃ a f, d = .ref a ∧ ((∃ kvs k, (At a M (.dK kvs) f ∨ ∃ o us, At a M (.fzK o us kvs) f) ∧ y = kD k ∧ r = valA kvs k) ∨ ∃ kvs ks, At a M (.dT kvs) f ∧ y = .tup (ks.map kD) ∧ r = valA kvs ks)
theorem GetD.dk {a : Addr} {f : Cell → Mem} {kvs : List (Key × D)} {i : Int} (h : At a M (.dK kvs) f) : GetD M (.ref a) (.int i) (valA kvs (.inl i)) := ⟨a, f, rfl, .inl ⟨kvs, .inl i, .inl h, rfl, rfl⟩⟩
theorem GetD.fzK {a : Addr} {f : Cell → Mem} {o : Obj} {us : List (Key × V)} {kvs : List (Key × D)} {i : Int} (h : At a M (.fzK o us kvs) f) : GetD M (.ref a) (.int i) (valA kvs (.inl i)) := ⟨a, f, rfl, .inl ⟨kvs, .inl i, .inr ⟨o, us, h⟩, rfl, rfl⟩⟩
theorem GetD.get {K : PySem.W.Frag} {S H : Hp} {v w : V} {d y : D} {r : Option D} (g : GetD M d y r) (m : MO K S M H) (rv : Rep K S v d) (rw' : Rep K S w y) : ∃ a o, v = .ref a ∧ DGet H a w o ∧ ((o = none ∧ r = none) ∨ ∃ u z, o = some u ∧ r = some z ∧ Rep K S u z) := by
  obtain ⟨a, f, rfl, ⟨kvs, k, h | ⟨o, us, h⟩, rfl, rfl⟩ | ⟨kvs, ks, h, rfl, rfl⟩⟩ := g
  · obtain ⟨us, hx, pk⟩ := m.at_ok h
    rw [rv.ref_inv, rep_kD rw']
    refine ⟨a, _, rfl, .k hx, ?_⟩
    exact pk.val.imp id fun ⟨u, z, a, b, c⟩ => ⟨u, z, a, b, c⟩
  · obtain ⟨hx, pk⟩ := m.at_ok h
    rw [rv.ref_inv, rep_kD rw']
    refine ⟨a, _, rfl, .inl ⟨us, k, .inr ⟨o, hx⟩, rfl, rfl⟩, ?_⟩
    exact pk.val.imp id fun ⟨u, z, a, b, c⟩ => ⟨u, z, a, b, c⟩
  · obtain ⟨us, hx, pk⟩ := m.at_ok h
    obtain ⟨b, ws, rfl, hb, rs⟩ := Rep.tup_get m rw'
    rw [reps_kD rs] at hb
    rw [rv.ref_inv]
    refine ⟨a, _, rfl, .t hx hb, ?_⟩
    exact pk.val.imp id fun ⟨u, z, a, b, c⟩ => ⟨u, z, a, b, c⟩
theorem od_inD {d y : D} {r : Option D} (st : Stat X Ln Vn Bn Fn) (g : GetD M d y r) (q : Q (.bl r.isSome) M) : OD X (compareOp .In) y d M Q := by
  intro S H v w rv rw' m pins s σ u z I ru rz
  obtain ⟨a, ov, rfl, dg, ho⟩ := g.get m rw' rv
  cases (show z = Value.ref a from rz)
  have e : ov.isSome = r.isSome := by rcases ho with ⟨rfl, rfl⟩ | ⟨_, _, rfl, rfl, _⟩ <;> rfl
  exact d_in (by have := st.hu; omega) I dg ru fun s' I' => ⟨.bl ov.isSome, H, I', rfl, by rw [e]; exact .of m (.bl _) q⟩
theorem od_notInD {d y : D} {r : Option D} (st : Stat X Ln Vn Bn Fn) (g : GetD M d y r) (q : Q (.bl (!r.isSome)) M) : OD X (compareOp .NotIn) y d M Q := by
  intro S H v w rv rw' m pins s σ u z I ru rz
  obtain ⟨a, ov, rfl, dg, ho⟩ := g.get m rw' rv
  cases (show z = Value.ref a from rz)
  have e : ov.isSome = r.isSome := by rcases ho with ⟨rfl, rfl⟩ | ⟨_, _, rfl, rfl, _⟩ <;> rfl
  exact d_notIn (by have := st.hu; omega) I dg ru fun s' I' => ⟨.bl (!ov.isSome), H, I', rfl, by rw [e]; exact .of m (.bl _) q⟩
/-- d[k] -/
theorem we_dix (st : Stat X Ln Vn Bn Fn) (h : WE X Γ M o fun d M1 => WE X Γ M1 i fun y M2 => ∃ r, GetD M2 d y (some r) ∧ Q r M2) (hs : NoSl i := by exact fun _ _ => rfl) : WE X Γ M (.Subscript o i pos) Q := by
  intro S σ H hΓ hM
  refine tE_of (pe_dget (by have := st.hu; omega) pe_c pe_c hs) (two hΓ hM h fun x y H2 S2 da db M2 s m rx ry q => ?_)
  obtain ⟨r, g, q⟩ := q
  obtain ⟨pa, ov, e, dg, ho⟩ := g.get m rx ry
  rcases ho with ⟨_, e2⟩ | ⟨u, z, rfl, e2, rz⟩
  · cases e2
  · cases e2
    exact ⟨pa, u, e, dg, _, M2, S2, q, s, m, rz⟩
/-- d[k] = v -/
theorem wg_dix (st : Stat X Ln Vn Bn Fn) (h : WE X Γ M o fun do_ M1 => WE X Γ M1 i fun y M2 => ∃ a f, do_ = .ref a ∧ ((∃ kvs k, At a M2 (.dK kvs) f ∧ y = kD k ∧ kvs.length < sizeLine ∧ QE Γ (f (.dK (putA kvs k d)))) ∨ ∃ kvs ks, At a M2 (.dT kvs) f ∧ y = .tup (ks.map kD) ∧ kvs.length < sizeLine ∧ QE Γ (f (.dT (putA kvs ks d)))))
    (ha : ∀ v, assign (.Subscript o i pos) X.env v = (do
      let ov ← holding [v] (eval o X.env)
      let iv ← holding [v, ov] (eval i X.env)
      standAt pos
      holding [v, ov, iv] (setItem ov iv v)
      release [v, ov, iv] []) := by intro _; rfl) : WG X Γ M (.Subscript o i pos) d QE := by
  intro S σ H v hΓ hM r
  refine tG_of (pg_sub pe_c pe_c (set_dict (by have := st.hu; omega)) ha) ?_
  refine tE_post (h S σ H hΓ hM) fun d1 M1 S1 v1 H1 q1 s1 m1 r1 => ?_
  refine tE_post (q1 S1 σ H1 (hΓ.mono s1) m1) fun d2 M2 S2 v2 H2 q2 s2 m2 r2 => ?_
  have rr := (r.mono s1).mono s2
  obtain ⟨q, f, rfl, ⟨kvs, k, h, rfl, hl, k'⟩ | ⟨kvs, ks, h, rfl, hl, k'⟩⟩ := q2
  · obtain ⟨us, hx, pk⟩ := m2.at_ok h
    have e2 := rep_kD r2
    subst e2
    exact ⟨q, _, (r1.mono s2).ref_inv, .k hx (by rw [pk.length]; exact hl), _, _, S2, k', s1.trans s2, (hΓ.mono s1).mono s2, m2.write h (c' := .dK (putA kvs k d)) ⟨_, upd_same, pk.put rr⟩⟩
  · obtain ⟨us, hx, pk⟩ := m2.at_ok h
    obtain ⟨b, ws, rfl, hb, rs⟩ := Rep.tup_get m2 r2
    rw [reps_kD rs] at hb
    exact ⟨q, _, (r1.mono s2).ref_inv, .t hx hb (by rw [pk.length]; exact hl), _, _, S2, k', s1.trans s2, (hΓ.mono s1).mono s2, m2.write h (c' := .dT (putA kvs ks d)) ⟨_, upd_same, pk.put rr⟩⟩
theorem cd_lenD {a : Addr} {kvs : List (Key × D)} {f : Cell → Mem} (h : At a M (.dK kvs) f) (q : Q (.int kvs.length) M) : CD X (.builtin "len") [.ref a] M Q := cd_of call_lenD fun S H xs rx m => by
  obtain ⟨v, rfl, rv⟩ := reps_one rx
  obtain ⟨us, hx, pk⟩ := m.at_ok h
  exact ⟨a, us, by rw [rv.ref_inv], hx, by rw [pk.length]; exact .of m (.int _) q⟩
/-- sorted(d) of a dict by whole numbers -/
theorem cd_sortedK {a : Addr} {kvs : List (Key × D)} {f : Cell → Mem} {ks ms : List Int} (st : Stat X Ln Vn Bn Fn) (h : At a M (.dK kvs) f) (hk : kvs.map (·.1) = ks.map Sum.inl) (h64 : ks.length < 64) (hp : ms.Perm ks) (hs : ms.Pairwise (· ≤ ·)) (q : Q (.lst (ms.map D.int)) M) : CD X (.builtin "sorted") [.ref a] M Q :=
  cd_of (call_sortedDI st.calm) fun S H xs rx m => by
    obtain ⟨v, rfl, rv⟩ := reps_one rx
    obtain ⟨us, hx, pk⟩ := m.at_ok h
    refine ⟨a, us, ks, by rw [rv.ref_inv], .inl hx, pk.1.trans hk, h64, fun ys p h2 h3 hp' => ?_⟩
    have e : ys = ms := (h2.trans hp.symm).eq_of_pairwise (fun a b _ _ h1 h2 => Int.le_antisymm h1 h2) h3 hs
    subst e
    exact post_lst m Reps.ints q p hp'

/-! ### dict(pairs), d.update(pairs) -/
def mergeA (kvs more : List (Key × D)) : List (Key × D) := more.foldl (fun acc kv => putA acc kv.1 kv.2) kvs
theorem PK.merge {K : PySem.W.Frag} {S : Hp} : ∀ {more : List (Key × V)} {mds : List (Key × D)} {kvs : List (Key × V)} {ds : List (Key × D)}, PK K S more mds → PK K S kvs ds → PK K S (mergeK kvs more) (mergeA ds mds)
  | [], mds, kvs, ds, h, g => by
    rcases h.ind with ⟨_, rfl⟩ | ⟨_, _, _, _, _, e, _⟩
    · exact g
    · cases e
  | p :: more, mds, kvs, ds, h, g => by
    rcases h.ind with ⟨e, _⟩ | ⟨k, v, d, kr, dr, e, rfl, r, t⟩
    · cases e
    · cases e
      exact PK.merge (kvs := putK kvs k v) (ds := putA ds k d) t (g.put r)
/-- a list of pairs by depth, its keys and values -/
theorem pairs_rep {K : PySem.W.Frag} {S H : Hp} (hs : Same S H) : ∀ {ps : List (Key × D)} {vs : List V}, Reps K S vs (ps.map fun p => .tup [kD p.1, p.2]) → ∃ (as : List Addr) (kvs : List (Key × V)), vs = as.map V.ref ∧ Paired (fun p kv => SqT K H p [kV kv.1, kv.2]) as kvs ∧ PK K S kvs ps
  | [], _, .nil => ⟨[], [], rfl, .nil, .nil⟩
  | p :: ps, _, .cons h t => by
    obtain ⟨as, kvs, rfl, hp, pk⟩ := pairs_rep hs t
    obtain ⟨a, us, rfl, ha, ru⟩ := h.tup_inv
    obtain ⟨u, w, rfl, r1, r2⟩ := reps_two ru
    rw [rep_kD r1] at ha
    exact ⟨a :: as, (p.1, w) :: kvs, rfl, .cons (.of (hs _ _ ha)) hp, .cons r2 pk⟩
theorem cd_dictP {d : D} {ps : List (Key × D)} (st : Stat X Ln Vn Bn Fn) (h : IsR M d (ps.map fun p => .tup [kD p.1, p.2])) (q : ∀ p, Q (.ref p) ((p, .dK (mergeA [] ps)) :: M)) : CD X (.type "dict") [d] M Q := cd_of (call_dictP st.calm) fun S H xs rx m => by
  obtain ⟨v, rfl, rv⟩ := reps_one rx
  obtain ⟨pa, us, rfl, h1, r1⟩ := h.get m rv
  obtain ⟨as, kvs, rfl, hp, pk⟩ := pairs_rep m.sub r1
  exact ⟨pa, as, kvs, rfl, h1, hp, fun p hp' => ⟨_, _, S, q p, .refl _, m.alloc hp' ⟨_, upd_same, PK.merge pk .nil⟩, .ref p⟩⟩
theorem pairsV {pins : List (Addr × Obj)} {σ : L2.St} {H : Hp} {s : Shared} (I : Inv X pins σ H s) : ∀ {ps : List Addr} {kvs : List (Key × V)}, Paired (fun p kv => SqT X.K H p [kV kv.1, kv.2]) ps kvs →
    ∃ (prs : List (Key × Value)) (pv : List (Value × Value)), KV kvs prs ∧ prs.length = ps.length ∧ pv.length = ps.length ∧ ∀ (j : Nat) (k v : Value), pv[j]? = some (k, v) → ∃ key b, prs[j]? = some (key, v) ∧ keyIs key k = true ∧ ps[j]? = some b ∧ IsTup s.heap b #[k, v]
  | _, _, .nil => ⟨[], [], .nil, rfl, rfl, fun j k v e => by simp at e⟩
  | _, _, .cons (a := p) (b := kv) h t => by
    obtain ⟨prs, pv, r, l1, l2, hp⟩ := pairsV I t
    obtain ⟨its, rv, ht, _⟩ := I.tuple h
    obtain ⟨w1, w2, rfl, ru, ry⟩ := vals2 rv
    refine ⟨(kv.1, w2) :: prs, (w1, w2) :: pv, .cons ⟨rfl, ry⟩ r, by rw [List.length_cons, List.length_cons, l1], by rw [List.length_cons, List.length_cons, l2], fun j k v e => ?_⟩
    match j with
    | 0 =>
      cases e
      exact ⟨_, p, rfl, kV_is (P := X.prog) (w := X.w) ru, rfl, ht⟩
    | j + 1 =>
      obtain ⟨key, b, e1, e2, e3, e4⟩ := hp j k v e
      exact ⟨key, b, e1, e2, e3, e4⟩
theorem mt_update (hc : X.calm = true) : MtR X "dict.update" (fun x xs H R => ∃ (d l : Addr) (kvs more : List (Key × V)) (ps : List Addr), x = .ref d ∧ xs = [.ref l] ∧ H d = some (.dK kvs) ∧ H l = some (.lst (ps.map V.ref)) ∧ Paired (fun p kv => SqT X.K H p [kV kv.1, kv.2]) ps more ∧
    kvs.length + ps.length ≤ sizeLine ∧ R .non (upd H d (.dK (mergeK kvs more)))) := by
  intro pins s σ H x xs v us R I rx rxs h
  obtain ⟨d, l, kvs, more, ps, rfl, rfl, hd, hl, hp, hz, q⟩ := h
  cases rx
  obtain ⟨u, rfl, ru⟩ := vals1 rxs
  cases ru
  obtain ⟨z, lo, vs, rel, dd⟩ := dk_of I.hok hd
  obtain ⟨its, rv, pl, hz2⟩ := I.list (.of hl)
  have ei := refs_at rv
  subst ei
  obtain ⟨prs, pv, rel2, l1, l2, hpv⟩ := pairsV I hp
  obtain ⟨o, n, ho, hcl, hdn, hdat⟩ := pl
  have okA : PlainSeq "list" s.heap l (ps.map Value.ref).toArray ∧ PairItems s.heap (ps.map Value.ref).toArray (fun j => ps.getD j 0) pv := by
    refine ⟨⟨o, n, ho, hcl, hdn, hdat⟩, by simp [l2], fun j k v e => ?_⟩
    obtain ⟨key, b, e1, e2, e3, e4⟩ := hpv j k v e
    have e5 : ps.getD j 0 = b := by rw [List.getD_eq_getElem?_getD, e3]; rfl
    show _ ∧ PairAt s.heap (ps.getD j 0) k v
    refine ⟨by simp [e3], ?_⟩
    rw [e5]
    exact .inl e4
  have hnd : d ∉ l :: (List.range pv.length).map fun j => ps.getD j 0 := by
    intro hm
    obtain ⟨od, es, ep, hod, exd, dat, _⟩ := dd
    rcases List.mem_cons.mp hm with e | hm
    · rw [e, ho] at hod
      cases hod
      rw [hdat] at dat
      cases dat
    · obtain ⟨j, hj, e⟩ := List.mem_map.mp hm
      have hjl : j < pv.length := List.mem_range.mp hj
      obtain ⟨key, b, e1, e2, e3, e4⟩ := hpv j pv[j].1 pv[j].2 (List.getElem?_eq_getElem hjl)
      have e5 : ps.getD j 0 = b := by rw [List.getD_eq_getElem?_getD, e3]; rfl
      obtain ⟨ob, hob, hcb, nb, hdb⟩ := e4
      rw [← e, e5, hob] at hod
      cases hod
      rw [hdb] at dat
      cases dat
  refine call_update_pairs (knd := mixKind X.prog X.w) (acc := vs) (kvs := prs) (PairArg.list l (ps.map Value.ref).toArray (fun j => ps.getD j 0) pv) (I.ok.hd hc) okA hnd ⟨by rw [l1, l2], fun j key w e => ?_⟩ dd (by rw [l2, ← rel.length]; exact hz) fun h' tk dd' hk => ?_
  · obtain ⟨k, b, e1, e2, e3, e4⟩ := hpv j key w e
    exact ⟨k, e1, e2⟩
  · have he : ∃ q, h'.get? d = some q := let ⟨q, _, _, hq, _⟩ := dd'; ⟨q, hq⟩
    have hlen : (mergeK kvs more).length ≤ sizeLine := by
      refine Nat.le_trans (length_mergeK more kvs) ?_
      rw [rel2.length, l1]; exact hz
    exact ⟨.non, _, I.write (x := d) (e := d) (by rw [hd]; exact True.intro) (.inl rfl) (fun b q hb z => hk b q hb (by simp) z) he (dk_new hlen lo (KV.merge rel2 rel) dd'), rfl, q⟩
theorem md_update {a : Addr} {kvs ps : List (Key × D)} {d : D} {f : Cell → Mem} (st : Stat X Ln Vn Bn Fn) (h : At a M (.dK kvs) f) (hd : IsL M d (ps.map fun p => .tup [kD p.1, p.2])) (hl : kvs.length + ps.length ≤ sizeLine) (q : Q .non (f (.dK (mergeA kvs ps)))) : MD X "dict.update" (.ref a) [d] M Q :=
  md_of (mt_update st.calm) fun S H v xs rv rx m => by
    obtain ⟨y, rfl, ry⟩ := reps_one rx
    obtain ⟨us, hx, pk⟩ := m.at_ok h
    obtain ⟨b, ws, rfl, hb, r2⟩ := hd.get m ry
    obtain ⟨as, more, rfl, hp, pk2⟩ := pairs_rep m.sub r2
    have l2 := r2.length
    rw [List.length_map, List.length_map] at l2
    exact ⟨a, b, us, more, as, rv.ref_inv, rfl, hx, hb, hp, by rw [pk.length, l2]; exact hl, .of (m.write h (c' := .dK (mergeA kvs ps)) ⟨_, upd_same, PK.merge pk2 pk⟩) .non q⟩
theorem mergeA_val (more : List (Key × D)) : ∀ (kvs : List (Key × D)) (k : Key), (valA (mergeA kvs more) k).isSome = ((valA kvs k).isSome || (valA more k).isSome) := by
  induction more with
  | nil => intro kvs k; simp [mergeA, valA_nil]
  | cons p more ih =>
    intro kvs k
    show (valA (mergeA (putA kvs p.1 p.2) more) k).isSome = _
    rw [ih, valA_put, valA_cons]
    by_cases h : k = p.1
    · simp [h]
    · simp [h, Ne.symm h]
theorem mergeA_length (more : List (Key × D)) : ∀ (kvs : List (Key × D)), (mergeA kvs more).length ≤ kvs.length + more.length := by
  induction more with
  | nil => intro kvs; exact Nat.le_refl _
  | cons p more ih =>
    intro kvs
    have h1 := ih (putA kvs p.1 p.2)
    have h2 := putA_length_le kvs p.1 p.2
    show (mergeA (putA kvs p.1 p.2) more).length ≤ _
    rw [List.length_cons]
    omega
end
end DL

/-! Core9: small words for the walks. -/
namespace DL
open PySem PySem.Spec PyProof.Rows L2
theorem mem_h {α : Type} {x : α} {l : List α} : x ∈ x :: l := List.mem_cons_self
theorem mem_t {α : Type} {x y : α} {l : List α} (h : x ∈ l) : x ∈ y :: l := List.mem_cons_of_mem _ h
theorem boot_max : bootBuiltins "max" = some (.builtin "max") := by decide +kernel
theorem boot_min : bootBuiltins "min" = some (.builtin "min") := by decide +kernel
theorem boot_any : bootBuiltins "any" = some (.builtin "any") := by decide +kernel
theorem boot_all : bootBuiltins "all" = some (.builtin "all") := by decide +kernel
theorem boot_sum : bootBuiltins "sum" = some (.builtin "sum") := by decide +kernel
theorem ite_d {p : Prop} [Decidable p] {A B : Prop} (h1 : p → A) (h2 : ¬ p → B) : if decide p = true then A else B := by
  by_cases h : p
  · rw [decide_eq_true h, if_pos rfl]; exact h1 h
  · rw [decide_eq_false h, if_neg Bool.false_ne_true]; exact h2 h
theorem ite_n {p : Prop} [Decidable p] {A B : Prop} (h1 : ¬ p → A) (h2 : p → B) : if (!decide p) = true then A else B := by
  by_cases h : p
  · rw [decide_eq_true h]; exact h2 h
  · rw [decide_eq_false h]; exact h1 h
theorem ite_b {b : Bool} {A B : Prop} (h1 : b = true → A) (h2 : b = false → B) : if b = true then A else B := by
  cases b with
  | true => exact h1 rfl
  | false => exact h2 rfl
theorem cm_l {i j : Int} (h1 : -18446744073709551616 < i) (h2 : i < 18446744073709551616) : CMul i j := .inl ⟨h1, h2⟩
theorem cm_r {i j : Int} (h1 : -18446744073709551616 < j) (h2 : j < 18446744073709551616) : CMul i j := .inr ⟨h1, h2⟩
theorem cm_pow {i j : Int} (h0 : 0 ≤ j) (h1 : j ≤ 1000000) (h2 : -18446744073709551616 < i) (h3 : i < 18446744073709551616) : CPow i j := ⟨h0, h1, by show i.natAbs < 18446744073709551616; omega⟩
section
variable {X : Cx} {Γ : VEnv} {M : Mem} {e : Expr} {es : List Expr} {Q : D → Mem → Prop} {QB : Bool → Mem → Prop} {QA : List D → Mem → Prop}
theorem gWE (h : WE X Γ M e Q) : WE X Γ M e Q := h
theorem gWT (h : WT X Γ M e QB) : WT X Γ M e QB := h
theorem gWW (h : WW X Γ M e QB) : WW X Γ M e QB := h
theorem gWA (h : WA X Γ M es QA) : WA X Γ M es QA := h
theorem gOD {f : Value → Value → Sem Value} {d1 d2 : D} (h : OD X f d1 d2 M Q) : OD X f d1 d2 M Q := h
theorem gCD {f : Value} {ds : List D} (h : CD X f ds M Q) : CD X f ds M Q := h
end
section
variable {P : Program} {w : World} {K : PySem.W.Frag} {mg : Str → Option Value} {base : Heap} {X : Cx} {Γ Γb : VEnv} {M : Mem} {Q : D → Mem → Prop} {E : DE} {x : Str} {pos px : Pos} {elt iter : Expr} {scope sc : Scope} {own : List (Str × Nat)} {N Ln Bn Fn Bx Vb Bb Fb : List Str} {k : Nat}
/-- a comprehension's block, checked -/
structure Blk (X : Cx) (scope : Scope) (own : List (Str × Nat)) (Vb Bb Fb : List Str) : Prop where
  ok : BlkOk X.N X.env.scope scope own
  st : AB X scope fun X1 => Stat X1 (own.map (·.1)) Vb Bb Fb
theorem blk_of (b : Bod P w K mg base k sc N Ln Bn Fn Bx X) (h : (blkC N sc scope own && blkChk sc scope (own.map (·.1)) Vb Bb Fb Bx) = true) : Blk X scope own Vb Bb Fb := by
  rw [Bool.and_eq_true] at h
  exact ⟨by rw [b.N, b.sc]; exact blkOk_by h.1, blk_stat b.st b.blt b.sc h.2⟩
/-- what follows a statement is shown once, from Mid -/
theorem ws_mid {s : Stmt} {rest : List Stmt} (Mid : VEnv → Mem → Prop) (h : WS X Γ M s (E.thn Mid)) (k : ∀ Γ' M', Mid Γ' M' → WSs X Γ' M' rest E) : WSs X Γ M (s :: rest) E := by
  refine wss_cons fun S σ H hΓ hM pins s' I => thn (h S σ H hΓ hM pins s' I) fun f s2 q => SP.imp q ?_ (fun _ _ z => z) (fun _ _ z => z) (fun _ _ z => z)
  exact fun σ' H' z => PostG.imp z k
/-- an owned list just made is owned no more -/
theorem we_frz {e : Expr} (h : WE X Γ M e fun d M1 => ∃ p ds M2, d = .ref p ∧ M1 = (p, .lst ds) :: M2 ∧ Q (.lst ds) M2) : WE X Γ M e Q := WE.frz (h.imp fun _ _ q => .inl q)

def MapT (X : Cx) (scope : Scope) (Γ2 : VEnv) (M1 : Mem) (elt : Expr) (r : D) : Prop := ∀ L acc, AB X scope fun X2 => WE X2 Γ2 ((L, .lst acc) :: M1) elt fun d M4 => M4 = (L, .lst acc) :: M1 ∧ d = r
/-- the steps of a comprehension that maps -/
theorem lc_map {α : Type} {l : List α} {g hh : α → D} {tg : Expr} {items : List D} {Stb : Mem → Prop} {M1 : Mem} {R : Nat → D → VEnv → Prop} (hi : items = l.map g) (hz : l.length ≤ sizeLine) (hs : ∀ L acc, Stb ((L, .lst acc) :: M1))
    (ht : ∀ a ∈ l, ∃ Γ2, R 0 (g a) Γ2 ∧ MapT X scope Γ2 M1 elt (hh a)) : ∃ I : Nat → List D → Mem → Prop, I 0 [] M1 ∧ (∀ i acc M' L, I i acc M' → Stb ((L, .lst acc) :: M')) ∧
      (∀ i d acc M', items[i]? = some d → I i acc M' → ∃ Γ2, R 0 d Γ2 ∧ Turn1 X scope Γ2 [] elt I i acc M') ∧ ∀ acc M', I items.length acc M' → acc = l.map hh ∧ M' = M1 := by
  subst hi
  refine ⟨fun i acc M' => M' = M1 ∧ acc = (l.take i).map hh, ⟨rfl, rfl⟩, fun i acc M' L h => by rw [h.1]; exact hs L acc, fun i d acc M' e h => ?_, fun acc M' h => ⟨by rw [h.2, List.length_map, List.take_length], h.1⟩⟩
  obtain ⟨rfl, rfl⟩ := h
  rw [List.getElem?_map] at e
  obtain ⟨a, ha, rfl⟩ := Option.map_eq_some_iff.mp e
  obtain ⟨Γ2, h1, h2⟩ := ht a (List.mem_of_getElem? ha)
  refine ⟨Γ2, h1, fun L s H C cl fp => ?_⟩
  dsimp only [WTs]
  rw [if_pos rfl]
  intro s2 H2 C2 cl2 fp2
  refine (h2 L _ s2 H2 C2 cl2 fp2).imp fun d M4 ⟨e1, e2⟩ => ⟨?_, M', e1, rfl, ?_⟩
  · rw [List.length_map, List.length_take]
    have := (List.getElem?_eq_some_iff.mp ha).1
    omega
  · rw [List.take_add_one, ha, e2]
    simp
theorem we_lcM {α : Type} {i : Nat} (l : List α) (g hh : α → D) (st : Stat X N N Bn Fn) (bl : Blk X scope own Vb Bb Fb) (hxi : (x, i) ∈ own) (hwp : Wiped Γ own Γb)
    (h : WI X Γ M (.Name x px) iter fun items Stb M1 => items = l.map g ∧ l.length ≤ sizeLine ∧ (∀ L acc, Stb ((L, .lst acc) :: M1)) ∧ (∀ a ∈ l, ∃ Γ2, SetAt Γb x (g a) Γ2 ∧ MapT X scope Γ2 M1 elt (hh a)) ∧ ∀ p, Q (.ref p) ((p, .lst (l.map hh)) :: M1))
    (hs : ∀ x, foldedSetIterable iter X.env x = pure x := by intro _; rfl) : WE X Γ M (.ListComp elt [⟨.Name x px, iter, [], 0⟩] scope pos) Q := by
  refine we_lc st bl.st hxi bl.ok hwp (Nat.zero_le _) (fun S σ H a b => tI_mono (h S σ H a b) ?_) hs
  rintro J H1 ⟨items, Stb, M1, S1, ⟨h1, h2, h3, h4, h5⟩, s1, m1, W⟩
  obtain ⟨I, i1, i2, i3, i4⟩ := lc_map (tg := .Name x px) (R := fun _ d Γ2 => SetAt Γb x d Γ2) h1 h2 h3 h4
  exact ⟨items, Stb, M1, S1, ⟨I, i1, i2, i3, fun acc M' q p => by obtain ⟨rfl, rfl⟩ := i4 acc M' q; exact h5 p⟩, s1, m1, W⟩
theorem ws_setLcM {α : Type} {i j : Nat} {y : Str} {py spos : Pos} (l : List α) (g hh : α → D) (st : Stat X N N Bn Fn) (bl : Blk X scope own Vb Bb Fb) (hxi : (x, i) ∈ own) (hwp : Wiped Γ own Γb) (hy : y ∈ N) (hyl : X.env.scope.names.lookup y = some .local) (hk : X.env.scope.kind = .function) (hNy : X.N[j]? = some y)
    (ha : (scope.names.any fun (n, k) => n == y && (k == .local || k == .cell)) = false)
    (h : WI X Γ M (.Name x px) iter fun items Stb M1 => items = l.map g ∧ l.length ≤ sizeLine ∧ (∀ L acc, Stb ((L, .lst acc) :: M1)) ∧ (∀ a ∈ l, ∃ Γ2, SetAt Γb x (g a) Γ2 ∧ MapT X scope Γ2 M1 elt (hh a)) ∧ ∀ p, ∃ Γ', SetAt Γ y (.ref p) Γ' ∧ E.nx Γ' ((p, .lst (l.map hh)) :: M1))
    (hl : (py.line == pos.line) = true := by rfl) (hl2 : spos.line = py.line := by rfl) (hs : ∀ x, foldedSetIterable iter X.env x = pure x := by intro _; rfl) : WS X Γ M (.Assign [.Name y py] (.ListComp elt [⟨.Name x px, iter, [], 0⟩] scope pos) spos) E := by
  refine ws_setLc st hy hyl hk hNy ha bl.st hxi bl.ok hwp (Nat.zero_le _) (fun S σ H a b => tI_mono (h S σ H a b) ?_) hl hl2 hs
  rintro J H1 ⟨items, Stb, M1, S1, ⟨h1, h2, h3, h4, h5⟩, s1, m1, W⟩
  obtain ⟨I, i1, i2, i3, i4⟩ := lc_map (tg := .Name x px) (R := fun _ d Γ2 => SetAt Γb x d Γ2) h1 h2 h3 h4
  exact ⟨items, Stb, M1, S1, ⟨I, i1, i2, i3, fun acc M' q p => by obtain ⟨rfl, rfl⟩ := i4 acc M' q; exact h5 p⟩, s1, m1, W⟩
theorem we_lcTM {α : Type} {xs : List Str} {is : List Nat} {ts : List Expr} {kk n : Nat} (l : List α) (gs : α → List D) (hh : α → D) (st : Stat X N N Bn Fn) (bl : Blk X scope own Vb Bb Fb) (hxi : Paired (fun x i => (x, i) ∈ own) xs is) (hwp : Wiped Γ own Γb)
    (hts : AB X scope fun X1 => PGs X1 ts (gNames is)) (hn : AB X scope fun X1 => (assignEach ts X1.env).length = n ∧ (assignEach ts X1.env).findIdx? (·.1) = none)
    (h : WI X Γ M (.Tuple ts kk px) iter fun items Stb M1 => items = l.map (fun a => .tup (gs a)) ∧ l.length ≤ sizeLine ∧ (∀ L acc, Stb ((L, .lst acc) :: M1)) ∧ (∀ a ∈ l, ∃ Γ2, ((gs a).length = n ∧ SetAts Γb xs (gs a) Γ2) ∧ MapT X scope Γ2 M1 elt (hh a)) ∧ ∀ p, Q (.ref p) ((p, .lst (l.map hh)) :: M1))
    (hs : ∀ x, foldedSetIterable iter X.env x = pure x := by intro _; rfl) : WE X Γ M (.ListComp elt [⟨.Tuple ts kk px, iter, [], 0⟩] scope pos) Q := by
  refine we_lcT st bl.st hxi bl.ok hwp (Nat.zero_le _) hts hn (fun S σ H a b => tI_mono (h S σ H a b) ?_) hs
  rintro J H1 ⟨items, Stb, M1, S1, ⟨h1, h2, h3, h4, h5⟩, s1, m1, W⟩
  obtain ⟨I, i1, i2, i3, i4⟩ := lc_map (tg := .Tuple ts kk px) (g := fun a => .tup (gs a)) (R := fun _ d Γ2 => ∃ ds, d = .tup ds ∧ ds.length = n ∧ SetAts Γb xs ds Γ2) h1 h2 h3 (fun a ha => let ⟨Γ2, ⟨q1, q2⟩, q3⟩ := h4 a ha; ⟨Γ2, ⟨gs a, rfl, q1, q2⟩, q3⟩)
  exact ⟨items, Stb, M1, S1, ⟨I, i1, i2, fun i d acc M' e p => let ⟨Γ2, ⟨ds, q1, q2, q3⟩, t⟩ := i3 i d acc M' e p; ⟨ds, Γ2, q1, q2, q3, t⟩, fun acc M' q p => by obtain ⟨rfl, rfl⟩ := i4 acc M' q; exact h5 p⟩, s1, m1, W⟩
/-- the steps of a comprehension that picks and maps -/
def PickT (X : Cx) (scope : Scope) (Γ2 : VEnv) (M1 : Mem) (c elt : Expr) (p : Bool) (r : D) : Prop := ∀ L acc, AB X scope fun X1 => WT X1 Γ2 ((L, .lst acc) :: M1) c fun b M3 => b = p ∧ M3 = (L, .lst acc) :: M1 ∧ (p = true → AB X scope fun X2 => WE X2 Γ2 ((L, .lst acc) :: M1) elt fun d M4 => M4 = (L, .lst acc) :: M1 ∧ d = r)
theorem lc_pick {α : Type} {l : List α} {g hh : α → D} {pk : α → Bool} {c : Expr} {items : List D} {Stb : Mem → Prop} {M1 : Mem} {R : Nat → D → VEnv → Prop} (hi : items = l.map g) (hz : l.length ≤ sizeLine) (hs : ∀ L acc, Stb ((L, .lst acc) :: M1))
    (ht : ∀ a ∈ l, ∃ Γ2, R 0 (g a) Γ2 ∧ PickT X scope Γ2 M1 c elt (pk a) (hh a)) : ∃ I : Nat → List D → Mem → Prop, I 0 [] M1 ∧ (∀ i acc M' L, I i acc M' → Stb ((L, .lst acc) :: M')) ∧
      (∀ i d acc M', items[i]? = some d → I i acc M' → ∃ Γ2, R 0 d Γ2 ∧ Turn1 X scope Γ2 [c] elt I i acc M') ∧ ∀ acc M', I items.length acc M' → acc = (l.filter pk).map hh ∧ M' = M1 := by
  subst hi
  refine ⟨fun i acc M' => M' = M1 ∧ acc = ((l.take i).filter pk).map hh, ⟨rfl, rfl⟩, fun i acc M' L h => by rw [h.1]; exact hs L acc, fun i d acc M' e h => ?_, fun acc M' h => ⟨by rw [h.2, List.length_map, List.take_length], h.1⟩⟩
  obtain ⟨rfl, rfl⟩ := h
  rw [List.getElem?_map] at e
  obtain ⟨a, ha, rfl⟩ := Option.map_eq_some_iff.mp e
  obtain ⟨Γ2, h1, h2⟩ := ht a (List.mem_of_getElem? ha)
  refine ⟨Γ2, h1, fun L s H C cl fp => ?_⟩
  refine fun S σ H' a1 a2 => tT_mono (h2 L _ s H C cl fp S σ H' a1 a2) ?_
  rintro b H2 ⟨M3, S3, ⟨rfl, rfl, q⟩, s3, m3⟩
  refine ⟨_, S3, ?_, s3, m3⟩
  cases hp : pk a with
  | true =>
    rw [if_pos rfl]
    intro s2 H2 C2 cl2 fp2
    refine (q hp s2 H2 C2 cl2 fp2).imp fun d M4 ⟨e1, e2⟩ => ⟨?_, M', e1, rfl, ?_⟩
    · rw [List.length_map]
      have l1 := List.length_filter_le pk (l.take i)
      rw [List.length_take] at l1
      have := (List.getElem?_eq_some_iff.mp ha).1
      omega
    · rw [List.take_add_one, ha, e2]
      simp [hp]
  | false =>
    rw [if_neg Bool.false_ne_true]
    refine ⟨M', rfl, rfl, ?_⟩
    rw [List.take_add_one, ha]
    simp [hp]
theorem we_lcP {α : Type} {i : Nat} {c : Expr} (l : List α) (g hh : α → D) (pk : α → Bool) (st : Stat X N N Bn Fn) (bl : Blk X scope own Vb Bb Fb) (hxi : (x, i) ∈ own) (hwp : Wiped Γ own Γb)
    (h : WI X Γ M (.Name x px) iter fun items Stb M1 => items = l.map g ∧ l.length ≤ sizeLine ∧ (∀ L acc, Stb ((L, .lst acc) :: M1)) ∧ (∀ a ∈ l, ∃ Γ2, SetAt Γb x (g a) Γ2 ∧ PickT X scope Γ2 M1 c elt (pk a) (hh a)) ∧ ∀ p, Q (.ref p) ((p, .lst ((l.filter pk).map hh)) :: M1))
    (hs : ∀ x, foldedSetIterable iter X.env x = pure x := by intro _; rfl) : WE X Γ M (.ListComp elt [⟨.Name x px, iter, [c], 0⟩] scope pos) Q := by
  refine we_lc st bl.st hxi bl.ok hwp (Nat.le_refl _) (fun S σ H a b => tI_mono (h S σ H a b) ?_) hs
  rintro J H1 ⟨items, Stb, M1, S1, ⟨h1, h2, h3, h4, h5⟩, s1, m1, W⟩
  obtain ⟨I, i1, i2, i3, i4⟩ := lc_pick (R := fun _ d Γ2 => SetAt Γb x d Γ2) h1 h2 h3 h4
  exact ⟨items, Stb, M1, S1, ⟨I, i1, i2, i3, fun acc M' q p => by obtain ⟨rfl, rfl⟩ := i4 acc M' q; exact h5 p⟩, s1, m1, W⟩
end
end DL

/-! Core10: list(range), what is left behind, lists of ints compared; places in written lists. -/
namespace DL
open PySem PySem.Spec PyProof.Rows L2
section
variable {X : Cx} {Γ : VEnv} {M : Mem} {Q : D → Mem → Prop} {QB : Bool → Mem → Prop} {x : Str} {d : D} {pos p p2 : Pos} {a e : Expr} {Ln Vn Bn Fn : List Str}
theorem rep_rg {K : PySem.W.Frag} {S : Hp} (n : Int) : Reps K S (rgV 0 n) (rngD 0 n.toNat) := by
  unfold rgV rngD
  rw [Int.sub_zero]
  exact Reps.of_map fun i _ => .int _
theorem we_listRngO (st : Stat X Ln Vn Bn Fn) (hx : ("list" : Str) ∈ Bn) (hr : ("range" : Str) ∈ Bn) (h : WE X Γ M a fun d M1 => ∃ n : Int, d = .int n ∧ 0 ≤ n ∧ n ≤ 16777216 ∧ ∀ p, Q (.ref p) ((p, .lst (rngD 0 n.toNat)) :: M1)) (na : starEach [a] X.env = (false, eval a X.env) :: starEach [] X.env := by rfl) : WE X Γ M (.Call (.Name "list" pos) [.Call (.Name "range" p2) [a] [] p] [] pos') Q := by
  intro S σ H hΓ hM
  refine tE_of (pe_listRg st.calm (st.blt _ hx).1 (st.blt _ hx).2.1 (prg_1 (st.blt _ hr).1 (st.blt _ hr).2.1 pe_c na)) ?_
  refine tE_post (h S σ H hΓ hM) ?_
  rintro d M1 S1 v H1 ⟨n, rfl, h0, h1, q⟩ s1 m1 r1
  exact ⟨n, r1.int_inv, .of_le (Int.le_refl 0) h1 (by omega) h0, fun p hp => (post_own m1 (rep_rg n) q p hp).weak s1⟩
/-- cells that nobody asks for any more -/
theorem MO.gc {K : PySem.W.Frag} {S H : Hp} : ∀ {G : Mem} {M2 : Mem}, MO K S (G ++ M2) H → MO K S M2 H
  | [], _, m => m
  | _ :: G, _, m => MO.gc (G := G) m.drop
theorem we_gc (h : WE X Γ M e fun d M1 => ∃ G M2, List.Perm M1 (G ++ M2) ∧ Q d M2) : WE X Γ M e Q := fun S σ H hΓ hM => tE_mono (h S σ H hΓ hM) fun v H' ⟨d, M1, S1, ⟨G, M2, pm, q⟩, s1, m1, r1⟩ =>
  ⟨d, M2, S1, q, s1, (m1.perm pm).gc, r1⟩
/-- an owned list, owned no more, all else of the body forgotten -/
theorem we_fin (h : WE X Γ M e fun d M1 => ∃ p ds G M2, d = .ref p ∧ List.Perm M1 ((p, .lst ds) :: (G ++ M2)) ∧ Q (.lst ds) M2) : WE X Γ M e Q := by
  intro S σ H hΓ hM
  refine tE_mono (h S σ H hΓ hM) ?_
  rintro v H' ⟨d, M1, S1, ⟨p, ds, G, M2, rfl, pm, q⟩, s1, m1, r1⟩
  obtain ⟨S2, s2, m2, r2⟩ := (m1.perm pm).freeze
  rw [← r1.ref_inv] at r2
  exact ⟨_, M2, S2, q, s1.trans s2, m2.gc, r2⟩
/-- an owned list, still owned, all else of the body forgotten -/
theorem we_finO (h : WE X Γ M e fun d M1 => ∃ p ds G M2, d = .ref p ∧ List.Perm M1 (G ++ ((p, .lst ds) :: M2)) ∧ Q (.ref p) ((p, .lst ds) :: M2)) : WE X Γ M e Q := by
  refine we_gc (h.imp ?_)
  rintro d M1 ⟨p, ds, G, M2, rfl, pm, q⟩
  exact ⟨G, _, pm, q⟩

theorem eqv_ints : ∀ (ns ms : List Int), PyData.eqvAll (ns.map PyData.int) (ms.map PyData.int) = decide (ns = ms)
  | [], [] => rfl
  | [], _ :: _ => rfl
  | _ :: _, [] => rfl
  | n :: ns, m :: ms => by
    simp only [List.map_cons, PyData.eqvAll, PyData.eqv, eqv_ints ns ms, List.cons.injEq, Bool.decide_and]
    rfl
theorem shaped_ints (ns : List Int) : SeqAt.shaped (.list (ns.map PyData.int)) = true := by
  have h1 : PyData.canLayAll0 (ns.map PyData.int) = true := by
    induction ns with
    | nil => rfl
    | cons n ns ih => simp [PyData.canLayAll0, PyData.canLay0, ih]
  have h2 : PyData.depthAll (ns.map PyData.int) ≤ 1 := by
    induction ns with
    | nil => simp [PyData.depthAll]
    | cons n ns ih => simp only [List.map_cons, PyData.depthAll, PyData.depth]; have := ih (by simpa [PyData.canLayAll0, PyData.canLay0] using h1); omega
  unfold SeqAt.shaped
  rw [Bool.and_eq_true]
  refine ⟨by simp only [PyData.canLay0]; exact h1, decide_eq_true ?_⟩
  simp only [PyData.depth]; omega
theorem py_ints {d : D} {ns : List Int} (h : IsR M d (ns.map .int)) : Py M d (.list (ns.map PyData.int)) := by
  rcases h with (rfl | ⟨a, f, rfl, h⟩) | rfl
  · exact .lst (Pys.of_map fun a _ => .int a)
  · exact .ref h (Pys.of_map fun a _ => .int a)
  · exact .slst (Pys.of_map fun a _ => .int a)
theorem od_eqL {d e : D} {ns ms : List Int} (st : Stat X Ln Vn Bn Fn) (h1 : IsR M d (ns.map .int)) (h2 : IsR M e (ms.map .int)) (q : Q (.bl (decide (ns = ms))) M) : OD X (compareOp .Eq) d e M Q :=
  od_eqP st (py_ints h1) (py_ints h2) (shaped_ints ns) (shaped_ints ms) (by simp only [PyData.eqv, eqv_ints]; exact q)
theorem od_neL {d e : D} {ns ms : List Int} (st : Stat X Ln Vn Bn Fn) (h1 : IsR M d (ns.map .int)) (h2 : IsR M e (ms.map .int)) (q : Q (.bl (!decide (ns = ms))) M) : OD X (compareOp .NotEq) d e M Q :=
  od_neP st (py_ints h1) (py_ints h2) (shaped_ints ns) (shaped_ints ms) (by simp only [PyData.eqv, eqv_ints]; exact q)

theorem szl {n : Nat} (h : n ≤ 16777216) : n ≤ sizeLine := by rw [sizeLine_eq]; exact h
theorem szlt {n : Nat} (h : n < 16777216) : n < sizeLine := by rw [sizeLine_eq]; exact h
/-- any place of a list -/
theorem atI_mem {α : Type} {ds : List α} {r : Int} (h0 : 0 ≤ r) (h1 : r < ds.length) : ∃ d, atI ds r = some d ∧ d ∈ ds := by
  have hl : r.toNat < ds.length := by omega
  exact ⟨ds[r.toNat], atI_ofNat h0 (List.getElem?_eq_getElem hl), List.getElem_mem hl⟩
theorem IxD.list {ds : List D} {d r : D} {i : Int} (h : IsR M d ds) (e : atI ds i = some r) : IxD M d i r := .inl ⟨ds, .inl h, e⟩
theorem IxD.tup {ds : List D} {r : D} {i : Int} (e : atI ds i = some r) : IxD M (.tup ds) i r := .inl ⟨ds, .inr rfl, e⟩
theorem isR_lst {ds : List D} : IsR M (.lst ds) ds := .inl (.inl rfl)
theorem isR_slst {ds : List D} : IsR M (.slst ds) ds := .inr rfl
theorem isL_lst {ds : List D} : IsL M (.lst ds) ds := .inl rfl
theorem isR_ref {a : Addr} {ds : List D} {f : Cell → Mem} (h : At a M (.lst ds) f) : IsR M (.ref a) ds := .inl (.inr ⟨a, f, rfl, h⟩)
theorem isL_ref {a : Addr} {ds : List D} {f : Cell → Mem} (h : At a M (.lst ds) f) : IsL M (.ref a) ds := .inr ⟨a, f, rfl, h⟩
theorem ite_ff {A B : Prop} (h : B) : if false = true then A else B := by rw [if_neg Bool.false_ne_true]; exact h
theorem ite_tt {A B : Prop} (h : A) : if true = true then A else B := by rw [if_pos rfl]; exact h
theorem tyL {d : D} {ds : List D} (h : IsR M d ds) : TyD M "list" d := .inl ⟨rfl, ds, h⟩
theorem tyK {a : Addr} {kvs : List (Key × D)} {f : Cell → Mem} (h : At a M (.dK kvs) f) : TyD M "dict" (.ref a) := .inr (.inr ⟨rfl, a, f, rfl, .inl ⟨kvs, h⟩⟩)
section
variable {es : List Expr} {name : Str} {apos : Pos} {v : Str} {o i b : Expr} {op : Operator} {co : CmpOp} {ds : List D} {T : String} {n : Nat} {R : Prop} {RG : VEnv → Prop}
theorem kName {x : Str} {pos : Pos} (h : WE X Γ M (.Name x pos) Q) : WE X Γ M (.Name x pos) Q := h
theorem kIx (h : WE X Γ M (.Subscript o i pos) Q) : WE X Γ M (.Subscript o i pos) Q := h
theorem kCmp (h : WE X Γ M (.Compare o [co] [b] pos) Q) : WE X Γ M (.Compare o [co] [b] pos) Q := h
theorem kCall {x : Str} (h : WE X Γ M (.Call (.Name x p) es [] pos) Q) : WE X Γ M (.Call (.Name x p) es [] pos) Q := h
theorem kAtt (name : Str) (h : WE X Γ M (.Call (.Attribute o name apos) es [] pos) Q) : WE X Γ M (.Call (.Attribute o name apos) es [] pos) Q := h
theorem kOp (op : Operator) {d1 d2 : D} (h : OD X (binaryOp op) d1 d2 M Q) : OD X (binaryOp op) d1 d2 M Q := h
theorem kCo (op : CmpOp) {d1 d2 : D} (h : OD X (compareOp op) d1 d2 M Q) : OD X (compareOp op) d1 d2 M Q := h
theorem kBl (T : String) (h : CD X (.builtin T) ds M Q) : CD X (.builtin T) ds M Q := h
theorem kTC (h : WT X Γ M (.Compare o [co] [b] pos) QB) : WT X Γ M (.Compare o [co] [b] pos) QB := h
theorem kTy {d : D} (h : TyD M T d ∧ R) : TyD M T d ∧ R := h
theorem kSz (h : n ≤ sizeLine ∧ R) : n ≤ sizeLine ∧ R := h
theorem kIxd {d : D} {i : Int} {R : Int → D → Prop} (h : ∃ (i' : Int) (r' : D), D.int i = .int i' ∧ IxD M d i' r' ∧ R i' r') : ∃ (i' : Int) (r' : D), D.int i = .int i' ∧ IxD M d i' r' ∧ R i' r' := h
theorem kPut {x : Str} {d : D} (h : ∃ Γ', SetAt Γ x d Γ' ∧ RG Γ') : ∃ Γ', SetAt Γ x d Γ' ∧ RG Γ' := h
theorem kWA {QA : List D → Mem → Prop} (h : WA X Γ M (e :: es) QA) : WA X Γ M (e :: es) QA := h
end
theorem woN {QO : Option Int → Mem → Prop} (h : QO none M) : WO X Γ M none QO := h
theorem woS {QO : Option Int → Mem → Prop} (h : WE X Γ M e fun d M1 => ∃ i, d = .int i ∧ QO (some i) M1) : WO X Γ M (some e) QO := h
theorem gTy {T : String} {d : D} {R : Prop} (h : TyD M T d) (q : R) : TyD M T d ∧ R := ⟨h, q⟩
theorem gSz {n : Nat} {R : Prop} (h : n ≤ sizeLine) (q : R) : n ≤ sizeLine ∧ R := ⟨h, q⟩
theorem gIx {d r : D} {i : Int} {R : Int → D → Prop} (h : IxD M d i r) (q : R i r) : ∃ (i' : Int) (r' : D), D.int i = .int i' ∧ IxD M d i' r' ∧ R i' r' := ⟨i, r, rfl, h, q⟩
theorem gBl {k : Bool} {R : Bool → Prop} (q : R k) : ∃ k', D.bl k = .bl k' ∧ R k' := ⟨k, rfl, q⟩
theorem gInt {k : Int} {R : Int → Prop} (q : R k) : ∃ k', D.int k = .int k' ∧ R k' := ⟨k, rfl, q⟩
theorem gPut {Γ' : VEnv} {R : VEnv → Prop} (h : SetAt Γ x d Γ') (q : R Γ') : ∃ Γ', SetAt Γ x d Γ' ∧ R Γ' := ⟨Γ', h, q⟩
theorem gLen {ds : List D} {n : Nat} {R : Prop} (h : ds.length = n) (q : R) : ds.length = n ∧ R := ⟨h, q⟩
theorem at2 {α : Type} {a b : α} {x : Int} : atI [a, b] (x % 2) = some (if x % 2 = 0 then a else b) := by
  rcases (by omega : x % 2 = 0 ∨ x % 2 = 1) with h | h <;> rw [h] <;> simp [atI, ixN]
/-- one of two by a truth -/
theorem atI_two {α : Type} {a b : α} {p : Prop} [Decidable p] : atI [a, b] (if decide p = true then 1 else 0) = some (if p then b else a) := by
  by_cases h : p
  · simp [h, atI, ixN]
  · simp [h, atI, ixN]
end
theorem At.app {a : Addr} {M : Mem} {c : Cell} {f : Cell → Mem} (h : At a M c f) : ∀ G : Mem, At a (G ++ M) c (fun c => G ++ f c)
  | [] => h
  | _ :: G => .there (At.app h G)
theorem cd_sortedKO {X : Cx} {M : Mem} {Q : D → Mem → Prop} {Ln Vn Bn Fn : List Str} {a : Addr} {kvs : List (Key × D)} {f : Cell → Mem} {ks ms : List Int} (st : Stat X Ln Vn Bn Fn) (h : At a M (.dK kvs) f) (hk : kvs.map (·.1) = ks.map Sum.inl) (h64 : ks.length < 64) (hp : ms.Perm ks) (hs : ms.Pairwise (· ≤ ·)) (q : ∀ p, Q (.ref p) ((p, .lst (ms.map D.int)) :: M)) : CD X (.builtin "sorted") [.ref a] M Q := by
  refine cd_of (call_sortedDI st.calm) fun S H xs rx m => ?_
  obtain ⟨v, rfl, rv⟩ := reps_one rx
  obtain ⟨us, hx, pk⟩ := m.at_ok h
  refine ⟨a, us, ks, by rw [rv.ref_inv], .inl hx, pk.1.trans hk, h64, fun ys p h2 h3 hp' => ?_⟩
  have e : ys = ms := (h2.trans hp.symm).eq_of_pairwise (fun a b _ _ h1 h2 => Int.le_antisymm h1 h2) h3 hs
  subst e
  exact post_own m Reps.ints q p hp'
theorem Bod.lk {P : Program} {w : World} {K : PySem.W.Frag} {mg : Str → Option Value} {base : Heap} {k : Nat} {sc : Scope} {N Ln Bn Fn Bx : List Str} {X : Cx} {x : Str} {r : NameKind} (b : Bod P w K mg base k sc N Ln Bn Fn Bx X) (h : sc.names.lookup x = some r) : X.env.scope.names.lookup x = some r := by rw [b.sc]; exact h
/-- what a comprehension's block has of its def's context -/
structure Inn (X X1 : Cx) (scope : Scope) (ow Vb Bb Fb : List Str) : Prop where
  N : X1.N = X.N
  sc : X1.env.scope = relS scope X.env.scope
  mg : X1.mg = X.mg
  st : Stat X1 ow Vb Bb Fb
  tr : ∀ {j : Nat} {x : Str} {n : Nat} {G : DSp}, Fs X.prog X.w X.K X.mg X.base j x n G → Fs X1.prog X1.w X1.K X1.mg X1.base j x n G
  rm : ∀ {j : Nat}, Room j X.A → Room j X1.A
  base : X1.base = X.base
  pr : X1.prog = X.prog
  wd : X1.w = X.w
  fr : X1.K = X.K
theorem Blk.inn {X : Cx} {scope : Scope} {own : List (Str × Nat)} {Vb Bb Fb : List Str} (b : Blk X scope own Vb Bb Fb) (s : Shared) (H : Hp) (C : Addr) (cl : List (Str × Addr)) (fp : List Addr) : Inn X (BX X scope s H C cl fp) scope (own.map (·.1)) Vb Bb Fb := ⟨rfl, rfl, rfl, b.st s H C cl fp, fun h => h, fun h => h, rfl, rfl, rfl, rfl⟩
theorem mapT_of {X : Cx} {Γ2 : VEnv} {M1 : Mem} {elt : Expr} {r : D} {scope : Scope} {own : List (Str × Nat)} {Vb Bb Fb : List Str} (b : Blk X scope own Vb Bb Fb) (h : ∀ X1, Inn X X1 scope (own.map (·.1)) Vb Bb Fb → ∀ L acc, WE X1 Γ2 ((L, .lst acc) :: M1) elt fun d M4 => M4 = (L, .lst acc) :: M1 ∧ d = r) : MapT X scope Γ2 M1 elt r :=
  fun L acc s H C cl fp => h _ (b.inn s H C cl fp) L acc
theorem pickT_of {X : Cx} {Γ2 : VEnv} {M1 : Mem} {c elt : Expr} {p : Bool} {r : D} {scope : Scope} {own : List (Str × Nat)} {Vb Bb Fb : List Str} (b : Blk X scope own Vb Bb Fb)
    (hc : ∀ X1, Inn X X1 scope (own.map (·.1)) Vb Bb Fb → ∀ L acc, WT X1 Γ2 ((L, .lst acc) :: M1) c fun b M3 => b = p ∧ M3 = (L, .lst acc) :: M1) (he : p = true → ∀ X1, Inn X X1 scope (own.map (·.1)) Vb Bb Fb → ∀ L acc, WE X1 Γ2 ((L, .lst acc) :: M1) elt fun d M4 => M4 = (L, .lst acc) :: M1 ∧ d = r) : PickT X scope Γ2 M1 c elt p r := by
  intro L acc s H C cl fp S σ H' a1 a2
  refine tT_mono (hc _ (b.inn s H C cl fp) L acc S σ H' a1 a2) ?_
  rintro k H2 ⟨M3, S3, ⟨e1, e2⟩, s3, m3⟩
  exact ⟨M3, S3, ⟨e1, e2, fun hp s2 H2 C2 cl2 fp2 => he hp _ (b.inn s2 H2 C2 cl2 fp2) L acc⟩, s3, m3⟩
section
variable {P : Program} {w : World} {K : PySem.W.Frag} {mg : Str → Option Value} {base : Heap} {X : Cx} {Γ Γb : VEnv} {M : Mem} {Q : D → Mem → Prop} {E : DE} {x : Str} {pos px : Pos} {elt iter c : Expr} {scope sc : Scope} {own : List (Str × Nat)} {N Ln Bn Fn Bx Vb Bb Fb : List Str} {k : Nat} {α : Type}
abbrev Each (X : Cx) (scope : Scope) (ow Vb Bb Fb : List Str) (Γ2 : VEnv) (M1 : Mem) (elt : Expr) (r : D) : Prop := ∀ X1, Inn X X1 scope ow Vb Bb Fb → ∀ L acc, WE X1 Γ2 ((L, .lst acc) :: M1) elt fun d M4 => M4 = (L, .lst acc) :: M1 ∧ d = r
abbrev EachIf (X : Cx) (scope : Scope) (ow Vb Bb Fb : List Str) (Γ2 : VEnv) (M1 : Mem) (c : Expr) (p : Bool) : Prop := ∀ X1, Inn X X1 scope ow Vb Bb Fb → ∀ L acc, WT X1 Γ2 ((L, .lst acc) :: M1) c fun b M3 => b = p ∧ M3 = (L, .lst acc) :: M1
theorem wi_imp {tg : Expr} {QI QI' : List D → (Mem → Prop) → Mem → Prop} (h : WI X Γ M tg iter QI) (m : ∀ a b c, QI a b c → QI' a b c) : WI X Γ M tg iter QI' := fun S σ H a b => tI_mono (h S σ H a b) fun J H1 ⟨i, s, M1, S1, q, r⟩ => ⟨i, s, M1, S1, m _ _ _ q, r⟩
theorem we_map {i : Nat} (l : List α) (g hh : α → D) (own : List (Str × Nat)) (Vb Bb Fb : List Str) (bod : Bod P w K mg base k sc N Ln Bn Fn Bx X) (hc : (blkC N sc scope own && blkChk sc scope (own.map (·.1)) Vb Bb Fb Bx) = true) (hxi : (x, i) ∈ own) (hwp : Wiped Γ own Γb)
    (h : WI X Γ M (.Name x px) iter fun items Stb M1 => items = l.map g ∧ l.length ≤ sizeLine ∧ (∀ L acc, Stb ((L, .lst acc) :: M1)) ∧ (∀ a ∈ l, ∃ Γ2, SetAt Γb x (g a) Γ2 ∧ Each X scope (own.map (·.1)) Vb Bb Fb Γ2 M1 elt (hh a)) ∧ ∀ p, Q (.ref p) ((p, .lst (l.map hh)) :: M1))
    (hs : ∀ x, foldedSetIterable iter X.env x = pure x := by intro _; rfl) : WE X Γ M (.ListComp elt [⟨.Name x px, iter, [], 0⟩] scope pos) Q :=
  we_lcM l g hh bod.st (blk_of bod hc) hxi hwp (wi_imp h fun _ _ _ ⟨h1, h2, h3, h4, h5⟩ => ⟨h1, h2, h3, fun a ha => let ⟨Γ2, q1, q2⟩ := h4 a ha; ⟨Γ2, q1, mapT_of (blk_of bod hc) q2⟩, h5⟩) hs
theorem ws_setMap {i j : Nat} {y : Str} {py spos : Pos} (l : List α) (g hh : α → D) (own : List (Str × Nat)) (Vb Bb Fb : List Str) (bod : Bod P w K mg base k sc N Ln Bn Fn Bx X) (hc : (blkC N sc scope own && blkChk sc scope (own.map (·.1)) Vb Bb Fb Bx) = true) (hxi : (x, i) ∈ own) (hwp : Wiped Γ own Γb)
    (hy : y ∈ Ln) (hyl : sc.names.lookup y = some .local) (hNy : N[j]? = some y) (ha : (scope.names.any fun (n, k) => n == y && (k == .local || k == .cell)) = false)
    (h : WI X Γ M (.Name x px) iter fun items Stb M1 => items = l.map g ∧ l.length ≤ sizeLine ∧ (∀ L acc, Stb ((L, .lst acc) :: M1)) ∧ (∀ a ∈ l, ∃ Γ2, SetAt Γb x (g a) Γ2 ∧ Each X scope (own.map (·.1)) Vb Bb Fb Γ2 M1 elt (hh a)) ∧ ∀ p, ∃ Γ', SetAt Γ y (.ref p) Γ' ∧ E.nx Γ' ((p, .lst (l.map hh)) :: M1))
    (hl : (py.line == pos.line) = true := by rfl) (hl2 : spos.line = py.line := by rfl) (hs : ∀ x, foldedSetIterable iter X.env x = pure x := by intro _; rfl) : WS X Γ M (.Assign [.Name y py] (.ListComp elt [⟨.Name x px, iter, [], 0⟩] scope pos) spos) E :=
  ws_setLcM l g hh bod.st (blk_of bod hc) hxi hwp hy (by rw [bod.sc]; exact hyl) bod.kind (by rw [bod.N]; exact hNy) ha (wi_imp h fun _ _ _ ⟨h1, h2, h3, h4, h5⟩ => ⟨h1, h2, h3, fun a ha => let ⟨Γ2, q1, q2⟩ := h4 a ha; ⟨Γ2, q1, mapT_of (blk_of bod hc) q2⟩, h5⟩) hl hl2 hs
theorem we_mapT2 {i j : Nat} {y : Str} {py ptt : Pos} {kk : Nat} (l : List α) (ga gb hh : α → D) (own : List (Str × Nat)) (Vb Bb Fb : List Str) (bod : Bod P w K mg base k sc N Ln Bn Fn Bx X) (hc : (blkC N sc scope own && blkChk sc scope (own.map (·.1)) Vb Bb Fb Bx) = true) (hxi : (x, i) ∈ own) (hyj : (y, j) ∈ own) (hwp : Wiped Γ own Γb)
    (h : WI X Γ M (.Tuple [.Name x px, .Name y py] kk ptt) iter fun items Stb M1 => items = l.map (fun a => .tup [ga a, gb a]) ∧ l.length ≤ sizeLine ∧ (∀ L acc, Stb ((L, .lst acc) :: M1)) ∧ (∀ a ∈ l, ∃ Γ2 Γ3, SetAt Γb x (ga a) Γ2 ∧ SetAt Γ2 y (gb a) Γ3 ∧ Each X scope (own.map (·.1)) Vb Bb Fb Γ3 M1 elt (hh a)) ∧ ∀ p, Q (.ref p) ((p, .lst (l.map hh)) :: M1))
    (hs : ∀ x, foldedSetIterable iter X.env x = pure x := by intro _; rfl) : WE X Γ M (.ListComp elt [⟨.Tuple [.Name x px, .Name y py] kk ptt, iter, [], 0⟩] scope pos) Q :=
  we_lcTM (xs := [x, y]) (is := [i, j]) (n := 2) l (fun a => [ga a, gb a]) hh bod.st (blk_of bod hc) (.cons hxi (.cons hyj .nil)) hwp (pgs_n2 (blk_of bod hc).st (blk_of bod hc).ok hxi hyj) (fun _ _ _ _ _ => ⟨rfl, rfl⟩)
    (wi_imp h fun _ _ _ ⟨h1, h2, h3, h4, h5⟩ => ⟨h1, h2, h3, fun a ha => let ⟨Γ2, Γ3, q1, q2, q3⟩ := h4 a ha; ⟨Γ3, ⟨rfl, .cons q1 (.cons q2 .nil)⟩, mapT_of (blk_of bod hc) q3⟩, h5⟩) hs
/-- a name's owned list is owned no more -/
theorem wss_frz {Γ Γ2 : VEnv} {M : Mem} {p : Addr} {ds : List D} {sts : List Stmt} (hl : Look Γ x (.ref p)) (hs : SetAt Γ x (.lst ds) Γ2) (st : Stat X Ln Vb Bb Fb) (hx : x ∈ Ln) (h : WSs X Γ2 M sts E) : WSs X Γ ((p, .lst ds) :: M) sts E := by
  intro S σ H hΓ hM
  obtain ⟨S2, s2, m2, r2⟩ := hM.freeze
  obtain ⟨i, ei⟩ := hl.at
  obtain ⟨v, hv, rv⟩ := hΓ.vals i x _ ei
  obtain ⟨j, o, ej, rfl⟩ := hs.at
  have hΓ2 := hΓ.mono s2
  have e : j = i := nodup_ix st.nd (hΓ.name ej) (hΓ.name ei)
  subst e
  rw [rv.ref_inv] at hv
  refine tSs_weak (h S2 σ H ⟨hΓ2.len, ?_, fun i' y d' q => ?_⟩ m2) s2
  · rw [set_name ej]; exact hΓ2.names
  · rw [List.getElem?_set] at q
    split at q
    · rename_i hij
      subst hij
      split at q
      · cases q
        exact ⟨_, hv, r2⟩
      · cases q
    · exact hΓ2.vals i' y d' q
abbrev StStep (X : Cx) (scope : Scope) (ow Vb Bb Fb : List Str) (Γb : VEnv) (x : Str) (elt : Expr) (I : Nat → List D → Mem → Prop) (i : Nat) (d : D) (acc : List D) (M' : Mem) : Prop :=
  acc.length < sizeLine ∧ ∃ Γ2, SetAt Γb x d Γ2 ∧ ∀ X1, Inn X X1 scope ow Vb Bb Fb → ∀ L, WE X1 Γ2 ((L, .lst acc) :: M') elt fun d M4 => ∃ M5, M4 = (L, .lst acc) :: M5 ∧ I (i + 1) (acc ++ [d]) M5
theorem turn_of {Γ2 : VEnv} {I : Nat → List D → Mem → Prop} {n : Nat} {acc : List D} {M' : Mem} (b : Blk X scope own Vb Bb Fb) (hl : acc.length < sizeLine) (h : ∀ X1, Inn X X1 scope (own.map (·.1)) Vb Bb Fb → ∀ L, WE X1 Γ2 ((L, .lst acc) :: M') elt fun d M4 => ∃ M5, M4 = (L, .lst acc) :: M5 ∧ I (n + 1) (acc ++ [d]) M5) : Turn1 X scope Γ2 [] elt I n acc M' := by
  intro L s H C cl fp
  dsimp only [WTs]
  rw [if_pos rfl]
  intro s2 H2 C2 cl2 fp2
  exact (h _ (b.inn s2 H2 C2 cl2 fp2) L).imp fun d M4 ⟨M5, e, q⟩ => ⟨hl, M5, e, q⟩
theorem ws_setSt {i j : Nat} {y : Str} {py spos : Pos} (own : List (Str × Nat)) (Vb Bb Fb : List Str) (bod : Bod P w K mg base k sc N Ln Bn Fn Bx X) (hc : (blkC N sc scope own && blkChk sc scope (own.map (·.1)) Vb Bb Fb Bx) = true) (hxi : (x, i) ∈ own) (hwp : Wiped Γ own Γb)
    (hy : y ∈ Ln) (hyl : sc.names.lookup y = some .local) (hNy : N[j]? = some y) (ha : (scope.names.any fun (n, k) => n == y && (k == .local || k == .cell)) = false)
    (h : WI X Γ M (.Name x px) iter fun items Stb M1 => ∃ I : Nat → List D → Mem → Prop, I 0 [] M1 ∧ (∀ i acc M' L, I i acc M' → Stb ((L, .lst acc) :: M')) ∧ (∀ i d acc M', items[i]? = some d → I i acc M' → StStep X scope (own.map (·.1)) Vb Bb Fb Γb x elt I i d acc M') ∧ ∀ acc M', I items.length acc M' → ∀ p, ∃ Γ', SetAt Γ y (.ref p) Γ' ∧ E.nx Γ' ((p, .lst acc) :: M'))
    (hl : (py.line == pos.line) = true := by rfl) (hl2 : spos.line = py.line := by rfl) (hs : ∀ x, foldedSetIterable iter X.env x = pure x := by intro _; rfl) : WS X Γ M (.Assign [.Name y py] (.ListComp elt [⟨.Name x px, iter, [], 0⟩] scope pos) spos) E :=
  ws_setLc bod.st hy (by rw [bod.sc]; exact hyl) bod.kind (by rw [bod.N]; exact hNy) ha (blk_of bod hc).st hxi (blk_of bod hc).ok hwp (Nat.zero_le _)
    (wi_imp h fun _ _ _ ⟨I, h1, h2, h3, h4⟩ => ⟨I, h1, h2, fun i d acc M' e q => let ⟨hl, Γ2, a, b⟩ := h3 i d acc M' e q; ⟨Γ2, a, turn_of (blk_of bod hc) hl b⟩, h4⟩) hl hl2 hs
theorem we_pick {i : Nat} (l : List α) (g hh : α → D) (pk : α → Bool) (own : List (Str × Nat)) (Vb Bb Fb : List Str) (bod : Bod P w K mg base k sc N Ln Bn Fn Bx X) (hc : (blkC N sc scope own && blkChk sc scope (own.map (·.1)) Vb Bb Fb Bx) = true) (hxi : (x, i) ∈ own) (hwp : Wiped Γ own Γb)
    (h : WI X Γ M (.Name x px) iter fun items Stb M1 => items = l.map g ∧ l.length ≤ sizeLine ∧ (∀ L acc, Stb ((L, .lst acc) :: M1)) ∧ (∀ a ∈ l, ∃ Γ2, SetAt Γb x (g a) Γ2 ∧ EachIf X scope (own.map (·.1)) Vb Bb Fb Γ2 M1 c (pk a) ∧ (pk a = true → Each X scope (own.map (·.1)) Vb Bb Fb Γ2 M1 elt (hh a))) ∧ ∀ p, Q (.ref p) ((p, .lst ((l.filter pk).map hh)) :: M1))
    (hs : ∀ x, foldedSetIterable iter X.env x = pure x := by intro _; rfl) : WE X Γ M (.ListComp elt [⟨.Name x px, iter, [c], 0⟩] scope pos) Q :=
  we_lcP l g hh pk bod.st (blk_of bod hc) hxi hwp (wi_imp h fun _ _ _ ⟨h1, h2, h3, h4, h5⟩ => ⟨h1, h2, h3, fun a ha => let ⟨Γ2, q1, q2, q3⟩ := h4 a ha; ⟨Γ2, q1, pickT_of (blk_of bod hc) q2 q3⟩, h5⟩) hs
end
end DL

/-! ### works, as plain data -/
namespace Wk
open DL
open PySem (Addr)
inductive Dd where
  | set (b : Nat) (n : Int) | add (b o : Nat) | tell (b : Nat) | call (w : Nat) | save (b : Nat) | back (b : Nat)
  deriving DecidableEq
inductive Nd where
  | out | go (t : Nat) | fork (t o : Nat)
  deriving DecidableEq
abbrev Bk := List Dd × Nd
abbrev W := List Bk
def Dd.d : Dd → D
  | .set b n => .tup [.str "set", .int (b : Int), .int n]
  | .add b o => .tup [.str "add", .int (b : Int), .int (o : Int)]
  | .tell b => .tup [.str "tell", .int (b : Int)]
  | .call w => .tup [.str "call", .int (w : Int)]
  | .save b => .tup [.str "save", .int (b : Int)]
  | .back b => .tup [.str "back", .int (b : Int)]
def Nd.nx : Nd → List Nat
  | .out => []
  | .go t => [t]
  | .fork t o => [t, o]
def natD (n : Nat) : D := .int (n : Int)
def Nd.d : Nd → D
  | .out => .tup [.str "out"]
  | .go t => .tup [.str "go", natD t]
  | .fork t o => .tup [.str "fork", natD t, natD o]
def Bk.d (b : Bk) : D := .tup [.lst (b.1.map Dd.d), b.2.d]
def W.d (w : W) : D := .lst (w.map Bk.d)
def Ws.d (ws : List W) : D := .lst (ws.map W.d)
abbrev nlD (l : List Nat) : D := .lst (l.map natD)
def Dd.Ok (nw : Nat) : Dd → Prop
  | .set b n => b < 8 ∧ -1000000000000 ≤ n ∧ n ≤ 1000000000000
  | .add b o => b < 8 ∧ o < 8
  | .tell b => b < 8
  | .call w => w < nw
  | .save b => b < 8
  | .back b => b < 8
def Dd.plain : Dd → Bool
  | .save _ => false
  | .back _ => false
  | _ => true
def Nd.Ok (m : Nat) : Nd → Prop
  | .out => True
  | .go t => 1 ≤ t ∧ t < m
  | .fork t o => 1 ≤ t ∧ t < m ∧ 1 ≤ o ∧ o < m ∧ t ≠ o
theorem Nd.Ok.nx {m : Nat} {e : Nd} (h : e.Ok m) : ∀ t ∈ e.nx, 1 ≤ t ∧ t < m := by
  intro t ht
  cases e with
  | out => cases ht
  | go a => simp only [Nd.nx, List.mem_singleton] at ht; subst ht; exact h
  | fork a b =>
    simp only [Nd.nx, List.mem_cons, List.not_mem_nil, or_false] at ht
    rcases ht with rfl | rfl
    · exact ⟨h.1, h.2.1⟩
    · exact ⟨h.2.2.1, h.2.2.2.1⟩
/-- ends as they are drawn: each block but the first is led to by a lesser one -/
structure NxOk (m : Nat) (nx : List Nd) : Prop where
  len : nx.length = m
  ok : ∀ e ∈ nx, e.Ok m
  led : ∀ j, 1 ≤ j → j < m → ∃ (i : Nat) (e : Nd), i < j ∧ nx[i]? = some e ∧ j ∈ e.nx
theorem map_erase {α β : Type} (g : α → β) : ∀ (l : List α) (k : Nat), (l.map g).eraseIdx k = (l.eraseIdx k).map g
  | [], _ => rfl
  | _ :: _, 0 => rfl
  | a :: l, k + 1 => congrArg (g a :: ·) (map_erase g l k)
theorem isR_nl {M : Mem} {l : List Nat} : IsR M (nlD l) ((l.map fun (n : Nat) => (n : Int)).map D.int) := by rw [List.map_map]; exact isR_lst
theorem nat_inj : ∀ {a b : List Nat}, a.map (fun (n : Nat) => (n : Int)) = b.map (fun (n : Nat) => (n : Int)) → a = b
  | [], [], _ => rfl
  | [], _ :: _, h => by cases h
  | _ :: _, [], h => by cases h
  | x :: a, y :: b, h => by
    simp only [List.map_cons, List.cons.injEq] at h
    rw [Int.ofNat_inj.mp h.1, nat_inj h.2]
theorem od_eqNL {X : L2.Cx} {M : Mem} {Q : D → Mem → Prop} {Ln Vn Bn Fn : List PySem.Str} {a b : List Nat} (st : Stat X Ln Vn Bn Fn) (q : Q (.bl (decide (a = b))) M) : OD X (PySem.compareOp .Eq) (nlD a) (nlD b) M Q := by
  refine od_eqL st isR_nl isR_nl ?_
  rw [show decide (a.map (fun (n : Nat) => (n : Int)) = b.map (fun (n : Nat) => (n : Int))) = decide (a = b) from decide_eq_decide.mpr ⟨nat_inj, fun h => by rw [h]⟩]
  exact q
theorem nl1 {x : Int} {t : Nat} (h : x = (t : Int)) : D.lst [.int x] = nlD [t] := by subst h; rfl
theorem nl2 {x y : Int} {t o : Nat} (h : x = (t : Int)) (g : y = (o : Int)) : D.lst [.int x, .int y] = nlD [t, o] := by subst h; subst g; rfl
/-- where a block's end leads, in rising order -/
def Nd.sx : Nd → List Nat
  | .out => []
  | .go t => [t]
  | .fork t o => if t ≤ o then [t, o] else [o, t]
theorem Nd.cut (e : Nd) : ∃ ds, e.d = .tup ds ∧ cutD ds (some (1 : Int)) none = e.nx.map natD := by
  cases e <;> exact ⟨_, rfl, cutD_from _ 1⟩
theorem Nd.sx_fork {t o : Nat} : (Nd.fork t o).sx = if t ≤ o then [t, o] else [o, t] := rfl
theorem Nd.sx_perm (e : Nd) : (e.sx.map fun (n : Nat) => (n : Int)).Perm (e.nx.map fun (n : Nat) => (n : Int)) := by
  cases e with
  | out => exact .refl _
  | go t => exact .refl _
  | fork t o =>
    rw [Nd.sx_fork]
    by_cases h : t ≤ o
    · rw [if_pos h]; exact .refl _
    · rw [if_neg h]; exact .swap _ _ _
def pairD (p : Int × Int) : D := .tup [.int p.1, .int p.2]
def wayK (n k : Nat) (e : Nd) : List (Int × Int) := if e.nx = [] then [((k : Int), (n : Int))] else e.sx.map fun (t : Nat) => ((k : Int), (t : Int))
def waysFrom (n : Nat) : Nat → List Nd → List (Int × Int)
  | _, [] => []
  | k, e :: r => wayK n k e ++ waysFrom n (k + 1) r
def ways (w : W) : List (Int × Int) := (-1, 0) :: waysFrom w.length 0 (w.map (·.2))
def Dd.wr : Dd → Bool
  | .set _ _ => true
  | .add _ _ => true
  | _ => false
def Dd.wb : Dd → Nat
  | .set b _ => b
  | .add b _ => b
  | .tell b => b
  | .call w => w
  | .save b => b
  | .back b => b
def Dd.word : Dd → PySem.Str
  | .set _ _ => "set"
  | .add _ _ => "add"
  | .tell _ => "tell"
  | .call _ => "call"
  | .save _ => "save"
  | .back _ => "back"
theorem Dd.at0 (d : Dd) : ∃ ds, d.d = .tup ds ∧ L2.atI ds 0 = some (D.str d.word) ∧ L2.atI ds 1 = some (natD d.wb) := by
  cases d <;> exact ⟨_, rfl, rfl, rfl⟩
theorem wd_set : decide (("set" : PySem.Str) ∈ (["set", "add"] : List PySem.Str)) = true := by decide +kernel
theorem wd_add : decide (("add" : PySem.Str) ∈ (["set", "add"] : List PySem.Str)) = true := by decide +kernel
theorem wd_tell : decide (("tell" : PySem.Str) ∈ (["set", "add"] : List PySem.Str)) = false := by decide +kernel
theorem wd_call : decide (("call" : PySem.Str) ∈ (["set", "add"] : List PySem.Str)) = false := by decide +kernel
theorem wd_save : decide (("save" : PySem.Str) ∈ (["set", "add"] : List PySem.Str)) = false := by decide +kernel
theorem wd_back : decide (("back" : PySem.Str) ∈ (["set", "add"] : List PySem.Str)) = false := by decide +kernel
theorem Dd.word_wr : ∀ d : Dd, decide (d.word ∈ (["set", "add"] : List PySem.Str)) = d.wr
  | .set _ _ => wd_set
  | .add _ _ => wd_add
  | .tell _ => wd_tell
  | .call _ => wd_call
  | .save _ => wd_save
  | .back _ => wd_back
/-- the boxes that a work's deeds set, as they come -/
def wrote (w : W) : List Nat := w.flatMap fun k => (k.1.filter Dd.wr).map Dd.wb
def boxesOf (w : W) : List Nat := (List.range 8).filter fun b => decide (b ∈ wrote w)
theorem boxesOf_nd (w : W) : (boxesOf w).Nodup := List.nodup_range.filter _
theorem boxesOf_up (w : W) : ((boxesOf w).map fun (n : Nat) => (n : Int)).Pairwise (· < ·) := by
  rw [List.pairwise_map]
  exact (List.pairwise_lt_range.filter _).imp fun h => by omega
theorem Dd.Ok.wb_lt {nw : Nat} {d : Dd} (h : d.Ok nw) (hw : d.wr = true) : d.wb < 8 := by
  cases d with
  | set b n => exact h.1
  | add b o => exact h.1
  | tell b => cases hw
  | call b => cases hw
  | save b => cases hw
  | back b => cases hw
structure KeysOf (kvs : List (L2.Key × D)) (seen : List Nat) : Prop where
  ex : ∃ ks : List Nat, kvs.map (·.1) = ks.map (fun (n : Nat) => (Sum.inl (n : Int) : L2.Key)) ∧ ks.Nodup ∧ (∀ b, b ∈ ks ↔ b ∈ seen) ∧ ks.length ≤ seen.length
theorem KeysOf.len {kvs : List (L2.Key × D)} {seen : List Nat} (h : KeysOf kvs seen) : kvs.length ≤ seen.length := by
  obtain ⟨ks, h1, _, _, h4⟩ := h.ex
  have := congrArg List.length h1
  rw [List.length_map, List.length_map] at this
  omega
theorem KeysOf.put {kvs : List (L2.Key × D)} {seen : List Nat} (h : KeysOf kvs seen) (b : Nat) (v : D) : KeysOf (putA kvs (.inl (b : Int)) v) (seen ++ [b]) := by
  obtain ⟨ks, h1, h2, h3, h4⟩ := h.ex
  have hk : (valA kvs (.inl (b : Int))).isSome = true ↔ b ∈ ks := by
    rw [valA_mem_keys, h1, List.mem_map]
    constructor
    · rintro ⟨n, hn, e⟩
      have : n = b := Int.ofNat_inj.mp (Sum.inl.inj e)
      rw [← this]; exact hn
    · exact fun hb => ⟨b, hb, rfl⟩
  by_cases hb : b ∈ ks
  · refine ⟨ks, by rw [putA_keys, if_pos (hk.mpr hb), h1], h2, fun c => ?_, by simp; omega⟩
    rw [List.mem_append, List.mem_singleton, ← h3 c]
    exact ⟨.inl, fun q => q.elim id fun e => by rw [e]; exact hb⟩
  · refine ⟨ks ++ [b], by rw [putA_keys, if_neg (fun q => hb (hk.mp q)), h1, List.map_append]; rfl, ?_, fun c => ?_, by simp; omega⟩
    · rw [List.nodup_append]
      exact ⟨h2, by simp, fun a ha c hc => by rw [List.mem_singleton] at hc; subst hc; exact fun e => hb (e ▸ ha)⟩
    · rw [List.mem_append, List.mem_append, h3 c]
theorem KeysOf.perm {kvs : List (L2.Key × D)} {w : W} (h : KeysOf kvs (wrote w)) (h8 : ∀ b ∈ wrote w, b < 8) : ∃ ks : List Nat, kvs.map (·.1) = (ks.map fun (n : Nat) => (n : Int)).map Sum.inl ∧ (boxesOf w).Perm ks ∧ ks.length ≤ 8 := by
  obtain ⟨ks, h1, h2, h3, _⟩ := h.ex
  have pm : (boxesOf w).Perm ks := by
    rw [List.perm_ext_iff_of_nodup (boxesOf_nd w) h2]
    intro b
    unfold boxesOf
    rw [List.mem_filter, List.mem_range, decide_eq_true_iff, h3]
    exact ⟨fun q => q.2, fun q => ⟨h8 b q, q⟩⟩
  refine ⟨ks, by rw [h1, List.map_map]; rfl, pm, ?_⟩
  rw [← pm.length_eq]
  have := List.length_filter_le (fun b => decide (b ∈ wrote w)) (List.range 8)
  rw [List.length_range] at this
  exact this
theorem wrote_len (w : W) (h : ∀ b ∈ w, b.1.length ≤ 24) : (wrote w).length ≤ 24 * w.length := by
  unfold wrote
  induction w with
  | nil => simp
  | cons b w ih =>
    have h1 := h b List.mem_cons_self
    have h2 := ih fun c hc => h c (List.mem_cons_of_mem _ hc)
    have h3 := List.length_filter_le Dd.wr b.1
    simp only [List.flatMap_cons, List.length_append, List.length_map, List.length_cons]
    omega
def cellW (c : Addr × W) : Addr × Cell := (c.1, .lst (c.2.map Bk.d))
def cellsW (cs : List (Addr × W)) : Mem := cs.map cellW
def refW (c : Addr × W) : D := .ref c.1
structure Ok (nw : Nat) (w : W) : Prop where
  pos : 0 < w.length
  len : w.length ≤ 16
  dd : ∀ b ∈ w, ∀ d ∈ b.1, d.Ok nw
  few : ∀ b ∈ w, b.1.length ≤ 24
  nd : ∀ b ∈ w, b.2.Ok w.length
  led : ∀ j, 1 ≤ j → j < w.length → ∃ (i : Nat) (b : Bk), i < j ∧ w[i]? = some b ∧ j ∈ b.2.nx
theorem Ok.same {nw : Nat} {w0 w : W} (h : Ok nw w0) (e : w.map (·.2) = w0.map (·.2)) (hd : ∀ b ∈ w, (∀ d ∈ b.1, d.Ok nw) ∧ b.1.length ≤ 24) : Ok nw w := by
  have hl : w.length = w0.length := by have := congrArg List.length e; simpa using this
  refine ⟨by rw [hl]; exact h.pos, by rw [hl]; exact h.len, fun b hb => (hd b hb).1, fun b hb => (hd b hb).2, fun b hb => ?_, fun j h1 h2 => ?_⟩
  · have : b.2 ∈ w0.map (·.2) := by rw [← e]; exact List.mem_map.mpr ⟨b, hb, rfl⟩
    obtain ⟨b0, hb0, e0⟩ := List.mem_map.mp this
    rw [hl, ← e0]
    exact h.nd b0 hb0
  · obtain ⟨i, b, q1, q2, q3⟩ := h.led j h1 (by omega)
    have e2 : (w.map (·.2))[i]? = some b.2 := by rw [e, List.getElem?_map, q2]; rfl
    rw [List.getElem?_map] at e2
    obtain ⟨b', hb', e3⟩ := Option.map_eq_some_iff.mp e2
    exact ⟨i, b', q1, hb', by rw [e3]; exact q3⟩
theorem Ok.wrote8 {nw : Nat} {w : W} (h : Ok nw w) : ∀ b ∈ wrote w, b < 8 := by
  intro b hb
  obtain ⟨k, hk, hb⟩ := List.mem_flatMap.mp hb
  obtain ⟨d, hd, rfl⟩ := List.mem_map.mp hb
  obtain ⟨hd, hw⟩ := List.mem_filter.mp hd
  exact (h.dd k hk d hd).wb_lt hw
structure WsOk (ws : List W) : Prop where
  pos : 1 ≤ ws.length
  len : ws.length ≤ 10
  ok : ∀ w ∈ ws, Ok ws.length w
def Plain (w : W) : Prop := ∀ b ∈ w, (∀ d ∈ b.1, d.plain = true) ∧ b.1.length ≤ 12
end Wk

/-! Core11: lists of pairs sorted and compared, repr's room. -/
namespace DL
open PySem PySem.Spec PyProof.Rows L2
/-- the pair that a value holds -/
def kOf (S : Hp) (x : V) : Int × Int := match x with
  | .ref t => (match S t with
    | some (.tup [.int i, .int j]) => (i, j)
    | _ => (0, 0))
  | _ => (0, 0)
abbrev lexLe (a b : Int × Int) : Prop := a.1 < b.1 ∨ (a.1 = b.1 ∧ a.2 ≤ b.2)
/-! ### the room of a repr -/
structure Shw (dep n : Nat) (d : PyData) : Prop where
  sh : d.showable = true
  cl : d.canLay0 = true
  dp : d.depth ≤ dep
  wt : d.weight ≤ n
  sf : d.intsShort 14 = true
theorem Shw.mono {a b n k : Nat} {d : PyData} (h : Shw a n d) (h1 : a ≤ b) (h2 : n ≤ k) : Shw b k d := ⟨h.sh, h.cl, Nat.le_trans h.dp h1, Nat.le_trans h.wt h2, h.sf⟩
theorem Shw.int {i : Int} (h1 : -10000000000000 < i) (h2 : i < 10000000000000) : Shw 0 44 (.int i) := by
  have hl : i.natAbs.log2 < 44 := by
    by_cases h0 : i.natAbs = 0
    · rw [h0]; decide
    · refine (Nat.log2_lt h0).mpr ?_
      have : (2 : Nat) ^ 44 = 17592186044416 := by decide
      omega
  refine ⟨by simp only [PyData.showable, decide_eq_true_eq]; omega, by simp only [PyData.canLay0], by simp only [PyData.depth]; omega, ?_, ?_⟩
  · simp only [PyData.weight]
    split <;> omega
  · have h13 : (10 : Nat) ^ 13 = 10000000000000 := by decide
    have e := int_text_length_le10 (a := i) (k := 13) (by decide) (by omega)
    have : (PyData.shown (.int i)).length ≤ 14 := by
      show (Str.ofString (toString i)).length ≤ 14
      rw [PySem.ofString_length]; exact e
    simp only [PyData.intsShort, decide_eq_true_eq]
    exact this
theorem Shw.str {z : Str} (h : (z.cps.all (· < 0x110000)) = true) (hl : z.cps.size ≤ 44) : Shw 0 44 (.str z) :=
  ⟨by simp only [PyData.showable], by simp only [PyData.canLay0]; exact h, by simp only [PyData.depth]; omega, by simp only [PyData.weight]; exact hl, by simp only [PyData.intsShort]⟩
theorem shw_all {dep n : Nat} : ∀ {xs : List PyData}, (∀ x ∈ xs, Shw dep n x) → PyData.showableAll xs = true ∧ PyData.canLayAll0 xs = true ∧ PyData.depthAll xs ≤ dep ∧ PyData.weightAll xs ≤ xs.length * (n + 1) ∧ PyData.intsShortAll 14 xs = true
  | [], _ => ⟨rfl, rfl, Nat.zero_le _, Nat.zero_le _, rfl⟩
  | x :: xs, h => by
    obtain ⟨h1, h2, h3, h4, h5⟩ := shw_all fun y hy => h y (List.mem_cons_of_mem _ hy)
    have g := h x List.mem_cons_self
    refine ⟨by simp only [PyData.showableAll, g.sh, h1, Bool.and_self], by simp only [PyData.canLayAll0, g.cl, h2, Bool.and_self], ?_, ?_, by simp only [PyData.intsShortAll, g.sf, h5, Bool.and_self]⟩
    · simp only [PyData.depthAll]
      have := g.dp
      omega
    · simp only [PyData.weightAll, List.length_cons]
      have := g.wt
      rw [Nat.add_mul]
      omega
theorem Shw.list {dep n k : Nat} {xs : List PyData} (h : ∀ x ∈ xs, Shw dep n x) (hk : xs.length * (n + 1) ≤ k) : Shw (dep + 1) k (.list xs) := by
  obtain ⟨h1, h2, h3, h4, h5⟩ := shw_all h
  exact ⟨by simp only [PyData.showable]; exact h1, by simp only [PyData.canLay0]; exact h2, by simp only [PyData.depth]; omega, by simp only [PyData.weight]; omega, by simp only [PyData.intsShort]; exact h5⟩
theorem Shw.tuple {dep n k : Nat} {xs : List PyData} (h : ∀ x ∈ xs, Shw dep n x) (hk : xs.length * (n + 1) ≤ k) : Shw (dep + 1) k (.tuple xs) := by
  obtain ⟨h1, h2, h3, h4, h5⟩ := shw_all h
  exact ⟨by simp only [PyData.showable]; exact h1, by simp only [PyData.canLay0]; exact h2, by simp only [PyData.depth]; omega, by simp only [PyData.weight]; omega, by simp only [PyData.intsShort]; exact h5⟩
theorem Shw.fits {dep n : Nat} {d : PyData} (h : Shw dep n d) (hn : n ≤ 1000000) : d.shown.length ≤ sizeLine := by
  have h1 := PyData.shown_le 14 (by decide) d (PyData.leavesShort_of_canLay0 14 d h.cl h.sf)
  have := h.wt
  exact szl (by omega)
theorem Shw.shaped {dep n : Nat} {d : PyData} (h : Shw dep n d) (hd : dep ≤ 60) : SeqAt.shaped d = true := by
  unfold SeqAt.shaped
  rw [Bool.and_eq_true]
  refine ⟨h.cl, decide_eq_true ?_⟩
  have := h.dp
  omega
end DL

set_option maxHeartbeats 8000000
/-! Core12: set(a list of ints), sorted(that set). -/
namespace DL
open PySem PySem.Spec PyProof.Rows L2
/-- a set as it is made -/
abbrev emp (w : World) : Obj := { cls := .type "set", dict := none, data := .set #[] 0 (.fresh 0 0 (!w.params.followText "set-order")) }
abbrev Made (w : World) (ns : List Int) (s : Shared) (s2 : Shared) : Prop := ∃ (h' : Heap) (tk c : Nat), s2 = { s with heap := h', toks := tk } ∧
  SetR w h' s.heap.objs.size (fun j => decide (j ∈ ns)) c ∧ c ≤ ns.length ∧ ∀ b o, s.heap.get? b = some o → h'.get? b = some o
section
variable {P : Program} {w : World} {A : Around} {E : Value → Shared → Prop} {s : Shared}
theorem set_ints {l : Addr} {its : Array Value} (ns : List Int) {Q : Value → Shared → Prop} (hh : A.handled = none) (hl : s.heap.IsList l its) (hi : IntsAre its.toList ns) (hb : ns.length + 1 < scanBound)
    (q : ∀ s2, Made w ns s s2 → Q (.ref s.heap.objs.size) s2) : wpAny (model P w) A (call (.type "set") [.ref l]) Q E s := by
  have sz : its.size = ns.length := by
    rw [← Array.length_toList]; exact IntsAre.length hi
  obtain ⟨_, _, ofm⟩ := F.called_set.mro
  have mk := F.called_set.made
  have sb := F.called_set.sub
  refine wpAny_call (codeAny_of_tree (?_ : wpAny _ _ (callAny (.type "set") _) _ _ _))
  refine wpAny_pure ⟨Code.quiet_builtin _ (by decide +kernel), codeAny_builtin F.entry_type_call ?_⟩
  rw [Around.under_plain (weight_type_call_type "set" [.ref l] []) rfl]
  have k1 := F.called_set.notType
  have k2 := F.called_set.canCreate
  have k3 := F.typeCall_set_1 (.ref l)
  repeat (any_goals (first | assumption | wp_step))
  refine codeAny_mono (code_set_led1 (.ref l) (E := E) (Q₁ := fun v t => v = .ref s.heap.objs.size ∧ t = { s with heap := s.heap.push (emp w) }) ⟨rfl, rfl⟩) fun r t hr => ?_
  match r, hr with
  | .error e, hr => exact hr
  | .ok .next, hr => exact hr.elim
  | .ok .brk, hr => exact hr.elim
  | .ok .cont, hr => exact hr.elim
  | .ok (.ret v), hr =>
    obtain ⟨rfl, rfl⟩ := hr
    have got : (s.heap.push (emp w)).get? s.heap.objs.size = some (emp w) := Heap.get?_push_size _ rfl
    have ty : Shared.TypeIs { s with heap := s.heap.push (emp w) } (.ref s.heap.objs.size) "set" := ⟨_, got, rfl⟩
    have k4 := F.called_set.init.lookup
    have k5 := F.called_set.init.bind (.ref s.heap.objs.size)
    repeat (any_goals (first | assumption | wp_step))
    refine codeAny_mono (codeAny_call_builtin (R := wants (fun v t => v = .none ∧ Made w ns s t) E) F.called_set.init.plain F.entry_set_init (check_set_init_1 ty ?_)) fun r2 t2 hr2 => ?_
    · have lt := hl.push (emp w)
      obtain ⟨⟨c0, d0, dt, sl⟩, ho, e1, nl, e2⟩ := hl
      simp only at e1 e2
      subst e1 e2
      have ho' : (s.heap.push (emp w)).get? l = _ := Heap.get?_push_of_some _ ho
      have n1 := F.sub_list_set
      have n2 := F.sub_list_frozenset
      have n3 : (Value.type "list" == Value.type "dict") = false := by decide
      have before : l < s.heap.objs.size := Heap.lt_size ho
      have h3 : A.in1.in1.in1.handled = none := by simp [hh]
      have size1 : (s.heap.push (emp w)).objs.size = s.heap.objs.size + 1 := Heap.size_push ..
      unfold Builtin.«set.__init__» noKeywords Builtin.Frozenset.updateFrom
      generalize hp : pyIter = pi
      wp_walk
      subst hp
      refine wpAny_pyIter_list lt (wpAny_bind (wpAny_runValue ?_))
      refine set_update_ints ((Walks.list h3 _ l (fun e => Nat.lt_irrefl _ (Nat.lt_trans (Nat.lt_succ_self _) (by rw [e, size1] at before; exact before))) its).toS) s.heap.objs.size ?_ ns sz hb (fun i v hv => ?_) (its.size - 0) 0 _ (by omega) (Nat.zero_le _) ⟨⟨_, Heap.get?_push_size _ rfl, rfl, rfl⟩, lt.push _⟩
        ⟨0, Nat.le_refl 0, setR_new_at (Heap.get?_push_of_some _ got)⟩ fun t' c mv hc hS => ?_
      · rw [size1]
        intro h
        rcases List.mem_cons.mp h with h | h
        · exact absurd h (Nat.ne_of_lt (Nat.lt_succ_self _))
        · exact absurd (List.mem_singleton.mp h) (Nat.ne_of_gt before)
      · have hn : i < ns.length := by rw [← sz]; exact (Array.getElem?_eq_some_iff.mp hv).1
        obtain ⟨tk, e⟩ := IntsAre.int_at hi i v (by rw [Array.getElem?_toList]; exact hv)
        exact ⟨ns[i], tk, List.getElem?_eq_getElem hn, by rw [e, List.getD_eq_getElem?_getD, List.getElem?_eq_getElem hn] <;> rfl⟩
      · obtain ⟨h', g', d', tk', os'⟩ := t'
        have g1 : g' = s.gens := mv.gens
        have g2 : d' = s.drawn := mv.drawn
        have g3 : os' = s.os := mv.os
        subst g1 g2 g3
        change wpAny _ _ _ _ _ _
        refine wpAny_pure ?_
        change wpAny (model P w) _ (ret .none) _ _ _
        rw [sz] at hc
        refine wpAny_pure ⟨rfl, h', tk', c, rfl, hS, hc, fun b o e => mv.heap b o (fun h => ?_) (Heap.get?_push_of_some _ (Heap.get?_push_of_some _ e))⟩
        have lb : b < s.heap.objs.size := Heap.lt_size e
        rcases List.mem_cons.mp h with h | h
        · exact absurd h (Nat.ne_of_lt lb)
        · have e2 := List.mem_singleton.mp h
          rw [size1] at e2
          exact absurd e2 (Nat.ne_of_lt (Nat.lt_succ_of_lt lb))
    · match r2, hr2 with
      | .error e, hr2 => exact hr2
      | .ok .next, hr2 => exact hr2.elim
      | .ok .brk, hr2 => exact hr2.elim
      | .ok .cont, hr2 => exact hr2.elim
      | .ok (.ret v2), hr2 =>
        obtain ⟨rfl, h', tk, c, rfl, z⟩ := hr2
        repeat (any_goals (first | assumption | wp_step))
        exact q _ ⟨h', tk, c, rfl, z⟩
end
theorem nodup_le : ∀ {l m : List Int}, l.Nodup → (∀ x ∈ l, x ∈ m) → l.length ≤ m.length
  | [], _, _, _ => Nat.zero_le _
  | x :: l, m, h, g => by
    have hx := g x List.mem_cons_self
    have h2 := List.nodup_cons.mp h
    have := nodup_le (l := l) (m := m.erase x) h2.2 fun y hy => (List.mem_erase_of_ne (fun (e : y = x) => h2.1 (by rw [← e]; exact hy))).mpr (g y (List.mem_cons_of_mem _ hy))
    rw [List.length_erase_of_mem hx] at this
    have := List.length_pos_of_mem hx
    rw [List.length_cons]
    omega
theorem setR_few {w : World} {h : Heap} {a : Addr} {ns ms : List Int} {c : Nat} (R : SetR w h a (fun j => decide (j ∈ ns)) c) (g : ∀ k ∈ ns, k ∈ ms) : c ≤ ms.length := by
  obtain ⟨o, es, ep, t, _, _, _, _, nd, hm, _, _, hn, _⟩ := R
  have := nodup_le (m := ms) nd fun x hx => g x (of_decide_eq_true ((hm x).mpr hx))
  rw [List.length_map, Array.length_toList] at this
  omega
section
variable {X : Cx} {M : Mem} {Q : D → Mem → Prop} {Ln Vn Bn Fn : List Str}
/-- set(xs), xs a list of ints -/
def rSetI (K : PySem.W.Frag) (w : World) : List V → Hp → VK → Prop := fun xs H R => ∃ (l : Addr) (ns : List Int), xs = [V.ref l] ∧ SqL K H l (ns.map V.int) ∧ ns.length + 1 < scanBound ∧
  ∀ p c, H p = none → (∀ ms : List Int, (∀ k ∈ ns, k ∈ ms) → c ≤ ms.length) → R (.ref p) (upd H p (SetO w p (fun j => decide (j ∈ ns)) c))
theorem cr_setI (hc : X.calm = true) : CallR X (.type "set") (rSetI X.K X.w) := by
  intro pins s σ H xs us R I r h
  obtain ⟨l, ns, rfl, h1, hb, q⟩ := h
  rw [Vals.ref1 r]
  obtain ⟨its, rv, pl, hz⟩ := I.list h1
  refine set_ints ns (I.ok.hd hc) pl.isList (by simpa using rv.ints) hb ?_
  rintro s2 ⟨h', tk, c, rfl, hS, hcn, kp⟩
  exact ⟨.ref s.heap.objs.size, _, I.laid (t' := tk) kp (Nat.le_refl _) (setO_new hS), rfl, q _ c (I.hok.fresh (Nat.le_refl _)) fun ms => setR_few hS⟩
theorem cd_setI {d : D} {ns : List Int} (st : Stat X Ln Vn Bn Fn) (h : IsR M d (ns.map D.int)) (hb : ns.length < 4000) (q : ∀ p c, (∀ ms : List Int, (∀ k ∈ ns, k ∈ ms) → c ≤ ms.length) → Q (.ref p) ((p, .raw (SetO X.w p (fun j => decide (j ∈ ns)) c)) :: M)) : CD X (.type "set") [d] M Q :=
  cd_of (cr_setI st.calm) fun S H xs rx m => by
    obtain ⟨v, rfl, rv⟩ := reps_one rx
    obtain ⟨a, us, rfl, h1, ru⟩ := h.get m rv
    rw [ru.ints_inv] at h1
    refine ⟨a, ns, rfl, h1, by unfold scanBound; omega, fun p c hp hc => ⟨_, _, S, q p c hc, .refl _, m.alloc hp ⟨upd_same, fun xs h => by unfold SetO at h; cases h⟩, .ref p⟩⟩
theorem cd_sortedSet {a : Addr} {f : Cell → Mem} {Sb : Int → Bool} {n : Nat} {ms : List Int} (st : Stat X Ln Vn Bn Fn) (h : At a M (.raw (SetO X.w a Sb n)) f) (h64 : n < 64) (hs : ms.Pairwise (· < ·)) (hm : ∀ k, k ∈ ms ↔ Sb k = true) (q : Q (.lst (ms.map D.int)) M) : CD X (.builtin "sorted") [.ref a] M Q :=
  cd_of (cr_sortedSet st.calm) fun S H xs rx m => by
    obtain ⟨v, rfl, rv⟩ := reps_one rx
    have hx : H a = some (SetO X.w a Sb n) := (m.at_ok h).1
    refine ⟨a, Sb, n, by rw [rv.ref_inv], hx, h64, fun ns p h1 h2 _ hp => ?_⟩
    have nd : ∀ {l : List Int}, l.Pairwise (· < ·) → l.Nodup := fun h => h.imp fun h => Int.ne_of_lt h
    have e : ns = ms := by
      refine ((List.perm_ext_iff_of_nodup (nd h1) (nd hs)).mpr fun k => (h2 k).trans (hm k).symm).eq_of_pairwise (fun a b _ _ h1 h2 => ?_) h1 hs
      exact absurd (Int.lt_trans h1 h2) (Int.lt_irrefl _)
    subst e
    exact post_lst m Reps.ints q p hp
end
end DL

/-! Core13: works and ways as they are printed; what a work must be to be read. -/
namespace Wk
open DL PySem
/-- a work that the text may read and print -/
structure Fit (w : W) : Prop where
  len : w.length ≤ 16
  few : ∀ b ∈ w, b.1.length ≤ 24
  w8 : ∀ b ∈ wrote w, b < 8
  nd : ∀ b ∈ w, ∀ t ∈ b.2.nx, t ≤ 16
  num : ∀ b ∈ w, ∀ d ∈ b.1, d.Ok 100
theorem Dd.Ok.up {a b : Nat} {d : Dd} (h : d.Ok a) (e : a ≤ b) : d.Ok b := by
  cases d with
  | call w => exact Nat.lt_of_lt_of_le h e
  | _ => exact h
theorem Ok.fit {nw : Nat} {w : W} (h : Ok nw w) (hn : nw ≤ 100) : Fit w :=
  ⟨h.len, h.few, h.wrote8, fun b hb t ht => by have := ((h.nd b hb).nx t ht).2; have := h.len; omega, fun b hb d hd => (h.dd b hb d hd).up hn⟩
theorem Fit.ends {w : W} (h : Fit w) : ∀ e ∈ w.map (·.2), ∀ t ∈ e.nx, t ≤ 16 := by
  intro e he
  obtain ⟨b, hb, rfl⟩ := List.mem_map.mp he
  exact h.nd b hb
/-! as Python prints them -/
def pairP (p : Int × Int) : PyData := .tuple [.int p.1, .int p.2]
theorem shw_pair {p : Int × Int} (h1 : -10000000000000 < p.1) (h2 : p.1 < 10000000000000) (h3 : -10000000000000 < p.2) (h4 : p.2 < 10000000000000) : Shw 1 90 (pairP p) := by
  refine Shw.tuple (dep := 0) (n := 44) (fun x hx => ?_) (by simp)
  simp only [List.mem_cons, List.not_mem_nil, or_false] at hx
  rcases hx with rfl | rfl
  · exact .int h1 h2
  · exact .int h3 h4
def natP (n : Nat) : PyData := .int (n : Int)
theorem py_nats {M : Mem} {d : D} {l : List Nat} (h : IsR M d (l.map natD)) : Py M d (.list (l.map natP)) := by
  have g : ∀ n ∈ l, Py M (natD n) (natP n) := fun n _ => .int _
  rcases h with (rfl | ⟨a, f, rfl, h⟩) | rfl
  · exact .lst (Pys.of_map g)
  · exact .ref h (Pys.of_map g)
  · exact .slst (Pys.of_map g)
theorem shw_nats {l : List Nat} (h : ∀ n ∈ l, n < 1000) (hl : l.length ≤ 100) : Shw 1 4500 (.list (l.map natP)) := by
  refine Shw.list (dep := 0) (n := 44) (fun x hx => ?_) (by rw [List.length_map]; omega)
  obtain ⟨n, hn, rfl⟩ := List.mem_map.mp hx
  have := h n hn
  exact .int (by omega) (by omega)
theorem boxesOf_lt (w : W) : ∀ b ∈ boxesOf w, b < 8 := fun b hb => List.mem_range.mp (List.mem_filter.mp hb).1
theorem boxesOf_len (w : W) : (boxesOf w).length ≤ 8 := by
  have := List.length_filter_le (fun b => decide (b ∈ wrote w)) (List.range 8)
  rw [List.length_range] at this
  exact this
def Dd.p : Dd → PyData
  | .set b n => .tuple [.str "set", .int (b : Int), .int n]
  | .add b o => .tuple [.str "add", .int (b : Int), .int (o : Int)]
  | .tell b => .tuple [.str "tell", .int (b : Int)]
  | .call w => .tuple [.str "call", .int (w : Int)]
  | .save b => .tuple [.str "save", .int (b : Int)]
  | .back b => .tuple [.str "back", .int (b : Int)]
def Nd.p : Nd → PyData
  | .out => .tuple [.str "out"]
  | .go t => .tuple [.str "go", natP t]
  | .fork t o => .tuple [.str "fork", natP t, natP o]
def Bk.p (b : Bk) : PyData := .tuple [.list (b.1.map Dd.p), b.2.p]
theorem Dd.py {M : Mem} (d : Dd) : Py M d.d d.p := by
  cases d <;> exact .tup (.cons (.str _) (.cons (.int _) (by first | exact .nil | exact .cons (.int _) .nil)))
theorem Nd.py {M : Mem} (e : Nd) : Py M e.d e.p := by
  cases e with
  | out => exact .tup (.cons (.str _) .nil)
  | go t => exact .tup (.cons (.str _) (.cons (.int _) .nil))
  | fork t o => exact .tup (.cons (.str _) (.cons (.int _) (.cons (.int _) .nil)))
theorem Bk.py {M : Mem} (b : Bk) : Py M b.d b.p := .tup (.cons (.lst (Pys.of_map fun d _ => d.py)) (.cons b.2.py .nil))
theorem shw_nat {n : Nat} (h : n < 1000) : Shw 0 44 (.int (n : Int)) := .int (by omega) (by omega)
end Wk

/-! Core14: which blocks are come to; plain facts about the two walks that find them. -/
namespace Wk
open DL PySem
/-- from some blocks another one is come to -/
inductive Come (nx : List (List Nat)) (bs : List Nat) : Nat → Prop
  | base {b : Nat} : b ∈ bs → Come nx bs b
  | step {a b : Nat} {l : List Nat} : Come nx bs a → nx[a]? = some l → b ∈ l → Come nx bs b
structure NxIn (nx : List (List Nat)) : Prop where
  lt : ∀ l ∈ nx, ∀ b ∈ l, b < nx.length
section
variable {nx : List (List Nat)} {bs fd wt : List Nat}
theorem Come.lt (hn : NxIn nx) (hb : ∀ b ∈ bs, b < nx.length) {b : Nat} (h : Come nx bs b) : b < nx.length := by
  induction h with
  | base h => exact hb _ h
  | step _ e m _ => exact hn.lt _ (List.mem_of_getElem? e) _ m
theorem Come.ind {S : Nat → Prop} (h0 : ∀ b ∈ bs, S b) (h1 : ∀ a l b, S a → nx[a]? = some l → b ∈ l → S b) {b : Nat} (h : Come nx bs b) : S b := by
  induction h with
  | base h => exact h0 _ h
  | step _ e m ih => exact h1 _ _ _ ih e m
open Classical in
noncomputable def comeL (nx : List (List Nat)) (bs : List Nat) : List Nat := (List.range nx.length).filter fun b => decide (Come nx bs b)
theorem mem_comeL {b : Nat} : b ∈ comeL nx bs ↔ b < nx.length ∧ Come nx bs b := by
  unfold comeL
  rw [List.mem_filter, List.mem_range, @decide_eq_true_iff _ (Classical.propDecidable _)]
theorem comeL_up : (comeL nx bs).Pairwise (· < ·) := List.pairwise_lt_range.filter _
theorem comeL_nd : (comeL nx bs).Nodup := List.nodup_range.filter _
theorem comeL_len : (comeL nx bs).length ≤ nx.length := by
  have := List.length_filter_le (fun b => @decide (Come nx bs b) (Classical.propDecidable _)) (List.range nx.length)
  rw [List.length_range] at this
  exact this
theorem upI {l : List Nat} (h : l.Pairwise (· < ·)) : (l.map fun (n : Nat) => (n : Int)).Pairwise (· ≤ ·) := by
  rw [List.pairwise_map]
  exact h.imp fun h => by omega
theorem upI' {l : List Nat} (h : l.Pairwise (· < ·)) : (l.map fun (n : Nat) => (n : Int)).Pairwise (· < ·) := by
  rw [List.pairwise_map]
  exact h.imp fun h => by omega
theorem nodup_leN : ∀ {l m : List Nat}, l.Nodup → (∀ y ∈ l, y ∈ m) → l.length ≤ m.length
  | [], m, _, _ => Nat.zero_le _
  | x :: l, m, h, g => by
    rw [List.nodup_cons] at h
    have hx := g x List.mem_cons_self
    have := nodup_leN (l := l) (m := m.erase x) h.2 fun y hy => (List.mem_erase_of_ne (fun (e : y = x) => h.1 (by rw [← e]; exact hy))).mpr (g y (List.mem_cons_of_mem _ hy))
    rw [List.length_erase_of_mem hx] at this
    have := List.length_pos_of_mem hx
    rw [List.length_cons]
    omega
/-- two rising lists of the same are one -/
theorem up_eq {l m : List Nat} (hl : l.Pairwise (· < ·)) (hm : m.Pairwise (· < ·)) (h : ∀ b, b ∈ l ↔ b ∈ m) : l = m := by
  have nd : ∀ {l : List Nat}, l.Pairwise (· < ·) → l.Nodup := fun h => h.imp fun h => Nat.ne_of_lt h
  exact ((List.perm_ext_iff_of_nodup (nd hl) (nd hm)).mpr h).eq_of_pairwise (fun a b _ _ h1 h2 => by omega) hl hm

/-- the walk with a list of what waits: fd is found, wt waits, ex are those that need not be closed yet -/
structure Dfs (nx : List (List Nat)) (bs fd wt : List Nat) (ex : Nat → Prop) : Prop where
  nd : fd.Nodup
  come : ∀ b ∈ fd, Come nx bs b
  beg : ∀ b ∈ bs, b ∈ fd
  sub : ∀ b ∈ wt, b ∈ fd
  cl : ∀ a ∈ fd, a ∉ wt → ¬ ex a → ∀ l, nx[a]? = some l → ∀ b ∈ l, b ∈ fd
theorem Dfs.start (nd : fd.Nodup) (h : ∀ b, b ∈ fd ↔ b ∈ bs) : Dfs nx bs fd bs fun _ => False :=
  ⟨nd, fun b hb => .base ((h b).mp hb), fun b hb => (h b).mpr hb, fun b hb => (h b).mpr hb, fun a ha hw => absurd ((h a).mp ha) hw⟩
theorem Dfs.pop {b : Nat} (h : Dfs nx bs fd (wt ++ [b]) fun _ => False) : b ∈ fd ∧ Dfs nx bs fd wt fun a => a = b :=
  ⟨h.sub b (by simp), h.nd, h.come, h.beg, fun a ha => h.sub a (by simp [ha]), fun a ha hw hne l e c hc => h.cl a ha (by simp [hw, hne]) (fun z => z) l e c hc⟩
theorem Dfs.push {ex : Nat → Prop} {b c : Nat} {l : List Nat} (h : Dfs nx bs fd wt ex) (hb : b ∈ fd) (e : nx[b]? = some l) (hc : c ∈ l) (hn : c ∉ fd) : Dfs nx bs (fd ++ [c]) (wt ++ [c]) ex := by
  refine ⟨?_, fun x hx => ?_, fun x hx => by simp [h.beg x hx], fun x hx => ?_, fun a ha hw hne l' e' x hx => ?_⟩
  · rw [List.nodup_append]
    exact ⟨h.nd, by simp, fun x hx y hy => by rw [List.mem_singleton.mp hy]; exact fun q => hn (q ▸ hx)⟩
  · rcases List.mem_append.mp hx with hx | hx
    · exact h.come x hx
    · rw [List.mem_singleton.mp hx]; exact .step (h.come b hb) e hc
  · rcases List.mem_append.mp hx with hx | hx
    · simp [h.sub x hx]
    · simp [List.mem_singleton.mp hx]
  · rcases List.mem_append.mp ha with ha | ha
    · have hw' : a ∉ wt := fun q => hw (by simp [q])
      simp [h.cl a ha hw' hne l' e' x hx]
    · exact absurd (by rw [List.mem_singleton.mp ha]; simp) hw
theorem Dfs.done {b : Nat} {l : List Nat} (h : Dfs nx bs fd wt fun a => a = b) (e : nx[b]? = some l) (hl : ∀ c ∈ l, c ∈ fd) : Dfs nx bs fd wt fun _ => False :=
  ⟨h.nd, h.come, h.beg, h.sub, fun a ha hw _ l' e' c hc => by
    by_cases q : a = b
    · subst q; rw [e] at e'; cases e'; exact hl c hc
    · exact h.cl a ha hw q l' e' c hc⟩
theorem Dfs.lt {ex : Nat → Prop} (h : Dfs nx bs fd wt ex) (hn : NxIn nx) (hb : ∀ b ∈ bs, b < nx.length) : ∀ b ∈ fd, b < nx.length := fun b q => (h.come b q).lt hn hb
theorem nodup_len {l : List Nat} {n : Nat} (h : l.Nodup) (hl : ∀ b ∈ l, b < n) : l.length ≤ n := by
  have := nodup_leN (m := List.range n) h fun b hb => List.mem_range.mpr (hl b hb)
  rw [List.length_range] at this
  exact this
theorem Dfs.len {ex : Nat → Prop} (h : Dfs nx bs fd wt ex) (hn : NxIn nx) (hb : ∀ b ∈ bs, b < nx.length) : fd.length ≤ nx.length := nodup_len h.nd (h.lt hn hb)
theorem Dfs.fin (h : Dfs nx bs fd [] fun _ => False) (hn : NxIn nx) (hb : ∀ b ∈ bs, b < nx.length) : (comeL nx bs).Perm fd := by
  rw [List.perm_ext_iff_of_nodup comeL_nd h.nd]
  intro b
  rw [mem_comeL]
  refine ⟨fun ⟨_, q⟩ => q.ind h.beg fun a l b q e m => h.cl a q (by simp) (fun z => z) l e b m, fun q => ⟨h.lt hn hb b q, h.come b q⟩⟩

/-- the walk by layers, that asks for one block -/
structure Bfs (nx : List (List Nat)) (b0 bk i : Nat) (met layer : List Nat) : Prop where
  come : ∀ b ∈ met ++ layer, Come nx [b0] b
  not : ∀ b ∈ b0 :: met, b ∉ layer → b ≠ bk
  cl : ∀ a ∈ b0 :: met, a ∉ layer → ∀ l, nx[a]? = some l → ∀ b ∈ l, b ∈ met
  lay : ∀ b ∈ layer, b = b0 ∨ b ∈ met
  cnt : layer = [] ∨ i ≤ ((List.range nx.length).filter fun b => decide (b ∈ met)).length
theorem filter_lt {m : Nat} {s t : List Nat} {x : Nat} (hs : ∀ b ∈ s, b ∈ t) (hx : x < m) (h1 : x ∉ s) (h2 : x ∈ t) : ((List.range m).filter fun b => decide (b ∈ s)).length < ((List.range m).filter fun b => decide (b ∈ t)).length := by
  have h3 : ((List.range m).filter fun b => decide (b ∈ s)).length < ((List.range m).filter fun b => decide (b ∈ t)).length := by
    have nd : (x :: ((List.range m).filter fun b => decide (b ∈ s))).Nodup := by
      rw [List.nodup_cons]
      exact ⟨fun q => h1 (of_decide_eq_true (List.mem_filter.mp q).2), List.nodup_range.filter _⟩
    have := nodup_leN (m := (List.range m).filter fun b => decide (b ∈ t)) nd fun b hb => by
      rcases List.mem_cons.mp hb with rfl | hb
      · exact List.mem_filter.mpr ⟨List.mem_range.mpr hx, decide_eq_true h2⟩
      · obtain ⟨q1, q2⟩ := List.mem_filter.mp hb
        exact List.mem_filter.mpr ⟨q1, decide_eq_true (hs _ (of_decide_eq_true q2))⟩
    rw [List.length_cons] at this
    exact this
  exact h3
/-- what the walk by layers comes to next -/
def fur (nx : List (List Nat)) (met layer : List Nat) : List Nat := layer.flatMap fun b => (nx.getD b []).filter fun t => !decide (t ∈ met)
theorem fur_mem {met layer : List Nat} {x : Nat} (h : x ∈ fur nx met layer) : ∃ b l, b ∈ layer ∧ nx[b]? = some l ∧ x ∈ l ∧ x ∉ met := by
  obtain ⟨b, hb, hx⟩ := List.mem_flatMap.mp h
  obtain ⟨h1, h2⟩ := List.mem_filter.mp hx
  rw [List.getD_eq_getElem?_getD] at h1
  cases e : nx[b]? with
  | none => rw [e] at h1; cases h1
  | some l => rw [e] at h1; exact ⟨b, l, hb, e, h1, by simpa using h2⟩
theorem mem_fur {met layer l : List Nat} {x b : Nat} (hb : b ∈ layer) (e : nx[b]? = some l) (hx : x ∈ l) (hn : x ∉ met) : x ∈ fur nx met layer := by
  refine List.mem_flatMap.mpr ⟨b, hb, List.mem_filter.mpr ⟨?_, by simpa using hn⟩⟩
  rw [List.getD_eq_getElem?_getD, e]; exact hx
theorem Bfs.start {b0 bk : Nat} : Bfs nx b0 bk 0 [] [b0] :=
  ⟨fun b hb => .base hb, fun b hb hn => absurd hb hn, fun b hb hn => absurd hb hn, fun b hb => .inl (List.mem_singleton.mp hb), .inr (Nat.zero_le _)⟩
theorem Bfs.step {b0 bk i : Nat} {met layer : List Nat} (hn : NxIn nx) (h : Bfs nx b0 bk i met layer) (hk : bk ∉ layer) : Bfs nx b0 bk (i + 1) (met ++ fur nx met layer) (fur nx met layer) := by
  have old : ∀ {b : Nat}, b ∈ b0 :: (met ++ fur nx met layer) → b ∉ fur nx met layer → b ∈ b0 :: met := fun hb hn => by
    rcases List.mem_cons.mp hb with rfl | hb
    · exact List.mem_cons_self
    · rcases List.mem_append.mp hb with hb | hb
      · exact List.mem_cons_of_mem _ hb
      · exact absurd hb hn
  have cf : ∀ b ∈ fur nx met layer, Come nx [b0] b := fun b hb => by
    obtain ⟨a, l, h1, h2, h3, _⟩ := fur_mem hb
    exact .step (h.come a (by simp [h1])) h2 h3
  refine ⟨fun b hb => ?_, fun b hb hnf => ?_, fun a ha hnf l e b hb => ?_, fun b hb => .inr (by simp [hb]), ?_⟩
  · rcases List.mem_append.mp hb with hb | hb
    · rcases List.mem_append.mp hb with hb | hb
      · exact h.come b (by simp [hb])
      · exact cf b hb
    · exact cf b hb
  · by_cases q : b ∈ layer
    · exact fun e => hk (e ▸ q)
    · exact h.not b (old hb hnf) q
  · by_cases q : b ∈ met
    · simp [q]
    · by_cases r : a ∈ layer
      · simp [mem_fur r e hb q]
      · exact absurd (h.cl a (old ha hnf) r l e b hb) q
  · match hf : fur nx met layer with
    | [] => exact .inl rfl
    | x :: r =>
      right
      have hx : x ∈ fur nx met layer := by rw [hf]; exact List.mem_cons_self
      obtain ⟨a, l, h1, h2, h3, h4⟩ := fur_mem hx
      have := filter_lt (m := nx.length) (s := met) (t := met ++ (x :: r)) (x := x) (fun b hb => by simp [hb]) (hn.lt l (List.mem_of_getElem? h2) x h3) h4 (by simp)
      rcases h.cnt with e | e
      · rw [e] at h1; cases h1
      · omega
theorem Bfs.none {b0 bk : Nat} {met layer : List Nat} (h : Bfs nx b0 bk (nx.length + 1) met layer) : ¬ Come nx [b0] bk := by
  have e : layer = [] := by
    rcases h.cnt with e | e
    · exact e
    · have := List.length_filter_le (fun b => decide (b ∈ met)) (List.range nx.length)
      rw [List.length_range] at this
      omega
  subst e
  intro q
  have : bk ∈ b0 :: met := q.ind (S := fun b => b ∈ b0 :: met) (fun b hb => by rw [List.mem_singleton.mp hb]; exact List.mem_cons_self) fun a l b ha e m => List.mem_cons_of_mem _ (h.cl a ha (by simp) l e b m)
  exact h.not bk this (by simp) rfl
end
/-- the blocks that the ends of a work name -/
def nexts (w : W) : List (List Nat) := w.map fun b => b.2.nx
theorem nexts_len (w : W) : (nexts w).length = w.length := List.length_map ..
theorem nexts_two (w : W) : ∀ l ∈ nexts w, l.length ≤ 2 := fun l hl => by
  obtain ⟨b, _, rfl⟩ := List.mem_map.mp hl
  cases b.2 <;> simp [Nd.nx]
theorem Ok.nxIn {nw : Nat} {w : W} (h : Ok nw w) : NxIn (nexts w) := ⟨fun l hl b hb => by
  obtain ⟨k, hk, rfl⟩ := List.mem_map.mp hl
  rw [nexts_len]
  exact ((h.nd k hk).nx b hb).2⟩
end Wk

/-! Core15: owned lists given away; more small words. -/
namespace DL
open PySem PySem.Spec PyProof.Rows L2 Wk
section
variable {X : Cx} {M : Mem} {Q : D → Mem → Prop} {Ln Vn Bn Fn : List Str}
/-- an owned list is given to a method, and is owned no more -/
theorem md_frz {id : String} {o : D} {p : Addr} {es : List D} (h : MD X id o [.lst es] M Q) : MD X id o [.ref p] ((p, .lst es) :: M) Q := by
  intro S H v xs rv rx m
  obtain ⟨S2, s2, m2, r2⟩ := m.freeze
  obtain ⟨x, rfl, r1⟩ := reps_one rx
  rw [r1.ref_inv]
  exact md_weak s2 (h S2 H v _ (rv.mono s2) (.one r2) m2)
theorem od_frzR {f : Value → Value → Sem Value} {d : D} {p : Addr} {es : List D} (h : OD X f d (.lst es) M Q) : OD X f d (.ref p) ((p, .lst es) :: M) Q := by
  intro S H x y rx ry m
  obtain ⟨S2, s2, m2, r2⟩ := m.freeze
  rw [ry.ref_inv]
  exact rC_mono (h S2 H x _ (rx.mono s2) r2 m2) fun _ _ q => q.weak s2
theorem sw_no2 {x y : Str} {px py pt pt2 : Pos} {kt k2 : Nat} {env : Env} {a b : Expr} (h : (env.scope.names.lookup x == some .local) = false ∨ (env.scope.names.lookup y == some .local) = false) :
    swappedStores [.Tuple [.Name x px, .Name y py] kt pt] (.Tuple [a, b] k2 pt2) env = pure none := by
  have kx : env.kindOf x = env.scope.names.lookup x := rfl
  have ky : env.kindOf y = env.scope.names.lookup y := rfl
  unfold swappedStores
  rcases h with h | h
  · by_cases hy : (env.scope.names.lookup y == some .local) = true <;> by_cases hl : py.line = px.line <;>
      simp [kx, ky, h, hy, hl, Expr.pos, List.filterMap, List.eraseDups, List.eraseDupsBy, List.eraseDupsBy.loop]
  · by_cases hx : (env.scope.names.lookup x == some .local) = true <;> by_cases hl : py.line = px.line <;>
      simp [kx, ky, h, hx, hl, Expr.pos, List.filterMap, List.eraseDups, List.eraseDupsBy, List.eraseDupsBy.loop]
theorem KeysOf.merge {v : D} : ∀ (bs : List Nat) {kvs : List (Key × D)} {seen : List Nat}, KeysOf kvs seen → KeysOf (mergeA kvs (bs.map fun (n : Nat) => ((.inl (n : Int) : Key), v))) (seen ++ bs)
  | [], kvs, seen, h => by simpa [mergeA] using h
  | b :: bs, kvs, seen, h => by
    have := KeysOf.merge (v := v) bs (h.put b v)
    rw [List.append_assoc] at this
    exact this
theorem keys_nil : KeysOf [] [] := ⟨[], rfl, .nil, by simp, by simp⟩
theorem valA_in {kvs : List (Key × D)} {fd : List Nat} (h : kvs.map (·.1) = fd.map fun (n : Nat) => (Sum.inl (n : Int) : Key)) (b : Nat) : (valA kvs (.inl (b : Int))).isSome = decide (b ∈ fd) := by
  rw [Bool.eq_iff_iff, decide_eq_true_iff, valA_mem_keys, h, List.mem_map]
  constructor
  · rintro ⟨n, hn, e⟩
    have : n = b := Int.ofNat_inj.mp (Sum.inl.inj e)
    rw [← this]; exact hn
  · exact fun hb => ⟨b, hb, rfl⟩
theorem atI_map {α : Type} {g : α → D} {l : List α} {i : Nat} {a : α} (h : l[i]? = some a) : atI (l.map g) (i : Int) = some (g a) := atI_nat (by rw [List.getElem?_map, h]; rfl)
end
end DL
namespace Wk
open DL PySem
/-- the ways from which a way leads back, as they come -/
noncomputable def rndK (nx : List (List Nat)) (k : Nat) (l : List Nat) : List (Int × Int) := (l.filter fun t => decide (k ∈ comeL nx [t])).map fun (t : Nat) => ((k : Int), (t : Int))
noncomputable def rndFrom (nx : List (List Nat)) : Nat → List (List Nat) → List (Int × Int)
  | _, [] => []
  | k, l :: r => rndK nx k l ++ rndFrom nx (k + 1) r
noncomputable def rndE (nx : List (List Nat)) (k : Nat) (e : Nd) : List (Int × Int) := (e.sx.filter fun t => decide (k ∈ comeL nx [t])).map fun (t : Nat) => ((k : Int), (t : Int))
noncomputable def roundsFrom (nx : List (List Nat)) : Nat → List Nd → List (Int × Int)
  | _, [] => []
  | k, e :: r => rndE nx k e ++ roundsFrom nx (k + 1) r
noncomputable def roundsOf (w : W) : List (Int × Int) := roundsFrom (nexts w) 0 (w.map (·.2))
theorem sx_perm (e : Nd) : e.sx.Perm e.nx := by
  cases e with
  | out => exact .refl _
  | go t => exact .refl _
  | fork t o =>
    rw [Nd.sx_fork]
    by_cases h : t ≤ o
    · rw [if_pos h]; exact .refl _
    · rw [if_neg h]; exact .swap _ _ _
theorem mem_natI {k : Nat} {l : List Nat} : (k : Int) ∈ l.map (fun (n : Nat) => (n : Int)) ↔ k ∈ l := by
  rw [List.mem_map]
  exact ⟨fun ⟨n, hn, e⟩ => by rw [← Int.ofNat_inj.mp e]; exact hn, fun h => ⟨k, h, rfl⟩⟩
end Wk

/-! Core16: the rest of the comprehensions. -/
namespace DL
open PySem PySem.Spec PyProof.Rows L2
section
variable {P : Program} {w : World} {K : PySem.W.Frag} {mg : Str → Option Value} {base : Heap} {X : Cx} {Γ Γb : VEnv} {M : Mem} {Q : D → Mem → Prop} {E : DE} {x : Str} {pos px : Pos} {elt iter c : Expr} {scope sc : Scope} {own : List (Str × Nat)} {N Ln Bn Fn Bx Vb Bb Fb : List Str} {k : Nat} {α : Type}
/-- name = [elt for x in iter if c] on one line -/
theorem ws_setPick {i j : Nat} {y : Str} {py spos : Pos} (l : List α) (g hh : α → D) (pk : α → Bool) (own : List (Str × Nat)) (Vb Bb Fb : List Str) (bod : Bod P w K mg base k sc N Ln Bn Fn Bx X) (hc : (blkC N sc scope own && blkChk sc scope (own.map (·.1)) Vb Bb Fb Bx) = true) (hxi : (x, i) ∈ own) (hwp : Wiped Γ own Γb)
    (hy : y ∈ Ln) (hyl : sc.names.lookup y = some .local) (hNy : N[j]? = some y) (ha : (scope.names.any fun (n, k) => n == y && (k == .local || k == .cell)) = false)
    (h : WI X Γ M (.Name x px) iter fun items Stb M1 => items = l.map g ∧ l.length ≤ sizeLine ∧ (∀ L acc, Stb ((L, .lst acc) :: M1)) ∧ (∀ a ∈ l, ∃ Γ2, SetAt Γb x (g a) Γ2 ∧ EachIf X scope (own.map (·.1)) Vb Bb Fb Γ2 M1 c (pk a) ∧ (pk a = true → Each X scope (own.map (·.1)) Vb Bb Fb Γ2 M1 elt (hh a))) ∧ ∀ p, ∃ Γ', SetAt Γ y (.ref p) Γ' ∧ E.nx Γ' ((p, .lst ((l.filter pk).map hh)) :: M1))
    (hl : (py.line == pos.line) = true := by rfl) (hl2 : spos.line = py.line := by rfl) (hs : ∀ x, foldedSetIterable iter X.env x = pure x := by intro _; rfl) : WS X Γ M (.Assign [.Name y py] (.ListComp elt [⟨.Name x px, iter, [c], 0⟩] scope pos) spos) E := by
  refine ws_setLc bod.st hy (by rw [bod.sc]; exact hyl) bod.kind (by rw [bod.N]; exact hNy) ha (blk_of bod hc).st hxi (blk_of bod hc).ok hwp (Nat.le_refl _) (fun S σ H a b => tI_mono (h S σ H a b) ?_) hl hl2 hs
  rintro J H1 ⟨items, Stb, M1, S1, ⟨h1, h2, h3, h4, h5⟩, s1, m1, W⟩
  obtain ⟨I, i1, i2, i3, i4⟩ := lc_pick (c := c) (elt := elt) (scope := scope) (hh := hh) (pk := pk) (X := X) (R := fun _ d Γ2 => SetAt Γb x d Γ2) h1 h2 h3 (fun a ha => let ⟨Γ2, q1, q2, q3⟩ := h4 a ha; ⟨Γ2, q1, pickT_of (blk_of bod hc) q2 q3⟩)
  exact ⟨items, Stb, M1, S1, ⟨I, i1, i2, i3, fun acc M' q p => by obtain ⟨rfl, rfl⟩ := i4 acc M' q; exact h5 p⟩, s1, m1, W⟩
/-- [elt for x, y in iter if c] -/
theorem we_pickT2 {i j : Nat} {y : Str} {py ptt : Pos} {kk : Nat} (l : List α) (ga gb hh : α → D) (pk : α → Bool) (own : List (Str × Nat)) (Vb Bb Fb : List Str) (bod : Bod P w K mg base k sc N Ln Bn Fn Bx X) (hc : (blkC N sc scope own && blkChk sc scope (own.map (·.1)) Vb Bb Fb Bx) = true) (hxi : (x, i) ∈ own) (hyj : (y, j) ∈ own) (hwp : Wiped Γ own Γb)
    (h : WI X Γ M (.Tuple [.Name x px, .Name y py] kk ptt) iter fun items Stb M1 => items = l.map (fun a => .tup [ga a, gb a]) ∧ l.length ≤ sizeLine ∧ (∀ L acc, Stb ((L, .lst acc) :: M1)) ∧ (∀ a ∈ l, ∃ Γ2 Γ3, SetAt Γb x (ga a) Γ2 ∧ SetAt Γ2 y (gb a) Γ3 ∧ EachIf X scope (own.map (·.1)) Vb Bb Fb Γ3 M1 c (pk a) ∧ (pk a = true → Each X scope (own.map (·.1)) Vb Bb Fb Γ3 M1 elt (hh a))) ∧ ∀ p, Q (.ref p) ((p, .lst ((l.filter pk).map hh)) :: M1))
    (hs : ∀ x, foldedSetIterable iter X.env x = pure x := by intro _; rfl) : WE X Γ M (.ListComp elt [⟨.Tuple [.Name x px, .Name y py] kk ptt, iter, [c], 0⟩] scope pos) Q := by
  have bl := blk_of bod hc
  refine we_lcT (xs := [x, y]) (is := [i, j]) (n := 2) bod.st bl.st (.cons hxi (.cons hyj .nil)) bl.ok hwp (Nat.le_refl _) (pgs_n2 bl.st bl.ok hxi hyj) (fun _ _ _ _ _ => ⟨rfl, rfl⟩) (fun S σ H a b => tI_mono (h S σ H a b) ?_) hs
  rintro J H1 ⟨items, Stb, M1, S1, ⟨h1, h2, h3, h4, h5⟩, s1, m1, W⟩
  obtain ⟨I, i1, i2, i3, i4⟩ := lc_pick (c := c) (elt := elt) (scope := scope) (hh := hh) (pk := pk) (X := X) (g := fun a => .tup [ga a, gb a]) (R := fun _ d Γ2 => ∃ ds, d = .tup ds ∧ ds.length = 2 ∧ SetAts Γb [x, y] ds Γ2) h1 h2 h3 (fun a ha => let ⟨Γ2, Γ3, q1, q2, q3, q4⟩ := h4 a ha; ⟨Γ3, ⟨[ga a, gb a], rfl, rfl, .cons q1 (.cons q2 .nil)⟩, pickT_of bl q3 q4⟩)
  exact ⟨items, Stb, M1, S1, ⟨I, i1, i2, fun i d acc M' e p => let ⟨Γ2, ⟨ds, q1, q2, q3⟩, t⟩ := i3 i d acc M' e p; ⟨ds, Γ2, q1, q2, q3, t⟩, fun acc M' q p => by obtain ⟨rfl, rfl⟩ := i4 acc M' q; exact h5 p⟩, s1, m1, W⟩
end
end DL

/-! Core17: comprehensions within comprehensions. -/
namespace DL
open PySem PySem.Spec PyProof.Rows L2
theorem Stat.nil {X : Cx} {Ln Vn Bn Fn : List Str} (st : Stat X Ln Vn Bn Fn) : Stat X [] [] Bn Fn := ⟨st.calm, fun _ h => (by cases h), st.po, st.nd, fun _ h => (by cases h), st.blt, st.gfn, st.hu, st.gd⟩
section
variable {P : Program} {w : World} {K : PySem.W.Frag} {mg : Str → Option Value} {base : Heap} {X X1 : Cx} {Γ Γb : VEnv} {M : Mem} {Q : D → Mem → Prop} {x : Str} {pos px : Pos} {elt iter c : Expr} {scope scope2 sc : Scope} {own own2 : List (Str × Nat)} {N Ln Vn Bn Fn Bx Vb Bb Fb ow V1 B1 F1 : List Str} {k : Nat} {α : Type}
theorem blk_in (bod : Bod P w K mg base k sc N Ln Bn Fn Bx X) (inn : Inn X X1 scope ow V1 B1 F1) (h : (blkC N (relS scope sc) scope2 own2 && blkChk (relS scope sc) scope2 (own2.map (·.1)) Vb Bb Fb Bx) = true) : Blk X1 scope2 own2 Vb Bb Fb := by
  rw [Bool.and_eq_true] at h
  have hsc : X1.env.scope = relS scope sc := by rw [inn.sc, bod.sc]
  exact ⟨by rw [inn.N, bod.N, hsc]; exact blkOk_by h.1, blk_stat inn.st (fun y hy => by rw [inn.mg]; exact bod.blt y hy) hsc h.2⟩
theorem we_mapB {i : Nat} (l : List α) (g hh : α → D) (st : Stat X Ln Vn Bn Fn) (bl : Blk X scope own Vb Bb Fb) (hxi : (x, i) ∈ own) (hwp : Wiped Γ own Γb)
    (h : WI X Γ M (.Name x px) iter fun items Stb M1 => items = l.map g ∧ l.length ≤ sizeLine ∧ (∀ L acc, Stb ((L, .lst acc) :: M1)) ∧ (∀ a ∈ l, ∃ Γ2, SetAt Γb x (g a) Γ2 ∧ Each X scope (own.map (·.1)) Vb Bb Fb Γ2 M1 elt (hh a)) ∧ ∀ p, Q (.ref p) ((p, .lst (l.map hh)) :: M1))
    (hs : ∀ x, foldedSetIterable iter X.env x = pure x := by intro _; rfl) : WE X Γ M (.ListComp elt [⟨.Name x px, iter, [], 0⟩] scope pos) Q :=
  we_lcM l g hh st.nil bl hxi hwp (wi_imp h fun _ _ _ ⟨h1, h2, h3, h4, h5⟩ => ⟨h1, h2, h3, fun a ha => let ⟨Γ2, q1, q2⟩ := h4 a ha; ⟨Γ2, q1, mapT_of bl q2⟩, h5⟩) hs
theorem we_pickB {i : Nat} (l : List α) (g hh : α → D) (pk : α → Bool) (st : Stat X Ln Vn Bn Fn) (bl : Blk X scope own Vb Bb Fb) (hxi : (x, i) ∈ own) (hwp : Wiped Γ own Γb)
    (h : WI X Γ M (.Name x px) iter fun items Stb M1 => items = l.map g ∧ l.length ≤ sizeLine ∧ (∀ L acc, Stb ((L, .lst acc) :: M1)) ∧ (∀ a ∈ l, ∃ Γ2, SetAt Γb x (g a) Γ2 ∧ EachIf X scope (own.map (·.1)) Vb Bb Fb Γ2 M1 c (pk a) ∧ (pk a = true → Each X scope (own.map (·.1)) Vb Bb Fb Γ2 M1 elt (hh a))) ∧ ∀ p, Q (.ref p) ((p, .lst ((l.filter pk).map hh)) :: M1))
    (hs : ∀ x, foldedSetIterable iter X.env x = pure x := by intro _; rfl) : WE X Γ M (.ListComp elt [⟨.Name x px, iter, [c], 0⟩] scope pos) Q :=
  we_lcP l g hh pk st.nil bl hxi hwp (wi_imp h fun _ _ _ ⟨h1, h2, h3, h4, h5⟩ => ⟨h1, h2, h3, fun a ha => let ⟨Γ2, q1, q2, q3⟩ := h4 a ha; ⟨Γ2, q1, pickT_of bl q2 q3⟩, h5⟩) hs
theorem we_mapT2B {i j : Nat} {y : Str} {py ptt : Pos} {kk : Nat} (l : List α) (ga gb hh : α → D) (st : Stat X Ln Vn Bn Fn) (bl : Blk X scope own Vb Bb Fb) (hxi : (x, i) ∈ own) (hyj : (y, j) ∈ own) (hwp : Wiped Γ own Γb)
    (h : WI X Γ M (.Tuple [.Name x px, .Name y py] kk ptt) iter fun items Stb M1 => items = l.map (fun a => .tup [ga a, gb a]) ∧ l.length ≤ sizeLine ∧ (∀ L acc, Stb ((L, .lst acc) :: M1)) ∧ (∀ a ∈ l, ∃ Γ2 Γ3, SetAt Γb x (ga a) Γ2 ∧ SetAt Γ2 y (gb a) Γ3 ∧ Each X scope (own.map (·.1)) Vb Bb Fb Γ3 M1 elt (hh a)) ∧ ∀ p, Q (.ref p) ((p, .lst (l.map hh)) :: M1))
    (hs : ∀ x, foldedSetIterable iter X.env x = pure x := by intro _; rfl) : WE X Γ M (.ListComp elt [⟨.Tuple [.Name x px, .Name y py] kk ptt, iter, [], 0⟩] scope pos) Q :=
  we_lcTM (xs := [x, y]) (is := [i, j]) (n := 2) l (fun a => [ga a, gb a]) hh st.nil bl (.cons hxi (.cons hyj .nil)) hwp (pgs_n2 bl.st bl.ok hxi hyj) (fun _ _ _ _ _ => ⟨rfl, rfl⟩)
    (wi_imp h fun _ _ _ ⟨h1, h2, h3, h4, h5⟩ => ⟨h1, h2, h3, fun a ha => let ⟨Γ2, Γ3, q1, q2, q3⟩ := h4 a ha; ⟨Γ3, ⟨rfl, .cons q1 (.cons q2 .nil)⟩, mapT_of bl q3⟩, h5⟩) hs
theorem rng0 (n : Nat) : rngD 0 n = (List.range n).map Wk.natD := by
  unfold rngD Wk.natD
  refine List.map_congr_left fun k _ => by rw [Int.zero_add]
end
end DL

/-! Core18: what works ask: where a read of a box is come to, in plain words. -/
namespace Wk
open DL PySem
inductive Tch where
  | n | r | w
  deriving DecidableEq
def Tch.s : Tch → Str
  | .n => ""
  | .r => "read"
  | .w => "write"
/-- the boxes that a deed reads, calls by what the works ask -/
def Dd.reads (al : List (List Nat)) : Dd → List Nat
  | .add x y => [x, y]
  | .tell x => [x]
  | .call w => al.getD w []
  | _ => []
def Dd.wrB (b : Nat) (d : Dd) : Bool := d.wr && decide (d.wb = b)
def touch (b : Nat) (al : List (List Nat)) : List Dd → Tch
  | [] => .n
  | d :: r => if b ∈ d.reads al then .r else if d.wrB b = true then .w else touch b al r
/-- a deed that reads the box itself -/
def Dd.rd (b : Nat) : Dd → Bool
  | .add x y => decide (b = x) || decide (b = y)
  | .tell x => decide (b = x)
  | _ => false
abbrev NoWr (b : Nat) (l : List Dd) : Prop := ∀ d ∈ l, d.wrB b = false
/-- from the begin of a work's block a read of the box is come to, with no write of the same call ahead -/
inductive Awt (ws : List W) (b : Nat) : Nat → Nat → Prop
  | read {n k i : Nat} {w : W} {bk : Bk} {d : Dd} : ws[n]? = some w → w[k]? = some bk → bk.1[i]? = some d → d.rd b = true → NoWr b (bk.1.take i) → Awt ws b n k
  | call {n k i m : Nat} {w : W} {bk : Bk} : ws[n]? = some w → w[k]? = some bk → bk.1[i]? = some (.call m) → NoWr b (bk.1.take i) → Awt ws b m 0 → Awt ws b n k
  | step {n k t : Nat} {w : W} {bk : Bk} : ws[n]? = some w → w[k]? = some bk → NoWr b bk.1 → t ∈ bk.2.nx → Awt ws b n t → Awt ws b n k
theorem touch_r {b : Nat} {al : List (List Nat)} : ∀ {dd : List Dd}, touch b al dd = .r ↔ ∃ (i : Nat) (d : Dd), dd[i]? = some d ∧ b ∈ d.reads al ∧ NoWr b (dd.take i)
  | [] => by simp [touch]
  | d :: r => by
    unfold touch
    by_cases h : b ∈ d.reads al
    · rw [if_pos h]
      exact ⟨fun _ => ⟨0, d, rfl, h, by simp [NoWr]⟩, fun _ => rfl⟩
    · rw [if_neg h]
      cases hw : d.wrB b with
      | true =>
        rw [if_pos rfl]
        refine ⟨fun q => (by cases q), fun ⟨i, e, h1, h2, h3⟩ => ?_⟩
        cases i with
        | zero => cases h1; exact absurd h2 h
        | succ i =>
          have := h3 d (by rw [List.take_succ_cons]; exact List.mem_cons_self)
          rw [this] at hw; cases hw
      | false =>
        rw [if_neg Bool.false_ne_true, touch_r (dd := r)]
        constructor
        · rintro ⟨i, e, h1, h2, h3⟩
          refine ⟨i + 1, e, by simpa using h1, h2, fun x hx => ?_⟩
          rw [List.take_succ_cons] at hx
          rcases List.mem_cons.mp hx with rfl | hx
          · exact hw
          · exact h3 x hx
        · rintro ⟨i, e, h1, h2, h3⟩
          cases i with
          | zero => cases h1; exact absurd h2 h
          | succ i => exact ⟨i, e, by simpa using h1, h2, fun x hx => h3 x (by rw [List.take_succ_cons]; exact List.mem_cons_of_mem _ hx)⟩
theorem touch_n {b : Nat} {al : List (List Nat)} : ∀ {dd : List Dd}, touch b al dd = .n → NoWr b dd
  | [], _ => by simp [NoWr]
  | d :: r, h => by
    unfold touch at h
    by_cases h1 : b ∈ d.reads al
    · rw [if_pos h1] at h; cases h
    · rw [if_neg h1] at h
      cases hw : d.wrB b with
      | true => rw [hw, if_pos rfl] at h; cases h
      | false =>
        rw [hw, if_neg Bool.false_ne_true] at h
        intro x hx
        rcases List.mem_cons.mp hx with rfl | hx
        · exact hw
        · exact touch_n h x hx
theorem touch_nw {b : Nat} {al : List (List Nat)} : ∀ {dd : List Dd}, NoWr b dd → touch b al dd = .n ∨ touch b al dd = .r
  | [], _ => .inl rfl
  | d :: r, h => by
    unfold touch
    by_cases h1 : b ∈ d.reads al
    · rw [if_pos h1]; exact .inr rfl
    · rw [if_neg h1, h d List.mem_cons_self, if_neg Bool.false_ne_true]
      exact touch_nw fun x hx => h x (List.mem_cons_of_mem _ hx)
/-- the touches of a work's blocks -/
def tchs (w : W) (b : Nat) (al : List (List Nat)) : List Tch := w.map fun k => touch b al k.1
def leads (nx : List (List Nat)) : List (List Nat) := (List.range nx.length).map fun to => (List.range nx.length).filter fun k => decide (to ∈ nx.getD k [])
def freeL (w : W) (b : Nat) (al : List (List Nat)) : List (List Nat) := (leads (nexts w)).map fun l => l.filter fun k => decide ((tchs w b al).getD k .w = .n)
def begL (w : W) (b : Nat) (al : List (List Nat)) : List Nat := (List.range w.length).filter fun k => decide ((tchs w b al).getD k .w = .r)
noncomputable def awaitL (w : W) (b : Nat) (al : List (List Nat)) : List Nat := comeL (freeL w b al) (begL w b al)
section
variable {w : W} {b : Nat} {al : List (List Nat)}
theorem tchs_len : (tchs w b al).length = w.length := List.length_map ..
theorem tchs_at {k : Nat} {bk : Bk} (h : w[k]? = some bk) : (tchs w b al).getD k .w = touch b al bk.1 := by
  unfold tchs
  rw [List.getD_eq_getElem?_getD, List.getElem?_map, h]; rfl
theorem leads_len (nx : List (List Nat)) : (leads nx).length = nx.length := by unfold leads; rw [List.length_map, List.length_range]
theorem freeL_len : (freeL w b al).length = w.length := by unfold freeL; rw [List.length_map, leads_len, nexts_len]
theorem nexts_at {k : Nat} {bk : Bk} (h : w[k]? = some bk) : (nexts w).getD k [] = bk.2.nx := by
  unfold nexts
  rw [List.getD_eq_getElem?_getD, List.getElem?_map, h]; rfl
/-- k is free of touches and leads to a -/
theorem freeL_mem {a k : Nat} : (∃ l, (freeL w b al)[a]? = some l ∧ k ∈ l) ↔ a < w.length ∧ ∃ bk, w[k]? = some bk ∧ a ∈ bk.2.nx ∧ touch b al bk.1 = .n := by
  unfold freeL leads
  constructor
  · rintro ⟨l, h1, h2⟩
    rw [List.getElem?_map] at h1
    obtain ⟨l', h3, rfl⟩ := Option.map_eq_some_iff.mp h1
    rw [List.getElem?_map] at h3
    obtain ⟨a', h4, rfl⟩ := Option.map_eq_some_iff.mp h3
    rw [nexts_len] at h4
    have ha := (List.getElem?_eq_some_iff.mp h4).1
    rw [List.length_range] at ha
    rw [List.getElem?_range ha] at h4
    cases h4
    obtain ⟨h5, h6⟩ := List.mem_filter.mp h2
    obtain ⟨h7, h8⟩ := List.mem_filter.mp h5
    rw [List.mem_range, nexts_len] at h7
    have hk := List.getElem?_eq_getElem h7
    refine ⟨ha, w[k], hk, ?_, ?_⟩
    · rw [nexts_at hk] at h8; exact of_decide_eq_true h8
    · rw [tchs_at hk] at h6; exact of_decide_eq_true h6
  · rintro ⟨ha, bk, hk, h1, h2⟩
    have hkl := (List.getElem?_eq_some_iff.mp hk).1
    refine ⟨_, by rw [List.getElem?_map, List.getElem?_map, nexts_len, List.getElem?_range ha]; rfl, ?_⟩
    rw [List.mem_filter, List.mem_filter, List.mem_range, nexts_at hk, tchs_at hk]
    exact ⟨⟨hkl, decide_eq_true h1⟩, decide_eq_true h2⟩
theorem begL_mem {k : Nat} : k ∈ begL w b al ↔ ∃ bk, w[k]? = some bk ∧ touch b al bk.1 = .r := by
  unfold begL
  rw [List.mem_filter, List.mem_range]
  constructor
  · rintro ⟨h1, h2⟩
    have hk := List.getElem?_eq_getElem h1
    rw [tchs_at hk] at h2
    exact ⟨w[k], hk, of_decide_eq_true h2⟩
  · rintro ⟨bk, hk, h⟩
    exact ⟨(List.getElem?_eq_some_iff.mp hk).1, by rw [tchs_at hk]; exact decide_eq_true h⟩
theorem freeL_in : NxIn (freeL w b al) := ⟨fun l hl k hk => by
  obtain ⟨a, ha⟩ := List.mem_iff_getElem?.mp hl
  obtain ⟨_, bk, h, _⟩ := freeL_mem.mp ⟨l, ha, hk⟩
  rw [freeL_len]
  exact (List.getElem?_eq_some_iff.mp h).1⟩
theorem begL_lt : ∀ k ∈ begL w b al, k < (freeL w b al).length := fun k hk => by
  obtain ⟨bk, h, _⟩ := begL_mem.mp hk
  rw [freeL_len]
  exact (List.getElem?_eq_some_iff.mp h).1
/-- what the going backwards finds is awaited, where what is asked is -/
theorem await_sound {ws : List W} {n k : Nat} (hw : ws[n]? = some w) (ha : ∀ m, b ∈ al.getD m [] → Awt ws b m 0) (h : Come (freeL w b al) (begL w b al) k) : Awt ws b n k := by
  induction h with
  | base h =>
    obtain ⟨bk, hk, ht⟩ := begL_mem.mp h
    obtain ⟨i, d, h1, h2, h3⟩ := touch_r.mp ht
    cases d with
    | set x y => cases h2
    | add x y =>
      simp only [Dd.reads, List.mem_cons, List.not_mem_nil, or_false] at h2
      exact .read hw hk h1 (by simp [Dd.rd, h2]) h3
    | tell x =>
      simp only [Dd.reads, List.mem_cons, List.not_mem_nil, or_false] at h2
      exact .read hw hk h1 (by simp [Dd.rd, h2]) h3
    | call m => exact .call hw hk h1 h3 (ha m h2)
    | save x => cases h2
    | back x => cases h2
  | @step a c l _ e m ih =>
    obtain ⟨_, bk, hk, h1, h2⟩ := freeL_mem.mp ⟨l, e, m⟩
    exact .step hw hk (touch_n h2) h1 ih
/-- .. and all that is awaited is found, where what is asked stands -/
theorem await_full {ws : List W} (hin : ∀ w ∈ ws, NxIn (nexts w)) (hst : ∀ m w, ws[m]? = some w → Come (freeL w b al) (begL w b al) 0 → b ∈ al.getD m []) {n k : Nat} (h : Awt ws b n k) : ∀ {w : W}, ws[n]? = some w → Come (freeL w b al) (begL w b al) k := by
  induction h with
  | @read n k i w bk d hw hk h1 h2 h3 =>
    intro w' hw'
    rw [hw] at hw'; cases hw'
    refine .base (begL_mem.mpr ⟨bk, hk, touch_r.mpr ⟨i, d, h1, ?_, h3⟩⟩)
    cases d with
    | add x y =>
      simp only [Dd.rd, Bool.or_eq_true, decide_eq_true_eq] at h2
      simp [Dd.reads, h2]
    | tell x =>
      simp only [Dd.rd, decide_eq_true_eq] at h2
      simp [Dd.reads, h2]
    | _ => cases h2
  | @call n k i m w bk hw hk h1 h3 hm ih =>
    intro w' hw'
    rw [hw] at hw'; cases hw'
    have hmm : ∃ wm, ws[m]? = some wm := by
      cases hm with
      | read h _ _ _ _ => exact ⟨_, h⟩
      | call h _ _ _ _ => exact ⟨_, h⟩
      | step h _ _ _ _ => exact ⟨_, h⟩
    obtain ⟨wm, hwm⟩ := hmm
    exact .base (begL_mem.mpr ⟨bk, hk, touch_r.mpr ⟨i, _, h1, hst m wm hwm (ih hwm), h3⟩⟩)
  | @step n k t w bk hw hk h1 h2 ht ih =>
    intro w' hw'
    rw [hw] at hw'; cases hw'
    rcases touch_nw (al := al) h1 with q | q
    · have hlt := (hin w (List.mem_of_getElem? hw)).lt bk.2.nx (List.mem_iff_getElem?.mpr ⟨k, by unfold nexts; rw [List.getElem?_map, hk]; rfl⟩) t h2
      rw [nexts_len] at hlt
      obtain ⟨l, e, m⟩ := freeL_mem.mpr ⟨hlt, bk, hk, h2, q⟩
      exact .step (ih hw) e m
    · exact .base (begL_mem.mpr ⟨bk, hk, q⟩)
end
/-! what is asked, box by box: one truth for each work -/
def askedD (b : Nat) (ts : List Bool) : List (List Nat) := ts.map fun t => if t = true then [b] else []
theorem askedD_len {b : Nat} {ts : List Bool} : (askedD b ts).length = ts.length := List.length_map ..
theorem askedD_at {b m : Nat} {ts : List Bool} : b ∈ (askedD b ts).getD m [] ↔ ts.getD m false = true := by
  unfold askedD
  rw [List.getD_eq_getElem?_getD, List.getElem?_map, List.getD_eq_getElem?_getD]
  cases h : ts[m]? with
  | none => simp
  | some t => cases t <;> simp
noncomputable def askStep (ws : List W) (b : Nat) (ts : List Bool) : List Bool := ws.map fun w => decide (0 ∈ awaitL w b (askedD b ts))
theorem askStep_len {ws : List W} {b : Nat} {ts : List Bool} : (askStep ws b ts).length = ws.length := List.length_map ..
def cntT (ts : List Bool) : Nat := (ts.filter id).length
theorem cntT_le (ts : List Bool) : cntT ts ≤ ts.length := List.length_filter_le _ _
def leT : List Bool → List Bool → Prop
  | [], [] => True
  | a :: as, c :: cs => (a = true → c = true) ∧ leT as cs
  | _, _ => False
theorem leT_at : ∀ {as cs : List Bool}, leT as cs → ∀ m, as.getD m false = true → cs.getD m false = true
  | [], [], _, m, h => by simp at h
  | a :: as, c :: cs, h, 0, e => h.1 e
  | a :: as, c :: cs, h, m + 1, e => leT_at (as := as) (cs := cs) h.2 m e
theorem leT_map {α : Type} {f g : α → Bool} : ∀ {l : List α}, (∀ a ∈ l, f a = true → g a = true) → leT (l.map f) (l.map g)
  | [], _ => trivial
  | a :: l, h => ⟨h a List.mem_cons_self, leT_map fun b hb => h b (List.mem_cons_of_mem _ hb)⟩
theorem leT_cnt : ∀ {as cs : List Bool}, leT as cs → cntT as ≤ cntT cs ∧ (as ≠ cs → cntT as < cntT cs)
  | [], [], _ => ⟨Nat.le_refl _, fun h => absurd rfl h⟩
  | a :: as, c :: cs, h => by
    obtain ⟨h1, h2⟩ := leT_cnt h.2
    have ha := h.1
    cases a <;> cases c
    · exact ⟨h1, fun q => h2 fun e => q (by rw [e])⟩
    · exact ⟨Nat.le_succ_of_le h1, fun _ => Nat.lt_succ_of_le h1⟩
    · exact absurd (ha rfl) Bool.false_ne_true
    · exact ⟨Nat.succ_le_succ h1, fun q => Nat.succ_lt_succ (h2 fun e => q (by rw [e]))⟩
theorem touch_mono {b : Nat} {al al' : List (List Nat)} (h : ∀ m, b ∈ al.getD m [] → b ∈ al'.getD m []) {dd : List Dd} (e : touch b al dd = .r) : touch b al' dd = .r := by
  obtain ⟨i, d, h1, h2, h3⟩ := touch_r.mp e
  refine touch_r.mpr ⟨i, d, h1, ?_, h3⟩
  cases d with
  | call m => exact h m h2
  | _ => exact h2
theorem come_mono {w : W} {b : Nat} {al al' : List (List Nat)} (h : ∀ m, b ∈ al.getD m [] → b ∈ al'.getD m []) {k : Nat} (c : Come (freeL w b al) (begL w b al) k) : Come (freeL w b al') (begL w b al') k := by
  induction c with
  | base hb =>
    obtain ⟨bk, hk, ht⟩ := begL_mem.mp hb
    exact .base (begL_mem.mpr ⟨bk, hk, touch_mono h ht⟩)
  | @step a c l _ e m ih =>
    obtain ⟨ha, bk, hk, h1, h2⟩ := freeL_mem.mp ⟨l, e, m⟩
    rcases touch_nw (al := al') (touch_n h2) with q | q
    · obtain ⟨l', e', m'⟩ := freeL_mem.mpr ⟨ha, bk, hk, h1, q⟩
      exact .step ih e' m'
    · exact .base (begL_mem.mpr ⟨bk, hk, q⟩)
/-- how far the asking has come -/
structure AskOk (ws : List W) (b : Nat) (ts : List Bool) : Prop where
  len : ts.length = ws.length
  sound : ∀ m, ts.getD m false = true → Awt ws b m 0
  up : leT ts (askStep ws b ts)
theorem mem_awaitL {w : W} {b k : Nat} {al : List (List Nat)} : k ∈ awaitL w b al ↔ Come (freeL w b al) (begL w b al) k := by
  unfold awaitL
  rw [mem_comeL]
  exact ⟨fun h => h.2, fun h => ⟨h.lt freeL_in begL_lt, h⟩⟩
theorem askStep_at {ws : List W} {b m : Nat} {ts : List Bool} : (askStep ws b ts).getD m false = true ↔ ∃ w, ws[m]? = some w ∧ Come (freeL w b (askedD b ts)) (begL w b (askedD b ts)) 0 := by
  unfold askStep
  rw [List.getD_eq_getElem?_getD, List.getElem?_map]
  cases h : ws[m]? with
  | none => simp
  | some w => simp [mem_awaitL]
theorem AskOk.start {ws : List W} {b : Nat} : AskOk ws b (ws.map fun _ => false) := by
  refine ⟨List.length_map .., fun m h => ?_, ?_⟩
  · rw [List.getD_eq_getElem?_getD, List.getElem?_map] at h
    cases e : ws[m]? with
    | none => rw [e] at h; cases h
    | some w => rw [e] at h; cases h
  · unfold askStep
    exact leT_map fun a _ h => by cases h
theorem AskOk.step {ws : List W} {b : Nat} {ts : List Bool} (h : AskOk ws b ts) : AskOk ws b (askStep ws b ts) := by
  refine ⟨askStep_len, fun m e => ?_, ?_⟩
  · obtain ⟨w, hw, c⟩ := askStep_at.mp e
    exact await_sound hw (fun m hm => h.sound m (askedD_at.mp hm)) c
  · have up := h.up
    show leT (askStep ws b ts) (askStep ws b (askStep ws b ts))
    conv => lhs; unfold askStep
    conv => rhs; unfold askStep
    refine leT_map fun w _ e => ?_
    rw [decide_eq_true_iff, mem_awaitL] at e ⊢
    exact come_mono (fun m hm => askedD_at.mpr (leT_at up m (askedD_at.mp hm))) e
/-- what is asked in the end -/
theorem AskOk.fin {ws : List W} {b : Nat} {ts : List Bool} (hin : ∀ w ∈ ws, NxIn (nexts w)) (h : AskOk ws b ts) (e : askStep ws b ts = ts) {n k : Nat} {w : W} (hw : ws[n]? = some w) : k ∈ awaitL w b (askedD b ts) ↔ Awt ws b n k := by
  rw [mem_awaitL]
  refine ⟨await_sound hw fun m hm => h.sound m (askedD_at.mp hm), fun q => await_full hin (fun m w hw c => ?_) q hw⟩
  rw [askedD_at, ← e]
  exact askStep_at.mpr ⟨w, hw, c⟩
open Classical in
/-- the truths of what is asked -/
noncomputable def askT (ws : List W) (b : Nat) : List Bool := (List.range ws.length).map fun n => decide (Awt ws b n 0)
theorem AskOk.is {ws : List W} {b : Nat} {ts : List Bool} (hin : ∀ w ∈ ws, NxIn (nexts w)) (h : AskOk ws b ts) (e : askStep ws b ts = ts) : ts = askT ws b := by
  refine List.ext_getElem? fun n => ?_
  unfold askT
  by_cases hn : n < ws.length
  · have hw := List.getElem?_eq_getElem hn
    have h1 := h.fin hin e (k := 0) hw
    have hl : n < ts.length := by rw [h.len]; exact hn
    rw [List.getElem?_map, List.getElem?_range hn, List.getElem?_eq_getElem hl]
    simp only [Option.map_some, Option.some.injEq]
    have h2 : ts.getD n false = ts[n] := by rw [List.getD_eq_getElem?_getD, List.getElem?_eq_getElem hl]; rfl
    have h3 : ts.getD n false = true ↔ Awt ws b n 0 := by
      rw [← h1, mem_awaitL]
      conv => lhs; rw [← e]
      rw [askStep_at]
      exact ⟨fun ⟨w, q, c⟩ => by rw [hw] at q; cases q; exact c, fun c => ⟨_, hw, c⟩⟩
    rw [h2] at h3
    rw [Bool.eq_iff_iff, h3, @decide_eq_true_iff _ (Classical.propDecidable _)]
  · rw [List.getElem?_eq_none (by rw [h.len]; omega), List.getElem?_eq_none (by rw [List.length_map, List.length_range]; omega)]
end Wk
namespace Wk
open DL PySem
def Tch.d (t : Tch) : D := .str t.s
theorem Tch.s_n : ∀ t : Tch, decide (t.s = ("" : Str)) = decide (t = .n)
  | .n => by decide +kernel
  | .r => by decide +kernel
  | .w => by decide +kernel
theorem Tch.s_r : ∀ t : Tch, decide (t.s = ("read" : Str)) = decide (t = .r)
  | .n => by decide +kernel
  | .r => by decide +kernel
  | .w => by decide +kernel
theorem enum_range {α : Type} (g : α → D) (a0 : α) (l : List α) : enumD (l.map g) = (List.range l.length).map fun k => .tup [natD k, g (l.getD k a0)] := by
  refine List.ext_getElem? fun i => ?_
  unfold enumD
  rw [List.getElem?_mapIdx, List.getElem?_map, List.getElem?_map]
  by_cases h : i < l.length
  · rw [List.getElem?_range h, List.getElem?_eq_getElem h]
    simp [List.getD_eq_getElem?_getD, List.getElem?_eq_getElem h, natD]
  · rw [List.getElem?_eq_none (by omega), List.getElem?_eq_none (by rw [List.length_range]; omega)]; rfl
end Wk
namespace DL
open PySem PySem.Spec PyProof.Rows L2 in
theorem sw_cell {elt : Expr} {gs : List Comprehension} {scope : Scope} {pos py : Pos} {y : Str} {l : Nat} {env : Env} (h : (env.scope.names.lookup y == some .local) = false) : swapsWith (.ListComp elt gs scope pos) (some (.Name y py)) l env = pure false := by
  have ky : env.kindOf y = env.scope.names.lookup y := rfl
  unfold swapsWith
  simp only [ky, h, Bool.and_false, Bool.false_and]
theorem ite_sF {p : Prop} [Decidable p] {A B : Prop} (h : decide p = false) (q : B) : if decide p = true then A else B := by rw [h, if_neg Bool.false_ne_true]; exact q
theorem ite_sT {p : Prop} [Decidable p] {A B : Prop} (h : decide p = true) (q : A) : if decide p = true then A else B := by rw [h, if_pos rfl]; exact q
theorem ite_nF {p : Prop} [Decidable p] {A B : Prop} (h : decide p = false) (q : A) : if (!decide p) = true then A else B := by rw [h]; exact q
theorem ite_nT {p : Prop} [Decidable p] {A B : Prop} (h : decide p = true) (q : B) : if (!decide p) = true then A else B := by rw [h]; exact q
end DL

/-! Core19: lists of lists of numbers compared and printed; works that may be asked. -/
namespace Wk
open DL PySem
structure FitWs (ws : List W) : Prop where
  len : ws.length ≤ 60
  fit : ∀ w ∈ ws, Fit w
  nx : ∀ w ∈ ws, NxIn (nexts w)
  ok : ∀ w ∈ ws, ∀ k ∈ w, ∀ d ∈ k.1, d.Ok ws.length
  pos : ∀ w ∈ ws, 0 < w.length
theorem WsOk.fitWs {ws : List W} (h : WsOk ws) : FitWs ws :=
  ⟨by have := h.len; omega, fun w hw => (h.ok w hw).fit (by have := h.len; omega), fun w hw => (h.ok w hw).nxIn, fun w hw k hk d hd => (h.ok w hw).dd k hk d hd, fun w hw => (h.ok w hw).pos⟩
def nlP (l : List Nat) : PyData := .list (l.map natP)
theorem eqv_nats : ∀ (l m : List Nat), PyData.eqvAll (l.map natP) (m.map natP) = decide (l = m)
  | [], [] => rfl
  | [], _ :: _ => rfl
  | _ :: _, [] => rfl
  | a :: l, c :: m => by
    simp only [List.map_cons, PyData.eqvAll, eqv_nats l m, natP, PyData.eqv, List.cons.injEq, Bool.decide_and]
    congr 1
    exact decide_eq_decide.mpr Int.ofNat_inj
theorem eqv_nls : ∀ (l m : List (List Nat)), PyData.eqvAll (l.map nlP) (m.map nlP) = decide (l = m)
  | [], [] => rfl
  | [], _ :: _ => rfl
  | _ :: _, [] => rfl
  | a :: l, c :: m => by
    simp only [List.map_cons, PyData.eqvAll, eqv_nls l m, nlP, PyData.eqv, eqv_nats, List.cons.injEq, Bool.decide_and]
theorem py_nl {M : Mem} (l : List Nat) : Py M (nlD l) (nlP l) := py_nats isR_lst
theorem py_nls {M : Mem} {d : D} {l : List (List Nat)} (h : IsR M d (l.map nlD)) : Py M d (.list (l.map nlP)) := by
  have g : ∀ n ∈ l, Py M (nlD n) (nlP n) := fun n _ => py_nl n
  rcases h with (rfl | ⟨a, f, rfl, h⟩) | rfl
  · exact .lst (Pys.of_map g)
  · exact .ref h (Pys.of_map g)
  · exact .slst (Pys.of_map g)
theorem shw_nls {l : List (List Nat)} (h : ∀ m ∈ l, (∀ n ∈ m, n < 1000) ∧ m.length ≤ 100) (hl : l.length ≤ 200) : Shw 2 910000 (.list (l.map nlP)) := by
  refine Shw.list (dep := 1) (n := 4500) (fun x hx => ?_) (by rw [List.length_map]; omega)
  obtain ⟨m, hm, rfl⟩ := List.mem_map.mp hx
  exact shw_nats (h m hm).1 (h m hm).2
theorem askedD_inj {b : Nat} : ∀ {ts us : List Bool}, askedD b ts = askedD b us ↔ ts = us
  | [], [] => ⟨fun _ => rfl, fun _ => rfl⟩
  | [], _ :: _ => ⟨fun h => (by cases h), fun h => (by cases h)⟩
  | _ :: _, [] => ⟨fun h => (by cases h), fun h => (by cases h)⟩
  | t :: ts, u :: us => by
    have ih := askedD_inj (b := b) (ts := ts) (us := us)
    unfold askedD at ih ⊢
    simp only [List.map_cons, List.cons.injEq]
    rw [ih]
    cases t <;> cases u <;> simp
theorem told_step (ws : List W) (b : Nat) (ts : List Bool) : ws.map (fun w => nlD (if decide (0 ∈ awaitL w b (askedD b ts)) = true then [b] else [])) = (askedD b (askStep ws b ts)).map nlD := by
  show _ = ((ws.map fun w => decide (0 ∈ awaitL w b (askedD b ts))).map fun t => if t = true then [b] else []).map nlD
  rw [List.map_map, List.map_map]; rfl
theorem askedD_bd {b : Nat} {ts : List Bool} (hb : b < 1000) : ∀ m ∈ askedD b ts, (∀ n ∈ m, n < 1000) ∧ m.length ≤ 100 := by
  intro m hm
  unfold askedD at hm
  obtain ⟨t, _, rfl⟩ := List.mem_map.mp hm
  cases t
  · exact ⟨fun n hn => (by cases hn), Nat.zero_le _⟩
  · exact ⟨fun n hn => by
      have : n = b := by simpa using hn
      rw [this]; exact hb, by simp⟩

/-! the search of a law for what is asked -/
open Classical in
noncomputable def awtB (ws : List W) (b n k : Nat) : Bool := decide (Awt ws b n k)
theorem awtB_t {ws : List W} {b n k : Nat} (h : Awt ws b n k) : awtB ws b n k = true := by unfold awtB; exact @decide_eq_true _ (Classical.propDecidable _) h
theorem awtB_f {ws : List W} {b n k : Nat} (h : ¬ Awt ws b n k) : awtB ws b n k = false := by unfold awtB; exact @decide_eq_false _ (Classical.propDecidable _) h
theorem awtB_iff {ws : List W} {b n k : Nat} : awtB ws b n k = true ↔ Awt ws b n k := by unfold awtB; exact @decide_eq_true_iff _ (Classical.propDecidable _)
/-- a place: a work and a block of it -/
def At2 (ws : List W) (p : Nat × Nat) (bk : Bk) : Prop := ∃ w, ws[p.1]? = some w ∧ w[p.2]? = some bk
theorem At2.uniq {ws : List W} {p : Nat × Nat} {k1 k2 : Bk} (h1 : At2 ws p k1) (h2 : At2 ws p k2) : k1 = k2 := by
  obtain ⟨w, a, c⟩ := h1
  obtain ⟨w', a', c'⟩ := h2
  rw [a] at a'; cases a'
  rw [c] at c'; cases c'
  rfl
/-- what a place leads on to has been come to -/
structure Clsd (ws : List W) (b : Nat) (S : Nat × Nat → Prop) (p : Nat × Nat) : Prop where
  rd : ∀ bk, At2 ws p bk → ∀ (i : Nat) (d : Dd), bk.1[i]? = some d → NoWr b (bk.1.take i) → d.rd b = false
  call : ∀ bk, At2 ws p bk → ∀ (i m : Nat), bk.1[i]? = some (.call m) → NoWr b (bk.1.take i) → S (m, 0)
  next : ∀ bk, At2 ws p bk → NoWr b bk.1 → ∀ t ∈ bk.2.nx, S (p.1, t)
theorem Clsd.mono {ws : List W} {b : Nat} {S S' : Nat × Nat → Prop} {p : Nat × Nat} (h : Clsd ws b S p) (e : ∀ q, S q → S' q) : Clsd ws b S' p :=
  ⟨h.rd, fun bk a i m h1 h2 => e _ (h.call bk a i m h1 h2), fun bk a h1 t ht => e _ (h.next bk a h1 t ht)⟩
theorem not_awt {ws : List W} {b : Nat} {S : Nat × Nat → Prop} (h : ∀ p, S p → Clsd ws b S p) {n k : Nat} (q : Awt ws b n k) : ¬ S (n, k) := by
  induction q with
  | read hw hk h1 h2 h3 => exact fun s => by rw [(h _ s).rd _ ⟨_, hw, hk⟩ _ _ h1 h3] at h2; cases h2
  | call hw hk h1 h3 _ ih => exact fun s => ih ((h _ s).call _ ⟨_, hw, hk⟩ _ _ h1 h3)
  | step hw hk h1 h2 _ ih => exact fun s => ih ((h _ s).next _ ⟨_, hw, hk⟩ h1 _ h2)
structure Srch (ws : List W) (b : Nat) (p0 : Nat × Nat) (met wt : List (Nat × Nat)) (ex : Nat × Nat → Prop) : Prop where
  nd : met.Nodup
  val : ∀ p, p ∈ met ∨ p ∈ wt → ∃ bk, At2 ws p bk
  back : ∀ p, p ∈ met ∨ p ∈ wt → Awt ws b p.1 p.2 → Awt ws b p0.1 p0.2
  beg : p0 ∈ met ∨ p0 ∈ wt
  cl : ∀ p ∈ met, ¬ ex p → Clsd ws b (fun q => q ∈ met ∨ q ∈ wt) p
section
variable {ws : List W} {b : Nat} {p0 p : Nat × Nat} {met wt : List (Nat × Nat)} {ex : Nat × Nat → Prop}
theorem Srch.start {bk : Bk} (h : At2 ws p0 bk) : Srch ws b p0 [] [p0] fun _ => False :=
  ⟨.nil, fun p hp => by rcases hp with hp | hp; · cases hp
                        · rw [List.mem_singleton.mp hp]; exact ⟨bk, h⟩,
   fun p hp q => by rcases hp with hp | hp; · cases hp
                    · rw [List.mem_singleton.mp hp] at q; exact q, .inr (by simp), fun p hp => (by cases hp)⟩
theorem Srch.skip (h : Srch ws b p0 met (wt ++ [p]) fun _ => False) (hp : p ∈ met) : Srch ws b p0 met wt fun _ => False := by
  have e : ∀ q, q ∈ met ∨ q ∈ wt ++ [p] → q ∈ met ∨ q ∈ wt := fun q hq => by
    rcases hq with hq | hq
    · exact .inl hq
    · rcases List.mem_append.mp hq with hq | hq
      · exact .inr hq
      · rw [List.mem_singleton.mp hq]; exact .inl hp
  have f : ∀ q, q ∈ met ∨ q ∈ wt → q ∈ met ∨ q ∈ wt ++ [p] := fun q hq => hq.imp id fun x => by simp [x]
  exact ⟨h.nd, fun q hq => h.val q (f q hq), fun q hq => h.back q (f q hq), e _ h.beg, fun q hq hn => (h.cl q hq hn).mono e⟩
theorem Srch.meet (h : Srch ws b p0 met (wt ++ [p]) fun _ => False) (hp : p ∉ met) : Srch ws b p0 (met ++ [p]) wt fun q => q = p := by
  have e : ∀ q, q ∈ met ∨ q ∈ wt ++ [p] ↔ q ∈ met ++ [p] ∨ q ∈ wt := fun q => by simp only [List.mem_append, List.mem_singleton]; exact ⟨fun h => by rcases h with h | h | h <;> simp [h], fun h => by rcases h with (h | h) | h <;> simp [h]⟩
  refine ⟨?_, fun q hq => h.val q ((e q).mpr hq), fun q hq => h.back q ((e q).mpr hq), (e _).mp h.beg, fun q hq hn => ?_⟩
  · rw [List.nodup_append]
    exact ⟨h.nd, by simp, fun x hx y hy => by rw [List.mem_singleton.mp hy]; exact fun q => hp (q ▸ hx)⟩
  · rcases List.mem_append.mp hq with hq | hq
    · exact (h.cl q hq fun z => z).mono fun q hq => (e q).mp hq
    · exact absurd (List.mem_singleton.mp hq) hn
theorem Srch.push {q : Nat × Nat} (h : Srch ws b p0 met wt ex) (hv : ∃ bk, At2 ws q bk) (hb : Awt ws b q.1 q.2 → Awt ws b p0.1 p0.2) : Srch ws b p0 met (wt ++ [q]) ex := by
  have f : ∀ r, r ∈ met ∨ r ∈ wt → r ∈ met ∨ r ∈ wt ++ [q] := fun r hr => hr.imp id fun x => by simp [x]
  have g : ∀ r, r ∈ met ∨ r ∈ wt ++ [q] → (r ∈ met ∨ r ∈ wt) ∨ r = q := fun r hr => by
    rcases hr with hr | hr
    · exact .inl (.inl hr)
    · rcases List.mem_append.mp hr with hr | hr
      · exact .inl (.inr hr)
      · exact .inr (List.mem_singleton.mp hr)
  exact ⟨h.nd, fun r hr => by rcases g r hr with z | rfl; · exact h.val r z
                              · exact hv, fun r hr => by rcases g r hr with z | rfl; · exact h.back r z
                                                         · exact hb, f _ h.beg, fun r hr hn => (h.cl r hr hn).mono f⟩
theorem Srch.done (h : Srch ws b p0 met wt fun q => q = p) (hc : Clsd ws b (fun q => q ∈ met ∨ q ∈ wt) p) : Srch ws b p0 met wt fun _ => False :=
  ⟨h.nd, h.val, h.back, h.beg, fun q hq _ => by
    by_cases e : q = p
    · rw [e]; exact hc
    · exact h.cl q hq e⟩
theorem Srch.fin (h : Srch ws b p0 met [] fun _ => False) : ¬ Awt ws b p0.1 p0.2 := by
  have hb : p0 ∈ met := by rcases h.beg with q | q; · exact q
                           · cases q
  exact fun q => not_awt (S := fun q => q ∈ met) (fun p hp => (h.cl p hp fun z => z).mono fun q hq => by rcases hq with q | q; · exact q
                                                                                                         · cases q) q hb
theorem Srch.len (hf : FitWs ws) (h : Srch ws b p0 met wt ex) : met.length ≤ 960 := by
  have key : (met.map fun p => p.1 * 16 + p.2).length ≤ 960 := by
    have lt : ∀ p ∈ met, p.1 < 60 ∧ p.2 < 16 := fun p hp => by
      obtain ⟨bk, w, h1, h2⟩ := h.val p (.inl hp)
      have := (List.getElem?_eq_some_iff.mp h1).1
      have := (List.getElem?_eq_some_iff.mp h2).1
      have := (hf.fit w (List.mem_of_getElem? h1)).len
      have := hf.len
      omega
    refine nodup_len ?_ fun x hx => ?_
    · have nd := h.nd
      clear h
      induction met with
      | nil => exact .nil
      | cons a l ih =>
        rw [List.nodup_cons] at nd
        rw [List.map_cons, List.nodup_cons]
        refine ⟨fun hm => ?_, ih (fun p hp => lt p (List.mem_cons_of_mem _ hp)) nd.2⟩
        obtain ⟨c, hc, e⟩ := List.mem_map.mp hm
        have l1 := lt a List.mem_cons_self
        have l2 := lt c (List.mem_cons_of_mem _ hc)
        have : a = c := by
          have e' : c.1 * 16 + c.2 = a.1 * 16 + a.2 := e
          exact Prod.ext (by omega) (by omega)
        exact nd.1 (this ▸ hc)
    · obtain ⟨p, hp, rfl⟩ := List.mem_map.mp hx
      have := lt p hp
      show p.1 * 16 + p.2 < 960
      omega
  rwa [List.length_map] at key
end
abbrev key2 (p : Nat × Nat) : List L2.Key := [.inl (p.1 : Int), .inl (p.2 : Int)]
theorem valA_in2 {kvs : List (List L2.Key × D)} {met : List (Nat × Nat)} (h : kvs.map (·.1) = met.map key2) (p : Nat × Nat) : (valA kvs (key2 p)).isSome = decide (p ∈ met) := by
  rw [Bool.eq_iff_iff, decide_eq_true_iff, valA_mem_keys, h, List.mem_map]
  constructor
  · rintro ⟨q, hq, e⟩
    have : q = p := by
      simp only [key2, List.cons.injEq, Sum.inl.injEq, and_true] at e
      exact Prod.ext (by omega) (by omega)
    rw [← this]; exact hq
  · exact fun hp => ⟨p, hp, rfl⟩
abbrev plD (p : Nat × Nat) : D := .tup [natD p.1, natD p.2]
end Wk
namespace DL
open PySem PySem.Spec PyProof.Rows L2 Wk
section
variable {X : Cx} {Γ : VEnv} {M : Mem} {QB : Bool → Mem → Prop} {x : Str} {pos p : Pos} {es : List Expr}
theorem gTr {k : Bool} {R : Bool → Prop} (q : R k) : ∃ k', TrD M (.bl k) k' ∧ R k' := ⟨k, rfl, q⟩
theorem kTN (h : WT X Γ M (.Name x pos) QB) : WT X Γ M (.Name x pos) QB := h
theorem kTL (h : WT X Γ M (.Call (.Name x p) es [] pos) QB) : WT X Γ M (.Call (.Name x p) es [] pos) QB := h
end
theorem GetD.dt2 {M : Mem} {a : Addr} {f : Cell → Mem} {kvs : List (List Key × D)} {p : Nat × Nat} (h : At a M (.dT kvs) f) : GetD M (.ref a) (plD p) (valA kvs (key2 p)) := ⟨a, f, rfl, .inr ⟨kvs, key2 p, h, rfl, rfl⟩⟩
theorem dd_call : ∀ {d : Dd}, d.word = "call" → ∃ m, d = .call m
  | .call m, _ => ⟨m, rfl⟩
  | .set _ _, h => absurd h (show ¬ (("set" : Str) = "call") by decide +kernel)
  | .add _ _, h => absurd h (show ¬ (("add" : Str) = "call") by decide +kernel)
  | .tell _, h => absurd h (show ¬ (("tell" : Str) = "call") by decide +kernel)
  | .save _, h => absurd h (show ¬ (("save" : Str) = "call") by decide +kernel)
  | .back _, h => absurd h (show ¬ (("back" : Str) = "call") by decide +kernel)
end DL

/-! Core20: sum, any, all; what is written, come to behind, busy. -/
namespace DL
open PySem PySem.Spec PyProof.Rows L2
section
variable {X : Cx} {M : Mem} {Q : D → Mem → Prop} {Ln Vn Bn Fn : List Str} {d : D}
theorem cd_sum {ns : List Int} (st : Stat X Ln Vn Bn Fn) (h : IsR M d (ns.map D.int)) (q : Q (.int ns.sum) M) : CD X (.builtin "sum") [d] M Q := cd_of (cr_sum st.calm) fun S H xs rx m => by
  obtain ⟨v, rfl, rv⟩ := reps_one rx
  obtain ⟨a, us, rfl, h1, r1⟩ := h.get m rv
  rw [r1.ints_inv] at h1
  exact ⟨a, ns, rfl, h1, .of m (.int _) q⟩
theorem cd_any {bs : List Bool} (st : Stat X Ln Vn Bn Fn) (h : IsR M d (bs.map D.bl)) (q : Q (.bl (bs.any id)) M) : CD X (.builtin "any") [d] M Q := cd_of (cr_any st.calm) fun S H xs rx m => by
  obtain ⟨v, rfl, rv⟩ := reps_one rx
  obtain ⟨a, us, rfl, h1, r1⟩ := h.get m rv
  rw [r1.bls_inv] at h1
  exact ⟨a, bs, rfl, h1, .of m (.bl _) q⟩
theorem cd_all {bs : List Bool} (st : Stat X Ln Vn Bn Fn) (h : IsR M d (bs.map D.bl)) (q : Q (.bl (bs.all id)) M) : CD X (.builtin "all") [d] M Q := cd_of (cr_all st.calm) fun S H xs rx m => by
  obtain ⟨v, rfl, rv⟩ := reps_one rx
  obtain ⟨a, us, rfl, h1, r1⟩ := h.get m rv
  rw [r1.bls_inv] at h1
  exact ⟨a, bs, rfl, h1, .of m (.bl _) q⟩
end
end DL
namespace Wk
open DL PySem
section
variable {ws : List W} {w : W} {b n k : Nat}
theorem askT_at {m : Nat} : b ∈ (askedD b (askT ws b)).getD m [] ↔ m < ws.length ∧ Awt ws b m 0 := by
  rw [askedD_at]
  unfold askT
  rw [List.getD_eq_getElem?_getD, List.getElem?_map]
  by_cases h : m < ws.length
  · rw [List.getElem?_range h]
    simp only [Option.map_some, Option.getD_some]
    rw [@decide_eq_true_iff _ (Classical.propDecidable _)]
    exact ⟨fun q => ⟨h, q⟩, fun q => q.2⟩
  · rw [List.getElem?_eq_none (by rw [List.length_range]; omega)]
    exact ⟨fun q => (by cases q), fun q => absurd q.1 h⟩
theorem askT_len : (askT ws b).length = ws.length := by unfold askT; rw [List.length_map, List.length_range]
theorem await_is (hin : ∀ w ∈ ws, NxIn (nexts w)) (hw : ws[n]? = some w) : k ∈ awaitL w b (askedD b (askT ws b)) ↔ Awt ws b n k := by
  have s : ∀ m, b ∈ (askedD b (askT ws b)).getD m [] → Awt ws b m 0 := fun m h => (askT_at.mp h).2
  rw [mem_awaitL]
  exact ⟨await_sound hw s, fun q => await_full hin (fun m w' hw' c => askT_at.mpr ⟨(List.getElem?_eq_some_iff.mp hw').1, await_sound hw' s c⟩) q hw⟩
/-- the blocks from whose begin a read is come to -/
noncomputable def awtL (ws : List W) (n b m : Nat) : List Nat := (List.range m).filter fun k => awtB ws b n k
theorem awtL_up {m : Nat} : (awtL ws n b m).Pairwise (· < ·) := List.pairwise_lt_range.filter _
theorem awaitL_up {al : List (List Nat)} : (awaitL w b al).Pairwise (· < ·) := comeL_up
theorem awtL_is (hin : ∀ w ∈ ws, NxIn (nexts w)) (hw : ws[n]? = some w) : awaitL w b (askedD b (askT ws b)) = awtL ws n b w.length := by
  refine up_eq awaitL_up awtL_up fun k => ?_
  unfold awtL
  rw [await_is hin hw, List.mem_filter, List.mem_range, awtB_iff]
  refine ⟨fun q => ⟨?_, q⟩, fun q => q.2⟩
  have := (await_is hin hw (b := b)).mpr q
  unfold awaitL at this
  have := (mem_comeL.mp this).1
  rwa [freeL_len] at this
theorem mem_awtL {m : Nat} : k ∈ awtL ws n b m ↔ k < m ∧ Awt ws b n k := by
  unfold awtL
  rw [List.mem_filter, List.mem_range, awtB_iff]
/-- whether a block writes a box -/
def wrK (b : Nat) (bk : Bk) : Bool := bk.1.any (Dd.wrB b)
def bk0 : Bk := ([], .out)
def writesL (w : W) (b : Nat) : List Nat := (List.range w.length).filter fun k => wrK b (w.getD k bk0)
theorem writesL_lt {w : W} {b k : Nat} (h : k ∈ writesL w b) : k < w.length := List.mem_range.mp (List.mem_filter.mp h).1
theorem writesL_up (w : W) (b : Nat) : (writesL w b).Pairwise (· < ·) := List.pairwise_lt_range.filter _
theorem writesL_len (w : W) (b : Nat) : (writesL w b).length ≤ w.length := by
  have := List.length_filter_le (fun k => wrK b (w.getD k bk0)) (List.range w.length)
  rw [List.length_range] at this
  exact this
theorem wrK_mem {b : Nat} {bk : Bk} : decide (b ∈ (bk.1.filter Dd.wr).map Dd.wb) = wrK b bk := by
  unfold wrK
  rw [Bool.eq_iff_iff, decide_eq_true_iff, List.mem_map, List.any_eq_true]
  constructor
  · rintro ⟨d, hd, rfl⟩
    obtain ⟨h1, h2⟩ := List.mem_filter.mp hd
    exact ⟨d, h1, by unfold Dd.wrB; rw [h2]; simp⟩
  · rintro ⟨d, hd, h⟩
    unfold Dd.wrB at h
    rw [Bool.and_eq_true, decide_eq_true_iff] at h
    exact ⟨d, List.mem_filter.mpr ⟨hd, h.1⟩, h.2⟩
theorem at_bk {w : W} {k : Nat} (h : k < w.length) : w[k]? = some (w.getD k bk0) := by rw [List.getD_eq_getElem?_getD, List.getElem?_eq_getElem h]; rfl
theorem at_nx {w : W} {k : Nat} (h : k < w.length) : (nexts w)[k]? = some ((nexts w).getD k []) := by
  have h' : k < (nexts w).length := by rw [nexts_len]; exact h
  rw [List.getD_eq_getElem?_getD, List.getElem?_eq_getElem h']; rfl
theorem nx_two {w : W} {k : Nat} : ((nexts w).getD k []).length ≤ 2 := by
  rw [List.getD_eq_getElem?_getD]
  cases e : (nexts w)[k]? with
  | none => exact Nat.zero_le _
  | some l => exact nexts_two w l (List.mem_of_getElem? e)
/-- where the blocks that write a box lead -/
def begs (w : W) (l : List Nat) : List Nat := l.flatMap fun k => (nexts w).getD k []
theorem begs_len (w : W) (l : List Nat) : (begs w l).length ≤ 2 * l.length := by
  unfold begs
  induction l with
  | nil => simp
  | cons k l ih =>
    have := nx_two (w := w) (k := k)
    rw [List.flatMap_cons, List.length_append, List.length_cons]
    omega
theorem begs_lt {w : W} (hn : NxIn (nexts w)) {l : List Nat} : ∀ t ∈ begs w l, t < (nexts w).length := fun t ht => by
  obtain ⟨k, _, h⟩ := List.mem_flatMap.mp ht
  rw [List.getD_eq_getElem?_getD] at h
  cases e : (nexts w)[k]? with
  | none => rw [e] at h; cases h
  | some l => rw [e] at h; exact hn.lt l (List.mem_of_getElem? e) t h
noncomputable def reachL (w : W) (b : Nat) : List Nat := comeL (nexts w) (begs w (writesL w b))
theorem comeL_congr {nx : List (List Nat)} {bs cs : List Nat} (h : ∀ b, b ∈ bs ↔ b ∈ cs) : comeL nx bs = comeL nx cs := by
  have imp : ∀ {bs cs : List Nat}, (∀ b ∈ bs, b ∈ cs) → ∀ k, Come nx bs k → Come nx cs k := fun h k c => c.ind (fun b hb => .base (h b hb)) fun a l b ha e m => .step ha e m
  refine up_eq comeL_up comeL_up fun k => ?_
  rw [mem_comeL, mem_comeL]
  exact ⟨fun q => ⟨q.1, imp (fun b hb => (h b).mp hb) k q.2⟩, fun q => ⟨q.1, imp (fun b hb => (h b).mpr hb) k q.2⟩⟩
/-- the rising list of some numbers below m -/
def sortU (m : Nat) (l : List Nat) : List Nat := (List.range m).filter fun k => decide (k ∈ l)
theorem sortU_up (m : Nat) (l : List Nat) : (sortU m l).Pairwise (· < ·) := List.pairwise_lt_range.filter _
theorem mem_sortU {m k : Nat} {l : List Nat} : k ∈ sortU m l ↔ k < m ∧ k ∈ l := by
  unfold sortU
  rw [List.mem_filter, List.mem_range, decide_eq_true_iff]
theorem sortU_len (m : Nat) (l : List Nat) : (sortU m l).length ≤ m := by
  have := List.length_filter_le (fun k => decide (k ∈ l)) (List.range m)
  rw [List.length_range] at this
  exact this
theorem sortU_nd (m : Nat) (l : List Nat) : (sortU m l).Nodup := List.nodup_range.filter _
theorem sortU_perm {m : Nat} {l ks : List Nat} (nd : ks.Nodup) (h : ∀ k, k ∈ ks ↔ k ∈ l) (hl : ∀ k ∈ l, k < m) : (sortU m l).Perm ks := by
  rw [List.perm_ext_iff_of_nodup (sortU_nd m l) nd]
  intro k
  rw [mem_sortU, h k]
  exact ⟨fun q => q.2, fun q => ⟨hl k q, q⟩⟩
/-! the going behind of a law -/
def closedIn (nx : List (List Nat)) (fd : List Nat) : Prop := ∀ a ∈ fd, ∀ l, nx[a]? = some l → ∀ t ∈ l, t ∈ fd
/-- a block's ways on that are not found yet -/
def addN (nx : List (List Nat)) (fd : List Nat) (k : Nat) : List Nat := (nx.getD k []).filter fun t => !decide (t ∈ fd)
def cnt (m : Nat) (fd : List Nat) : Nat := (sortU m fd).length
structure Bh (nx : List (List Nat)) (bs : List Nat) (fd : List Nat) : Prop where
  come : ∀ k ∈ fd, Come nx bs k
  beg : ∀ k ∈ bs, k ∈ fd
  len : fd.length ≤ bs.length + cnt nx.length fd
theorem cnt_le (m : Nat) (fd : List Nat) : cnt m fd ≤ m := sortU_len m fd
theorem cnt_app {m : Nat} {fd l : List Nat} (nd : l.Nodup) (hl : ∀ t ∈ l, t < m ∧ t ∉ fd) : cnt m fd + l.length ≤ cnt m (fd ++ l) := by
  unfold cnt
  rw [← List.length_append]
  refine nodup_leN ?_ fun y hy => ?_
  · rw [List.nodup_append]
    exact ⟨sortU_nd m fd, nd, fun a ha c hc e => (hl c hc).2 (e ▸ (mem_sortU.mp ha).2)⟩
  · rw [mem_sortU]
    rcases List.mem_append.mp hy with hy | hy
    · exact ⟨(mem_sortU.mp hy).1, List.mem_append_left _ (mem_sortU.mp hy).2⟩
    · exact ⟨(hl y hy).1, List.mem_append_right _ hy⟩
theorem addN_mem {nx : List (List Nat)} {fd : List Nat} {k t : Nat} (h : t ∈ addN nx fd k) : ∃ l, nx[k]? = some l ∧ t ∈ l ∧ t ∉ fd := by
  obtain ⟨h1, h2⟩ := List.mem_filter.mp h
  rw [List.getD_eq_getElem?_getD] at h1
  cases e : nx[k]? with
  | none => rw [e] at h1; cases h1
  | some l => rw [e] at h1; exact ⟨l, rfl, h1, by simpa using h2⟩
theorem Bh.add {nx : List (List Nat)} {bs fd : List Nat} {k : Nat} (hn : NxIn nx) (hu : ∀ l ∈ nx, l.Nodup) (h : Bh nx bs fd) (hk : k ∈ fd) : Bh nx bs (fd ++ addN nx fd k) := by
  have nd : (addN nx fd k).Nodup := by
    unfold addN
    refine List.Pairwise.filter _ ?_
    rw [List.getD_eq_getElem?_getD]
    cases e : nx[k]? with
    | none => exact .nil
    | some l => exact hu l (List.mem_of_getElem? e)
  refine ⟨fun t ht => ?_, fun t ht => List.mem_append_left _ (h.beg t ht), ?_⟩
  · rcases List.mem_append.mp ht with ht | ht
    · exact h.come t ht
    · obtain ⟨l, e, m, _⟩ := addN_mem ht
      exact .step (h.come k hk) e m
  · have := cnt_app (m := nx.length) (fd := fd) nd fun t ht => by
      obtain ⟨l, e, m, hn'⟩ := addN_mem ht
      exact ⟨hn.lt l (List.mem_of_getElem? e) t m, hn'⟩
    have := h.len
    rw [List.length_append]
    omega
/-- within one turn: the first j of the blocks that were there are gone from -/
structure Bt (nx : List (List Nat)) (f0 : List Nat) (j : Nat) (fd : List Nat) : Prop where
  sub : ∀ k ∈ f0, k ∈ fd
  cl : ∀ k ∈ f0.take j, ∀ l, nx[k]? = some l → ∀ t ∈ l, t ∈ fd
  same : closedIn nx f0 → fd = f0
theorem Bt.add {nx : List (List Nat)} {f0 fd : List Nat} {j k : Nat} (h : Bt nx f0 j fd) (hk : f0[j]? = some k) : Bt nx f0 (j + 1) (fd ++ addN nx fd k) := by
  refine ⟨fun t ht => List.mem_append_left _ (h.sub t ht), fun a ha l e t ht => ?_, fun hc => ?_⟩
  · rw [List.take_add_one, hk] at ha
    rcases List.mem_append.mp ha with ha | ha
    · exact List.mem_append_left _ (h.cl a ha l e t ht)
    · have : a = k := by simpa [eq_comm] using ha
      subst this
      by_cases q : t ∈ fd
      · exact List.mem_append_left _ q
      · refine List.mem_append_right _ (List.mem_filter.mpr ⟨?_, by simpa using q⟩)
        rw [List.getD_eq_getElem?_getD, e]; exact ht
  · have hs := h.same hc
    have : addN nx fd k = [] := by
      refine List.eq_nil_iff_forall_not_mem.mpr fun t ht => ?_
      obtain ⟨l, e, m, hn⟩ := addN_mem ht
      exact hn (by rw [hs]; exact hc k (List.mem_of_getElem? hk) l e t m)
    rw [this, List.append_nil, hs]
theorem Bt.step {nx : List (List Nat)} {f0 fd : List Nat} {i : Nat} (hn : NxIn nx) (h : Bt nx f0 f0.length fd) (hi : closedIn nx f0 ∨ i ≤ cnt nx.length f0) : closedIn nx fd ∨ i + 1 ≤ cnt nx.length fd := by
  by_cases hc : closedIn nx f0
  · rw [h.same hc]; exact .inl hc
  · right
    have hi : i ≤ cnt nx.length f0 := hi.resolve_left hc
    have : ∃ a ∈ f0, ∃ l, nx[a]? = some l ∧ ∃ t ∈ l, t ∉ f0 := by
      refine Classical.byContradiction fun q => hc fun a ha l e t ht => Classical.byContradiction fun z => q ⟨a, ha, l, e, t, ht, z⟩
    obtain ⟨a, ha, l, e, t, ht, hnt⟩ := this
    have hcl := h.cl a (by rw [List.take_length]; exact ha) l e t ht
    have : cnt nx.length f0 < cnt nx.length fd := filter_lt (m := nx.length) (fun k hk => h.sub k hk) (hn.lt l (List.mem_of_getElem? e) t ht) hnt hcl
    omega
theorem Bh.fin {nx : List (List Nat)} {bs fd : List Nat} (hn : NxIn nx) (hb : ∀ k ∈ bs, k < nx.length) (h : Bh nx bs fd) (hi : closedIn nx fd ∨ nx.length ≤ cnt nx.length fd) : ∀ k, k ∈ comeL nx bs ↔ k ∈ fd := by
  have cl : closedIn nx fd := by
    rcases hi with q | q
    · exact q
    · intro a ha l e t ht
      have hlt := hn.lt l (List.mem_of_getElem? e) t ht
      refine Classical.byContradiction fun z => ?_
      have h1 : ((List.range nx.length).filter fun k => decide (k ∈ fd)).length < ((List.range nx.length).filter fun k => decide (k ∈ List.range nx.length)).length :=
        filter_lt' (fun k hk => hk) hlt z
      have h2 := List.length_filter_le (fun k => decide (k ∈ List.range nx.length)) (List.range nx.length)
      rw [List.length_range] at h2
      unfold cnt sortU at q
      omega
  intro k
  rw [mem_comeL]
  exact ⟨fun q => q.2.ind h.beg fun a l t ha e m => cl a ha l e t m, fun q => ⟨(h.come k q).lt hn hb, h.come k q⟩⟩
where
  filter_lt' {m : Nat} {s : List Nat} {x : Nat} (_ : ∀ k ∈ s, k ∈ s) (hx : x < m) (h1 : x ∉ s) : ((List.range m).filter fun b => decide (b ∈ s)).length < ((List.range m).filter fun b => decide (b ∈ List.range m)).length := by
    have nd : (x :: ((List.range m).filter fun b => decide (b ∈ s))).Nodup := by
      rw [List.nodup_cons]
      exact ⟨fun q => h1 (of_decide_eq_true (List.mem_filter.mp q).2), List.nodup_range.filter _⟩
    have := nodup_leN (m := (List.range m).filter fun b => decide (b ∈ List.range m)) nd fun b hb => by
      rcases List.mem_cons.mp hb with rfl | hb
      · exact List.mem_filter.mpr ⟨List.mem_range.mpr hx, decide_eq_true (List.mem_range.mpr hx)⟩
      · obtain ⟨q1, q2⟩ := List.mem_filter.mp hb
        exact List.mem_filter.mpr ⟨q1, decide_eq_true q1⟩
    rw [List.length_cons] at this
    exact this
theorem Ok.nodup {nw : Nat} {w : W} (h : Ok nw w) : ∀ l ∈ nexts w, l.Nodup := fun l hl => by
  obtain ⟨bk, hb, rfl⟩ := List.mem_map.mp hl
  have := h.nd bk hb
  cases e : bk.2 with
  | out => exact .nil
  | go t => simp [Nd.nx]
  | fork t o =>
    rw [e] at this
    simp only [Nd.nx, List.nodup_cons, List.mem_singleton, List.not_mem_nil, not_false_eq_true, List.nodup_nil, and_self, and_true]
    exact this.2.2.2.2
/-- the blocks in which a box is busy -/
noncomputable def busyL (ws : List W) (n b : Nat) (w : W) : List Nat := sortU w.length (writesL w b ++ (reachL w b).filter fun k => awtB ws b n k)
end
end Wk

/-! Core21: repr of data that holds dicts. -/
namespace DL
open PySem PySem.Spec PyProof.Rows L2
def keyP : Key → PyData
  | .inl i => .int i
  | .inr x => .str x
mutual
inductive Dr (H : Hp) : V → PyData → Prop
  | non : Dr H .non .none
  | bl (b : Bool) : Dr H (.bl b) (.bool b)
  | int (i : Int) : Dr H (.int i) (.int i)
  | str (x : Str) : Dr H (.str x) (.str x)
  | lst {a : Addr} {xs : List V} {ds : List PyData} : H a = some (.lst xs) → DrAll H xs ds → Dr H (.ref a) (.list ds)
  | tup {a : Addr} {xs : List V} {ds : List PyData} : H a = some (.tup xs) → DrAll H xs ds → Dr H (.ref a) (.tuple ds)
  | dK {a : Addr} {kvs : List (Key × V)} {qs : List (Key × PyData)} : H a = some (.dK kvs) → kvs.map (·.1) = qs.map (·.1) → DrAll H (kvs.map (·.2)) (qs.map (·.2)) → Dr H (.ref a) (.dict (qs.map fun q => (keyP q.1, q.2)))
inductive DrAll (H : Hp) : List V → List PyData → Prop
  | nil : DrAll H [] []
  | cons {v : V} {vs : List V} {d : PyData} {ds : List PyData} : Dr H v d → DrAll H vs ds → DrAll H (v :: vs) (d :: ds)
end
section
variable {X : Cx} {pins : List (Addr × Obj)} {σ : L2.St} {H : Hp} {s : Shared}
theorem sys_free (hs : ∃ mm, X.base.Ns sysModules mm) (I : Inv X pins σ H s) : H sysModules = none := by
  obtain ⟨mm, o, es, ep, e, _⟩ := hs
  exact (I.bs sysModules o e).2
theorem ne_sys (hs : ∃ mm, X.base.Ns sysModules mm) (I : Inv X pins σ H s) {a : Addr} {o : HO} (h : H a = some o) : sysModules ≠ a := fun e => by
  have := sys_free hs I
  rw [e, h] at this; cases this
theorem keys_read {w : World} {P : Program} {h : Heap} : ∀ {es : List DictEntry} {vs : List (Key × Value)}, Pairs (mixKind P w) es vs → ReadsAll h (es.map (·.key)) (vs.map fun q => keyP q.1) []
  | _, _, .nil => .nil
  | _, _, .cons (e := e) (kv := kv) h1 _ t => by
    have r : Reads h e.key (keyP kv.1) [] := by
      rcases keyIs_shape h1 with ⟨i, t, e1, e2⟩ | ⟨x, t, e1, e2⟩
      · rw [e1, e2]; exact .int i t
      · rw [e1, e2]; exact .str x t
    have := ReadsAll.cons r (keys_read t)
    exact this
theorem vals_eq {w : World} {P : Program} : ∀ {es : List DictEntry} {vs : List (Key × Value)}, Pairs (mixKind P w) es vs → es.map (·.val) = vs.map (·.2)
  | _, _, .nil => rfl
  | _, _, .cons _ h t => by rw [List.map_cons, List.map_cons, h, vals_eq t]
theorem kv_split : ∀ {kvs : List (Key × V)} {vs : List (Key × Value)}, KV kvs vs → kvs.map (·.1) = vs.map (·.1) ∧ Vals (kvs.map (·.2)) (vs.map (·.2))
  | _, _, .nil => ⟨rfl, .nil⟩
  | _, _, .cons h t => ⟨by rw [List.map_cons, List.map_cons, h.1, (kv_split t).1], .cons h.2 (kv_split t).2⟩
mutual
theorem Dr.reads (hs : ∃ mm, X.base.Ns sysModules mm) (I : Inv X pins σ H s) : ∀ {v : V} {pd : PyData}, Dr H v pd → ∀ {u : Value}, RelV v u → ∃ as, Reads s.heap u pd as ∧ sysModules ∉ as
  | _, _, .non, _, r => by cases r; exact ⟨_, Reads.none, by simp⟩
  | _, _, .bl b, _, r => by cases r; exact ⟨_, Reads.bool b, by simp⟩
  | _, _, .int i, _, r => by obtain ⟨t, rfl⟩ := r; exact ⟨_, Reads.int i t, by simp⟩
  | _, _, .str x, _, r => by obtain ⟨t, rfl⟩ := r; exact ⟨_, Reads.str x t, by simp⟩
  | _, _, .lst (a := a) hx hd, _, r => by
    cases r
    obtain ⟨_, its, n, rv, ho⟩ := I.hok a _ hx
    obtain ⟨as, h1, h2⟩ := DrAll.reads hs I hd rv
    exact ⟨_, Reads.list ho rfl rfl (by simpa using h1), by simp [ne_sys hs I hx, h2]⟩
  | _, _, .tup (a := a) hx hd, _, r => by
    cases r
    obtain ⟨_, its, rv, ho⟩ := I.hok a _ hx
    obtain ⟨o, h3, h4, n, h5⟩ := ho
    obtain ⟨as, h1, h2⟩ := DrAll.reads hs I hd rv
    exact ⟨_, Reads.tuple h3 h4 h5 (by simpa using h1), h2⟩
  | _, _, .dK (a := a) (qs := qs) hx hk hd, _, r => by
    cases r
    obtain ⟨_, _, vs, rel, o, es, ep, h3, h4, h5, _, hp, _⟩ := I.hok a _ hx
    obtain ⟨k1, k2⟩ := kv_split rel
    obtain ⟨as, h1, h2⟩ := DrAll.reads hs I hd k2
    rw [← vals_eq hp] at h1
    have hkeys := keys_read (h := s.heap) hp
    rw [show vs.map (fun q => keyP q.1) = (qs.map fun q => (keyP q.1, q.2)).map (·.1) from by
      rw [List.map_map, show vs.map (fun q => keyP q.1) = (vs.map (·.1)).map keyP from by rw [List.map_map]; rfl, ← k1, hk, List.map_map]; rfl] at hkeys
    rw [show qs.map (·.2) = (qs.map fun q => (keyP q.1, q.2)).map (·.2) from by rw [List.map_map]; rfl] at h1
    exact ⟨_, Reads.dict h3 h4.1 h5 hkeys h1, by simp [ne_sys hs I hx, h2]⟩
theorem DrAll.reads (hs : ∃ mm, X.base.Ns sysModules mm) (I : Inv X pins σ H s) : ∀ {vs : List V} {ds : List PyData}, DrAll H vs ds → ∀ {us : List Value}, Vals vs us → ∃ as, ReadsAll s.heap us ds as ∧ sysModules ∉ as
  | _, _, .nil, _, r => by cases r; exact ⟨_, ReadsAll.nil, by simp⟩
  | _, _, .cons h t, _, r => by
    cases r with
    | cons r1 r2 =>
      obtain ⟨as, q1, n1⟩ := Dr.reads hs I h r1
      obtain ⟨bs, q2, n2⟩ := DrAll.reads hs I t r2
      exact ⟨_, ReadsAll.cons q1 q2, by simp [n1, n2]⟩
end
theorem call_reprX (hs : ∃ mm, X.base.Ns sysModules mm) (gd : X.A.guards = some []) (hu : X.A.units + 80 < cLine) : CallR X (.builtin "repr") (fun xs H R => ∃ v pd, xs = [v] ∧ (∃ a, v = .ref a) ∧ Dr H v pd ∧ pd.showable = true ∧ pd.depth ≤ 64 ∧ pd.shown.length ≤ sizeLine ∧ R (.str pd.shown) H) := by
  intro pins s σ H xs us R I rx h
  obtain ⟨v, pd, rfl, ⟨a, rfl⟩, hd, h1, h3, h4, q⟩ := h
  cases rx with
  | cons ru rt =>
    cases rt
    cases (show _ = Value.ref a from ru)
    obtain ⟨as, rd, hn⟩ := hd.reads hs I (u := .ref a) rfl
    exact repr_of_reads' rd h1 (fun _ => hn) gd (by omega) (fun _ _ e => e) (fun h' u tk k => ⟨.str pd.shown, H, I.kept (t' := tk) k, ⟨u, rfl⟩, q⟩) h4
end
/-! the same by depth -/
mutual
inductive PyX (M : Mem) : D → PyData → Prop
  | non : PyX M .non .none
  | bl (b : Bool) : PyX M (.bl b) (.bool b)
  | int (i : Int) : PyX M (.int i) (.int i)
  | str (x : Str) : PyX M (.str x) (.str x)
  | lst {ds : List D} {ps : List PyData} : PyXs M ds ps → PyX M (.lst ds) (.list ps)
  | tup {ds : List D} {ps : List PyData} : PyXs M ds ps → PyX M (.tup ds) (.tuple ps)
  | ref {a : Addr} {ds : List D} {ps : List PyData} {f : Cell → Mem} : At a M (.lst ds) f → PyXs M ds ps → PyX M (.ref a) (.list ps)
  | dct {a : Addr} {kvs : List (Key × D)} {qs : List (Key × PyData)} {f : Cell → Mem} : At a M (.dK kvs) f → kvs.map (·.1) = qs.map (·.1) → PyXs M (kvs.map (·.2)) (qs.map (·.2)) → PyX M (.ref a) (.dict (qs.map fun q => (keyP q.1, q.2)))
inductive PyXs (M : Mem) : List D → List PyData → Prop
  | nil : PyXs M [] []
  | cons {d : D} {ds : List D} {p : PyData} {ps : List PyData} : PyX M d p → PyXs M ds ps → PyXs M (d :: ds) (p :: ps)
end
mutual
theorem PyX.dr {K : PySem.W.Frag} {S H : Hp} {M : Mem} (m : MO K S M H) : ∀ {d : D} {p : PyData}, PyX M d p → ∀ {v : V}, Rep K S v d → Dr H v p
  | _, _, .non, _, r => by cases r; exact .non
  | _, _, .bl b, _, r => by cases r; exact .bl b
  | _, _, .int i, _, r => by cases r; exact .int i
  | _, _, .str x, _, r => by cases r; exact .str x
  | _, _, .lst h, _, r => by
    obtain ⟨a, xs, rfl, e, rs⟩ := r.lst_inv
    exact .lst (m.sub _ _ e) (PyXs.dr m h rs)
  | _, _, .tup h, _, r => by
    obtain ⟨a, xs, rfl, e, rs⟩ := r.tup_inv
    exact .tup (m.sub _ _ e) (PyXs.dr m h rs)
  | _, _, .ref ha h, _, r => by
    obtain ⟨xs, hx, rs⟩ := m.at_ok ha
    rw [r.ref_inv]
    exact .lst hx (PyXs.dr m h rs)
  | _, _, .dct ha hk h, _, r => by
    obtain ⟨kvs, hx, e, rs⟩ := m.at_ok ha
    rw [r.ref_inv]
    exact .dK hx (e.trans hk) (PyXs.dr m h rs)
theorem PyXs.dr {K : PySem.W.Frag} {S H : Hp} {M : Mem} (m : MO K S M H) : ∀ {ds : List D} {ps : List PyData}, PyXs M ds ps → ∀ {vs : List V}, Reps K S vs ds → DrAll H vs ps
  | _, _, .nil, _, r => by cases r; exact .nil
  | _, _, .cons h t, _, r => by
    cases r with
    | cons r1 r2 => exact .cons (PyX.dr m h r1) (PyXs.dr m t r2)
end
theorem PyXs.of_map {M : Mem} {α : Type} {f : α → D} {g : α → PyData} {l : List α} (h : ∀ a ∈ l, PyX M (f a) (g a)) : PyXs M (l.map f) (l.map g) := by
  induction l with
  | nil => exact .nil
  | cons a l ih => exact .cons (h a List.mem_cons_self) (ih fun b hb => h b (List.mem_cons_of_mem _ hb))
/-- the room of such a text -/
structure ShX (dep n : Nat) (d : PyData) : Prop where
  sh : d.showable = true
  dp : d.depth ≤ dep
  wt : d.weight ≤ n
  lv : d.leavesShort 14 = true
theorem Shw.x {dep n : Nat} {d : PyData} (h : Shw dep n d) : ShX dep n d := ⟨h.sh, h.dp, h.wt, PyData.leavesShort_of_canLay0 14 d h.cl h.sf⟩
theorem ShX.mono {a b n k : Nat} {d : PyData} (h : ShX a n d) (h1 : a ≤ b) (h2 : n ≤ k) : ShX b k d := ⟨h.sh, Nat.le_trans h.dp h1, Nat.le_trans h.wt h2, h.lv⟩
theorem shx_all {dep n : Nat} : ∀ {xs : List PyData}, (∀ x ∈ xs, ShX dep n x) → PyData.showableAll xs = true ∧ PyData.depthAll xs ≤ dep ∧ PyData.weightAll xs ≤ xs.length * (n + 1) ∧ PyData.leavesShortAll 14 xs = true
  | [], _ => ⟨rfl, Nat.zero_le _, Nat.zero_le _, rfl⟩
  | x :: xs, h => by
    obtain ⟨h1, h3, h4, h5⟩ := shx_all fun y hy => h y (List.mem_cons_of_mem _ hy)
    have g := h x List.mem_cons_self
    refine ⟨by simp only [PyData.showableAll, g.sh, h1, Bool.and_self], ?_, ?_, by simp only [PyData.leavesShortAll, g.lv, h5, Bool.and_self]⟩
    · simp only [PyData.depthAll]
      have := g.dp
      omega
    · simp only [PyData.weightAll, List.length_cons]
      have := g.wt
      rw [Nat.add_mul]
      omega
theorem ShX.list {dep n k : Nat} {xs : List PyData} (h : ∀ x ∈ xs, ShX dep n x) (hk : xs.length * (n + 1) ≤ k) : ShX (dep + 1) k (.list xs) := by
  obtain ⟨h1, h3, h4, h5⟩ := shx_all h
  exact ⟨by simp only [PyData.showable]; exact h1, by simp only [PyData.depth]; omega, by simp only [PyData.weight]; omega, by simp only [PyData.leavesShort]; exact h5⟩
theorem shx_kv {dep n : Nat} : ∀ {xs : List (PyData × PyData)}, (∀ x ∈ xs, ShX dep n x.1 ∧ ShX dep n x.2) → PyData.showableKv xs = true ∧ PyData.depthKv xs ≤ dep ∧ PyData.weightKv xs ≤ xs.length * (2 * n + 2) ∧ PyData.leavesShortKv 14 xs = true
  | [], _ => ⟨rfl, Nat.zero_le _, Nat.zero_le _, rfl⟩
  | (a, b) :: xs, h => by
    obtain ⟨h1, h3, h4, h5⟩ := shx_kv fun y hy => h y (List.mem_cons_of_mem _ hy)
    obtain ⟨g1, g2⟩ := h (a, b) List.mem_cons_self
    refine ⟨by simp only [PyData.showableKv, g1.sh, g2.sh, h1, Bool.and_self], ?_, ?_, by simp only [PyData.leavesShortKv, g1.lv, g2.lv, h5, Bool.and_self]⟩
    · simp only [PyData.depthKv]
      have q1 : a.depth ≤ dep := g1.dp
      have q2 : b.depth ≤ dep := g2.dp
      omega
    · simp only [PyData.weightKv, List.length_cons]
      have q1 : a.weight ≤ n := g1.wt
      have q2 : b.weight ≤ n := g2.wt
      have e : (xs.length + 1) * (2 * n + 2) = xs.length * (2 * n + 2) + (2 * n + 2) := by rw [Nat.add_mul, Nat.one_mul]
      rw [e]
      omega
theorem ShX.dict {dep n k : Nat} {xs : List (PyData × PyData)} (h : ∀ x ∈ xs, ShX dep n x.1 ∧ ShX dep n x.2) (hk : xs.length * (2 * n + 2) ≤ k) : ShX (dep + 1) k (.dict xs) := by
  obtain ⟨h1, h3, h4, h5⟩ := shx_kv h
  exact ⟨by simp only [PyData.showable]; exact h1, by simp only [PyData.depth]; omega, by simp only [PyData.weight]; omega, by simp only [PyData.leavesShort]; exact h5⟩
theorem ShX.fits {dep n : Nat} {d : PyData} (h : ShX dep n d) (hn : n ≤ 1000000) : d.shown.length ≤ sizeLine := by
  have h1 := PyData.shown_le 14 (by decide) d h.lv
  have := h.wt
  exact szl (by omega)
end DL

/-! Core22: owned lists within an owned list; what each work asks. -/
namespace Wk
open DL PySem
open PySem (Addr)
def cellN (c : Addr × List Nat) : Addr × Cell := (c.1, .lst (c.2.map natD))
def cellsN (cs : List (Addr × List Nat)) : Mem := cs.map cellN
def refN (c : Addr × List Nat) : D := .ref c.1
/-- the boxes below β that a work asks -/
noncomputable def askU (ws : List W) (n β : Nat) : List Nat := (List.range β).filter fun b => awtB ws b n 0
noncomputable def askL (ws : List W) (n : Nat) : List Nat := askU ws n 8
/-- contents while a box is handed on: the first j have it already -/
noncomputable def askC (ws : List W) (β j : Nat) : List (List Nat) := (List.range ws.length).map fun n => askU ws n (if n < j then β + 1 else β)
/-! a chain of works, the last of which tells a box -/
def chainW (many b : Nat) : List W := ((List.range many).map fun k => [([Dd.call (k + 1)], Nd.out)]) ++ [[([Dd.tell b], Nd.out)]]
end Wk

/-! Core23: lists of alike tuples sorted, the result as one list. -/
namespace DL
open PySem PySem.Spec PyProof.Rows L2
inductive All2 {α β : Type} (R : α → β → Prop) : List α → List β → Prop
  | nil : All2 R [] []
  | cons {a : α} {b : β} {as : List α} {bs : List β} : R a b → All2 R as bs → All2 R (a :: as) (b :: bs)
section
variable {X : Cx} {β : Type} {enc : β → PyData}
variable {M : Mem} {Q : D → Mem → Prop} {Ln Vn Bn Fn : List Str} {d : D} {bs : List β} {e : β → D}
end
end DL
namespace Wk
open DL PySem PyProof.Rows
/-- what is put on a way: the way, whether it's a save, the box -/
structure Put where
  way : Int × Int
  sv : Bool
  box : Nat
deriving DecidableEq
def Put.word (p : Put) : Str := if p.sv then "save" else "back"
def Put.d (p : Put) : D := .tup [pairD p.way, .str p.word, natD p.box]
def Put.pd (p : Put) : PyData := .tuple [pairP p.way, .str p.word, .int p.box]
theorem Put.alike (p q : Put) : PySem.W.alike p.pd q.pd = true := by
  simp [Put.pd, pairP, PySem.W.alike, PySem.W.alikeAll]
theorem Put.dep (p : Put) : p.pd.depth ≤ 60 := by
  simp [Put.pd, pairP, PyData.depth, PyData.depthAll]
theorem Put.py {M : Mem} (p : Put) : PyX M p.d p.pd := .tup (.cons (.tup (.cons (.int _) (.cons (.int _) .nil))) (.cons (.str _) (.cons (.int _) .nil)))
def pLe : Put → Put → Bool := PySem.W.dataLe false Put.pd
def sortP (l : List Put) : List Put := l.mergeSort pLe
end Wk

/-! Core24: a dict walked over by its keys. -/
namespace DL
open PySem PySem.Spec PyProof.Rows L2
section
variable {X : Cx} {Γ : VEnv} {M : Mem} {E : DE} {Q : D → Mem → Prop} {QI : List D → (Mem → Prop) → Mem → Prop} {Ln Vn Bn Fn : List Str}
/-- the dict at a is locked in M; f puts another cell there -/
def Lk (a : Addr) (o : Obj) (us : List (Key × V)) (kvs : List (Key × D)) (P : Mem → Prop) (M : Mem) : Prop := ∃ f, At a M (.fzK o us kvs) f ∧ P (f (.dK kvs))
theorem unlock {S H : Hp} {a : Addr} {o : Obj} {us : List (Key × V)} {kvs : List (Key × D)} {f : Cell → Mem} (m : MO X.K S M H) (h : At a M (.fzK o us kvs) f) : H a = some (.frz o (.dK us)) ∧ MO X.K S (f (.dK kvs)) (upd H a (.dK us)) := by
  obtain ⟨hx, pk⟩ := m.at_ok h
  exact ⟨hx, m.write h (c' := .dK kvs) ⟨us, upd_same, pk⟩⟩
theorem we_lock {a : Addr} {f : Cell → Mem} {kvs : List (Key × D)} {e : Expr} (h : At a M (.dK kvs) f) (hb : ∀ od us, WE X Γ (f (.fzK od us kvs)) e fun d => Lk a od us kvs (Q d)) : WE X Γ M e Q := by
  intro S σ H hΓ hM
  obtain ⟨us, hx, pk⟩ := hM.at_ok h
  refine tE_of (pe_lock pe_c) ⟨a, .dK us, hx, trivial, fun od => ?_⟩
  refine tE_mono (hb od us S σ _ hΓ (hM.write h (c' := .fzK od us kvs) ⟨upd_same, pk⟩)) ?_
  rintro v H' ⟨d, M', S', ⟨f', h', q⟩, s1, m1, r1⟩
  obtain ⟨g1, g2⟩ := unlock m1 h'
  exact ⟨g1, d, _, S', q, s1, g2, r1⟩
theorem od_neB {a b : Bool} (st : Stat X Ln Vn Bn Fn) (q : Q (.bl (!(a == b))) M) : OD X (compareOp .NotEq) (.bl a) (.bl b) M Q := by
  refine od_neP st (.bl a) (.bl b) (by cases a <;> decide) (by cases b <;> decide) ?_
  cases a <;> cases b <;> exact q
variable {tg iter : Expr}
theorem wi_keys (h : WE X Γ M iter fun d M1 => ∃ a o us kvs f, d = .ref a ∧ At a M1 (.fzK o us kvs) f ∧ QI (kvs.map fun kv => kD kv.1) (fun M' => ∃ f', At a M' (.fzK o us kvs) f') M1) : WI X Γ M tg iter QI := by
  intro S σ H hΓ hM
  refine tI_of (pi_keys pe_c) (tE_post (h S σ H hΓ hM) fun d M1 S1 v H1 ⟨a, o, us, kvs, f, hd, hat, q⟩ s1 m1 r1 => ?_)
  subst hd
  obtain ⟨hx, pk⟩ := m1.at_ok hat
  have hl : us.length = kvs.length := pk.length
  refine ⟨a, o, r1.ref_inv, .inl ⟨us, hx, _, _, M1, S1, q, s1, m1, ⟨fun S' M' H' k s' m' hs hk => ?_, fun S' M' H' k s' m' hs hk => ?_, fun S' M' H' k x H'' s' m' hs hk y => ?_⟩⟩⟩
  · obtain ⟨f', h'⟩ := hs
    rw [List.length_map] at hk
    exact ⟨(m'.at_ok h').1, by omega⟩
  · obtain ⟨f', h'⟩ := hs
    rw [List.length_map] at hk
    exact ⟨(m'.at_ok h').1, by omega⟩
  · obtain ⟨rfl, key, v, e1, rfl⟩ := y
    have e2 : (kvs.map (·.1))[k]? = some key := by rw [← pk.1, List.getElem?_map, e1]; rfl
    rw [List.getElem?_map] at e2
    obtain ⟨kv, e3, rfl⟩ := Option.map_eq_some_iff.mp e2
    exact ⟨kD kv.1, S', by rw [List.getElem?_map, e3]; rfl, .refl _, m', rep_of_key _⟩
end

section
variable {P : Program} {w : World} {K : PySem.W.Frag} {mg : Str → Option Value} {base : Heap} {X : Cx} {Γ Γb : VEnv} {M : Mem} {Q : D → Mem → Prop} {x : Str} {pos px : Pos} {elt iter c : Expr} {scope sc : Scope} {own : List (Str × Nat)} {N Ln Bn Fn Bx Vb Bb Fb : List Str} {k : Nat}
theorem turnP_of {Γ2 : VEnv} {I : Nat → List D → Mem → Prop} {n : Nat} {acc : List D} {M' : Mem} (b : Blk X scope own Vb Bb Fb)
    (h : ∀ X1, Inn X X1 scope (own.map (·.1)) Vb Bb Fb → ∀ L, WT X1 Γ2 ((L, .lst acc) :: M') c fun k M3 => ∃ M5, M3 = (L, .lst acc) :: M5 ∧ if k = true then acc.length < sizeLine ∧ (∀ X2, Inn X X2 scope (own.map (·.1)) Vb Bb Fb → WE X2 Γ2 ((L, .lst acc) :: M5) elt fun d M4 => M4 = (L, .lst acc) :: M5 ∧ I (n + 1) (acc ++ [d]) M5) else I (n + 1) acc M5) : Turn1 X scope Γ2 [c] elt I n acc M' := by
  intro L s H C cl fp
  show WT _ Γ2 _ c _
  intro S σ H' a1 a2
  refine tT_mono (h _ (b.inn s H C cl fp) L S σ H' a1 a2) ?_
  rintro k H2 ⟨M3, S3, ⟨M5, rfl, q⟩, s3, m3⟩
  refine ⟨_, S3, ?_, s3, m3⟩
  cases k with
  | true =>
    rw [if_pos rfl] at q ⊢
    intro s2 H2 C2 cl2 fp2
    exact (q.2 _ (b.inn s2 H2 C2 cl2 fp2)).imp fun d M4 ⟨e, z⟩ => ⟨q.1, M5, e, z⟩
  | false =>
    rw [if_neg Bool.false_ne_true] at q ⊢
    exact ⟨M5, rfl, q⟩
abbrev StPick (X : Cx) (scope : Scope) (ow Vb Bb Fb : List Str) (Γb : VEnv) (x : Str) (c elt : Expr) (I : Nat → List D → Mem → Prop) (i : Nat) (d : D) (acc : List D) (M' : Mem) : Prop :=
  ∃ Γ2, SetAt Γb x d Γ2 ∧ ∀ X1, Inn X X1 scope ow Vb Bb Fb → ∀ L, WT X1 Γ2 ((L, .lst acc) :: M') c fun k M3 => ∃ M5, M3 = (L, .lst acc) :: M5 ∧ if k = true then acc.length < sizeLine ∧ (∀ X2, Inn X X2 scope ow Vb Bb Fb → WE X2 Γ2 ((L, .lst acc) :: M5) elt fun d M4 => M4 = (L, .lst acc) :: M5 ∧ I (i + 1) (acc ++ [d]) M5) else I (i + 1) acc M5
/-- [elt for x in iter if c], what c draws by the way -/
theorem we_stP {i : Nat} (own : List (Str × Nat)) (Vb Bb Fb : List Str) (bod : Bod P w K mg base k sc N Ln Bn Fn Bx X) (hc : (blkC N sc scope own && blkChk sc scope (own.map (·.1)) Vb Bb Fb Bx) = true) (hxi : (x, i) ∈ own) (hwp : Wiped Γ own Γb)
    (h : WI X Γ M (.Name x px) iter fun items Stb M1 => ∃ I : Nat → List D → Mem → Prop, I 0 [] M1 ∧ (∀ i acc M' L, I i acc M' → Stb ((L, .lst acc) :: M')) ∧ (∀ i d acc M', items[i]? = some d → I i acc M' → StPick X scope (own.map (·.1)) Vb Bb Fb Γb x c elt I i d acc M') ∧ ∀ acc M', I items.length acc M' → ∀ p, Q (.ref p) ((p, .lst acc) :: M'))
    (hs : ∀ x, foldedSetIterable iter X.env x = pure x := by intro _; rfl) : WE X Γ M (.ListComp elt [⟨.Name x px, iter, [c], 0⟩] scope pos) Q :=
  we_lc bod.st (blk_of bod hc).st hxi (blk_of bod hc).ok hwp (Nat.le_refl _)
    (wi_imp h fun _ _ _ ⟨I, h1, h2, h3, h4⟩ => ⟨I, h1, h2, fun i d acc M' e q => let ⟨Γ2, a, b⟩ := h3 i d acc M' e q; ⟨Γ2, a, turnP_of (blk_of bod hc) b⟩, h4⟩) hs
theorem ws_setStP {E : DE} {i j : Nat} {y : Str} {py spos : Pos} (own : List (Str × Nat)) (Vb Bb Fb : List Str) (bod : Bod P w K mg base k sc N Ln Bn Fn Bx X) (hc : (blkC N sc scope own && blkChk sc scope (own.map (·.1)) Vb Bb Fb Bx) = true) (hxi : (x, i) ∈ own) (hwp : Wiped Γ own Γb)
    (hy : y ∈ Ln) (hyl : sc.names.lookup y = some .local) (hNy : N[j]? = some y) (ha : (scope.names.any fun (n, k) => n == y && (k == .local || k == .cell)) = false)
    (h : WI X Γ M (.Name x px) iter fun items Stb M1 => ∃ I : Nat → List D → Mem → Prop, I 0 [] M1 ∧ (∀ i acc M' L, I i acc M' → Stb ((L, .lst acc) :: M')) ∧ (∀ i d acc M', items[i]? = some d → I i acc M' → StPick X scope (own.map (·.1)) Vb Bb Fb Γb x c elt I i d acc M') ∧ ∀ acc M', I items.length acc M' → ∀ p, ∃ Γ', SetAt Γ y (.ref p) Γ' ∧ E.nx Γ' ((p, .lst acc) :: M'))
    (hl : (py.line == pos.line) = true := by rfl) (hl2 : spos.line = py.line := by rfl) (hs : ∀ x, foldedSetIterable iter X.env x = pure x := by intro _; rfl) : WS X Γ M (.Assign [.Name y py] (.ListComp elt [⟨.Name x px, iter, [c], 0⟩] scope pos) spos) E :=
  ws_setLc bod.st hy (by rw [bod.sc]; exact hyl) bod.kind (by rw [bod.N]; exact hNy) ha (blk_of bod hc).st hxi (blk_of bod hc).ok hwp (Nat.le_refl _)
    (wi_imp h fun _ _ _ ⟨I, h1, h2, h3, h4⟩ => ⟨I, h1, h2, fun i d acc M' e q => let ⟨Γ2, a, b⟩ := h3 i d acc M' e q; ⟨Γ2, a, turnP_of (blk_of bod hc) b⟩, h4⟩) hl hl2 hs
end
end DL
namespace Wk
open DL PySem L2 PyProof.Rows
/-- a plan: its boxes, in the dict's order, each with its blocks -/
abbrev Pl := List (Nat × List Nat)
def Pl.kv (pl : Pl) : List (Key × D) := pl.map fun p => (Sum.inl (p.1 : Int), nlD p.2)
structure PlOk (m : Nat) (pl : Pl) : Prop where
  nd : (pl.map (·.1)).Nodup
  box : ∀ p ∈ pl, p.1 < 8
  up : ∀ p ∈ pl, p.2.Pairwise (· < ·)
  lt : ∀ p ∈ pl, ∀ k ∈ p.2, k < m
theorem PlOk.len {m : Nat} {pl : Pl} (h : PlOk m pl) : pl.length ≤ 8 := by
  have := nodup_leN (l := pl.map (·.1)) (m := List.range 8) h.nd fun y hy => by
    obtain ⟨p, hp, rfl⟩ := List.mem_map.mp hy
    exact List.mem_range.mpr (h.box p hp)
  rw [List.length_map, List.length_range] at this
  exact this
theorem PlOk.few {m : Nat} {pl : Pl} (h : PlOk m pl) : ∀ p ∈ pl, p.2.length ≤ m := fun p hp => by
  have := nodup_leN (l := p.2) (m := List.range m) ((h.up p hp).imp fun h => Nat.ne_of_lt h) fun y hy => List.mem_range.mpr (h.lt p hp y hy)
  rw [List.length_range] at this
  exact this
theorem putA_new {kvs : List (Key × D)} {k : Key} {v : D} (h : ∀ p ∈ kvs, p.1 ≠ k) : putA kvs k v = kvs ++ [(k, v)] := by
  unfold putA
  rw [if_neg]
  rw [Bool.not_eq_true, List.any_eq_false]
  exact fun p hp => by simpa using h p hp
theorem Pl.put_new {pl : Pl} {b : Nat} {l : List Nat} (h : ∀ p ∈ pl, p.1 ≠ b) : putA pl.kv (.inl (b : Int)) (nlD l) = Pl.kv (pl ++ [(b, l)]) := by
  unfold Pl.kv
  rw [putA_new, List.map_append]; rfl
  intro q hq
  obtain ⟨p, hp, rfl⟩ := List.mem_map.mp hq
  have := h p hp
  intro e
  cases e
  omega
theorem Pl.at {pl : Pl} {b : Nat} {l : List Nat} (nd : (pl.map (·.1)).Nodup) (h : (b, l) ∈ pl) : valA pl.kv (.inl (b : Int)) = some (nlD l) := by
  induction pl with
  | nil => cases h
  | cons p pl ih =>
    rw [List.map_cons, List.nodup_cons] at nd
    rcases List.mem_cons.mp h with rfl | h
    · show valA (((Sum.inl ((b : Nat) : Int) : Key), nlD l) :: Pl.kv pl) _ = _
      rw [valA_cons, if_pos rfl]
    · have hne : p.1 ≠ b := fun e => nd.1 (List.mem_map.mpr ⟨_, h, e.symm⟩)
      show valA (((Sum.inl (p.1 : Int) : Key), nlD p.2) :: Pl.kv pl) _ = _
      rw [valA_cons, if_neg (fun e => by cases e; exact hne (by omega))]
      exact ih nd.2 h
/-- what is put on a way for a box -/
def putK (wy : Int × Int) (p : Nat × List Nat) : List Put :=
  if decide (wy.1 ∈ p.2.map fun (n : Nat) => (n : Int)) = decide (wy.2 ∈ p.2.map fun (n : Nat) => (n : Int)) then [] else [⟨wy, decide (wy.2 ∈ p.2.map fun (n : Nat) => (n : Int)), p.1⟩]
def putsL (ys : List (Int × Int)) (pl : Pl) : List Put := ys.flatMap fun wy => pl.flatMap (putK wy)
end Wk

/-! Core25: what is put on ways, and plans, as data to be shown and compared. -/
namespace Wk
open DL PySem PySem.Spec PyProof.Rows L2
def putsP (l : List Put) : PyData := .list (l.map Put.pd)
/-- a work -/
theorem Dd.pyx {M : Mem} (d : Dd) : PyX M d.d d.p := by
  cases d <;> exact .tup (.cons (.str _) (.cons (.int _) (by first | exact .nil | exact .cons (.int _) .nil)))
theorem Nd.pyx {M : Mem} (e : Nd) : PyX M e.d e.p := by
  cases e with
  | out => exact .tup (.cons (.str _) .nil)
  | go t => exact .tup (.cons (.str _) (.cons (.int _) .nil))
  | fork t o => exact .tup (.cons (.str _) (.cons (.int _) (.cons (.int _) .nil)))
theorem Bk.pyx {M : Mem} (b : Bk) : PyX M b.d b.p := .tup (.cons (.lst (PyXs.of_map fun d _ => d.pyx)) (.cons b.2.pyx .nil))
def W.p (w : W) : PyData := .list (w.map Bk.p)
theorem W.pyx {M : Mem} (w : W) : PyX M (W.d w) w.p := .lst (PyXs.of_map fun b _ => b.pyx)
/-- a plan -/
def Pl.qs (pl : Pl) : List (Key × PyData) := pl.map fun p => (Sum.inl (p.1 : Int), .list (p.2.map natP))
def Pl.p (pl : Pl) : PyData := .dict (pl.qs.map fun q => (keyP q.1, q.2))
theorem Pl.pyx {M : Mem} {a : Addr} {f : Cell → Mem} {pl : Pl} (h : At a M (.dK pl.kv) f) : PyX M (.ref a) pl.p := by
  refine .dct h (by unfold Pl.kv Pl.qs; rw [List.map_map, List.map_map]; rfl) ?_
  unfold Pl.kv Pl.qs
  rw [List.map_map, List.map_map]
  exact PyXs.of_map fun p _ => .lst (PyXs.of_map fun n _ => .int _)
/-- a plan's boxes in their order -/
def Pl.srt (pl : Pl) : Pl := pl.mergeSort fun a b => decide (a.1 ≤ b.1)
end Wk

/-! Core26: a dict of tuples sorted; comprehensions over three names. -/
namespace DL
open PySem PySem.Spec PyProof.Rows L2
section
variable {P : Program} {w : World} {K : PySem.W.Frag} {mg : Str → Option Value} {base : Heap} {X : Cx} {Γ Γb : VEnv} {M : Mem} {Q : D → Mem → Prop} {E : DE} {x : Str} {pos px : Pos} {elt iter c : Expr} {scope sc : Scope} {own : List (Str × Nat)} {N Ln Bn Fn Bx Vb Bb Fb : List Str} {k : Nat} {α : Type}
end
/-! ### sorted(d), d's keys tuples -/
section
variable {X : Cx} {β : Type} {enc : β → PyData}
end
end DL
namespace DL
open PySem PySem.Spec PyProof.Rows L2 Wk
theorem CellOk.notTup {K : PySem.W.Frag} {S H : Hp} {a : Addr} : ∀ {c : Cell}, CellOk K S H a c → ∀ xs, H a ≠ some (.tup xs)
  | .lst _, ⟨_, h, _⟩, _ => fun e => by rw [h] at e; cases e
  | .dK _, ⟨_, h, _⟩, _ => fun e => by rw [h] at e; cases e
  | .dT _, ⟨_, h, _⟩, _ => fun e => by rw [h] at e; cases e
  | .set _ _, h, _ => fun e => by have h : H a = _ := h; rw [h] at e; cases e
  | .ins _ _ _, ⟨⟨_, _, h, _⟩, _⟩, _ => fun e => by rw [h] at e; cases e
  | .raw _, h, xs => fun e => h.2 xs (Option.some.inj (h.1.symm.trans e))
  | .fzK _ _ _, ⟨h, _⟩, _ => fun e => by rw [h] at e; cases e
  | .fzT _ _ _, ⟨h, _⟩, _ => fun e => by rw [h] at e; cases e
  | .fzX _ _ _, ⟨h, _⟩, _ => fun e => by rw [h] at e; cases e
def keyI (p : Int × Int) : List Key := [.inl p.1, .inl p.2]
end DL

/-! Core27: where what is put on a way can stand. -/
namespace Wk
open DL PySem PySem.Spec PyProof.Rows L2
theorem filt_nil {α : Type} {p : α → Bool} {l : List α} (h : ∀ a ∈ l, p a = false) : l.filter p = [] := by
  rw [List.filter_eq_nil_iff]
  exact fun a ha => by rw [h a ha]; simp
theorem filt_all {α : Type} {p : α → Bool} {l : List α} (h : ∀ a ∈ l, p a = true) : l.filter p = l := List.filter_eq_self.mpr h
theorem wayK_fst {n k : Nat} {e : Nd} {z : Int × Int} (h : z ∈ wayK n k e) : z.1 = (k : Int) := by
  unfold wayK at h
  split at h
  · rw [List.mem_singleton] at h; rw [h]
  · obtain ⟨t, _, rfl⟩ := List.mem_map.mp h; rfl
theorem mem_waysFrom {n : Nat} {z : Int × Int} : ∀ {es : List Nd} {j : Nat}, z ∈ waysFrom n j es → ∃ (i : Nat) (e : Nd), es[i]? = some e ∧ z ∈ wayK n (j + i) e
  | [], _, h => by cases h
  | e :: es, j, h => by
    rw [waysFrom] at h
    rcases List.mem_append.mp h with h | h
    · exact ⟨0, e, rfl, h⟩
    · obtain ⟨i, e', h1, h2⟩ := mem_waysFrom h
      exact ⟨i + 1, e', by simpa using h1, by rw [show j + (i + 1) = j + 1 + i by omega]; exact h2⟩
theorem filt_fst {n : Nat} : ∀ {es : List Nd} {j i : Nat} {e : Nd}, es[i]? = some e → (waysFrom n j es).filter (fun z => decide (z.1 = ((j + i : Nat) : Int))) = wayK n (j + i) e
  | [], _, _, _, h => by simp at h
  | e' :: es, j, 0, e, h => by
    simp only [List.getElem?_cons_zero, Option.some.injEq] at h
    subst h
    rw [waysFrom, List.filter_append, filt_all (fun a ha => by rw [wayK_fst ha]; simp), filt_nil (fun a ha => ?_), List.append_nil]
    · rfl
    · obtain ⟨i, e2, _, h2⟩ := mem_waysFrom ha
      rw [wayK_fst h2]
      exact decide_eq_false (by omega)
  | e' :: es, j, i + 1, e, h => by
    rw [waysFrom, List.filter_append, filt_nil (fun a ha => by rw [wayK_fst ha]; exact decide_eq_false (by omega)), List.nil_append]
    have := filt_fst (n := n) (j := j + 1) (i := i) (e := e) (es := es) (by simpa using h)
    rw [show j + 1 + i = j + (i + 1) by omega] at this
    exact this
theorem sxm {e : Nd} {t : Nat} : t ∈ e.sx ↔ t ∈ e.nx := (sx_perm e).mem_iff
/-- by the law -/
def homeL (w : W) (y : Int × Int) : Str :=
  if 0 ≤ y.1 ∧ ((ways w).filter fun z => decide (z.1 = y.1)).length = 1 then "end" else if ((ways w).filter fun z => decide (z.2 = y.2)).length = 1 then "begin" else "split"
/-- by the program -/
def homeP (w : W) (y : Int × Int) : Str :=
  if y.1 < 0 then "begin" else if y.2 = (w.length : Int) ∨ ((nexts w).getD y.1.toNat []).length = 1 then "end" else if ((List.range w.length).filter fun b => decide (y.2 ∈ ((nexts w).getD b []).map fun (n : Nat) => (n : Int))).length = 1 then "begin" else "split"
end Wk

/-! Core28: the ways that are split. -/
namespace Wk
open DL PySem PySem.Spec PyProof.Rows L2
def isSplit (w : W) (y : Int × Int) : Bool := decide (homeL w y = "split")
def splitPuts (w : W) (pl : Pl) : List Put := (sortP (putsL (ways w) pl)).filter fun p => isSplit w p.way
def splitsL (w : W) (pl : Pl) : List (Int × Int) := (ways w).filter fun y => decide (y ∈ (splitPuts w pl).map (·.way))
end Wk
namespace DL
open PySem PySem.Spec PyProof.Rows L2
end DL
namespace DL
open PySem PySem.Spec PyProof.Rows L2
section
variable {P : Program} {w : World} {K : PySem.W.Frag} {mg : Str → Option Value} {base : Heap} {X : Cx} {Γ Γb : VEnv} {M : Mem} {Q : D → Mem → Prop} {x : Str} {pos px : Pos} {elt iter c : Expr} {scope sc : Scope} {own : List (Str × Nat)} {N Ln Bn Fn Bx Vb Bb Fb : List Str} {k : Nat} {α : Type}
end
end DL

/-! Core29: busy blocks told as an owned list. -/
namespace DL
open PySem PySem.Spec PyProof.Rows L2 Wk
section
variable {X : Cx} {M : Mem} {Q : D → Mem → Prop} {Ln Vn Bn Fn : List Str}
theorem cd_sortedIO {d : D} {ns ms : List Int} (h : IsR M d (ns.map D.int)) (hp : ms.Perm ns) (hs : ms.Pairwise (· ≤ ·)) (q : ∀ p, Q (.ref p) ((p, .lst (ms.map D.int)) :: M)) : CD X (.builtin "sorted") [d] M Q := cd_of cr_sortedI fun S H xs rx m => by
  obtain ⟨v, rfl, rv⟩ := reps_one rx
  obtain ⟨pa, us, rfl, h1, r1⟩ := h.get m rv
  rw [r1.ints_inv] at h1
  refine ⟨pa, ns, rfl, h1, fun ns' p h2 h3 hp' => ?_⟩
  have e : ns' = ms := (h2.trans hp.symm).eq_of_pairwise (fun a b _ _ h1 h2 => Int.le_antisymm h1 h2) h3 hs
  subst e
  exact post_own m Reps.ints q p hp'
end
end DL
namespace Wk
open DL PySem PySem.Spec PyProof.Rows L2
/-- as the program puts them together -/
noncomputable def busyP (ws : List W) (n b : Nat) (w : W) : List Nat → List Nat := fun wl => wl ++ ((reachL w b).filter fun k => decide (k ∈ awtL ws n b w.length)).filter fun k => !decide (k ∈ wl)
theorem reachL_lt {w : W} {b k : Nat} (h : k ∈ reachL w b) : k < w.length := by
  have := (mem_comeL.mp h).1
  have := nexts_len w
  omega
theorem reachL_up (w : W) (b : Nat) : (reachL w b).Pairwise (· < ·) := comeL_up
theorem busyP_perm {ws : List W} {n b : Nat} {w : W} : (busyL ws n b w).Perm (busyP ws n b w (writesL w b)) := by
  have nd : ∀ {l : List Nat}, l.Pairwise (· < ·) → l.Nodup := fun h => h.imp fun h => Nat.ne_of_lt h
  have hmem : ∀ k, k ∈ busyP ws n b w (writesL w b) ↔ k ∈ writesL w b ++ (reachL w b).filter fun k => awtB ws b n k := fun k => by
    unfold busyP
    simp only [List.mem_append, List.mem_filter, decide_eq_true_eq, Bool.not_eq_true', decide_eq_false_iff_not, mem_awtL, awtB_iff]
    constructor
    · rintro (h | ⟨⟨h1, h2⟩, h3⟩)
      · exact .inl h
      · exact .inr ⟨h1, h2.2⟩
    · rintro (h | ⟨h1, h2⟩)
      · exact .inl h
      · by_cases q : k ∈ writesL w b
        · exact .inl q
        · exact .inr ⟨⟨h1, reachL_lt h1, h2⟩, q⟩
  refine sortU_perm ?_ hmem fun k hk => ?_
  · unfold busyP
    rw [List.nodup_append]
    refine ⟨nd (writesL_up w b), ((nd (reachL_up w b)).filter _).filter _, fun a ha c hc e => ?_⟩
    have := (List.mem_filter.mp hc).2
    rw [← e] at this
    simp [ha] at this
  · rcases List.mem_append.mp hk with hk | hk
    · exact writesL_lt hk
    · exact reachL_lt (List.mem_filter.mp hk).1
end Wk

/-! Core30: dict(zip(xs, ys)), xs pairs. -/
namespace DL
open PySem PySem.Spec PyProof.Rows L2 Wk
def tDZ (K : PySem.W.Frag) (ta : TA) : TE := fun σ H Q => ta σ H fun vs H1 => ∃ (a b : Addr) (ks : List (List Key × Addr)) (ys : List V), vs = [.ref a, .ref b] ∧ SqL K H1 a ((ks.map (·.2)).map V.ref) ∧ SqL K H1 b ys ∧ (∀ k ∈ ks, H1 k.2 = some (.tup (k.1.map kV))) ∧ ks.length = ys.length ∧ (ks.map (·.1)).Nodup ∧ ∀ p, H1 p = none → Q (.ref p) (upd H1 p (.dT ((ks.map (·.1)).zip ys)))
end DL
namespace DL
open PySem PySem.Spec PyProof.Rows L2 Wk
section
variable {X : Cx} {Γ : VEnv} {M : Mem} {Q : D → Mem → Prop} {Ln Vn Bn Fn : List Str}
end
end DL
namespace Wk
open DL PySem L2
/-- the count of a way -/
def cA (ys : List (Int × Int)) (cs : List Int) (y : Int × Int) : Int := (((ys.zip cs).find? fun p => decide (p.1 = y)).map (·.2)).getD 0
end Wk

/-! Core31: maps over three names, isinstance(n, bool), sums. -/
namespace DL
open PySem PySem.Spec PyProof.Rows L2
section
variable {P : Program} {w : World} {K : PySem.W.Frag} {mg : Str → Option Value} {base : Heap} {X : Cx} {Γ Γb : VEnv} {M : Mem} {Q : D → Mem → Prop} {x : Str} {pos px : Pos} {elt iter : Expr} {scope sc : Scope} {own : List (Str × Nat)} {N Ln Bn Fn Bx Vb Bb Fb : List Str} {k : Nat} {α : Type}
end
end DL
namespace DL
open PySem PySem.Spec PyProof.Rows L2
end DL

/-! Core32: d.items(), sorted(d.items()), isinstance, dicts of owned lists -/
namespace DL
open PySem PySem.Spec PyProof.Rows L2 PySem.Calls
section
variable {X : Cx}
abbrev ItemsAt (H : Hp) (kvs : List (Key × V)) (ts : List Addr) : Prop := Paired (fun (kv : Key × V) t => H t = some (.tup [kV kv.1, kv.2])) kvs ts
end
section
variable {K : PySem.W.Frag} {S S' H H' : Hp} {M : Mem}
theorem CellOk.up (e : Same H H') {a : Addr} : ∀ {c : Cell}, CellOk K S H a c → CellOk K S H' a c
  | .lst _, ⟨xs, h, r⟩ => ⟨xs, e _ _ h, r⟩
  | .dK _, ⟨xs, h, r⟩ => ⟨xs, e _ _ h, r⟩
  | .dT _, ⟨xs, h, r⟩ => ⟨xs, e _ _ h, r⟩
  | .set _ _, h => e _ _ h
  | .ins _ _ _, ⟨⟨dx, fs, h, r⟩, l⟩ => ⟨⟨dx, fs, e _ _ h, r⟩, l⟩
  | .raw _, h => ⟨e _ _ h.1, h.2⟩
  | .fzK _ _ _, ⟨h, r⟩ => ⟨e _ _ h, r⟩
  | .fzT _ _ _, ⟨h, r⟩ => ⟨e _ _ h, r⟩
  | .fzX _ _ _, ⟨h, r⟩ => ⟨e _ _ h, r⟩
theorem MO.up (m : MO K S M H) (e : Same H H') : MO K S M H' := ⟨fun a o h => e _ _ (m.sub _ _ h), fun p hp => ⟨(m.own p hp).1, (m.own p hp).2.up e⟩, m.nd⟩
end
end DL
namespace DL
open PySem PySem.Spec PyProof.Rows L2 Wk
/-- boxes with owned lists -/
abbrev Cs := List (Nat × Addr × List Nat)
def kvC (cs : Cs) : List (Key × D) := cs.map fun c => (Sum.inl (c.1 : Int), .ref c.2.1)
def memC (cs : Cs) : Mem := cellsN (cs.map (·.2))
def itC (cs : Cs) : List D := cs.map fun c => .tup [natD c.1, .ref c.2.1]
def encC (b : Nat × List Nat) : PyData := .tuple [.int (b.1 : Int), .list (b.2.map natP)]
section
variable {X : Cx} {M : Mem} {Q : D → Mem → Prop} {Ln Vn Bn Fn : List Str}
/-- what type a value has -/
inductive IsT (M : Mem) : D → String → Prop
  | non : IsT M .non "NoneType"
  | bl (b : Bool) : IsT M (.bl b) "bool"
  | int (i : Int) : IsT M (.int i) "int"
  | str (x : Str) : IsT M (.str x) "str"
  | lst {d : D} {ds : List D} (h : IsL M d ds) : IsT M d "list"
  | tup (ds : List D) : IsT M (.tup ds) "tuple"
  | dK {a : Addr} {f : Cell → Mem} {kvs : List (Key × D)} (h : At a M (.dK kvs) f) : IsT M (.ref a) "dict"
  | fzK {a : Addr} {f : Cell → Mem} {o : Obj} {us : List (Key × V)} {kvs : List (Key × D)} (h : At a M (.fzK o us kvs) f) : IsT M (.ref a) "dict"
theorem IsT.ty {K : PySem.W.Frag} {S H : Hp} {d : D} {T : String} (m : MO K S M H) (h : IsT M d T) {v : V} (r : Rep K S v d) : TyX K H v (.type T) := by
  cases h with
  | non => rw [r.non_inv]; exact .base .non
  | bl b => rw [r.bl_inv]; exact .base (.bl b)
  | int i => rw [r.int_inv]; exact .base (.int i)
  | str x => rw [r.str_inv]; exact .base (.str x)
  | lst h => obtain ⟨a, xs, rfl, hx, _⟩ := h.get m r; exact .base (.lst hx)
  | tup ds => obtain ⟨a, xs, rfl, hx, _⟩ := r.tup_get m; exact .base (.tup hx)
  | dK h => obtain ⟨us, hx, _⟩ := m.at_ok h; rw [r.ref_inv]; exact .base (.dK hx)
  | fzK h => obtain ⟨hx, _⟩ := m.at_ok h; rw [r.ref_inv]; exact .fDict hx
theorem we_isA {Γ : VEnv} {T : Str} {Ts : String} {p p2 pos : Pos} {e : Expr} (st : Stat X Ln Vn Bn Fn) (h1 : ("isinstance" : Str) ∈ Bn) (h2 : T ∈ Bn) (hT : bootBuiltins T = some (.type Ts)) (h : WE X Γ M e fun d M1 => ∃ t b, IsT M1 d t ∧ kitB t Ts = some b ∧ Q (.bl b) M1)
    (he : starEach [e, .Name T p2] X.env = (false, eval e X.env) :: starEach [.Name T p2] X.env := by rfl) (he2 : starEach [.Name T p2] X.env = (false, eval (.Name T p2) X.env) :: starEach [] X.env := by rfl) (hpl : (backTo pos (starEach [.Name T p2] X.env)).any (·.1) = false := by rfl) :
    WE X Γ M (.Call (.Name "isinstance" p) [e, .Name T p2] [] pos) Q := by
  intro S σ H hΓ hM
  obtain ⟨g1, g2, g3, g4⟩ := st.blt _ h1
  obtain ⟨k1, k2, k3, k4⟩ := st.blt _ h2
  refine tE_of (pe_callB call_isi g1 g2 PyProof.Rows.boot_isinstance (pa_cons pe_c (pa_cons (pe_bltn k1 k2 hT (v := .ty Ts) rfl k3 k4) pa_nil he2) he) g3 g4 he hpl) ?_
  refine tE_post (h S σ H hΓ hM) fun d M1 S1 v H1 ⟨t, b, hty, hk, q⟩ s1 m1 r1 => ?_
  exact ⟨v, .ty Ts, .type t, .type Ts, b, rfl, .ty _, hty.ty m1 r1, kit_ty hk, .bl b, M1, S1, q, s1, m1, .bl b⟩
/-- unlike keys one behind the other -/
theorem mergeA_new : ∀ (ps kvs : List (Key × D)), (ps.map (·.1)).Nodup → (∀ p ∈ ps, ∀ q ∈ kvs, q.1 ≠ p.1) → mergeA kvs ps = kvs ++ ps
  | [], kvs, _, _ => by simp [mergeA]
  | p :: ps, kvs, nd, h => by
    rw [List.map_cons, List.nodup_cons] at nd
    show mergeA (putA kvs p.1 p.2) ps = _
    rw [putA_new (h p List.mem_cons_self), mergeA_new ps _ nd.2 fun p' hp' q' hq' => ?_]
    · simp
    · rcases List.mem_append.mp hq' with hq' | hq'
      · exact h p' (List.mem_cons_of_mem _ hp') q' hq'
      · rw [List.mem_singleton] at hq'
        subst hq'
        exact fun e => nd.1 (List.mem_map.mpr ⟨p', hp', e.symm⟩)
end
end DL
namespace DL
open PySem PySem.Spec PyProof.Rows L2 Wk
section
variable {M : Mem} {d : D} {t : String}
theorem IsT.kit (h : IsT M d t) : kitB t "int" = some (t == "int" || t == "bool") ∧ kitB t "bool" = some (t == "bool") ∧ kitB t "list" = some (t == "list") ∧ kitB t "dict" = some (t == "dict") ∧ kitB t "str" = some (t == "str") ∧ kitB t "tuple" = some (t == "tuple") := by
  cases h <;> decide +kernel
theorem IsT.cons {q : Addr × Cell} (h : IsT M d t) : IsT (q :: M) d t := by
  cases h with
  | non => exact .non
  | bl b => exact .bl b
  | int i => exact .int i
  | str x => exact .str x
  | lst h => exact .lst (h.imp id fun ⟨a, f, e, g⟩ => ⟨a, _, e, .there g⟩)
  | tup ds => exact .tup ds
  | dK h => exact .dK (.there h)
  | fzK h => exact .fzK (.there h)
theorem IsL.cons {q : Addr × Cell} {ds : List D} (h : IsL M d ds) : IsL (q :: M) d ds := h.imp id fun ⟨a, f, e, g⟩ => ⟨a, _, e, .there g⟩
/-- a number, that is no truth -/
def isI : D → Bool
  | .int _ => true
  | _ => false
def intD : D → Int
  | .int i => i
  | _ => 0
theorem IsT.isI (h : IsT M d t) : isI d = (t == "int") := by
  cases h with
  | lst h => rcases h with rfl | ⟨_, _, rfl, _⟩ <;> rfl
  | _ => rfl
/-- a number from l on, below m -/
def amD (l m : Int) (d : D) : Bool := isI d && (decide (l ≤ intD d) && decide (intD d < m))
def riseD (m : Nat) (xs : List D) : Bool := xs.all (amD 0 m) && (List.range (xs.length - 1)).all fun k => decide (intD (xs.getD k .non) < intD (xs.getD (k + 1) .non))
def insD (m : Nat) (bs : List Nat) (xs : List D) : Bool := riseD m xs && bs.all fun k => decide ((k : Int) ∈ xs.map intD)
theorem amD_ints {l m : Int} {xs : List D} (h : xs.all (amD l m) = true) : xs = (xs.map intD).map D.int := by
  rw [List.map_map]
  refine (List.map_id' xs).symm.trans (List.map_congr_left fun x hx => ?_)
  have := List.all_eq_true.mp h x hx
  cases x <;> first | rfl | exact absurd this (by simp [amD, DL.isI])
theorem riseD_nats {m : Nat} {l : List Nat} (h : l.Pairwise (· < ·)) (hl : ∀ k ∈ l, k < m) : riseD m (l.map natD) = true := by
  unfold riseD
  rw [Bool.and_eq_true]
  refine ⟨List.all_eq_true.mpr fun x hx => ?_, List.all_eq_true.mpr fun k hk => ?_⟩
  · obtain ⟨n, hn, rfl⟩ := List.mem_map.mp hx
    have := hl n hn
    simp [amD, natD, DL.isI, intD]; omega
  · have hk := List.mem_range.mp hk
    rw [List.length_map] at hk
    have h1 : k < l.length := by omega
    have h2 : k + 1 < l.length := by omega
    have := List.pairwise_iff_getElem.mp h k (k + 1) h1 h2 (by omega)
    rw [List.getD_eq_getElem?_getD, List.getD_eq_getElem?_getD, List.getElem?_map, List.getElem?_map, List.getElem?_eq_getElem h1, List.getElem?_eq_getElem h2]
    simp [natD, intD, this]
theorem intD_nats (l : List Nat) : (l.map natD).map intD = l.map fun (n : Nat) => (n : Int) := by rw [List.map_map]; rfl
end
end DL

/-! Core33: d.clear(), x is True, cells of several plans -/
namespace DL
open PySem PySem.Spec PyProof.Rows L2 Wk
section
variable {X : Cx} {M : Mem} {Q : D → Mem → Prop} {Ln Vn Bn Fn : List Str} {Γ : VEnv} {sts : List Stmt} {E : DE}
theorem op_notBB : OpR X (compareOp .IsNot) (fun x y H Q => ∃ a b, x = .bl a ∧ y = .bl b ∧ Q (.bl (!(a == b))) H) := by
  intro pins s σ H x y v u Q I rx ry h
  obtain ⟨a, b, rfl, rfl, q⟩ := h
  cases (show v = Value.bool a from rx)
  cases (show u = Value.bool b from ry)
  exact wpAny_isNot_plain rfl (fin_bl I q (by cases a <;> cases b <;> decide +kernel))
theorem od_notB {a b : Bool} (q : Q (.bl (!(a == b))) M) : OD X (compareOp .IsNot) (.bl a) (.bl b) M Q := od_of op_notBB fun S H x y rx ry m => ⟨a, b, rx.bl_inv, ry.bl_inv, .of m (.bl _) q⟩
end
/-- plans with their cells -/
def plM (q : Addr × Cs) : Mem := (q.1, .dK (kvC q.2)) :: memC q.2
def plsM (qs : List (Addr × Cs)) : Mem := qs.flatMap plM
/-- lists to whose first j a number more has been put -/
def more (cs : Cs) (j : Nat) : List (Addr × List Nat) := cs.mapIdx fun i c => (c.2.1, if i < j then c.2.2 ++ [90 + i] else c.2.2)
end DL

/-! Core34: cells lent as if they stood for ever (we_borrow), owned slices, comprehensions in comprehensions that make cells -/
namespace DL
open PySem PySem.Spec PyProof.Rows L2
mutual
/-- lists in cells of C seen as lists -/
inductive Th (C : Mem) : D → D → Prop
  | same (d : D) : Th C d d
  | cell {a : Addr} {ds es : List D} : (a, Cell.lst ds) ∈ C → Ths C ds es → Th C (.ref a) (.lst es)
  | lst {ds es : List D} : Ths C ds es → Th C (.lst ds) (.lst es)
  | tup {ds es : List D} : Ths C ds es → Th C (.tup ds) (.tup es)
inductive Ths (C : Mem) : List D → List D → Prop
  | nil : Ths C [] []
  | cons {d e : D} {ds es : List D} : Th C d e → Ths C ds es → Ths C (d :: ds) (e :: es)
end
theorem Ths.of_map {C : Mem} {α : Type} {f g : α → D} {l : List α} (h : ∀ a ∈ l, Th C (f a) (g a)) : Ths C (l.map f) (l.map g) := by
  induction l with
  | nil => exact .nil
  | cons a l ih => exact .cons (h a List.mem_cons_self) (ih fun b hb => h b (List.mem_cons_of_mem _ hb))
theorem Ths.same {C : Mem} : ∀ (l : List D), Ths C l l
  | [] => .nil
  | d :: l => .cons (.same d) (Ths.same l)
section
variable {K : PySem.W.Frag} {S S2 H : Hp} {C : Mem}
mutual
theorem Th.rep (hC : ∀ a ds, (a, Cell.lst ds) ∈ C → ∃ xs, S a = some (.lst xs) ∧ Reps K S xs ds) : ∀ {d e : D}, Th C d e → ∀ {v : V}, Rep K S v d → Rep K S v e
  | _, _, .same d, _, r => r
  | _, _, .cell h t, v, r => by
    obtain ⟨xs, hx, rs⟩ := hC _ _ h
    rw [r.ref_inv]
    exact .lst hx (Ths.rep hC t rs)
  | _, _, .lst t, v, r => by
    obtain ⟨a, xs, rfl, hx, rs⟩ := r.lst_inv
    exact .lst hx (Ths.rep hC t rs)
  | _, _, .tup t, v, r => by
    obtain ⟨a, xs, rfl, hx, rs⟩ := r.tup_inv
    exact .tup hx (Ths.rep hC t rs)
theorem Ths.rep (hC : ∀ a ds, (a, Cell.lst ds) ∈ C → ∃ xs, S a = some (.lst xs) ∧ Reps K S xs ds) : ∀ {ds es : List D}, Ths C ds es → ∀ {vs : List V}, Reps K S vs ds → Reps K S vs es
  | _, _, .nil, _, .nil => .nil
  | _, _, .cons h t, _, .cons r rs => .cons (Th.rep hC h r) (Ths.rep hC t rs)
end
inductive ThE (C : Mem) : VEnv → VEnv → Prop
  | nil : ThE C [] []
  | cons {x : Str} {d e : D} {Γ Γ2 : VEnv} : Th C d e → ThE C Γ Γ2 → ThE C ((x, some d) :: Γ) ((x, some e) :: Γ2)
  | none {x : Str} {o : Option D} {Γ Γ2 : VEnv} : ThE C Γ Γ2 → ThE C ((x, o) :: Γ) ((x, none) :: Γ2)
theorem ThE.names {Γ Γ2 : VEnv} (h : ThE C Γ Γ2) : Γ2.map (·.1) = Γ.map (·.1) := by
  induction h with
  | nil => rfl
  | cons _ _ ih => rw [List.map_cons, List.map_cons, ih]
  | none _ ih => rw [List.map_cons, List.map_cons, ih]
theorem ThE.at {Γ Γ2 : VEnv} (h : ThE C Γ Γ2) : ∀ {i : Nat} {x : Str} {e : D}, Γ2[i]? = some (x, some e) → ∃ d, Γ[i]? = some (x, some d) ∧ Th C d e := by
  induction h with
  | nil => intro i x e h; simp at h
  | cons t _ ih =>
    intro i x e h
    cases i with
    | zero =>
      simp only [List.getElem?_cons_zero, Option.some.injEq, Prod.mk.injEq] at h
      obtain ⟨rfl, rfl⟩ := h
      exact ⟨_, rfl, t⟩
    | succ i => obtain ⟨d, a, b⟩ := ih (i := i) (by simpa using h); exact ⟨d, by simpa using a, b⟩
  | none _ ih =>
    intro i x e h
    cases i with
    | zero => simp at h
    | succ i => obtain ⟨d, a, b⟩ := ih (i := i) (by simpa using h); exact ⟨d, by simpa using a, b⟩
def flatD : D → Bool
  | .non | .bl _ | .int _ | .str _ | .ref _ => true
  | _ => false
def flatC : Cell → Bool
  | .lst ds => ds.all flatD
  | .dK kvs => kvs.all fun p => flatD p.2
  | _ => false
theorem flat_rep {S' : Hp} {v : V} {d : D} (f : flatD d = true) (r : Rep K S' v d) : Rep K S v d := by
  cases r <;> first | exact .non | exact .bl _ | exact .int _ | exact .str _ | exact .ref _ | cases f
theorem flat_reps {S' : Hp} : ∀ {vs : List V} {ds : List D}, ds.all flatD = true → Reps K S' vs ds → Reps K S vs ds
  | _, _, _, .nil => .nil
  | _, _, f, .cons r rs => by
    rw [List.all_cons, Bool.and_eq_true] at f
    exact .cons (flat_rep f.1 r) (flat_reps f.2 rs)
theorem flat_cell {S' : Hp} {a : Addr} {c : Cell} (f : flatC c = true) (h : CellOk K S' H a c) : CellOk K S H a c := by
  cases c with
  | lst ds =>
    obtain ⟨xs, hx, r⟩ := h
    exact ⟨xs, hx, flat_reps f r⟩
  | dK ds =>
    obtain ⟨xs, hx, r1, r2⟩ := h
    refine ⟨xs, hx, r1, flat_reps ?_ r2⟩
    rw [List.all_map]
    exact f
  | _ => exact absurd f Bool.false_ne_true
end
theorem we_borrow {X : Cx} {Γ Γ2 : VEnv} {M C R : Mem} {e : Expr} {Q : D → Mem → Prop} (pm : M.Perm (C ++ R)) (hΓ : ThE C Γ Γ2) (h : WE X Γ2 R e fun d M' => flatD d = true ∧ (∀ p ∈ M', flatC p.2 = true) ∧ Q d (C ++ M')) : WE X Γ M e Q := by
  intro S σ H hS hM
  have m := hM.perm pm
  have nd := m.nd
  rw [List.map_append, List.nodup_append] at nd
  obtain ⟨nd1, nd2, nd3⟩ := nd
  have hfree : ∀ p ∈ C, S p.1 = none := fun p hp => (m.own p (List.mem_append_left _ hp)).1
  obtain ⟨S2, hS2⟩ : ∃ S2 : Hp, ∀ b, S2 b = if b ∈ C.map (·.1) then H b else S b := ⟨fun b => if b ∈ C.map (·.1) then H b else S b, fun _ => rfl⟩
  have in2 : ∀ p ∈ C, S2 p.1 = H p.1 := fun p hp => by rw [hS2, if_pos (List.mem_map.mpr ⟨p, hp, rfl⟩)]
  have s2 : Same S S2 := fun b o e => by
    rw [hS2, if_neg]
    · exact e
    · intro hm
      obtain ⟨p, hp, rfl⟩ := List.mem_map.mp hm
      rw [hfree p hp] at e; cases e
  have sub2 : Same S2 H := fun b o e => by
    rw [hS2] at e
    split at e
    · exact e
    · exact m.sub _ _ e
  have hC : ∀ a ds, (a, Cell.lst ds) ∈ C → ∃ xs, S2 a = some (.lst xs) ∧ Reps X.K S2 xs ds := fun a ds hm => by
    obtain ⟨xs, hx, r⟩ := (m.own (a, Cell.lst ds) (List.mem_append_left _ hm)).2
    exact ⟨xs, (in2 _ hm).trans hx, r.mono s2⟩
  have m2 : MO X.K S2 R H := ⟨sub2, fun p hp => ⟨by
    rw [hS2, if_neg]
    · exact (m.own p (List.mem_append_right _ hp)).1
    · exact fun hm => nd3 _ hm _ (List.mem_map.mpr ⟨p, hp, rfl⟩) rfl, (m.own p (List.mem_append_right _ hp)).2.mono s2⟩, nd2⟩
  have sr2 : SR X S2 σ Γ2 := ⟨hS.len, by rw [hΓ.names]; exact hS.names, fun i x d hi => by
    obtain ⟨d', h1, t⟩ := hΓ.at hi
    obtain ⟨v, hv, r⟩ := hS.vals i x d' h1
    exact ⟨v, hv, t.rep hC (r.mono s2)⟩⟩
  refine tE_post (h S2 σ H sr2 m2) fun d M' S' v H' ⟨fd, fM, q⟩ s' m' r' => ?_
  have here : ∀ p ∈ C, ∃ o, H p.1 = some o ∧ S' p.1 = some o ∧ H' p.1 = some o := fun p hp => by
    obtain ⟨o, ho⟩ := (m.own p (List.mem_append_left _ hp)).2.there
    have e1 := s' _ _ ((in2 p hp).trans ho)
    exact ⟨o, ho, e1, m'.sub _ _ e1⟩
  refine ⟨d, C ++ M', S, q, .refl _, ⟨(s2.trans s').trans m'.sub, fun p hp => ?_, ?_⟩, flat_rep fd r'⟩
  · rcases List.mem_append.mp hp with hp | hp
    · obtain ⟨o, h1, _, h3⟩ := here p hp
      exact ⟨hfree p hp, (m.own p (List.mem_append_left _ hp)).2.heap (h3.trans h1.symm)⟩
    · refine ⟨?_, flat_cell (fM p hp) (m'.own p hp).2⟩
      cases hs : S p.1 with
      | none => rfl
      | some o =>
        have := (s2.trans s') _ _ hs
        rw [(m'.own p hp).1] at this; cases this
  · rw [List.map_append, List.nodup_append]
    refine ⟨nd1, m'.nd, fun a ha b hb e => ?_⟩
    subst e
    obtain ⟨p, hp, rfl⟩ := List.mem_map.mp ha
    obtain ⟨p', hp', e⟩ := List.mem_map.mp hb
    obtain ⟨o, _, h2, _⟩ := here p hp
    have := (m'.own p' hp').1
    rw [e, h2] at this; cases this
section
variable {P : Program} {w : World} {K : PySem.W.Frag} {mg : Str → Option Value} {base : Heap} {X : Cx} {Γ Γb : VEnv} {M : Mem} {Q : D → Mem → Prop} {x : Str} {pos px p2 : Pos} {e elt iter c : Expr} {scope sc : Scope} {own : List (Str × Nat)} {N Ln Vn Bn Fn Bx Vb Bb Fb : List Str} {k : Nat} {α : Type}
end
end DL
namespace DL
open PySem PySem.Spec PyProof.Rows L2 Wk
/-- works whose lists of deeds are owned -/
abbrev BA := Addr × Bk
abbrev OW := List BA
def refB (c : BA) : D := .tup [.ref c.1, c.2.2.d]
def cellB (c : BA) : Addr × Cell := (c.1, .lst (c.2.1.map Dd.d))
def OW.d (wa : OW) : D := .lst (wa.map refB)
def memW (wa : OW) : Mem := wa.map cellB
def OW.w (wa : OW) : W := wa.map (·.2)
def memWs (was : List OW) : Mem := was.flatMap memW
def wsA (was : List OW) : List W := was.map OW.w
end DL

/-! Core35: all memory lent; a deed put into an owned list -/
namespace DL
open PySem PySem.Spec PyProof.Rows L2 Wk
theorem ThE.keep {C : Mem} : ∀ Γ : VEnv, ThE C Γ Γ
  | [] => .nil
  | (_, Option.some d) :: Γ => .cons (.same d) (ThE.keep Γ)
  | (_, Option.none) :: Γ => .none (ThE.keep Γ)
end DL

/-! Core36: instances of the text's classes: attributes, methods, making them -/
namespace DL
open PySem PySem.Spec PyProof.Rows L2
/-- an attribute written -/
def putFD (f : Str) (v : D) : List (Str × D) → List (Str × D)
  | [] => [(f, v)]
  | (g, x) :: r => if g = f then (g, v) :: r else (g, x) :: putFD f v r
section
variable {K : PySem.W.Frag} {S S' H : Hp}
theorem PK.lookup {f : Str} : ∀ {kvs : List (Str × V)} {ds : List (Str × D)}, PK K S kvs ds → ∀ {d : D}, ds.lookup f = some d → ∃ v, kvs.lookup f = some v ∧ Rep K S v d := by
  intro kvs ds h
  induction ds generalizing kvs with
  | nil => intro d e; cases e
  | cons q ds ih =>
    intro d e
    rcases h.ind with ⟨_, e0⟩ | ⟨k, v, d0, kr, dr, rfl, e1, r, h2⟩
    · cases e0
    · cases e1
      rw [List.lookup_cons] at e
      rw [List.lookup_cons]
      cases hb : f == k with
      | true => rw [hb] at e; obtain rfl := Option.some.inj e; exact ⟨v, rfl, r⟩
      | false => rw [hb] at e; exact ih h2 e
end
section
variable {X : Cx} {Γ : VEnv} {M : Mem} {Q : D → Mem → Prop} {o e value : Expr} {es : List Expr} {f m : Str} {pos pos' tpos apos : Pos} {E : DE} {Ln Vn Bn Fn : List Str}
end
/-- the method m of the class at C: n parameters beside self, keeping G -/
structure Ms (P : Program) (w : World) (K : PySem.W.Frag) (mg : Str → Option Value) (base : Heap) (k : Nat) (C : Addr) (m : Str) (n : Nat) (G : DSp) : Prop where
  ex : ∃ (f : Addr) (fd : FuncData) (ps : List Str), Cls K C ∧ Meth K C m f ∧ Binds K fd ps [] ∧ ps.length = n + 1 ∧ GOk P w K mg base k f fd ps (spD K (n + 1) G)
section
variable {X : Cx} {Γ : VEnv} {M : Mem} {Q : D → Mem → Prop} {o e : Expr} {es : List Expr} {m x : Str} {p pos apos : Pos} {Ln Vn Bn Fn : List Str} {k n : Nat} {C : Addr} {G : DSp}
end
end DL

/-! Core37: the class Stopped(Exception) with its __init__: made, raised, its field read (began as a guide's worked proof, skel 42) -/
namespace PySem
namespace StopX
open PySem.W PySem.Calls PyProof.Rows PySem.HandSPX
/-! ### the text of __init__ -/
def iA (p1 p2 : Pos) : Arguments := { posonlyargs := [], args := [{ arg := "self", annotation := none, pos := p1 }, { arg := "state", annotation := none, pos := p2 }], vararg := none, kwonlyargs := [], kw_defaults := [], kwarg := none, defaults := [] }
def iB (q1 q2 q3 q4 : Pos) : List Stmt := [.Assign [.Attribute (.Name "self" q1) "state" q2] (.Name "state" q3) q4]
def iS : Scope := { kind := .function, names := [(PySem.Str.ofString "self", .local), (PySem.Str.ofString "state", .local)], isGenerator := false, isCoroutine := false, more := [] }
/-- what the written part says of Low, at C, and of its __init__, at fI -/
structure StopTxt (K : Frag) (mg : Str → Option Value) (C fI : Addr) : Prop where
  gC : mg "Stopped" = some (.ref C)
  cls : ∃ nm q N bs sn sub ab col dd k0 k1 k2 k3 k5, K.lookup C = some (excClassObj nm q C N bs PySem.ESX.exTail true sn sub ab col dd k0 k1 k2 k3 k5 "Exception.__new__")
  sa : findIn K (.ref C) "__setattr__" = some (some (.builtin "object.__setattr__"))
  ga : findIn K (.ref C) "__getattribute__" = some (some (.builtin "BaseException.__getattribute__"))
  gg : findIn K (.ref C) "__getattr__" = some none
  noN : findIn K (.ref C) "state" = some none
  iC : findIn K (.ref C) "__init__" = some (some (.ref fI))
  tC : typeIn K (.ref fI) = some (.type "function")
  kC : keepIn K (.ref C) = true
  exC : subIn K (.ref C) (.type "BaseException") = some true
  tyC : typeIn K (.ref C) = some (.type "type")
  hdC : hasDictIn K C = true
  te : exmOne K (.ref C) (.ref C) = some true
  fn : ∃ (oc : Value) (od : Option Addr) (doc pm : Value) (an : Option Addr) (cdv ct : Value) (osl : Array (Option Value)) (p1 p2 q1 q2 q3 q4 : Pos),
    K.lookup fI = some ⟨oc, od, .func (fnOf "__init__" "Stopped.__init__" (iA p1 p2) (iB q1 q2 q3 q4) iS .none .none doc pm an cdv ct), osl⟩ ∧ codeIn K cdv "Stopped.__init__" = true
/-- what __init__ leaves of a fresh exception at x -/
structure InitEnd (h h' : Heap) (x C dx t1 : Addr) (v : Value) : Prop where
  keep : ∀ b o, b ≠ x → h.get? b = some o → h'.get? b = some o
  obj : h'.get? x = some { cls := .ref C, dict := some dx, data := .fields #[.ref t1, .none, .none, .none, .bool false, .none] }
  dbig : h.objs.size ≤ dx
  dne : dx ≠ x
  ns : h'.Ns1 dx (fun y => if y = "state" then some v else none)
/-- a made Low -/
structure OwnMade (h h' : Heap) (e C d : Addr) (v : Value) : Prop where
  keep : ∀ b o, h.get? b = some o → h'.get? b = some o
  new : h.objs.size ≤ e
  obj : ∃ oe vs, h'.get? e = some oe ∧ oe.cls = .ref C ∧ oe.dict = some d ∧ oe.data = .fields vs ∧ vs[1]? = some .none
  dbig : h.objs.size ≤ d
  dne : d ≠ e
  ns : h'.Ns1 d (fun y => if y = "state" then some v else none)
section
variable {prog : Program} {w : World} {A : Around} {E : Value → Shared → Prop} {R : Result → Shared → Prop} {s : Shared} {K : Frag} {mg : Str → Option Value} {C fI : Addr}
end
end StopX
end PySem
namespace L2
open PySem PySem.Spec PyProof.Rows
section
variable {X : Cx} {C fI : Addr}
/-- Low(e) -/
def tMkStop (C : Addr) (ta : TA) : St → Hp → XK → Prop := fun σ H Q => ta σ H fun vs H1 => ∃ v, vs = [v] ∧ ∀ d, H1 d = none → Q (.ref C) (some d) (upd H1 d (.xd [(("state" : Str), v)]))
/-- raise Low(e) -/
def tRaiseStop (C : Addr) (W : WX) (ta : TA) : TS := fun _ σ H => tMkStop C ta σ H fun cls d H' => W cls d σ H'
/-- low.by, low the exception that the suite holds (at a; its class cls, its dict d) -/
def tByStop (C : Addr) (a : Addr) (cls : Value) (d : Option Addr) (te : TE) : TE := fun σ H Q => te σ H fun x H1 => x = .ref a ∧ cls = .ref C ∧ ∃ (dd : Addr) (v : V), d = some dd ∧ H1 dd = some (.xd [(("state" : Str), v)]) ∧ Q v H1
end
end L2


/-! Core38: defs that may raise Stopped: their promises, the raise, the calls, the try -/
namespace DL
open PySem PySem.Spec PyProof.Rows L2
section
variable {K : PySem.W.Frag} {S S' H H' : Hp} {M : Mem} {a : Addr} {c c' : Cell} {f : Cell → Mem}
end
/-- an error in the air: its state, its dict, the memory behind it -/
def PostZ (K : PySem.W.Frag) (Sg : Hp) (QX : Str → Mem → Prop) (z : Str) (d : Addr) (H : Hp) : Prop := ∃ M S', QX z M ∧ Same Sg S' ∧ MO K S' M H ∧ H d = some (.xd [("state", .str z)])
def EZ (K : PySem.W.Frag) (C0 : Addr) (Sg : Hp) (QX : Str → Mem → Prop) : XK := fun cls d H => ∃ z dd, cls = .ref C0 ∧ d = some dd ∧ PostZ K Sg QX z dd H
def WZ (n : Nat) (K : PySem.W.Frag) (C0 : Addr) (Sg : Hp) (QX : Str → Mem → Prop) : WX := fun cls d σ H => σ.length = n ∧ EZ K C0 Sg QX cls d H
/-- what a def that may raise does: arguments, memory, the ground that its instance's cell tells, what is wanted behind it, and of an error -/
abbrev DSpX := List D → Mem → Hp → (D → Mem → Prop) → (Str → Mem → Prop) → Prop
def spX (K : PySem.W.Frag) (C0 : Addr) (n : Nat) (G : DSpX) : Sp := fun vs H R E => vs.length = n ∧ ∃ S M ds Sg Q QX, MO K S M H ∧ Reps K S vs ds ∧ G ds M Sg Q QX ∧ (∀ v H', Post K S Q v H' → R v H') ∧ ∀ cls d H', EZ K C0 Sg QX cls d H' → E cls d H'
structure GOkX (P : Program) (w : World) (K : PySem.W.Frag) (mg : Str → Option Value) (base : Heap) (k : Nat) (f : Addr) (fd : FuncData) (ps : List Str) (sp : Sp) : Prop where
  len : ∀ vs H Q E, sp vs H Q E → vs.length = ps.length
  run : ∀ (A : Around), A.guards = some [] → ∀ (outer : List Env) (s : Shared) (H : Hp) (args : Args) (us : List Value) (vs : List V) (Q : VK) (E : XK),
    Room k A → Env0 P w K mg base A outer s H → BindsTo s fd args (ps.zip us) → Vals vs us → sp vs H Q E → codeAny (model P w) A (.call (.ref f) args) (CR (L2.CX P w) outer P w H s Q E) s
structure MsX (P : Program) (w : World) (K : PySem.W.Frag) (mg : Str → Option Value) (base : Heap) (k : Nat) (C : Addr) (m : Str) (n : Nat) (C0 : Addr) (G : DSpX) : Prop where
  ex : ∃ (f : Addr) (fd : FuncData) (ps : List Str), Cls K C ∧ Meth K C m f ∧ Binds K fd ps [] ∧ ps.length = n + 1 ∧ GOkX P w K mg base k f fd ps (spX K C0 (n + 1) G)
section
variable {X : Cx} {Γ : VEnv} {M : Mem} {Q : D → Mem → Prop} {QX : Str → Mem → Prop} {Sg : Hp} {o e : Expr} {es : List Expr} {m x : Str} {p pos apos : Pos} {Ln Vn Bn Fn : List Str} {k n : Nat} {C C0 : Addr} {G : DSpX} {E : DE}
theorem Stat.tr (st : Stat X Ln Vn Bn Fn) {pn : List (Addr × Obj)} {xe : Value → Shared → Prop} (po : PassesOwn (model X.prog X.w) X.A X.env xe) : Stat (X.tr pn xe) Ln Vn Bn Fn := ⟨st.calm, st.vis, po, st.nd, st.loc, st.blt, st.gfn, st.hu, st.gd⟩
end
end DL
namespace DL
open PySem PySem.Spec PyProof.Rows L2
section
variable {P : Program} {w : World} {K : PySem.W.Frag} {mg : Str → Option Value} {base : Heap}
/-- the context of the body of a def that may raise -/
structure BodX (P : Program) (w : World) (K : PySem.W.Frag) (mg : Str → Option Value) (base : Heap) (k : Nat) (sc : Scope) (N Ln Bn Fn Bx : List Str) (C0 : Addr) (Sg : Hp) (QX : Str → Mem → Prop) (X : Cx) : Prop where
  bod : Bod P w K mg base k sc N Ln Bn Fn Bx X
  tk : Takes X (WZ X.N.length X.K C0 Sg QX)
theorem Bod.ms {k : Nat} {sc : Scope} {N Ln Bn Fn Bx : List Str} {X : Cx} (b : Bod P w K mg base k sc N Ln Bn Fn Bx X) {j n : Nat} {C : Addr} {m : Str} {G : DSp} (h : Ms P w K mg base j C m n G) : Ms X.prog X.w X.K X.mg X.base j C m n G := by
  rw [b.pr, b.wd, b.fr, b.mg, b.base]; exact h
end
end DL

/-! Core39: runs by meaning as a machine of small steps (nxt, Rch, halted runs are one); instances made; memory let go -/
namespace DL
open PySem PySem.Spec PyProof.Rows L2
section
variable {X : Cx} {Γ : VEnv} {M : Mem} {Q : D → Mem → Prop} {E : DE} {sts : List Stmt} {e : Expr} {es : List Expr} {x : Str} {p pos : Pos} {Ln Vn Bn Fn : List Str} {k n : Nat} {G : DSp}
theorem wss_gc {G M2 : Mem} (pm : List.Perm M (G ++ M2)) (h : WSs X Γ M2 sts E) : WSs X Γ M sts E := fun S σ H hΓ hM => h S σ H hΓ (hM.perm pm).gc
/-- the class x at C, whose __init__ has n parameters beside self, keeping G -/
structure Mks (P : Program) (w : World) (K : PySem.W.Frag) (mg : Str → Option Value) (base : Heap) (k : Nat) (x : Str) (C : Addr) (n : Nat) (G : DSp) : Prop where
  ex : ∃ (f : Addr) (fd : FuncData) (ps : List Str), mg x = some (.ref C) ∧ Mk K C f ∧ Binds K fd ps [] ∧ ps.length = n + 1 ∧ GOk P w K mg base k f fd ps (spD K (n + 1) G)
end
end DL
namespace DL
open PySem PySem.Spec PyProof.Rows L2 Wk
/-! ### the machine -/
structure Fr where
  wk : Nat
  fm : Int
  to : Nat
  idx : Option Nat
  bx : List Int
abbrev Gone := List (List ((Int × Int) × Int))
structure Rs where
  told : List Int
  steps : Nat
  taken : Nat
  gone : Gone
def bump1 (g : List ((Int × Int) × Int)) (y : Int × Int) : List ((Int × Int) × Int) := putA g y ((valA g y).getD 0 + 1)
def bumpG (g : Gone) (n : Nat) (y : Int × Int) : Gone := g.set n (bump1 (g.getD n []) y)
def Fr.way (f : Fr) : Int × Int := (f.fm, (f.to : Int))
def pickE (chs : List Int) (taken len : Nat) : Nd → Nat × Nat
  | .out => (len, taken)
  | .go t => (t, taken)
  | .fork t o => (if chs.getD taken 0 = 0 then t else o, taken + 1)
def nxt (ws : List W) (chs : List Int) (most : Nat) (rs : Rs) : List Fr → Str ⊕ (Rs × List Fr)
  | [] => .inl "ended"
  | f :: K =>
    if (ws.getD f.wk []).length ≤ f.to then .inr ({ rs with gone := bumpG rs.gone f.wk f.way }, K)
    else match f.idx with
      | none => if most ≤ rs.steps then .inl "going" else .inr ({ rs with steps := rs.steps + 1, gone := bumpG rs.gone f.wk f.way }, { f with idx := some 0 } :: K)
      | some i =>
        match ((ws.getD f.wk []).getD f.to bk0).1[i]? with
        | none => .inr ({ rs with taken := (pickE chs rs.taken (ws.getD f.wk []).length ((ws.getD f.wk []).getD f.to bk0).2).2 }, { f with fm := (f.to : Int), to := (pickE chs rs.taken (ws.getD f.wk []).length ((ws.getD f.wk []).getD f.to bk0).2).1, idx := none } :: K)
        | some (.save _) => .inr (rs, { f with idx := some (i + 1) } :: K)
        | some (.back _) => .inr (rs, { f with idx := some (i + 1) } :: K)
        | some (.set b n) => if most ≤ rs.steps then .inl "going" else .inr ({ rs with steps := rs.steps + 1 }, { f with idx := some (i + 1), bx := f.bx.set b n } :: K)
        | some (.add b o) => if most ≤ rs.steps then .inl "going" else .inr ({ rs with steps := rs.steps + 1 }, { f with idx := some (i + 1), bx := f.bx.set b (f.bx.getD b 0 + f.bx.getD o 0) } :: K)
        | some (.tell b) => if most ≤ rs.steps then .inl "going" else .inr ({ rs with steps := rs.steps + 1, told := rs.told ++ [f.bx.getD b 0] }, { f with idx := some (i + 1) } :: K)
        | some (.call m) => if most ≤ rs.steps then .inl "going" else if K.length + 1 = 20 then .inl "deep" else .inr ({ rs with steps := rs.steps + 1 }, { wk := m, fm := -1, to := 0, idx := none, bx := f.bx } :: { f with idx := some (i + 1) } :: K)
section
variable {ws : List W} {chs : List Int} {most : Nat}
abbrev Conf := Rs × List Fr
abbrev nxtC (ws : List W) (chs : List Int) (most : Nat) (c : Conf) : Str ⊕ Conf := nxt ws chs most c.1 c.2
inductive Rch (ws : List W) (chs : List Int) (most : Nat) (a : Conf) : Conf → Prop
  | refl : Rch ws chs most a a
  | step {b c : Conf} : Rch ws chs most a b → nxtC ws chs most b = .inr c → Rch ws chs most a c
theorem Rch.head {a c : Conf} (h : Rch ws chs most a c) : a = c ∨ ∃ b, nxtC ws chs most a = .inr b ∧ Rch ws chs most b c := by
  induction h with
  | refl => exact .inl rfl
  | step h e ih =>
    rcases ih with rfl | ⟨b, e1, h1⟩
    · exact .inr ⟨_, e, .refl⟩
    · exact .inr ⟨b, e1, h1.step e⟩
theorem Rch.line {a b c : Conf} {z : Str} (h : Rch ws chs most a b) (hc : Rch ws chs most a c) (hz : nxtC ws chs most c = .inl z) : Rch ws chs most b c := by
  induction h with
  | refl => exact hc
  | step h e ih =>
    rcases ih.head with rfl | ⟨b', e1, h1⟩
    · rw [e] at hz; cases hz
    · rw [e] at e1; cases e1; exact h1
/-- a run that stops, stops in one place -/
theorem Rch.uniq {a b c : Conf} {y z : Str} (h : Rch ws chs most a b) (hy : nxtC ws chs most b = .inl y) (hc : Rch ws chs most a c) (hz : nxtC ws chs most c = .inl z) : b = c ∧ y = z := by
  rcases (h.line hc hz).head with rfl | ⟨b', e, _⟩
  · rw [hy] at hz; cases hz; exact ⟨rfl, rfl⟩
  · rw [hy] at e; cases e
theorem Rch.trans {a b c : Conf} (h : Rch ws chs most a b) (g : Rch ws chs most b c) : Rch ws chs most a c := by
  induction g with
  | refl => exact h
  | step _ e ih => exact ih.step e
end
/-- the dicts of ways gone -/
def goD (g : List ((Int × Int) × Int)) : List (List Key × D) := g.map fun p => (keyI p.1, .int p.2)
end DL

/-! Core40: lists of unlike length compared; dict displays with texts as keys; the law's own run -/
namespace DL
open PySem PySem.Spec PyProof.Rows L2
section
variable {X : Cx} {Γ : VEnv} {M : Mem} {Q : D → Mem → Prop} {E : DE} {e : Expr} {es : List Expr} {x : Str} {p pos : Pos} {Ln Vn Bn Fn : List Str} {k n : Nat}
def trsOf (X : Cx) : List (Option Expr) → List Expr → List (TE × TE)
  | some k :: ks, v :: vs => (tE X k, tE X v) :: trsOf X ks vs
  | _, _ => []
/-- the pairs of a display with texts as keys -/
def WDs (X : Cx) (Γ : VEnv) : List (Option Expr) → List Expr → Mem → (List (Key × D) → Mem → Prop) → Prop
  | some (.Constant (.str k) _ _) :: ks, v :: vs, M, Q => WE X Γ M v fun d M1 => WDs X Γ ks vs M1 fun kvs M2 => Q ((.inr k, d) :: kvs) M2
  | [], [], M, Q => Q [] M
  | _, _, _, _ => False
theorem pps_c : ∀ {ks : List (Option Expr)} {vs : List Expr}, ks.all (·.isSome) = true → ks.length = vs.length → PPs X pos ks vs (trsOf X ks vs)
  | [], [], _, _ => pps_nil
  | some k :: ks, v :: vs, h, l => pps_cons pe_c pe_c (pps_c (by simpa using h) (by simpa using l))
  | none :: ks, v :: vs, h, l => by simp at h
  | [], _ :: _, _, l => by simp at l
  | _ :: _, [], _, l => by simp at l
end
end DL

/-! Core41: reprs of data with ints of up to 58 digits (Shl) -/
namespace DL
open PySem PySem.Spec PyProof.Rows L2
structure Shl (dep n : Nat) (d : PyData) : Prop where
  sh : d.showable = true
  cl : d.canLay0 = true
  dp : d.depth ≤ dep
  wt : d.weight ≤ n
  sf : d.intsShort 60 = true
theorem Shl.int {i : Int} (h1 : -(10 ^ 58) < i) (h2 : i < 10 ^ 58) : Shl 0 200 (.int i) := by
  have e58 : (10 : Int) ^ 58 = 10000000000000000000000000000000000000000000000000000000000 := by decide
  rw [e58] at h1 h2
  have hl : i.natAbs.log2 < 200 := by
    by_cases h0 : i.natAbs = 0
    · rw [h0]; decide
    · refine (Nat.log2_lt h0).mpr ?_
      have : (2 : Nat) ^ 200 = 1606938044258990275541962092341162602522202993782792835301376 := by decide
      omega
  refine ⟨by simp only [PyData.showable, decide_eq_true_eq]; omega, by simp only [PyData.canLay0], by simp only [PyData.depth]; omega, ?_, ?_⟩
  · simp only [PyData.weight]
    split <;> omega
  · have h13 : (10 : Nat) ^ 58 = 10000000000000000000000000000000000000000000000000000000000 := by decide
    have e := int_text_length_le10 (a := i) (k := 58) (by decide) (by omega)
    have : (PyData.shown (.int i)).length ≤ 60 := by
      show (Str.ofString (toString i)).length ≤ 60
      rw [PySem.ofString_length]; omega
    simp only [PyData.intsShort, decide_eq_true_eq]
    exact this
theorem Shl.str {z : Str} (h : (z.cps.all (· < 0x110000)) = true) (hl : z.cps.size ≤ 200) : Shl 0 200 (.str z) :=
  ⟨by simp only [PyData.showable], by simp only [PyData.canLay0]; exact h, by simp only [PyData.depth]; omega, by simp only [PyData.weight]; exact hl, by simp only [PyData.intsShort]⟩
theorem shl_all {dep n : Nat} : ∀ {xs : List PyData}, (∀ x ∈ xs, Shl dep n x) → PyData.showableAll xs = true ∧ PyData.canLayAll0 xs = true ∧ PyData.depthAll xs ≤ dep ∧ PyData.weightAll xs ≤ xs.length * (n + 1) ∧ PyData.intsShortAll 60 xs = true
  | [], _ => ⟨rfl, rfl, Nat.zero_le _, Nat.zero_le _, rfl⟩
  | x :: xs, h => by
    obtain ⟨h1, h2, h3, h4, h5⟩ := shl_all fun y hy => h y (List.mem_cons_of_mem _ hy)
    have g := h x List.mem_cons_self
    refine ⟨by simp only [PyData.showableAll, g.sh, h1, Bool.and_self], by simp only [PyData.canLayAll0, g.cl, h2, Bool.and_self], ?_, ?_, by simp only [PyData.intsShortAll, g.sf, h5, Bool.and_self]⟩
    · simp only [PyData.depthAll]
      have := g.dp
      omega
    · simp only [PyData.weightAll, List.length_cons]
      have := g.wt
      rw [Nat.add_mul]
      omega
theorem Shl.list {dep n k : Nat} {xs : List PyData} (h : ∀ x ∈ xs, Shl dep n x) (hk : xs.length * (n + 1) ≤ k) : Shl (dep + 1) k (.list xs) := by
  obtain ⟨h1, h2, h3, h4, h5⟩ := shl_all h
  exact ⟨by simp only [PyData.showable]; exact h1, by simp only [PyData.canLay0]; exact h2, by simp only [PyData.depth]; omega, by simp only [PyData.weight]; omega, by simp only [PyData.intsShort]; exact h5⟩
theorem Shl.tuple {dep n k : Nat} {xs : List PyData} (h : ∀ x ∈ xs, Shl dep n x) (hk : xs.length * (n + 1) ≤ k) : Shl (dep + 1) k (.tuple xs) := by
  obtain ⟨h1, h2, h3, h4, h5⟩ := shl_all h
  exact ⟨by simp only [PyData.showable]; exact h1, by simp only [PyData.canLay0]; exact h2, by simp only [PyData.depth]; omega, by simp only [PyData.weight]; omega, by simp only [PyData.intsShort]; exact h5⟩
theorem Shl.mono {a b n k : Nat} {d : PyData} (h : Shl a n d) (h1 : a ≤ b) (h2 : n ≤ k) : Shl b k d := ⟨h.sh, h.cl, Nat.le_trans h.dp h1, Nat.le_trans h.wt h2, h.sf⟩
theorem Shl.fits {dep n : Nat} {d : PyData} (h : Shl dep n d) (hn : n ≤ 200000) : d.shown.length ≤ sizeLine := by
  have h1 := PyData.shown_le 60 (by decide) d (PyData.leavesShort_of_canLay0 60 d h.cl h.sf)
  have := h.wt
  exact szl (by omega)
theorem Shl.shaped {dep n : Nat} {d : PyData} (h : Shl dep n d) (hd : dep ≤ 60) : SeqAt.shaped d = true := by
  unfold SeqAt.shaped
  rw [Bool.and_eq_true]
  refine ⟨h.cl, decide_eq_true ?_⟩
  have := h.dp
  omega
end DL

/-! Core42: x, y, z = a, b, c with plain names -/
namespace DL
open PySem PySem.Spec PyProof.Rows L2
section
variable {X : Cx} {Γ : VEnv} {M : Mem} {E : DE} {pos : Pos} {Ln Vn Bn Fn : List Str} {a b c : Expr}
end
end DL

/-! Core43: a class is an exception of itself (exm_self); a statement that changes nothing; lists read in a greater memory -/
namespace DL
open PySem PySem.Spec PyProof.Rows L2
theorem exm_self {K : PySem.W.Frag} {S : Addr} (h1 : PySem.W.subIn K (.ref S) (.type "BaseException") = some true) (h2 : PySem.W.isClsIn K S = true) (h3 : PySem.W.typeIn K (.ref S) = some (.type "type")) (h4 : PySem.W.subIn K (.ref S) (.ref S) = some true) :
    PySem.W.exmOne K (.ref S) (.ref S) = some true := by
  have e1 : (PySem.W.subIn K (.ref S) (.type "BaseException") == some true) = true := by rw [h1] <;> rfl
  have e2 : ((PySem.W.clsIn K S).isSome && PySem.W.typeIn K (.ref S) == some (.type "type")) = true := by
    have h2' : (PySem.W.clsIn K S).isSome = true := h2
    rw [h2', h3] <;> rfl
  show (if (PySem.W.subIn K (.ref S) (.type "BaseException") == some true) = true then (if ((PySem.W.clsIn K S).isSome && PySem.W.typeIn K (.ref S) == some (.type "type")) = true then PySem.W.subIn K (.ref S) (.ref S) else none) else none) = some true
  rw [if_pos e1, if_pos e2]
  exact h4
end DL

/-! Core44: a class's function called by the class's name (we_cf); runs that share boxes as a machine of small steps (nxtQ); reachability of any machine (Rg) -/
namespace DL
open PySem PySem.Spec PyProof.Rows L2
/-- x.m, x the class at C, is the def at f, called with all its arguments -/
structure Cf (P : Program) (w : World) (K : PySem.W.Frag) (mg : Str → Option Value) (base : Heap) (k : Nat) (x : Str) (m : Str) (n : Nat) (G : DSp) : Prop where
  ex : ∃ (C f : Addr) (fd : FuncData) (ps : List Str), mg x = some (.ref C) ∧ PySem.W.specialIn K (.ref C) "__getattribute__" = some (some (.builtin "type.__getattribute__")) ∧ PySem.W.readsIn K C (.type "type") = true ∧ PySem.W.findCls K (.ref C) (.type "type") m = some (.val (.ref f)) ∧ PySem.W.keepIn K (.ref f) = true ∧
    Binds K fd ps [] ∧ ps.length = n ∧ GOk P w K mg base k f fd ps (spD K n G)
section
variable {X : Cx} {Γ : VEnv} {M : Mem} {Q : D → Mem → Prop} {e : Expr} {es : List Expr} {m x : Str} {p pos apos : Pos} {Ln Vn Bn Fn : List Str} {k n : Nat} {C : Addr} {G : DSp}
theorem we_cf {pl : Sem Bool} (hm : Cf X.prog X.w X.K X.mg X.base k x m n G) (hr : Room k X.A) (st : Stat X Ln Vn Bn Fn) (hx : x ∈ Fn) (h : WA X Γ M (e :: es) fun ds M2 => ds.length = n ∧ G ds M2 Q)
    (hst : starEach (e :: es) X.env = (false, eval e X.env) :: starEach es X.env := by rfl) (hpl : (backTo pos (starEach es X.env)).any (·.1) = false := by rfl)
    (ht : eval (.Call (.Attribute (.Name x p) m apos) (e :: es) [] pos) X.env = (do
      let ov ← eval (.Name x p) X.env
      standAt apos.atName
      let (f, first) ← holding [ov] (getMethod ov m pl)
      callWith pos f first (backTo pos (starEach (e :: es) X.env)) (backToKw pos (keywordEach [] X.env))) := by rfl) : WE X Γ M (.Call (.Attribute (.Name x p) m apos) (e :: es) [] pos) Q := by
  obtain ⟨C, f, fd, ps, hmg, hga, hrd, hat, hkp, hb, hn, Gk⟩ := hm.ex
  intro S σ H hΓ hM
  intro pins s I
  refine PySem.W.methodCall_KW (pl := pl) (ld_glob I (st.gfn x hx).1 hmg ?_ (st.gfn x hx).2) ht
  refine PySem.W.method_cls I.kIn hga (PySem.W.cls_value I.kIn hrd hat (handed_of (v := V.ref f) rfl) ?_)
  refine PySem.W.callWith_K (first := []) (h₀ := X.base) I.ok.mod.kin hkp (thn (h S σ H hΓ hM pos pins _ (I.tok _)) ?_) hst hpl
  rintro ys s2 ⟨vs, H2, I2, r, ds, M2, S2, ⟨hl2, q⟩, s12, m2, r2⟩
  exact ⟨I2.kIn, run_g (us := ys) (vs := vs) Gk st.gd hr hb I2 r ⟨by rw [r2.length]; omega, S2, M2, ds, Q, m2, r2, q, fun v H' z => z.weak s12⟩⟩
end
/-- what a machine of small steps comes to -/
inductive Rg {C : Type} (st : C → Str ⊕ C) (a : C) : C → Prop
  | refl : Rg st a a
  | step {b c : C} : Rg st a b → st b = .inr c → Rg st a c
section
variable {C : Type} {st : C → Str ⊕ C}
theorem Rg.head {a c : C} (h : Rg st a c) : a = c ∨ ∃ b, st a = .inr b ∧ Rg st b c := by
  induction h with
  | refl => exact .inl rfl
  | step h e ih =>
    rcases ih with rfl | ⟨b, e1, h1⟩
    · exact .inr ⟨_, e, .refl⟩
    · exact .inr ⟨b, e1, h1.step e⟩
theorem Rg.line {a b c : C} {z : Str} (h : Rg st a b) (hc : Rg st a c) (hz : st c = .inl z) : Rg st b c := by
  induction h with
  | refl => exact hc
  | step h e ih =>
    rcases ih.head with rfl | ⟨b', e1, h1⟩
    · rw [e] at hz; cases hz
    · rw [e] at e1; cases e1; exact h1
theorem Rg.uniq {a b c : C} {y z : Str} (h : Rg st a b) (hy : st b = .inl y) (hc : Rg st a c) (hz : st c = .inl z) : b = c ∧ y = z := by
  rcases (h.line hc hz).head with rfl | ⟨b', e, _⟩
  · rw [hy] at hz; cases hz; exact ⟨rfl, rfl⟩
  · rw [hy] at e; cases e
theorem Rg.trans {a b c : C} (h : Rg st a b) (g : Rg st b c) : Rg st a c := by
  induction g with
  | refl => exact h
  | step _ e ih => exact ih.step e
end
end DL
namespace DL
open PySem PySem.Spec PyProof.Rows L2 Wk
/-! ### the machine of runs that share boxes -/
structure Fq where
  wk : Nat
  fm : Int
  to : Nat
  idx : Option Nat
  ah : List Int
  sh : List (Int × Int)
structure Rq extends Rs where
  held : List Int
  faults : List (Nat × Nat)
  mv : Int × Int
def Fq.way (f : Fq) : Int × Int := (f.fm, (f.to : Int))
def badOf (wk : Nat) (held ah : List Int) : List (Nat × Nat) := ((List.range 8).filter fun b => decide (held.getD b 0 ≠ ah.getD b 0)).map fun b => (wk, b)
def nxtQ (ws : List W) (chs : List Int) (most : Nat) (rs : Rq) : List Fq → Str ⊕ (Rq × List Fq)
  | [] => .inl "ended"
  | f :: K =>
    if (ws.getD f.wk []).length ≤ f.to then .inr ({ rs with gone := bumpG rs.gone f.wk f.way, faults := rs.faults ++ badOf f.wk rs.held f.ah }, K)
    else match f.idx with
      | none => if most ≤ rs.steps then .inl "going" else .inr ({ rs with steps := rs.steps + 1, gone := bumpG rs.gone f.wk f.way }, { f with idx := some 0 } :: K)
      | some i =>
        match ((ws.getD f.wk []).getD f.to bk0).1[i]? with
        | none => .inr ({ rs with taken := (pickE chs rs.taken (ws.getD f.wk []).length ((ws.getD f.wk []).getD f.to bk0).2).2 }, { f with fm := (f.to : Int), to := (pickE chs rs.taken (ws.getD f.wk []).length ((ws.getD f.wk []).getD f.to bk0).2).1, idx := none } :: K)
        | some (.save b) => .inr ({ rs with mv := (rs.mv.1 + 1, rs.mv.2) }, { f with idx := some (i + 1), sh := putA f.sh (b : Int) (rs.held.getD b 0) } :: K)
        | some (.back b) => match valA f.sh (b : Int) with
          | none => .inl "bare"
          | some v => .inr ({ rs with held := rs.held.set b v, mv := (rs.mv.1, rs.mv.2 + 1) }, { f with idx := some (i + 1) } :: K)
        | some (.set b n) => if most ≤ rs.steps then .inl "going" else .inr ({ rs with steps := rs.steps + 1, held := rs.held.set b n }, { f with idx := some (i + 1) } :: K)
        | some (.add b o) => if most ≤ rs.steps then .inl "going" else .inr ({ rs with steps := rs.steps + 1, held := rs.held.set b (rs.held.getD b 0 + rs.held.getD o 0) }, { f with idx := some (i + 1) } :: K)
        | some (.tell b) => if most ≤ rs.steps then .inl "going" else .inr ({ rs with steps := rs.steps + 1, told := rs.told ++ [rs.held.getD b 0] }, { f with idx := some (i + 1) } :: K)
        | some (.call m) => if most ≤ rs.steps then .inl "going" else if K.length + 1 = 20 then .inl "deep" else .inr ({ rs with steps := rs.steps + 1 }, { wk := m, fm := -1, to := 0, idx := none, ah := rs.held, sh := [] } :: { f with idx := some (i + 1) } :: K)
abbrev ConfQ := Rq × List Fq
abbrev nxQ (ws : List W) (chs : List Int) (most : Nat) (c : ConfQ) : Str ⊕ ConfQ := nxtQ ws chs most c.1 c.2
abbrev RgQ (ws : List W) (chs : List Int) (most : Nat) (a c : ConfQ) : Prop := Rg (nxQ ws chs most) a c
/-- what is laid aside, as a dict -/
def shD (g : List (Int × Int)) : List (Key × D) := g.map fun p => ((.inl p.1 : Key), D.int p.2)
end DL

/-! Core45: o[i] += e over owned lists of ints -/
namespace DL
open PySem PySem.Spec PyProof.Rows L2
section
variable {X : Cx} {Γ : VEnv} {M : Mem} {Q : D → Mem → Prop} {o i e : Expr} {pos tpos : Pos} {E : DE} {Ln Vn Bn Fn : List Str}
def rGetL (K : PySem.W.Frag) : V → V → Hp → VK → Prop := fun x y H Q => ∃ (p : Addr) (xs : List V) (i : Int) (v : V), x = .ref p ∧ y = .int i ∧ SqL K H p xs ∧ atI xs i = some v ∧ 0 ≤ i ∧ Q v H
end
end DL

/-! Core46: reprs: small numbers, tuples of unlike parts -/
namespace DL
open PySem PySem.Spec PyProof.Rows L2
theorem cd_tuple {X : Cx} {M : Mem} {Q : D → Mem → Prop} {d : D} {ds : List D} (h : IsR M d ds ∨ d = .tup ds) (q : Q (.tup ds) M) : CD X (.type "tuple") [d] M Q := cd_of call_tuple_of fun S H xs rx m => by
  obtain ⟨v, rfl, rv⟩ := reps_one rx
  rcases h with h | rfl
  · obtain ⟨pa, us, rfl, h1, r1⟩ := h.get m rv
    exact ⟨pa, us, rfl, .inl ⟨h1, post_tup m r1 q⟩⟩
  · have rv2 := rv
    obtain ⟨pa, us, rfl, h1, r1⟩ := Rep.tup_get m rv
    exact ⟨pa, us, rfl, .inr ⟨.of h1, ⟨.tup ds, M, S, q, .refl _, m, rv2⟩⟩⟩
end DL

/-! Core47: dicts with pairs as keys, made of lists of pairs; min of a list; d[k] += e -/
namespace DL
open PySem PySem.Spec PyProof.Rows L2 Wk
/-- key, where the key lies, where the pair lies, value -/
abbrev KPv := List Key × Addr × Addr × V
def rDT (K : PySem.W.Frag) : List V → Hp → VK → Prop := fun xs H Q => ∃ (a : Addr) (ks : List KPv), xs = [.ref a] ∧ SqL K H a (ks.map fun k => V.ref k.2.2.1) ∧ (∀ k ∈ ks, H k.2.2.1 = some (.tup [V.ref k.2.1, k.2.2.2])) ∧ (∀ k ∈ ks, H k.2.1 = some (.tup (k.1.map kV))) ∧ (ks.map (·.1)).Nodup ∧
  ∀ p, H p = none → Q (.ref p) (upd H p (.dT (ks.map fun k => (k.1, k.2.2.2))))
section
variable {X : Cx} {Γ : VEnv} {M : Mem} {Q : D → Mem → Prop} {o i e : Expr} {pos tpos : Pos} {E : DE} {Ln Vn Bn Fn : List Str}
end
end DL

/-! Core48: xs[::-1], repr(None) -/
namespace DL
open PySem PySem.Spec PyProof.Rows L2
section
variable {X : Cx} {Γ : VEnv} {M : Mem} {Q : D → Mem → Prop} {e : Expr}
theorem we_revL {k : Nat} {p1 p2 p3 pos : Pos} (h : WE X Γ M e fun d M1 => ∃ ds, IsR M1 d ds ∧ Q (.lst ds.reverse) M1) : WE X Γ M (.Subscript e (.Slice none none (some (.UnaryOp .USub (.Constant (.int 1) k p1) p2)) p3) pos) Q := by
  intro S σ H hΓ hM
  refine tE_of (pe_revL pe_c) (tE_post (h S σ H hΓ hM) fun d M1 S1 x H1 ⟨ds, hd, q⟩ s1 m1 r1 => ?_)
  obtain ⟨a, xs, rfl, hx, rs⟩ := hd.get m1 r1
  exact ⟨a, xs, rfl, hx, fun p hp => (post_lst m1 (reps_rev rs) q p hp).weak s1⟩
theorem call_repr_non : CallR X (.builtin "repr") (fun xs H Q => xs = [.non] ∧ Q (.str "None") H) := by
  intro pins s σ H xs us Q I r h
  obtain ⟨rfl, q⟩ := h
  cases r with
  | cons p r =>
    cases r
    cases (show _ = Value.none from p)
    exact PySem.P.repr_of_none ⟨.str _, H, I.tok _, ⟨_, rfl⟩, q⟩
theorem cd_reprN (q : Q (.str "None") M) : CD X (.builtin "repr") [.non] M Q := cd_of call_repr_non fun S H xs rx m => by
  obtain ⟨v, rfl, rv⟩ := reps_one rx
  rw [rv.non_inv]
  exact ⟨rfl, .of m (.str _) q⟩
end
end DL

/-! Core49: {k: v} of one pair, the key being any expression -/
namespace DL
open PySem PySem.Spec PyProof.Rows L2
section
variable {X : Cx} {Γ : VEnv} {M : Mem} {Q : D → Mem → Prop} {pos : Pos}
theorem we_disp1 {k v : Expr} (h : ∀ p, WE X Γ ((p, .dK []) :: M) k fun dk M1 => WE X Γ M1 v fun d M2 => ∃ (kk : Key) (f : Cell → Mem), dk = kD kk ∧ At p M2 (.dK []) f ∧ Q (.ref p) (f (.dK [(kk, d)]))) : WE X Γ M (.Dict [some k] [v] pos) Q := by
  intro S σ H hΓ hM
  refine tE_of (pe_disp (pps_c (ks := [some k]) (vs := [v]) rfl rfl) rfl rfl (by intro h; cases h) (by show (1 : Nat) ≤ 15; omega)) fun p hp => ?_
  show tE X k σ _ _
  refine tE_post (h p S σ _ hΓ (hM.alloc hp ⟨[], upd_same, .nil⟩)) fun dk M1 S1 x H1 q1 s1 m1 r1 => ?_
  refine tE_post (q1 S1 σ H1 (hΓ.mono s1) m1) fun d M2 S2 y H2 q2 s2 m2 r2 => ?_
  obtain ⟨kk, f, rfl, hat, q⟩ := q2
  obtain ⟨zs, hz, pz⟩ := m2.at_ok hat
  have : zs = [] := by have := pz.length; simpa using this
  subst this
  exact ⟨hz, [(kk, y)], by rw [rep_kD (r1.mono s2)]; rfl, (by show (1 : Nat) ≤ 15; omega), _, _, S2, q, s1.trans s2, m2.write hat (c' := .dK [(kk, d)]) ⟨_, upd_same, .cons r2 .nil⟩, .ref p⟩
end
end DL

/-! Core50: a dict of owned lists is frozen; a promise made weaker -/
namespace DL
open PySem PySem.Spec PyProof.Rows L2 Wk
section
variable {X : Cx} {Γ : VEnv} {M M2 : Mem} {Q : D → Mem → Prop} {E : DE} {sts : List Stmt} {e : Expr}
def plF (cs : Cs) : Pl := cs.map fun c => (c.1, c.2.2)
end
/-- a weaker promise of a def -/
theorem Fs.weak {P : Program} {w : World} {K : PySem.W.Frag} {mg : Str → Option Value} {base : Heap} {k n : Nat} {x : Str} {G G' : DSp} (h : Fs P w K mg base k x n G) (e : ∀ ds M Q, G' ds M Q → G ds M Q) : Fs P w K mg base k x n G' := by
  obtain ⟨f, fd, ps, h1, h2, h3, h4, Gk⟩ := h.ex
  refine ⟨f, fd, ps, h1, h2, h3, h4, ⟨fun vs H Q E ⟨a, S, M, ds, q, b, c, d, g⟩ => Gk.len vs H Q E ⟨a, S, M, ds, q, b, c, e _ _ _ d, g⟩, fun A hA outer s H args us vs Q E hr he hb hv ⟨a, S, M, ds, q, b, c, d, g⟩ => Gk.run A hA outer s H args us vs Q E hr he hb hv ⟨a, S, M, ds, q, b, c, e _ _ _ d, g⟩⟩⟩
end DL

/-! Core51: list(zip(xs, ys)) of any lists -/
namespace PySem
open PySem PySem.Spec PyProof.Rows PySem.Calls
section
variable {P : Program} {w : World} {A : Around} {s : Shared} {xs ys : Array Value} {z TI TO i1 i2 l1 l2 S : Addr}
/-- zip's turn, while at S a list grows -/
structure ZlAt (z TI TO i1 i2 l1 l2 S : Addr) (xs ys : Array Value) (i : Nat) (h : Heap) : Prop where
  pr : IsPair h TI (.ref i1) (.ref i2)
  a : h.IsListIter i1 l1 i
  b : h.IsListIter i2 l2 i
  la : h.IsList l1 xs
  lb : h.IsList l2 ys
  st : (IsZip h z TI TO .none ∧ ∃ u v, IsPair h TO u v) ∨ ∃ T f oT, IsZipHeld h z TI TO T f ∧ h.get? T = some oT ∧ T ≠ z ∧ T ≠ i1 ∧ T ≠ i2 ∧ T ≠ S
structure ZlFar (z TI TO i1 i2 l1 l2 S : Addr) : Prop where
  z : z < S
  TI : TI < S
  TO : TO < S
  i1 : i1 < S
  i2 : i2 < S
  l1 : l1 < S
  l2 : l2 < S
theorem ZlAt.keep {i : Nat} {h h' : Heap} (q : ZlAt z TI TO i1 i2 l1 l2 S xs ys i h) (F : ZlFar z TI TO i1 i2 l1 l2 S) (e : ∀ b o, b ≠ S → h.get? b = some o → h'.get? b = some o) : ZlAt z TI TO i1 i2 l1 l2 S xs ys i h' := by
  obtain ⟨q1, q2, q3, q4, q5, q6⟩ := q
  refine ⟨e _ _ (Nat.ne_of_lt F.TI) q1, q2.at fun o => e _ o (Nat.ne_of_lt F.i1), q3.at fun o => e _ o (Nat.ne_of_lt F.i2), q4.at fun o => e _ o (Nat.ne_of_lt F.l1), q5.at fun o => e _ o (Nat.ne_of_lt F.l2), ?_⟩
  rcases q6 with ⟨g, u, v, g2⟩ | ⟨T, f, oT, g, g2, n1, n2, n3, n4⟩
  · exact .inl ⟨e _ _ (Nat.ne_of_lt F.z) g, u, v, e _ _ (Nat.ne_of_lt F.TO) g2⟩
  · exact .inr ⟨T, f, oT, e _ _ (Nat.ne_of_lt F.z) g, e _ _ n4 g2, n1, n2, n3, n4⟩
/-- the tuples made so far, above S -/
structure ZlGot (S : Addr) (xs ys : Array Value) (h : Heap) (as : List Addr) : Prop where
  rise : as.Pairwise (· < ·)
  up : ∀ a ∈ as, S < a
  pr : ∀ (j : Nat) (a : Addr), as[j]? = some a → ∃ x y, xs[j]? = some x ∧ ys[j]? = some y ∧ IsPair h a x y
abbrev zlL (acc : Array Value) (c : Nat) : Obj := { cls := .type "list", dict := none, data := .seq acc c, slots := #[] }
end
end PySem

/-! Core52: list(zip(xs, ys)) in a memory of one's own -/
namespace DL
open PySem PySem.Spec PyProof.Rows L2
/-- list(zip(e1, e2)) -/
def tLZ (K : PySem.W.Frag) (ta : TA) : TE := fun σ H Q => ta σ H fun vs H1 => ∃ (a b : Addr) (xs ys : List V), vs = [.ref a, .ref b] ∧ SqL K H1 a xs ∧ SqL K H1 b ys ∧ xs.length = ys.length ∧ ∀ (H2 : Hp) (p : Addr) (as : List Addr), Same H1 H2 → H1 p = none → H2 p = some (.lst (as.map V.ref)) → as.length = xs.length →
  (∀ (j : Nat) (t : Addr) (x y : V), as[j]? = some t → xs[j]? = some x → ys[j]? = some y → H2 t = some (.tup [x, y])) → Q (.ref p) H2
section
variable {K : PySem.W.Frag} {S H : Hp} {M : Mem}
variable {X : Cx} {Γ : VEnv} {Q : D → Mem → Prop} {Ln Vn Bn Fn : List Str}
end
end DL

/-! Core53: things of any kind: are they deeds, ends, blocks, works; a tuple that begins with a text compared with one of a text alone -/
namespace DL
open PySem PySem.Spec PyProof.Rows L2 Wk
/-- a thing of any kind, as deep as it is -/
inductive Vl (M : Mem) : D → Prop
  | non : Vl M .non
  | bl (b : Bool) : Vl M (.bl b)
  | int (i : Int) : Vl M (.int i)
  | str (x : Str) : Vl M (.str x)
  | lst {xs : List D} : xs.length ≤ 1000000 → (∀ x ∈ xs, Vl M x) → Vl M (.lst xs)
  | tup {xs : List D} : xs.length ≤ 1000000 → (∀ x ∈ xs, Vl M x) → Vl M (.tup xs)
  | dK {a : Addr} {f : Cell → Mem} {kvs : List (Key × D)} (h : At a M (.dK kvs) f) : Vl M (.ref a)
variable {M : Mem}
theorem Vl.ty {d : D} (h : Vl M d) : ∃ t, IsT M d t := by
  cases h with
  | non => exact ⟨_, .non⟩
  | bl b => exact ⟨_, .bl b⟩
  | int i => exact ⟨_, .int i⟩
  | str x => exact ⟨_, .str x⟩
  | lst _ _ => exact ⟨_, .lst isL_lst⟩
  | tup _ _ => exact ⟨_, .tup _⟩
  | dK h => exact ⟨_, .dK h⟩
theorem Vl.cons {q : Addr × Cell} {d : D} (h : Vl M d) : Vl (q :: M) d := by
  induction h with
  | non => exact .non
  | bl b => exact .bl b
  | int i => exact .int i
  | str x => exact .str x
  | lst hl _ ih => exact .lst hl ih
  | tup hl _ ih => exact .tup hl ih
  | dK h => exact .dK (.there h)
theorem Vl.app {d : D} (h : Vl M d) : ∀ G : Mem, Vl (G ++ M) d
  | [] => h
  | _ :: G => (Vl.app h G).cons
def strD : D → Option Str
  | .str x => some x
  | _ => none
theorem IsT.strD {d : D} {t : String} (h : IsT M d t) : (t == "str") = (strD d).isSome := by
  cases h with
  | lst h => rcases h with rfl | ⟨_, _, rfl, _⟩ <;> (show ("list" == "str") = false; decide +kernel)
  | tup xs => show ("tuple" == "str") = false; decide +kernel
  | dK h => show ("dict" == "str") = false; decide +kernel
  | fzK h => show ("dict" == "str") = false; decide +kernel
  | non => decide +kernel
  | bl b => show ("bool" == "str") = false; decide +kernel
  | int i => show ("int" == "str") = false; decide +kernel
  | str x => show ("str" == "str") = true; decide +kernel
theorem IsT.notTup {xs : List D} {t : String} (h : IsT M (.tup xs) t) : t = "tuple" := by
  cases h with
  | tup => rfl
  | lst h => rcases h with h | ⟨_, _, h, _⟩ <;> cases h
def isLD : D → Bool
  | .lst _ => true
  | _ => false
def isTD : D → Bool
  | .tup _ => true
  | _ => false
end DL
namespace Wk
open PySem DL
/-- the n-th part -/
abbrev nth (r : List D) (n : Nat) : D := r.getD n .non
def deedR (nw : Nat) (k : Str) (r : List D) : Bool := if k = "call" then decide (r.length = 1) && amD 0 nw (nth r 0) else
      decide (1 ≤ r.length) && (amD 0 8 (nth r 0) && (if k = "set" then decide (r.length = 2) && isI (nth r 1) else if k = "add" then decide (r.length = 2) && amD 0 8 (nth r 1) else decide (k ∈ (["tell", "save", "back"] : List Str)) && decide (r.length = 1)))
def deedB (nw : Nat) : D → Bool
  | .tup (.str k :: r) => deedR nw k r
  | _ => false
def endR (m : Nat) (k : Str) (r : List D) : Bool := if k = "go" then decide (r.length = 1) && amD 1 m (nth r 0) else if k = "fork" then decide (r.length = 2) && (amD 1 m (nth r 0) && (amD 1 m (nth r 1) && !decide (intD (nth r 0) = intD (nth r 1)))) else decide (k = "out") && r.isEmpty
def endB (m : Nat) : D → Bool
  | .tup (.str k :: r) => endR m k r
  | _ => false
def blockB (m nw : Nat) : D → Bool
  | .tup [.lst xs, e] => xs.all (deedB nw) && endB m e
  | _ => false
def nxD : D → List Nat
  | .tup [_, .tup (_ :: r)] => r.map fun x => (intD x).toNat
  | _ => []
noncomputable def workB (nw : Nat) : D → Bool
  | .lst xs => !xs.isEmpty && (xs.all (blockB xs.length nw) && decide ((comeL (xs.map nxD) [0]).length = xs.length))
  | _ => false
noncomputable def worksB : D → Bool
  | .lst xs => !xs.isEmpty && xs.all (workB xs.length)
  | _ => false
def DdB (nw : Nat) : Dd → Prop
  | .set b _ => b < 8
  | .add b o => b < 8 ∧ o < 8
  | .tell b => b < 8
  | .call w => w < nw
  | .save b => b < 8
  | .back b => b < 8
/-- a work that is one -/
structure WkOk (nw : Nat) (w : W) : Prop where
  pos : 0 < w.length
  ok : ∀ k ∈ w, (∀ dd ∈ k.1, DdB nw dd) ∧ k.2.Ok w.length
  all : (comeL (nexts w) [0]).length = w.length
end Wk

/-! Core54: d.setdefault(k, x) of dicts whose keys are tuples; such dicts walked over -/
namespace DL
open PySem PySem.Spec PyProof.Rows L2 Wk
section
variable {X : Cx}
variable {Γ : VEnv} {M : Mem} {Q : D → Mem → Prop} {Ln Vn Bn Fn : List Str}
end
end DL

/-! Core55: dicts whose keys are tuples walked over, by their keys -/
namespace DL
open PySem PySem.Spec PyProof.Rows L2 Wk
section
variable {X : Cx} {Γ : VEnv} {M : Mem} {E : DE} {Q : D → Mem → Prop} {QI : List D → (Mem → Prop) → Mem → Prop} {Ln Vn Bn Fn : List Str}
def LkT (a : Addr) (o : Obj) (us : List (List Key × V)) (kvs : List (List Key × D)) (P : Mem → Prop) (M : Mem) : Prop := ∃ f, At a M (.fzT o us kvs) f ∧ P (f (.dT kvs))
variable {tg iter : Expr}
end
end DL

/-! Core56: what is put on ways, by ways: groups (setdefault, append); works in which it is put, plain; list.index -/
namespace Wk
open PySem DL L2
def bwD (p : Put) : D := .tup [natD p.box, .str p.word]
def bwP (p : Put) : PyData := .tuple [.int (p.box : Int), .str p.word]
/-- one way's, by box and word -/
def bwS (l : List Put) : List Put := l.mergeSort (PySem.W.dataLe false bwP)
def Put.dd (p : Put) : Dd := if p.sv then .save p.box else .back p.box
/-- the ways as they come first -/
def firsts (l : List (Int × Int)) : List (Int × Int) := l.foldl (fun acc y => if y ∈ acc then acc else acc ++ [y]) []
theorem firsts_snoc (l : List (Int × Int)) (y : Int × Int) : firsts (l ++ [y]) = if y ∈ firsts l then firsts l else firsts l ++ [y] := by
  unfold firsts
  rw [List.foldl_append]; rfl
theorem firsts_mem (l : List (Int × Int)) : ∀ y, y ∈ firsts l ↔ y ∈ l := by
  suffices h : ∀ (l acc : List (Int × Int)) y, y ∈ l.foldl (fun acc y => if y ∈ acc then acc else acc ++ [y]) acc ↔ y ∈ acc ∨ y ∈ l by
    intro y; unfold firsts; rw [h]; simp
  intro l
  induction l with
  | nil => simp
  | cons a l ih =>
    intro acc y
    rw [List.foldl_cons, ih]
    by_cases h : a ∈ acc
    · rw [if_pos h]; simp only [List.mem_cons]
      constructor
      · rintro (h1 | h1)
        · exact .inl h1
        · exact .inr (.inr h1)
      · rintro (h1 | rfl | h1)
        · exact .inl h1
        · exact .inl h
        · exact .inr h1
    · rw [if_neg h]; simp only [List.mem_cons, List.mem_append, List.mem_singleton, List.not_mem_nil, or_false]
      constructor
      · rintro ((h1 | h1) | h1)
        · exact .inl h1
        · exact .inr (.inl h1)
        · exact .inr (.inr h1)
      · rintro (h1 | h1 | h1)
        · exact .inl (.inl h1)
        · exact .inl (.inr h1)
        · exact .inr h1
theorem firsts_nd (l : List (Int × Int)) : (firsts l).Nodup := by
  suffices h : ∀ (l acc : List (Int × Int)), acc.Nodup → (l.foldl (fun acc y => if y ∈ acc then acc else acc ++ [y]) acc).Nodup from h l [] .nil
  intro l
  induction l with
  | nil => exact fun _ h => h
  | cons a l ih =>
    intro acc h
    rw [List.foldl_cons]
    refine ih _ ?_
    by_cases hm : a ∈ acc
    · rw [if_pos hm]; exact h
    · rw [if_neg hm]
      exact List.nodup_append.mpr ⟨h, by simp, fun x hx y hy e => hm (by rw [List.mem_singleton.mp hy] at e; exact e ▸ hx)⟩
/-- groups: a way, where its list lies, the list -/
abbrev Gc := List ((Int × Int) × Addr × List Put)
def gcM (gs : Gc) : Mem := gs.map fun g => (g.2.1, Cell.lst (g.2.2.map bwD))
def gcK (gs : Gc) : List (List Key × D) := gs.map fun g => (keyI g.1, D.ref g.2.1)
structure GcOk (L : List Put) (gs : Gc) : Prop where
  keys : gs.map (·.1) = firsts (L.map (·.way))
  val : ∀ g ∈ gs, g.2.2 = L.filter fun p => decide (p.way = g.1)
theorem GcOk.nil : GcOk [] [] := ⟨rfl, fun _ h => by cases h⟩
theorem GcOk.more {L : List Put} {gs : Gc} {j : Nat} {g : (Int × Int) × Addr × List Put} {p : Put} (ok : GcOk L gs) (h : gs[j]? = some g) (hw : g.1 = p.way) : GcOk (L ++ [p]) (gs.set j (g.1, g.2.1, g.2.2 ++ [p])) := by
  have hm := List.mem_of_getElem? h
  have nd : (gs.map (·.1)).Nodup := by rw [ok.keys]; exact firsts_nd _
  have hk : gs.map (·.1) = (gs.set j (g.1, g.2.1, g.2.2 ++ [p])).map (·.1) := by
    refine List.ext_getElem? fun i => ?_
    rw [List.getElem?_map, List.getElem?_map]
    by_cases e : j = i
    · subst e
      rw [List.getElem?_set_self (List.getElem?_eq_some_iff.mp h).1, h]; rfl
    · rw [List.getElem?_set_ne e]
  refine ⟨?_, fun q hq => ?_⟩
  · rw [← hk, List.map_append, List.map_singleton, firsts_snoc, if_pos (by rw [← ok.keys, ← hw]; exact List.mem_map.mpr ⟨g, hm, rfl⟩)]
    exact ok.keys
  · obtain ⟨i, hi⟩ := List.mem_iff_getElem?.mp hq
    rw [List.filter_append]
    by_cases e : j = i
    · subst e
      rw [List.getElem?_set_self (List.getElem?_eq_some_iff.mp h).1] at hi
      cases hi
      show g.2.2 ++ [p] = _
      rw [ok.val g hm]
      simp [hw]
    · rw [List.getElem?_set_ne e] at hi
      have hqm := List.mem_of_getElem? hi
      rw [ok.val q hqm, List.filter_cons, if_neg, List.filter_nil, List.append_nil]
      · intro z
        have z : p.way = q.1 := of_decide_eq_true z
        have h1 : (gs.map (·.1))[j]? = some g.1 := by rw [List.getElem?_map, h]; rfl
        have h2 : (gs.map (·.1))[i]? = some q.1 := by rw [List.getElem?_map, hi]; rfl
        rw [← z, ← hw] at h2
        exact e ((List.getElem?_inj (List.getElem?_eq_some_iff.mp h1).1 nd).mp (h1.trans h2.symm))
theorem GcOk.new {L : List Put} {gs : Gc} {p : Put} {a : Addr} (ok : GcOk L gs) (h : p.way ∉ gs.map (·.1)) : GcOk (L ++ [p]) (gs ++ [(p.way, a, [p])]) := by
  have hn : p.way ∉ firsts (L.map (·.way)) := by rw [← ok.keys]; exact h
  refine ⟨?_, fun q hq => ?_⟩
  · rw [List.map_append, List.map_append, List.map_singleton, List.map_singleton, firsts_snoc, if_neg hn, ok.keys]
  · rw [List.filter_append]
    rcases List.mem_append.mp hq with hq | hq
    · rw [ok.val q hq, List.filter_cons, if_neg, List.filter_nil, List.append_nil]
      intro z
      have z : p.way = q.1 := of_decide_eq_true z
      exact h (z ▸ List.mem_map.mpr ⟨q, hq, rfl⟩)
    · rw [List.mem_singleton] at hq
      subst hq
      have : L.filter (fun q => decide (q.way = p.way)) = [] := List.filter_eq_nil_iff.mpr fun q hq z => hn ((firsts_mem _ _).mpr (List.mem_map.mpr ⟨q, hq, of_decide_eq_true z⟩))
      show [p] = _
      rw [this]
      simp
/-! ### plain: what is built -/
/-- all that is put, in order -/
noncomputable def allP (w : W) (pl : Pl) : List Put := sortP (putsL (ways w) pl)
noncomputable def mvW (w : W) (pl : Pl) : List (Int × Int) := firsts ((allP w pl).map (·.way))
noncomputable def mvs (w : W) (pl : Pl) (y : Int × Int) : List Dd := (bwS ((allP w pl).filter fun p => decide (p.way = y))).map Put.dd
noncomputable def mvK (w : W) (pl : Pl) : List (List Key × D) := (mvW w pl).map fun y => (keyI y, .lst ((mvs w pl y).map Dd.d))
end Wk
namespace DL
open PySem PySem.Spec PyProof.Rows L2 Wk
end DL

/-! Core57: works in which plans are put, plain -/
namespace Wk
open PySem DL L2
/-- where the ways of a block lead when some are others -/
def toN (nw : List (Nat × Nat)) (t : Nat) : Nat := ((nw.find? fun p => decide (p.1 = t)).map (·.2)).getD t
def turnN (nw : List (Nat × Nat)) : Nd → Nd
  | .out => .out
  | .go t => .go (toN nw t)
  | .fork t o => .fork (toN nw t) (toN nw o)
def nwK (nw : List (Nat × Nat)) : List (Key × D) := nw.map fun p => ((Sum.inl (p.1 : Int) : Key), natD p.2)
/-- the new blocks for the ways of block k that are split; they begin at n + i -/
def nwL (n k : Nat) : Nat → List (Int × Int) → List (Nat × Nat)
  | _, [] => []
  | i, y :: r => (if y.1 = (k : Int) then [(y.2.toNat, n + i)] else []) ++ nwL n k (i + 1) r
/-! where things stand -/
noncomputable def bgs (w : W) (pl : Pl) (k : Int) : List (Int × Int) := (mvW w pl).filter fun y => decide (homeL w y = "begin") && decide (y.2 = k)
noncomputable def ens (w : W) (pl : Pl) (k : Int) : List (Int × Int) := (mvW w pl).filter fun y => decide (homeL w y = "end") && decide (y.1 = k)
noncomputable def bgL (w : W) (pl : Pl) (k : Int) : List Dd := (bgs w pl k).flatMap (mvs w pl)
noncomputable def enL (w : W) (pl : Pl) (k : Int) : List Dd := (ens w pl k).flatMap (mvs w pl)
/-- a block as it is built -/
noncomputable def bltB (w : W) (pl : Pl) (k : Nat) (b : Bk) : Bk := (bgL w pl k ++ b.1 ++ enL w pl k, turnN (nwL w.length k 0 (splitsL w pl)) b.2)
noncomputable def splB (w : W) (pl : Pl) (y : Int × Int) : Bk := (mvs w pl y, .go y.2.toNat)
noncomputable def bltW (w : W) (pl : Pl) : W := w.mapIdx (bltB w pl) ++ (splitsL w pl).map (splB w pl)
end Wk

/-! Core58: what is built is works; repr of much, its ints counted by number -/
namespace DL
open PySem PySem.Spec PyProof.Rows L2 Wk
structure ShB (dep n : Nat) (d : PyData) : Prop where
  sh : d.showable = true
  dp : d.depth ≤ dep
  bk : d.bulk ≤ n
  lv : d.leavesShort 14 = true
theorem ShB.mono {a b n k : Nat} {d : PyData} (h : ShB a n d) (h1 : a ≤ b) (h2 : n ≤ k) : ShB b k d := ⟨h.sh, Nat.le_trans h.dp h1, Nat.le_trans h.bk h2, h.lv⟩
theorem ShX.b {dep n m : Nat} {d : PyData} (h : ShX dep n d) (hb : d.bulk ≤ m) : ShB dep m d := ⟨h.sh, h.dp, hb, h.lv⟩
theorem shb_all {dep n : Nat} : ∀ {xs : List PyData}, (∀ x ∈ xs, ShB dep n x) → PyData.showableAll xs = true ∧ PyData.depthAll xs ≤ dep ∧ PyData.bulkAll xs ≤ xs.length * (n + 1) ∧ PyData.leavesShortAll 14 xs = true
  | [], _ => ⟨rfl, Nat.zero_le _, Nat.zero_le _, rfl⟩
  | x :: xs, h => by
    obtain ⟨h1, h3, h4, h5⟩ := shb_all fun y hy => h y (List.mem_cons_of_mem _ hy)
    have g := h x List.mem_cons_self
    refine ⟨by simp only [PyData.showableAll, g.sh, h1, Bool.and_self], ?_, ?_, by simp only [PyData.leavesShortAll, g.lv, h5, Bool.and_self]⟩
    · simp only [PyData.depthAll]
      have := g.dp
      omega
    · simp only [PyData.bulkAll, List.length_cons]
      have := g.bk
      rw [Nat.add_mul]
      omega
theorem ShB.list {dep n k : Nat} {xs : List PyData} (h : ∀ x ∈ xs, ShB dep n x) (hk : xs.length * (n + 1) ≤ k) : ShB (dep + 1) k (.list xs) := by
  obtain ⟨h1, h3, h4, h5⟩ := shb_all h
  exact ⟨by simp only [PyData.showable]; exact h1, by simp only [PyData.depth]; omega, by simp only [PyData.bulk]; omega, by simp only [PyData.leavesShort]; exact h5⟩
theorem ShB.tuple {dep n k : Nat} {xs : List PyData} (h : ∀ x ∈ xs, ShB dep n x) (hk : xs.length * (n + 1) ≤ k) : ShB (dep + 1) k (.tuple xs) := by
  obtain ⟨h1, h3, h4, h5⟩ := shb_all h
  exact ⟨by simp only [PyData.showable]; exact h1, by simp only [PyData.depth]; omega, by simp only [PyData.bulk]; omega, by simp only [PyData.leavesShort]; exact h5⟩
theorem shb_kv {dep n : Nat} : ∀ {xs : List (PyData × PyData)}, (∀ x ∈ xs, ShB dep n x.1 ∧ ShB dep n x.2) → PyData.showableKv xs = true ∧ PyData.depthKv xs ≤ dep ∧ PyData.bulkKv xs ≤ xs.length * (2 * n + 2) ∧ PyData.leavesShortKv 14 xs = true
  | [], _ => ⟨rfl, Nat.zero_le _, Nat.zero_le _, rfl⟩
  | (a, b) :: xs, h => by
    obtain ⟨h1, h3, h4, h5⟩ := shb_kv fun y hy => h y (List.mem_cons_of_mem _ hy)
    obtain ⟨g1, g2⟩ := h (a, b) List.mem_cons_self
    refine ⟨by simp only [PyData.showableKv, g1.sh, g2.sh, h1, Bool.and_self], ?_, ?_, by simp only [PyData.leavesShortKv, g1.lv, g2.lv, h5, Bool.and_self]⟩
    · simp only [PyData.depthKv]
      have q1 : a.depth ≤ dep := g1.dp
      have q2 : b.depth ≤ dep := g2.dp
      omega
    · simp only [PyData.bulkKv, List.length_cons]
      have q1 : a.bulk ≤ n := g1.bk
      have q2 : b.bulk ≤ n := g2.bk
      have e : (xs.length + 1) * (2 * n + 2) = xs.length * (2 * n + 2) + (2 * n + 2) := by rw [Nat.add_mul, Nat.one_mul]
      rw [e]
      omega
theorem ShB.dict {dep n k : Nat} {xs : List (PyData × PyData)} (h : ∀ x ∈ xs, ShB dep n x.1 ∧ ShB dep n x.2) (hk : xs.length * (2 * n + 2) ≤ k) : ShB (dep + 1) k (.dict xs) := by
  obtain ⟨h1, h3, h4, h5⟩ := shb_kv h
  exact ⟨by simp only [PyData.showable]; exact h1, by simp only [PyData.depth]; omega, by simp only [PyData.bulk]; omega, by simp only [PyData.leavesShort]; exact h5⟩
theorem ShB.fits {dep n : Nat} {d : PyData} (h : ShB dep n d) (hn : n ≤ 1000000) : d.shown.length ≤ sizeLine := by
  have h1 := PyData.shown_le_bulk 14 (by decide) d h.lv
  have := h.bk
  exact szl (by omega)
theorem cd_reprB {X : Cx} {M : Mem} {Q : D → Mem → Prop} {Ln Vn Bn Fn : List Str} {d : D} {pd : PyData} {dep n : Nat} (st : Stat X Ln Vn Bn Fn) (hr : (∃ ds, d = .lst ds) ∨ (∃ ds, d = .tup ds) ∨ ∃ a, d = .ref a) (hp : PyX M d pd) (h : ShB dep n pd) (hd : dep ≤ 64) (hn : n ≤ 1000000) (hs : ∃ mm, X.base.Ns sysModules mm) (q : Q (.str pd.shown) M) : CD X (.builtin "repr") [d] M Q :=
  cd_of (call_reprX hs st.gd (by have := st.hu; omega)) fun S H xs rx m => by
    obtain ⟨v, rfl, rv⟩ := reps_one rx
    refine ⟨v, pd, rfl, ?_, hp.dr m rv, h.sh, Nat.le_trans h.dp hd, h.fits hn, .of m (.str _) q⟩
    rcases hr with ⟨ds, rfl⟩ | ⟨ds, rfl⟩ | ⟨a, rfl⟩
    · exact let ⟨a, _, e, _⟩ := rv.lst_inv; ⟨a, e⟩
    · exact let ⟨a, _, e, _⟩ := rv.tup_inv; ⟨a, e⟩
    · exact ⟨a, rv.ref_inv⟩
theorem shb_nat {n : Nat} (h : n < 1000) : ShB 0 0 (natP n) := (shw_nat (n := n) (by omega)).x.b (Nat.le_refl _)
theorem shb_plan {m : Nat} {pl : Pl} (h : PlOk m pl) (hm : m ≤ 16) : ShB 2 300 pl.p := by
  unfold Pl.p Pl.qs
  rw [List.map_map]
  refine ShB.dict (dep := 1) (n := 16) (fun x hx => ?_) (by rw [List.length_map]; have := h.len; omega)
  obtain ⟨p, hp, rfl⟩ := List.mem_map.mp hx
  have h1 := h.box p hp
  have h2 := h.few p hp
  refine ⟨(shb_nat (n := p.1) (by omega)).mono (by omega) (by omega), ShB.list (dep := 0) (n := 0) (fun y hy => ?_) (by rw [List.length_map]; omega)⟩
  obtain ⟨n, hn, rfl⟩ := List.mem_map.mp hy
  exact shb_nat (by have := h.lt p hp n hn; omega)
end DL
namespace Wk
open PySem DL L2
theorem Dd.Ok.b {nw : Nat} {d : Dd} (h : d.Ok nw) : DdB nw d := by
  cases d with
  | set b n => exact h.1
  | _ => exact h
end Wk
namespace DL
open PySem PySem.Spec PyProof.Rows L2 Wk
section
variable {P : Program} {w : World} {K : PySem.W.Frag} {mg : Str → Option Value} {base : Heap} {X : Cx} {Γ Γb : VEnv} {M : Mem} {Q : D → Mem → Prop} {x : Str} {pos px : Pos} {elt iter c : Expr} {scope sc : Scope} {own : List (Str × Nat)} {N Ln Bn Fn Bx Vb Bb Fb : List Str} {k : Nat} {α : Type}
end
end DL

/-! Core59: for x, y, z in zip(xs, ys, zs) -/
namespace PySem
end PySem
namespace L2
open PySem PySem.Spec PyProof.Rows
/-- the lists at a, b and c as they stand at each turn, the items in new tuples -/
def Itz3 (K : PySem.W.Frag) (a b c : Addr) : It :=
  ⟨fun i H => ∃ (xs ys zs : List V) (x y z : V), SqL K H a xs ∧ SqL K H b ys ∧ SqL K H c zs ∧ xs[i]? = some x ∧ ys[i]? = some y ∧ zs[i]? = some z,
    fun i H v H' => ∃ T x y z, v = .ref T ∧ H T = none ∧ H' = upd H T (.tup [x, y, z]) ∧ (∀ xs, SqL K H a xs → xs[i]? = some x) ∧ (∀ ys, SqL K H b ys → ys[i]? = some y) ∧ ∀ zs, SqL K H c zs → zs[i]? = some z,
    fun i H => ∃ xs ys zs : List V, SqL K H a xs ∧ SqL K H b ys ∧ SqL K H c zs ∧ (xs.length ≤ i ∨ ys.length ≤ i ∨ zs.length ≤ i)⟩
structure Zip3Apart (a b c z TI TO i1 i2 i3 : Addr) : Prop where
  sep : ZipSep3 z TI TO i1 i2 i3 [i1, a] [i2, b] [i3, c]
  a1 : a ≠ i1
  b2 : b ≠ i2
  c3 : c ≠ i3
def iZip3 (K : PySem.W.Frag) (ta : TA) : TI := fun σ H R => ta σ H fun vs H1 => ∃ a b c xs ys zs, vs = [.ref a, .ref b, .ref c] ∧ SqL K H1 a xs ∧ SqL K H1 b ys ∧ SqL K H1 c zs ∧ R (Itz3 K a b c) H1
end L2
namespace DL
open PySem PySem.Spec PyProof.Rows L2 Wk
section
variable {X : Cx} {Γ : VEnv} {M : Mem} {a b c : Expr} {QI : List D → (Mem → Prop) → Mem → Prop} {Ln Vn Bn Fn : List Str} {p pos : Pos}
def zipD3 (ds es fs : List D) : List D := (ds.zip (es.zip fs)).map fun z => .tup [z.1, z.2.1, z.2.2]
end
end DL

/-! Core60: x, y = a list of two -/
namespace DL
open PySem PySem.Spec PyProof.Rows L2 Wk
section
variable {X : Cx} {Γ : VEnv} {M : Mem} {es : List Expr} {QE : VEnv → Mem → Prop} {Ln Vn Bn Fn : List Str} {p pos : Pos}
end
end DL

/-! Core61: ties by shut ways; rows of blocks that lead to the door, plain -/
namespace Wk
open PySem DL L2
def endP (n : Nat) (v : Int) : Int := if v = (n : Int) then -1 else v
def tieP (n : Nat) (y : Int × Int) : List (Int × Int) := [(endP n y.1, endP n y.2), (endP n y.2, endP n y.1)].filter fun p => !decide (p.1 = -1)
def tieA (n : Nat) (sh ys : List (Int × Int)) : List (Int × Int) := (ys.filter fun y => decide (y ∈ sh)).flatMap (tieP n)
def adjP (P : List (Int × Int)) (k : Nat) : List Int := (P.filter fun p => decide (p.1 = (k : Int))).map (·.2)
abbrev Tg := List (Addr × List Int)
def tgM (gs : Tg) : Mem := gs.map fun g => (g.1, Cell.lst (g.2.map D.int))
def GsOk (n : Nat) (P : List (Int × Int)) (gs : Tg) : Prop := gs.map (·.2) = (List.range n).map (adjP P)
theorem GsOk.len {n : Nat} {P : List (Int × Int)} {gs : Tg} (h : GsOk n P gs) : gs.length = n := by
  have := congrArg List.length h
  simpa using this
theorem GsOk.get {n : Nat} {P : List (Int × Int)} {gs : Tg} (h : GsOk n P gs) {k : Nat} {g : Addr × List Int} (hg : gs[k]? = some g) : g.2 = adjP P k ∧ k < n := by
  have hk := (List.getElem?_eq_some_iff.mp hg).1
  rw [h.len] at hk
  have h1 : (gs.map (·.2))[k]? = some g.2 := by rw [List.getElem?_map, hg]; rfl
  rw [h, List.getElem?_map, List.getElem?_range hk] at h1
  exact ⟨(Option.some.inj h1).symm, hk⟩
theorem adjP_snoc (P : List (Int × Int)) (k : Nat) (v : Int) (j : Nat) : adjP (P ++ [((k : Int), v)]) j = if j = k then adjP P j ++ [v] else adjP P j := by
  unfold adjP
  rw [List.filter_append, List.map_append]
  by_cases e : j = k
  · subst e; simp
  · rw [if_neg e]
    simp [show ¬ (k : Int) = (j : Int) by omega]
theorem GsOk.add {n : Nat} {P : List (Int × Int)} {gs : Tg} (h : GsOk n P gs) {k : Nat} {g : Addr × List Int} (hg : gs[k]? = some g) (v : Int) : GsOk n (P ++ [((k : Int), v)]) (gs.set k (g.1, g.2 ++ [v])) := by
  obtain ⟨hg2, hk⟩ := h.get hg
  have hl := h.len
  unfold GsOk
  refine List.ext_getElem? fun j => ?_
  rw [List.getElem?_map, List.getElem?_set, List.getElem?_map]
  by_cases hj : j < n
  · rw [List.getElem?_range hj]
    show _ = some (adjP (P ++ [((k : Int), v)]) j)
    rw [adjP_snoc]
    by_cases e : k = j
    · rw [if_pos e, if_pos (by omega), if_pos e.symm]
      show some (g.2 ++ [v]) = _
      rw [hg2, e]
    · rw [if_neg e, if_neg (fun q => e q.symm)]
      have := congrArg (fun l => l[j]?) h
      simp only [List.getElem?_map, List.getElem?_range hj] at this
      exact this
  · rw [List.getElem?_eq_none (l := List.range n) (by rw [List.length_range]; omega)]
    by_cases e : k = j
    · omega
    · rw [if_neg e, List.getElem?_eq_none (by omega)]; rfl
/-- a row from some blocks by ties, all its blocks met -/
structure RowP (T : Nat → List Int) (B mk : List Nat) (r : List Nat) : Prop where
  head : ∃ h t, r = h :: t ∧ h ∈ B
  nd : r.Nodup
  met : ∀ k ∈ r, k ∈ mk
  chain : ∀ (i a b : Nat), r[i]? = some a → r[i + 1]? = some b → (b : Int) ∈ T a
def Clo (T : Nat → List Int) (mk : List Nat) (k : Nat) : Prop := ¬ (-1 : Int) ∈ T k ∧ ∀ v ∈ T k, ∃ u : Nat, v = (u : Int) ∧ u ∈ mk
structure WnP (T : Nat → List Int) (B : List Nat) (n : Nat) (mk : List Nat) (rs : List (List Nat)) : Prop where
  nd : mk.Nodup
  lt : ∀ k ∈ mk, k < n
  beg : ∀ k ∈ B, k ∈ mk
  rows : ∀ r ∈ rs, RowP T B mk r
  cl : ∀ k ∈ mk, (∃ r ∈ rs, r.getLast? = some k) ∨ Clo T mk k
theorem RowP.mono {T : Nat → List Int} {B mk mk2 : List Nat} {r : List Nat} (h : RowP T B mk r) (e : ∀ k ∈ mk, k ∈ mk2) : RowP T B mk2 r := ⟨h.head, h.nd, fun k hk => e k (h.met k hk), h.chain⟩
theorem Clo.mono {T : Nat → List Int} {mk mk2 : List Nat} {k : Nat} (h : Clo T mk k) (e : ∀ k ∈ mk, k ∈ mk2) : Clo T mk2 k := ⟨h.1, fun v hv => let ⟨u, h1, h2⟩ := h.2 v hv; ⟨u, h1, e u h2⟩⟩
theorem WnP.start {T : Nat → List Int} {B : List Nat} {n : Nat} (nd : B.Nodup) (lt : ∀ k ∈ B, k < n) : WnP T B n B (B.map fun k => [k]) := by
  refine ⟨nd, lt, fun _ h => h, fun r hr => ?_, fun k hk => .inl ⟨[k], List.mem_map.mpr ⟨k, hk, rfl⟩, rfl⟩⟩
  obtain ⟨k, hk, rfl⟩ := List.mem_map.mp hr
  refine ⟨⟨k, [], rfl, hk⟩, List.pairwise_singleton _ _, fun j hj => by rw [List.mem_singleton.mp hj]; exact hk, fun i a b h1 h2 => ?_⟩
  simp at h2
theorem RowP.last {T : Nat → List Int} {B mk : List Nat} {r : List Nat} (h : RowP T B mk r) : ∃ k, r.getLast? = some k ∧ k ∈ mk := by
  obtain ⟨a, t, rfl, _⟩ := h.head
  cases e : (a :: t).getLast? with
  | none => rw [List.getLast?_eq_none_iff] at e; cases e
  | some k => exact ⟨k, rfl, h.met k (List.mem_of_getLast? e)⟩
/-- one block more -/
theorem WnP.add {T : Nat → List Int} {B : List Nat} {n : Nat} {mk : List Nat} {rs fu : List (List Nat)} {r : List Nat} {k u : Nat} (h : WnP T B n mk (r :: rs ++ fu)) (hk : r.getLast? = some k) (hu : (u : Int) ∈ T k) (hn : u < n) (hm : u ∉ mk) : WnP T B n (mk ++ [u]) (r :: rs ++ (fu ++ [r ++ [u]])) := by
  have hin : ∀ j ∈ mk, j ∈ mk ++ [u] := fun j hj => List.mem_append_left _ hj
  have hr := h.rows r (by simp)
  refine ⟨?_, fun j hj => ?_, fun j hj => hin j (h.beg j hj), fun q hq => ?_, fun j hj => ?_⟩
  · rw [List.nodup_append]
    exact ⟨h.nd, List.pairwise_singleton _ _, fun a ha b hb e => hm (by rw [List.mem_singleton.mp hb] at e; exact e ▸ ha)⟩
  · rcases List.mem_append.mp hj with hj | hj
    · exact h.lt j hj
    · rw [List.mem_singleton.mp hj]; exact hn
  · rw [← List.append_assoc] at hq
    rcases List.mem_append.mp hq with hq | hq
    · exact (h.rows q hq).mono hin
    · rw [List.mem_singleton.mp hq]
      obtain ⟨a, t, e, ha⟩ := hr.head
      refine ⟨⟨a, t ++ [u], by rw [e]; rfl, ha⟩, ?_, fun j hj => ?_, fun i a b h1 h2 => ?_⟩
      · rw [List.nodup_append]
        exact ⟨hr.nd, List.pairwise_singleton _ _, fun a ha b hb e => hm (by rw [List.mem_singleton.mp hb] at e; exact e ▸ hr.met a ha)⟩
      · rcases List.mem_append.mp hj with hj | hj
        · exact hin j (hr.met j hj)
        · exact List.mem_append_right _ hj
      · have hi2 := (List.getElem?_eq_some_iff.mp h2).1
        rw [List.length_append, List.length_singleton] at hi2
        by_cases e : i + 1 < r.length
        · rw [List.getElem?_append_left (by omega)] at h1
          rw [List.getElem?_append_left e] at h2
          exact hr.chain i a b h1 h2
        · rw [List.getElem?_append_left (by omega)] at h1
          rw [List.getElem?_append_right (by omega), show i + 1 - r.length = 0 from by omega] at h2
          cases h2
          rw [List.getLast?_eq_getElem?, show r.length - 1 = i from by omega, h1] at hk
          cases hk
          exact hu
  · rcases List.mem_append.mp hj with hj | hj
    · rcases h.cl j hj with ⟨q, hq, e⟩ | hc
      · exact .inl ⟨q, by rw [← List.append_assoc]; exact List.mem_append_left _ hq, e⟩
      · exact .inr (hc.mono hin)
    · rw [List.mem_singleton.mp hj]
      exact .inl ⟨r ++ [u], by rw [← List.append_assoc]; exact List.mem_append_right _ (by simp), by rw [List.getLast?_append]; rfl⟩
/-- a row is done -/
theorem WnP.done {T : Nat → List Int} {B : List Nat} {n : Nat} {mk : List Nat} {rs fu : List (List Nat)} {r : List Nat} {k : Nat} (h : WnP T B n mk (r :: rs ++ fu)) (hk : r.getLast? = some k) (hc : Clo T mk k) : WnP T B n mk (rs ++ fu) := by
  refine ⟨h.nd, h.lt, h.beg, fun q hq => h.rows q (List.mem_cons_of_mem _ hq), fun j hj => ?_⟩
  rcases h.cl j hj with ⟨q, hq, e⟩ | hc2
  · rcases List.mem_cons.mp hq with rfl | hq
    · rw [hk] at e; cases e
      exact .inr hc
    · exact .inl ⟨q, hq, e⟩
  · exact .inr hc2
end Wk

/-! Core62: len(set(xs)) of unlike ints; xs[:-1]; rows that show that there is none, plain -/
namespace DL
open PySem PySem.Spec PyProof.Rows L2 Wk
end DL
namespace Wk
open PySem DL L2
def chainB (T : Nat → List Int) (l : List Nat) : Bool := (l.dropLast.zip (l.drop 1)).all fun p => decide ((p.2 : Int) ∈ T p.1)
def showsN (B : List Nat) (T : Nat → List Int) (l : List Nat) : Bool := match l.head?, l.getLast? with
  | some h, some k => decide (h ∈ B) && (decide ((-1 : Int) ∈ T k) && chainB T l)
  | _, _ => false
end Wk

/-! Core63: x, y, z = a, b, c where y is caught by a comprehension -/
namespace DL
open PySem PySem.Spec PyProof.Rows L2 Wk
end DL

/-! Core64: for x in zip(xs, ys), the tuples kept -/
namespace PySem
open PySem.F
abbrev IsZipF (h : Heap) (z TI TO : Addr) (old : Value) (f : Bool) : Prop :=
  h.get? z = some { cls := .type "zip", dict := none, data := .fields #[old, .bool f, .bool false, .ref TI, .ref TO], slots := #[] }
section
variable {prog : Program} {w : World} {A : Around} {E : Value → Shared → Prop} {s : Shared}
/-- zip between its turns, whatever became of its last tuple -/
structure ZnAt (z TI TO i1 i2 l1 l2 : Addr) (i : Nat) (h : Heap) : Prop where
  pr : IsPair h TI (.ref i1) (.ref i2)
  to : ∃ u v, IsPair h TO u v
  a : h.IsListIter i1 l1 i
  b : h.IsListIter i2 l2 i
  st : IsZip h z TI TO .none ∨ ∃ (T : Addr) (f : Bool), IsZipF h z TI TO (rawInt T) f
end
end PySem

/-! Core65: for x in zip(xs, ys) with one name -/
namespace L2
open PySem PySem.Spec PyProof.Rows
end L2
namespace DL
open PySem PySem.Spec PyProof.Rows L2 Wk
section
variable {X : Cx} {Γ : VEnv} {M : Mem} {a b : Expr} {QI : List D → (Mem → Prop) → Mem → Prop} {Ln Vn Bn Fn : List Str} {p pos : Pos}
end
end DL

/-! Core66: ends that are drawn into lists of their own, plain -/
namespace Wk
open PySem DL L2
def TsOk (m : Nat) (l : List Int) : Prop := l.length ≤ 2 ∧ l.Nodup ∧ ∀ v ∈ l, 1 ≤ v ∧ v < (m : Int)
structure EdOk (m b : Nat) (gs : Tg) : Prop where
  len : gs.length = m
  ts : ∀ g ∈ gs, TsOk m g.2
  led : ∀ j : Nat, 1 ≤ j → j < b → ∃ (a : Nat) (g : Addr × List Int), a < j ∧ gs[a]? = some g ∧ (j : Int) ∈ g.2
theorem EdOk.set {m b : Nat} {gs : Tg} (h : EdOk m b gs) {a : Nat} {g : Addr × List Int} (hg : gs[a]? = some g) {l : List Int} (hl : TsOk m l) (hs : ∀ v ∈ g.2, v ∈ l) : EdOk m b (gs.set a (g.1, l)) := by
  have ha := (List.getElem?_eq_some_iff.mp hg).1
  refine ⟨by rw [List.length_set]; exact h.len, fun x hx => ?_, fun j h1 h2 => ?_⟩
  · rcases List.mem_or_eq_of_mem_set hx with hx | rfl
    · exact h.ts x hx
    · exact hl
  · obtain ⟨a', g', q1, q2, q3⟩ := h.led j h1 h2
    by_cases e : a = a'
    · subst e
      rw [hg] at q2
      cases q2
      exact ⟨a, (g.1, l), q1, by rw [List.getElem?_set_self ha], hs _ q3⟩
    · exact ⟨a', g', q1, by rw [List.getElem?_set_ne e]; exact q2, q3⟩
structure EdIn (m b : Nat) (gs : Tg) : Prop where
  ed : EdOk m b gs
  lt : ∀ g ∈ gs, ∀ v ∈ g.2, v < (b : Int)
  sum : (gs.map fun g => g.2.length).sum + 1 = b
theorem sum_set : ∀ {l : List Nat} {a x : Nat}, l[a]? = some x → (l.set a (x + 1)).sum = l.sum + 1
  | [], _, _, h => by simp at h
  | y :: l, 0, x, h => by cases h; simp; omega
  | y :: l, a + 1, x, h => by
    have := sum_set (l := l) (a := a) (x := x) (by simpa using h)
    rw [List.set_cons_succ, List.sum_cons, List.sum_cons, this]; omega
theorem sum_two : ∀ {l : List Nat} {b : Nat}, b ≤ l.length → (∀ (a x : Nat), a < b → l[a]? = some x → 2 ≤ x) → 2 * b ≤ l.sum
  | l, 0, _, _ => by omega
  | [], b + 1, h, _ => by simp at h
  | y :: l, b + 1, h, hx => by
    have h1 := hx 0 y (by omega) rfl
    have h2 := sum_two (l := l) (b := b) (by simpa using h) fun a x ha he => hx (a + 1) x (by omega) (by simpa using he)
    rw [List.sum_cons]; omega
theorem EdIn.free {m b : Nat} {gs : Tg} (h : EdIn m b gs) (hb : b ≤ m) (h0 : 1 ≤ b) : ∃ (a : Nat) (g : Addr × List Int), a < b ∧ gs[a]? = some g ∧ g.2.length < 2 := by
  apply Classical.byContradiction
  intro hn
  have := sum_two (l := gs.map fun g => g.2.length) (b := b) (by rw [List.length_map, h.ed.len]; exact hb) fun a x ha he => by
    rw [List.getElem?_map] at he
    obtain ⟨g, hg, rfl⟩ := Option.map_eq_some_iff.mp he
    apply Classical.byContradiction
    intro hx
    exact hn ⟨a, g, ha, hg, by omega⟩
  have := h.sum
  omega
theorem EdIn.add {m b : Nat} {gs : Tg} (h : EdIn m b gs) (h0 : 1 ≤ b) (hb : b < m) {a : Nat} {g : Addr × List Int} (ha : a < b) (hg : gs[a]? = some g) (h2 : g.2.length < 2) : EdIn m (b + 1) (gs.set a (g.1, g.2 ++ [(b : Int)])) := by
  have hgm := List.mem_of_getElem? hg
  have hal := (List.getElem?_eq_some_iff.mp hg).1
  have ht := h.ed.ts g hgm
  have hl : TsOk m (g.2 ++ [(b : Int)]) := by
    refine ⟨by rw [List.length_append, List.length_singleton]; omega, ?_, fun v hv => ?_⟩
    · refine List.nodup_append.mpr ⟨ht.2.1, by simp, fun x hx y hy => ?_⟩
      rw [List.mem_singleton.mp hy]
      have := h.lt g hgm x hx
      omega
    · rcases List.mem_append.mp hv with hv | hv
      · exact ht.2.2 v hv
      · rw [List.mem_singleton.mp hv]; omega
  have hed := h.ed.set hg hl fun v hv => List.mem_append_left _ hv
  refine ⟨⟨hed.len, hed.ts, fun j h1 h3 => ?_⟩, fun x hx v hv => ?_, ?_⟩
  · by_cases e : j < b
    · exact hed.led j h1 e
    · have e : j = b := by omega
      subst e
      exact ⟨a, _, ha, by rw [List.getElem?_set_self hal], List.mem_append_right _ (List.mem_singleton.mpr rfl)⟩
  · rcases List.mem_or_eq_of_mem_set hx with hx | rfl
    · have := h.lt x hx v hv
      omega
    · rcases List.mem_append.mp hv with hv | hv
      · have := h.lt g hgm v hv
        omega
      · rw [List.mem_singleton.mp hv]; omega
  · have e : (gs.set a (g.1, g.2 ++ [(b : Int)])).map (fun g => g.2.length) = (gs.map fun g => g.2.length).set a (g.2.length + 1) := by
      rw [List.map_set]; simp
    rw [e, sum_set (by rw [List.getElem?_map, hg]; rfl)]
    have := h.sum
    omega
theorem EdIn.start {gs : Tg} (h : ∀ g ∈ gs, g.2 = []) : EdIn gs.length 1 gs := by
  refine ⟨⟨rfl, fun g hg => by rw [h g hg]; exact ⟨by simp, by simp, by simp⟩, fun j h1 h2 => by omega⟩, fun g hg v hv => by rw [h g hg] at hv; simp at hv, ?_⟩
  have : ∀ {l : Tg}, (∀ g ∈ l, g.2 = []) → (l.map fun g => g.2.length).sum = 0 := fun {l} => by
    induction l with
    | nil => intro _; rfl
    | cons x l ih =>
      intro hl
      rw [List.map_cons, List.sum_cons, ih fun g hg => hl g (List.mem_cons_of_mem _ hg), hl x List.mem_cons_self]
      rfl
  rw [this h]
def ndI : List Int → Nd
  | [] => .out
  | [a] => .go a.toNat
  | a :: b :: _ => .fork a.toNat b.toNat
theorem ndI_nx {m : Nat} {l : List Int} (h : TsOk m l) : (ndI l).nx.map (fun (t : Nat) => (t : Int)) = l ∧ (ndI l).Ok m := by
  obtain ⟨h1, h2, h3⟩ := h
  match l, h1, h2, h3 with
  | [], _, _, _ => exact ⟨rfl, trivial⟩
  | [a], _, _, h3 =>
    have := h3 a (by simp)
    refine ⟨?_, ?_, ?_⟩
    · show [((a.toNat : Nat) : Int)] = [a]
      rw [Int.toNat_of_nonneg (by omega)]
    · show 1 ≤ a.toNat; omega
    · show a.toNat < m; omega
  | [a, b], _, h2, h3 =>
    have ha := h3 a (by simp)
    have hb := h3 b (by simp)
    have hab : a ≠ b := by intro e; subst e; simp at h2
    refine ⟨?_, ?_⟩
    · show [((a.toNat : Nat) : Int), ((b.toNat : Nat) : Int)] = [a, b]
      rw [Int.toNat_of_nonneg (by omega), Int.toNat_of_nonneg (by omega)]
    · exact ⟨by omega, by omega, by omega, by omega, by omega⟩
theorem EdOk.ends {m : Nat} {gs : Tg} (h : EdOk m m gs) : NxOk m (gs.map fun g => ndI g.2) := by
  refine ⟨by rw [List.length_map]; exact h.len, fun e he => ?_, fun j h1 h2 => ?_⟩
  · obtain ⟨g, hg, rfl⟩ := List.mem_map.mp he
    exact (ndI_nx (h.ts g hg)).2
  · obtain ⟨a, g, q1, q2, q3⟩ := h.led j h1 h2
    refine ⟨a, ndI g.2, q1, by rw [List.getElem?_map, q2]; rfl, ?_⟩
    rw [← (ndI_nx (h.ts g (List.mem_of_getElem? q2))).1] at q3
    obtain ⟨t, ht, e⟩ := List.mem_map.mp q3
    rw [← Int.ofNat_inj.mp e]; exact ht
end Wk

/-! Core67: any owned cells owned no more, at once; small drawn works -/
namespace DL
open PySem PySem.Spec PyProof.Rows L2 Wk
end DL
namespace Wk
open DL PySem
/-- a small work -/
structure Sm (w : W) : Prop where
  len : w.length ≤ 6
  few : ∀ b ∈ w, b.1.length ≤ 13
end Wk

namespace DL
open PySem PySem.Spec PyProof.Rows L2 Wk
end DL

/-! Core68: sweeps along all ways till nothing changes: what is awaited, asked, come to behind; plain -/
namespace Wk
open DL PySem
def tab (n : Nat) (g : Nat → D) : List D := (List.range n).map g
theorem nx_way {w : W} {k t : Nat} {bk : Bk} (h : w[k]? = some bk) (ht : t ∈ bk.2.nx) : ((k : Int), (t : Int)) ∈ ways w := by
  have h2 : (w.map (·.2))[k]? = some bk.2 := by rw [List.getElem?_map, h]; rfl
  have h3 := filt_fst (n := w.length) (j := 0) h2
  have h4 : ((k : Int), (t : Int)) ∈ wayK w.length (0 + k) bk.2 := by
    unfold wayK
    rw [if_neg (List.ne_nil_of_mem ht), Nat.zero_add]
    exact List.mem_map.mpr ⟨t, sxm.mpr ht, rfl⟩
  rw [← h3] at h4
  exact List.mem_cons_of_mem _ (List.mem_filter.mp h4).1
/-! truths of blocks, put one by one -/
def putT (g : Nat → Bool) (k : Nat) : Nat → Bool := fun j => if j = k then true else g j
def cntG (n : Nat) (g : Nat → Bool) : Nat := ((List.range n).filter fun k => !g k).length
section
variable {w : W} {b : Nat} {al : List (List Nat)} {g : Nat → Bool}
structure AwS (w : W) (b : Nat) (al : List (List Nat)) (g : Nat → Bool) : Prop where
  snd : ∀ k, g k = true → k ∈ awaitL w b al
  beg : ∀ k ∈ begL w b al, g k = true
def AwC (w : W) (b : Nat) (al : List (List Nat)) (g : Nat → Bool) (y : Int × Int) : Prop := ∀ (k t : Nat) (bk : Bk), y = ((k : Int), (t : Int)) → t < w.length → w[k]? = some bk → touch b al bk.1 = .n → g t = true → g k = true
theorem AwS.start : AwS w b al fun k => decide ((tchs w b al).getD k .w = .r) := by
  refine ⟨fun k hk => ?_, fun k hk => (List.mem_filter.mp hk).2⟩
  have hk := of_decide_eq_true hk
  have hl : k < w.length := by
    refine Classical.byContradiction fun q => ?_
    rw [List.getD_eq_getElem?_getD, List.getElem?_eq_none (by rw [tchs_len]; omega)] at hk
    cases hk
  exact mem_awaitL.mpr (.base (List.mem_filter.mpr ⟨List.mem_range.mpr hl, decide_eq_true hk⟩))
theorem AwS.put (h : AwS w b al g) {k t : Nat} {bk : Bk} (ht : t < w.length) (hk : w[k]? = some bk) (hn : t ∈ bk.2.nx) (hf : touch b al bk.1 = .n) (hg : g t = true) : AwS w b al (putT g k) := by
  refine ⟨fun j hj => ?_, fun j hj => ?_⟩
  · unfold putT at hj
    split at hj
    · rename_i e
      subst e
      obtain ⟨l, e, m⟩ := freeL_mem.mpr ⟨ht, bk, hk, hn, hf⟩
      exact mem_awaitL.mpr (.step (mem_awaitL.mp (h.snd t hg)) e m)
    · exact h.snd j hj
  · unfold putT
    split
    · rfl
    · exact h.beg j hj
theorem AwS.fin (h : AwS w b al g) (hc : ∀ y ∈ ways w, AwC w b al g y) (k : Nat) : g k = decide (k ∈ awaitL w b al) := by
  rw [Bool.eq_iff_iff, decide_eq_true_iff]
  refine ⟨h.snd k, fun hm => ?_⟩
  refine (mem_awaitL.mp hm).ind (S := fun k => g k = true) h.beg fun a l c ha e hcm => ?_
  obtain ⟨hal, bk, h1, h2, h3⟩ := freeL_mem.mp ⟨l, e, hcm⟩
  exact hc _ (nx_way h1 h2) c a bk rfl hal h1 h3 ha
end
/-! what works ask, found one by one -/
section
variable {ws : List W} {al : List (List Nat)}
structure AsS (ws : List W) (al : List (List Nat)) : Prop where
  len : al.length = ws.length
  snd : ∀ m b, b ∈ al.getD m [] → b < 8 ∧ Awt ws b m 0
  nd : ∀ l ∈ al, l.Nodup
def AsC (ws : List W) (al : List (List Nat)) (n b : Nat) : Prop := ∀ w, ws[n]? = some w → 0 ∈ awaitL w b al → b ∈ al.getD n []
def msA (al : List (List Nat)) : Nat := (al.map fun l => 8 - l.length).sum
theorem AsS.start : AsS ws (ws.map fun _ => []) := by
  refine ⟨List.length_map .., fun m b hb => ?_, fun l hl => ?_⟩
  · rw [List.getD_eq_getElem?_getD, List.getElem?_map] at hb
    cases e : ws[m]? with
    | none => rw [e] at hb; cases hb
    | some w => rw [e] at hb; cases hb
  · obtain ⟨_, _, rfl⟩ := List.mem_map.mp hl
    exact .nil
theorem AsS.put (h : AsS ws al) {n b : Nat} {w : W} {l : List Nat} (hb : b < 8) (hw : ws[n]? = some w) (hl : al[n]? = some l) (hn : b ∉ l) (ha : 0 ∈ awaitL w b al) : AsS ws (al.set n (l ++ [b])) ∧ msA (al.set n (l ++ [b])) < msA al := by
  have hlt := (List.getElem?_eq_some_iff.mp hl).1
  have hnd : (l ++ [b]).Nodup := by
    rw [List.nodup_append]
    exact ⟨h.nd l (List.mem_of_getElem? hl), by simp, fun x hx y hy e => by rw [List.mem_singleton.mp hy] at e; exact hn (e ▸ hx)⟩
  have haw : Awt ws b n 0 := await_sound hw (fun m hm => (h.snd m b hm).2) (mem_awaitL.mp ha)
  have hlm : ∀ x ∈ l, x < 8 ∧ Awt ws x n 0 := fun x hx => h.snd n x (by rw [List.getD_eq_getElem?_getD, hl]; exact hx)
  refine ⟨⟨by rw [List.length_set]; exact h.len, fun m c hc => ?_, fun x hx => ?_⟩, ?_⟩
  · rw [List.getD_eq_getElem?_getD] at hc
    by_cases e : n = m
    · subst e
      rw [List.getElem?_set_self hlt] at hc
      rcases List.mem_append.mp hc with hc | hc
      · exact hlm c hc
      · rw [List.mem_singleton.mp hc]; exact ⟨hb, haw⟩
    · rw [List.getElem?_set_ne e] at hc
      exact h.snd m c (by rw [List.getD_eq_getElem?_getD]; exact hc)
  · rcases List.mem_or_eq_of_mem_set hx with hx | rfl
    · exact h.nd x hx
    · exact hnd
  · have h8 : (l ++ [b]).length ≤ 8 := nodup_len hnd fun x hx => by
      rcases List.mem_append.mp hx with hx | hx
      · exact (hlm x hx).1
      · rw [List.mem_singleton.mp hx]; exact hb
    rw [List.length_append, List.length_singleton] at h8
    unfold msA
    clear h hnd haw hlm ha hw
    induction al generalizing n with
    | nil => simp at hl
    | cons x al ih =>
      cases n with
      | zero =>
        cases hl
        rw [List.set_cons_zero, List.map_cons, List.map_cons, List.sum_cons, List.sum_cons, List.length_append, List.length_singleton]
        omega
      | succ n =>
        have := ih (n := n) (by simpa using hl) (by simpa using hlt)
        rw [List.set_cons_succ, List.map_cons, List.map_cons, List.sum_cons, List.sum_cons]
        omega
theorem AsS.fin (h : AsS ws al) (hin : ∀ w ∈ ws, NxIn (nexts w)) {b : Nat} (hc : ∀ n, AsC ws al n b) {n k : Nat} {w : W} (hw : ws[n]? = some w) : decide (k ∈ awaitL w b al) = awtB ws b n k := by
  rw [Bool.eq_iff_iff, decide_eq_true_iff, awtB_iff, mem_awaitL]
  exact ⟨await_sound hw fun m hm => (h.snd m b hm).2, fun q => await_full hin (fun m w' hw' c => hc m w' hw' (mem_awaitL.mpr c)) q hw⟩
end
/-! what is come to behind the writers -/
section
variable {w : W} {b : Nat} {fd : List Nat}
structure BeS (w : W) (b : Nat) (fd : List Nat) : Prop where
  come : ∀ k ∈ fd, Come (nexts w) (begs w (writesL w b)) k
  nd : fd.Nodup
  lt : ∀ k ∈ fd, k < w.length
def BeC (w : W) (b : Nat) (fd : List Nat) (y : Int × Int) : Prop := ∀ k t : Nat, y = ((k : Int), (t : Int)) → k ∈ writesL w b ∨ k ∈ fd → t < w.length → t ∈ fd
theorem BeS.start : BeS w b [] := ⟨by simp, .nil, by simp⟩
theorem BeS.len (h : BeS w b fd) : fd.length ≤ w.length := nodup_len h.nd h.lt
theorem nexts_get {k : Nat} {bk : Bk} (h : w[k]? = some bk) : (nexts w)[k]? = some bk.2.nx := by
  unfold nexts
  rw [List.getElem?_map, h]; rfl
theorem BeS.put (h : BeS w b fd) {k t : Nat} {bk : Bk} (hk : w[k]? = some bk) (ht : t ∈ bk.2.nx) (hl : t < w.length) (hm : k ∈ writesL w b ∨ k ∈ fd) (hn : t ∉ fd) : BeS w b (fd ++ [t]) := by
  refine ⟨fun x hx => ?_, ?_, fun x hx => ?_⟩
  · rcases List.mem_append.mp hx with hx | hx
    · exact h.come x hx
    · rw [List.mem_singleton.mp hx]
      rcases hm with hm | hm
      · refine .base (List.mem_flatMap.mpr ⟨k, hm, ?_⟩)
        rw [nexts_at hk]; exact ht
      · exact .step (h.come k hm) (nexts_get hk) ht
  · rw [List.nodup_append]
    exact ⟨h.nd, by simp, fun x hx y hy e => by rw [List.mem_singleton.mp hy] at e; exact hn (e ▸ hx)⟩
  · rcases List.mem_append.mp hx with hx | hx
    · exact h.lt x hx
    · rw [List.mem_singleton.mp hx]; exact hl
theorem BeS.fin (h : BeS w b fd) (hn : NxIn (nexts w)) (hc : ∀ y ∈ ways w, BeC w b fd y) (k : Nat) : k ∈ fd ↔ k ∈ reachL w b := by
  unfold reachL
  rw [mem_comeL, nexts_len]
  refine ⟨fun q => ⟨h.lt k q, h.come k q⟩, fun q => q.2.ind (S := fun k => k ∈ fd) (fun t ht => ?_) fun a l t ha e hm => ?_⟩
  · obtain ⟨k, hk, ht⟩ := List.mem_flatMap.mp ht
    have hkw := at_bk (writesL_lt hk)
    rw [nexts_at hkw] at ht
    have hlt := hn.lt _ (List.mem_of_getElem? (nexts_get hkw)) t ht
    rw [nexts_len] at hlt
    exact hc _ (nx_way hkw ht) k t rfl (.inl hk) hlt
  · have hal : a < w.length := h.lt a ha
    have haw := at_bk hal
    have e2 := nexts_get haw
    rw [e] at e2
    cases e2
    have hlt := hn.lt _ (List.mem_of_getElem? e) t hm
    rw [nexts_len] at hlt
    exact hc _ (nx_way haw hm) a t rfl (.inr ha) hlt
end
end Wk

/-! Core69: things of any kind that laws draw; reprs of data with dicts and ints of up to 58 digits (ShZ); {int: value} -/
namespace DL
open PySem PySem.Spec PyProof.Rows L2 Wk
theorem cutD_sub {α : Type} {xs : List α} {lo hi : Option Int} : ∀ x ∈ cutD xs lo hi, x ∈ xs := fun x hx => List.mem_of_mem_drop (List.mem_of_mem_take hx)
theorem cutD_len {α : Type} {xs : List α} {lo hi : Option Int} : (cutD xs lo hi).length ≤ xs.length := by
  unfold cutD
  rw [List.length_take, List.length_drop]
  omega
structure ShZ (dep n : Nat) (d : PyData) : Prop where
  sh : d.showable = true
  dp : d.depth ≤ dep
  wt : d.weight ≤ n
  lv : d.leavesShort 60 = true
theorem Shl.z {dep n : Nat} {d : PyData} (h : Shl dep n d) : ShZ dep n d := ⟨h.sh, h.dp, h.wt, PyData.leavesShort_of_canLay0 60 d h.cl h.sf⟩
theorem ShZ.mono {a b n k : Nat} {d : PyData} (h : ShZ a n d) (h1 : a ≤ b) (h2 : n ≤ k) : ShZ b k d := ⟨h.sh, Nat.le_trans h.dp h1, Nat.le_trans h.wt h2, h.lv⟩
theorem shz_all {dep n : Nat} : ∀ {xs : List PyData}, (∀ x ∈ xs, ShZ dep n x) → PyData.showableAll xs = true ∧ PyData.depthAll xs ≤ dep ∧ PyData.weightAll xs ≤ xs.length * (n + 1) ∧ PyData.leavesShortAll 60 xs = true
  | [], _ => ⟨rfl, Nat.zero_le _, Nat.zero_le _, rfl⟩
  | x :: xs, h => by
    obtain ⟨h1, h3, h4, h5⟩ := shz_all fun y hy => h y (List.mem_cons_of_mem _ hy)
    have g := h x List.mem_cons_self
    refine ⟨by simp only [PyData.showableAll, g.sh, h1, Bool.and_self], ?_, ?_, by simp only [PyData.leavesShortAll, g.lv, h5, Bool.and_self]⟩
    · simp only [PyData.depthAll]
      have := g.dp
      omega
    · simp only [PyData.weightAll, List.length_cons]
      have := g.wt
      rw [Nat.add_mul]
      omega
theorem ShZ.list {dep n k : Nat} {xs : List PyData} (h : ∀ x ∈ xs, ShZ dep n x) (hk : xs.length * (n + 1) ≤ k) : ShZ (dep + 1) k (.list xs) := by
  obtain ⟨h1, h3, h4, h5⟩ := shz_all h
  exact ⟨by simp only [PyData.showable]; exact h1, by simp only [PyData.depth]; omega, by simp only [PyData.weight]; omega, by simp only [PyData.leavesShort]; exact h5⟩
theorem ShZ.tuple {dep n k : Nat} {xs : List PyData} (h : ∀ x ∈ xs, ShZ dep n x) (hk : xs.length * (n + 1) ≤ k) : ShZ (dep + 1) k (.tuple xs) := by
  obtain ⟨h1, h3, h4, h5⟩ := shz_all h
  exact ⟨by simp only [PyData.showable]; exact h1, by simp only [PyData.depth]; omega, by simp only [PyData.weight]; omega, by simp only [PyData.leavesShort]; exact h5⟩
theorem ShZ.fits {dep n : Nat} {d : PyData} (h : ShZ dep n d) (hn : n ≤ 200000) : d.shown.length ≤ sizeLine := by
  have h1 := PyData.shown_le 60 (by decide) d h.lv
  have := h.wt
  exact szl (by omega)
/-- what a law may draw instead: all but its dicts -/
def oddC : List D := [.non, .bl true, .bl false, .int 0, .int 1, .int (-1), .str "", .str "a", .lst [], .tup [], .lst [.int 0], .tup [.int 0], .lst [.lst [.int 0]], .lst [.non], .lst [.bl true], .int (10 ^ 30), .str "0"]
inductive OddV (M : Mem) : D → Prop
  | val {d : D} : d ∈ oddC → OddV M d
  | dct {a : Addr} {f : Cell → Mem} {kvs : List (Key × D)} : At a M (.dK kvs) f → (kvs = [] ∨ kvs = [(.inl 0, .int 1)]) → OddV M (.ref a)
theorem OddV.cons {M : Mem} {q : Addr × Cell} {d : D} (h : OddV M d) : OddV (q :: M) d := by
  cases h with
  | val h => exact .val h
  | dct h e => exact .dct (.there h) e
theorem OddV.ty {M : Mem} {d : D} (h : OddV M d) : ∃ t, IsT M d t := by
  cases h with
  | val h =>
    simp only [oddC, List.mem_cons, List.not_mem_nil, or_false] at h
    rcases h with rfl | rfl | rfl | rfl | rfl | rfl | rfl | rfl | rfl | rfl | rfl | rfl | rfl | rfl | rfl | rfl | rfl
    · exact ⟨_, .non⟩
    · exact ⟨_, .bl _⟩
    · exact ⟨_, .bl _⟩
    · exact ⟨_, .int _⟩
    · exact ⟨_, .int _⟩
    · exact ⟨_, .int _⟩
    · exact ⟨_, .str _⟩
    · exact ⟨_, .str _⟩
    · exact ⟨_, .lst isL_lst⟩
    · exact ⟨_, .tup _⟩
    · exact ⟨_, .lst isL_lst⟩
    · exact ⟨_, .tup _⟩
    · exact ⟨_, .lst isL_lst⟩
    · exact ⟨_, .lst isL_lst⟩
    · exact ⟨_, .lst isL_lst⟩
    · exact ⟨_, .int _⟩
    · exact ⟨_, .str _⟩
  | dct h _ => exact ⟨_, .dK h⟩
theorem OddV.ls {M : Mem} {d : D} (h : OddV M d) : (∃ t, IsT M d t ∧ (t == "list") = false) ∨ ∃ xs, d = .lst xs ∧ xs.length ≤ 1 ∧ ∀ x ∈ xs, ∃ t, IsT M x t := by
  cases h with
  | val h =>
    simp only [oddC, List.mem_cons, List.not_mem_nil, or_false] at h
    rcases h with rfl | rfl | rfl | rfl | rfl | rfl | rfl | rfl | rfl | rfl | rfl | rfl | rfl | rfl | rfl | rfl | rfl
    · exact .inl ⟨_, .non, by decide +kernel⟩
    · exact .inl ⟨_, .bl _, by decide +kernel⟩
    · exact .inl ⟨_, .bl _, by decide +kernel⟩
    · exact .inl ⟨_, .int _, by decide +kernel⟩
    · exact .inl ⟨_, .int _, by decide +kernel⟩
    · exact .inl ⟨_, .int _, by decide +kernel⟩
    · exact .inl ⟨_, .str _, by decide +kernel⟩
    · exact .inl ⟨_, .str _, by decide +kernel⟩
    · exact .inr ⟨[], rfl, by simp, by simp⟩
    · exact .inl ⟨_, .tup _, by decide +kernel⟩
    · exact .inr ⟨_, rfl, by simp, fun x hx => by rw [List.mem_singleton.mp hx]; exact ⟨_, .int _⟩⟩
    · exact .inl ⟨_, .tup _, by decide +kernel⟩
    · exact .inr ⟨_, rfl, by simp, fun x hx => by rw [List.mem_singleton.mp hx]; exact ⟨_, .lst isL_lst⟩⟩
    · exact .inr ⟨_, rfl, by simp, fun x hx => by rw [List.mem_singleton.mp hx]; exact ⟨_, .non⟩⟩
    · exact .inr ⟨_, rfl, by simp, fun x hx => by rw [List.mem_singleton.mp hx]; exact ⟨_, .bl _⟩⟩
    · exact .inl ⟨_, .int _, by decide +kernel⟩
    · exact .inl ⟨_, .str _, by decide +kernel⟩
  | dct h _ => exact .inl ⟨_, .dK h, by decide +kernel⟩
theorem shz_int {i : Int} (h1 : -(10 ^ 58) < i) (h2 : i < 10 ^ 58) : ShZ 0 200 (.int i) := (Shl.int h1 h2).z
theorem shz_small : ∀ p ∈ ([.none, .bool true, .bool false, .str "", .str "a", .str "0"] : List PyData), ShZ 0 200 p := fun p hp => by
  have : ([.none, .bool true, .bool false, .str "", .str "a", .str "0"] : List PyData).all (fun p => p.showable && (decide (p.depth ≤ 0) && (decide (p.weight ≤ 200) && p.leavesShort 60))) = true := by decide +kernel
  have := List.all_eq_true.mp this p hp
  rw [Bool.and_eq_true, Bool.and_eq_true, Bool.and_eq_true, decide_eq_true_iff, decide_eq_true_iff] at this
  exact ⟨this.1, this.2.1, this.2.2.1, this.2.2.2⟩
theorem shz_0 : ShZ 0 200 (.int 0) := shz_int (by decide) (by decide)
theorem shz_1 : ShZ 0 200 (.int 1) := shz_int (by decide) (by decide)
theorem shz_nil : ShZ 1 400 (.list []) := ShZ.list (dep := 0) (n := 0) (by simp) (by simp)
theorem shz_one {p : PyData} {dep n : Nat} (h : ShZ dep n p) : ShZ (dep + 1) (n + 1) (.list [p]) := ShZ.list (dep := dep) (n := n) (fun x hx => by rw [List.mem_singleton.mp hx]; exact h) (by simp)
theorem OddV.py {M : Mem} {d : D} (h : OddV M d) : ∃ p, PyX M d p ∧ ShZ 3 700 p := by
  have sm : ∀ p ∈ ([.none, .bool true, .bool false, .str "", .str "a", .str "0"] : List PyData), ShZ 3 700 p := fun p hp => (shz_small p hp).mono (by omega) (by omega)
  cases h with
  | val h =>
    simp only [oddC, List.mem_cons, List.not_mem_nil, or_false] at h
    rcases h with rfl | rfl | rfl | rfl | rfl | rfl | rfl | rfl | rfl | rfl | rfl | rfl | rfl | rfl | rfl | rfl | rfl
    · exact ⟨_, .non, sm _ (by simp)⟩
    · exact ⟨_, .bl _, sm _ (by simp)⟩
    · exact ⟨_, .bl _, sm _ (by simp)⟩
    · exact ⟨_, .int _, shz_0.mono (by omega) (by omega)⟩
    · exact ⟨_, .int _, shz_1.mono (by omega) (by omega)⟩
    · exact ⟨_, .int _, (shz_int (by decide) (by decide)).mono (by omega) (by omega)⟩
    · exact ⟨_, .str _, sm _ (by simp)⟩
    · exact ⟨_, .str _, sm _ (by simp)⟩
    · exact ⟨_, .lst .nil, shz_nil.mono (by omega) (by omega)⟩
    · exact ⟨_, .tup .nil, (ShZ.tuple (dep := 0) (n := 0) (k := 400) (by simp) (by simp)).mono (by omega) (by omega)⟩
    · exact ⟨_, .lst (.cons (.int _) .nil), (shz_one shz_0).mono (by omega) (by omega)⟩
    · exact ⟨_, .tup (.cons (.int _) .nil), (ShZ.tuple (dep := 0) (n := 200) (k := 400) (fun x hx => by rw [List.mem_singleton.mp hx]; exact shz_0) (by simp)).mono (by omega) (by omega)⟩
    · exact ⟨_, .lst (.cons (.lst (.cons (.int _) .nil)) .nil), (shz_one (shz_one shz_0)).mono (by omega) (by omega)⟩
    · exact ⟨_, .lst (.cons .non .nil), (shz_one (shz_small _ (by simp))).mono (by omega) (by omega)⟩
    · exact ⟨_, .lst (.cons (.bl _) .nil), (shz_one (shz_small _ (by simp))).mono (by omega) (by omega)⟩
    · exact ⟨_, .int _, (shz_int (by decide) (by decide)).mono (by omega) (by omega)⟩
    · exact ⟨_, .str _, sm _ (by simp)⟩
  | dct h e =>
    rcases e with rfl | rfl
    · refine ⟨_, .dct (qs := []) h rfl .nil, ?_⟩
      exact ⟨by simp [PyData.showable, PyData.showableKv], by simp [PyData.depth, PyData.depthKv], by simp [PyData.weight, PyData.weightKv], by simp [PyData.leavesShort, PyData.leavesShortKv]⟩
    · refine ⟨_, .dct (qs := [(.inl 0, .int 1)]) h rfl (.cons (.int _) .nil), ?_⟩
      have a := shz_0
      have b := shz_1
      have e0 : keyP (.inl 0) = .int 0 := rfl
      refine ⟨?_, ?_, ?_, ?_⟩
      · show PyData.showable (.dict [(.int 0, .int 1)]) = true
        decide +kernel
      · have := a.dp
        have := b.dp
        simp only [List.map_cons, List.map_nil, e0, PyData.depth, PyData.depthKv] at *
        omega
      · have := a.wt
        have := b.wt
        simp only [List.map_cons, List.map_nil, e0, PyData.weight, PyData.weightKv] at *
        omega
      · show PyData.leavesShort 60 (.dict [(.int 0, .int 1)]) = true
        decide +kernel
end DL

/-! Core70: len(set(xs)) of any ints; how many there are unlike; the going by rows to the door, told as what it does -/
namespace Wk
open PySem DL L2
/-- how many of them are unlike -/
def fmI (ns : List Int) : List Int := PyProof.Rows.firstMet (fun i => ns.getD i 0) ns.length
end Wk
namespace DL
open PySem PySem.Spec PyProof.Rows L2 Wk
def tLenSetD (K : PySem.W.Frag) (ta : TE) : TE := fun σ H Q => ta σ H fun x H1 => ∃ (l : Addr) (ns : List Int), x = .ref l ∧ SqL K H1 l (ns.map V.int) ∧ ns.length ≤ 4000 ∧ Q (.int ((fmI ns).length : Nat)) H1
end DL

namespace Wk
open PySem DL L2
/-! the going by rows: what it does, told once -/
def wnV (r : List Nat) (st : List Nat × List (List Nat)) (v : Int) : List Nat × List (List Nat) := if v.toNat ∈ st.1 then st else (st.1 ++ [v.toNat], st.2 ++ [r ++ [v.toNat]])
def lastN (r : List Nat) : Nat := r.getLast?.getD 0
def wnRs (T : Nat → List Int) : List (List Nat) → List Nat × List (List Nat) → Option (List Nat) × (List Nat × List (List Nat))
  | [], st => (none, st)
  | r :: rs, st => if (-1 : Int) ∈ T (lastN r) then (some r, st) else wnRs T rs ((T (lastN r)).foldl (wnV r) st)
inductive WnRun (T : Nat → List Int) : List Nat × List (List Nat) → Option (List Nat) → Prop
  | stop {mk : List Nat} : WnRun T (mk, []) none
  | found {mk : List Nat} {rs : List (List Nat)} {r : List Nat} : (wnRs T rs (mk, [])).1 = some r → WnRun T (mk, rs) (some r)
  | step {mk : List Nat} {rs : List (List Nat)} {o : Option (List Nat)} : rs ≠ [] → (wnRs T rs (mk, [])).1 = none → WnRun T (wnRs T rs (mk, [])).2 o → WnRun T (mk, rs) o
theorem WnRun.uniq {T : Nat → List Int} {st : List Nat × List (List Nat)} {o1 o2 : Option (List Nat)} (h1 : WnRun T st o1) (h2 : WnRun T st o2) : o1 = o2 := by
  induction h1 with
  | stop =>
    cases h2 with
    | stop => rfl
    | found e => cases e
    | step h _ _ => exact absurd rfl h
  | found e =>
    cases h2 with
    | stop => cases e
    | found e2 => rw [← e, ← e2]
    | step _ h _ => rw [e] at h; cases h
  | step h e _ ih =>
    cases h2 with
    | stop => exact absurd rfl h
    | found e2 => rw [e] at e2; cases e2
    | step _ _ h3 => exact ih h3
theorem wnV_known {r : List Nat} {st : List Nat × List (List Nat)} {v : Int} {x : Nat} : x ∈ (wnV r st v).1 ↔ x ∈ st.1 ∨ x = v.toNat := by
  unfold wnV
  split
  · rename_i h
    exact ⟨.inl, fun q => q.elim id fun e => e ▸ h⟩
  · simp
/-- a round's state: blocks met, rows further -/
structure WnSt (T : Nat → List Int) (mk : List Nat) (L : Nat) (st : List Nat × List (List Nat)) : Prop where
  sub : ∀ x ∈ mk, x ∈ st.1
  len : ∀ r ∈ st.2, r.length = L + 1
  last : ∀ x, (∃ r ∈ st.2, lastN r = x) ↔ x ∈ st.1 ∧ x ∉ mk
theorem lastN_app (r : List Nat) (u : Nat) : lastN (r ++ [u]) = u := by unfold lastN; rw [List.getLast?_append]; rfl
theorem WnSt.v {T : Nat → List Int} {mk : List Nat} {L : Nat} {st : List Nat × List (List Nat)} {r : List Nat} (h : WnSt T mk L st) (hr : r.length = L) (v : Int) : WnSt T mk L (wnV r st v) := by
  unfold wnV
  split
  · exact h
  · rename_i hn
    refine ⟨fun x hx => List.mem_append_left _ (h.sub x hx), fun q hq => ?_, fun x => ?_⟩
    · rcases List.mem_append.mp hq with hq | hq
      · exact h.len q hq
      · rw [List.mem_singleton.mp hq, List.length_append, List.length_singleton, hr]
    · constructor
      · rintro ⟨q, hq, e⟩
        rcases List.mem_append.mp hq with hq | hq
        · have := (h.last x).mp ⟨q, hq, e⟩
          exact ⟨List.mem_append_left _ this.1, this.2⟩
        · rw [List.mem_singleton.mp hq, lastN_app] at e
          subst e
          exact ⟨List.mem_append_right _ (List.mem_singleton.mpr rfl), fun q => hn (h.sub _ q)⟩
      · rintro ⟨hx, hm⟩
        rcases List.mem_append.mp hx with hx | hx
        · obtain ⟨q, hq, e⟩ := (h.last x).mpr ⟨hx, hm⟩
          exact ⟨q, List.mem_append_left _ hq, e⟩
        · exact ⟨r ++ [v.toNat], List.mem_append_right _ (List.mem_singleton.mpr rfl), by rw [lastN_app, List.mem_singleton.mp hx]⟩
theorem WnSt.vs {T : Nat → List Int} {mk : List Nat} {L : Nat} {r : List Nat} (hr : r.length = L) : ∀ (vs : List Int) {st : List Nat × List (List Nat)}, WnSt T mk L st → WnSt T mk L (vs.foldl (wnV r) st) ∧ ∀ x, x ∈ (vs.foldl (wnV r) st).1 ↔ x ∈ st.1 ∨ ∃ v ∈ vs, x = v.toNat
  | [], st, h => ⟨h, fun x => by simp⟩
  | v :: vs, st, h => by
    have ih := WnSt.vs hr vs (h.v hr v)
    refine ⟨ih.1, fun x => ?_⟩
    rw [List.foldl_cons, ih.2, wnV_known]
    constructor
    · rintro ((h | h) | ⟨u, hu, e⟩)
      · exact .inl h
      · exact .inr ⟨v, List.mem_cons_self, h⟩
      · exact .inr ⟨u, List.mem_cons_of_mem _ hu, e⟩
    · rintro (h | ⟨u, hu, e⟩)
      · exact .inl (.inl h)
      · rcases List.mem_cons.mp hu with rfl | hu
        · exact .inl (.inr e)
        · exact .inr ⟨u, hu, e⟩
/-- the law's layers: how many blocks the shortest row has -/
def fewL (n : Nat) (T : Nat → List Int) : Nat → Nat → List Nat → List Nat → Nat
  | 0, _, _, _ => 0
  | f + 1, t, layer, known => if layer.any (fun k => decide ((-1 : Int) ∈ T k)) then t + 1 else
    fewL n T f (t + 1) ((List.range n).filter fun k => !decide (k ∈ known) && layer.any fun j => decide ((j : Int) ∈ T k)) (known ++ (List.range n).filter fun k => !decide (k ∈ known) && layer.any fun j => decide ((j : Int) ∈ T k))
/-- ties, both ways about -/
structure TieOk (n : Nat) (T : Nat → List Int) : Prop where
  sym : ∀ a b : Nat, a < n → (b : Int) ∈ T a → (a : Int) ∈ T b
  rng : ∀ (a : Nat) (v : Int), a < n → v ∈ T a → v = -1 ∨ (0 ≤ v ∧ v < (n : Int))
def wlen : Option (List Nat) → Nat
  | none => 0
  | some r => r.length
end Wk

/-! Core71: saves and backs of built works by turns (plain) -/
namespace Wk
open PySem DL L2
/-- a deed by the law's look: what is open then; none where it comes wrong -/
def dO : Dd → List Nat → Option (List Nat)
  | .save b, o => if b ∈ o then none else some (o ++ [b])
  | .back b, o => if b ∈ o then some (o.erase b) else none
  | .set b _, o => if b ∈ o then some o else none
  | .add b _, o => if b ∈ o then some o else none
  | .tell _, o => some o
  | .call _, o => some o
def dsO : List Dd → List Nat → Option (List Nat)
  | [], o => some o
  | d :: ds, o => (dO d o).bind (dsO ds)
/-- the open boxes are just these -/
structure Same (o : List Nat) (S : Nat → Prop) : Prop where
  nd : o.Nodup
  mem : ∀ b, b ∈ o ↔ S b
/-- a box is saved at a place -/
def svP (pl : Pl) (k : Int) (b : Nat) : Prop := ∃ q ∈ pl, q.1 = b ∧ k ∈ q.2.map fun (n : Nat) => (n : Int)
/-- works whose blocks save and bring back by turns, from what is open as each is come to -/
structure Rgt (bs : W) (Ein : Nat → Nat → Prop) : Prop where
  pos : 0 < bs.length
  none : ∀ b, ¬ Ein 0 b
  blk : ∀ k b o, bs[k]? = some b → Same o (Ein k) → ∃ o', dsO b.1 o = some o' ∧ (b.2 = .out → o' = []) ∧ ∀ t ∈ b.2.nx, t < bs.length ∧ Same o' (Ein t)
/-- what is open as a built block is come to -/
def entS (w : W) (pl : Pl) (k b : Nat) : Prop :=
  if k < w.length then (∀ y ∈ bgs w pl (k : Int), svP pl y.1 b) ∧ (bgs w pl (k : Int) = [] → svP pl (k : Int) b) else ∃ y, (splitsL w pl)[k - w.length]? = some y ∧ svP pl y.1 b
/-- plans whose sets hold the writers -/
structure PlW (w : W) (pl : Pl) : Prop where
  wr : ∀ (k : Nat) (b : Bk), w[k]? = some b → ∀ d ∈ b.1, d.plain = true ∧ (d.wr = true → svP pl (k : Int) d.wb)
section
variable {w : W} {pl : Pl} (hok : PlOk w.length pl) (hp : 0 < w.length) (hn : ∀ b ∈ w, ∀ t ∈ b.2.nx, 1 ≤ t ∧ t < w.length) (nd : ∀ b ∈ w, b.2.nx.Nodup)
include hok hp hn nd
end
/-- a frame of a call: the rest of its block comes right -/
structure FrR (bs : W) (Ein : Nat → Nat → Prop) (k p : Nat) (o : List Nat) : Prop where
  nd : o.Nodup
  lt : ∀ b ∈ o, b < 8
  go : ∃ b, bs[k]? = some b ∧ p ≤ b.1.length ∧ ∃ o', dsO (b.1.drop p) o = some o' ∧ (b.2 = .out → o' = []) ∧ ∀ t ∈ b.2.nx, t < bs.length ∧ Same o' (Ein t)
theorem FrR.few {bs : W} {Ein : Nat → Nat → Prop} {k p : Nat} {o : List Nat} (h : FrR bs Ein k p o) : o.length ≤ 8 := by
  have := nodup_leN (m := List.range 8) h.nd fun b hb => List.mem_range.mpr (h.lt b hb)
  rw [List.length_range] at this; exact this
theorem FrR.new {bs : W} {Ein : Nat → Nat → Prop} (h : Rgt bs Ein) : FrR bs Ein 0 0 [] := by
  have hpos := h.pos
  have hb : bs[0]? = some bs[0] := List.getElem?_eq_getElem h.pos
  obtain ⟨o', g1, g2, g3⟩ := h.blk 0 bs[0] [] hb ⟨.nil, fun b => ⟨fun q => (nomatch q), fun q => absurd q (h.none b)⟩⟩
  exact ⟨.nil, fun _ h => (nomatch h), bs[0], hb, Nat.zero_le _, o', g1, g2, g3⟩
theorem dO_keep {nw : Nat} {d : Dd} {o o' : List Nat} (hd : DdB nw d) (h : dO d o = some o') (nd : o.Nodup) (lt : ∀ b ∈ o, b < 8) : o'.Nodup ∧ ∀ b ∈ o', b < 8 := by
  cases d with
  | save b =>
    have h : (if b ∈ o then none else some (o ++ [b])) = some o' := h
    split at h
    · cases h
    · rename_i hb
      cases h
      refine ⟨List.nodup_append.mpr ⟨nd, by simp, fun a ha c hc e => hb (by rw [List.mem_singleton] at hc; rw [← hc, ← e]; exact ha)⟩, fun c hc => ?_⟩
      rcases List.mem_append.mp hc with hc | hc
      · exact lt c hc
      · rw [List.mem_singleton.mp hc]; exact hd
  | back b =>
    have h : (if b ∈ o then some (o.erase b) else none) = some o' := h
    split at h
    · cases h; exact ⟨nd.erase _, fun c hc => lt c (List.mem_of_mem_erase hc)⟩
    · cases h
  | set b n =>
    have h : (if b ∈ o then some o else none) = some o' := h
    split at h <;> cases h
    exact ⟨nd, lt⟩
  | add b n =>
    have h : (if b ∈ o then some o else none) = some o' := h
    split at h <;> cases h
    exact ⟨nd, lt⟩
  | tell b => cases h; exact ⟨nd, lt⟩
  | call b => cases h; exact ⟨nd, lt⟩
theorem FrR.deed {nw : Nat} {bs : W} {Ein : Nat → Nat → Prop} {k p : Nat} {o : List Nat} (h : FrR bs Ein k p o) {b : Bk} (hb : bs[k]? = some b) {d : Dd} (hd : b.1[p]? = some d) (hB : DdB nw d) : ∃ o', dO d o = some o' ∧ FrR bs Ein k (p + 1) o' := by
  obtain ⟨b', hb', hp, o2, g1, g2⟩ := h.go
  rw [hb] at hb'
  cases hb'
  have hlt := (List.getElem?_eq_some_iff.mp hd).1
  have e : b.1.drop p = d :: b.1.drop (p + 1) := by
    rw [List.drop_eq_getElem_cons hlt]
    congr 1
    exact (List.getElem?_eq_some_iff.mp hd).2
  rw [e] at g1
  have g1 : (dO d o).bind (dsO (b.1.drop (p + 1))) = some o2 := g1
  cases h1 : dO d o with
  | none => rw [h1] at g1; cases g1
  | some o1 =>
    rw [h1] at g1
    obtain ⟨q1, q2⟩ := dO_keep hB h1 h.nd h.lt
    exact ⟨o1, rfl, q1, q2, b, hb, hlt, o2, g1, g2⟩
theorem FrR.fin {bs : W} {Ein : Nat → Nat → Prop} {k p : Nat} {o : List Nat} (h : FrR bs Ein k p o) (r : Rgt bs Ein) {b : Bk} (hb : bs[k]? = some b) (hd : b.1.length ≤ p) : (b.2 = .out → o = []) ∧ ∀ t ∈ b.2.nx, FrR bs Ein t 0 o := by
  obtain ⟨b', hb', hp, o2, g1, g2, g3⟩ := h.go
  rw [hb] at hb'
  cases hb'
  rw [List.drop_eq_nil_iff.mpr hd] at g1
  cases g1
  refine ⟨g2, fun t ht => ?_⟩
  obtain ⟨h1, h2⟩ := g3 t ht
  have hbt : bs[t]? = some bs[t] := List.getElem?_eq_getElem h1
  exact ⟨h.nd, h.lt, bs[t], hbt, Nat.zero_le _, by rw [List.drop_zero]; exact r.blk t bs[t] o hbt h2⟩
end Wk

/-! Core72: list.remove of a whole number -/
namespace DL
open PySem PySem.Spec PyProof.Rows L2 Wk
end DL

/-! Core73: built works run as the plain ones mean: places, what boxes hold, moves counted (plain) -/
namespace Wk
open PySem DL L2
/-! ### what is awaited from a place within a block on -/
section
variable {ws : List W} {b n k t m : Nat} {w : W} {bk : Bk} {d : Dd} {ds : List Dd} {nx : List Nat}
def AwD (ws : List W) (b n : Nat) (ds : List Dd) (nx : List Nat) : Prop :=
  (∃ (i : Nat) (d : Dd), ds[i]? = some d ∧ d.rd b = true ∧ NoWr b (ds.take i)) ∨ (∃ (i m : Nat), ds[i]? = some (.call m) ∧ NoWr b (ds.take i) ∧ Awt ws b m 0) ∨ (NoWr b ds ∧ ∃ t ∈ nx, Awt ws b n t)
theorem noWr_cons (hd : d.wrB b = false) (h : NoWr b ds) : NoWr b (d :: ds) := fun x hx => (List.mem_cons.mp hx).elim (fun e => e ▸ hd) (h x)
theorem AwD.cons (hd : d.wrB b = false) (h : AwD ws b n ds nx) : AwD ws b n (d :: ds) nx := by
  rcases h with ⟨i, d', h1, h2, h3⟩ | ⟨i, m, h1, h2, h3⟩ | ⟨h1, t, h2, h3⟩
  · exact .inl ⟨i + 1, d', by simpa using h1, h2, by rw [List.take_succ_cons]; exact noWr_cons hd h3⟩
  · exact .inr (.inl ⟨i + 1, m, by simpa using h1, by rw [List.take_succ_cons]; exact noWr_cons hd h2, h3⟩)
  · exact .inr (.inr ⟨noWr_cons hd h1, t, h2, h3⟩)
theorem AwD.rd (h : d.rd b = true) : AwD ws b n (d :: ds) nx := .inl ⟨0, d, rfl, h, fun _ h => by simp at h⟩
theorem AwD.call (h : Awt ws b m 0) : AwD ws b n (.call m :: ds) nx := .inr (.inl ⟨0, m, rfl, fun _ h => by simp at h, h⟩)
theorem AwD.nil (ht : t ∈ nx) (h : Awt ws b n t) : AwD ws b n [] nx := .inr (.inr ⟨fun _ h => by simp at h, t, ht, h⟩)
theorem Awt.lt (h : Awt ws b n k) : ∃ w, ws[n]? = some w ∧ k < w.length := by
  cases h with
  | read h1 h2 => exact ⟨_, h1, (List.getElem?_eq_some_iff.mp h2).1⟩
  | call h1 h2 => exact ⟨_, h1, (List.getElem?_eq_some_iff.mp h2).1⟩
  | step h1 h2 => exact ⟨_, h1, (List.getElem?_eq_some_iff.mp h2).1⟩
/-- what a place needs: the numbers that are read from there on -/
def Need (ws : List W) (n : Nat) (w : W) (k : Nat) (b : Nat) : Option Nat → Prop
  | none => Awt ws b n k
  | some j => AwD ws b n ((w.getD k bk0).1.drop j) (w.getD k bk0).2.nx
/-- to a place ways lead from a write of the same call -/
def Rcd (w : W) (k : Nat) (b : Nat) : Option Nat → Prop
  | none => k ∈ reachL w b
  | some j => k ∈ reachL w b ∨ ∃ d ∈ (w.getD k bk0).1.take j, d.wrB b = true
end
/-! ### saves and backs counted -/
def isSv : Dd → Bool
  | .save _ => true
  | _ => false
def isBk : Dd → Bool
  | .back _ => true
  | _ => false
def cntD (p : Dd → Bool) (ds : List Dd) : Int := ((ds.filter p).length : Int)
def sumI {α : Type} (l : List α) (g : α → Int) : Int := (l.map g).sum
/-- how often a way is gone -/
def goneN (g : Gone) (n : Nat) (y : Int × Int) : Int := (valA (g.getD n []) y).getD 0
noncomputable def totC (p : Dd → Bool) (ws : List W) (pls : List Pl) (g : Gone) : Int :=
  sumI (List.range ws.length) fun n => sumI (ways (ws.getD n [])) fun y => goneN g n y * cntD p (mvs (ws.getD n []) (pls.getD n []) y)
/-! ### what boxes hold, in a call by what works mean and with shared boxes -/
structure Vals (held : List Int) (need rcd : Nat → Prop) (bx ah : List Int) (sh : List (Int × Int)) (op : List Nat) : Prop where
  hl : held.length = 8
  bl : bx.length = 8
  al : ah.length = 8
  v1 : ∀ b, b ∉ op → held.getD b 0 = ah.getD b 0
  v2 : ∀ b ∈ op, valA sh (b : Int) = some (ah.getD b 0)
  v3 : ∀ b, need b → held.getD b 0 = bx.getD b 0
  v4 : ∀ b, rcd b ∨ (need b → bx.getD b 0 = ah.getD b 0)
section
variable {held bx ah : List Int} {need rcd need' rcd' : Nat → Prop} {sh : List (Int × Int)} {op op' : List Nat} {b : Nat} {x : Int}
theorem Vals.mono (h : Vals held need rcd bx ah sh op) (hn : ∀ b, need' b → need b) (hr : ∀ b, need' b → rcd b → rcd' b) : Vals held need' rcd' bx ah sh op :=
  ⟨h.hl, h.bl, h.al, h.v1, h.v2, fun b q => h.v3 b (hn b q), fun b => (Classical.em (need' b)).elim (fun z => (h.v4 b).imp (hr b z) fun q _ => q (hn b z)) fun z => .inr fun q => absurd q z⟩
theorem getD_set {l : List Int} {b c : Nat} {x : Int} (hb : b < l.length) : (l.set b x).getD c 0 = if c = b then x else l.getD c 0 := by
  rw [List.getD_eq_getElem?_getD, List.getElem?_set]
  by_cases e : b = c
  · subst e; rw [if_pos rfl, if_pos rfl, if_pos hb]; rfl
  · rw [if_neg e, if_neg fun q => e q.symm, ← List.getD_eq_getElem?_getD]
theorem Vals.save (h : Vals held need rcd bx ah sh op) (ho : dO (.save b) op = some op') : Vals held need rcd bx ah (putA sh (b : Int) (held.getD b 0)) op' ∧ op'.length = op.length + 1 := by
  have ho : (if b ∈ op then none else some (op ++ [b])) = some op' := ho
  split at ho
  · cases ho
  · rename_i hb
    cases ho
    refine ⟨⟨h.hl, h.bl, h.al, fun c hc => h.v1 c fun q => hc (List.mem_append_left _ q), fun c hc => ?_, h.v3, h.v4⟩, List.length_append⟩
    rw [valA_put]
    by_cases e : c = b
    · subst e; rw [if_pos rfl, h.v1 c hb]
    · rw [if_neg (by omega)]
      exact h.v2 c ((List.mem_append.mp hc).resolve_right fun q => e (List.mem_singleton.mp q))
theorem Vals.back (h : Vals held need rcd bx ah sh op) (nd : op.Nodup) (hb8 : b < 8) (ho : dO (.back b) op = some op') (hnr : need b → ¬ rcd b) : ∃ v, valA sh (b : Int) = some v ∧ Vals (held.set b v) need rcd bx ah sh op' ∧ op.length = op'.length + 1 := by
  have ho : (if b ∈ op then some (op.erase b) else none) = some op' := ho
  split at ho
  · rename_i hb
    cases ho
    have hbl : b < held.length := by rw [h.hl]; exact hb8
    refine ⟨_, h.v2 b hb, ⟨by rw [List.length_set]; exact h.hl, h.bl, h.al, fun c hc => ?_, fun c hc => h.v2 c (List.mem_of_mem_erase hc), fun c hc => ?_, h.v4⟩, ?_⟩
    · rw [getD_set hbl]
      by_cases e : c = b
      · subst e; rw [if_pos rfl]
      · rw [if_neg e]
        exact h.v1 c fun q => hc ((List.mem_erase_of_ne e).mpr q)
    · rw [getD_set hbl]
      by_cases e : c = b
      · subst e
        rw [if_pos rfl]
        exact (((h.v4 c).resolve_left (hnr hc)) hc).symm
      · rw [if_neg e]; exact h.v3 c hc
    · rw [List.length_erase_of_mem hb]
      have := List.length_pos_of_mem hb
      omega
  · cases ho
theorem Vals.write (h : Vals held need rcd bx ah sh op) (hb8 : b < 8) (hb : b ∈ op) (hn : ∀ c, c ≠ b → need' c → need c) (hr : ∀ c, rcd c → rcd' c) (hrb : rcd' b) : Vals (held.set b x) need' rcd' (bx.set b x) ah sh op := by
  have hbl : b < held.length := by rw [h.hl]; exact hb8
  have hbx : b < bx.length := by rw [h.bl]; exact hb8
  refine ⟨by rw [List.length_set]; exact h.hl, by rw [List.length_set]; exact h.bl, h.al, fun c hc => ?_, h.v2, fun c hc => ?_, fun c => ?_⟩
  · rw [getD_set hbl, if_neg (fun (e : c = b) => hc (by rw [e]; exact hb))]
    exact h.v1 c hc
  · rw [getD_set hbl, getD_set hbx]
    by_cases e : c = b
    · rw [if_pos e, if_pos e]
    · rw [if_neg e, if_neg e]
      exact h.v3 c (hn c e hc)
  · by_cases e : c = b
    · exact .inl (e ▸ hrb)
    · refine (h.v4 c).imp (hr c) fun q z => ?_
      rw [getD_set hbx, if_neg e]
      exact q (hn c e z)
theorem Vals.new (h : Vals held need rcd bx ah sh op) (hn : ∀ b, need' b → need b) : Vals held need' rcd' bx held [] [] :=
  ⟨h.hl, h.bl, h.hl, fun _ _ => rfl, fun _ q => (nomatch q), fun b q => h.v3 b (hn b q), fun b => .inr fun q => (h.v3 b (hn b q)).symm⟩
theorem Vals.out (h : Vals held need rcd bx ah sh []) : held = ah := by
  refine List.ext_getElem (h.hl.trans h.al.symm) fun i h1 h2 => ?_
  have := h.v1 i (fun q => nomatch q)
  rw [List.getD_eq_getElem?_getD, List.getD_eq_getElem?_getD, List.getElem?_eq_getElem h1, List.getElem?_eq_getElem h2] at this
  exact this
end
end Wk
namespace Wk
open PySem DL L2
/-! ### places of a built work, and of the plain one -/
/-- a work with a plan in it -/
structure Sv (ws : List W) (n : Nat) (w : W) (pl : Pl) : Prop where
  at_ : ws[n]? = some w
  ok : PlOk w.length pl
  pos : 0 < w.length
  hn : ∀ b ∈ w, ∀ t ∈ b.2.nx, 1 ≤ t ∧ t < w.length
  nd : ∀ b ∈ w, b.2.nx.Nodup
  plw : PlW w pl
  busy : ∀ b ∈ pl.map (·.1), ∀ k, k ∈ reachL w b → Awt ws b n k → svP pl (k : Int) b
  bd : ∀ b ∈ bltW w pl, ∀ d ∈ b.1, DdB ws.length d
section
variable {ws : List W} {n : Nat} {w : W} {pl : Pl} {b k t i j : Nat} {bk : Bk} {d : Dd} {y : Int × Int}
theorem Sv.nxIn (S : Sv ws n w pl) : NxIn (nexts w) := ⟨fun l hl t ht => by
  obtain ⟨b, hb, rfl⟩ := List.mem_map.mp hl
  rw [nexts_len]
  exact (S.hn b hb t ht).2⟩
/-- where a frame of a built work's call stands, and where that of the plain one's does: the way, block and place there; one more step or none; moves due of ways that are counted; moves done of a way that isn't -/
inductive Plc (w : W) (pl : Pl) : Int → Nat → Option Nat → Nat → Option Nat → Nat → List Dd → List Dd → Prop
  | come {fm : Int} {k : Nat} {bk : Bk} : w[k]? = some bk → (fm, (k : Int)) ∈ ways w → Plc w pl fm k none k none 1 [] (if homeL w (fm, (k : Int)) = "begin" then [] else mvs w pl (fm, (k : Int)))
  | beg {fm : Int} {k i : Nat} {bk : Bk} : w[k]? = some bk → i < (bgL w pl (k : Int)).length → Plc w pl fm k (some 0) k (some i) 0 ((bgL w pl (k : Int)).drop i) []
  | mid {fm : Int} {k i : Nat} {bk : Bk} : w[k]? = some bk → i ≤ bk.1.length → Plc w pl fm k (some i) k (some ((bgL w pl (k : Int)).length + i)) 0 [] []
  | fin {fm : Int} {k i : Nat} {bk : Bk} : w[k]? = some bk → i ≤ (enL w pl (k : Int)).length → Plc w pl fm k (some bk.1.length) k (some ((bgL w pl (k : Int)).length + bk.1.length + i)) 0 [] ((enL w pl (k : Int)).take i)
  | scome {k t j : Nat} {bk : Bk} : (splitsL w pl)[j]? = some ((k : Int), (t : Int)) → w[k]? = some bk → t ∈ bk.2.nx → Plc w pl (k : Int) t none (w.length + j) none 0 [] []
  | smid {k t j i : Nat} {bk : Bk} : (splitsL w pl)[j]? = some ((k : Int), (t : Int)) → w[k]? = some bk → t ∈ bk.2.nx → i ≤ (mvs w pl ((k : Int), (t : Int))).length → Plc w pl (k : Int) t none (w.length + j) (some i) 1 [] ((mvs w pl ((k : Int), (t : Int))).take i)
  | out {k : Nat} {bk : Bk} : w[k]? = some bk → bk.2 = .out → Plc w pl (k : Int) w.length none (bltW w pl).length none 0 [] (mvs w pl ((k : Int), ((w.length : Nat) : Int)))
/-- a frame of each, with what the boxes hold -/
structure FrS (ws : List W) (pls : List Pl) (held : List Int) (f1 : Fr) (f2 : Fq) (op : List Nat) (pen : Nat) (due ahead : List Dd) : Prop where
  ex : ∃ w pl, ws[f1.wk]? = some w ∧ pls[f1.wk]? = some pl ∧ f2.wk = f1.wk ∧ Plc w pl f1.fm f1.to f1.idx f2.to f2.idx pen due ahead ∧ (if f2.to < (bltW w pl).length then FrR (bltW w pl) (entS w pl) f2.to (f2.idx.getD 0) op else op = []) ∧
    Vals held (fun b => Need ws f1.wk w f1.to b f1.idx) (fun b => Rcd w f1.to b f1.idx) f1.bx f2.ah f2.sh op
/-- frames below: they wait for a call -/
inductive StkS (ws : List W) (pls : List Pl) (bx0 : List Int) : List Int → List Fr → List Fq → Nat → Prop
  | nil : StkS ws pls bx0 bx0 [] [] 0
  | cons {held : List Int} {f1 : Fr} {f2 : Fq} {op : List Nat} {K1 : List Fr} {K2 : List Fq} {s : Nat} : FrS ws pls held f1 f2 op 0 [] [] → StkS ws pls bx0 f2.ah K1 K2 s → StkS ws pls bx0 held (f1 :: K1) (f2 :: K2) (op.length + s)
theorem StkS.len {bx0 held : List Int} {pls : List Pl} {K1 : List Fr} {K2 : List Fq} {s : Nat} (h : StkS ws pls bx0 held K1 K2 s) : K1.length = K2.length := by
  induction h with
  | nil => rfl
  | cons _ _ ih => rw [List.length_cons, List.length_cons, ih]
end
end Wk

/-! Core74: built works run as the plain ones mean: step by step (plain) -/
namespace Wk
open PySem DL L2
/-- the works with their plans in them -/
structure SvAll (ws : List W) (pls : List Pl) (bs : List W) : Prop where
  len : pls.length = ws.length
  sv : ∀ n w pl, ws[n]? = some w → pls[n]? = some pl → Sv ws n w pl
  bs : ∀ n w pl, ws[n]? = some w → pls[n]? = some pl → bs.getD n [] = bltW w pl
theorem SvAll.at_ {ws : List W} {pls : List Pl} {bs : List W} (A : SvAll ws pls bs) {n : Nat} (h : n < ws.length) : ∃ w pl, ws[n]? = some w ∧ pls[n]? = some pl :=
  ⟨ws[n], pls[n]'(by rw [A.len]; exact h), List.getElem?_eq_getElem h, List.getElem?_eq_getElem (by rw [A.len]; exact h)⟩
/-- the two runs so far -/
structure SmR (ws : List W) (pls : List Pl) (rs1 : Rs) (rs2 : Rq) (pen : Nat) (due ahead : List Dd) (s : Nat) : Prop where
  told : rs2.told = rs1.told
  tk : rs2.taken = rs1.taken
  fl : rs2.faults = []
  gl : rs1.gone.length = ws.length
  s1 : rs1.steps ≤ rs2.steps
  s2 : rs2.steps ≤ 2 * rs1.steps + pen
  m1 : rs2.mv.1 + cntD isSv due = totC isSv ws pls rs1.gone + cntD isSv ahead
  m2 : rs2.mv.2 + cntD isBk due = totC isBk ws pls rs1.gone + cntD isBk ahead
  m3 : rs2.mv.1 = rs2.mv.2 + (s : Int)
inductive Sim (ws : List W) (pls : List Pl) (bx0 : List Int) : Rs → List Fr → Rq → List Fq → Prop
  | fin {rs1 : Rs} {rs2 : Rq} : rs2.held = bx0 → SmR ws pls rs1 rs2 0 [] [] 0 → Sim ws pls bx0 rs1 [] rs2 []
  | run {rs1 : Rs} {rs2 : Rq} {f1 : Fr} {f2 : Fq} {K1 : List Fr} {K2 : List Fq} {op : List Nat} {pen s : Nat} {due ahead : List Dd} : FrS ws pls rs2.held f1 f2 op pen due ahead → StkS ws pls bx0 f2.ah K1 K2 s → SmR ws pls rs1 rs2 pen due ahead (op.length + s) → Sim ws pls bx0 rs1 (f1 :: K1) rs2 (f2 :: K2)
def Nx (ws : List W) (pls : List Pl) (bs : List W) (bx0 chs : List Int) (m1 m2 : Nat) (rs1 : Rs) (K1 : List Fr) (rs2 : Rq) (K2 : List Fq) : Prop :=
  (∃ z, nxtQ bs chs m2 rs2 K2 = .inl z ∧ ((z = "going" ∧ m2 ≤ rs2.steps) ∨ (nxt ws chs m1 rs1 K1 = .inl z ∧ ((z = "ended" ∧ K2 = []) ∨ z = "deep")))) ∨
  ∃ rs2' K2', nxtQ bs chs m2 rs2 K2 = .inr (rs2', K2') ∧ (Sim ws pls bx0 rs1 K1 rs2' K2' ∨ ∃ rs1' K1', nxt ws chs m1 rs1 K1 = .inr (rs1', K1') ∧ Sim ws pls bx0 rs1' K1' rs2' K2')
section
variable {ws : List W} {pls : List Pl} {bs : List W} {bx0 chs : List Int} {m1 m2 : Nat} {rs1 : Rs} {rs2 : Rq} {K1 : List Fr} {K2 : List Fq} {n k i j t : Nat} {fm fm2 : Int} {w : W} {pl : Pl} {bk : Bk} {d : Dd} {bx ah : List Int} {sh : List (Int × Int)} {op : List Nat} {s pen : Nat} {due ahead due' ahead' : List Dd}
variable (A : SvAll ws pls bs) (hw : ws[n]? = some w) (hp : pls[n]? = some pl)
include A hw hp
omit hw hp
end
end Wk

/-! Core75: how many saves and backs a plan puts on a way, box by box (plain) -/
namespace Wk
open PySem DL L2
end Wk

/-! Core76: texts: str, int, join, split, signs of a text, slices. -/
namespace DL
open PySem PySem.Spec PyProof.Rows L2
def signsD (z : Str) : List D := z.cps.toList.map fun c => D.str ⟨#[c]⟩
section
variable {X : Cx} {Γ : VEnv} {M : Mem} {Q : D → Mem → Prop} {QI : List D → (Mem → Prop) → Mem → Prop} {tg iter : Expr} {Ln Vn Bn Fn : List Str}
theorem SlD.str {z : Str} {lo hi : Option Int} (hz : z.length ≤ sizeLine) : SlD M (.str z) lo hi (.str (cutS z lo hi)) := .inr (.inr ⟨z, rfl, hz, rfl⟩)
end
end DL

/-! Core77: works as texts: words, rows, what rows write (plain) -/
namespace Wk
open PySem DL L2
abbrev S2 (l : List Nat) : Str := ⟨l.toArray⟩
def isDig (c : Nat) : Bool := decide (48 ≤ c) && decide (c ≤ 57)
/-- the number that plain figures write -/
def figL (w : Str) (most : Nat) : Option Nat :=
  if w = "" ∨ (TL.tl w).all isDig = false then none
  else if ((TL.tl w).head? = some 48 ∧ w ≠ "0") ∨ 13 < w.length then none
  else if NumText.digitsVal (TL.tl w) ≤ most then some (NumText.digitsVal (TL.tl w)) else none
def numW (w : Str) : Option Int :=
  if (TL.tl w).head? = some 45 then
    match figL (S2 ((TL.tl w).drop 1)) 1000000000000 with
    | none => none
    | some n => if n = 0 then none else some (0 - (n : Int))
  else (figL w 1000000000000).map fun (n : Nat) => (n : Int)
inductive Kd where
  | box | num | other
  deriving DecidableEq
def Kd.s : Kd → Str
  | .box => "box"
  | .num => "n"
  | .other => "other"
def partW : Kd → Str → Option Int
  | .num, w => numW w
  | .box, w => (figL w 7).map fun (n : Nat) => (n : Int)
  | .other, w => (figL w 999999999).map fun (n : Nat) => (n : Int)
def partsL (ws : List Str) (ks : List Kd) : Option (List Int) :=
  if ws.length = ks.length then
    if ((ws.zip ks).map fun p => partW p.2 p.1).any (·.isNone) then none else some ((ws.zip ks).map fun p => (partW p.2 p.1).getD 0)
  else none
def kindsD (w : Str) : Option (List Kd) :=
  if w = "set" then some [.box, .num] else if w = "add" then some [.box, .box] else if w = "call" then some [.other] else if w ∈ (["tell", "save", "back"] : List Str) then some [.box] else none
def kindsE (w : Str) : Option (List Kd) :=
  if w = "out" then some [] else if w = "go" then some [.other] else if w = "fork" then some [.other, .other] else none
abbrev Tk := Str × List Int
def tkD (t : Tk) : D := .tup (.str t.1 :: t.2.map D.int)
def readAs (ws : List Str) (ks : Option (List Kd)) : Option Tk :=
  match ks with
  | none => none
  | some ks => (partsL (ws.drop 1) ks).map fun ps => (ws.headD "", ps)
def ddTk : Dd → Tk
  | .set b n => ("set", [(b : Int), n])
  | .add b o => ("add", [(b : Int), (o : Int)])
  | .tell b => ("tell", [(b : Int)])
  | .call w => ("call", [(w : Int)])
  | .save b => ("save", [(b : Int)])
  | .back b => ("back", [(b : Int)])
def ndTk : Nd → Tk
  | .out => ("out", [])
  | .go t => ("go", [(t : Int)])
  | .fork t o => ("fork", [(t : Int), (o : Int)])
/-- what is read for a deed -/
structure DdR (d : Dd) : Prop where
  ok : match d with
    | .set b n => b < 8 ∧ -1000000000000 ≤ n ∧ n ≤ 1000000000000
    | .add b o => b < 8 ∧ o < 8
    | .tell b => b < 8
    | .call w => w ≤ 999999999
    | .save b => b < 8
    | .back b => b < 8
structure NdR (e : Nd) : Prop where
  ok : ∀ t ∈ e.nx, t ≤ 999999999
/-! ### rows -/
/-- works as far as rows have written them -/
structure Rd where
  works : List W
  deeds : Option (List Dd)
  bare : Bool
def Rd.start : Rd := ⟨[], none, false⟩
def addLast (b : Bk) : List W → List W
  | [] => []
  | [w] => [w ++ [b]]
  | w :: w2 :: ws => w :: addLast b (w2 :: ws)
def splitB (row : Str) : List Str := Txt.split row " "
open Classical in
/-- what a row's words write for a deed, for an end -/
noncomputable def readD (ws : List Str) : Option Dd := if h : ∃ d, readAs ws (kindsD (ws.headD "")) = some (ddTk d) then some h.choose else none
open Classical in
noncomputable def readE (ws : List Str) : Option Nd := if h : ∃ d, readAs ws (kindsE (ws.headD "")) = some (ndTk d) then some h.choose else none
/-- a row taken: none where it isn't so written or can't stand there -/
noncomputable def takeR (r : Rd) (row : Str) : Option Rd :=
  if row = "work" then (if r.deeds.isSome ∨ r.bare = true then none else some ⟨r.works ++ [[]], none, true⟩)
  else if row = "block" then (if r.deeds.isSome ∨ r.works = [] then none else some ⟨r.works, some [], false⟩)
  else match r.deeds with
    | none => none
    | some ds => match readE (splitB row) with
      | some e => some ⟨addLast (ds, e) r.works, none, r.bare⟩
      | none => match readD (splitB row) with
        | some d => some ⟨r.works, some (ds ++ [d]), r.bare⟩
        | none => none
/-- rows taken one behind the other: the place of the first one that isn't right, or what is read -/
noncomputable def takeAll : Rd → Nat → List Str → Nat ⊕ Rd
  | r, _, [] => .inr r
  | r, i, row :: rows => match takeR r row with
    | none => .inl i
    | some r' => takeAll r' (i + 1) rows
end Wk

/-! Core78: what is written is read back (plain) -/
namespace Wk
open PySem DL L2
def iS (i : Int) : Str := (toString i : String)
def wordsT (t : Tk) : List Str := t.1 :: t.2.map iS
/-! ### rows -/
def rowT (t : Tk) : Str := Txt.join " " (wordsT t)
/-- words of letters alone -/
def lett (w : Str) : Bool := (TL.tl w).all fun c => decide (97 ≤ c) && decide (c ≤ 122)
def rowsB (b : Bk) : List Str := "block" :: (b.1.map (fun d => rowT (ddTk d)) ++ [rowT (ndTk b.2)])
def rowsW (w : W) : List Str := "work" :: w.flatMap rowsB
def rowsWs (ws : List W) : List Str := ws.flatMap rowsW
def BkR (b : Bk) : Prop := (∀ d ∈ b.1, DdR d) ∧ NdR b.2
def textL (ws : List W) : Str := Txt.join "\n" (rowsWs ws)
/-! ### sizes -/
end Wk

/-! Core79: an instance made with no arguments -/
namespace DL
open PySem PySem.Spec PyProof.Rows L2
section
variable {X : Cx} {Γ : VEnv} {M : Mem} {Q : D → Mem → Prop} {x : Str} {p pos : Pos} {Ln Vn Bn Fn : List Str} {k : Nat} {G : DSp}
end
end DL

/-! Core80: works owned through and through (Ow), what a reader has read so far -/
namespace Wk
open PySem DL L2
abbrev Ow := List (Addr × OW)
def memX (rs : Ow) : Mem := rs.flatMap fun r => (r.1, Cell.lst (r.2.map refB)) :: memW r.2
def wsX (rs : Ow) : List W := rs.map fun r => r.2.w
/-- what a reader has: works, the last one first; the deeds of an open block; whether a work has no block yet -/
structure Rst where
  rw : Ow
  od : Option (Addr × List Dd)
  bare : Bool
def odD : Option (Addr × List Dd) → D
  | none => .non
  | some q => .ref q.1
def odM : Option (Addr × List Dd) → Mem
  | none => []
  | some q => [(q.1, .lst (q.2.map Dd.d))]
def Rst.rd (s : Rst) : Rd := ⟨(wsX s.rw).reverse, s.od.map (·.2), s.bare⟩
structure RstOk (s : Rst) (n : Nat) : Prop where
  wl : s.rw.length ≤ n
  bl : ∀ x ∈ s.rw, x.2.length ≤ n
  dl : ∀ q, s.od = some q → q.2.length ≤ n
  ne : s.od ≠ none → s.rw ≠ []
end Wk

/-! Core81: xs == [] of lists of any things -/
namespace DL
open PySem PySem.Spec PyProof.Rows L2
theorem op_eqLn {X : Cx} (hu : X.A.units < cLine) : OpR X (compareOp .Eq) (fun x y H Q => ∃ a b xs ys, x = .ref a ∧ y = .ref b ∧ SqL X.K H a xs ∧ SqL X.K H b ys ∧ xs.length ≠ ys.length ∧ Q (.bl false) H) := by
  rintro pins s σ H x y v u Q I rx ry ⟨a, b, xs, ys, rfl, rfl, h1, h2, hn, q⟩
  cases rx
  cases ry
  obtain ⟨its, rv, il, _⟩ := I.list h1
  obtain ⟨jts, rw_, jl, _⟩ := I.list h2
  have e1 := rv.length
  have e2 := rw_.length
  refine PySem.EqBoolInt.of_rc (SeqAt.RcAt.lists_lengths il.isList jl.isList ?_ hu) ⟨.bl _, H, I, rfl, q⟩
  simp only [List.size_toArray, bne_iff_ne, ne_eq]
  intro z
  exact hn (by omega)
/-- xs == [] -/
theorem od_eqNl {X : Cx} {M : Mem} {Q : D → Mem → Prop} {Ln Vn Bn Fn : List Str} {d e : D} {ds : List D} (st : Stat X Ln Vn Bn Fn) (h1 : IsR M d ds) (h2 : IsR M e []) (q : Q (.bl ds.isEmpty) M) : OD X (compareOp .Eq) d e M Q := by
  cases ds with
  | nil => exact od_eqL (ns := []) (ms := []) st h1 h2 q
  | cons d0 ds =>
    refine od_of (op_eqLn (by have := st.hu; omega)) fun S H x y rx ry m => ?_
    obtain ⟨a, xs, rfl, s1, r1⟩ := h1.get m rx
    obtain ⟨b, ys, rfl, s2, r2⟩ := h2.get m ry
    have l1 := r1.length
    have l2 := r2.length
    exact ⟨a, b, xs, ys, rfl, rfl, s1, s2, by rw [l1, l2]; simp, .of m (.bl _) q⟩
end DL

/-! Core82: drawn works are works, can be written, are things of any kind (plain) -/
namespace Wk
open PySem DL L2
theorem Dd.Ok.r {nw : Nat} {d : Dd} (h : d.Ok nw) (hn : nw ≤ 1000) : DdR d := by
  refine ⟨?_⟩
  cases d with
  | call w => have : w < nw := h; show w ≤ 999999999; omega
  | _ => exact h
end Wk

/-! Core83: two refusals (a row's, with its number; works') that leave a def: promises, raises, calls; judgements that keep the ground (WSsG) -/
namespace DL
open PySem PySem.Spec PyProof.Rows L2
inductive Er where
  | row (n : Nat) | no
structure Yc where
  C1 : Addr
  C2 : Addr
/-- a refusal in the air -/
def EY (K : PySem.W.Frag) (c : Yc) (Sg : Hp) (QX : Er → Mem → Prop) : XK := fun cls d H => ∃ M S', Same Sg S' ∧
  ((∃ (n : Nat) (dd : Addr), cls = .ref c.C1 ∧ d = some dd ∧ MO K S' ((dd, .raw (.xd [("row", .int n)])) :: M) H ∧ QX (.row n) M) ∨ (cls = .ref c.C2 ∧ d = none ∧ MO K S' M H ∧ QX .no M))
def WY (n : Nat) (K : PySem.W.Frag) (c : Yc) (Sg : Hp) (QX : Er → Mem → Prop) : WX := fun cls d σ H => σ.length = n ∧ EY K c Sg QX cls d H
theorem EY.weak {K : PySem.W.Frag} {c : Yc} {Sg S1 : Hp} {QX : Er → Mem → Prop} {cls : Value} {d : Option Addr} {H : Hp} (h : EY K c S1 QX cls d H) (e : Same Sg S1) : EY K c Sg QX cls d H := by
  obtain ⟨M, S', s, q⟩ := h
  exact ⟨M, S', e.trans s, q⟩
theorem EY.imp {K : PySem.W.Frag} {c : Yc} {Sg : Hp} {QX QX' : Er → Mem → Prop} {cls : Value} {d : Option Addr} {H : Hp} (h : EY K c Sg QX cls d H) (e : ∀ z M, QX z M → QX' z M) : EY K c Sg QX' cls d H := by
  obtain ⟨M, S', s, ⟨n, dd, e1, e2, m, q⟩ | ⟨e1, e2, m, q⟩⟩ := h
  · exact ⟨M, S', s, .inl ⟨n, dd, e1, e2, m, e _ _ q⟩⟩
  · exact ⟨M, S', s, .inr ⟨e1, e2, m, e _ _ q⟩⟩
/-- what a def that may refuse does -/
abbrev DSpY := List D → Mem → (D → Mem → Prop) → (Er → Mem → Prop) → Prop
def spY (K : PySem.W.Frag) (c : Yc) (n : Nat) (G : DSpY) : Sp := fun vs H R E => vs.length = n ∧ ∃ S M ds Q QX, MO K S M H ∧ Reps K S vs ds ∧ G ds M Q QX ∧ (∀ v H', Post K S Q v H' → R v H') ∧ ∀ cls d H', EY K c S QX cls d H' → E cls d H'
structure FsY (P : Program) (w : World) (K : PySem.W.Frag) (mg : Str → Option Value) (base : Heap) (k : Nat) (x : Str) (n : Nat) (c : Yc) (G : DSpY) : Prop where
  ex : ∃ (f : Addr) (fd : FuncData) (ps : List Str), mg x = some (.ref f) ∧ PySem.W.keepIn K (.ref f) = true ∧ Binds K fd ps [] ∧ ps.length = n ∧ GOkX P w K mg base k f fd ps (spY K c n G)
/-- judgements over a ground that is kept -/
def WEG (S0 : Hp) (X : Cx) (Γ : VEnv) (M : Mem) (e : Expr) (Q : D → Mem → Prop) : Prop := ∀ S σ H, Same S0 S → SR X S σ Γ → MO X.K S M H → tE X e σ H (Post X.K S Q)
def WSG (S0 : Hp) (X : Cx) (Γ : VEnv) (M : Mem) (st : Stmt) (E : DE) : Prop := ∀ S σ H, Same S0 S → SR X S σ Γ → MO X.K S M H → tS X st (ends X S E) σ H
def WSsG (S0 : Hp) (X : Cx) (Γ : VEnv) (M : Mem) (b : List Stmt) (E : DE) : Prop := ∀ S σ H, Same S0 S → SR X S σ Γ → MO X.K S M H → tSs X b (ends X S E) σ H
section
variable {X : Cx} {Γ : VEnv} {M : Mem} {Q : D → Mem → Prop} {QX : Er → Mem → Prop} {S0 : Hp} {c : Yc} {e : Expr} {es : List Expr} {m x : Str} {p pos : Pos} {Ln Vn Bn Fn : List Str} {k n : Nat} {G : DSpY} {E : DE} {b : List Stmt} {s : Stmt}
/-- raise X(e), X the class of rows' refusals: its own __init__ -/
def spRow (K : PySem.W.Frag) : Sp := fun vs H R _ => ∃ (a C : Addr) (v : V), vs = [.ref a, v] ∧ OexC K C ∧ PySem.W.findIn K (.ref C) "row" = some none ∧ H a = some (exo a C none) ∧
  ∀ dx, H dx = none → dx ≠ a → R .non (upd (upd H dx (exd dx [("row", v)])) a (exo a C (some dx)))
end
section
variable {P : Program} {w : World} {K : PySem.W.Frag} {mg : Str → Option Value} {base : Heap}
/-- the context of the body of a def that may refuse -/
structure BodY (P : Program) (w : World) (K : PySem.W.Frag) (mg : Str → Option Value) (base : Heap) (k : Nat) (sc : Scope) (N Ln Bn Fn Bx : List Str) (c : Yc) (Sg : Hp) (QX : Er → Mem → Prop) (X : Cx) : Prop where
  bod : Bod P w K mg base k sc N Ln Bn Fn Bx X
  tk : Takes X (WY X.N.length X.K c Sg QX)
end
end DL

/-! Core84: try: x = f(e) / except E as n: y = n, the refusal kept in y behind the suite; its field row; isinstance of it -/
namespace DL
open PySem PySem.Spec PyProof.Rows L2
/-- a caught refusal that is kept at a -/
def exv (a : Addr) (C : Value) (d : Option Addr) : HO := .ext fun hp => ∃ ob flds, hp.get? a = some ob ∧ Zc C d ob ∧ ob.data = .fields flds
section
variable {X : Cx} {pins : List (Addr × Obj)} {σ : L2.St} {H : Hp} {s : Shared} {a : Addr} {o : HO}
end
/-- what the clause wishes of a refusal: slot i its own name's, slot j the kept name's -/
def wKeep (K : PySem.W.Frag) (c0 : Value) (i j : Nat) (D : Ends) : WX := fun cls d σ H => PySem.W.exmOne K cls c0 = some true ∧ ∀ a, H a = none → D.nx (((σ.set i (some (.ref a))).set j (some (.ref a))).set i none) (upd H a (exv a cls d))
section
variable {X : Cx} {cx nm n2 : Str} {c0 : Value} {i j : Nat} {body : List Stmt} {np p1 p2 p3 hpos pos : Pos} {tb : WX → TS}
end
/-- the names at a point where one alone is known -/
def oneE : List Str → Nat → D → VEnv
  | [], _, _ => []
  | x :: N, 0, d => (x, some d) :: N.map fun y => (y, none)
  | x :: N, j + 1, d => (x, none) :: oneE N j d
section
variable {X : Cx} {Γ : VEnv} {M : Mem} {Q : D → Mem → Prop} {QX : Er → Mem → Prop} {c : Yc} {E : DE} {cx nm n2 : Str} {C0 : Addr} {i j : Nat} {body : List Stmt} {np p1 p2 p3 hpos pos : Pos} {Ln Vn Bn Fn : List Str} {e : Expr}
/-- what a refusal's class says of its kept ones -/
structure KpC (K : PySem.W.Frag) (C : Addr) : Prop where
  cl : (PySem.W.clsIn K C).isSome = true
  ga : PySem.W.findIn K (.ref C) "__getattribute__" = some (some (.builtin "BaseException.__getattribute__"))
  gt : PySem.W.findIn K (.ref C) "__getattr__" = some none
  sb : PySem.W.subIn K (.ref C) (.type "BaseException") = some true
  hd : PySem.W.hasDictIn K C = true
  ca : PySem.W.findIn K (.ref C) "__class__" = some (some (.builtin "object.__class__"))
  sg : PySem.W.specialIn K (.builtin "object.__class__") "__get__" = some (some (.builtin "getset_descriptor.__get__"))
  tk : PySem.W.takesIn K (.builtin "object.__class__") = some true
  mo : PySem.W.mroIn K C (.type "object") = some true
/-- a kept refusal: at a, of the class at C; its dict, if any -/
def Kept (M : Mem) (a C : Addr) : Prop := (∃ f, At a M (.raw (exv a (.ref C) none)) f) ∨ ∃ dd fs f g, At a M (.raw (exv a (.ref C) (some dd))) f ∧ At dd M (.raw (.xd fs)) g
def rKept (X : Cx) : List V → Hp → VK → Prop := fun xs H R => ∃ (a C : Addr) (x : V) (cv : Value) (b : Bool), xs = [.ref a, x] ∧ (∀ u, RelV x u → u = cv) ∧ (∀ hp, HOk X.prog X.w H hp → ∃ ob od, PySem.W.InstAt hp a ob C od) ∧ KpC X.K C ∧ PySem.W.kitOne X.K (.ref C) cv = some b ∧ R (.bl b) H
end
end DL

/-! Core85: sorted(d), d a dict of any many int keys -/
namespace DL
open PySem PySem.Spec PyProof.Rows L2
section
variable {X : Cx}
def rSortDB (X : Cx) : List V → Hp → VK → Prop := fun xs H R => ∃ (b : Addr) (kvs : List (Key × V)) (ns : List Int), xs = [.ref b] ∧ Rd H b (.dK kvs) ∧ kvs.map (·.1) = ns.map Sum.inl ∧ ns.length ≤ 1000000 ∧
  ∀ (ys : List Int) (p : Addr), ys.Perm ns → ys.Pairwise (· ≤ ·) → H p = none → R (.ref p) (upd H p (.lst (ys.map V.int)))
end
end DL

/-! Core86: ValueError's __init__ said by the name of a class over it -/
namespace DL
open PySem PySem.Spec PyProof.Rows L2
section
variable {X : Cx} {e : Expr} {es : List Expr} {ta : TA} {x : Str} {CS : Addr} {p1 p2 pos : Pos}
/-- the class at CS, under x, has ValueError's __init__ -/
structure VeI (K : PySem.W.Frag) (mg : Str → Option Value) (x : Str) (CS : Addr) : Prop where
  g : mg x = some (.ref CS)
  ga : PySem.W.specialIn K (.ref CS) "__getattribute__" = some (some (.builtin "type.__getattribute__"))
  rd : PySem.W.readsIn K CS (.type "type") = true
  fc : PySem.W.findCls K (.ref CS) (.type "type") "__init__" = some (.val (.builtin "ValueError.__init__"))
end
section
variable {X : Cx} {Γ : VEnv} {M : Mem} {Q : D → Mem → Prop} {x : Str} {p pos : Pos} {Ln Vn Bn Fn : List Str} {k : Nat} {G : DSp}
end
end DL

/-! Core87: what the three classes of refusals must say (YcC), and what rows come to (readAll) -/
namespace DL
open PySem PySem.Spec PyProof.Rows L2
structure YcC (P : Program) (w : World) (K : PySem.W.Frag) (mg : Str → Option Value) (base : Heap) (c : Yc) (CS : Addr) : Prop where
  g1 : mg "BadRow" = some (.ref c.C1)
  g2 : mg "NoWorks" = some (.ref c.C2)
  g0 : mg "SaveError" = some (.ref CS)
  o1 : OexC K c.C1
  i1 : ∃ (fI : Addr) (fd : FuncData) (ps : List Str), PySem.W.findIn K (.ref c.C1) "__init__" = some (some (.ref fI)) ∧ PySem.W.typeIn K (.ref fI) = some (.type "function") ∧ Binds K fd ps [] ∧ FnOk P w K mg base CX0 1 fI fd ps (spRow K)
  n1 : PySem.W.findIn K (.ref c.C1) "row" = some none
  x2 : ∃ (bmB : List Value) (B newId initId : String), ExcBaseFacts B newId initId bmB ∧ PySem.W.excIn K c.C2 bmB newId = true
  k2 : PySem.W.keepIn K (.ref c.C2) = true
  s2 : PySem.W.subIn K (.ref c.C2) (.type "BaseException") = some true
  t2 : PySem.W.typeIn K (.ref c.C2) = some (.type "type")
  e1 : PySem.W.exmOne K (.ref c.C1) (.ref CS) = some true
  e2 : PySem.W.exmOne K (.ref c.C2) (.ref CS) = some true
  p1 : KpC K c.C1
  p2 : KpC K c.C2
  v1 : PySem.W.kitOne K (.ref c.C1) (.type "ValueError") = some true
  v2 : PySem.W.kitOne K (.ref c.C2) (.type "ValueError") = some true
  w1 : PySem.W.kitOne K (.ref c.C1) (.ref c.C2) = some false
  w2 : PySem.W.kitOne K (.ref c.C2) (.ref c.C2) = some true
  w3 : PySem.W.kitOne K (.ref c.C2) (.ref c.C1) = some false
section
variable {X : Cx} {Γ : VEnv} {M : Mem} {QX : Er → Mem → Prop} {S0 : Hp} {c : Yc} {CS : Addr} {e : Expr} {p pos pos2 : Pos} {Ln Vn Bn Fn : List Str} {E : DE}
end
end DL
namespace Wk
open PySem
/-- what rows come to: the first that is not so written, or the works -/
noncomputable def readAll (rows : List Str) : Nat ⊕ List W := match takeAll Rd.start 0 rows with
  | .inl k => .inl k
  | .inr ⟨ws, none, false⟩ => .inr ws
  | .inr _ => .inl rows.length
end Wk

/-! Core88: sizes of what rows write (plain) -/
namespace Wk
open PySem DL L2
structure RdN (r : Rd) (n : Nat) : Prop where
  wl : r.works.length ≤ n
  bl : ∀ w ∈ r.works, w.length ≤ n ∧ ∀ b ∈ w, b.1.length ≤ n ∧ BkR b
  dl : ∀ ds, r.deeds = some ds → ds.length ≤ n ∧ ∀ d ∈ ds, DdR d
theorem RdN.up {r : Rd} {n : Nat} (h : RdN r n) : RdN r (n + 1) :=
  ⟨Nat.le_succ_of_le h.wl, fun w hw => ⟨Nat.le_succ_of_le (h.bl w hw).1, fun b hb => ⟨Nat.le_succ_of_le ((h.bl w hw).2 b hb).1, ((h.bl w hw).2 b hb).2⟩⟩, fun ds hd => ⟨Nat.le_succ_of_le (h.dl ds hd).1, (h.dl ds hd).2⟩⟩
end Wk
namespace DL
open PySem PySem.Spec PyProof.Rows L2
end DL

/-! Core89: for x, y in zip(xs, text) -/
namespace PySem
end PySem
namespace L2
open PySem PySem.Spec PyProof.Rows
/-- the list at a and a text, the items in new tuples -/
def ItzS (K : PySem.W.Frag) (a : Addr) (x : Str) : It :=
  ⟨fun i H => ∃ (xs : List V) (y : V) (c : Nat), SqL K H a xs ∧ xs[i]? = some y ∧ x.cps[i]? = some c,
    fun i H v H' => ∃ T y c, v = .ref T ∧ H T = none ∧ H' = upd H T (.tup [y, .str ⟨#[c]⟩]) ∧ (∀ xs, SqL K H a xs → xs[i]? = some y) ∧ x.cps[i]? = some c,
    fun i H => ∃ xs : List V, SqL K H a xs ∧ (xs.length ≤ i ∨ x.cps.size ≤ i)⟩
structure ZipSApart (a z TI TO i1 i2 : Addr) : Prop where
  sep : ZipSep2 z TI TO i1 i2 [i1, a] [i2]
  a1 : a ≠ i1
def iZipS (K : PySem.W.Frag) (ta : TA) : TI := fun σ H R => ta σ H fun vs H1 => ∃ a x xs, vs = [.ref a, .str x] ∧ SqL K H1 a xs ∧ R (ItzS K a x) H1
end L2
namespace DL
open PySem PySem.Spec PyProof.Rows L2 Wk
section
variable {X : Cx} {Γ : VEnv} {M : Mem} {a b : Expr} {QI : List D → (Mem → Prop) → Mem → Prop} {Ln Vn Bn Fn : List Str} {p pos : Pos}
def zipSD (ds : List D) (x : Str) : List D := zipD ds (x.cps.toList.map fun c => .str ⟨#[c]⟩)
end
end DL

/-! Core90: how many rows works take, and what their repr's bulk is (plain) -/
namespace Wk
open PySem DL L2
/-- rows taken so far -/
def Rd.cnt (r : Rd) : Nat := (rowsWs r.works).length + match r.deeds with
  | none => 0
  | some ds => ds.length + 1
end Wk

/-! Core91: t[::-1] of a tuple, xs[a:b] = ys, t == () -/
namespace HT
open PySem PySem.Spec PyProof.Rows L2
section
variable {prog : Program} {w : World} {A : Around} {E : Value → Shared → Prop} {s : Shared}
end
end HT
namespace DL
open PySem PySem.Spec PyProof.Rows L2 Wk
section
variable {X : Cx} {Γ : VEnv} {M : Mem} {Q : D → Mem → Prop} {e : Expr} {Ln Vn Bn Fn : List Str}
def tRevT (K : PySem.W.Frag) (te : TE) : TE := fun σ H Q => te σ H fun x H1 => ∃ a xs, x = .ref a ∧ SqT K H1 a xs ∧ ∀ p, H1 p = none → Q (.ref p) (upd H1 p (.tup xs.reverse))
end
end DL

/-! Core92: isinstance(x, (list, tuple)); repr of any thing; things of short lists, places in them, and what stands there replaced -/
namespace DL
open PySem PySem.Spec PyProof.Rows L2 Wk
section
variable {X : Cx} {Γ : VEnv} {M : Mem} {Q : D → Mem → Prop} {e : Expr} {Ln Vn Bn Fn : List Str}
/-- repr of constants -/
theorem call_repr_int : CallR X (.builtin "repr") (fun xs H R => ∃ i : Int, xs = [.int i] ∧ i.natAbs.log2 < 1920 ∧ R (.str (toString i : String)) H) := by
  intro pins s σ H xs us R I r h
  obtain ⟨i, rfl, hi, q⟩ := h
  cases r with
  | cons p r =>
    cases r
    obtain ⟨t, rfl⟩ := p
    exact PySem.P.repr_of_int hi ⟨.str _, H, I.tok _, ⟨_, rfl⟩, q⟩
theorem call_repr_bl : CallR X (.builtin "repr") (fun xs H R => ∃ b : Bool, xs = [.bl b] ∧ R (.str (if b then "True" else "False")) H) := by
  intro pins s σ H xs us R I r h
  obtain ⟨b, rfl, q⟩ := h
  cases r with
  | cons p r =>
    cases r
    cases (show _ = Value.bool b from p)
    exact PySem.P.repr_of_bool ⟨.str _, H, I.tok _, ⟨_, rfl⟩, q⟩
theorem call_repr_str : CallR X (.builtin "repr") (fun xs H R => ∃ x : Str, xs = [.str x] ∧ (reprText x).length ≤ sizeLine ∧ R (.str (reprText x)) H) := by
  intro pins s σ H xs us R I r h
  obtain ⟨x, rfl, hx, q⟩ := h
  cases r with
  | cons p r =>
    cases r
    obtain ⟨t, rfl⟩ := p
    exact PySem.P.repr_of_str ⟨.str _, H, I.tok _, ⟨_, rfl⟩, q⟩ hx
/-- can be shown -/
def Rp (M : Mem) (k n : Nat) (d : D) : Prop := ∃ p, PyX M d p ∧ ShB k n p
theorem cd_reprP {d : D} {p : PyData} {k n : Nat} (st : Stat X Ln Vn Bn Fn) (hp : PyX M d p) (hb : ShB k n p) (hk : k ≤ 64) (hn : n ≤ 1000000) (hs : ∃ mm, X.base.Ns sysModules mm) (q : Q (.str p.shown) M) : CD X (.builtin "repr") [d] M Q := by
  have hf := hb.fits hn
  cases hp with
  | non => exact cd_reprN q
  | bl b =>
    refine cd_of call_repr_bl fun S H xs rx m => ?_
    obtain ⟨v, rfl, rv⟩ := reps_one rx
    rw [rv.bl_inv]
    exact ⟨b, rfl, .of m (.str _) (by cases b <;> exact q)⟩
  | int i =>
    refine cd_of call_repr_int fun S H xs rx m => ?_
    obtain ⟨v, rfl, rv⟩ := reps_one rx
    rw [rv.int_inv]
    exact ⟨i, rfl, of_decide_eq_true hb.sh, .of m (.str _) q⟩
  | str x =>
    refine cd_of call_repr_str fun S H xs rx m => ?_
    obtain ⟨v, rfl, rv⟩ := reps_one rx
    rw [rv.str_inv]
    exact ⟨x, rfl, hf, .of m (.str _) q⟩
  | lst h => exact cd_reprB st (.inl ⟨_, rfl⟩) (.lst h) hb hk hn hs q
  | tup h => exact cd_reprB st (.inr (.inl ⟨_, rfl⟩)) (.tup h) hb hk hn hs q
  | ref h1 h2 => exact cd_reprB st (.inr (.inr ⟨_, rfl⟩)) (.ref h1 h2) hb hk hn hs q
  | dct h1 h2 h3 => exact cd_reprB st (.inr (.inr ⟨_, rfl⟩)) (.dct h1 h2 h3) hb hk hn hs q
end
end DL
namespace Wk
open PySem DL L2
/-- a thing of short lists -/
inductive Tq (M : Mem) (L : Nat) : D → Prop
  | non : Tq M L .non
  | bl (b : Bool) : Tq M L (.bl b)
  | int (i : Int) : Tq M L (.int i)
  | str (x : Str) : Tq M L (.str x)
  | lst {xs : List D} : xs.length ≤ L → (∀ x ∈ xs, Tq M L x) → Tq M L (.lst xs)
  | tup {xs : List D} : xs.length ≤ L → (∀ x ∈ xs, Tq M L x) → Tq M L (.tup xs)
  | dK {a : Addr} {f : Cell → Mem} {kvs : List (Key × D)} (h : At a M (.dK kvs) f) : Tq M L (.ref a)
theorem Tq.mono {M : Mem} {L L' : Nat} {d : D} (h : Tq M L d) (hl : L ≤ L') : Tq M L' d := by
  induction h with
  | non => exact .non
  | bl b => exact .bl b
  | int i => exact .int i
  | str x => exact .str x
  | lst h _ ih => exact .lst (Nat.le_trans h hl) ih
  | tup h _ ih => exact .tup (Nat.le_trans h hl) ih
  | dK h => exact .dK h
/-- a place in a thing -/
inductive Pa : D → List Nat → D → Prop
  | nil {d : D} : Pa d [] d
  | lst {xs : List D} {i : Nat} {x y : D} {q : List Nat} : xs[i]? = some x → Pa x q y → Pa (.lst xs) (i :: q) y
  | tup {xs : List D} {i : Nat} {x y : D} {q : List Nat} : xs[i]? = some x → Pa x q y → Pa (.tup xs) (i :: q) y
def kidsD : D → Option (List D)
  | .lst xs => some xs
  | .tup xs => some xs
  | _ => none
theorem Pa.last {d z : D} : ∀ {q : List Nat} {i : Nat}, Pa d (q ++ [i]) z → ∃ y xs, Pa d q y ∧ kidsD y = some xs ∧ xs[i]? = some z
  | [], i, h => by
    cases h with
    | lst h h2 => cases h2; exact ⟨_, _, .nil, rfl, h⟩
    | tup h h2 => cases h2; exact ⟨_, _, .nil, rfl, h⟩
  | j :: q, i, h => by
    cases h with
    | lst h h2 =>
      obtain ⟨y, xs, a, b, c⟩ := Pa.last h2
      exact ⟨y, xs, .lst h a, b, c⟩
    | tup h h2 =>
      obtain ⟨y, xs, a, b, c⟩ := Pa.last h2
      exact ⟨y, xs, .tup h a, b, c⟩
theorem Pa.tg {M : Mem} {L : Nat} {d y : D} {q : List Nat} (h : Pa d q y) : Tq M L d → Tq M L y := by
  induction h with
  | nil => exact id
  | lst h _ ih =>
    intro g
    cases g with
    | lst _ hx => exact ih (hx _ (List.mem_of_getElem? h))
  | tup h _ ih =>
    intro g
    cases g with
    | tup _ hx => exact ih (hx _ (List.mem_of_getElem? h))
/-- what stands at a place replaced by some things -/
def withD (ms : List D) : List Nat → D → D
  | [i], .lst xs => .lst (xs.take i ++ ms ++ xs.drop (i + 1))
  | [i], .tup xs => .tup (xs.take i ++ ms ++ xs.drop (i + 1))
  | i :: j :: q, .lst xs => .lst (xs.take i ++ [withD ms (j :: q) (xs.getD i .non)] ++ xs.drop (i + 1))
  | i :: j :: q, .tup xs => .tup (xs.take i ++ [withD ms (j :: q) (xs.getD i .non)] ++ xs.drop (i + 1))
  | _, d => d
theorem getD_of {α : Type} {xs : List α} {i : Nat} {x d : α} (h : xs[i]? = some x) : xs.getD i d = x := by
  rw [List.getD_eq_getElem?_getD, h]; rfl
theorem mem_mid {α : Type} {xs ms : List α} {i : Nat} {x : α} (h : x ∈ xs.take i ++ ms ++ xs.drop (i + 1)) : x ∈ xs ∨ x ∈ ms := by
  rcases List.mem_append.mp h with h | h
  · rcases List.mem_append.mp h with h | h
    · exact .inl (List.mem_of_mem_take h)
    · exact .inr h
  · exact .inl (List.mem_of_mem_drop h)
theorem len_mid {α : Type} {xs ms : List α} {i : Nat} (h : i < xs.length) : (xs.take i ++ ms ++ xs.drop (i + 1)).length + 1 = xs.length + ms.length := by
  rw [List.length_append, List.length_append, List.length_take, List.length_drop]
  omega
theorem Tq.withD {M : Mem} {L : Nat} {ms : List D} {d y : D} {q : List Nat} (h : Pa d q y) (hm : ∀ m ∈ ms, Tq M L m) (hl : ms.length ≤ 2) : Tq M L d → Tq M (L + 1) (Wk.withD ms q d) := by
  induction h with
  | nil => exact fun g => by cases ‹D› <;> exact g.mono (Nat.le_succ _)
  | @lst xs i x y q hx hp ih =>
    intro g
    cases g with
    | lst hxl hxs =>
      have hi := (List.getElem?_eq_some_iff.mp hx).1
      cases q with
      | nil =>
        have := len_mid (ms := ms) hi
        exact .lst (by omega) fun z hz => (mem_mid hz).elim (fun h => (hxs z h).mono (Nat.le_succ _)) fun h => (hm z h).mono (Nat.le_succ _)
      | cons j q =>
        have := len_mid (ms := [Wk.withD ms (j :: q) (xs.getD i .non)]) hi
        rw [List.length_singleton] at this
        refine .lst (by omega) fun z hz => (mem_mid hz).elim (fun h => (hxs z h).mono (Nat.le_succ _)) fun h => ?_
        rw [List.mem_singleton.mp h, getD_of hx]
        exact ih (hxs x (List.mem_of_getElem? hx))
  | @tup xs i x y q hx hp ih =>
    intro g
    cases g with
    | tup hxl hxs =>
      have hi := (List.getElem?_eq_some_iff.mp hx).1
      cases q with
      | nil =>
        have := len_mid (ms := ms) hi
        exact .tup (by omega) fun z hz => (mem_mid hz).elim (fun h => (hxs z h).mono (Nat.le_succ _)) fun h => (hm z h).mono (Nat.le_succ _)
      | cons j q =>
        have := len_mid (ms := [Wk.withD ms (j :: q) (xs.getD i .non)]) hi
        rw [List.length_singleton] at this
        refine .tup (by omega) fun z hz => (mem_mid hz).elim (fun h => (hxs z h).mono (Nat.le_succ _)) fun h => ?_
        rw [List.mem_singleton.mp h, getD_of hx]
        exact ih (hxs x (List.mem_of_getElem? hx))
/-! what is shown of it -/
structure ShA (k n : Nat) (ps : List PyData) : Prop where
  a : ∀ p ∈ ps, p.showable = true ∧ p.depth ≤ k ∧ p.leavesShort 14 = true
  s : (ps.map fun p => p.bulk + 1).sum ≤ n
theorem bulk_all : ∀ ps : List PyData, PyData.bulkAll ps = (ps.map fun p => p.bulk + 1).sum
  | [] => rfl
  | p :: ps => by
    show p.bulk + 1 + PyData.bulkAll ps = _
    rw [bulk_all ps, List.map_cons, List.sum_cons]
theorem show_all : ∀ {ps : List PyData} {k : Nat}, (PyData.showableAll ps = true ∧ PyData.depthAll ps ≤ k ∧ PyData.leavesShortAll 14 ps = true) ↔ ∀ p ∈ ps, p.showable = true ∧ p.depth ≤ k ∧ p.leavesShort 14 = true
  | [], k => ⟨fun _ p hp => (by cases hp), fun _ => ⟨rfl, Nat.zero_le _, rfl⟩⟩
  | p :: ps, k => by
    have ih := show_all (ps := ps) (k := k)
    simp only [PyData.showableAll, PyData.depthAll, PyData.leavesShortAll, Bool.and_eq_true, List.forall_mem_cons]
    rw [← ih]
    constructor
    · rintro ⟨⟨a, b⟩, c, d, e⟩
      exact ⟨⟨a, by omega, d⟩, b, by omega, e⟩
    · rintro ⟨⟨a, b, c⟩, d, e, f⟩
      exact ⟨⟨a, d⟩, by omega, c, f⟩
theorem shb_list {k n : Nat} {ps : List PyData} : ShB (k + 1) n (.list ps) ↔ ShA k n ps := by
  constructor
  · intro h
    have h1 : PyData.showableAll ps = true := by have := h.sh; simp only [PyData.showable] at this; exact this
    have h2 : PyData.depthAll ps ≤ k := by have := h.dp; simp only [PyData.depth] at this; omega
    have h3 : PyData.leavesShortAll 14 ps = true := by have := h.lv; simp only [PyData.leavesShort] at this; exact this
    refine ⟨show_all.mp ⟨h1, h2, h3⟩, ?_⟩
    have := h.bk
    simp only [PyData.bulk] at this
    rw [← bulk_all]; exact this
  · intro h
    obtain ⟨h1, h2, h3⟩ := show_all.mpr h.a
    refine ⟨by simp only [PyData.showable]; exact h1, by simp only [PyData.depth]; omega, ?_, by simp only [PyData.leavesShort]; exact h3⟩
    simp only [PyData.bulk]
    rw [bulk_all]; exact h.s
theorem shb_tup {k n : Nat} {ps : List PyData} : ShB (k + 1) n (.tuple ps) ↔ ShA k n ps := by
  constructor
  · intro h
    have h1 : PyData.showableAll ps = true := by have := h.sh; simp only [PyData.showable] at this; exact this
    have h2 : PyData.depthAll ps ≤ k := by have := h.dp; simp only [PyData.depth] at this; omega
    have h3 : PyData.leavesShortAll 14 ps = true := by have := h.lv; simp only [PyData.leavesShort] at this; exact this
    refine ⟨show_all.mp ⟨h1, h2, h3⟩, ?_⟩
    have := h.bk
    simp only [PyData.bulk] at this
    rw [← bulk_all]; exact this
  · intro h
    obtain ⟨h1, h2, h3⟩ := show_all.mpr h.a
    refine ⟨by simp only [PyData.showable]; exact h1, by simp only [PyData.depth]; omega, ?_, by simp only [PyData.leavesShort]; exact h3⟩
    simp only [PyData.bulk]
    rw [bulk_all]; exact h.s
theorem PyXs.get {M : Mem} : ∀ {ds : List D} {ps : List PyData} {i : Nat} {d : D}, PyXs M ds ps → ds[i]? = some d → ∃ p, ps[i]? = some p ∧ PyX M d p
  | _, _, _, _, .nil, h => by simp at h
  | _, _, 0, _, .cons h _, e => by simp at e; subst e; exact ⟨_, rfl, h⟩
  | _, _, i + 1, d, .cons _ r, e => by
    obtain ⟨v, a, b⟩ := PyXs.get (i := i) (d := d) r (by simpa using e)
    exact ⟨v, by simpa using a, b⟩
theorem PyXs.take {M : Mem} : ∀ {ds : List D} {ps : List PyData} (n : Nat), PyXs M ds ps → PyXs M (ds.take n) (ps.take n)
  | _, _, 0, _ => .nil
  | _, _, _ + 1, .nil => .nil
  | _, _, n + 1, .cons h t => .cons h (PyXs.take n t)
theorem PyXs.drop {M : Mem} : ∀ {ds : List D} {ps : List PyData} (n : Nat), PyXs M ds ps → PyXs M (ds.drop n) (ps.drop n)
  | _, _, 0, r => r
  | _, _, _ + 1, .nil => .nil
  | _, _, n + 1, .cons _ t => PyXs.drop n t
theorem PyXs.app {M : Mem} : ∀ {ds es : List D} {ps qs : List PyData}, PyXs M ds ps → PyXs M es qs → PyXs M (ds ++ es) (ps ++ qs)
  | _, _, _, _, .nil, r => r
  | _, _, _, _, .cons h t, r => .cons h (PyXs.app t r)
theorem PyXs.mid {M : Mem} {ds es : List D} {ps qs : List PyData} (h : PyXs M ds ps) (g : PyXs M es qs) (i : Nat) : PyXs M (ds.take i ++ es ++ ds.drop (i + 1)) (ps.take i ++ qs ++ ps.drop (i + 1)) :=
  (PyXs.app (PyXs.app (PyXs.take i h) g) (PyXs.drop (i + 1) h))
theorem sum_mid {ps : List PyData} {p : PyData} : ∀ {i : Nat}, ps[i]? = some p → (ps.map fun p => p.bulk + 1).sum = ((ps.take i).map fun p => p.bulk + 1).sum + (p.bulk + 1) + ((ps.drop (i + 1)).map fun p => p.bulk + 1).sum := by
  induction ps with
  | nil => intro i h; simp at h
  | cons a ps ih =>
    intro i h
    cases i with
    | zero =>
      simp at h
      subst h
      simp
    | succ i =>
      have := ih (i := i) (by simpa using h)
      simp only [List.map_cons, List.sum_cons, List.take_succ_cons, List.drop_succ_cons] at this ⊢
      omega
theorem ShA.mid {k n m : Nat} {ps qs : List PyData} {p : PyData} {i : Nat} (h : ShA k n ps) (g : ShA k m qs) (hp : ps[i]? = some p) : ShA k (n + m) (ps.take i ++ qs ++ ps.drop (i + 1)) := by
  refine ⟨fun z hz => (mem_mid hz).elim (h.a z) (g.a z), ?_⟩
  have h1 := sum_mid hp
  have h2 := h.s
  have h3 := g.s
  rw [List.map_append, List.map_append, List.sum_append, List.sum_append]
  omega
theorem ShA.mono {k k' n n' : Nat} {ps : List PyData} (h : ShA k n ps) (hk : k ≤ k') (hn : n ≤ n') : ShA k' n' ps :=
  ⟨fun p hp => ⟨(h.a p hp).1, Nat.le_trans (h.a p hp).2.1 hk, (h.a p hp).2.2⟩, Nat.le_trans h.s hn⟩
theorem ShA.one {k n : Nat} {p : PyData} (h : ShB k n p) : ShA k (n + 1) [p] :=
  ⟨fun z hz => by rw [List.mem_singleton.mp hz]; exact ⟨h.sh, h.dp, h.lv⟩, by have := h.bk; simp; omega⟩
theorem ShA.two {k n m : Nat} {p q : PyData} (h : ShB k n p) (g : ShB k m q) : ShA k (n + m + 2) [p, q] :=
  ⟨fun z hz => by
    simp only [List.mem_cons, List.not_mem_nil, or_false] at hz
    rcases hz with rfl | rfl
    · exact ⟨h.sh, h.dp, h.lv⟩
    · exact ⟨g.sh, g.dp, g.lv⟩, by have := h.bk; have := g.bk; simp; omega⟩
theorem ShA.get {k n : Nat} {ps : List PyData} {p : PyData} {i : Nat} (h : ShA k n ps) (hp : ps[i]? = some p) : ShB k p.bulk p :=
  let ⟨a, b, c⟩ := h.a p (List.mem_of_getElem? hp)
  ⟨a, b, Nat.le_refl _, c⟩
theorem ShA.bk {k n : Nat} {ps : List PyData} {p : PyData} {i : Nat} (h : ShA k n ps) (hp : ps[i]? = some p) : p.bulk ≤ n := by
  have h1 := sum_mid hp
  have h2 := h.s
  omega
theorem Rp.withD {M : Mem} {ms : List D} {qs : List PyData} {j m : Nat} (hms : PyXs M ms qs) (ha : ShA j m qs) {d y : D} {q : List Nat} (h : Pa d q y) : ∀ {k n : Nat}, k ≤ j + q.length → Rp M k n d → q ≠ [] → Rp M (j + q.length) (n + m) (Wk.withD ms q d) := by
  induction h with
  | nil => intro k n _ _ h; exact absurd rfl h
  | @lst xs i x y q hx hq ih =>
    rintro k n hk ⟨p, hp, hb⟩ -
    cases hp with
    | @lst _ ps hxs =>
      have hb := hb.mono (a := k) (b := j + q.length + 1) (by rw [List.length_cons] at hk; omega) (Nat.le_refl _)
      have hA := shb_list.mp hb
      obtain ⟨p, e, hp⟩ := PyXs.get hxs hx
      cases q with
      | nil => exact ⟨_, .lst (PyXs.mid hxs hms i), shb_list.mpr (hA.mid ha e)⟩
      | cons j2 q =>
        have hsum := sum_mid e
        have hs := hA.s
        obtain ⟨p', hp', hb'⟩ := ih (k := j + (j2 :: q).length) (n := p.bulk) (Nat.le_refl _) ⟨p, hp, hA.get e⟩ (by simp)
        refine ⟨.list (ps.take i ++ [p'] ++ ps.drop (i + 1)), .lst ?_, ?_⟩
        · rw [getD_of hx]
          exact PyXs.mid hxs (.cons hp' .nil) i
        · refine shb_list.mpr ⟨fun z hz => (mem_mid hz).elim (hA.a z) fun hz => by rw [List.mem_singleton.mp hz]; exact ⟨hb'.sh, hb'.dp, hb'.lv⟩, ?_⟩
          have := hb'.bk
          rw [List.map_append, List.map_append, List.sum_append, List.sum_append, List.map_singleton, List.sum_singleton]
          omega
  | @tup xs i x y q hx hq ih =>
    rintro k n hk ⟨p, hp, hb⟩ -
    cases hp with
    | @tup _ ps hxs =>
      have hb := hb.mono (a := k) (b := j + q.length + 1) (by rw [List.length_cons] at hk; omega) (Nat.le_refl _)
      have hA := shb_tup.mp hb
      obtain ⟨p, e, hp⟩ := PyXs.get hxs hx
      cases q with
      | nil => exact ⟨_, .tup (PyXs.mid hxs hms i), shb_tup.mpr (hA.mid ha e)⟩
      | cons j2 q =>
        have hsum := sum_mid e
        have hs := hA.s
        obtain ⟨p', hp', hb'⟩ := ih (k := j + (j2 :: q).length) (n := p.bulk) (Nat.le_refl _) ⟨p, hp, hA.get e⟩ (by simp)
        refine ⟨.tuple (ps.take i ++ [p'] ++ ps.drop (i + 1)), .tup ?_, ?_⟩
        · rw [getD_of hx]
          exact PyXs.mid hxs (.cons hp' .nil) i
        · refine shb_tup.mpr ⟨fun z hz => (mem_mid hz).elim (hA.a z) fun hz => by rw [List.mem_singleton.mp hz]; exact ⟨hb'.sh, hb'.dp, hb'.lv⟩, ?_⟩
          have := hb'.bk
          rw [List.map_append, List.map_append, List.sum_append, List.sum_append, List.map_singleton, List.sum_singleton]
          omega
/-- the place behind stands when one is replaced by one -/
theorem Pa.withD {m d : D} : ∀ {q : List Nat} {i i2 : Nat} {y z : D} {xs : List D}, Pa d q y → kidsD y = some xs → i < xs.length → i2 < xs.length → ∃ z, Pa (Wk.withD [m] (q ++ [i]) d) (q ++ [i2]) z := by
  intro q
  induction q generalizing d with
  | nil =>
    intro i i2 y z xs h hk hi hi2
    cases h
    have hl : i2 < (xs.take i ++ [m] ++ xs.drop (i + 1)).length := by have := len_mid (ms := [m]) hi; rw [List.length_singleton] at this; omega
    cases d <;> cases hk
    · exact ⟨_, .lst (List.getElem?_eq_getElem hl) .nil⟩
    · exact ⟨_, .tup (List.getElem?_eq_getElem hl) .nil⟩
  | cons a q ih =>
    intro i i2 y z xs h hk hi hi2
    have at_a : ∀ {α : Type} {xs : List α} {x w : α} {a : Nat}, xs[a]? = some x → (xs.take a ++ [w] ++ xs.drop (a + 1))[a]? = some w := by
      intro α xs x w a h
      have ha := (List.getElem?_eq_some_iff.mp h).1
      rw [List.append_assoc, List.getElem?_append_right (by rw [List.length_take]; omega)]
      rw [List.length_take, Nat.min_eq_left (by omega), Nat.sub_self]
      rfl
    obtain ⟨b, r, e⟩ : ∃ b r, q ++ [i] = b :: r := by
      cases q with
      | nil => exact ⟨_, _, rfl⟩
      | cons c q => exact ⟨_, _, rfl⟩
    cases h with
    | @lst xs0 _ x _ _ hx hp =>
      obtain ⟨z', hz'⟩ := ih (z := z) hp hk hi hi2
      refine ⟨z', ?_⟩
      show Pa (Wk.withD [m] (a :: (q ++ [i])) _) (a :: (q ++ [i2])) z'
      rw [e] at hz' ⊢
      refine .lst (at_a hx) ?_
      rw [getD_of hx]
      exact hz'
    | @tup xs0 _ x _ _ hx hp =>
      obtain ⟨z', hz'⟩ := ih (z := z) hp hk hi hi2
      refine ⟨z', ?_⟩
      show Pa (Wk.withD [m] (a :: (q ++ [i])) _) (a :: (q ++ [i2])) z'
      rw [e] at hz' ⊢
      refine .tup (at_a hx) ?_
      rw [getD_of hx]
      exact hz'
end Wk

/-! Core93: a call to which cells are lent as if frozen; a method's call likewise; runs of blocks of twelve deeds at most: how great the numbers told are -/
namespace DL
open PySem PySem.Spec PyProof.Rows L2 Wk
section
variable {K : PySem.W.Frag} {H : Hp}
/-- cells lent: what the state is while they are -/
theorem lent {S : Hp} {M C R : Mem} (hM : MO K S M H) (pm : M.Perm (C ++ R)) : ∃ S2, Same S S2 ∧ MO K S2 R H ∧ (∀ a ds, (a, Cell.lst ds) ∈ C → ∃ xs, S2 a = some (.lst xs) ∧ Reps K S2 xs ds) ∧
    ∀ {S' : Hp} {H' : Hp} {M' G0 M2 : Mem}, Same S2 S' → MO K S' M' H' → M'.Perm (G0 ++ M2) → (∀ p ∈ M2, flatC p.2 = true) → MO K S (C ++ M2) H' := by
  have m := hM.perm pm
  have nd := m.nd
  rw [List.map_append, List.nodup_append] at nd
  obtain ⟨nd1, nd2, nd3⟩ := nd
  have hfree : ∀ p ∈ C, S p.1 = none := fun p hp => (m.own p (List.mem_append_left _ hp)).1
  obtain ⟨S2, hS2⟩ : ∃ S2 : Hp, ∀ b, S2 b = if b ∈ C.map (·.1) then H b else S b := ⟨fun b => if b ∈ C.map (·.1) then H b else S b, fun _ => rfl⟩
  have in2 : ∀ p ∈ C, S2 p.1 = H p.1 := fun p hp => by rw [hS2, if_pos (List.mem_map.mpr ⟨p, hp, rfl⟩)]
  have s2 : Same S S2 := fun b o e => by
    rw [hS2, if_neg]
    · exact e
    · intro hm
      obtain ⟨p, hp, rfl⟩ := List.mem_map.mp hm
      rw [hfree p hp] at e; cases e
  have sub2 : Same S2 H := fun b o e => by
    rw [hS2] at e
    split at e
    · exact e
    · exact m.sub _ _ e
  refine ⟨S2, s2, ⟨sub2, fun p hp => ⟨by
    rw [hS2, if_neg]
    · exact (m.own p (List.mem_append_right _ hp)).1
    · exact fun hm => nd3 _ hm _ (List.mem_map.mpr ⟨p, hp, rfl⟩) rfl, (m.own p (List.mem_append_right _ hp)).2.mono s2⟩, nd2⟩, fun a ds hm => ?_, fun {S' H' M' G0 M2} s' m0 pm2 fM => ?_⟩
  · obtain ⟨xs, hx, r⟩ := (m.own (a, Cell.lst ds) (List.mem_append_left _ hm)).2
    exact ⟨xs, (in2 _ hm).trans hx, r.mono s2⟩
  have m' : MO K S' M2 H' := (m0.perm pm2).gc
  have here : ∀ p ∈ C, ∃ o, H p.1 = some o ∧ S' p.1 = some o ∧ H' p.1 = some o := fun p hp => by
    obtain ⟨o, ho⟩ := (m.own p (List.mem_append_left _ hp)).2.there
    have e1 := s' _ _ ((in2 p hp).trans ho)
    exact ⟨o, ho, e1, m'.sub _ _ e1⟩
  refine ⟨(s2.trans s').trans m'.sub, fun p hp => ?_, ?_⟩
  · rcases List.mem_append.mp hp with hp | hp
    · obtain ⟨o, h1, _, h3⟩ := here p hp
      exact ⟨hfree p hp, (m.own p (List.mem_append_left _ hp)).2.heap (h3.trans h1.symm)⟩
    · refine ⟨?_, flat_cell (fM p hp) (m'.own p hp).2⟩
      cases hs : S p.1 with
      | none => rfl
      | some o =>
        have := (s2.trans s') _ _ hs
        rw [(m'.own p hp).1] at this; cases this
  · rw [List.map_append, List.nodup_append]
    refine ⟨nd1, m'.nd, fun a ha b hb e => ?_⟩
    subst e
    obtain ⟨p, hp, rfl⟩ := List.mem_map.mp ha
    obtain ⟨p', hp', e⟩ := List.mem_map.mp hb
    obtain ⟨o, _, h2, _⟩ := here p hp
    have := (m'.own p' hp').1
    rw [e, h2] at this; cases this
end
section
variable {X : Cx} {Γ : VEnv} {M : Mem} {Q : D → Mem → Prop} {e : Expr} {es : List Expr} {x : Str} {p pos : Pos} {Ln Vn Bn Fn : List Str}
theorem Ths.len {C : Mem} : ∀ {ds es : List D}, Ths C ds es → ds.length = es.length
  | _, _, .nil => rfl
  | _, _, .cons _ t => by rw [List.length_cons, List.length_cons, Ths.len t]
/-- what a call to which the cells C are lent leaves -/
abbrev LentQ (C : Mem) (Q : D → Mem → Prop) : D → Mem → Prop := fun d M' => flatD d = true ∧ ∃ G0 M2, M'.Perm (G0 ++ M2) ∧ (∀ p ∈ M2, flatC p.2 = true) ∧ Q d (C ++ M2)
end
end DL
namespace Wk
open PySem DL L2
/-- a number after so many deeds -/
def Lq (e : Nat) (b : Int) : Prop := b.natAbs ≤ 1000000000000 * 2 ^ e
theorem Lq.up {e : Nat} {b : Int} (h : Lq e b) : Lq (e + 1) b := Nat.le_trans h (Nat.mul_le_mul_left _ (Nat.pow_le_pow_right (by decide) (Nat.le_succ e)))
theorem Lq.small {e : Nat} {b : Int} (h : -1000000000000 ≤ b ∧ b ≤ 1000000000000) : Lq e b := by
  have h1 : 1 ≤ 2 ^ e := Nat.one_le_two_pow
  have h2 : 1000000000000 * 1 ≤ 1000000000000 * 2 ^ e := Nat.mul_le_mul_left _ h1
  unfold Lq
  omega
theorem Lq.add {e : Nat} {a b : Int} (ha : Lq e a) (hb : Lq e b) : Lq (e + 1) (a + b) := by
  unfold Lq at *
  rw [Nat.pow_succ]
  omega
theorem Lq.get {e : Nat} {l : List Int} (h : ∀ b ∈ l, Lq e b) (i : Nat) : Lq e (l.getD i 0) := by
  rw [List.getD_eq_getElem?_getD]
  cases q : l[i]? with
  | none => exact Lq.small (by decide)
  | some b => exact h b (List.mem_of_getElem? q)
/-- how many deeds the block that a frame stands in may do yet -/
def remF (f : Fr) : Nat := match f.idx with
  | none => 0
  | some i => 12 - i
def rems (frs : List Fr) : Nat := (frs.map remF).sum
structure Bw (most : Nat) (rs : Rs) (frs : List Fr) (e : Nat) : Prop where
  cnt : ∃ c, rs.steps = e + c ∧ e + rems frs ≤ 12 * c
  st : rs.steps ≤ most
  bx : ∀ f ∈ frs, ∀ b ∈ f.bx, Lq e b
  told : ∀ t ∈ rs.told, Lq e t
  tl : rs.told.length ≤ e
theorem great : 1000000000000 * 2 ^ 1846 < 10 ^ 568 := by decide +kernel
end Wk

/-! Core94: d.update(other dict), keys ints and texts -/
namespace DL
open PySem PySem.Spec PyProof.Rows L2
section
variable {X : Cx} {Γ : VEnv} {M : Mem} {Q : D → Mem → Prop} {Ln Vn Bn Fn : List Str}
end
end DL

/-! Core95: dicts with a key of another kind (None, True, (0,)) put in last: never changed from there on. -/
namespace DL
open PySem PySem.Spec PyProof.Rows L2
section
variable {prog : Program} {w : World} {A : Around} {E : Value → Shared → Prop} {s : Shared}
theorem no_places {es : Array DictEntry} {h : Int} (hk : ∀ e ∈ es, e.hash ≠ h) : placesWithHash es.size (fun i => es[i]?.map (·.hash)) h = [] := by
  unfold placesWithHash
  rw [List.filter_eq_nil_iff]
  intro i hi
  rw [List.mem_range] at hi
  show ¬ (es[i]?.map (·.hash) == some h) = true
  rw [Array.getElem?_eq_getElem hi, Option.map_some]
  simpa using hk _ (Array.getElem_mem hi)
theorem dictFind_ref {d a : Addr} {o : Obj} {es ep} {h : Int} {Q : Option Nat → Shared → Prop} (ho : s.heap.get? d = some o) (hd : o.data = .dict es ep) (hk : ∀ e ∈ es, e.hash ≠ h ∧ e.key ≠ .ref a) (q : Q none s) :
    wpAny (model prog w) A (dictFind d (.ref a) h) Q E s := by
  have hp := no_places fun e he => (hk e he).1
  have hany : ¬ (es.any fun e => e.key == Value.ref a && e.hash != h) = true := by
    rw [← Array.any_toList, List.any_eq_true]
    rintro ⟨e, hin, hc⟩
    rw [Bool.and_eq_true, beq_iff_eq] at hc
    exact (hk e (Array.mem_toList_iff.mp hin)).2 hc.1
  unfold dictFind
  try with_reducible refine wpAny_holding ?_
  refine wpAny_bind (wpAny_dictEntries ho hd ?_)
  dsimp only
  rw [hp]
  simp only [List.filterMap_nil]
  have h1 : (([Value.ref a] : List Value).all carriedByValue) = false := by simp [carriedByValue]
  have h2 : (es.any fun e => e.key == Value.ref a && e.hash != h) = false := by rw [Bool.not_eq_true] at hany; exact hany
  have h3 : (([] : List Value) == [Value.ref a]) = false := rfl
  simp only [h1, h2, h3, Bool.false_eq_true, if_false]
  refine wpAny_bind ?_
  unfold tableMayTell
  rw [if_pos (show ([] : List Value).isEmpty = true from rfl)]
  refine wpAny_pure ?_
  rw [if_neg (by simp)]
  refine wpAny_bind ?_
  refine wpAny_forIn_list _ (fun rest b s' => s' = s ∧ b = (none, none) ∧ rest = []) _ ?_ ?_ _ _ ⟨rfl, rfl, rfl⟩
  · rintro x rest b s' ⟨_, _, h⟩
    cases h
  · rintro b s' ⟨rfl, rfl, _⟩
    exact wpAny_pure q
theorem setItem_dict {d : Addr} {key v : Value} {Q : Unit → Shared → Prop} (hT : s.TypeIs (.ref d) "dict") (h : wpAny (model prog w) A.in1 (dictSet d key v) Q E s) : wpAny (model prog w) A (setItem (.ref d) key v) Q E s := by
  unfold setItem
  try with_reducible refine wpAny_holding ?_
  refine wpAny_bind (wpAny_sequenceKey hT (by decide) ?_)
  refine wpAny_bind (wpAny_callSpecial?_slot (name := Str.ofString "__setitem__") hT slot_dict_setitem
    (wpAny_call_entry slot_dict_setitem hT entry_dict_setitem ?_ (args_dict_setitem _ _ _)))
  show wpAny _ _ (Builtin.Dict.notOrdered "__setitem__" ⟨[.ref d, key, v], []⟩ >>= _) _ _ s
  refine wpAny_bind (wpAny_notOrdered_dict hT ?_)
  show wpAny _ _ (dictSet d key v >>= _) _ _ s
  exact wpAny_bind (wpAny_mono h (fun _ s' q => wpAny_pure ⟨.none, rfl, wpAny_pure q⟩) fun _ _ e => e)
end
/-- a key of another kind, unlike all that are there -/
def OddK (H : Hp) (kvs : List (Key × V)) (i : V) : Prop := i = .non ∨ (i = .bl true ∧ ∀ p ∈ kvs, p.1 ≠ .inl 1) ∨ ∃ q, i = .ref q ∧ H q = some (.tup [.int 0])
def SmK (kvs : List (Key × V)) : Prop := ∀ p ∈ kvs, ∃ n : Nat, p.1 = .inl (n : Int) ∧ n < 100
section
variable {X : Cx} {pins : List (Addr × Obj)} {σ : L2.St} {H : Hp} {s : Shared} {a : Addr} {kvs : List (Key × V)} {i v : V} {u r : Value} {A : Around} {E : Value → Shared → Prop} {P : Program} {w : World}
theorem small_hash : ∀ n : Fin 100, hashInt ((n.1 : Nat) : Int) = ((n.1 : Nat) : Int) := by decide +kernel
theorem small_hash' {n : Nat} (h : n < 100) : hashInt (n : Int) = (n : Int) := small_hash ⟨n, h⟩
theorem tup0_hash : ∀ n : Fin 100, reduceHash (Builtin.Tuple.tupleHashOf [hashInt 0]) ≠ ((n.1 : Nat) : Int) := by decide +kernel
theorem pairs_ent : ∀ {es : List DictEntry} {vs : List (Key × Value)}, Pairs (mixKind P w) es vs → ∀ e ∈ es, ∃ kv ∈ vs, keyIs kv.1 e.key = true
  | _, _, .nil, _, h => by cases h
  | _, _, .cons (kv := kv) h1 _ t, e, h => by
    rcases List.mem_cons.mp h with rfl | h
    · exact ⟨kv, List.mem_cons_self, h1⟩
    · obtain ⟨q, a, b⟩ := pairs_ent t e h
      exact ⟨q, List.mem_cons_of_mem _ a, b⟩
theorem kv_mem : ∀ {kvs : List (Key × V)} {vs : List (Key × Value)}, KV kvs vs → ∀ q ∈ vs, ∃ p ∈ kvs, p.1 = q.1
  | _, _, .nil, _, h => by cases h
  | _, _, .cons (a := p) h t, q, hq => by
    rcases List.mem_cons.mp hq with rfl | hq
    · exact ⟨p, List.mem_cons_self, h.1⟩
    · obtain ⟨p', a, b⟩ := kv_mem t q hq
      exact ⟨p', List.mem_cons_of_mem _ a, b⟩
theorem kv_mem' : ∀ {kvs : List (Key × V)} {vs : List (Key × Value)}, KV kvs vs → ∀ p ∈ kvs, ∃ q ∈ vs, p.1 = q.1
  | _, _, .nil, _, h => by cases h
  | _, _, .cons (b := q) h t, p, hq => by
    rcases List.mem_cons.mp hq with rfl | hq
    · exact ⟨q, List.mem_cons_self, h.1⟩
    · obtain ⟨p', a, b⟩ := kv_mem' t p hq
      exact ⟨p', List.mem_cons_of_mem _ a, b⟩
/-- the entries of a dict by small numbers -/
theorem ents {vs : List (Key × Value)} {es : Array DictEntry} (hs : SmK kvs) (rel : KV kvs vs) (hk : PySem.KeysOf (mixKind P w) es) (hp : Pairs (mixKind P w) es.toList vs) :
    ∀ e ∈ es, ∃ (n : Nat) (t : Tok), n < 100 ∧ e.key = .int (n : Int) t ∧ e.hash = (n : Int) ∧ ∃ p ∈ kvs, p.1 = .inl (n : Int) := fun e he => by
  obtain ⟨kv, h1, h2⟩ := pairs_ent hp e (Array.mem_toList_iff.mpr he)
  obtain ⟨p, h3, h4⟩ := kv_mem rel kv h1
  obtain ⟨n, h5, h6⟩ := hs p h3
  obtain ⟨k, h7, h8⟩ := hk e he
  have e1 : k = kv.1 := (mixKind P w).inj e.key k kv.1 h7 h2
  rw [e1, ← h4, h5] at h8
  rw [← h4, h5] at h2
  obtain ⟨t, ht⟩ := Value.isInt_shape (k := (n : Int)) (v := e.key) h2
  exact ⟨n, t, h6, ht, by rw [h8]; exact small_hash' h6, p, h3, h5⟩
theorem vals_keys : ∀ {es : List DictEntry} {vs : List (Key × Value)} {kvs : List (Key × V)}, Pairs (mixKind P w) es vs → KV kvs vs → Vals (kvs.map fun p => kV p.1) (es.map (·.key)) ∧ Vals (kvs.map (·.2)) (es.map (·.val))
  | _, _, _, .nil, .nil => ⟨.nil, .nil⟩
  | _, _, _, .cons h1 h2 t, .cons h3 t' => by
    obtain ⟨a, b⟩ := vals_keys t t'
    refine ⟨.cons ?_ a, .cons ?_ b⟩
    · show RelV (kV _) _
      rw [h3.1]
      exact relV_key h1
    · show RelV _ (DictEntry.val _)
      rw [h2]
      exact h3.2
theorem vals_snoc {xs : List V} {ys : List Value} {x : V} {y : Value} (h : Vals xs ys) (r : RelV x y) : Vals (xs ++ [x]) (ys ++ [y]) := by
  induction h with
  | nil => exact .cons r .nil
  | cons h _ ih => exact .cons h ih
/-- d[k] = v, k of another kind -/
theorem d_setOdd {Q : Unit → Shared → Prop} (hu : A.units + 4 < cLine) (I : Inv X pins σ H s) (e : H a = some (.dK kvs)) (hl : kvs.length + 1 ≤ sizeLine) (hs : SmK kvs) (hi : OddK H kvs i) (ri : RelV i u) (rv : RelV v r)
    (h : ∀ s' o, DxAt a o (kvs.map (fun p => kV p.1) ++ [i]) (kvs.map (·.2) ++ [v]) → Inv X pins σ (upd H a (frzX o)) s' → Q () s') : wpAny (model X.prog X.w) A (setItem (.ref a) u r) Q E s := by
  obtain ⟨z, hd, vs, rel, o, es, ep, ho, hx, hdat, hk, hp, hn⟩ := dk_of I.hok e
  have hent := ents hs rel hk hp
  have hsz : es.size ≤ sizeLine := by
    have e1 := hp.length
    have e2 : kvs.length = vs.length := Paired.length rel
    rw [Array.length_toList] at e1
    omega
  obtain ⟨vk, vv⟩ := vals_keys hp rel
  have fin : ∀ (hh : Int) (tk : Nat), wpAny (model X.prog X.w) A.in1 (dictFind a u hh) (fun j s' => j = none ∧ s' = { s with toks := tk }) E { s with toks := tk } → wpAny (model X.prog X.w) A.in1 (dictSetHashed a u hh r) Q E { s with toks := tk } := fun hh tk hf => by
    unfold dictSetHashed
    try with_reducible refine wpAny_holding ?_
    refine wpAny_bind (wpAny_mono hf (fun j s' q => ?_) fun _ _ e => e)
    obtain ⟨rfl, rfl⟩ := q
    refine wpAny_bind (wpAny_rule (wpAny_updateDictKeys (hz := hsz) (f := fun es => es.push ⟨hh, u, r⟩) (s := { s with toks := tk }) ho hdat ?_))
    have he : (s.heap.update a (Obj.mapDictKeys fun es => es.push ⟨hh, u, r⟩)).get? a = some (o.mapDictKeys fun es => es.push ⟨hh, u, r⟩) := Heap.get?_update_self _ ho (Obj.isFreed_of_dict (Obj.data_mapDictKeys hdat _))
    refine h _ (o.mapDictKeys fun es => es.push ⟨hh, u, r⟩) ⟨hd, hx.mapDictKeys _, ⟨_, _, Obj.data_mapDictKeys hdat _, ?_, ?_⟩, by rw [List.length_append, List.length_map]; exact hl⟩ (d_write (I.tok tk) (by rw [e]; exact True.intro) (Heap.SameBut.update ..) ⟨_, he⟩ ⟨he, trivial, ⟨_, he⟩, fun _ _ _ _ => trivial⟩)
    · rw [Array.toList_push, List.map_append]
      exact vals_snoc vk ri
    · rw [Array.toList_push, List.map_append]
      exact vals_snoc vv rv
  refine setItem_dict (Heap.DictOf.typeIs ⟨o, es, ep, ho, hx, hdat, hk, hp, hn⟩) ?_
  unfold dictSet
  try with_reducible refine wpAny_holding ?_
  have leaf : PySem.KeysOf (PySem.leafKind X.prog X.w) es := fun en hen => by
    obtain ⟨n, t, h1, h2, h3, _⟩ := hent en hen
    refine ⟨.num (n : Int), by rw [h2]; exact decide_eq_true rfl, ?_⟩
    rw [h3]
    exact (small_hash' h1).symm
  rcases hi with rfl | ⟨rfl, h1⟩ | ⟨q, rfl, hq⟩
  · cases (show u = Value.none from ri)
    refine wpAny_bind ((PySem.leafKind X.prog X.w).pyHash (k := .none) (v := .none) rfl ?_)
    refine fin _ _ (wpAny_dictFind_of (knd := PySem.leafKind X.prog X.w) (s := { s with toks := s.toks + 1 }) (k := .none) rfl ho hdat leaf ⟨?_, rfl⟩)
    rw [Array.findIdx?_eq_none_iff]
    intro en hen
    obtain ⟨n, t, _, h2, _⟩ := hent en hen
    rw [h2]; rfl
  · cases (show u = Value.bool true from ri)
    refine wpAny_bind ((PySem.leafKind X.prog X.w).pyHash (k := .num 1) (v := .bool true) rfl ?_)
    refine fin _ _ (wpAny_dictFind_of (knd := PySem.leafKind X.prog X.w) (s := { s with toks := s.toks + 1 }) (k := .num 1) rfl ho hdat leaf ⟨?_, rfl⟩)
    rw [Array.findIdx?_eq_none_iff]
    intro en hen
    obtain ⟨n, t, _, h2, _, p, hp1, hp2⟩ := hent en hen
    rw [h2]
    refine decide_eq_false fun hc => ?_
    have hc : (n : Int) = 1 := hc
    rw [hc] at hp2
    exact h1 p hp1 hp2
  · cases (show u = Value.ref q from ri)
    obtain ⟨_, its, rit, ot, o1, o2, n0, o3⟩ := (show ObjOk X.prog X.w H s.heap q (.tup [.int 0]) from I.hok q _ hq)
    have hkey : IsTupleKey (PySem.intKind X.prog X.w) s.heap [0] q := by
      refine ⟨ot, _, n0, o1, o2, o3, ?_⟩
      cases rit with
      | cons r1 r2 =>
        cases r2
        obtain ⟨t, rfl⟩ := r1
        exact .cons (show Value.isInt 0 (.int 0 t) = true from by simp [Value.isInt]) .nil
    refine wpAny_bind (wpAny_pyHash_tuple (by show A.units + 1 < cLine; omega) hkey ?_)
    refine fin _ _ (dictFind_ref (s := { s with toks := _ }) ho hdat (fun en hen => ?_) ⟨rfl, rfl⟩)
    obtain ⟨n, t, h1, h2, h3, _⟩ := hent en hen
    refine ⟨?_, by rw [h2]; intro hc; cases hc⟩
    rw [h3]
    exact fun hc => tup0_hash ⟨n, h1⟩ hc.symm
/-- d[True] = v, 1 there -/
theorem d_setTrue {Q : Unit → Shared → Prop} (I : Inv X pins σ H s) (e : H a = some (.dK kvs)) (hs : SmK kvs) (h1 : ∃ p ∈ kvs, p.1 = .inl 1) (rv : RelV v r)
    (h : ∀ s', Inv X pins σ (upd H a (.dK (L2.putK kvs (.inl 1) v))) s' → Q () s') : wpAny (model X.prog X.w) A (setItem (.ref a) (.bool true) r) Q E s := by
  obtain ⟨z, hd, vs, rel, o, es, ep, ho, hx, hdat, hk, hp, hn⟩ := dk_of I.hok e
  have hent := ents hs rel hk hp
  refine setItem_dict (Heap.DictOf.typeIs ⟨o, es, ep, ho, hx, hdat, hk, hp, hn⟩) ?_
  unfold dictSet
  try with_reducible refine wpAny_holding ?_
  have leaf : PySem.KeysOf (PySem.leafKind X.prog X.w) es := fun en hen => by
    obtain ⟨n, t, h1, h2, h3, _⟩ := hent en hen
    refine ⟨.num (n : Int), by rw [h2]; exact decide_eq_true rfl, ?_⟩
    rw [h3]
    exact (small_hash' h1).symm
  refine wpAny_bind ((PySem.leafKind X.prog X.w).pyHash (k := .num 1) (v := .bool true) rfl ?_)
  unfold dictSetHashed
  try with_reducible refine wpAny_holding ?_
  refine wpAny_bind (wpAny_dictFind_of (knd := PySem.leafKind X.prog X.w) (s := { s with toks := s.toks + 1 }) (k := .num 1) rfl ho hdat leaf ?_)
  have same : (es.findIdx? fun e => (PySem.leafKind X.prog X.w).is (.num 1) e.key) = es.findIdx? fun e => (mixKind X.prog X.w).is (.inl 1) e.key := by
    have g : ∀ en ∈ es, (PySem.leafKind X.prog X.w).is (.num 1) en.key = (mixKind X.prog X.w).is (.inl 1) en.key := fun en hen => by
      obtain ⟨n, t, _, h2, _⟩ := hent en hen
      rw [h2]; rfl
    obtain ⟨l⟩ := es
    rw [List.findIdx?_toArray, List.findIdx?_toArray]
    clear hent leaf hp hk hdat
    induction l with
    | nil => rfl
    | cons x l ih =>
      rw [List.findIdx?_cons, List.findIdx?_cons, g x (by simp), ih fun en hen => g en (by simp at hen ⊢; exact .inr hen)]
  have hidx : (es.findIdx? fun e => (mixKind X.prog X.w).is (.inl 1) e.key) = vs.findIdx? fun kv => decide (kv.1 = .inl 1) := by
    rw [← hp.findIdx (.inl 1)]; obtain ⟨l⟩ := es; simp
  rw [same]
  cases hi : es.findIdx? fun e => (mixKind X.prog X.w).is (.inl 1) e.key with
  | none =>
    exfalso
    obtain ⟨p, hp1, hp2⟩ := h1
    obtain ⟨q, hq1, hq2⟩ := kv_mem' rel p hp1
    rw [hi] at hidx
    have := List.findIdx?_eq_none_iff.mp hidx.symm q hq1
    rw [← hq2, hp2] at this
    simp at this
  | some j =>
    refine wpAny_bind (wpAny_rule (wpAny_bind (wpAny_updateDict (f := fun es => es.modify j fun e => { e with val := r }) (s := { s with toks := s.toks + 1 }) ho hdat (wpAny_point ?_))))
    have hl : (es.toList.findIdx? fun e => (mixKind X.prog X.w).is (.inl 1) e.key) = some j := by rw [← hi]; obtain ⟨l⟩ := es; simp
    have hm := hp.modify hn hl r
    have dd : (s.heap.update a (Obj.mapDict fun es => es.modify j fun e => { e with val := r })).DictOf (mixKind X.prog X.w) a (stored vs (.inl 1) r) := by
      refine ⟨_, _, ep, Heap.get?_update_self _ ho (Obj.isFreed_of_dict (Obj.data_mapDict hdat _)), hx.mapDict _, Obj.data_mapDict hdat _, hk.modify _ _, ?_, ?_⟩
      · rw [stored, if_pos (any_of_findIdx_some (hidx ▸ hi))]
        obtain ⟨l⟩ := es
        simpa using hm
      · rw [stored, if_pos (any_of_findIdx_some (hidx ▸ hi)), keys_map_store]; exact hn
    have hl2 : (L2.putK kvs (.inl 1) v).length ≤ sizeLine := by
      have e1 : (L2.putK kvs (.inl 1) v).length = (stored vs (.inl 1) r).length := Paired.length (rel.put (.inl 1) rv)
      rw [stored, if_pos (any_of_findIdx_some (hidx ▸ hi)), List.length_map] at e1
      have e2 : kvs.length = vs.length := Paired.length rel
      omega
    have he : ∃ q, (s.heap.update a (Obj.mapDict fun es => es.modify j fun e => { e with val := r })).get? a = some q := let ⟨q, _, _, hq, _⟩ := dd; ⟨q, hq⟩
    exact h _ (d_write (I.tok (s.toks + 1)) (by rw [e]; exact True.intro) (Heap.SameBut.update ..) he (dk_new hl2 hd (rel.put (.inl 1) rv) dd))
end
end DL

/-! Core96: d[k] = v, len, isinstance, a walk and repr of dicts with a key of another kind. -/
namespace DL
open PySem PySem.Spec PyProof.Rows L2
/-- the keys of such a dict -/
def Itx (d : Addr) (o : Obj) (us : List V) : It :=
  ⟨fun i H => H d = some (frzX o) ∧ i < us.length, fun i H x H' => H' = H ∧ us[i]? = some x, fun i H => H d = some (frzX o) ∧ us.length ≤ i⟩
theorem vals_get : ∀ {xs : List V} {ys : List Value} {i : Nat} {x : V}, Vals xs ys → xs[i]? = some x → ∃ y, ys[i]? = some y ∧ RelV x y
  | _, _, _, _, .nil, h => by simp at h
  | _, _, 0, _, .cons r _, h => by simp at h; subst h; exact ⟨_, rfl, r⟩
  | _, _, i + 1, x, .cons _ t, h => by
    obtain ⟨y, a, b⟩ := vals_get (i := i) (x := x) t (by simpa using h)
    exact ⟨y, by simpa using a, b⟩
section
variable {P : Program} {w : World} {K : PySem.W.Frag} {tg : Expr} {d : Addr} {o : Obj} {us xs : List V}
theorem DxAt.len (dx : DxAt d o us xs) {es : Array DictEntry} {ep : Nat} (hod : o.data = .dict es ep) : es.size = us.length ∧ Vals us (es.toList.map (·.key)) ∧ Vals xs (es.toList.map (·.val)) := by
  obtain ⟨es', ep', h1, h2, h3⟩ := dx.dt
  obtain ⟨rfl, rfl⟩ := dict_ep hod h1
  have := h2.length
  rw [List.length_map, Array.length_toList] at this
  exact ⟨this.symm, h2, h3⟩
theorem turn_keysX {es : Array DictEntry} {ep : Nat} (dx : DxAt d o us xs) (it : Addr) (hod : o.data = .dict es ep) : Turn P w K tg (Itx d o us) [it] it (fun i h => h.IsKeyIter it d i us.length ep) where
  mem := by simp
  obj := fun i h st b hb => by
    have e : b = it := by simpa using hb
    subst e
    obtain ⟨oi, e, c, dd⟩ := st
    exact ⟨oi, e, fun v z => by rw [dd] at z; cases z⟩
  keep := fun i h h' st k => st.at fun oi e => k it (by simp) oi e
  item := by
    intro X hP hw hK hc i pins s σ H E I hf st hg
    subst hP hw hK
    obtain ⟨hd, hi⟩ := hg
    obtain ⟨f0, f1, f2, f3, f4, f5⟩ := hf it (by simp)
    have hgd : s.heap.get? d = some o := (show ObjOk X.prog X.w H s.heap d (frzX o) from I.hok d _ hd).1
    obtain ⟨hsz, vk, _⟩ := dx.len hod
    obtain ⟨x, hx⟩ : ∃ x, us[i]? = some x := ⟨us[i], List.getElem?_eq_getElem hi⟩
    obtain ⟨y, hy, rx⟩ := vals_get vk hx
    rw [List.getElem?_map, Array.getElem?_toList] at hy
    obtain ⟨en, hen, rfl⟩ := Option.map_eq_some_iff.mp hy
    refine next_key_item st hgd hod hsz hen fun h' st' sb => ?_
    have I1 : Inv X pins σ H { s with heap := h' } := I.turned (t' := s.toks) (fun b ob hb e => (sb.2 b hb).trans e) f0 f1 f3 f4 f5
    obtain ⟨oi, e, c, dd⟩ := id st'
    exact ⟨en.key, rfl, go_of (s := { s with heap := h' }) e c dd (by decide) ⟨x, H, I1, rx, ⟨rfl, hx⟩, st', fun b hb => (hf b hb).1⟩⟩
  done := by
    intro X hP hw hK hc i pins s σ H E I hf st hg
    subst hP hw hK
    obtain ⟨hd, hi⟩ := hg
    obtain ⟨f0, f1, f2, f3, f4, f5⟩ := hf it (by simp)
    have hgd : s.heap.get? d = some o := (show ObjOk X.prog X.w H s.heap d (frzX o) from I.hok d _ hd).1
    obtain ⟨hsz, _⟩ := dx.len hod
    exact next_key_end (I.ok.hd hc) st hgd hod hsz hi fun h' eb => ⟨rfl, I.turned (t' := s.toks) (fun b ob hb e => eb b ob hb e) f0 f1 f3 f4 f5⟩
  self := fun A i s Q E st h => wpAny_pyIter_keyiter st h
end
def iKeysX (td : TE) : TI := fun σ H R => td σ H fun x H1 => ∃ d o us xs, x = .ref d ∧ H1 d = some (frzX o) ∧ DxAt d o us xs ∧ R (Itx d o us) H1
/-- d[k] = v, k of another kind, or True where 1 is there -/
def rSetO : TSet := fun o i v H Q => ∃ a kvs, o = .ref a ∧ H a = some (.dK kvs) ∧ SmK kvs ∧ kvs.length + 1 ≤ sizeLine ∧ ((i = .bl true ∧ (∃ p ∈ kvs, p.1 = .inl 1) ∧ Q (upd H a (.dK (L2.putK kvs (.inl 1) v)))) ∨
  (OddK H kvs i ∧ ∀ ob, DxAt a ob (kvs.map (fun p => kV p.1) ++ [i]) (kvs.map (·.2) ++ [v]) → Q (upd H a (frzX ob))))
section
variable {X : Cx} {tg iter e : Expr} {td : TE}
theorem pi_keysX (he : PE X e td) : PI X tg e (iKeysX td) := by
  refine ⟨fun pins s σ H R I h => ?_⟩
  refine thn (he.run pins s σ H _ I h) fun u s1 ⟨x, H1, I1, rx, d, o, us, xs, ex, hd, dx, q⟩ => ?_
  subst ex
  obtain rfl : u = Value.ref d := rx
  have hgd : s1.heap.get? d = some o := (show ObjOk X.prog X.w H1 s1.heap d (frzX o) from I1.hok d _ hd).1
  obtain ⟨es, ep, hdt, _⟩ := id dx.dt
  refine iter_keys dx.ns hgd dx.ex hdt (pi_one (tk := s1.toks) I1 _ (turn_keysX dx _ hdt) ⟨_, Heap.get?_push_size _ rfl, rfl, ?_⟩ q)
  rw [(dx.len hdt).1] <;> rfl
theorem set_odd (hu : X.A.units + 4 < cLine) : PSet X rSetO := by
  intro pins s σ H o i v ov iv u Q I ro ri rv h
  obtain ⟨a, kvs, rfl, e, hs, hl, h⟩ := h
  cases (show ov = Value.ref a from ro)
  rcases h with ⟨rfl, h1, q⟩ | ⟨hi, q⟩
  · cases (show iv = Value.bool true from ri)
    exact d_setTrue I e hs h1 rv fun s' I' => ⟨_, I', q⟩
  · exact d_setOdd hu I e hl hs hi ri rv fun s' ob dx I' => ⟨_, I', q ob dx⟩
theorem call_lenX : CallR X (.builtin "len") (fun xs H Q => ∃ a o us vs, xs = [V.ref a] ∧ H a = some (frzX o) ∧ DxAt a o us vs ∧ Q (.int us.length) H) := by
  intro pins s σ H xs ws Q I r h
  obtain ⟨a, o, us, vs, rfl, hd, dx, q⟩ := h
  obtain rfl := Vals.ref1 r
  have hgd : s.heap.get? a = some o := (show ObjOk X.prog X.w H s.heap a (frzX o) from I.hok a _ hd).1
  obtain ⟨es, ep, hdt, _⟩ := id dx.dt
  have hr : s.heap.DictRaw a es ep := ⟨o, hgd, dx.ex, hdt⟩
  have hsz := (dx.len hdt).1
  have hz := dx.sz
  rw [sizeLine_eq] at hz
  refine PyProof.Rows.call_len_slot (n := es.size) hr.typeIs PySem.F.slot_dict_len (fun Q' hq => call_len_raw dx.ns hr hq) (by omega) (by omega) ?_
  rw [hsz]
  exact ⟨.int us.length, H, I.tok _, ⟨_, rfl⟩, q⟩
theorem call_isiX : CallR X (.builtin "isinstance") (fun xs H Q => ∃ a o us vs, xs = [V.ref a, .ty "dict"] ∧ H a = some (frzX o) ∧ DxAt a o us vs ∧ Q (.bl true) H) := by
  intro pins s σ H xs ws Q I r h
  obtain ⟨a, o, us, vs, rfl, hd, dx, q⟩ := h
  obtain ⟨u1, u2, rfl, r1, r2⟩ := vals2 r
  cases (show u1 = Value.ref a from r1)
  cases (show u2 = Value.type "dict" from r2)
  have hgd : s.heap.get? a = some o := (show ObjOk X.prog X.w H s.heap a (frzX o) from I.hok a _ hd).1
  exact PySem.W.kia_one PySem.W.kitx_dict I.kIn ⟨o, hgd, dx.ex.1⟩ (kit_ty (by decide +kernel)) (fun z => nomatch z) fun tk => ⟨.bl true, H, I.tok tk, rfl, q⟩
theorem call_reprDX (hs : ∃ mm, X.base.Ns sysModules mm) (gd : X.A.guards = some []) (hu : X.A.units + 80 < cLine) : CallR X (.builtin "repr") (fun xs H R => ∃ a o us vs ps qs, xs = [V.ref a] ∧ H a = some (frzX o) ∧ DxAt a o us vs ∧ DrAll H us ps ∧ DrAll H vs qs ∧ ps.length = qs.length ∧
    PyData.showable (.dict (ps.zip qs)) = true ∧ PyData.depth (.dict (ps.zip qs)) ≤ 64 ∧ (PyData.shown (.dict (ps.zip qs))).length ≤ sizeLine ∧ R (.str (PyData.shown (.dict (ps.zip qs)))) H) := by
  intro pins s σ H xs ws R I rx h
  obtain ⟨a, o, us, vs, ps, qs, rfl, hd, dx, h1, h2, hl, s1, s2, s3, q⟩ := h
  obtain rfl := Vals.ref1 rx
  have hgd : s.heap.get? a = some o := (show ObjOk X.prog X.w H s.heap a (frzX o) from I.hok a _ hd).1
  obtain ⟨es, ep, hdt, vk, vv⟩ := dx.dt
  obtain ⟨as, ra, na⟩ := DrAll.reads hs I h1 vk
  obtain ⟨bs, rb, nb⟩ := DrAll.reads hs I h2 vv
  have e1 : (ps.zip qs).map (·.1) = ps := List.map_fst_zip (Nat.le_of_eq hl)
  have e2 : (ps.zip qs).map (·.2) = qs := List.map_snd_zip (Nat.le_of_eq hl.symm)
  have rd : Reads s.heap (.ref a) (.dict (ps.zip qs)) (a :: as ++ bs) := Reads.dict hgd dx.ex.1 hdt (by rw [e1]; exact ra) (by rw [e2]; exact rb)
  have hn : sysModules ∉ a :: as ++ bs := by simp [ne_sys hs I hd, na, nb]
  exact repr_of_reads' rd s1 (fun _ => hn) gd (by omega) (fun _ _ e => e) (fun h' u tk k => ⟨.str _, H, I.kept (t' := tk) k, ⟨u, rfl⟩, q⟩) s3
variable {Γ : VEnv} {M : Mem} {Q : D → Mem → Prop} {QE : VEnv → Mem → Prop} {QI : List D → (Mem → Prop) → Mem → Prop} {Ln Vn Bn Fn : List Str} {o i : Expr} {pos : Pos} {d : D}
theorem wi_keysX (h : WE X Γ M iter fun d M1 => ∃ a o ks vs f, d = .ref a ∧ At a M1 (.fzX o ks vs) f ∧ QI ks (fun M' => ∃ f', At a M' (.fzX o ks vs) f') M1) : WI X Γ M tg iter QI := by
  intro S σ H hΓ hM
  refine tI_of (pi_keysX pe_c) (tE_post (h S σ H hΓ hM) fun d M1 S1 v H1 ⟨a, o, ks, vs, f, hd, hat, q⟩ s1 m1 r1 => ?_)
  subst hd
  obtain ⟨hx, us, xs, dx, rk, rv⟩ := m1.at_ok hat
  have hl : us.length = ks.length := rk.length
  refine ⟨a, o, us, xs, r1.ref_inv, hx, dx, _, _, M1, S1, q, s1, m1, ⟨fun S' M' H' k s' m' hs hk => ?_, fun S' M' H' k s' m' hs hk => ?_, fun S' M' H' k x H'' s' m' hs hk y => ?_⟩⟩
  · obtain ⟨f', h'⟩ := hs
    exact ⟨(m'.at_ok h').1, by omega⟩
  · obtain ⟨f', h'⟩ := hs
    exact ⟨(m'.at_ok h').1, by omega⟩
  · obtain ⟨rfl, hxk⟩ := y
    obtain ⟨dk, e1, e2⟩ := rk.getV hxk
    exact ⟨dk, S', e1, .refl _, m', e2.mono s'⟩
def SmD (kvs : List (Key × D)) : Prop := ∀ p ∈ kvs, ∃ n : Nat, p.1 = .inl (n : Int) ∧ n < 100
theorem PK.sm {S : Hp} {us : List (Key × V)} {kvs : List (Key × D)} (pk : PK X.K S us kvs) (h : SmD kvs) : SmK us := fun p hp => by
  have : p.1 ∈ kvs.map (·.1) := by rw [← pk.1]; exact List.mem_map.mpr ⟨p, hp, rfl⟩
  obtain ⟨q, h1, h2⟩ := List.mem_map.mp this
  obtain ⟨n, h3, h4⟩ := h q h1
  exact ⟨n, by rw [← h2, h3], h4⟩
theorem PK.keys {S : Hp} {us : List (Key × V)} {kvs : List (Key × D)} (pk : PK X.K S us kvs) : Reps X.K S (us.map fun p => kV p.1) (kvs.map fun p => kD p.1) := by
  have : us.map (fun p => kV p.1) = (kvs.map (·.1)).map kV := by rw [← pk.1, List.map_map]; rfl
  rw [this, List.map_map]
  exact Reps.of_map fun p _ => rep_of_key _
theorem cd_lenX {a : Addr} {ob : Obj} {ks vs : List D} {f : Cell → Mem} (h : At a M (.fzX ob ks vs) f) (q : Q (.int ks.length) M) : CD X (.builtin "len") [.ref a] M Q := cd_of call_lenX fun S H xs rx m => by
  obtain ⟨v, rfl, rv⟩ := reps_one rx
  obtain ⟨hx, us, xs, dx, rk, _⟩ := m.at_ok h
  exact ⟨a, ob, us, xs, by rw [rv.ref_inv], hx, dx, by rw [rk.length]; exact .of m (.int _) q⟩
theorem we_isX {p p2 pos : Pos} {e : Expr} (st : Stat X Ln Vn Bn Fn) (h1 : ("isinstance" : Str) ∈ Bn) (h2 : ("dict" : Str) ∈ Bn) (h : WE X Γ M e fun d M1 => ∃ a ob ks vs f, d = .ref a ∧ At a M1 (.fzX ob ks vs) f ∧ Q (.bl true) M1)
    (he : starEach [e, .Name "dict" p2] X.env = (false, eval e X.env) :: starEach [.Name "dict" p2] X.env := by rfl) (he2 : starEach [.Name "dict" p2] X.env = (false, eval (.Name "dict" p2) X.env) :: starEach [] X.env := by rfl) (hpl : (backTo pos (starEach [.Name "dict" p2] X.env)).any (·.1) = false := by rfl) :
    WE X Γ M (.Call (.Name "isinstance" p) [e, .Name "dict" p2] [] pos) Q := by
  intro S σ H hΓ hM
  obtain ⟨g1, g2, g3, g4⟩ := st.blt _ h1
  obtain ⟨k1, k2, k3, k4⟩ := st.blt _ h2
  refine tE_of (pe_callB call_isiX g1 g2 PyProof.Rows.boot_isinstance (pa_cons pe_c (pa_cons (pe_bltn k1 k2 PyProof.Rows.boot_dict (v := .ty "dict") rfl k3 k4) pa_nil he2) he) g3 g4 he hpl) ?_
  refine tE_post (h S σ H hΓ hM) fun d M1 S1 v H1 ⟨a, ob, ks, vs, f, hd, hat, q⟩ s1 m1 r1 => ?_
  subst hd
  obtain ⟨hx, us, xs, dx, _, _⟩ := m1.at_ok hat
  exact ⟨a, ob, us, xs, by rw [r1.ref_inv], hx, dx, .bl true, M1, S1, q, s1, m1, .bl true⟩
end
end DL

/-! Core97: d.pop(k) of a dict by numbers and texts, k there. -/
namespace DL
open PySem PySem.Spec PyProof.Rows L2
def dropA {κ α : Type} [DecidableEq κ] (kvs : List (κ × α)) (k : κ) : List (κ × α) := kvs.filter fun kv => decide (kv.1 ≠ k)
theorem PK.drop {K : PySem.W.Frag} {S : Hp} {κ : Type} [DecidableEq κ] {k : κ} : ∀ {kvs : List (κ × V)} {ds : List (κ × D)}, PK K S kvs ds → PK K S (L2.dropK kvs k) (dropA ds k)
  | [], ds, h => by
    rcases h.ind with ⟨_, rfl⟩ | ⟨_, _, _, _, _, e, _⟩
    · exact .nil
    · cases e
  | p :: kvs, ds, h => by
    rcases h.ind with ⟨e, _⟩ | ⟨k', v, d, kr, dr, e, rfl, r, t⟩
    · cases e
    · obtain ⟨rfl, rfl⟩ := List.cons.inj e
      have ih := PK.drop (k := k) t
      unfold L2.dropK dropA at ih ⊢
      rw [List.filter_cons, List.filter_cons]
      by_cases hk : k' = k
      · rw [if_neg (by simpa using hk), if_neg (by simpa using hk)]
        exact ih
      · rw [if_pos (by simpa using hk), if_pos (by simpa using hk)]
        exact .cons r ih
theorem mt_dpopK {X : Cx} : MtR X "dict.pop" (fun x xs H Q => ∃ (a : Addr) (kvs : List (Key × V)) (k : Key) (v : V), x = .ref a ∧ xs = [kV k] ∧ H a = some (.dK kvs) ∧ valV kvs k = some v ∧ Q v (upd H a (.dK (L2.dropK kvs k)))) := by
  intro pins s σ H x xs v us Q I rx rxs h
  obtain ⟨a, kvs, k, v0, rfl, rfl, ha, hv, q⟩ := h
  cases rx
  cases rxs with
  | cons r t =>
    cases t
    exact d_pop (more := []) I ha r hv (.inl rfl) fun w' s' I' rw' => ⟨v0, _, I', rw', q⟩
theorem md_dpop {X : Cx} {M : Mem} {Q : D → Mem → Prop} {a : Addr} {f : Cell → Mem} {kvs : List (Key × D)} {k : Key} {d : D} (h : At a M (.dK kvs) f) (hv : valA kvs k = some d) (q : Q d (f (.dK (dropA kvs k)))) : MD X "dict.pop" (.ref a) [kD k] M Q := md_of mt_dpopK fun S H v xs rv rx m => by
  obtain ⟨u, rfl, ru⟩ := reps_one rx
  obtain ⟨us, hx, pk⟩ := m.at_ok h
  rcases pk.val (k := k) with ⟨_, e⟩ | ⟨v1, d1, e1, e2, r1⟩
  · rw [hv] at e; cases e
  · rw [hv] at e2
    cases e2
    exact ⟨a, us, k, v1, rv.ref_inv, by rw [rep_kD ru], hx, e1, d, _, S, q, .refl _, m.write h (c' := .dK (dropA kvs k)) ⟨_, upd_same, pk.drop⟩, r1⟩
theorem wt_gc {X : Cx} {Γ : VEnv} {M : Mem} {e : Expr} {Q : Bool → Mem → Prop} (h : WT X Γ M e fun b M1 => ∃ G M2, List.Perm M1 (G ++ M2) ∧ Q b M2) : WT X Γ M e Q := fun S σ H hΓ hM => tT_mono (h S σ H hΓ hM) fun b H' ⟨M1, S1, ⟨G, M2, pm, q⟩, s1, m1⟩ => ⟨M2, S1, q, s1, (m1.perm pm).gc⟩
end DL

/-! Core98: d[k] = v, k a number, a text, None, True or (0,). -/
namespace DL
open PySem PySem.Spec PyProof.Rows L2
theorem pset_or {X : Cx} {t1 t2 : TSet} (h1 : PSet X t1) (h2 : PSet X t2) : PSet X (fun o i v H Q => t1 o i v H Q ∨ t2 o i v H Q) := by
  intro pins s σ H o i v ov iv u Q I ro ri rv h
  rcases h with h | h
  · exact h1 pins s σ H o i v ov iv u Q I ro ri rv h
  · exact h2 pins s σ H o i v ov iv u Q I ro ri rv h
section
variable {X : Cx} {Γ : VEnv} {M : Mem} {QE : VEnv → Mem → Prop} {Ln Vn Bn Fn : List Str} {o i : Expr} {pos : Pos} {d : D}
/-- what is asked of the key y -/
def SetAny (QE : VEnv → Mem → Prop) (Γ : VEnv) (d : D) (a : Addr) (kvs : List (Key × D)) (f : Cell → Mem) (y : D) : Prop :=
  (∃ k, y = kD k ∧ kvs.length < sizeLine ∧ QE Γ (f (.dK (putA kvs k d)))) ∨
  (SmD kvs ∧ kvs.length < sizeLine ∧ ((y = .bl true ∧ (∃ p ∈ kvs, p.1 = .inl 1) ∧ QE Γ (f (.dK (putA kvs (.inl 1) d)))) ∨ ((y = .non ∨ (y = .bl true ∧ ∀ p ∈ kvs, p.1 ≠ .inl 1) ∨ y = .tup [.int 0]) ∧ ∀ ob, QE Γ (f (.fzX ob (kvs.map (fun p => kD p.1) ++ [y]) (kvs.map (·.2) ++ [d]))))))
theorem wg_dixB (st : Stat X Ln Vn Bn Fn) (h : WE X Γ M o fun do_ M1 => WE X Γ M1 i fun y M2 => ∃ a f kvs, do_ = .ref a ∧ At a M2 (.dK kvs) f ∧ SetAny QE Γ d a kvs f y)
    (ha : ∀ v, assign (.Subscript o i pos) X.env v = (do
      let ov ← holding [v] (eval o X.env)
      let iv ← holding [v, ov] (eval i X.env)
      standAt pos
      holding [v, ov, iv] (setItem ov iv v)
      release [v, ov, iv] []) := by intro _; rfl) : WG X Γ M (.Subscript o i pos) d QE := by
  intro S σ H v hΓ hM r
  refine tG_of (pg_sub pe_c pe_c (pset_or (set_dict (by have := st.hu; omega)) (set_odd (by have := st.hu; omega))) ha) ?_
  refine tE_post (h S σ H hΓ hM) fun d1 M1 S1 v1 H1 q1 s1 m1 r1 => ?_
  refine tE_post (q1 S1 σ H1 (hΓ.mono s1) m1) fun d2 M2 S2 v2 H2 q2 s2 m2 r2 => ?_
  have rr := (r.mono s1).mono s2
  obtain ⟨q, f, kvs, rfl, h, hc⟩ := q2
  obtain ⟨us, hx, pk⟩ := m2.at_ok h
  rcases hc with ⟨k, rfl, hl, k'⟩ | ⟨hsm, hl, hc⟩
  · have e2 := rep_kD r2
    subst e2
    exact .inl ⟨q, _, (r1.mono s2).ref_inv, .k hx (by rw [pk.length]; exact hl), _, _, S2, k', s1.trans s2, (hΓ.mono s1).mono s2, m2.write h (c' := .dK (putA kvs k d)) ⟨_, upd_same, pk.put rr⟩⟩
  refine .inr ⟨q, us, (r1.mono s2).ref_inv, hx, pk.sm hsm, by rw [pk.length]; exact hl, ?_⟩
  have keyin : ∀ {k : Key}, (∃ p ∈ kvs, p.1 = k) ↔ ∃ p ∈ us, p.1 = k := fun {k} => by
    have : k ∈ kvs.map (·.1) ↔ k ∈ us.map (·.1) := by rw [pk.1]
    rw [List.mem_map, List.mem_map] at this
    exact this
  rcases hc with ⟨rfl, h1, k'⟩ | ⟨hy, k'⟩
  · exact .inl ⟨r2.bl_inv, keyin.mp h1, _, _, S2, k', s1.trans s2, (hΓ.mono s1).mono s2, m2.write h (c' := .dK (putA kvs (.inl 1) d)) ⟨_, upd_same, pk.put rr⟩⟩
  · have new : ∀ ob, DxAt q ob (us.map (fun p => kV p.1) ++ [v2]) (us.map (·.2) ++ [v]) → MO X.K S2 (f (.fzX ob (kvs.map (fun p => kD p.1) ++ [d2]) (kvs.map (·.2) ++ [d]))) (upd H2 q (frzX ob)) := fun ob dx =>
      m2.write h (c' := .fzX ob (kvs.map (fun p => kD p.1) ++ [d2]) (kvs.map (·.2) ++ [d])) ⟨upd_same, _, _, dx, (PK.keys pk).append (Reps.one r2), pk.2.append (Reps.one rr)⟩
    refine .inr ⟨?_, fun ob dx => ⟨_, _, S2, k' ob, s1.trans s2, (hΓ.mono s1).mono s2, new ob dx⟩⟩
    rcases hy with rfl | ⟨rfl, h1⟩ | rfl
    · exact .inl r2.non_inv
    · refine .inr (.inl ⟨r2.bl_inv, fun p hp e => ?_⟩)
      obtain ⟨p', hp', e'⟩ := keyin.mpr ⟨p, hp, e⟩
      exact h1 p' hp' e'
    · obtain ⟨b, ws, rfl, hb, rs⟩ := Rep.tup_get m2 r2
      refine .inr (.inr ⟨b, rfl, ?_⟩)
      rw [hb]
      have := rs.ints_inv (ns := [0])
      rw [this]; rfl
end
theorem wt_impB {X : Cx} {Γ : VEnv} {M : Mem} {e : Expr} {QB QC : Bool → Mem → Prop} (h : WT X Γ M e QB) (m : ∀ k M', QB k M' → QC k M') : WT X Γ M e QC := fun S σ H hΓ hM =>
  tT_mono (h S σ H hΓ hM) fun k H' ⟨M', S', q, s, mo⟩ => ⟨M', S', m k M' q, s, mo⟩
theorem cd_reprOB {X : Cx} {M : Mem} {Q : D → Mem → Prop} {Ln Vn Bn Fn : List Str} {a : Addr} {ob : Obj} {ks vs : List D} {f : Cell → Mem} {ps qs : List PyData} {dep n : Nat} (st : Stat X Ln Vn Bn Fn) (h : At a M (.fzX ob ks vs) f) (h1 : PyXs M ks ps) (h2 : PyXs M vs qs) (hl : ps.length = qs.length) (hz : ShB dep n (.dict (ps.zip qs))) (hd : dep ≤ 64) (hn : n ≤ 1000000) (hs : ∃ mm, X.base.Ns sysModules mm)
    (q : Q (.str (PyData.shown (.dict (ps.zip qs)))) M) : CD X (.builtin "repr") [.ref a] M Q :=
  cd_of (call_reprDX hs st.gd (by have := st.hu; omega)) fun S H xs rx m => by
    obtain ⟨v, rfl, rv⟩ := reps_one rx
    obtain ⟨hx, us, xs, dx, rk, rx⟩ := m.at_ok h
    exact ⟨a, ob, us, xs, ps, qs, by rw [rv.ref_inv], hx, dx, h1.dr m rk, h2.dr m rx, hl, hz.sh, Nat.le_trans hz.dp hd, hz.fits hn, .of m (.str _) q⟩
/-! puts and drops, plain -/
section
variable {κ α : Type} [DecidableEq κ] {kvs : List (κ × α)} {k : κ} {v : α}
theorem putA_mem {p : κ × α} (h : p ∈ putA kvs k v) : p ∈ kvs ∨ p = (k, v) := by
  unfold putA at h
  split at h
  · obtain ⟨q, hq, rfl⟩ := List.mem_map.mp h
    split
    · rename_i e; exact .inr (by rw [e])
    · exact .inl hq
  · rcases List.mem_append.mp h with h | h
    · exact .inl h
    · exact .inr (List.mem_singleton.mp h)
theorem putA_nd (nd : (kvs.map (·.1)).Nodup) : ((putA kvs k v).map (·.1)).Nodup := by
  unfold putA
  split
  · have : (kvs.map fun kv => if kv.1 = k then (kv.1, v) else kv).map (·.1) = kvs.map (·.1) := by
      rw [List.map_map]
      exact List.map_congr_left fun p _ => by show (if p.1 = k then (p.1, v) else p).1 = p.1; split <;> rfl
    rw [this]; exact nd
  · rename_i h
    rw [List.map_append, List.nodup_append]
    refine ⟨nd, by simp, fun a ha b hb e => h ?_⟩
    rw [List.map_singleton, List.mem_singleton] at hb
    obtain ⟨p, hp, rfl⟩ := List.mem_map.mp ha
    exact List.any_eq_true.mpr ⟨p, hp, decide_eq_true (e.trans hb)⟩
theorem putA_len : (putA kvs k v).length ≤ kvs.length + 1 := by
  unfold putA
  split
  · rw [List.length_map]; omega
  · rw [List.length_append, List.length_singleton]; exact Nat.le_refl _
theorem dropA_mem {p : κ × α} (h : p ∈ dropA kvs k) : p ∈ kvs := (List.mem_filter.mp h).1
theorem dropA_nd (nd : (kvs.map (·.1)).Nodup) : ((dropA kvs k).map (·.1)).Nodup := List.Pairwise.sublist (List.filter_sublist.map _) nd
theorem dropA_len : (dropA kvs k).length ≤ kvs.length := List.length_filter_le _ _
end
end DL

local macro_rules | `(tactic| walk_at "mem") => `(tactic| repeat (first | with_reducible exact DL.mem_h | with_reducible apply DL.mem_t))
local macro_rules | `(tactic| walk_at "look") => `(tactic| repeat (first | with_reducible exact DL.Look.here | with_reducible apply DL.Look.there))
local macro_rules | `(tactic| walk_at "put") => `(tactic| repeat (first | with_reducible exact DL.SetAt.here | with_reducible apply DL.SetAt.there))
local macro_rules | `(tactic| walk_at "at") => `(tactic| repeat (first | with_reducible exact DL.At.here | with_reducible assumption | with_reducible exact DL.At.put (by assumption) _ | with_reducible apply DL.At.there | with_reducible apply DL.At.app))
local macro_rules | `(tactic| walk_at "isl") => `(tactic| first | with_reducible exact DL.isL_lst | exact Or.inr ⟨_, _, rfl, by walk_at "at"⟩)
local macro_rules | `(tactic| walk_at "isr") => `(tactic| first | with_reducible exact DL.isR_lst | with_reducible exact DL.isR_slst | exact Or.inl (Or.inr ⟨_, _, rfl, by walk_at "at"⟩))
local macro_rules | `(tactic| walk_at "room") => `(tactic| exact L2.Room.mono (by assumption) (by decide))
local macro_rules | `(tactic| walk_at "unf") => `(tactic| with_unfolding_all rfl)
local macro_rules | `(tactic| walk_at "e1") => `(tactic| with_reducible first
  | (refine DL.kName ?_; refine DL.we_name (by assumption) (by walk_at "mem") (by walk_at "look") ?_)
  | refine DL.we_int ?_
  | refine DL.we_bin ?_
  | refine DL.we_slice ?_
  | (refine DL.kIx ?_; refine DL.we_ix ?_ (by with_unfolding_all exact fun _ _ => rfl))
  | refine DL.we_str ?_
  | refine DL.we_neg ?_
  | (refine DL.kCmp ?_; refine DL.we_cmp ?_ (by with_unfolding_all first | rfl | exact L2.nomark _))
  | refine DL.we_tup ?_
  | (refine DL.kCall ?_; first
    | refine DL.we_call (by assumption) (by with_unfolding_all walk_at "room") (by assumption) (by walk_at "mem") ?_ (by walk_at "unf") (by walk_at "unf")
    | refine DL.we_blt (by assumption) (by walk_at "mem") (by first | exact PySem.boot_len | exact PyProof.Rows.boot_abs | exact DL.boot_max | exact DL.boot_min | exact PyProof.Rows.boot_sorted | exact PyProof.Rows.boot_repr | exact DL.boot_any | exact DL.boot_all | exact DL.boot_sum) ?_ (by walk_at "unf") (by walk_at "unf")
    | refine DL.we_bty (by assumption) (by walk_at "mem") (by first | exact PyProof.Rows.boot_int | exact PyProof.Rows.boot_list | exact PyProof.Rows.boot_dict | exact PyProof.Rows.boot_set | exact PyProof.Rows.boot_tuple | exact PyProof.Rows.boot_str) ?_ (by walk_at "unf") (by walk_at "unf"))
  | refine DL.we_non ?_
  | refine DL.we_bl ?_
  | refine DL.we_not ?_
  | refine DL.we_one ?_
  | refine DL.we_and ?_
  | refine DL.we_or ?_
  | refine DL.we_if ?_
  | refine DL.we_lst ?_
  | (refine DL.kAtt "append" ?_; refine DL.we_meth PySem.F.plainAttrs_list PySem.F.slot_list_append PySem.F.type_list_append ?_ (by walk_at "unf") (by walk_at "unf") (by walk_at "unf") (by walk_at "unf") (by walk_at "unf"))
  | (refine DL.kAtt "extend" ?_; refine DL.we_meth PySem.F.plainAttrs_list PySem.F.slot_list_extend PySem.F.type_list_extend ?_ (by walk_at "unf") (by walk_at "unf") (by walk_at "unf") (by walk_at "unf") (by walk_at "unf"))
  | (refine DL.kAtt "insert" ?_; refine DL.we_meth PySem.F.plainAttrs_list PySem.F.slot_list_insert PySem.F.type_list_insert ?_ (by walk_at "unf") (by walk_at "unf") (by walk_at "unf") (by walk_at "unf") (by walk_at "unf"))
  | (refine DL.kAtt "update" ?_; refine DL.we_meth PySem.F.plainAttrs_dict PySem.F.slot_dict_update PySem.F.type_dict_update ?_ (by walk_at "unf") (by walk_at "unf") (by walk_at "unf") (by walk_at "unf") (by walk_at "unf"))
  | (refine DL.kAtt "reverse" ?_; refine DL.we_meth0 PySem.F.plainAttrs_list PySem.F.slot_list_reverse PySem.F.type_list_reverse ?_ (by walk_at "unf") (by walk_at "unf"))
  | (refine DL.kAtt "clear" ?_; refine DL.we_meth0 PySem.F.plainAttrs_list PySem.F.slot_list_clear PySem.F.type_list_clear ?_ (by walk_at "unf") (by walk_at "unf"))
  | (refine DL.kAtt "pop" ?_; first | refine DL.we_meth PySem.F.plainAttrs_list PySem.F.slot_list_pop PySem.F.type_list_pop ?_ (by walk_at "unf") (by walk_at "unf") (by walk_at "unf") (by walk_at "unf") (by walk_at "unf") | refine DL.we_meth0 PySem.F.plainAttrs_list PySem.F.slot_list_pop PySem.F.type_list_pop ?_ (by walk_at "unf") (by walk_at "unf")))
local macro_rules | `(tactic| walk_at "od") => `(tactic| with_reducible first
  | refine DL.od_add ?_
  | refine DL.od_sub ?_
  | refine DL.od_lt ?_
  | refine DL.od_le ?_
  | refine DL.od_gt ?_
  | refine DL.od_ge ?_
  | refine DL.od_eqI ?_
  | refine DL.od_neI ?_
  | refine DL.od_eqS ?_
  | refine DL.od_neS ?_
  | (refine DL.kOp .Mod ?_; refine DL.od_mod (by omega) ?_)
  | (refine DL.kCo .In ?_; refine DL.od_inD (by assumption) (DL.GetD.dk (by walk_at "at")) ?_))
local macro_rules | `(tactic| walk_at "cd") => `(tactic| with_reducible first
  | refine DL.cd_intB ?_
  | refine DL.cd_abs ?_
  | (refine DL.kBl "max" ?_; refine DL.cd_max (by assumption) ?_)
  | (refine DL.kBl "min" ?_; refine DL.cd_min (by assumption) ?_)
  | (refine DL.kBl "len" ?_; first | refine DL.cd_len (Or.inl (by with_unfolding_all walk_at "isr")) ?_ | refine DL.cd_len (Or.inr rfl) ?_))
local macro_rules | `(tactic| walk_at "t1") => `(tactic| with_reducible first
  | (refine DL.kTC ?_; refine DL.wt_cmp ?_ (by with_unfolding_all first | rfl | exact L2.nomark _))
  | (refine DL.kTN ?_; refine DL.wt_truth ?_ (by with_unfolding_all exact fun _ => rfl))
  | (refine DL.kTL ?_; refine DL.wt_truth ?_ (by with_unfolding_all exact fun _ => rfl))
  | refine DL.wt_bool ?_
  | refine DL.ww_and ?_
  | refine DL.ww_or ?_
  | refine DL.ww_and1 ?_
  | refine DL.ww_or1 ?_
  | refine DL.wt_not ?_)
local macro_rules | `(tactic| walk_at "a1") => `(tactic| with_reducible first
  | (refine DL.kWA ?_; refine DL.wa_cons ?_ (by walk_at "unf"))
  | refine DL.wa_nil ?_)
local macro_rules | `(tactic| walk_at "ix") => `(tactic| first
  | exact DL.IxD.list (by with_unfolding_all walk_at "isr") (by with_unfolding_all rfl)
  | exact DL.IxD.tup (by with_unfolding_all rfl))
local macro_rules | `(tactic| walk_at "tyd") => `(tactic| first | exact DL.tyL (by with_unfolding_all walk_at "isr") | exact DL.tyK (by walk_at "at"))
local macro_rules | `(tactic| walk_at "k") => `(tactic| with_reducible refine ⟨_, rfl, ?_⟩)
local macro_rules | `(tactic| walk_at "run1") => `(tactic| first
  | (with_reducible refine DL.gWE ?_; walk_at "e1")
  | (with_reducible refine DL.gOD ?_; walk_at "od")
  | (with_reducible refine DL.gCD ?_; walk_at "cd")
  | (with_reducible refine DL.gWA ?_; walk_at "a1")
  | (with_reducible refine DL.gWT ?_; walk_at "t1")
  | (with_reducible refine DL.gWW ?_; walk_at "t1")
  | with_reducible refine DL.gBl ?_
  | with_reducible refine DL.gTr ?_
  | (with_reducible refine DL.kPut ?_; with_reducible refine DL.gPut (by walk_at "put") ?_)
  | (with_reducible refine DL.kIxd ?_; with_reducible refine DL.gIx (by walk_at "ix") ?_)
  | (with_reducible refine DL.kTy ?_; with_reducible refine DL.gTy (by walk_at "tyd") ?_)
  | with_reducible refine DL.gLen rfl ?_
  | (with_reducible refine DL.kSz ?_; with_reducible refine DL.gSz (DL.szl (by with_unfolding_all simp)) ?_)
  | with_reducible refine DL.gInt ?_
  | with_reducible refine DL.woS ?_
  | with_reducible refine DL.woN ?_
  | with_reducible refine DL.ite_ff ?_
  | with_reducible refine DL.ite_tt ?_)
local macro_rules | `(tactic| walk_at "run") => `(tactic| repeat walk_at "run1")
local macro_rules | `(tactic| walk_at "set") => `(tactic| (first | (with_reducible refine DL.wss_cons ?_; with_reducible refine DL.ws_set (by assumption) (by walk_at "mem") ?_ (by walk_at "unf")) | (refine DL.wss_cons ?_; refine DL.ws_set (by assumption) (by walk_at "mem") ?_ (by walk_at "unf"))))
local macro_rules | `(tactic| walk_at "put!") => `(tactic| refine ⟨_, by walk_at "put", ?_⟩)
local macro_rules | `(tactic| walk_at "if") => `(tactic| (first | (with_reducible refine DL.wss_cons ?_; with_reducible refine DL.ws_if ?_) | (refine DL.wss_cons ?_; refine DL.ws_if ?_)))
local macro_rules | `(tactic| walk_at "ret") => `(tactic| (first | (with_reducible refine DL.wss_cons ?_; with_reducible refine DL.ws_ret ?_) | (refine DL.wss_cons ?_; refine DL.ws_ret ?_)))
local macro_rules | `(tactic| walk_at "expr") => `(tactic| (first | (with_reducible refine DL.wss_cons ?_; with_reducible refine DL.ws_expr ?_ (by walk_at "unf")) | (refine DL.wss_cons ?_; refine DL.ws_expr ?_ (by walk_at "unf"))))
local macro_rules | `(tactic| walk_at "asg") => `(tactic| (first | (with_reducible refine DL.wss_cons ?_; with_reducible refine DL.ws_asg ?_ (by walk_at "unf") (by walk_at "unf") (by walk_at "unf")) | (refine DL.wss_cons ?_; refine DL.ws_asg ?_ (by walk_at "unf") (by walk_at "unf") (by walk_at "unf"))))
local macro_rules | `(tactic| walk_at "wix") => `(tactic| refine DL.wg_ix ?_ (by intro _; with_unfolding_all rfl))
local macro_rules | `(tactic| walk_at "draw") => `(tactic| refine ⟨_, _, _, _, _, rfl, by walk_at "at", by assumption, by omega, by omega, by omega, ?_⟩)
local macro_rules | `(tactic| walk_at "unset") => `(tactic| repeat (first | with_reducible exact DL.Unset.here | with_reducible apply DL.Unset.there))
local macro_rules | `(tactic| walk_at "wiped") => `(tactic| repeat (first | exact DL.Wiped.nil | (apply DL.Wiped.cons; walk_at "unset")))
local macro_rules | `(tactic| walk_at "str") => `(tactic| first
  | refine DL.ite_sF (by decide +kernel) ?_
  | refine DL.ite_sT (by decide +kernel) ?_
  | refine DL.ite_nF (by decide +kernel) ?_
  | refine DL.ite_nT (by decide +kernel) ?_)
local macro_rules | `(tactic| walk_at "go") => `(tactic| repeat (first | walk_at "run1" | walk_at "str"))
/-! the law's own draws: defs that all laws share -/
namespace Gen
open PySem L2 DL Wk
def top (i : Nat) : Stmt := PySem.Challenge.pw_fewsaves_k20_plans_or_not.main.body.getD i (.Pass ⟨0, 0, 0, 0⟩)
abbrev s_law_tape : Stmt := top 22
abbrev l_law_tape : List Str := ["_law_script", "_law_k", "_law_cell"]
abbrev n_law_tape : List Str := ["_law_script", "_law_k", "_law_cell"]
theorem sc_law_tape : FnScope n_law_tape ["_law_script", "_law_k"] (defScope s_law_tape) := ⟨rfl, rfl, rfl, by decide +kernel, rfl, by decide +kernel, by decide +kernel⟩
abbrev s_law_draw : Stmt := top 23
abbrev l_law_draw : List Str := ["_law_tape_here", "_law_many_here", "_law_found", "_law_once", "_law_twice"]
abbrev n_law_draw : List Str := ["_law_tape_here", "_law_many_here", "_law_found", "_law_once", "_law_twice"]
theorem sc_law_draw : FnScope n_law_draw ["_law_tape_here", "_law_many_here"] (defScope s_law_draw) := ⟨rfl, rfl, rfl, by decide +kernel, rfl, by decide +kernel, by decide +kernel⟩
section
variable {P : Program} {w : World} {K : PySem.W.Frag} {mg : Str → Option Value} {base : Heap}

/-- the tape: three numbers from nought, the last one at most n -/
def Tape (n : Nat) (c : Cell) : Prop := ∃ a b k : Int, c = .lst [.int a, .int b, .int k] ∧ 0 ≤ a ∧ 0 ≤ b ∧ b ≤ 2305843009216300000 ∧ 0 ≤ k ∧ k ≤ n
theorem Tape.mono {n m : Nat} {c : Cell} (h : Tape n c) (e : n ≤ m) : Tape m c := by
  obtain ⟨a, b, k, e1, h1, h2, h3, h4, h5⟩ := h
  exact ⟨a, b, k, e1, h1, h2, h3, h4, by omega⟩
abbrev sp_law_tape : DSp := fun ds M Q => ∃ (ns : List Int) (k : Int), ds = [.slst (ns.map .int), .int k] ∧ 0 ≤ k ∧ k ≤ 64 ∧ ∀ p c, Tape 0 c → Q (.ref p) ((p, c) :: M)
theorem ok_law_tape {f : Addr} {fd : FuncData} (F : Fun K "_law_tape" "_law_tape" s_law_tape f fd) (hm : mg "_law_tape" = some (.ref f)) (hb : Binds K fd ["_law_script", "_law_k"] []) (hB : ∀ x ∈ (["len", "abs", "int"] : List Str), mg x = none) : Fs P w K mg base 1 "_law_tape" 2 sp_law_tape := by
  refine fs_of (N := n_law_tape) (Ln := l_law_tape) (Bn := ["len", "abs", "int"]) (Fn := []) (Bx := ["len", "abs", "int"]) F hm hb sc_law_tape rfl (by decide +kernel) hB ?_
  rintro X ds M Q bod ⟨ns, k, rfl, hk, hk2, hQ⟩
  have st := bod.st
  show WSs X ([("_law_script", some (.slst (ns.map .int))), ("_law_k", some (.int k)), ("_law_cell", none)] : VEnv) M _ _
  refine ws_mid (fun Γ' M' => ∃ cell : Int, Γ' = ([("_law_script", some (.slst (ns.map .int))), ("_law_k", some (.int k)), ("_law_cell", some (.int cell))] : VEnv) ∧ M' = M) (ws_set st (by walk_at "mem") ?_ (by walk_at "unf")) ?_
  · walk_at "run"
    refine ite_d (fun h => ?_) (fun h => ?_)
    · walk_at "run"
      have h' : k < ((ns.map D.int).length : Int) := h
      obtain ⟨d, e, hd⟩ := atI_mem hk h'
      obtain ⟨v, _, rfl⟩ := List.mem_map.mp hd
      refine ⟨_, _, rfl, IxD.list (.inr rfl) e, ?_⟩
      walk_at "run"
      exact ⟨_, rfl, rfl⟩
    · walk_at "run"
      exact ⟨_, rfl, rfl⟩
  · rintro Γ' M' ⟨cell, rfl, rfl⟩
    walk_at "ret"
    refine we_lstO ?_
    walk_at "run"
    refine od_pow (cm_pow (by omega) (by omega) (by omega) (by omega)) ?_
    walk_at "run"
    have hb1 : (0 : Int) ≤ (if decide ((10 : Int) ^ (18 : Int).toNat ≤ if cell < 0 then -cell else cell) = true then 1 else 0) ∧ (if decide ((10 : Int) ^ (18 : Int).toNat ≤ if cell < 0 then -cell else cell) = true then (1 : Int) else 0) ≤ 1 := by
      generalize decide ((10 : Int) ^ (18 : Int).toNat ≤ if cell < 0 then -cell else cell) = b
      cases b <;> simp
    refine od_mul (cm_r (by omega) (by omega)) ?_
    walk_at "run"
    refine od_mul (cm_l (by omega) (by omega)) ?_
    walk_at "run"
    have m1 := Int.emod_nonneg cell (show (2305843009213693951 : Int) ≠ 0 by omega)
    have m2 := Int.emod_lt_of_pos cell (show (0 : Int) < 2305843009213693951 by omega)
    intro p
    refine hQ p _ ⟨_, _, _, rfl, Int.mul_nonneg ?_ hb1.1, by omega, by omega, by omega, by omega⟩
    split <;> omega

abbrev sp_law_draw : DSp := fun ds M Q => ∃ (t : Addr) (n : Int) (N : Nat) (c : Cell) (f : Cell → Mem), ds = [.ref t, .int n] ∧ At t M c f ∧ Tape N c ∧ N ≤ 1000000000 ∧ 0 < n ∧ n ≤ 1000000 ∧ ∀ r c', 0 ≤ r → r < n → Tape (N + 1) c' → Q (.int r) (f c')
theorem ok_law_draw {f : Addr} {fd : FuncData} (F : Fun K "_law_draw" "_law_draw" s_law_draw f fd) (hm : mg "_law_draw" = some (.ref f)) (hb : Binds K fd ["_law_tape_here", "_law_many_here"] []) : Fs P w K mg base 1 "_law_draw" 2 sp_law_draw := by
  refine fs_of (N := n_law_draw) (Ln := l_law_draw) (Bn := []) (Fn := []) (Bx := []) F hm hb sc_law_draw rfl (by decide +kernel) (fun _ h => by cases h) ?_
  rintro X ds M Q bod ⟨t, n, N, c, f, rfl, hat, ⟨a, b, k, rfl, ha, hb, hb2, hk, hk2⟩, hN, hn, hn2, hQ⟩
  have st := bod.st
  show WSs X ([("_law_tape_here", some (.ref t)), ("_law_many_here", some (.int n)), ("_law_found", none), ("_law_once", none), ("_law_twice", none)] : VEnv) M _ _
  walk_at "if"
  walk_at "run"
  refine ite_d (fun h => ?_) (fun h => ?_)
  · walk_at "set"
    walk_at "run"
    walk_at "asg"
    walk_at "run"
    refine od_fdiv ⟨hn, by omega⟩ ?_
    walk_at "wix"
    walk_at "run"
    refine ⟨_, _, _, _, rfl, rfl, by walk_at "at", by decide, by simp, ?_⟩
    walk_at "ret"
    walk_at "run"
    have m1 := Int.emod_nonneg a (show n ≠ 0 by omega)
    have m2 := Int.emod_lt_of_pos a hn
    exact hQ _ _ m1 m2 ⟨_, _, _, rfl, Int.ediv_nonneg ha (by omega), hb, hb2, hk, by omega⟩
  · refine wss_nil ?_
    walk_at "asg"
    walk_at "run"
    walk_at "wix"
    walk_at "run"
    refine ⟨_, _, _, _, rfl, rfl, by walk_at "at", by decide, by simp, ?_⟩
    walk_at "set"
    walk_at "run"
    refine od_mul (cm_l (by omega) (by omega)) ?_
    walk_at "run"
    refine od_pow (cm_pow (by omega) (by omega) (by omega) (by omega)) ?_
    walk_at "run"
    generalize ho : (b + 39373 * (k + 1)) ^ (5 : Int).toNat % 2147483647 = once
    have ho1 : 0 ≤ once ∧ once < 2147483647 := by rw [← ho]; exact ⟨Int.emod_nonneg _ (by omega), Int.emod_lt_of_pos _ (by omega)⟩
    walk_at "set"
    walk_at "run"
    refine od_mul (cm_l (by omega) (by omega)) ?_
    walk_at "run"
    generalize ht : (once + (k + 1)) * (once % 40009 + 7 + (k + 1)) % 2147483629 = twice
    have ht1 : 0 ≤ twice ∧ twice < 2147483629 := by rw [← ht]; exact ⟨Int.emod_nonneg _ (by omega), Int.emod_lt_of_pos _ (by omega)⟩
    walk_at "ret"
    walk_at "run"
    refine od_mul (cm_l (by omega) (by omega)) ?_
    walk_at "run"
    refine od_fdiv ⟨by omega, by omega⟩ ?_
    walk_at "run"
    have m1 := Int.emod_nonneg ((twice * 48271 + once) % 2147483587 / 64) (show n ≠ 0 by omega)
    have m2 := Int.emod_lt_of_pos ((twice * 48271 + once) % 2147483587 / 64) hn
    exact hQ _ _ m1 m2 ⟨_, _, _, rfl, ha, hb, hb2, by omega, by omega⟩
end
end Gen

namespace Gen
open PySem L2 DL Wk
abbrev s_law_nexts : Stmt := top 24
abbrev l_law_nexts : List Str := ["_law_tape_here", "_law_many_here", "_law_found", "_law_led", "_law_k", "_law_way", "_law_other", "_law_some"]
abbrev n_law_nexts : List Str := ["_law_tape_here", "_law_many_here", "_law_found", "_law_led", "_law_k", "_law_way", "_law_other", "_law_some", "_law_one"]
theorem sc_law_nexts : FnScope n_law_nexts ["_law_tape_here", "_law_many_here"] (defScope s_law_nexts) := ⟨rfl, rfl, rfl, by decide +kernel, rfl, by decide +kernel, by decide +kernel⟩
section
variable {P : Program} {w : World} {K : PySem.W.Frag} {mg : Str → Option Value} {base : Heap}
/-- the first i ends of m -/
structure PreOk (m i : Nat) (nx : List Nd) : Prop where
  len : nx.length = i
  ok : ∀ e ∈ nx, e.Ok m
  led : ∀ j, 1 ≤ j → j ≤ i → j < m → ∃ (a : Nat) (e : Nd), a < j ∧ nx[a]? = some e ∧ j ∈ e.nx
structure LedOk (nx : List Nd) (kvs : List (Key × D)) : Prop where
  len : kvs.length ≤ 2 * nx.length
  led : ∀ n : Nat, (valA kvs (.inl (n : Int))).isSome = true → ∃ (a : Nat) (e : Nd), nx[a]? = some e ∧ n ∈ e.nx
theorem NxOk.of {m : Nat} {nx : List Nd} (h : PreOk m m nx) : NxOk m nx := ⟨h.len, h.ok, fun j a b => h.led j a (by omega) b⟩
theorem PreOk.step {m i : Nat} {nx : List Nd} {e : Nd} (h : PreOk m i nx) (ho : e.Ok m) (hl : i + 1 < m → i + 1 ∈ e.nx ∨ ∃ (a : Nat) (e : Nd), nx[a]? = some e ∧ i + 1 ∈ e.nx) : PreOk m (i + 1) (nx ++ [e]) := by
  have gl := h.len
  have up : ∀ (a : Nat) (e' : Nd), nx[a]? = some e' → a < i ∧ (nx ++ [e])[a]? = some e' := fun a e' q => by
    have := (List.getElem?_eq_some_iff.mp q).1
    exact ⟨by omega, by rw [List.getElem?_append_left this]; exact q⟩
  refine ⟨by simp [h.len], fun e' he => ?_, fun j h1 h2 h3 => ?_⟩
  · rcases List.mem_append.mp he with he | he
    · exact h.ok _ he
    · rw [List.mem_singleton.mp he]; exact ho
  · by_cases hj : j ≤ i
    · obtain ⟨a, e', q1, q2, q3⟩ := h.led j h1 hj h3
      exact ⟨a, e', q1, (up _ _ q2).2, q3⟩
    · have : j = i + 1 := by omega
      subst this
      rcases hl h3 with q | ⟨a, e', q1, q2⟩
      · exact ⟨i, e, by omega, by rw [List.getElem?_append_right (by omega), gl]; simp, q⟩
      · exact ⟨a, e', by have := (up _ _ q1).1; omega, (up _ _ q1).2, q2⟩
theorem LedOk.step {nx : List Nd} {kvs : List (Key × D)} {e : Nd} (h : LedOk nx kvs) : LedOk (nx ++ [e]) (mergeA kvs (e.nx.map fun (n : Nat) => ((.inl (n : Int) : Key), D.bl true))) := by
  have l2 : e.nx.length ≤ 2 := by cases e <;> simp [Nd.nx]
  refine ⟨?_, fun n hn => ?_⟩
  · have := mergeA_length (e.nx.map fun (n : Nat) => ((.inl (n : Int) : Key), D.bl true)) kvs
    have := h.len
    rw [List.length_map] at *
    rw [List.length_append, List.length_singleton]
    omega
  · rw [mergeA_val, Bool.or_eq_true] at hn
    rcases hn with hn | hn
    · obtain ⟨a, e', q1, q2⟩ := h.led n hn
      have := (List.getElem?_eq_some_iff.mp q1).1
      exact ⟨a, e', by rw [List.getElem?_append_left this]; exact q1, q2⟩
    · have := valA_mem_keys.mp hn
      rw [List.map_map] at this
      obtain ⟨k, k1, k2⟩ := List.mem_map.mp this
      have : k = n := by
        have := Sum.inl.inj k2
        exact Int.ofNat_inj.mp this
      subst this
      exact ⟨nx.length, e, by simp, k1⟩
abbrev sp_law_nexts : DSp := fun ds M Q => ∃ (t : Addr) (m : Nat) (N : Nat) (c : Cell) (f : Cell → Mem), ds = [.ref t, .int (m : Int)] ∧ At t M c f ∧ Tape N c ∧ N ≤ 100000000 ∧ 1 ≤ m ∧ m ≤ 16 ∧ ∀ nx c', NxOk m nx → Tape (N + 2 * m) c' → Q (.lst (nx.map fun e => nlD e.nx)) (f c')
theorem ok_law_nexts {f : Addr} {fd : FuncData} (F : Fun K "_law_nexts" "_law_nexts" s_law_nexts f fd) (hm : mg "_law_nexts" = some (.ref f)) (hb : Binds K fd ["_law_tape_here", "_law_many_here"] []) (hB : ∀ x ∈ (["range", "max"] : List Str), mg x = none) (h_law_draw : Fs P w K mg base 1 "_law_draw" 2 sp_law_draw) : Fs P w K mg base 2 "_law_nexts" 2 sp_law_nexts := by
  refine fs_of (N := n_law_nexts) (Ln := l_law_nexts) (Bn := ["range", "max"]) (Fn := ["_law_draw"]) (Bx := ["range", "max"]) F hm hb sc_law_nexts rfl (by decide +kernel) hB ?_
  rintro X ds M Q bod ⟨t, m, N, c, f, rfl, hat, tp, hN, hm1, hm2, hQ⟩
  have st := bod.st
  have rm := bod.room
  have hd := bod.tr h_law_draw
  show WSs X ([("_law_tape_here", some (.ref t)), ("_law_many_here", some (.int m)), ("_law_found", none), ("_law_led", none), ("_law_k", none), ("_law_way", none), ("_law_other", none), ("_law_some", none), ("_law_one", none)] : VEnv) M _ _
  refine wss_cons (ws_par st (by walk_at "mem") (by walk_at "mem") (bod.lk (by decide +kernel)) (bod.lk (by decide +kernel)) bod.kind (by decide) (by walk_at "put") (by walk_at "put") ?_)
  walk_at "a1"
  refine we_lstO ?_
  walk_at "run"
  intro pf
  walk_at "run"
  refine we_dnew fun pl => ?_
  walk_at "run"
  refine ⟨_, _, _, _, rfl, by walk_at "put", by walk_at "put", ?_⟩
  refine wss_cons (ws_for st (wi_range st (by walk_at "mem") ?_))
  walk_at "run"
  refine ⟨by omega, by omega, fun i Γ' M' => ∃ (nx : List Nd) (kvs : List (Key × D)) (c' : Cell) (o1 o2 o3 o4 : Option D), PreOk m i nx ∧ LedOk nx kvs ∧ Tape (N + 2 * i) c' ∧ Γ' = ([("_law_tape_here", some (.ref t)), ("_law_many_here", some (.int m)), ("_law_found", some (.ref pf)), ("_law_led", some (.ref pl)), ("_law_k", o1), ("_law_way", o2), ("_law_other", o3), ("_law_some", o4), ("_law_one", none)] : VEnv) ∧ M' = (pl, .dK kvs) :: (pf, .lst (nx.map fun e => nlD e.nx)) :: f c', ?_, ?_, ?_, ?_⟩
  · exact ⟨[], [], c, _, _, _, _, ⟨rfl, (fun _ h => by cases h), fun j a b => by omega⟩, ⟨by simp, fun n h => by cases h⟩, tp, rfl, by rw [hat.self]; rfl⟩
  · intros; trivial
  · rintro i x Γ' M' hx ⟨nx, kvs, c1, o1, o2, o3, o4, hp, hl, tp1, rfl, rfl⟩
    obtain ⟨hi, rfl⟩ := rngD_inv hx
    have hi : i < m := by simpa using hi
    refine wg_name st (by walk_at "mem") (by walk_at "put") ?_
    have at1 := hat.put c1
    walk_at "set"
    walk_at "run"
    refine ⟨_, _, _, _, _, rfl, by walk_at "at", tp1, by omega, by omega, by omega, fun way c2 w0 w1 tp2 => ?_⟩
    walk_at "put!"
    walk_at "set"
    walk_at "run"
    have hmx : (0 : Int) < (if (m : Int) - 1 > 1 then (m : Int) - 1 else 1) ∧ (if (m : Int) - 1 > 1 then (m : Int) - 1 else 1) ≤ 16 ∧ (1 < m → (if (m : Int) - 1 > 1 then (m : Int) - 1 else 1) ≤ m - 1) := by
      split <;> omega
    refine ⟨_, _, _, _, _, rfl, by walk_at "at", tp2, by omega, by omega, by omega, fun oth c3 u0 u1 tp3 => ?_⟩
    obtain ⟨k, rfl⟩ := Int.eq_ofNat_of_zero_le u0
    have hk : 1 < m → 1 + k < m := fun q => by have := hmx.2.2 q; omega
    walk_at "run"
    walk_at "set"
    walk_at "run"
    refine ⟨_, _, rfl, IxD.list isR_lst at2, ?_⟩
    walk_at "run"
    refine ws_mid (fun Γ' M' => ∃ e : Nd, e.Ok m ∧ (i + 1 < m → i + 1 ∈ e.nx ∨ ∃ (a : Nat) (e : Nd), nx[a]? = some e ∧ i + 1 ∈ e.nx) ∧ Γ' = ([("_law_tape_here", some (.ref t)), ("_law_many_here", some (.int m)), ("_law_found", some (.ref pf)), ("_law_led", some (.ref pl)), ("_law_k", some (.int (0 + i))), ("_law_way", some (.int way)), ("_law_other", some (.int (1 + k))), ("_law_some", some (nlD e.nx)), ("_law_one", none)] : VEnv) ∧ M' = (pl, .dK kvs) :: (pf, .lst (nx.map fun e => nlD e.nx)) :: f c3) (ws_if ?_) ?_
    · walk_at "run"
      refine ite_d (fun h1 => ?_) (fun h1 => ?_)
      · walk_at "set"
        walk_at "run"
        have fin1 : 1 < m → (Nd.go (1 + k)).Ok m := fun q => ⟨by omega, hk q⟩
        refine ite_d (fun h2 => ?_) (fun h2 => ?_)
        · walk_at "run"
          refine ite_d (fun h3 => ?_) (fun h3 => ?_)
          · walk_at "run"
            refine wss_nil ?_
            refine ⟨.go (1 + k), fin1 (by omega), fun q => by omega, ?_, rfl⟩
            rw [nl1 (t := 1 + k) (by omega)]; rfl
          · walk_at "run"
            refine wss_nil ?_
            exact ⟨.out, trivial, fun q => by omega, rfl, rfl⟩
        · walk_at "run"
          refine wss_nil ?_
          exact ⟨.out, trivial, fun q => by omega, rfl, rfl⟩
      · refine wss_one (ws_if ?_)
        walk_at "run"
        have hi1 : 1 < m := by omega
        have fin1 : (Nd.go (1 + k)).Ok m := ⟨by omega, hk hi1⟩
        have rest : ∀ E : DE, (∀ e : Nd, e.Ok m → (i + 1 < m → i + 1 ∈ e.nx ∨ ∃ (a : Nat) (e : Nd), nx[a]? = some e ∧ i + 1 ∈ e.nx) → E.nx ([("_law_tape_here", some (.ref t)), ("_law_many_here", some (.int m)), ("_law_found", some (.ref pf)), ("_law_led", some (.ref pl)), ("_law_k", some (.int (0 + i))), ("_law_way", some (.int way)), ("_law_other", some (.int (1 + k))), ("_law_some", some (nlD e.nx)), ("_law_one", none)] : VEnv) ((pl, .dK kvs) :: (pf, .lst (nx.map fun e => nlD e.nx)) :: f c3)) → (¬ ((valA kvs (.inl (0 + (i : Int) + 1))).isSome = true ∧ way < 3)) → WSs X ([("_law_tape_here", some (.ref t)), ("_law_many_here", some (.int m)), ("_law_found", some (.ref pf)), ("_law_led", some (.ref pl)), ("_law_k", some (.int (0 + i))), ("_law_way", some (.int way)), ("_law_other", some (.int (1 + k))), ("_law_some", some (if way % 2 = 0 then D.lst [D.int (0 + i + 1), D.int (1 + k)] else D.lst [D.int (1 + k), D.int (0 + i + 1)])), ("_law_one", none)] : VEnv) ((pl, .dK kvs) :: (pf, .lst (nx.map fun e => nlD e.nx)) :: f c3) ((match (defBody s_law_nexts).getD 1 (.Pass ⟨0, 0, 0, 0⟩) with | .For _ _ b _ _ => (match b.getD 3 (.Pass ⟨0, 0, 0, 0⟩) with | .If _ _ [.If _ _ e _] _ => e | _ => []) | _ => [])) E := fun E hE _ => by
          refine wss_one (ws_if ?_)
          have go1 : WSs X ([("_law_tape_here", some (.ref t)), ("_law_many_here", some (.int m)), ("_law_found", some (.ref pf)), ("_law_led", some (.ref pl)), ("_law_k", some (.int (0 + i))), ("_law_way", some (.int way)), ("_law_other", some (.int (1 + k))), ("_law_some", some (if way % 2 = 0 then D.lst [D.int (0 + i + 1), D.int (1 + k)] else D.lst [D.int (1 + k), D.int (0 + i + 1)])), ("_law_one", none)] : VEnv) ((pl, .dK kvs) :: (pf, .lst (nx.map fun e => nlD e.nx)) :: f c3) ((match (defBody s_law_nexts).getD 1 (.Pass ⟨0, 0, 0, 0⟩) with | .For _ _ b _ _ => (match b.getD 3 (.Pass ⟨0, 0, 0, 0⟩) with | .If _ _ [.If _ _ [.If _ e _ _] _] _ => e | _ => []) | _ => [])) E := by
            walk_at "set"
            walk_at "run"
            refine wss_nil ?_
            rw [nl1 (t := i + 1) (by omega)]
            exact hE (.go (i + 1)) ⟨by omega, by omega⟩ (fun _ => .inl (by simp [Nd.nx]))
          walk_at "run"
          refine ite_d (fun h2 => ?_) (fun h2 => ?_)
          · exact go1
          · walk_at "run"
            refine ite_d (fun h3 => ?_) (fun h3 => ?_)
            · exact go1
            · refine wss_nil ?_
              by_cases hw : way % 2 = 0
              · rw [if_pos hw]
                rw [nl2 (t := i + 1) (o := 1 + k) (by omega) (by omega)]
                exact hE (.fork (i + 1) (1 + k)) ⟨by omega, by omega, by omega, hk hi1, by omega⟩ (fun _ => .inl (by simp [Nd.nx]))
              · rw [if_neg hw]
                rw [nl2 (t := 1 + k) (o := i + 1) (by omega) (by omega)]
                exact hE (.fork (1 + k) (i + 1)) ⟨by omega, hk hi1, by omega, by omega, by omega⟩ (fun _ => .inl (by simp [Nd.nx]))
        refine ite_b (fun h2 => ?_) (fun h2 => ?_)
        · walk_at "run"
          refine ite_d (fun h3 => ?_) (fun h3 => ?_)
          · have hled := hl.led (i + 1) (by rw [show ((i + 1 : Nat) : Int) = 0 + (i : Int) + 1 by omega]; exact h2)
            walk_at "set"
            walk_at "run"
            refine ite_d (fun h4 => ?_) (fun h4 => ?_)
            · walk_at "run"
              refine wss_nil ?_
              refine ⟨.go (1 + k), fin1, fun q => .inr hled, ?_, rfl⟩
              rw [nl1 (t := 1 + k) (by omega)]; rfl
            · walk_at "run"
              refine wss_nil ?_
              exact ⟨.out, trivial, fun q => .inr hled, rfl, rfl⟩
          · exact rest _ (fun e q1 q2 => ⟨e, q1, q2, rfl, rfl⟩) (fun q => h3 q.2)
        · exact rest _ (fun e q1 q2 => ⟨e, q1, q2, rfl, rfl⟩) (fun q => by rw [h2] at q; cases q.1)
    · rintro Γ' M' ⟨e, he1, he2, rfl, rfl⟩
      have at2 := hat.put c3
      walk_at "expr"
      walk_at "run"
      refine md_append (by walk_at "at") ?_ ?_
      · exact szlt (by have := hp.len; rw [List.length_map]; omega)
      walk_at "expr"
      refine we_gc ?_
      walk_at "run"
      refine we_map e.nx natD (fun n => .tup [natD n, .bl true]) [("_law_one", 8)] ["_law_one"] [] [] bod (by decide +kernel) (by walk_at "mem") (.cons (.there (.there (.there (.there (.there (.there (.there (.there .here)))))))) .nil) ?_
      refine wi_list ?_
      walk_at "run"
      refine ⟨_, isR_lst, rfl, szl (by cases e <;> simp [Nd.nx]), fun _ _ => isR_lst, fun a ha => ⟨_, by walk_at "put", fun X1 inn L acc => ?_⟩, fun p => ?_⟩
      · have st1 := inn.st
        walk_at "run"
        exact ⟨rfl, rfl⟩
      · walk_at "run"
        refine md_update st (by walk_at "at") (ps := e.nx.map fun (n : Nat) => ((.inl (n : Int) : Key), D.bl true)) ?_ ?_ ?_
        · rw [List.map_map]
          exact isL_ref .here
        · have h1 := hl.len
          have h2 := hp.len
          have h3 : e.nx.length ≤ 2 := by cases e <;> simp [Nd.nx]
          rw [List.length_map]
          exact szl (by omega)
        · refine ⟨[_], _, .refl _, wss_nil ?_⟩
          refine ⟨nx ++ [e], _, c3, _, _, _, _, hp.step he1 he2, hl.step, tp3.mono (by omega), rfl, ?_⟩
          simp
  · rintro Γ' M' ⟨nx, kvs, c', o1, o2, o3, o4, hp, hl, tp', rfl, rfl⟩
    rw [rngD_length, Int.toNat_natCast] at hp tp'
    walk_at "ret"
    refine we_fin ?_
    walk_at "run"
    exact ⟨_, _, [_], _, rfl, .swap _ _ _, hQ _ _ (NxOk.of hp) tp'⟩
end
end Gen

namespace Gen
open PySem L2 DL Wk
abbrev s_law_number : Stmt := top 25
abbrev l_law_number : List Str := ["_law_tape_here"]
abbrev n_law_number : List Str := ["_law_tape_here"]
theorem sc_law_number : FnScope n_law_number ["_law_tape_here"] (defScope s_law_number) := ⟨rfl, rfl, rfl, by decide +kernel, rfl, by decide +kernel, by decide +kernel⟩
abbrev s_law_many : Stmt := top 28
abbrev l_law_many : List Str := ["_law_tape_here"]
abbrev n_law_many : List Str := ["_law_tape_here"]
theorem sc_law_many : FnScope n_law_many ["_law_tape_here"] (defScope s_law_many) := ⟨rfl, rfl, rfl, by decide +kernel, rfl, by decide +kernel, by decide +kernel⟩
section
variable {P : Program} {w : World} {K : PySem.W.Frag} {mg : Str → Option Value} {base : Heap}
abbrev sp_law_number : DSp := fun ds M Q => ∃ (t : Addr) (N : Nat) (c : Cell) (f : Cell → Mem), ds = [.ref t] ∧ At t M c f ∧ Tape N c ∧ N ≤ 500000000 ∧ ∀ n c', -1000000000000 ≤ n → n ≤ 1000000000000 → Tape (N + 3) c' → Q (.int n) (f c')
theorem ok_law_number {f : Addr} {fd : FuncData} (F : Fun K "_law_number" "_law_number" s_law_number f fd) (hm : mg "_law_number" = some (.ref f)) (hb : Binds K fd ["_law_tape_here"] []) (h_law_draw : Fs P w K mg base 1 "_law_draw" 2 sp_law_draw) : Fs P w K mg base 2 "_law_number" 1 sp_law_number := by
  refine fs_of (N := n_law_number) (Ln := l_law_number) (Bn := []) (Fn := ["_law_draw"]) (Bx := []) F hm hb sc_law_number rfl (by decide +kernel) (fun _ h => by cases h) ?_
  rintro X ds M Q bod ⟨t, N, c, f, rfl, hat, tp, hN, hQ⟩
  have st := bod.st
  have rm := bod.room
  have hd := bod.tr h_law_draw
  show WSs X ([("_law_tape_here", some (.ref t))] : VEnv) M _ _
  walk_at "ret"
  walk_at "run"
  refine od_pow (cm_pow (by omega) (by omega) (by omega) (by omega)) ?_
  walk_at "run"
  refine od_pow (cm_pow (by omega) (by omega) (by omega) (by omega)) ?_
  walk_at "run"
  walk_at "draw"
  intro r1 c1 a1 b1 tp1
  have at1 := hat.put c1
  walk_at "run"
  refine od_pow (cm_pow (by omega) (by omega) (by omega) (by omega)) ?_
  walk_at "run"
  refine ⟨_, _, _, _, _, rfl, by walk_at "at", tp1, by omega, by decide, by decide, ?_⟩
  intro r2 c2 a2 b2 tp2
  have at2 := hat.put c2
  walk_at "run"
  walk_at "draw"
  intro r3 c3 a3 b3 tp3
  obtain ⟨d, e1, e2⟩ := atI_mem (ds := [D.int 0, D.int 1, D.int (-1), D.int 7, D.int (10 ^ (12 : Int).toNat), D.int (0 - 10 ^ (12 : Int).toNat), D.int (r1 - 49), D.int r2]) a3 (by simpa using b3)
  refine ⟨_, d, rfl, IxD.list isR_lst e1, ?_⟩
  have hp : (10 : Int) ^ (12 : Int).toNat = 1000000000000 := by decide
  have hp6 : (10 : Int) ^ (6 : Int).toNat = 1000000 := by decide
  rw [hp6] at b2
  have : ∃ n : Int, d = .int n ∧ -1000000000000 ≤ n ∧ n ≤ 1000000000000 := by
    simp only [List.mem_cons, List.not_mem_nil, or_false, hp] at e2
    rcases e2 with rfl | rfl | rfl | rfl | rfl | rfl | rfl | rfl <;> exact ⟨_, rfl, by omega, by omega⟩
  obtain ⟨n, rfl, q1, q2⟩ := this
  exact hQ n c3 q1 q2 tp3
abbrev sp_law_many : DSp := fun ds M Q => ∃ (t : Addr) (N : Nat) (c : Cell) (f : Cell → Mem), ds = [.ref t] ∧ At t M c f ∧ Tape N c ∧ N ≤ 500000000 ∧ ∀ (n : Nat) c', 1 ≤ n → n ≤ 12 → Tape (N + 3) c' → Q (.int (n : Int)) (f c')
theorem ok_law_many {f : Addr} {fd : FuncData} (F : Fun K "_law_many" "_law_many" s_law_many f fd) (hm : mg "_law_many" = some (.ref f)) (hb : Binds K fd ["_law_tape_here"] []) (hB : ∀ x ∈ (["int"] : List Str), mg x = none) (h_law_draw : Fs P w K mg base 1 "_law_draw" 2 sp_law_draw) : Fs P w K mg base 2 "_law_many" 1 sp_law_many := by
  refine fs_of (N := n_law_many) (Ln := l_law_many) (Bn := ["int"]) (Fn := ["_law_draw"]) (Bx := ["int"]) F hm hb sc_law_many rfl (by decide +kernel) hB ?_
  rintro X ds M Q bod ⟨t, N, c, f, rfl, hat, tp, hN, hQ⟩
  have st := bod.st
  have rm := bod.room
  have hd := bod.tr h_law_draw
  show WSs X ([("_law_tape_here", some (.ref t))] : VEnv) M _ _
  walk_at "ret"
  walk_at "run"
  walk_at "draw"
  intro r1 c1 a1 b1 tp1
  have at1 := hat.put c1
  walk_at "run"
  walk_at "draw"
  intro r2 c2 a2 b2 tp2
  have at2 := hat.put c2
  walk_at "run"
  walk_at "draw"
  intro r3 c3 a3 b3 tp3
  walk_at "run"
  refine ⟨_, _, rfl, IxD.list isR_lst atI_two, ?_⟩
  obtain ⟨k1, rfl⟩ := Int.eq_ofNat_of_zero_le a1
  obtain ⟨k2, rfl⟩ := Int.eq_ofNat_of_zero_le a2
  split
  · have := hQ (7 + k2) c3 (by omega) (by omega) tp3
    rw [Int.natCast_add] at this
    exact this
  · have := hQ (1 + k1) c3 (by omega) (by omega) tp3
    rw [Int.natCast_add] at this
    exact this
end
end Gen

namespace Gen
open PySem L2 DL Wk
abbrev s_law_deeds : Stmt := top 26
abbrev l_law_deeds : List Str := ["_law_tape_here", "_law_most", "_law_boxes_here", "_law_first", "_law_works_here", "_law_found", "_law_turn", "_law_way", "_law_n", "_law_box", "_law_other", "_law_called"]
abbrev n_law_deeds : List Str := ["_law_tape_here", "_law_most", "_law_boxes_here", "_law_first", "_law_works_here", "_law_found", "_law_turn", "_law_way", "_law_n", "_law_box", "_law_other", "_law_called"]
theorem sc_law_deeds : FnScope n_law_deeds ["_law_tape_here", "_law_most", "_law_boxes_here", "_law_first", "_law_works_here"] (defScope s_law_deeds) := ⟨rfl, rfl, rfl, by decide +kernel, rfl, by decide +kernel, by decide +kernel⟩
section
variable {P : Program} {w : World} {K : PySem.W.Frag} {mg : Str → Option Value} {base : Heap}
/-- the plain part of a list of deeds -/
structure DdsOk (nw m : Nat) (dd : List Dd) : Prop where
  ok : ∀ d ∈ dd, d.Ok nw
  plain : ∀ d ∈ dd, d.plain = true
  len : dd.length ≤ m
theorem DdsOk.push {nw m : Nat} {dd : List Dd} {d : Dd} (h : DdsOk nw m dd) (h1 : d.Ok nw) (h2 : d.plain = true) : DdsOk nw (m + 1) (dd ++ [d]) := by
  refine ⟨fun x hx => ?_, fun x hx => ?_, by have := h.len; simp; omega⟩
  · rcases List.mem_append.mp hx with hx | hx
    · exact h.ok _ hx
    · rw [List.mem_singleton.mp hx]; exact h1
  · rcases List.mem_append.mp hx with hx | hx
    · exact h.plain _ hx
    · rw [List.mem_singleton.mp hx]; exact h2
abbrev sp_law_deeds : DSp := fun ds M Q => ∃ (t : Addr) (N : Nat) (c : Cell) (f : Cell → Mem) (most nw first : Nat) (bs : List Nat), ds = [.ref t, .int (most : Int), .lst (bs.map natD), .int (first : Int), .int (nw : Int)] ∧ At t M c f ∧ Tape N c ∧ N ≤ 100000000 ∧ most ≤ 12 ∧ (1 ≤ nw ∧ nw ≤ 100) ∧ (bs ≠ [] ∧ bs.length ≤ 8 ∧ ∀ b ∈ bs, b < 8) ∧
  ∀ dd c', DdsOk nw 12 dd → Tape (N + 110) c' → Q (.lst (dd.map Dd.d)) (f c')
theorem ok_law_deeds {f : Addr} {fd : FuncData} (F : Fun K "_law_deeds" "_law_deeds" s_law_deeds f fd) (hm : mg "_law_deeds" = some (.ref f)) (hb : Binds K fd ["_law_tape_here", "_law_most", "_law_boxes_here", "_law_first", "_law_works_here"] []) (hB : ∀ x ∈ (["range", "int", "len"] : List Str), mg x = none) (h_law_draw : Fs P w K mg base 1 "_law_draw" 2 sp_law_draw) (h_law_number : Fs P w K mg base 2 "_law_number" 1 sp_law_number) : Fs P w K mg base 3 "_law_deeds" 5 sp_law_deeds := by
  refine fs_of (N := n_law_deeds) (Ln := l_law_deeds) (Bn := ["range", "int", "len"]) (Fn := ["_law_draw", "_law_number"]) (Bx := ["range", "int", "len"]) F hm hb sc_law_deeds rfl (by decide +kernel) hB ?_
  rintro X ds M Q bod ⟨t, N, c, f, most, nw, first, bs, rfl, hat, tp, hN, hm, ⟨hw1, hw2⟩, ⟨hb0, hb1, hb2⟩, hQ⟩
  have st := bod.st
  have rm := bod.room
  have hd := bod.tr h_law_draw
  have hn := bod.tr h_law_number
  have hbl : 0 < bs.length := List.length_pos_iff.mpr hb0
  have box : ∀ r : Int, 0 ≤ r → r < ((bs.map natD).length : Int) → ∃ b : Nat, atI (bs.map natD) r = some (.int (b : Int)) ∧ b < 8 := fun r h0 h1 => by
    obtain ⟨d, e1, e2⟩ := atI_mem h0 h1
    obtain ⟨b, hb, rfl⟩ := List.mem_map.mp e2
    exact ⟨b, e1, hb2 b hb⟩
  show WSs X ([("_law_tape_here", some (.ref t)), ("_law_most", some (.int (most : Int))), ("_law_boxes_here", some (.lst (bs.map natD))), ("_law_first", some (.int (first : Int))), ("_law_works_here", some (.int (nw : Int))), ("_law_found", none), ("_law_turn", none), ("_law_way", none), ("_law_n", none), ("_law_box", none), ("_law_other", none), ("_law_called", none)] : VEnv) M _ _
  walk_at "set"
  refine we_lstO ?_
  walk_at "run"
  intro pf
  walk_at "run"
  refine wss_cons (ws_for st (wi_range st (by walk_at "mem") ?_))
  walk_at "run"
  walk_at "draw"
  intro r1 c1 a1 b1 tp1
  have at1 := hat.put c1
  walk_at "run"
  refine ⟨_, _, rfl, IxD.list isR_lst atI_two, ?_⟩
  have hcap : ∃ z : Nat, z ≤ 12 ∧ (if r1 = 0 then D.int 12 else D.int (most : Int)) = .int (z : Int) := by
    split
    · exact ⟨12, by omega, rfl⟩
    · exact ⟨most, hm, rfl⟩
  obtain ⟨z, hz, ez⟩ := hcap
  rw [ez]
  walk_at "run"
  walk_at "draw"
  intro cnt c2 a2 b2 tp2
  refine ⟨_, rfl, by omega, by omega, fun i Γ' M' => ∃ (dd : List Dd) (c' : Cell) (o1 o2 o3 o4 o5 o6 : Option D), DdsOk nw i dd ∧ i ≤ 12 ∧ Tape (N + 2 + 9 * i) c' ∧ Γ' = ([("_law_tape_here", some (.ref t)), ("_law_most", some (.int (most : Int))), ("_law_boxes_here", some (.lst (bs.map natD))), ("_law_first", some (.int (first : Int))), ("_law_works_here", some (.int (nw : Int))), ("_law_found", some (.ref pf)), ("_law_turn", o1), ("_law_way", o2), ("_law_n", o3), ("_law_box", o4), ("_law_other", o5), ("_law_called", o6)] : VEnv) ∧ M' = (pf, .lst (dd.map Dd.d)) :: f c', ?_, ?_, ?_, ?_⟩
  · exact ⟨[], c2, _, _, _, _, _, _, ⟨by simp, by simp, by simp⟩, by omega, tp2, rfl, rfl⟩
  · intros; trivial
  · rintro i x Γ' M' hx ⟨dd, c3, o1, o2, o3, o4, o5, o6, hdd, hi12, tp3, rfl, rfl⟩
    obtain ⟨hi, rfl⟩ := rngD_inv hx
    have hi : i < 12 := by omega
    refine wg_name st (by walk_at "mem") (by walk_at "put") ?_
    have at3 := hat.put c3
    refine wss_cons (ws_par st (by walk_at "mem") (by walk_at "mem") (bod.lk (by decide +kernel)) (bod.lk (by decide +kernel)) bod.kind (by decide) (by walk_at "put") (by walk_at "put") ?_)
    walk_at "run"
    walk_at "draw"
    intro way c4 a4 b4 tp4
    have at4 := hat.put c4
    walk_at "run"
    refine ⟨_, _, _, _, rfl, by walk_at "at", tp4, by omega, ?_⟩
    intro n c5 a5 b5 tp5
    have at5 := hat.put c5
    walk_at "run"
    refine ⟨_, _, _, _, rfl, by walk_at "put", by walk_at "put", ?_⟩
    walk_at "set"
    walk_at "run"
    refine ⟨_, _, _, _, _, rfl, by walk_at "at", tp5, by omega, by simp; omega, by simp; omega, ?_⟩
    intro r6 c6 a6 b6 tp6
    have at6 := hat.put c6
    obtain ⟨b, eb, hb⟩ := box r6 a6 b6
    refine ⟨_, _, rfl, IxD.list isR_lst eb, ?_⟩
    walk_at "run"
    walk_at "set"
    walk_at "run"
    refine ⟨_, _, _, _, _, rfl, by walk_at "at", tp6, by omega, by simp; omega, by simp; omega, ?_⟩
    intro r7 c7 a7 b7 tp7
    have at7 := hat.put c7
    obtain ⟨o, eo, ho⟩ := box r7 a7 b7
    refine ⟨_, _, rfl, IxD.list isR_lst eo, ?_⟩
    walk_at "run"
    walk_at "set"
    walk_at "run"
    walk_at "draw"
    intro r8 c8 a8 b8 tp8
    have at8 := hat.put c8
    walk_at "run"
    walk_at "draw"
    intro r9 c9 a9 b9 tp9
    have at9 := hat.put c9
    walk_at "run"
    walk_at "draw"
    intro r10 c10 a10 b10 tp10
    have at10 := hat.put c10
    walk_at "run"
    refine ⟨_, _, rfl, IxD.list isR_lst atI_two, ?_⟩
    have hcall : ∃ z : Nat, (if r10 = 0 then D.int r9 else D.int ((first : Int) + 1 + r8)) = .int (z : Int) := by
      obtain ⟨k8, rfl⟩ := Int.eq_ofNat_of_zero_le a8
      obtain ⟨k9, rfl⟩ := Int.eq_ofNat_of_zero_le a9
      split
      · exact ⟨k9, rfl⟩
      · exact ⟨first + 1 + k8, by simp⟩
    obtain ⟨cz, ecz⟩ := hcall
    rw [ecz]
    walk_at "run"
    refine wss_one (ws_if ?_)
    have push : ∀ d : Dd, d.Ok nw → d.plain = true → ∃ (dd2 : List Dd) (c' : Cell) (o1 o2 o3 o4 o5 o6 : Option D), DdsOk nw (i + 1) dd2 ∧ i + 1 ≤ 12 ∧ Tape (N + 2 + 9 * (i + 1)) c' ∧ ([("_law_tape_here", some (.ref t)), ("_law_most", some (.int (most : Int))), ("_law_boxes_here", some (.lst (bs.map natD))), ("_law_first", some (.int (first : Int))), ("_law_works_here", some (.int (nw : Int))), ("_law_found", some (.ref pf)), ("_law_turn", some (.int (0 + i))), ("_law_way", some (.int way)), ("_law_n", some (.int n)), ("_law_box", some (.int (b : Int))), ("_law_other", some (.int (o : Int))), ("_law_called", some (.int (cz : Int)))] : VEnv) = ([("_law_tape_here", some (.ref t)), ("_law_most", some (.int (most : Int))), ("_law_boxes_here", some (.lst (bs.map natD))), ("_law_first", some (.int (first : Int))), ("_law_works_here", some (.int (nw : Int))), ("_law_found", some (.ref pf)), ("_law_turn", o1), ("_law_way", o2), ("_law_n", o3), ("_law_box", o4), ("_law_other", o5), ("_law_called", o6)] : VEnv) ∧ (pf, Cell.lst (List.map Dd.d (dd ++ [d]))) :: f c10 = (pf, .lst (dd2.map Dd.d)) :: f c' := fun d h1 h2 =>
      ⟨dd ++ [d], c10, _, _, _, _, _, _, hdd.push h1 h2, by omega, tp10.mono (by omega), rfl, rfl⟩
    have els : ∀ E : DE, E.nx = (fun Γ' M' => ∃ (dd : List Dd) (c' : Cell) (o1 o2 o3 o4 o5 o6 : Option D), DdsOk nw (i + 1) dd ∧ i + 1 ≤ 12 ∧ Tape (N + 2 + 9 * (i + 1)) c' ∧ Γ' = ([("_law_tape_here", some (.ref t)), ("_law_most", some (.int (most : Int))), ("_law_boxes_here", some (.lst (bs.map natD))), ("_law_first", some (.int (first : Int))), ("_law_works_here", some (.int (nw : Int))), ("_law_found", some (.ref pf)), ("_law_turn", o1), ("_law_way", o2), ("_law_n", o3), ("_law_box", o4), ("_law_other", o5), ("_law_called", o6)] : VEnv) ∧ M' = (pf, .lst (dd.map Dd.d)) :: f c') →
      WSs X ([("_law_tape_here", some (.ref t)), ("_law_most", some (.int (most : Int))), ("_law_boxes_here", some (.lst (bs.map natD))), ("_law_first", some (.int (first : Int))), ("_law_works_here", some (.int (nw : Int))), ("_law_found", some (.ref pf)), ("_law_turn", some (.int (0 + i))), ("_law_way", some (.int way)), ("_law_n", some (.int n)), ("_law_box", some (.int (b : Int))), ("_law_other", some (.int (o : Int))), ("_law_called", some (.int (cz : Int)))] : VEnv) ((pf, .lst (dd.map Dd.d)) :: f c10) (match (defBody s_law_deeds).getD 1 (.Pass ⟨0, 0, 0, 0⟩) with | .For _ _ b _ _ => (match b.getD 4 (.Pass ⟨0, 0, 0, 0⟩) with | .If _ _ e _ => e | _ => []) | _ => []) E := fun E hE => by
      walk_at "expr"
      walk_at "run"
      have hw3 : atI [D.tup [D.str "set", D.int (b : Int), D.int n], D.tup [D.str "add", D.int (b : Int), D.int (o : Int)], D.tup [D.str "tell", D.int (b : Int)]] (way % 3) = some (if way % 3 = 0 then (Dd.set b n).d else if way % 3 = 1 then (Dd.add b o).d else (Dd.tell b).d) := by
        rcases (by omega : way % 3 = 0 ∨ way % 3 = 1 ∨ way % 3 = 2) with h | h | h <;> rw [h] <;> simp [atI, ixN, Dd.d]
      refine ⟨_, _, rfl, IxD.list isR_lst hw3, ?_⟩
      walk_at "run"
      refine md_append (by walk_at "at") ?_ ?_
      · exact szlt (by have := hdd.len; rw [List.length_map]; omega)
      refine wss_nil ?_
      rw [hE]
      have e3 : ∃ d : Dd, d.Ok nw ∧ d.plain = true ∧ (if way % 3 = 0 then (Dd.set b n).d else if way % 3 = 1 then (Dd.add b o).d else (Dd.tell b).d) = d.d := by
        split
        · exact ⟨Dd.set b n, ⟨hb, a5, b5⟩, rfl, rfl⟩
        · split
          · exact ⟨Dd.add b o, ⟨hb, ho⟩, rfl, rfl⟩
          · exact ⟨Dd.tell b, hb, rfl, rfl⟩
      obtain ⟨d, d1, d2, d3⟩ := e3
      rw [d3]
      have := push d d1 d2
      rw [List.map_append] at this
      exact this
    walk_at "run"
    refine ite_d (fun h1 => ?_) (fun h1 => ?_)
    · walk_at "run"
      refine ite_d (fun h2 => ?_) (fun h2 => ?_)
      · walk_at "expr"
        walk_at "run"
        refine md_append (by walk_at "at") ?_ ?_
        · exact szlt (by have := hdd.len; rw [List.length_map]; omega)
        refine wss_nil ?_
        have := push (.call cz) (show cz < nw by omega) rfl
        rw [List.map_append] at this
        exact this
      · exact els _ rfl
    · exact els _ rfl
  · rintro Γ' M' ⟨dd, c', o1, o2, o3, o4, o5, o6, hdd, hi12, tp', rfl, rfl⟩
    rw [rngD_length] at hdd hi12 tp'
    walk_at "ret"
    refine we_fin ?_
    walk_at "run"
    exact ⟨_, _, [], _, rfl, .refl _, hQ _ _ ⟨hdd.ok, hdd.plain, by have := hdd.len; omega⟩ (tp'.mono (by omega))⟩
end
end Gen

namespace Gen
open PySem L2 DL Wk
abbrev s_law_work : Stmt := top 27
abbrev l_law_work : List Str := ["_law_tape_here", "_law_many_here", "_law_most", "_law_first", "_law_works_here", "_law_left", "_law_size_here", "_law_boxes_here", "_law_found", "_law_there", "_law_end"]
abbrev n_law_work : List Str := ["_law_tape_here", "_law_many_here", "_law_most", "_law_first", "_law_works_here", "_law_left", "_law_size_here", "_law_boxes_here", "_law_found", "_law_there", "_law_end", "_law_k"]
theorem sc_law_work : FnScope n_law_work ["_law_tape_here", "_law_many_here", "_law_most", "_law_first", "_law_works_here"] (defScope s_law_work) := ⟨rfl, rfl, rfl, by decide +kernel, rfl, by decide +kernel, by decide +kernel⟩
section
variable {P : Program} {w : World} {K : PySem.W.Frag} {mg : Str → Option Value} {base : Heap}
/-- a work whose ends are drawn, with its deeds -/
structure GotOk (nw : Nat) (w : W) : Prop where
  dd : ∀ b ∈ w, DdsOk nw 12 b.1
theorem Ok.of_got {nw m : Nat} {w : W} {nx : List Nd} (h : GotOk nw w) (hm : 1 ≤ m) (hm2 : m ≤ 16) (hx : NxOk m nx) (e : w.map (·.2) = nx) : Ok nw w ∧ Plain w ∧ w.length = m := by
  have hl : w.length = m := by have := hx.len; rw [← e, List.length_map] at this; exact this
  refine ⟨⟨by omega, by omega, fun b hb => (h.dd b hb).ok, fun b hb => Nat.le_trans (h.dd b hb).len (by omega), fun b hb => ?_, fun j h1 h2 => ?_⟩, fun b hb => ⟨(h.dd b hb).plain, (h.dd b hb).len⟩, hl⟩
  · rw [hl]
    exact hx.ok _ (by rw [← e]; exact List.mem_map.mpr ⟨b, hb, rfl⟩)
  · obtain ⟨i, e', q1, q2, q3⟩ := hx.led j h1 (by omega)
    rw [← e, List.getElem?_map] at q2
    obtain ⟨b, hb, rfl⟩ := Option.map_eq_some_iff.mp q2
    exact ⟨i, b, q1, hb, q3⟩
abbrev sp_law_work : DSp := fun ds M Q => ∃ (t : Addr) (N : Nat) (c : Cell) (f : Cell → Mem) (m most first nw : Nat), ds = [.ref t, .int (m : Int), .int (most : Int), .int (first : Int), .int (nw : Int)] ∧ At t M c f ∧ Tape N c ∧ N ≤ 50000000 ∧ (1 ≤ m ∧ m ≤ 16) ∧ most ≤ 12 ∧ (1 ≤ nw ∧ nw ≤ 100) ∧
  ∀ w c' p, Ok nw w → Plain w → w.length = m → Tape (N + 2000) c' → Q (.ref p) ((p, .lst (w.map Bk.d)) :: f c')
theorem ok_law_work {f : Addr} {fd : FuncData} (F : Fun K "_law_work" "_law_work" s_law_work f fd) (hm : mg "_law_work" = some (.ref f)) (hb : Binds K fd ["_law_tape_here", "_law_many_here", "_law_most", "_law_first", "_law_works_here"] []) (hB : ∀ x ∈ (["list", "range", "len"] : List Str), mg x = none) (h_law_draw : Fs P w K mg base 1 "_law_draw" 2 sp_law_draw) (h_law_nexts : Fs P w K mg base 2 "_law_nexts" 2 sp_law_nexts) (h_law_deeds : Fs P w K mg base 3 "_law_deeds" 5 sp_law_deeds) : Fs P w K mg base 4 "_law_work" 5 sp_law_work := by
  refine fs_of (N := n_law_work) (Ln := l_law_work) (Bn := ["list", "range", "len"]) (Fn := ["_law_draw", "_law_nexts", "_law_deeds"]) (Bx := ["list", "range", "len"]) F hm hb sc_law_work rfl (by decide +kernel) hB ?_
  rintro X ds M Q bod ⟨t, N, c, f, m, most, first, nw, rfl, hat, tp, hN, ⟨hm1, hm2⟩, hmo, ⟨hw1, hw2⟩, hQ⟩
  have st := bod.st
  have rm := bod.room
  have hd := bod.tr h_law_draw
  have hn := bod.tr h_law_nexts
  have he := bod.tr h_law_deeds
  show WSs X ([("_law_tape_here", some (.ref t)), ("_law_many_here", some (.int (m : Int))), ("_law_most", some (.int (most : Int))), ("_law_first", some (.int (first : Int))), ("_law_works_here", some (.int (nw : Int))), ("_law_left", none), ("_law_size_here", none), ("_law_boxes_here", none), ("_law_found", none), ("_law_there", none), ("_law_end", none), ("_law_k", none)] : VEnv) M _ _
  walk_at "set"
  refine we_listRngO st (by walk_at "mem") (by walk_at "mem") ?_ (by walk_at "unf")
  walk_at "run"
  refine ⟨by omega, by omega, fun pl => ?_⟩
  walk_at "run"
  walk_at "set"
  walk_at "run"
  walk_at "draw"
  intro r1 c1 a1 b1 tp1
  have at1 := hat.put c1
  have hcap : ∃ z : Nat, 1 ≤ z ∧ z ≤ 8 ∧ atI [D.int 3, D.int 3, D.int 8] r1 = some (.int (z : Int)) := by
    rcases (by omega : r1 = 0 ∨ r1 = 1 ∨ r1 = 2) with h | h | h <;> subst h
    · exact ⟨3, by omega, by omega, rfl⟩
    · exact ⟨3, by omega, by omega, rfl⟩
    · exact ⟨8, by omega, by omega, rfl⟩
  obtain ⟨z, hz1, hz2, ez⟩ := hcap
  refine ⟨_, _, rfl, IxD.list isR_lst ez, ?_⟩
  walk_at "run"
  walk_at "draw"
  intro r2 c2 a2 b2 tp2
  have at2 := hat.put c2
  obtain ⟨sz, rfl⟩ := Int.eq_ofNat_of_zero_le a2
  walk_at "run"
  refine wss_cons (ws_setSt (j := 7) [("_law_k", 11)] ["_law_k", "_law_left", "_law_tape_here"] ["len"] ["_law_draw"] bod (by decide +kernel) (by walk_at "mem") (by walk_at "wiped") (by walk_at "mem") (by decide +kernel) rfl (by decide +kernel) ?_)
  refine wi_range st (by walk_at "mem") ?_
  walk_at "run"
  refine ⟨by omega, by omega, fun i acc M' => ∃ (bs rest : List Nat) (c' : Cell), bs.length = i ∧ bs.length + rest.length = 8 ∧ (∀ b ∈ bs, b < 8) ∧ (∀ b ∈ rest, b < 8) ∧ acc = bs.map natD ∧ Tape (N + 2 + i) c' ∧ M' = (pl, .lst (rest.map natD)) :: f c', ?_, ?_, ?_, ?_⟩
  · exact ⟨[], [0, 1, 2, 3, 4, 5, 6, 7], c2, rfl, rfl, by simp, by simp, rfl, tp2, rfl⟩
  · intros; trivial
  · rintro i d acc M' hx ⟨bs, rest, c', hbl, hbr, hb1, hb2, rfl, tp', rfl⟩
    obtain ⟨hi, rfl⟩ := rngD_inv hx
    have hi : i < 1 + sz := by omega
    have at3 := hat.put c'
    refine ⟨szlt (by rw [List.length_map]; omega), _, by walk_at "put", fun X1 inn L => ?_⟩
    have st1 := inn.st
    have hd1 := inn.tr hd
    have rm1 := inn.rm rm
    walk_at "run"
    refine ⟨_, _, _, _, _, rfl, by walk_at "at", tp', by omega, by simp; omega, by simp; omega, ?_⟩
    intro r3 c3 a3 b3 tp3
    have at4 := hat.put c3
    walk_at "run"
    obtain ⟨k3, rfl⟩ := Int.eq_ofNat_of_zero_le a3
    have hk3 : k3 < rest.length := by simpa using b3
    refine md_popAt (by walk_at "at") (by omega) (by omega) (d := natD rest[k3]) (by simp [hk3]) ?_
    refine ⟨_, rfl, bs ++ [rest[k3]], rest.eraseIdx k3, c3, by simp [hbl], ?_, ?_, ?_, ?_, tp3, ?_⟩
    · have := List.length_eraseIdx_of_lt hk3
      simp
      omega
    · intro b hb
      rcases List.mem_append.mp hb with hb | hb
      · exact hb1 b hb
      · rw [List.mem_singleton.mp hb]; exact hb2 _ (List.getElem_mem hk3)
    · exact fun b hb => hb2 b (List.mem_of_mem_eraseIdx hb)
    · simp
    · rw [Int.toNat_natCast, map_erase]
  · rintro acc M' ⟨bs, rest, c', hbl, hbr, hb1, hb2, rfl, tp', rfl⟩ pb
    rw [rngD_length] at hbl tp'
    have at3 := hat.put c'
    walk_at "put!"
    refine wss_frz (by walk_at "look") (by walk_at "put") st (by walk_at "mem") ?_
    walk_at "set"
    refine we_lstO ?_
    walk_at "run"
    intro pf
    walk_at "run"
    refine wss_cons (ws_for st (wi_list ?_))
    walk_at "run"
    refine ⟨_, _, _, _, _, rfl, by walk_at "at", tp', by omega, hm1, hm2, ?_⟩
    intro nx c4 hnx tp4
    refine ⟨_, isR_lst, fun i Γ' M' => ∃ (w : W) (c' : Cell) (o1 o2 : Option D), GotOk nw w ∧ w.map (·.2) = nx.take i ∧ Tape (N + 50 + 110 * i) c' ∧ Γ' = ([("_law_tape_here", some (.ref t)), ("_law_many_here", some (.int (m : Int))), ("_law_most", some (.int (most : Int))), ("_law_first", some (.int (first : Int))), ("_law_works_here", some (.int (nw : Int))), ("_law_left", some (.ref pl)), ("_law_size_here", some (.int (1 + (sz : Int)))), ("_law_boxes_here", some (.lst (bs.map natD))), ("_law_found", some (.ref pf)), ("_law_there", o1), ("_law_end", o2), ("_law_k", none)] : VEnv) ∧ M' = (pf, .lst (w.map Bk.d)) :: (pl, .lst (rest.map natD)) :: f c', ?_, ?_, ?_, ?_⟩
    · exact ⟨[], c4, _, _, ⟨by simp⟩, by simp, tp4.mono (by omega), rfl, rfl⟩
    · exact fun _ _ _ _ => isR_lst
    · rintro i x Γ' M' hx ⟨w, c5, o1, o2, hgot, hends, tp5, rfl, rfl⟩
      rw [List.getElem?_map] at hx
      obtain ⟨e, he1, rfl⟩ := Option.map_eq_some_iff.mp hx
      have hi : i < nx.length := (List.getElem?_eq_some_iff.mp he1).1
      have hnl := hnx.len
      have hwl : w.length = i := by have := congrArg List.length hends; simp at this; omega
      refine wg_name st (by walk_at "mem") (by walk_at "put") ?_
      have at5 := hat.put c5
      refine ws_mid (fun Γ' M' => Γ' = ([("_law_tape_here", some (.ref t)), ("_law_many_here", some (.int (m : Int))), ("_law_most", some (.int (most : Int))), ("_law_first", some (.int (first : Int))), ("_law_works_here", some (.int (nw : Int))), ("_law_left", some (.ref pl)), ("_law_size_here", some (.int (1 + (sz : Int)))), ("_law_boxes_here", some (.lst (bs.map natD))), ("_law_found", some (.ref pf)), ("_law_there", some (nlD e.nx)), ("_law_end", some e.d), ("_law_k", none)] : VEnv) ∧ M' = (pf, .lst (w.map Bk.d)) :: (pl, .lst (rest.map natD)) :: f c5) (ws_set st (by walk_at "mem") ?_ (by walk_at "unf")) ?_
      · walk_at "run"
        refine od_eqNL (b := []) st ?_
        walk_at "run"
        refine ite_d (fun h => ?_) (fun h => ?_)
        · have he0 : e = .out := by cases e <;> first | rfl | cases h
          subst he0
          walk_at "run"
          exact ⟨rfl, rfl⟩
        · refine we_if ?_
          walk_at "run"
          refine ite_d (fun h1 => ?_) (fun h1 => ?_)
          · have he1 : ∃ a, e = .go a := by
              cases e with
              | out => exact absurd rfl h
              | go a => exact ⟨a, rfl⟩
              | fork a b => simp [Nd.nx, natD] at h1
            obtain ⟨a, rfl⟩ := he1
            walk_at "run"
            exact ⟨rfl, rfl⟩
          · have he1 : ∃ a b, e = .fork a b := by
              cases e with
              | out => exact absurd rfl h
              | go a => simp [Nd.nx, natD] at h1
              | fork a b => exact ⟨a, b, rfl⟩
            obtain ⟨a, b, rfl⟩ := he1
            walk_at "run"
            exact ⟨rfl, rfl⟩
      · rintro Γ' M' ⟨rfl, rfl⟩
        walk_at "expr"
        walk_at "run"
        refine ⟨_, _, _, _, most, nw, first, bs, rfl, by walk_at "at", tp5, by omega, hmo, ⟨hw1, hw2⟩, ⟨by intro h; subst h; simp at hbl; omega, by omega, hb1⟩, ?_⟩
        intro dd c6 hdd tp6
        walk_at "run"
        refine md_append (by walk_at "at") ?_ ?_
        · exact szlt (by rw [List.length_map]; omega)
        refine wss_nil ?_
        refine ⟨w ++ [(dd, e)], c6, _, _, ⟨fun b hb => ?_⟩, ?_, tp6.mono (by omega), rfl, ?_⟩
        · rcases List.mem_append.mp hb with hb | hb
          · exact hgot.dd b hb
          · rw [List.mem_singleton.mp hb]; exact hdd
        · rw [List.map_append, hends, List.take_add_one, he1]; rfl
        · rw [List.map_append]; rfl
    · rintro Γ' M' ⟨w, c5, o1, o2, hgot, hends, tp5, rfl, rfl⟩
      rw [List.length_map, List.take_length] at hends
      rw [List.length_map, hnx.len] at tp5
      obtain ⟨q1, q2, q3⟩ := Ok.of_got hgot hm1 hm2 hnx hends
      walk_at "ret"
      refine we_finO ?_
      walk_at "run"
      exact ⟨_, _, [_], _, rfl, .swap _ _ _, hQ _ _ _ q1 q2 q3 (tp5.mono (by omega))⟩
end
end Gen

namespace Gen
open PySem L2 DL Wk
abbrev s_law_size : Stmt := top 29
abbrev l_law_size : List Str := ["_law_works_here"]
abbrev n_law_size : List Str := ["_law_works_here", "_law_work_here", "_law_deeds_here", "_law_end"]
theorem sc_law_size : FnScope n_law_size ["_law_works_here"] (defScope s_law_size) := ⟨rfl, rfl, rfl, by decide +kernel, rfl, by decide +kernel, by decide +kernel⟩
abbrev s_law_slim : Stmt := top 30
abbrev l_law_slim : List Str := ["_law_works_here"]
abbrev n_law_slim : List Str := ["_law_works_here", "_law_work_here", "_law_deeds_here", "_law_end"]
theorem sc_law_slim : FnScope n_law_slim ["_law_works_here"] (defScope s_law_slim) := ⟨rfl, rfl, rfl, by decide +kernel, rfl, by decide +kernel, by decide +kernel⟩
section
variable {P : Program} {w : World} {K : PySem.W.Frag} {mg : Str → Option Value} {base : Heap}
abbrev sp_law_size : DSp := fun ds M Q => ∃ ws : List W, ds = [Ws.d ws] ∧ WsOk ws ∧ ∀ n : Nat, Q (.int (n : Int)) M
theorem ok_law_size {f : Addr} {fd : FuncData} (F : Fun K "_law_size" "_law_size" s_law_size f fd) (hm : mg "_law_size" = some (.ref f)) (hb : Binds K fd ["_law_works_here"] []) (hB : ∀ x ∈ (["sum", "len"] : List Str), mg x = none) : Fs P w K mg base 1 "_law_size" 1 sp_law_size := by
  refine fs_of (N := n_law_size) (Ln := l_law_size) (Bn := ["sum"]) (Fn := []) (Bx := ["sum", "len"]) F hm hb sc_law_size rfl (by decide +kernel) hB ?_
  rintro X ds M Q bod ⟨ws, rfl, hok, hQ⟩
  have st := bod.st
  have hl := hok.len
  show WSs X ([("_law_works_here", some (.lst (ws.map W.d))), ("_law_work_here", none), ("_law_deeds_here", none), ("_law_end", none)] : VEnv) M _ _
  walk_at "ret"
  walk_at "run"
  refine we_frz ?_
  refine we_map ws W.d (fun w => .int ((w.map fun b => ((b.1.map Dd.d).length : Int)).sum)) [("_law_work_here", 1)] ["_law_work_here"] ["sum"] [] bod (by decide +kernel) (by walk_at "mem") (by walk_at "wiped") ?_
  refine wi_list ?_
  walk_at "run"
  refine ⟨_, isR_lst, rfl, szl (by omega), fun _ _ => isR_lst, fun a ha => ⟨_, by walk_at "put", fun X1 inn L acc => ?_⟩, fun p => ⟨_, _, _, rfl, rfl, ?_⟩⟩
  · have st1 := inn.st
    have h16 := (hok.ok a ha).len
    walk_at "run"
    refine we_frz ?_
    refine we_mapT2B a (fun b => .lst (b.1.map Dd.d)) (fun b => b.2.d) (fun b => .int ((b.1.map Dd.d).length : Int)) st1 (blk_in (own2 := [("_law_deeds_here", 2), ("_law_end", 3)]) (Vb := ["_law_deeds_here", "_law_end"]) (Bb := ["len"]) (Fb := []) bod inn (by decide +kernel)) (by walk_at "mem") (by walk_at "mem") (by walk_at "wiped") ?_
    refine wi_list ?_
    walk_at "run"
    refine ⟨_, isR_lst, rfl, szl (by omega), fun _ _ => isR_lst, fun b hb => ⟨_, _, by walk_at "put", by walk_at "put", fun X2 inn2 L2 acc2 => ?_⟩, fun p => ⟨_, _, _, rfl, rfl, ?_⟩⟩
    · have st2 := inn2.st
      walk_at "run"
      exact ⟨rfl, rfl⟩
    refine wa_nil ?_
    refine cd_sum st1 (ns := a.map fun b => ((b.1.map Dd.d).length : Int)) (by rw [List.map_map]; exact isR_lst) ?_
    exact ⟨rfl, rfl⟩
  refine wa_nil ?_
  refine cd_sum st (ns := ws.map fun w => (w.map fun b => ((b.1.map Dd.d).length : Int)).sum) (by rw [List.map_map]; exact isR_lst) ?_
  have nn : ∀ l : List Int, (∀ x ∈ l, 0 ≤ x) → 0 ≤ l.sum := fun l => by
    induction l with
    | nil => simp
    | cons x l ih =>
      intro h
      rw [List.sum_cons]
      have h1 := h x List.mem_cons_self
      have h2 := ih fun y hy => h y (List.mem_cons_of_mem _ hy)
      omega
  have h0 : 0 ≤ (ws.map fun w => (w.map fun b => ((b.1.map Dd.d).length : Int)).sum).sum := nn _ fun x hx => by
    obtain ⟨a, _, rfl⟩ := List.mem_map.mp hx
    refine nn _ fun y hy => ?_
    obtain ⟨c, _, rfl⟩ := List.mem_map.mp hy
    omega
  obtain ⟨z, hz⟩ := Int.eq_ofNat_of_zero_le h0
  rw [hz]
  exact hQ z
/-- two deeds a block -/
def slimW (w : W) : W := w.map fun b => (b.1.take 2, b.2)
theorem slim_ok {nw : Nat} {w : W} (h : Ok nw w) (hp : Plain w) : Ok nw (slimW w) ∧ Plain (slimW w) := by
  refine ⟨h.same (by unfold slimW; rw [List.map_map]; rfl) fun b hb => ?_, fun b hb => ?_⟩
  · obtain ⟨c, hc, rfl⟩ := List.mem_map.mp hb
    exact ⟨fun d hd => h.dd c hc d (List.mem_of_mem_take hd), by show (c.1.take 2).length ≤ 24; rw [List.length_take]; omega⟩
  · obtain ⟨c, hc, rfl⟩ := List.mem_map.mp hb
    exact ⟨fun d hd => (hp c hc).1 d (List.mem_of_mem_take hd), by show (c.1.take 2).length ≤ 12; rw [List.length_take]; omega⟩
abbrev sp_law_slim : DSp := fun ds M Q => ∃ ws : List W, ds = [Ws.d ws] ∧ WsOk ws ∧ (∀ w ∈ ws, Plain w) ∧ ∀ ws', WsOk ws' → (∀ w ∈ ws', Plain w) → Q (.lst (ws'.map W.d)) M
theorem ok_law_slim {f : Addr} {fd : FuncData} (F : Fun K "_law_slim" "_law_slim" s_law_slim f fd) (hm : mg "_law_slim" = some (.ref f)) (hb : Binds K fd ["_law_works_here"] []) (h_law_size : Fs P w K mg base 1 "_law_size" 1 sp_law_size) : Fs P w K mg base 2 "_law_slim" 1 sp_law_slim := by
  refine fs_of (N := n_law_slim) (Ln := l_law_slim) (Bn := []) (Fn := ["_law_size"]) (Bx := []) F hm hb sc_law_slim rfl (by decide +kernel) (fun _ h => by cases h) ?_
  rintro X ds M Q bod ⟨ws, rfl, hok, hpl, hQ⟩
  have st := bod.st
  have rm := bod.room
  have h1 := bod.tr h_law_size
  have hl := hok.len
  have hl1 := hok.pos
  show WSs X ([("_law_works_here", some (.lst (ws.map W.d))), ("_law_work_here", none), ("_law_deeds_here", none), ("_law_end", none)] : VEnv) M _ _
  walk_at "if"
  walk_at "run"
  refine ⟨ws, rfl, hok, fun n => ?_⟩
  walk_at "run"
  refine ite_d (fun h => ?_) (fun h => ?_)
  · walk_at "ret"
    walk_at "run"
    exact hQ ws hok hpl
  · refine wss_nil ?_
    walk_at "ret"
    walk_at "run"
    refine ⟨_, .inl ⟨_, isR_lst, rfl⟩, ?_⟩
    walk_at "run"
    refine we_frz ?_
    refine we_map (ws.drop 1) W.d (fun w => (slimW w).d) [("_law_work_here", 1)] ["_law_work_here"] [] [] bod (by decide +kernel) (by walk_at "mem") (by walk_at "wiped") ?_
    refine wi_list ?_
    walk_at "run"
    refine ⟨_, .inl ⟨_, isR_lst, rfl⟩, ?_⟩
    have cf : ∀ l : List D, cutD l (some (1 : Int)) none = l.drop 1 := fun l => cutD_from l 1
    have ct : ∀ l : List D, cutD l none (some (1 : Int)) = l.take 1 := fun l => cutD_to l 1
    rw [cf, ct, ← List.map_drop, ← List.map_take]
    refine ⟨_, isR_lst, rfl, szl (by rw [List.length_drop]; omega), fun _ _ => isR_lst, fun a ha => ⟨_, by walk_at "put", fun X1 inn L acc => ?_⟩, fun p => ⟨_, _, _, rfl, rfl, ?_⟩⟩
    · have st1 := inn.st
      have ham := List.mem_of_mem_drop ha
      have h16 := (hok.ok a ham).len
      refine we_frz ?_
      refine we_mapT2B a (fun b => .lst (b.1.map Dd.d)) (fun b => b.2.d) (fun b => Bk.d (b.1.take 2, b.2)) st1 (blk_in (own2 := [("_law_deeds_here", 2), ("_law_end", 3)]) (Vb := ["_law_deeds_here", "_law_end"]) (Bb := []) (Fb := []) bod inn (by decide +kernel)) (by walk_at "mem") (by walk_at "mem") (by walk_at "wiped") ?_
      refine wi_list ?_
      walk_at "run"
      refine ⟨_, isR_lst, rfl, szl (by omega), fun _ _ => isR_lst, fun b hb => ⟨_, _, by walk_at "put", by walk_at "put", fun X2 inn2 L2 acc2 => ?_⟩, fun p => ⟨_, _, _, rfl, rfl, ?_⟩⟩
      · have st2 := inn2.st
        walk_at "run"
        refine ⟨_, .inl ⟨_, isR_lst, rfl⟩, ?_⟩
        walk_at "run"
        have ct2 : ∀ l : List D, cutD l none (some (2 : Int)) = l.take 2 := fun l => cutD_to l 2
        rw [ct2, ← List.map_take]
        exact ⟨rfl, rfl⟩
      · refine ⟨rfl, ?_⟩
        unfold slimW W.d
        rw [List.map_map]; rfl
    refine od_cat isL_lst isL_lst (by simp only [List.length_map, List.length_take, List.length_drop]; exact szl (by omega)) ?_
    have hall : ∀ w ∈ ws.take 1 ++ (ws.drop 1).map slimW, Ok ws.length w ∧ Plain w := fun w hw => by
      rcases List.mem_append.mp hw with hw | hw
      · exact ⟨hok.ok w (List.mem_of_mem_take hw), hpl w (List.mem_of_mem_take hw)⟩
      · obtain ⟨v, hv, rfl⟩ := List.mem_map.mp hw
        exact slim_ok (hok.ok v (List.mem_of_mem_drop hv)) (hpl v (List.mem_of_mem_drop hv))
    have hlen : (ws.take 1 ++ (ws.drop 1).map slimW).length = ws.length := by simp only [List.length_append, List.length_map, List.length_take, List.length_drop]; omega
    have := hQ (ws.take 1 ++ (ws.drop 1).map slimW) ⟨by omega, by omega, fun w hw => by rw [hlen]; exact (hall w hw).1⟩ fun w hw => (hall w hw).2
    rw [List.map_append, List.map_map] at this
    exact this
end
end Gen

namespace Gen
open PySem L2 DL Wk
abbrev s_law_works : Stmt := top 31
abbrev l_law_works : List Str := ["_law_tape_here", "_law_most", "_law_works_here", "_law_found", "_law_first", "_law_many_here"]
abbrev n_law_works : List Str := ["_law_tape_here", "_law_most", "_law_works_here", "_law_found", "_law_first", "_law_many_here"]
theorem sc_law_works : FnScope n_law_works ["_law_tape_here", "_law_most"] (defScope s_law_works) := ⟨rfl, rfl, rfl, by decide +kernel, rfl, by decide +kernel, by decide +kernel⟩
section
variable {P : Program} {w : World} {K : PySem.W.Frag} {mg : Str → Option Value} {base : Heap}
abbrev sp_law_works : DSp := fun ds M Q => ∃ (t : Addr) (N : Nat) (c : Cell) (f : Cell → Mem) (most : Nat), ds = [.ref t, .int (most : Int)] ∧ At t M c f ∧ Tape N c ∧ N ≤ 10000000 ∧ most ≤ 12 ∧
  ∀ ws c', WsOk ws → (∀ w ∈ ws, Plain w) → Tape (N + 30000) c' → Q (.lst (ws.map W.d)) (f c')
theorem ok_law_works {f : Addr} {fd : FuncData} (F : Fun K "_law_works" "_law_works" s_law_works f fd) (hm : mg "_law_works" = some (.ref f)) (hb : Binds K fd ["_law_tape_here", "_law_most"] []) (hB : ∀ x ∈ (["int", "range"] : List Str), mg x = none) (h_law_draw : Fs P w K mg base 1 "_law_draw" 2 sp_law_draw) (h_law_many : Fs P w K mg base 2 "_law_many" 1 sp_law_many) (h_law_work : Fs P w K mg base 4 "_law_work" 5 sp_law_work) (h_law_slim : Fs P w K mg base 2 "_law_slim" 1 sp_law_slim) : Fs P w K mg base 5 "_law_works" 2 sp_law_works := by
  refine fs_of (N := n_law_works) (Ln := l_law_works) (Bn := ["int", "range"]) (Fn := ["_law_draw", "_law_many", "_law_work", "_law_slim"]) (Bx := ["int", "range"]) F hm hb sc_law_works rfl (by decide +kernel) hB ?_
  rintro X ds M Q bod ⟨t, N, c, f, most, rfl, hat, tp, hN, hmo, hQ⟩
  have st := bod.st
  have rm := bod.room
  have hd := bod.tr h_law_draw
  have hn := bod.tr h_law_many
  have he := bod.tr h_law_work
  have hs := bod.tr h_law_slim
  show WSs X ([("_law_tape_here", some (.ref t)), ("_law_most", some (.int (most : Int))), ("_law_works_here", none), ("_law_found", none), ("_law_first", none), ("_law_many_here", none)] : VEnv) M _ _
  walk_at "set"
  walk_at "run"
  walk_at "draw"
  intro r1 c1 a1 b1 tp1
  have at1 := hat.put c1
  walk_at "run"
  walk_at "draw"
  intro r2 c2 a2 b2 tp2
  have at2 := hat.put c2
  walk_at "run"
  walk_at "draw"
  intro r3 c3 a3 b3 tp3
  have at3 := hat.put c3
  walk_at "run"
  refine ⟨_, _, rfl, IxD.list isR_lst atI_two, ?_⟩
  have hcap : ∃ z : Nat, 1 ≤ z ∧ z ≤ 10 ∧ (if r3 = 0 then D.int (5 + r2) else D.int (1 + r1)) = .int (z : Int) := by
    obtain ⟨k1, rfl⟩ := Int.eq_ofNat_of_zero_le a1
    obtain ⟨k2, rfl⟩ := Int.eq_ofNat_of_zero_le a2
    split
    · exact ⟨5 + k2, by omega, by omega, by simp⟩
    · exact ⟨1 + k1, by omega, by omega, by simp⟩
  obtain ⟨nw, hw1, hw2, ez⟩ := hcap
  rw [ez]
  walk_at "run"
  walk_at "set"
  refine we_lstO ?_
  walk_at "run"
  intro pf
  walk_at "run"
  refine wss_cons (ws_for st (wi_range st (by walk_at "mem") ?_))
  walk_at "run"
  refine ⟨by omega, by omega, fun i Γ' M' => ∃ (cs : List W) (c' : Cell) (o1 o2 : Option D), cs.length = i ∧ i ≤ nw ∧ (∀ c ∈ cs, Ok nw c ∧ Plain c) ∧ Tape (N + 3 + 2010 * i) c' ∧ Γ' = ([("_law_tape_here", some (.ref t)), ("_law_most", some (.int (most : Int))), ("_law_works_here", some (.int (nw : Int))), ("_law_found", some (.ref pf)), ("_law_first", o1), ("_law_many_here", o2)] : VEnv) ∧ M' = (pf, .lst (cs.map W.d)) :: f c', ?_, ?_, ?_, ?_⟩
  · exact ⟨[], c3, _, _, rfl, by omega, by simp, tp3, rfl, rfl⟩
  · intros; trivial
  · rintro i x Γ' M' hx ⟨cs, c4, o1, o2, hcl, hi10, hcs, tp4, rfl, rfl⟩
    obtain ⟨hi, rfl⟩ := rngD_inv hx
    have hi : i < nw := by simpa using hi
    refine wg_name st (by walk_at "mem") (by walk_at "put") ?_
    have at4 := hat.put c4
    refine ws_mid (fun Γ' M' => ∃ (m : Nat) (c' : Cell), 1 ≤ m ∧ m ≤ 12 ∧ Tape (N + 3 + 2010 * i + 3) c' ∧ Γ' = ([("_law_tape_here", some (.ref t)), ("_law_most", some (.int (most : Int))), ("_law_works_here", some (.int (nw : Int))), ("_law_found", some (.ref pf)), ("_law_first", some (.int (i : Int))), ("_law_many_here", some (.int (m : Int)))] : VEnv) ∧ M' = (pf, .lst (cs.map W.d)) :: f c') (ws_set st (by walk_at "mem") ?_ (by walk_at "unf")) ?_
    · walk_at "run"
      rw [Int.zero_add]
      refine ite_d (fun h => ?_) (fun h => ?_)
      · walk_at "run"
        refine ⟨_, _, _, _, rfl, by walk_at "at", tp4, by omega, ?_⟩
        intro n c5 a5 b5 tp5
        walk_at "run"
        exact ⟨n, c5, a5, b5, tp5, rfl, rfl⟩
      · walk_at "run"
        walk_at "draw"
        intro r5 c5 a5 b5 tp5
        obtain ⟨k5, rfl⟩ := Int.eq_ofNat_of_zero_le a5
        walk_at "run"
        exact ⟨1 + k5, c5, by omega, by omega, tp5.mono (by omega), by simp, rfl⟩
    · rintro Γ' M' ⟨m, c5, hm1, hm2, tp5, rfl, rfl⟩
      have at5 := hat.put c5
      walk_at "expr"
      walk_at "run"
      refine ⟨_, _, _, _, m, most, i, nw, rfl, by walk_at "at", tp5, by omega, ⟨hm1, by omega⟩, hmo, ⟨hw1, by omega⟩, ?_⟩
      intro w c6 p hok hpl hwl tp6
      walk_at "run"
      refine md_frz ?_
      refine md_append (by walk_at "at") ?_ ?_
      · exact szlt (by rw [List.length_map]; omega)
      refine wss_nil ?_
      refine ⟨cs ++ [w], c6, _, _, by simp [hcl], by omega, fun c hc => ?_, tp6.mono (by omega), rfl, ?_⟩
      · rcases List.mem_append.mp hc with hc | hc
        · exact hcs c hc
        · rw [List.mem_singleton.mp hc]; exact ⟨hok, hpl⟩
      · rw [List.map_append]; rfl
  · rintro Γ' M' ⟨cs, c4, o1, o2, hcl, hi10, hcs, tp4, rfl, rfl⟩
    rw [rngD_length, Int.toNat_natCast] at hcl hi10 tp4
    refine wss_frz (x := "_law_found") (by walk_at "look") (by walk_at "put") st (by walk_at "mem") ?_
    walk_at "ret"
    walk_at "run"
    refine ⟨cs, rfl, ⟨by omega, by omega, fun w hw => by rw [hcl]; exact (hcs w hw).1⟩, fun c hc => (hcs c hc).2, fun ws' h1 h2 => ?_⟩
    exact hQ ws' c4 h1 h2 (tp4.mono (by omega))
end
end Gen

namespace Gen
open PySem L2 DL Wk
abbrev s_law_ends : Stmt := top 32
abbrev l_law_ends : List Str := ["_law_work_here"]
abbrev n_law_ends : List Str := ["_law_work_here", "_law_deeds_here", "_law_end"]
theorem sc_law_ends : FnScope n_law_ends ["_law_work_here"] (defScope s_law_ends) := ⟨rfl, rfl, rfl, by decide +kernel, rfl, by decide +kernel, by decide +kernel⟩
abbrev s_law_ways : Stmt := top 33
abbrev l_law_ways : List Str := ["_law_work_here", "_law_found", "_law_block", "_law_there"]
abbrev n_law_ways : List Str := ["_law_work_here", "_law_found", "_law_block", "_law_there", "_law_to"]
section
variable {P : Program} {w : World} {K : PySem.W.Frag} {mg : Str → Option Value} {base : Heap}
abbrev sp_law_ends : DSp := fun ds M Q => ∃ (d : D) (w : W), ds = [d] ∧ IsR M d (w.map Bk.d) ∧ (∀ L acc, IsR ((L, .lst acc) :: M) d (w.map Bk.d)) ∧ w.length ≤ 16 ∧ Q (.lst (w.map fun b => nlD b.2.nx)) M
theorem ok_law_ends {f : Addr} {fd : FuncData} (F : Fun K "_law_ends" "_law_ends" s_law_ends f fd) (hm : mg "_law_ends" = some (.ref f)) (hb : Binds K fd ["_law_work_here"] []) (hB : ∀ x ∈ (["list"] : List Str), mg x = none) : Fs P w K mg base 1 "_law_ends" 1 sp_law_ends := by
  refine fs_of (N := n_law_ends) (Ln := l_law_ends) (Bn := []) (Fn := []) (Bx := ["list"]) F hm hb sc_law_ends rfl (by decide +kernel) hB ?_
  rintro X ds M Q bod ⟨d, w, rfl, hd, hst, hl, hQ⟩
  have st := bod.st
  show WSs X ([("_law_work_here", some (d)), ("_law_deeds_here", none), ("_law_end", none)] : VEnv) M _ _
  walk_at "ret"
  refine we_frz ?_
  refine we_mapT2 w (fun b => .lst (b.1.map Dd.d)) (fun b => b.2.d) (fun b => nlD b.2.nx) [("_law_deeds_here", 1), ("_law_end", 2)] ["_law_deeds_here", "_law_end"] ["list"] [] bod (by decide +kernel) (by walk_at "mem") (by walk_at "mem") (by walk_at "wiped") ?_
  refine wi_list ?_
  walk_at "run"
  refine ⟨_, hd, rfl, szl (by omega), hst, fun b hb => ⟨_, _, by walk_at "put", by walk_at "put", fun X1 inn L acc => ?_⟩, fun p => ⟨_, _, _, rfl, rfl, hQ⟩⟩
  have st1 := inn.st
  walk_at "run"
  obtain ⟨ds, e1, e2⟩ := b.2.cut
  refine ⟨_, .inr (.inl ⟨ds, e1, rfl⟩), ?_⟩
  walk_at "run"
  rw [e2]
  refine cd_list (.inr rfl) ?_
  exact ⟨rfl, rfl⟩
abbrev sp_law_ways : DSp := fun ds M Q => ∃ (d : D) (w : W), ds = [d] ∧ IsR M d (w.map Bk.d) ∧ (∀ L acc, IsR ((L, .lst acc) :: M) d (w.map Bk.d)) ∧ w.length ≤ 16 ∧ Q (.lst ((ways w).map pairD)) M
end
end Gen

namespace Gen
open PySem L2 DL Wk
abbrev s_law_reads : Stmt := top 34
abbrev l_law_reads : List Str := ["_law_deed", "_law_box"]
abbrev n_law_reads : List Str := ["_law_deed", "_law_box"]
theorem sc_law_reads : FnScope n_law_reads ["_law_deed", "_law_box"] (defScope s_law_reads) := ⟨rfl, rfl, rfl, by decide +kernel, rfl, by decide +kernel, by decide +kernel⟩
abbrev s_law_is_asked : Stmt := top 36
abbrev l_law_is_asked : List Str := ["_law_works_here", "_law_number_here", "_law_block", "_law_box", "_law_met", "_law_waiting", "_law_place", "_law_deeds_here", "_law_end", "_law_open_yet", "_law_deed"]
abbrev n_law_is_asked : List Str := ["_law_works_here", "_law_number_here", "_law_block", "_law_box", "_law_met", "_law_waiting", "_law_place", "_law_deeds_here", "_law_end", "_law_open_yet", "_law_deed", "_law_to"]
theorem sc_law_is_asked : FnScope n_law_is_asked ["_law_works_here", "_law_number_here", "_law_block", "_law_box"] (defScope s_law_is_asked) := ⟨rfl, rfl, rfl, by decide +kernel, rfl, by decide +kernel, by decide +kernel⟩
section
variable {P : Program} {w : World} {K : PySem.W.Frag} {mg : Str → Option Value} {base : Heap}
abbrev sp_law_reads : DSp := fun ds M Q => ∃ (d : Dd) (b : Nat), ds = [d.d, natD b] ∧ Q (.bl (d.rd b)) M
theorem ok_law_reads {f : Addr} {fd : FuncData} (F : Fun K "_law_reads" "_law_reads" s_law_reads f fd) (hm : mg "_law_reads" = some (.ref f)) (hb : Binds K fd ["_law_deed", "_law_box"] []) : Fs P w K mg base 1 "_law_reads" 2 sp_law_reads := by
  refine fs_of (N := n_law_reads) (Ln := l_law_reads) (Bn := []) (Fn := []) (Bx := []) F hm hb sc_law_reads rfl (by decide +kernel) (fun _ h => by cases h) ?_
  rintro X ds M Q bod ⟨d, b, rfl, hQ⟩
  have st := bod.st
  show WSs X ([("_law_deed", some (d.d)), ("_law_box", some (natD b))] : VEnv) M _ _
  cases d with
  | add x y =>
    unfold Dd.d
    walk_at "ret"
    walk_at "go"
    refine ⟨_, .inr (.inl ⟨_, rfl, rfl⟩), ?_⟩
    rw [show cutD [D.str "add", D.int (x : Int), D.int (y : Int)] (some 1) none = [D.int (x : Int), D.int (y : Int)] from cutD_from _ 1]
    refine od_inI (i := (b : Int)) (ns := [(x : Int), (y : Int)]) (.inr rfl) ?_
    walk_at "go"
    refine ite_d (fun h => ?_) (fun h => ?_)
    · have h' : (Dd.add x y).rd b = true := by
        simp only [List.mem_cons, List.not_mem_nil, or_false] at h
        simp only [Dd.rd, Bool.or_eq_true, decide_eq_true_eq]
        omega
      rw [h'] at hQ
      exact hQ
    · have h' : (Dd.add x y).rd b = false := by
        simp only [List.mem_cons, List.not_mem_nil, or_false] at h
        simp only [Dd.rd, Bool.or_eq_false_iff, decide_eq_false_iff_not]
        omega
      rw [h'] at hQ
      walk_at "go"
      exact hQ
  | tell x =>
    unfold Dd.d
    walk_at "ret"
    walk_at "go"
    refine od_eqI (j := (b : Int)) ?_
    rw [show decide ((x : Int) = (b : Int)) = decide (b = x) from decide_eq_decide.mpr (by omega)]
    exact hQ
  | _ =>
    unfold Dd.d
    walk_at "ret"
    walk_at "go"
    exact hQ
theorem nowr_step {b : Nat} {l : List Dd} {i : Nat} {d : Dd} (hd : l[i]? = some d) : decide (NoWr b (l.take (i + 1))) = (decide (NoWr b (l.take i)) && !d.wrB b) := by
  rw [Bool.eq_iff_iff, decide_eq_true_iff, Bool.and_eq_true, decide_eq_true_iff, Bool.not_eq_true', List.take_add_one, hd]
  constructor
  · intro h
    exact ⟨fun x hx => h x (List.mem_append_left _ hx), h d (by simp)⟩
  · rintro ⟨h1, h2⟩ x hx
    rcases List.mem_append.mp hx with hx | hx
    · exact h1 x hx
    · have : x = d := by simpa [eq_comm] using hx
      rw [this]; exact h2
theorem shw_places {ps : List (Nat × Nat)} (h : ∀ p ∈ ps, p.1 < 1000 ∧ p.2 < 1000) : Shw 2 (ps.length * 91) (.list (ps.map fun p => pairP ((p.1 : Int), (p.2 : Int)))) := by
  refine Shw.list (dep := 1) (n := 90) (fun x hx => ?_) (by rw [List.length_map]; omega)
  obtain ⟨p, hp, rfl⟩ := List.mem_map.mp hx
  have := h p hp
  exact shw_pair (by show (-10000000000000 : Int) < (p.1 : Int); omega) (by show (p.1 : Int) < 10000000000000; omega) (by show (-10000000000000 : Int) < (p.2 : Int); omega) (by show (p.2 : Int) < 10000000000000; omega)
theorem py_places {M : Mem} {d : D} {ps : List (Nat × Nat)} (h : IsR M d (ps.map plD)) : Py M d (.list (ps.map fun p => pairP ((p.1 : Int), (p.2 : Int)))) := by
  have g : ∀ p ∈ ps, Py M (plD p) (pairP ((p.1 : Int), (p.2 : Int))) := fun p _ => .tup (.cons (.int _) (.cons (.int _) .nil))
  rcases h with (rfl | ⟨a, f, rfl, h⟩) | rfl
  · exact .lst (Pys.of_map g)
  · exact .ref h (Pys.of_map g)
  · exact .slst (Pys.of_map g)
abbrev sp_law_is_asked : DSp := fun ds M Q => ∃ (ws : List W) (n k b : Nat), ds = [Ws.d ws, natD n, natD k, natD b] ∧ FitWs ws ∧ (∃ bk, At2 ws (n, k) bk) ∧ Q (.bl (awtB ws b n k)) M
theorem ok_law_is_asked {f : Addr} {fd : FuncData} (F : Fun K "_law_is_asked" "_law_is_asked" s_law_is_asked f fd) (hm : mg "_law_is_asked" = some (.ref f)) (hb : Binds K fd ["_law_works_here", "_law_number_here", "_law_block", "_law_box"] []) (h_law_reads : Fs P w K mg base 1 "_law_reads" 2 sp_law_reads) : Fs P w K mg base 2 "_law_is_asked" 4 sp_law_is_asked := by
  refine fs_of (N := n_law_is_asked) (Ln := l_law_is_asked) (Bn := []) (Fn := ["_law_reads"]) (Bx := []) F hm hb sc_law_is_asked rfl (by decide +kernel) (fun _ h => by cases h) ?_
  rintro X ds M Q bod ⟨ws, n, k, b, rfl, hf, ⟨bk0, hbk0⟩, hQ⟩
  have st := bod.st
  have rm := bod.room
  have h1 := bod.tr h_law_reads
  have hl60 := hf.len
  show WSs X ([("_law_works_here", some (.lst (ws.map W.d))), ("_law_number_here", some (natD n)), ("_law_block", some (natD k)), ("_law_box", some (natD b)), ("_law_met", none), ("_law_waiting", none), ("_law_place", none), ("_law_deeds_here", none), ("_law_end", none), ("_law_open_yet", none), ("_law_deed", none), ("_law_to", none)] : VEnv) M _ _
  refine wss_cons (ws_par st (by walk_at "mem") (by walk_at "mem") (bod.lk (by decide +kernel)) (bod.lk (by decide +kernel)) bod.kind (by decide) (by walk_at "put") (by walk_at "put") ?_)
  walk_at "a1"
  refine we_dnewT fun pm => ?_
  walk_at "a1"
  refine we_lstO ?_
  walk_at "run"
  intro pw
  walk_at "run"
  refine ⟨_, _, _, _, rfl, by walk_at "put", by walk_at "put", ?_⟩
  refine wss_cons (ws_while st (fun m Γ' M' => ∃ (met wt : List (Nat × Nat)) (kvs : List (List Key × D)) (o1 o2 o3 o4 o5 : Option D), Srch ws b (n, k) met wt (fun _ => False) ∧ kvs.map (·.1) = met.map key2 ∧ m = wt.length + 27 * (960 - met.length) ∧ m ≤ 30000 ∧ Γ' = ([("_law_works_here", some (.lst (ws.map W.d))), ("_law_number_here", some (natD n)), ("_law_block", some (natD k)), ("_law_box", some (natD b)), ("_law_met", some (.ref pm)), ("_law_waiting", some (.ref pw)), ("_law_place", o1), ("_law_deeds_here", o2), ("_law_end", o3), ("_law_open_yet", o4), ("_law_deed", o5), ("_law_to", none)] : VEnv) ∧ M' = (pw, .lst (wt.map plD)) :: (pm, .dT kvs) :: M) _ ⟨[], [(n, k)], [], _, _, _, _, _, .start hbk0, rfl, rfl, by simp, rfl, rfl⟩ ?_)
  rintro m Γ' M' ⟨met, wt, kvs, o1, o2, o3, o4, o5, sr, hk, hm, hmb, rfl, rfl⟩
  have bdp : ∀ p, p ∈ met ∨ p ∈ wt → p.1 < 1000 ∧ p.2 < 1000 := fun p hp => by
    obtain ⟨bk, w, q1, q2⟩ := sr.val p hp
    have := (List.getElem?_eq_some_iff.mp q1).1
    have := (List.getElem?_eq_some_iff.mp q2).1
    have := (hf.fit w (List.mem_of_getElem? q1)).len
    omega
  walk_at "run"
  refine od_neP st (py_places (isR_ref .here)) (py_places (ps := []) isR_lst) ((shw_places fun p hp => bdp p (.inr hp)).shaped (by omega)) ((shw_places (ps := []) fun p hp => (by cases hp)).shaped (by omega)) ?_
  rw [show PyData.eqv (.list (wt.map fun p => pairP ((p.1 : Int), (p.2 : Int)))) (.list (([] : List (Nat × Nat)).map fun p => pairP ((p.1 : Int), (p.2 : Int)))) = decide (wt = []) from by cases wt <;> simp [PyData.eqv, PyData.eqvAll]]
  walk_at "run"
  refine ite_n (fun hne => ?_) (fun hnil => ?_)
  rotate_left
  · subst hnil
    walk_at "ret"
    refine we_gc ?_
    walk_at "run"
    rw [awtB_f sr.fin] at hQ
    exact ⟨[(pw, _), (pm, _)], M, .refl _, hQ⟩
  obtain ⟨wt, p, rfl⟩ : ∃ wt' p, wt = wt' ++ [p] := ⟨wt.dropLast, wt.getLast hne, (List.dropLast_concat_getLast hne).symm⟩
  rw [List.length_append, List.length_singleton] at hm
  rw [List.map_append, List.map_singleton]
  walk_at "set"
  walk_at "run"
  refine md_pop (by walk_at "at") ?_
  walk_at "put!"
  refine wss_one (ws_if ?_)
  walk_at "run"
  refine od_notInD st (GetD.dt2 (by walk_at "at")) ?_
  rw [valA_in2 hk]
  walk_at "run"
  refine ite_n (fun hnot => ?_) (fun hin => ?_)
  rotate_left
  · refine wss_nil ⟨_, ?_, met, wt, kvs, _, _, _, _, _, sr.skip hin, hk, rfl, ?_, rfl, rfl⟩
    · omega
    · omega
  have sr1 := sr.meet hnot
  have hlen := sr1.len hf
  rw [List.length_append, List.length_singleton] at hlen
  obtain ⟨bk, w, hw, hbk⟩ := sr1.val p (.inl (by simp))
  have hwm := List.mem_of_getElem? hw
  have hkl : kvs.length = met.length := by have := congrArg List.length hk; simpa using this
  have h24 := (hf.fit w hwm).few bk (List.mem_of_getElem? hbk)
  have hdok := hf.ok w hwm bk (List.mem_of_getElem? hbk)
  walk_at "asg"
  walk_at "run"
  refine wg_dix st ?_ (by intro _; with_unfolding_all rfl)
  walk_at "run"
  refine ⟨pm, _, rfl, .inr ⟨kvs, key2 p, by walk_at "at", rfl, szlt (by omega), ?_⟩⟩
  have hk2 : (putA kvs (key2 p) (.bl true)).map (·.1) = (met ++ [p]).map key2 := by
    rw [putA_keys, valA_in2 hk, if_neg (by simpa using hnot), hk, List.map_append]; rfl
  generalize putA kvs (key2 p) (.bl true) = kvs2 at hk2
  walk_at "asg"
  walk_at "run"
  refine ⟨_, _, rfl, IxD.list isR_lst (atI_map hw), ?_⟩
  walk_at "run"
  refine ⟨_, _, rfl, IxD.list isR_lst (atI_map hbk), ?_⟩
  refine wg_tup st rfl ?_
  refine wgs_cons (wg_name st (by walk_at "mem") (by walk_at "put") ?_)
  refine wgs_cons (wg_name st (by walk_at "mem") (by walk_at "put") ?_)
  refine wgs_nil ?_
  walk_at "set"
  walk_at "run"
  refine wss_cons (ws_for st (wi_list ?_))
  walk_at "run"
  refine ⟨_, isR_lst, fun i Γ' M' => ∃ (wt2 : List (Nat × Nat)) (o5 : Option D), Srch ws b (n, k) (met ++ [p]) wt2 (fun q => q = p) ∧ (∀ j, j < i → ∀ d, bk.1[j]? = some d → NoWr b (bk.1.take j) → d.rd b = false) ∧ (∀ j, j < i → ∀ c, bk.1[j]? = some (.call c) → NoWr b (bk.1.take j) → (c, 0) ∈ met ++ [p] ∨ (c, 0) ∈ wt2) ∧ wt2.length ≤ wt.length + i ∧ Γ' = ([("_law_works_here", some (.lst (ws.map W.d))), ("_law_number_here", some (natD n)), ("_law_block", some (natD k)), ("_law_box", some (natD b)), ("_law_met", some (.ref pm)), ("_law_waiting", some (.ref pw)), ("_law_place", some (plD p)), ("_law_deeds_here", some (.lst (bk.1.map Dd.d))), ("_law_end", some bk.2.d), ("_law_open_yet", some (.bl (decide (NoWr b (bk.1.take i))))), ("_law_deed", o5), ("_law_to", none)] : VEnv) ∧ M' = (pw, .lst (wt2.map plD)) :: (pm, .dT kvs2) :: M, ?_, ?_, ?_, ?_⟩
  · exact ⟨wt, o5, sr1, fun j hj => absurd hj (Nat.not_lt_zero _), fun j hj => absurd hj (Nat.not_lt_zero _), by omega, by simp [NoWr], rfl⟩
  · exact fun _ _ _ _ => isR_lst
  · rintro i x Γ' M' hx ⟨wt2, o5, sr2, hrd, hcl, hwl, rfl, rfl⟩
    rw [List.getElem?_map] at hx
    obtain ⟨d, hd, rfl⟩ := Option.map_eq_some_iff.mp hx
    have hi := (List.getElem?_eq_some_iff.mp hd).1
    refine wg_name st (by walk_at "mem") (by walk_at "put") ?_
    refine ws_mid (fun Γ' M' => (NoWr b (bk.1.take i) → d.rd b = false) ∧ Γ' = ([("_law_works_here", some (.lst (ws.map W.d))), ("_law_number_here", some (natD n)), ("_law_block", some (natD k)), ("_law_box", some (natD b)), ("_law_met", some (.ref pm)), ("_law_waiting", some (.ref pw)), ("_law_place", some (plD p)), ("_law_deeds_here", some (.lst (bk.1.map Dd.d))), ("_law_end", some bk.2.d), ("_law_open_yet", some (.bl (decide (NoWr b (bk.1.take i))))), ("_law_deed", some d.d), ("_law_to", none)] : VEnv) ∧ M' = (pw, .lst (wt2.map plD)) :: (pm, .dT kvs2) :: M) (ws_if ?_) ?_
    · walk_at "run"
      refine ite_d (fun hop => ?_) (fun hop => ?_)
      · walk_at "run"
        refine ⟨d, b, rfl, ?_⟩
        walk_at "run"
        refine ite_b (fun h => ?_) (fun h => ?_)
        · walk_at "ret"
          refine we_gc ?_
          walk_at "run"
          rw [awtB_t (sr2.back p (.inl (by simp)) (.read hw hbk hd h hop))] at hQ
          exact ⟨[(pw, _), (pm, _)], M, .refl _, hQ⟩
        · exact wss_nil ⟨fun _ => h, rfl, rfl⟩
      · exact wss_nil ⟨fun h => absurd h hop, rfl, rfl⟩
    · rintro Γ' M' ⟨hrd2, rfl, rfl⟩
      have hrd3 : ∀ j, j < i + 1 → ∀ d, bk.1[j]? = some d → NoWr b (bk.1.take j) → d.rd b = false := fun j hj e he hn => by
        by_cases q : j = i
        · subst q; rw [hd] at he; cases he; exact hrd2 hn
        · exact hrd j (by omega) e he hn
      obtain ⟨dl, e1, e2, e3⟩ := d.at0
      refine ws_mid (fun Γ' M' => ∃ wt3 : List (Nat × Nat), Srch ws b (n, k) (met ++ [p]) wt3 (fun q => q = p) ∧ (∀ j, j < i + 1 → ∀ c, bk.1[j]? = some (.call c) → NoWr b (bk.1.take j) → (c, 0) ∈ met ++ [p] ∨ (c, 0) ∈ wt3) ∧ wt3.length ≤ wt.length + (i + 1) ∧ Γ' = ([("_law_works_here", some (.lst (ws.map W.d))), ("_law_number_here", some (natD n)), ("_law_block", some (natD k)), ("_law_box", some (natD b)), ("_law_met", some (.ref pm)), ("_law_waiting", some (.ref pw)), ("_law_place", some (plD p)), ("_law_deeds_here", some (.lst (bk.1.map Dd.d))), ("_law_end", some bk.2.d), ("_law_open_yet", some (.bl (decide (NoWr b (bk.1.take i))))), ("_law_deed", some d.d), ("_law_to", none)] : VEnv) ∧ M' = (pw, .lst (wt3.map plD)) :: (pm, .dT kvs2) :: M) (ws_if ?_) ?_
      · have keep : (NoWr b (bk.1.take i) → ∀ c, d ≠ .call c) → ∀ j, j < i + 1 → ∀ c, bk.1[j]? = some (.call c) → NoWr b (bk.1.take j) → (c, 0) ∈ met ++ [p] ∨ (c, 0) ∈ wt2 := fun hne j hj c he hn => by
          by_cases q : j = i
          · subst q; rw [hd] at he; cases he; exact absurd rfl (hne hn c)
          · exact hcl j (by omega) c he hn
        walk_at "run"
        refine ite_d (fun hop => ?_) (fun hop => ?_)
        · walk_at "run"
          refine ⟨_, _, rfl, .inl ⟨dl, .inr e1, e2⟩, ?_⟩
          walk_at "run"
          refine ite_d (fun h => ?_) (fun h => ?_)
          · obtain ⟨c, rfl⟩ := dd_call h
            have hc : c < ws.length := hdok _ (List.mem_of_getElem? hd)
            walk_at "expr"
            walk_at "run"
            refine ⟨_, _, rfl, .inl ⟨dl, .inr e1, e3⟩, ?_⟩
            walk_at "run"
            refine md_append (by walk_at "at") (szlt (by rw [List.length_map]; omega)) ?_
            refine wss_nil ?_
            have hwc := List.getElem?_eq_getElem hc
            have hpos := hf.pos ws[c] (List.getElem_mem hc)
            refine ⟨wt2 ++ [(c, 0)], sr2.push ⟨_, _, hwc, List.getElem?_eq_getElem hpos⟩ (fun q => sr2.back p (.inl (by simp)) (.call hw hbk hd hop q)), fun j hj c' he hn => ?_, by simp only [List.length_append, List.length_singleton]; omega, rfl, ?_⟩
            · by_cases q : j = i
              · subst q; rw [hd] at he; cases he; exact .inr (by simp)
              · exact (hcl j (by omega) c' he hn).imp id fun z => by simp [z]
            · rw [List.map_append]; rfl
          · exact wss_nil ⟨wt2, sr2, keep (fun _ c e => h (by rw [e]; rfl)), by omega, rfl, rfl⟩
        · exact wss_nil ⟨wt2, sr2, keep (fun q => absurd q hop), by omega, rfl, rfl⟩
      · rintro Γ' M' ⟨wt3, sr3, hcl3, hwl3, rfl, rfl⟩
        have fin : ∀ E : DE, E.nx = (fun Γ' M' => ∃ (wt2 : List (Nat × Nat)) (o5 : Option D), Srch ws b (n, k) (met ++ [p]) wt2 (fun q => q = p) ∧ (∀ j, j < i + 1 → ∀ d, bk.1[j]? = some d → NoWr b (bk.1.take j) → d.rd b = false) ∧ (∀ j, j < i + 1 → ∀ c, bk.1[j]? = some (.call c) → NoWr b (bk.1.take j) → (c, 0) ∈ met ++ [p] ∨ (c, 0) ∈ wt2) ∧ wt2.length ≤ wt.length + (i + 1) ∧ Γ' = ([("_law_works_here", some (.lst (ws.map W.d))), ("_law_number_here", some (natD n)), ("_law_block", some (natD k)), ("_law_box", some (natD b)), ("_law_met", some (.ref pm)), ("_law_waiting", some (.ref pw)), ("_law_place", some (plD p)), ("_law_deeds_here", some (.lst (bk.1.map Dd.d))), ("_law_end", some bk.2.d), ("_law_open_yet", some (.bl (decide (NoWr b (bk.1.take (i + 1)))))), ("_law_deed", o5), ("_law_to", none)] : VEnv) ∧ M' = (pw, .lst (wt2.map plD)) :: (pm, .dT kvs2) :: M) → d.wrB b = false → WSs X ([("_law_works_here", some (.lst (ws.map W.d))), ("_law_number_here", some (natD n)), ("_law_block", some (natD k)), ("_law_box", some (natD b)), ("_law_met", some (.ref pm)), ("_law_waiting", some (.ref pw)), ("_law_place", some (plD p)), ("_law_deeds_here", some (.lst (bk.1.map Dd.d))), ("_law_end", some bk.2.d), ("_law_open_yet", some (.bl (decide (NoWr b (bk.1.take i))))), ("_law_deed", some d.d), ("_law_to", none)] : VEnv) ((pw, .lst (wt3.map plD)) :: (pm, .dT kvs2) :: M) [] E := fun E hE hwb => by
          refine wss_nil ?_
          rw [hE]
          refine ⟨wt3, some d.d, sr3, hrd3, hcl3, hwl3, ?_, rfl⟩
          rw [nowr_step hd, hwb, Bool.not_false, Bool.and_true]
        refine wss_one (ws_if ?_)
        walk_at "run"
        refine ⟨_, _, rfl, .inl ⟨dl, .inr e1, e2⟩, ?_⟩
        walk_at "run"
        refine od_inS (ns := ["set", "add"]) (.inr rfl) ?_
        walk_at "run"
        rw [d.word_wr]
        refine ite_b (fun hwr => ?_) (fun hwr => ?_)
        · walk_at "run"
          refine ⟨_, _, rfl, .inl ⟨dl, .inr e1, e3⟩, ?_⟩
          walk_at "run"
          refine od_eqI (i := (d.wb : Int)) (j := (b : Int)) ?_
          walk_at "run"
          refine ite_d (fun hb => ?_) (fun hb => ?_)
          · walk_at "set"
            walk_at "run"
            refine wss_nil ?_
            refine ⟨wt3, some d.d, sr3, hrd3, hcl3, hwl3, ?_, rfl⟩
            have hwb : d.wrB b = true := by unfold Dd.wrB; rw [hwr, decide_eq_true (by omega)]; rfl
            rw [nowr_step hd, hwb, Bool.not_true, Bool.and_false]
          · refine fin _ rfl ?_
            unfold Dd.wrB
            rw [decide_eq_false (by omega), Bool.and_false]
        · refine fin _ rfl ?_
          unfold Dd.wrB
          rw [hwr, Bool.false_and]
  · rintro Γ' M' ⟨wt2, o5, sr2, hrd, hcl, hwl, rfl, rfl⟩
    rw [List.length_map] at hrd hcl hwl
    rw [List.length_map, List.take_length]
    have sound : ∀ {wt4 : List (Nat × Nat)}, Srch ws b (n, k) (met ++ [p]) wt4 (fun q => q = p) → (∀ q, q ∈ wt2 → q ∈ wt4) → (NoWr b bk.1 → ∀ t ∈ bk.2.nx, (p.1, t) ∈ wt4) → Srch ws b (n, k) (met ++ [p]) wt4 (fun _ => False) := fun {wt4} s4 hsub hnx => by
      have hbu : ∀ bk', At2 ws p bk' → bk' = bk := fun bk' h => h.uniq ⟨w, hw, hbk⟩
      refine s4.done ⟨fun bk' h i d hd hn => ?_, fun bk' h i c hd hn => ?_, fun bk' h hn t ht => ?_⟩
      · rw [hbu bk' h] at hd hn
        exact hrd i (List.getElem?_eq_some_iff.mp hd).1 d hd hn
      · rw [hbu bk' h] at hd hn
        exact (hcl i (List.getElem?_eq_some_iff.mp hd).1 c hd hn).imp id (hsub _)
      · rw [hbu bk' h] at hn ht
        exact .inr (hnx hn t ht)
    have hnx2 : bk.2.nx.length ≤ 2 := by cases bk.2 <;> simp [Nd.nx]
    refine wss_one (ws_if ?_)
    walk_at "run"
    refine ite_d (fun hop => ?_) (fun hop => ?_)
    · walk_at "expr"
      walk_at "run"
      refine we_frz ?_
      refine we_map bk.2.nx natD (fun t => plD (p.1, t)) [("_law_to", 11)] ["_law_to", "_law_place"] [] [] bod (by decide +kernel) (by walk_at "mem") (by walk_at "wiped") ?_
      refine wi_tup ?_
      walk_at "run"
      obtain ⟨dl, e1, e2⟩ := bk.2.cut
      refine ⟨_, .inr (.inl ⟨dl, e1, rfl⟩), ?_⟩
      rw [e2]
      refine ⟨_, rfl, rfl, szl (by omega), fun _ _ => trivial, fun t ht => ⟨_, by walk_at "put", fun X1 inn L acc => ?_⟩, fun pq => ⟨_, _, _, rfl, rfl, ?_⟩⟩
      · have st1 := inn.st
        walk_at "run"
        exact ⟨rfl, rfl⟩
      refine wa_nil ?_
      refine md_extend (by walk_at "at") isL_lst (by simp only [List.length_map]; exact szl (by omega)) ?_
      have val2 : ∀ t ∈ bk.2.nx, ∃ bk', At2 ws (p.1, t) bk' := fun t ht => by
        have hlt := (hf.nx w hwm).lt bk.2.nx (List.mem_iff_getElem?.mpr ⟨p.2, by unfold nexts; rw [List.getElem?_map, hbk]; rfl⟩) t ht
        rw [nexts_len] at hlt
        exact ⟨_, w, hw, List.getElem?_eq_getElem hlt⟩
      have more : ∀ l : List Nat, (∀ t ∈ l, t ∈ bk.2.nx) → ∀ wt3 : List (Nat × Nat), Srch ws b (n, k) (met ++ [p]) wt3 (fun q => q = p) → Srch ws b (n, k) (met ++ [p]) (wt3 ++ l.map fun t => (p.1, t)) (fun q => q = p) := fun l => by
        induction l with
        | nil => intro _ wt3 s3; simpa using s3
        | cons t l ih =>
          intro hl wt3 s3
          have ht := hl t List.mem_cons_self
          have := ih (fun t h => hl t (List.mem_cons_of_mem _ h)) _ (s3.push (q := (p.1, t)) (val2 t ht) fun q => s3.back p (.inl (by simp)) (.step hw hbk hop ht q))
          rw [List.append_assoc] at this
          exact this
      have s4 := sound (more bk.2.nx (fun t h => h) wt2 sr2) (fun q h => by simp [h]) (fun _ t ht => List.mem_append_right _ (List.mem_map.mpr ⟨t, ht, rfl⟩))
      refine wss_nil ⟨_, ?_, met ++ [p], _, kvs2, _, _, _, _, _, s4, hk2, rfl, ?_, rfl, ?_⟩
      · simp only [List.length_append, List.length_singleton, List.length_map]; omega
      · simp only [List.length_append, List.length_singleton, List.length_map]; omega
      · rw [List.map_append, List.map_map]; rfl
    · refine wss_nil ⟨_, ?_, met ++ [p], wt2, kvs2, _, _, _, _, _, sound sr2 (fun q h => h) (fun h => absurd h hop), hk2, rfl, ?_, rfl, rfl⟩
      · rw [List.length_append, List.length_singleton]; omega
      · rw [List.length_append, List.length_singleton]; omega
end
end Gen

namespace Gen
open PySem L2 DL Wk
abbrev s_law_writes : Stmt := top 35
abbrev l_law_writes : List Str := ["_law_work_here", "_law_box"]
abbrev n_law_writes : List Str := ["_law_work_here", "_law_box", "_law_b", "_law_one"]
theorem sc_law_writes : FnScope n_law_writes ["_law_work_here", "_law_box"] (defScope s_law_writes) := ⟨rfl, rfl, rfl, by decide +kernel, rfl, by decide +kernel, by decide +kernel⟩
abbrev s_law_behind : Stmt := top 37
abbrev l_law_behind : List Str := ["_law_work_here", "_law_box", "_law_found", "_law_nexts_here", "_law_block", "_law_turn"]
abbrev n_law_behind : List Str := ["_law_work_here", "_law_box", "_law_found", "_law_nexts_here", "_law_block", "_law_turn", "_law_to"]
theorem sc_law_behind : FnScope n_law_behind ["_law_work_here", "_law_box"] (defScope s_law_behind) := ⟨rfl, rfl, rfl, by decide +kernel, rfl, by decide +kernel, by decide +kernel⟩
section
variable {P : Program} {w : World} {K : PySem.W.Frag} {mg : Str → Option Value} {base : Heap}
abbrev sp_law_writes : DSp := fun ds M Q => ∃ (w : W) (b : Nat), ds = [W.d w, natD b] ∧ Fit w ∧ Q (nlD (writesL w b)) M
theorem ok_law_writes {f : Addr} {fd : FuncData} (F : Fun K "_law_writes" "_law_writes" s_law_writes f fd) (hm : mg "_law_writes" = some (.ref f)) (hb : Binds K fd ["_law_work_here", "_law_box"] []) (hB : ∀ x ∈ (["range", "len", "any"] : List Str), mg x = none) : Fs P w K mg base 1 "_law_writes" 2 sp_law_writes := by
  refine fs_of (N := n_law_writes) (Ln := l_law_writes) (Bn := ["range", "len"]) (Fn := []) (Bx := ["range", "len", "any"]) F hm hb sc_law_writes rfl (by decide +kernel) hB ?_
  rintro X ds M Q bod ⟨w, b, rfl, hf, hQ⟩
  have st := bod.st
  have h16 := hf.len
  show WSs X ([("_law_work_here", some (.lst (w.map Bk.d))), ("_law_box", some (natD b)), ("_law_b", none), ("_law_one", none)] : VEnv) M _ _
  walk_at "ret"
  refine we_frz ?_
  refine we_pick (List.range w.length) natD natD (fun k => wrK b (w.getD k bk0)) [("_law_b", 2)] ["_law_b", "_law_work_here", "_law_box"] ["any"] [] bod (by decide +kernel) (by walk_at "mem") (by walk_at "wiped") ?_
  refine wi_range st (by walk_at "mem") ?_
  walk_at "run"
  rw [List.length_map, Int.toNat_natCast, rng0]
  refine ⟨by omega, by omega, rfl, by rw [List.length_range]; exact szl (by omega), fun _ _ => trivial, fun k hk => ⟨_, by walk_at "put", fun X1 inn L acc => ?_, fun hw X1 inn L acc => ?_⟩, fun p => ⟨_, _, _, rfl, rfl, hQ⟩⟩
  · have st1 := inn.st
    have hk := List.mem_range.mp hk
    have hbm : w.getD k bk0 ∈ w := List.mem_of_getElem? (at_bk hk)
    have h24 := hf.few _ hbm
    walk_at "run"
    refine we_frz ?_
    refine we_mapB (w.getD k bk0).1 Dd.d (fun d => .bl (d.wrB b)) st1 (blk_in (own2 := [("_law_one", 3)]) (Vb := ["_law_one", "_law_box"]) (Bb := []) (Fb := []) bod inn (by decide +kernel)) (by walk_at "mem") (by walk_at "wiped") ?_
    refine wi_list ?_
    walk_at "run"
    refine ⟨_, _, rfl, IxD.list isR_lst (atI_map (at_bk hk)), ?_⟩
    walk_at "run"
    refine ⟨_, _, rfl, IxD.tup rfl, ?_⟩
    refine ⟨_, isR_lst, rfl, szl (by omega), fun _ _ => isR_lst, fun d hd => ⟨_, by walk_at "put", fun X2 inn2 L2 acc2 => ?_⟩, fun p => ⟨_, _, _, rfl, rfl, ?_⟩⟩
    · have st2 := inn2.st
      obtain ⟨dl, e1, e2, e3⟩ := d.at0
      walk_at "run"
      refine ⟨_, _, rfl, .inl ⟨dl, .inr e1, e2⟩, ?_⟩
      walk_at "run"
      refine od_inS (ns := ["set", "add"]) (.inr rfl) ?_
      rw [d.word_wr]
      refine ⟨_, rfl, ?_⟩
      refine ite_b (fun h => ?_) (fun h => ?_)
      · walk_at "run"
        refine ⟨_, _, rfl, .inl ⟨dl, .inr e1, e3⟩, ?_⟩
        walk_at "run"
        refine od_eqI (i := (d.wb : Int)) (j := (b : Int)) ?_
        refine ⟨rfl, ?_⟩
        unfold Dd.wrB
        rw [h, Bool.true_and, show decide ((d.wb : Int) = (b : Int)) = decide (d.wb = b) from decide_eq_decide.mpr Int.ofNat_inj]
      · refine ⟨rfl, ?_⟩
        unfold Dd.wrB
        rw [h, Bool.false_and]
    refine wa_nil ?_
    refine cd_any st1 (bs := (w.getD k bk0).1.map fun d => d.wrB b) (by rw [List.map_map]; exact isR_lst) ?_
    refine ⟨_, rfl, ?_, rfl⟩
    unfold wrK
    rw [List.any_map]; rfl
  · have st1 := inn.st
    walk_at "run"
    exact ⟨rfl, rfl⟩
theorem nl_app (a b : List Nat) : nlD (a ++ b) = .lst (a.map natD ++ b.map natD) := by rw [nlD, List.map_append]
theorem met_mem {l : List Nat} {k : Nat} : (!decide ((k : Int) ∈ l.map (fun (n : Nat) => (n : Int)))) = !decide (k ∈ l) := by
  rw [decide_eq_decide.mpr mem_natI]
/-- set and sorted of a frozen list of blocks -/
abbrev sp_law_behind : DSp := fun ds M Q => ∃ (w : W) (b : Nat), ds = [W.d w, natD b] ∧ Fit w ∧ NxIn (nexts w) ∧ (∀ l ∈ nexts w, l.Nodup) ∧ Q (nlD (reachL w b)) M
theorem ok_law_behind {f : Addr} {fd : FuncData} (F : Fun K "_law_behind" "_law_behind" s_law_behind f fd) (hm : mg "_law_behind" = some (.ref f)) (hb : Binds K fd ["_law_work_here", "_law_box"] []) (hB : ∀ x ∈ (["range", "len", "list", "sorted", "set"] : List Str), mg x = none) (h_law_ends : Fs P w K mg base 1 "_law_ends" 1 sp_law_ends) (h_law_writes : Fs P w K mg base 1 "_law_writes" 2 sp_law_writes) : Fs P w K mg base 2 "_law_behind" 2 sp_law_behind := by
  refine fs_of (N := n_law_behind) (Ln := l_law_behind) (Bn := ["range", "len", "list", "sorted", "set"]) (Fn := ["_law_ends", "_law_writes"]) (Bx := ["range", "len", "list", "sorted", "set"]) F hm hb sc_law_behind rfl (by decide +kernel) hB ?_
  rintro X ds M Q bod ⟨w, b, rfl, hf, hn, hu, hQ⟩
  have st := bod.st
  have rm := bod.room
  have h1 := bod.tr h_law_ends
  have h2 := bod.tr h_law_writes
  have h16 := hf.len
  have hnl := nexts_len w
  have hwl := writesL_len w b
  have hbe := begs_len w (writesL w b)
  show WSs X ([("_law_work_here", some (.lst (w.map Bk.d))), ("_law_box", some (natD b)), ("_law_found", none), ("_law_nexts_here", none), ("_law_block", none), ("_law_turn", none), ("_law_to", none)] : VEnv) M _ _
  refine wss_cons (ws_asg ?_ (by walk_at "unf") (sw_no2 (.inl (by rw [bod.sc]; decide +kernel))) (by walk_at "unf"))
  walk_at "run"
  refine ⟨_, w, rfl, isR_lst, fun _ _ => isR_lst, h16, ?_⟩
  walk_at "run"
  refine wg_tup st rfl ?_
  refine wgs_cons (wg_name st (by walk_at "mem") (by walk_at "put") ?_)
  refine wgs_cons (wg_name st (by walk_at "mem") (by walk_at "put") ?_)
  refine wgs_nil ?_
  rw [show w.map (fun b => nlD b.2.nx) = (nexts w).map nlD from by unfold nexts; rw [List.map_map]; rfl]
  refine wss_cons (ws_for st (wi_list ?_))
  walk_at "run"
  refine ⟨w, b, rfl, hf, ?_⟩
  refine ⟨_, isR_lst, fun i Γ' M' => ∃ o1 : Option D, Γ' = ([("_law_work_here", some (.lst (w.map Bk.d))), ("_law_box", some (natD b)), ("_law_found", some (nlD (begs w ((writesL w b).take i)))), ("_law_nexts_here", some (.lst ((nexts w).map nlD))), ("_law_block", o1), ("_law_turn", none), ("_law_to", none)] : VEnv) ∧ M' = M, ?_, ?_, ?_, ?_⟩
  · exact ⟨_, rfl, rfl⟩
  · exact fun _ _ _ _ => isR_lst
  · rintro i x Γ' M' hx ⟨o1, rfl, rfl⟩
    rw [List.getElem?_map] at hx
    obtain ⟨k, hkw, rfl⟩ := Option.map_eq_some_iff.mp hx
    have hkl := writesL_lt (List.mem_of_getElem? hkw)
    have hnx := at_nx hkl
    have h2n := nx_two (w := w) (k := k)
    have hbl := begs_len w ((writesL w b).take i)
    rw [List.length_take] at hbl
    refine wg_name st (by walk_at "mem") (by walk_at "put") ?_
    walk_at "set"
    walk_at "run"
    refine ⟨_, _, rfl, IxD.list isR_lst (atI_map hnx), ?_⟩
    refine od_cat isL_lst isL_lst (by simp only [List.length_map]; exact szl (by omega)) ?_
    walk_at "put!"
    refine wss_nil ?_
    refine ⟨some (natD k), ?_, rfl⟩
    rw [show begs w ((writesL w b).take (i + 1)) = begs w ((writesL w b).take i) ++ (nexts w).getD k [] from by rw [List.take_add_one, hkw]; unfold begs; simp, nl_app]
  · rintro Γ' M' ⟨o1, rfl, rfl⟩
    rw [List.length_map, List.take_length]
    have hlt := begs_lt (w := w) hn (l := writesL w b)
    refine wss_cons (ws_for st (wi_range st (by walk_at "mem") ?_))
    walk_at "run"
    rw [List.length_map]
    refine ⟨by omega, by omega, fun i Γ' M2 => ∃ (fd : List Nat) (o1 o2 : Option D), Bh (nexts w) (begs w (writesL w b)) fd ∧ (closedIn (nexts w) fd ∨ i ≤ cnt (nexts w).length fd) ∧ Γ' = ([("_law_work_here", some (.lst (w.map Bk.d))), ("_law_box", some (natD b)), ("_law_found", some (nlD fd)), ("_law_nexts_here", some (.lst ((nexts w).map nlD))), ("_law_block", o1), ("_law_turn", o2), ("_law_to", none)] : VEnv) ∧ M2 = M', ?_, ?_, ?_, ?_⟩
    · exact ⟨begs w (writesL w b), _, _, ⟨fun k hk => .base hk, fun k hk => hk, by omega⟩, .inr (Nat.zero_le _), rfl, rfl⟩
    · intros; trivial
    · rintro i x Γ' M2 hx ⟨fd, o1, o2, bh, hi, rfl, rfl⟩
      have hfl := bh.len
      have hcl := cnt_le (nexts w).length fd
      refine wg_name st (by walk_at "mem") (by walk_at "put") ?_
      refine wss_one (ws_for st (wi_list ?_))
      walk_at "run"
      refine cd_list (.inl isR_lst) ?_
      refine ⟨_, isR_lst, fun j Γ' M3 => ∃ (f2 : List Nat) (o1 : Option D), Bh (nexts w) (begs w (writesL w b)) f2 ∧ Bt (nexts w) fd j f2 ∧ Γ' = ([("_law_work_here", some (.lst (w.map Bk.d))), ("_law_box", some (natD b)), ("_law_found", some (nlD f2)), ("_law_nexts_here", some (.lst ((nexts w).map nlD))), ("_law_block", o1), ("_law_turn", some x), ("_law_to", none)] : VEnv) ∧ M3 = M2, ?_, ?_, ?_, ?_⟩
      · exact ⟨fd, o1, bh, ⟨fun k hk => hk, fun k hk => by simp at hk, fun _ => rfl⟩, rfl, rfl⟩
      · exact fun _ _ _ _ => isR_lst
      · rintro j y Γ' M3 hy ⟨f2, o1, bh2, bt, rfl, rfl⟩
        rw [List.getElem?_map] at hy
        obtain ⟨k, hkf, rfl⟩ := Option.map_eq_some_iff.mp hy
        have hk2 := bt.sub k (List.mem_of_getElem? hkf)
        have hkl : k < w.length := by have := (bh2.come k hk2).lt hn hlt; omega
        have hnx := at_nx hkl
        have h2n := nx_two (w := w) (k := k)
        have hf2 := bh2.len
        have hc2 := cnt_le (nexts w).length f2
        refine wg_name st (by walk_at "mem") (by walk_at "put") ?_
        refine wss_cons (ws_set st (by walk_at "mem") ?_ (by walk_at "unf"))
        walk_at "run"
        refine we_frz ?_
        refine we_pick ((nexts w).getD k []) natD natD (fun t => !decide (t ∈ f2)) [("_law_to", 6)] ["_law_to", "_law_found"] [] [] bod (by decide +kernel) (by walk_at "mem") (by walk_at "wiped") ?_
        refine wi_list ?_
        walk_at "run"
        refine ⟨_, _, rfl, IxD.list isR_lst (atI_map hnx), ?_⟩
        refine ⟨_, isR_lst, rfl, szl (by omega), fun _ _ => isR_lst, fun t ht => ⟨_, by walk_at "put", fun X1 inn L acc => ?_, fun hw X1 inn L acc => ?_⟩, fun p => ⟨_, _, _, rfl, rfl, ?_⟩⟩
        · have st1 := inn.st
          walk_at "run"
          refine od_notInI (i := (t : Int)) (ns := f2.map fun (n : Nat) => (n : Int)) (.inl isR_nl) ?_
          exact ⟨_, rfl, met_mem, rfl⟩
        · have st1 := inn.st
          walk_at "run"
          exact ⟨rfl, rfl⟩
        · have := List.length_filter_le (fun t => !decide (t ∈ f2)) ((nexts w).getD k [])
          refine od_cat isL_lst isL_lst (by simp only [List.length_map]; exact szl (by omega)) ?_
          walk_at "put!"
          refine wss_nil ?_
          refine ⟨f2 ++ addN (nexts w) f2 k, some (natD k), bh2.add hn hu hk2, bt.add hkf, ?_, rfl⟩
          rw [nl_app]; rfl
      · rintro Γ' M3 ⟨f2, o1, bh2, bt, rfl, rfl⟩
        rw [List.length_map] at bt
        exact ⟨f2, _, _, bh2, bt.step hn hi, rfl, rfl⟩
    · rintro Γ' M2 ⟨fd, o1, o2, bh, hi, rfl, rfl⟩
      have hfl := bh.len
      have hcl := cnt_le (nexts w).length fd
      rw [rngD_length, Int.toNat_natCast] at hi
      have hfin := bh.fin hn hlt (by rw [hnl] at hi ⊢; exact hi)
      walk_at "ret"
      refine we_gc ?_
      walk_at "run"
      refine cd_setI st (ns := fd.map fun (n : Nat) => (n : Int)) isR_nl (by rw [List.length_map]; omega) fun ps cc hcc => ?_
      walk_at "run"
      refine cd_sortedSet st .here ?_ (upI' (comeL_up (nx := nexts w) (bs := begs w (writesL w b)))) (fun k => ?_) ?_
      · have := hcc ((List.range 60).map fun (n : Nat) => (n : Int)) (fun k hk => by
          obtain ⟨n, hn', rfl⟩ := List.mem_map.mp hk
          have := (bh.come n hn').lt hn hlt
          exact List.mem_map.mpr ⟨n, List.mem_range.mpr (by omega), rfl⟩)
        rw [List.length_map, List.length_range] at this
        omega
      · rw [decide_eq_true_iff, List.mem_map, List.mem_map]
        exact ⟨fun ⟨n, h, e⟩ => ⟨n, (hfin n).mp h, e⟩, fun ⟨n, h, e⟩ => ⟨n, (hfin n).mpr h, e⟩⟩
      rw [List.map_map]
      exact ⟨[_], _, .refl _, hQ⟩
end
end Gen

namespace Gen
open PySem L2 DL Wk
abbrev s_law_busy : Stmt := top 38
abbrev l_law_busy : List Str := ["_law_works_here", "_law_number_here", "_law_box", "_law_work_here", "_law_both"]
abbrev n_law_busy : List Str := ["_law_works_here", "_law_number_here", "_law_box", "_law_work_here", "_law_both", "_law_b"]
theorem sc_law_busy : FnScope n_law_busy ["_law_works_here", "_law_number_here", "_law_box"] (defScope s_law_busy) := ⟨rfl, rfl, rfl, by decide +kernel, rfl, by decide +kernel, by decide +kernel⟩
abbrev s_law_boxes : Stmt := top 39
abbrev l_law_boxes : List Str := ["_law_work_here"]
abbrev n_law_boxes : List Str := ["_law_work_here", "_law_box"]
theorem sc_law_boxes : FnScope n_law_boxes ["_law_work_here"] (defScope s_law_boxes) := ⟨rfl, rfl, rfl, by decide +kernel, rfl, by decide +kernel, by decide +kernel⟩
section
variable {P : Program} {w : World} {K : PySem.W.Frag} {mg : Str → Option Value} {base : Heap}
abbrev sp_law_busy : DSp := fun ds M Q => ∃ (ws : List W) (n b : Nat) (w : W), ds = [Ws.d ws, natD n, natD b] ∧ FitWs ws ∧ ws[n]? = some w ∧ (∀ l ∈ nexts w, l.Nodup) ∧ Q (nlD (busyL ws n b w)) M
theorem ok_law_busy {f : Addr} {fd : FuncData} (F : Fun K "_law_busy" "_law_busy" s_law_busy f fd) (hm : mg "_law_busy" = some (.ref f)) (hb : Binds K fd ["_law_works_here", "_law_number_here", "_law_box"] []) (hB : ∀ x ∈ (["sorted", "set"] : List Str), mg x = none) (h_law_behind : Fs P w K mg base 2 "_law_behind" 2 sp_law_behind) (h_law_is_asked : Fs P w K mg base 2 "_law_is_asked" 4 sp_law_is_asked) (h_law_writes : Fs P w K mg base 1 "_law_writes" 2 sp_law_writes) : Fs P w K mg base 3 "_law_busy" 3 sp_law_busy := by
  refine fs_of (N := n_law_busy) (Ln := l_law_busy) (Bn := ["sorted", "set"]) (Fn := ["_law_behind", "_law_writes"]) (Bx := ["sorted", "set"]) F hm hb sc_law_busy rfl (by decide +kernel) hB ?_
  rintro X ds M Q bod ⟨ws, n, b, w, rfl, hf, hw, hnd, hQ⟩
  have st := bod.st
  have rm := bod.room
  have h1 := bod.tr h_law_behind
  have h2 := bod.tr h_law_is_asked
  have h3 := bod.tr h_law_writes
  have hwm := List.mem_of_getElem? hw
  have hfw := hf.fit w hwm
  have h16 := hfw.len
  have hwl := writesL_len w b
  show WSs X ([("_law_works_here", some (.lst (ws.map W.d))), ("_law_number_here", some (natD n)), ("_law_box", some (natD b)), ("_law_work_here", none), ("_law_both", none), ("_law_b", none)] : VEnv) M _ _
  walk_at "set"
  walk_at "run"
  refine ⟨_, _, rfl, IxD.list isR_lst (atI_map hw), ?_⟩
  walk_at "put!"
  refine wss_cons (ws_setPick (j := 4) (reachL w b) natD natD (fun k => awtB ws b n k) [("_law_b", 5)] ["_law_b", "_law_works_here", "_law_number_here", "_law_box"] [] ["_law_is_asked"] bod (by decide +kernel) (by walk_at "mem") (by walk_at "wiped") (by walk_at "mem") (by decide +kernel) rfl (by decide +kernel) ?_)
  refine wi_list ?_
  walk_at "run"
  refine ⟨w, b, rfl, hfw, hf.nx w hwm, hnd, ?_⟩
  walk_at "run"
  have rl : (reachL w b).length ≤ 16 := by
    have := comeL_len (nx := nexts w) (bs := begs w (writesL w b))
    have := nexts_len w
    unfold reachL
    omega
  have rlt : ∀ k ∈ reachL w b, k < w.length := fun k hk => by
    have := (mem_comeL.mp hk).1
    have := nexts_len w
    omega
  refine ⟨_, isR_lst, rfl, szl (by omega), fun _ _ => isR_lst, fun k hk => ⟨_, by walk_at "put", fun X1 inn L acc => ?_, fun hw X1 inn L acc => ?_⟩, fun p => ⟨_, by walk_at "put", ?_⟩⟩
  · have st1 := inn.st
    have g1 := inn.tr h2
    have rm1 := inn.rm rm
    have hkl := rlt k hk
    walk_at "run"
    refine ⟨ws, n, k, b, rfl, hf, ⟨_, w, hw, List.getElem?_eq_getElem hkl⟩, ?_⟩
    walk_at "run"
    exact ⟨rfl, rfl⟩
  · have st1 := inn.st
    walk_at "run"
    exact ⟨rfl, rfl⟩
  refine wss_frz (x := "_law_both") (by walk_at "look") (by walk_at "put") st (by walk_at "mem") ?_
  have bl : ((reachL w b).filter fun k => awtB ws b n k).length ≤ 16 := Nat.le_trans (List.length_filter_le _ _) rl
  walk_at "ret"
  refine we_gc ?_
  walk_at "run"
  refine ⟨w, b, rfl, hfw, ?_⟩
  walk_at "run"
  refine od_cat isL_lst isL_lst (by simp only [List.length_map]; exact szl (by omega)) ?_
  refine wa_nil ?_
  rw [← nl_app]
  refine cd_setI st (ns := (writesL w b ++ (reachL w b).filter fun k => awtB ws b n k).map fun (n : Nat) => (n : Int)) isR_nl (by simp only [List.length_map, List.length_append]; omega) fun ps cc hcc => ?_
  walk_at "run"
  have hall : ∀ k ∈ writesL w b ++ (reachL w b).filter fun k => awtB ws b n k, k < w.length := fun k hk => by
    rcases List.mem_append.mp hk with hk | hk
    · exact writesL_lt hk
    · exact rlt k (List.mem_filter.mp hk).1
  refine cd_sortedSet st .here ?_ (upI' (sortU_up w.length (writesL w b ++ (reachL w b).filter fun k => awtB ws b n k))) (fun k => ?_) ?_
  · have := hcc ((List.range 60).map fun (n : Nat) => (n : Int)) (fun k hk => by
      obtain ⟨n, hn', rfl⟩ := List.mem_map.mp hk
      have := hall n hn'
      exact List.mem_map.mpr ⟨n, List.mem_range.mpr (by omega), rfl⟩)
    rw [List.length_map, List.length_range] at this
    omega
  · rw [decide_eq_true_iff, List.mem_map, List.mem_map]
    exact ⟨fun ⟨n, h, e⟩ => ⟨n, (mem_sortU.mp h).2, e⟩, fun ⟨n, h, e⟩ => ⟨n, mem_sortU.mpr ⟨hall n h, h⟩, e⟩⟩
  rw [List.map_map]
  exact ⟨[_], _, .refl _, hQ⟩
/-- the boxes below eight that are written -/
abbrev boxL (w : W) : List Nat := (List.range 8).filter fun b => !decide (writesL w b = [])
abbrev sp_law_boxes : DSp := fun ds M Q => ∃ w : W, ds = [W.d w] ∧ Fit w ∧ ∀ p, Q (.ref p) ((p, .lst ((boxL w).map natD)) :: M)
theorem ok_law_boxes {f : Addr} {fd : FuncData} (F : Fun K "_law_boxes" "_law_boxes" s_law_boxes f fd) (hm : mg "_law_boxes" = some (.ref f)) (hb : Binds K fd ["_law_work_here"] []) (hB : ∀ x ∈ (["range"] : List Str), mg x = none) (h_law_writes : Fs P w K mg base 1 "_law_writes" 2 sp_law_writes) : Fs P w K mg base 2 "_law_boxes" 1 sp_law_boxes := by
  refine fs_of (N := n_law_boxes) (Ln := l_law_boxes) (Bn := ["range"]) (Fn := []) (Bx := ["range"]) F hm hb sc_law_boxes rfl (by decide +kernel) hB ?_
  rintro X ds M Q bod ⟨w, rfl, hf, hQ⟩
  have st := bod.st
  have rm := bod.room
  have h1 := bod.tr h_law_writes
  have h16 := hf.len
  show WSs X ([("_law_work_here", some (.lst (w.map Bk.d))), ("_law_box", none)] : VEnv) M _ _
  walk_at "ret"
  refine we_pick (List.range 8) natD natD (fun b => !decide (writesL w b = [])) [("_law_box", 1)] ["_law_box", "_law_work_here"] [] ["_law_writes"] bod (by decide +kernel) (by walk_at "mem") (by walk_at "wiped") ?_
  refine wi_range st (by walk_at "mem") ?_
  walk_at "run"
  rw [show ((8 : Int).toNat) = 8 from rfl, rng0]
  refine ⟨by omega, by omega, rfl, by rw [List.length_range]; exact szl (by omega), fun _ _ => trivial, fun b hb => ⟨_, by walk_at "put", fun X1 inn L acc => ?_, fun hw X1 inn L acc => ?_⟩, fun p => hQ p⟩
  · have st1 := inn.st
    have g1 := inn.tr h1
    have rm1 := inn.rm rm
    have hwl := writesL_len w b
    walk_at "run"
    refine ⟨w, b, rfl, hf, ?_⟩
    walk_at "run"
    refine od_neL st1 (ns := (writesL w b).map fun (n : Nat) => (n : Int)) (ms := []) isR_nl isR_lst ?_
    refine ⟨_, rfl, ?_, rfl⟩
    rw [decide_eq_decide.mpr (show (writesL w b).map (fun (n : Nat) => (n : Int)) = [] ↔ writesL w b = [] from List.map_eq_nil_iff)]
  · have st1 := inn.st
    walk_at "run"
    exact ⟨rfl, rfl⟩
theorem boxL_nd (w : W) : (boxL w).Nodup := List.nodup_range.filter _
theorem boxL_len (w : W) : (boxL w).length ≤ 8 := by
  have := List.length_filter_le (fun b => !decide (writesL w b = [])) (List.range 8)
  rw [List.length_range] at this
  exact this
theorem boxL_lt {w : W} {b : Nat} (h : b ∈ boxL w) : b < 8 := List.mem_range.mp (List.mem_filter.mp h).1
theorem boxL_eq (w : W) : boxL w = boxesOf w := by
  unfold boxesOf
  refine List.filter_congr fun b _ => ?_
  rw [Bool.eq_iff_iff, Bool.not_eq_true', decide_eq_false_iff_not, decide_eq_true_iff]
  unfold wrote writesL
  rw [List.filter_eq_nil_iff]
  constructor
  · intro h
    refine Classical.byContradiction fun hb => h fun k hk hw => hb ?_
    have hk := List.mem_range.mp hk
    rw [← wrK_mem, decide_eq_true_iff] at hw
    exact List.mem_flatMap.mpr ⟨_, List.mem_of_getElem? (at_bk hk), hw⟩
  · intro h hn
    obtain ⟨bk, h1, h2⟩ := List.mem_flatMap.mp h
    obtain ⟨k, hk⟩ := List.mem_iff_getElem?.mp h1
    have hkl := (List.getElem?_eq_some_iff.mp hk).1
    refine hn k (List.mem_range.mpr hkl) ?_
    have e : w.getD k bk0 = bk := Option.some.inj ((at_bk hkl).symm.trans hk)
    rw [e, ← wrK_mem, decide_eq_true_iff]
    exact h2
end
end Gen

namespace Gen
open PySem L2 DL Wk
abbrev scome_to : Stmt := top 4
abbrev lcome_to : List Str := ["nexts", "begins", "found", "waiting", "there"]
abbrev ncome_to : List Str := ["nexts", "begins", "found", "waiting", "there", "block"]
theorem sccome_to : FnScope ncome_to ["nexts", "begins"] (defScope scome_to) := ⟨rfl, rfl, rfl, by decide +kernel, rfl, by decide +kernel, by decide +kernel⟩
abbrev snexts_of : Stmt := top 3
abbrev lnexts_of : List Str := ["work"]
abbrev nnexts_of : List Str := ["work", "deeds", "end"]
theorem scnexts_of : FnScope nnexts_of ["work"] (defScope snexts_of) := ⟨rfl, rfl, rfl, by decide +kernel, rfl, by decide +kernel, by decide +kernel⟩
section
variable {P : Program} {w : World} {K : PySem.W.Frag} {mg : Str → Option Value} {base : Heap}
abbrev spcome_to : DSp := fun ds M Q => ∃ (nx : List (List Nat)) (bs : List Nat), ds = [.lst (nx.map nlD), .lst (bs.map natD)] ∧ NxIn nx ∧ (∀ b ∈ bs, b < nx.length) ∧ nx.length ≤ 60 ∧ bs.length ≤ 1000 ∧ (∀ l ∈ nx, l.length ≤ 1000) ∧ ∀ p, Q (.ref p) ((p, .lst ((comeL nx bs).map natD)) :: M)
theorem okcome_to {f : Addr} {fd : FuncData} (F : Fun K "come_to" "come_to" scome_to f fd) (hm : mg "come_to" = some (.ref f)) (hb : Binds K fd ["nexts", "begins"] []) (hB : ∀ x ∈ (["dict", "list", "len", "sorted"] : List Str), mg x = none) : Fs P w K mg base 1 "come_to" 2 spcome_to := by
  refine fs_of (N := ncome_to) (Ln := lcome_to) (Bn := ["dict", "list", "len", "sorted"]) (Fn := []) (Bx := ["dict", "list", "len", "sorted"]) F hm hb sccome_to rfl (by decide +kernel) hB ?_
  rintro X ds M Q bod ⟨nx, bs, rfl, hn, hb, h60, hbl, hnl, hQ⟩
  have st := bod.st
  show WSs X ([("nexts", some (.lst (nx.map nlD))), ("begins", some (.lst (bs.map natD))), ("found", none), ("waiting", none), ("there", none), ("block", none)] : VEnv) M _ _
  walk_at "set"
  walk_at "run"
  refine we_frz ?_
  refine we_map bs natD (fun n => .tup [natD n, .bl true]) [("block", 5)] ["block"] [] [] bod (by decide +kernel) (by walk_at "mem") (by walk_at "wiped") ?_
  refine wi_list ?_
  walk_at "run"
  refine ⟨_, isR_lst, rfl, szl (by omega), fun _ _ => isR_lst, fun a ha => ⟨_, by walk_at "put", fun X1 inn L acc => ?_⟩, fun p => ⟨_, _, _, rfl, rfl, ?_⟩⟩
  · have st1 := inn.st
    walk_at "run"
    exact ⟨rfl, rfl⟩
  refine wa_nil ?_
  refine cd_dictP st (ps := bs.map fun (n : Nat) => ((.inl (n : Int) : Key), D.bl true)) (by rw [List.map_map]; exact isR_lst) fun pf => ?_
  walk_at "run"
  walk_at "set"
  walk_at "run"
  refine cd_listO (.inl isR_lst) fun pw => ?_
  walk_at "run"
  obtain ⟨fd0, hk0, nd0, hm0, _⟩ := (KeysOf.merge (v := .bl true) bs keys_nil).ex
  rw [List.nil_append] at hm0
  refine wss_cons (ws_while st (fun m Γ' M' => ∃ (fd wt : List Nat) (kvs : List (Key × D)) (o1 : Option D), Dfs nx bs fd wt (fun _ => False) ∧ kvs.map (·.1) = (fd.map fun (n : Nat) => (Sum.inl (n : Int) : Key)) ∧ m = wt.length + 2 * (nx.length - fd.length) ∧ m ≤ bs.length + 2 * nx.length ∧ Γ' = ([("nexts", some (.lst (nx.map nlD))), ("begins", some (.lst (bs.map natD))), ("found", some (.ref pf)), ("waiting", some (.ref pw)), ("there", o1), ("block", none)] : VEnv) ∧ M' = (pw, .lst (wt.map natD)) :: (pf, .dK kvs) :: M) _ ⟨fd0, bs, _, _, .start nd0 hm0, hk0, rfl, by omega, rfl, rfl⟩ ?_)
  rintro m Γ' M' ⟨fd, wt, kvs, o1, dfs, hk, hm, hmb, rfl, rfl⟩
  walk_at "run"
  refine ite_d (fun hpos => ?_) (fun hpos => ?_)
  · have hne : wt ≠ [] := by rintro rfl; simp at hpos
    obtain ⟨wt, b, rfl⟩ : ∃ wt' b, wt = wt' ++ [b] := ⟨wt.dropLast, wt.getLast hne, (List.dropLast_concat_getLast hne).symm⟩
    obtain ⟨hbf, dfs1⟩ := dfs.pop
    have hbl2 := dfs.lt hn hb b hbf
    have el : nx[b]? = some nx[b] := List.getElem?_eq_getElem hbl2
    generalize nx[b] = l at el
    have hlm := List.mem_of_getElem? el
    have hll := hnl l hlm
    rw [List.length_append, List.length_singleton] at hm
    refine wss_one (ws_for st (wi_list ?_))
    rw [List.map_append, List.map_singleton]
    walk_at "run"
    refine md_pop (by walk_at "at") ?_
    refine ⟨_, _, rfl, IxD.list isR_lst (atI_map el), ?_⟩
    refine ⟨_, isR_lst, fun i Γ' M' => ∃ (fd wt : List Nat) (kvs : List (Key × D)) (o1 : Option D), Dfs nx bs fd wt (fun a => a = b) ∧ (∀ c ∈ l.take i, c ∈ fd) ∧ b ∈ fd ∧ kvs.map (·.1) = (fd.map fun (n : Nat) => (Sum.inl (n : Int) : Key)) ∧ wt.length + 2 * (nx.length - fd.length) + 1 ≤ m ∧ Γ' = ([("nexts", some (.lst (nx.map nlD))), ("begins", some (.lst (bs.map natD))), ("found", some (.ref pf)), ("waiting", some (.ref pw)), ("there", o1), ("block", none)] : VEnv) ∧ M' = (pw, .lst (wt.map natD)) :: (pf, .dK kvs) :: M, ?_, ?_, ?_, ?_⟩
    · exact ⟨fd, wt, kvs, _, dfs1, by simp, hbf, hk, by omega, rfl, rfl⟩
    · exact fun _ _ _ _ => isR_lst
    · rintro i x Γ' M' hx ⟨fd, wt, kvs, o1, dfs, hdone, hbf, hk, hmm, rfl, rfl⟩
      rw [List.getElem?_map] at hx
      obtain ⟨c, hc, rfl⟩ := Option.map_eq_some_iff.mp hx
      have hcl := List.mem_of_getElem? hc
      have hcn := hn.lt l hlm c hcl
      have hlen := dfs.len hn hb
      refine wg_name st (by walk_at "mem") (by walk_at "put") ?_
      refine wss_one (ws_if ?_)
      walk_at "run"
      refine od_notInD st (GetD.dk (i := (c : Int)) (by walk_at "at")) ?_
      rw [valA_in hk]
      have htk : ∀ fd' : List Nat, (∀ y ∈ fd, y ∈ fd') → c ∈ fd' → ∀ y ∈ l.take (i + 1), y ∈ fd' := fun fd' h1 h2 y hy => by
        rw [List.take_add_one, hc] at hy
        rcases List.mem_append.mp hy with hy | hy
        · exact h1 y (hdone y hy)
        · rw [Option.mem_toList] at hy
          exact Option.some.inj hy ▸ h2
      walk_at "run"
      refine ite_n (fun hnot => ?_) (fun hin => ?_)
      · walk_at "asg"
        walk_at "run"
        refine wg_dix st ?_ (by intro _; with_unfolding_all rfl)
        walk_at "run"
        have hfl : (fd ++ [c]).length ≤ nx.length := (dfs.push hbf el hcl hnot).len hn hb
        rw [List.length_append, List.length_singleton] at hfl
        have hkl : kvs.length = fd.length := by have := congrArg List.length hk; simpa using this
        refine ⟨pf, _, rfl, .inl ⟨kvs, .inl (c : Int), by walk_at "at", rfl, szlt (by omega), ?_⟩⟩
        walk_at "expr"
        walk_at "run"
        refine md_append (by walk_at "at") (szlt (by rw [List.length_map]; omega)) ?_
        refine wss_nil ?_
        refine ⟨fd ++ [c], wt ++ [c], putA kvs (.inl (c : Int)) (.bl true), _, dfs.push hbf el hcl hnot, htk _ (fun y hy => by simp [hy]) (by simp), by simp [hbf], ?_, ?_, rfl, ?_⟩
        · rw [putA_keys, valA_in hk, if_neg (by simpa using hnot), hk, List.map_append]; rfl
        · simp only [List.length_append, List.length_singleton]; omega
        · simp
      · exact wss_nil ⟨fd, wt, kvs, _, dfs, htk _ (fun y hy => hy) hin, hbf, hk, hmm, rfl, rfl⟩
    · rintro Γ' M' ⟨fd, wt, kvs, o1, dfs, hdone, hbf, hk, hmm, rfl, rfl⟩
      rw [List.length_map, List.take_length] at hdone
      exact ⟨_, by omega, fd, wt, kvs, _, dfs.done el hdone, hk, rfl, by omega, rfl, rfl⟩
  · have : wt = [] := by
      cases wt with
      | nil => rfl
      | cons a t => simp at hpos
    subst this
    have pm := dfs.fin hn hb
    have hfl := dfs.len hn hb
    walk_at "ret"
    refine we_finO ?_
    walk_at "run"
    refine cd_sortedKO st (by walk_at "at") (ks := fd.map fun (n : Nat) => (n : Int)) (by rw [hk, List.map_map]; rfl) (by rw [List.length_map]; omega) (pm.map _) (upI comeL_up) fun p => ?_
    refine ⟨p, _, [(pw, _), (pf, _)], M, rfl, .trans (.swap _ _ _) (.cons _ (.swap _ _ _)), ?_⟩
    rw [List.map_map]
    exact hQ p
abbrev spnexts_of : DSp := fun ds M Q => ∃ (d : D) (w : W), ds = [d] ∧ IsR M d (w.map Bk.d) ∧ (∀ L acc, IsR ((L, .lst acc) :: M) d (w.map Bk.d)) ∧ w.length ≤ 60 ∧ Q (.lst ((nexts w).map nlD)) M
theorem oknexts_of {f : Addr} {fd : FuncData} (F : Fun K "nexts_of" "nexts_of" snexts_of f fd) (hm : mg "nexts_of" = some (.ref f)) (hb : Binds K fd ["work"] []) (hB : ∀ x ∈ (["list"] : List Str), mg x = none) : Fs P w K mg base 1 "nexts_of" 1 spnexts_of := by
  refine fs_of (N := nnexts_of) (Ln := lnexts_of) (Bn := []) (Fn := []) (Bx := ["list"]) F hm hb scnexts_of rfl (by decide +kernel) hB ?_
  rintro X ds M Q bod ⟨d, w, rfl, hd, hst, hl, hQ⟩
  have st := bod.st
  show WSs X ([("work", some (d)), ("deeds", none), ("end", none)] : VEnv) M _ _
  walk_at "ret"
  refine we_frz ?_
  refine we_mapT2 w (fun b => .lst (b.1.map Dd.d)) (fun b => b.2.d) (fun b => nlD b.2.nx) [("deeds", 1), ("end", 2)] ["deeds", "end"] ["list"] [] bod (by decide +kernel) (by walk_at "mem") (by walk_at "mem") (by walk_at "wiped") ?_
  refine wi_list ?_
  walk_at "run"
  refine ⟨_, hd, rfl, szl (by omega), hst, fun b hb => ⟨_, _, by walk_at "put", by walk_at "put", fun X1 inn L acc => ?_⟩, fun p => ⟨_, _, _, rfl, rfl, ?_⟩⟩
  · have st1 := inn.st
    walk_at "run"
    obtain ⟨ds, e1, e2⟩ := b.2.cut
    refine ⟨_, .inr (.inl ⟨ds, e1, rfl⟩), ?_⟩
    walk_at "run"
    rw [e2]
    refine cd_list (.inr rfl) ?_
    exact ⟨rfl, rfl⟩
  · unfold nexts at hQ
    rw [List.map_map] at hQ
    exact hQ
end
end Gen

namespace Gen
open PySem L2 DL Wk
abbrev sboxes_written : Stmt := top 5
abbrev lboxes_written : List Str := ["deeds"]
abbrev nboxes_written : List Str := ["deeds", "deed"]
theorem scboxes_written : FnScope nboxes_written ["deeds"] (defScope sboxes_written) := ⟨rfl, rfl, rfl, by decide +kernel, rfl, by decide +kernel, by decide +kernel⟩
section
variable {P : Program} {w : World} {K : PySem.W.Frag} {mg : Str → Option Value} {base : Heap}
abbrev spboxes_written : DSp := fun ds M Q => ∃ dd : List Dd, ds = [.lst (dd.map Dd.d)] ∧ dd.length ≤ 24 ∧ Q (.lst ((dd.filter Dd.wr).map fun d => natD d.wb)) M
theorem okboxes_written {f : Addr} {fd : FuncData} (F : Fun K "boxes_written" "boxes_written" sboxes_written f fd) (hm : mg "boxes_written" = some (.ref f)) (hb : Binds K fd ["deeds"] []) : Fs P w K mg base 1 "boxes_written" 1 spboxes_written := by
  refine fs_of (N := nboxes_written) (Ln := lboxes_written) (Bn := []) (Fn := []) (Bx := []) F hm hb scboxes_written rfl (by decide +kernel) (fun _ h => by cases h) ?_
  rintro X ds M Q bod ⟨dd, rfl, hl, hQ⟩
  have st := bod.st
  show WSs X ([("deeds", some (.lst (dd.map Dd.d))), ("deed", none)] : VEnv) M _ _
  walk_at "ret"
  refine we_frz ?_
  refine we_pick dd Dd.d (fun d => natD d.wb) Dd.wr [("deed", 1)] ["deed"] [] [] bod (by decide +kernel) (by walk_at "mem") (by walk_at "wiped") ?_
  refine wi_list ?_
  walk_at "run"
  refine ⟨_, isR_lst, rfl, szl (by omega), fun _ _ => isR_lst, fun d hd => ⟨_, by walk_at "put", fun X1 inn L acc => ?_, fun hw X1 inn L acc => ?_⟩, fun p => ⟨_, _, _, rfl, rfl, hQ⟩⟩
  · have st1 := inn.st
    obtain ⟨ds, e1, e2, e3⟩ := d.at0
    walk_at "run"
    refine ⟨_, _, rfl, .inl ⟨ds, .inr e1, e2⟩, ?_⟩
    walk_at "run"
    refine od_inS (ns := ["set", "add"]) (.inr rfl) ?_
    walk_at "run"
    exact ⟨d.word_wr, rfl⟩
  · have st1 := inn.st
    obtain ⟨ds, e1, e2, e3⟩ := d.at0
    walk_at "run"
    refine ⟨_, _, rfl, .inl ⟨ds, .inr e1, e3⟩, ?_⟩
    exact ⟨rfl, rfl⟩
end
end Gen

namespace Gen
open PySem L2 DL Wk
abbrev sboxes_read : Stmt := top 8
abbrev lboxes_read : List Str := ["deed", "asked"]
abbrev nboxes_read : List Str := ["deed", "asked"]
theorem scboxes_read : FnScope nboxes_read ["deed", "asked"] (defScope sboxes_read) := ⟨rfl, rfl, rfl, by decide +kernel, rfl, by decide +kernel, by decide +kernel⟩
abbrev sfirst_touch : Stmt := top 9
abbrev lfirst_touch : List Str := ["deeds", "box", "asked", "deed"]
abbrev nfirst_touch : List Str := ["deeds", "box", "asked", "deed"]
theorem scfirst_touch : FnScope nfirst_touch ["deeds", "box", "asked"] (defScope sfirst_touch) := ⟨rfl, rfl, rfl, by decide +kernel, rfl, by decide +kernel, by decide +kernel⟩
abbrev sbackwards : Stmt := top 10
abbrev lbackwards : List Str := ["nexts"]
abbrev nbackwards : List Str := ["nexts", "to", "block"]
theorem scbackwards : FnScope nbackwards ["nexts"] (defScope sbackwards) := ⟨rfl, rfl, rfl, by decide +kernel, rfl, by decide +kernel, by decide +kernel⟩
abbrev sawaiting : Stmt := top 11
abbrev lawaiting : List Str := ["work", "box", "asked", "touches", "leads", "free"]
abbrev nawaiting : List Str := ["work", "box", "asked", "touches", "leads", "free", "deeds", "end", "some", "lead", "block", "touch"]
theorem scawaiting : FnScope nawaiting ["work", "box", "asked"] (defScope sawaiting) := ⟨rfl, rfl, rfl, by decide +kernel, rfl, by decide +kernel, by decide +kernel⟩
abbrev sasked_by : Stmt := top 12
abbrev lasked_by : List Str := ["works", "box", "found", "changed", "told"]
abbrev nasked_by : List Str := ["works", "box", "found", "changed", "told", "work"]
theorem scasked_by : FnScope nasked_by ["works", "box"] (defScope sasked_by) := ⟨rfl, rfl, rfl, by decide +kernel, rfl, by decide +kernel, by decide +kernel⟩
section
variable {P : Program} {w : World} {K : PySem.W.Frag} {mg : Str → Option Value} {base : Heap}
abbrev spboxes_read : DSp := fun ds M Q => ∃ (d : Dd) (al : List (List Nat)), ds = [d.d, .lst (al.map nlD)] ∧ d.Ok al.length ∧ Q (nlD (d.reads al)) M
theorem okboxes_read {f : Addr} {fd : FuncData} (F : Fun K "boxes_read" "boxes_read" sboxes_read f fd) (hm : mg "boxes_read" = some (.ref f)) (hb : Binds K fd ["deed", "asked"] []) : Fs P w K mg base 1 "boxes_read" 2 spboxes_read := by
  refine fs_of (N := nboxes_read) (Ln := lboxes_read) (Bn := []) (Fn := []) (Bx := []) F hm hb scboxes_read rfl (by decide +kernel) (fun _ h => by cases h) ?_
  rintro X ds M Q bod ⟨d, al, rfl, hok, hQ⟩
  have st := bod.st
  show WSs X ([("deed", some (d.d)), ("asked", some (.lst (al.map nlD)))] : VEnv) M _ _
  cases d with
  | call w =>
    unfold Dd.d
    have hw : w < al.length := hok
    have e : al[w]? = some (al.getD w []) := by rw [List.getD_eq_getElem?_getD, List.getElem?_eq_getElem hw]; rfl
    walk_at "if"
    walk_at "go"
    refine wss_nil ?_
    walk_at "if"
    walk_at "go"
    refine wss_nil ?_
    walk_at "if"
    walk_at "go"
    walk_at "ret"
    walk_at "go"
    refine ⟨_, _, rfl, IxD.list isR_lst (atI_map e), ?_⟩
    exact hQ
  | add x y =>
    unfold Dd.d
    walk_at "if"
    walk_at "go"
    walk_at "ret"
    walk_at "go"
    exact hQ
  | tell x =>
    unfold Dd.d
    walk_at "if"
    walk_at "go"
    refine wss_nil ?_
    walk_at "if"
    walk_at "go"
    walk_at "ret"
    walk_at "go"
    exact hQ
  | _ =>
    unfold Dd.d
    walk_at "if"
    walk_at "go"
    refine wss_nil ?_
    walk_at "if"
    walk_at "go"
    refine wss_nil ?_
    walk_at "if"
    walk_at "go"
    refine wss_nil ?_
    walk_at "ret"
    walk_at "go"
    exact hQ
theorem mem_nat1 {k : Nat} {l : List Nat} : decide ((k : Int) ∈ l.map (fun (n : Nat) => (n : Int))) = decide (k ∈ l) := decide_eq_decide.mpr mem_natI
abbrev spfirst_touch : DSp := fun ds M Q => ∃ (dd : List Dd) (b : Nat) (al : List (List Nat)), ds = [.lst (dd.map Dd.d), natD b, .lst (al.map nlD)] ∧ (∀ d ∈ dd, d.Ok al.length) ∧ dd.length ≤ 24 ∧ Q (.str (touch b al dd).s) M
theorem okfirst_touch {f : Addr} {fd : FuncData} (F : Fun K "first_touch" "first_touch" sfirst_touch f fd) (hm : mg "first_touch" = some (.ref f)) (hb : Binds K fd ["deeds", "box", "asked"] []) (hboxes_read : Fs P w K mg base 1 "boxes_read" 2 spboxes_read) (hboxes_written : Fs P w K mg base 1 "boxes_written" 1 spboxes_written) : Fs P w K mg base 2 "first_touch" 3 spfirst_touch := by
  refine fs_of (N := nfirst_touch) (Ln := lfirst_touch) (Bn := []) (Fn := ["boxes_read", "boxes_written"]) (Bx := []) F hm hb scfirst_touch rfl (by decide +kernel) (fun _ h => by cases h) ?_
  rintro X ds M Q bod ⟨dd, b, al, rfl, hok, hlen, hQ⟩
  have st := bod.st
  have rm := bod.room
  have h1 := bod.tr hboxes_read
  have h2 := bod.tr hboxes_written
  show WSs X ([("deeds", some (.lst (dd.map Dd.d))), ("box", some (natD b)), ("asked", some (.lst (al.map nlD))), ("deed", none)] : VEnv) M _ _
  refine wss_cons (ws_for st (wi_list ?_))
  walk_at "run"
  refine ⟨_, isR_lst, fun i Γ' M' => ∃ o1 : Option D, touch b al dd = touch b al (dd.drop i) ∧ Γ' = ([("deeds", some (.lst (dd.map Dd.d))), ("box", some (natD b)), ("asked", some (.lst (al.map nlD))), ("deed", o1)] : VEnv) ∧ M' = M, ?_, ?_, ?_, ?_⟩
  · exact ⟨_, rfl, rfl, rfl⟩
  · exact fun _ _ _ _ => isR_lst
  · rintro i x Γ' M' hx ⟨o1, ht, rfl, rfl⟩
    rw [List.getElem?_map] at hx
    obtain ⟨d, hd, rfl⟩ := Option.map_eq_some_iff.mp hx
    have hi := (List.getElem?_eq_some_iff.mp hd).1
    have hdr : dd.drop i = d :: dd.drop (i + 1) := by rw [List.drop_eq_getElem_cons hi, (List.getElem?_eq_some_iff.mp hd).2]
    rw [hdr, touch] at ht
    refine wg_name st (by walk_at "mem") (by walk_at "put") ?_
    refine wss_cons (ws_if ?_)
    walk_at "run"
    refine ⟨d, al, rfl, hok d (List.mem_of_getElem? hd), ?_⟩
    walk_at "run"
    refine od_inI (i := (b : Int)) (ns := (d.reads al).map fun (n : Nat) => (n : Int)) (.inl isR_nl) ?_
    rw [mem_nat1]
    walk_at "run"
    refine ite_d (fun h => ?_) (fun h => ?_)
    · walk_at "ret"
      walk_at "run"
      rw [if_pos h] at ht
      rw [ht] at hQ
      exact hQ
    · rw [if_neg h] at ht
      refine wss_nil ?_
      refine wss_one (ws_if ?_)
      walk_at "run"
      refine ⟨[d], rfl, by simp, ?_⟩
      walk_at "run"
      refine od_inI (i := (b : Int)) (ns := (([d].filter Dd.wr).map Dd.wb).map fun (n : Nat) => (n : Int)) (.inl (by rw [List.map_map, List.map_map]; exact isR_lst)) ?_
      rw [mem_nat1]
      have hw : decide (b ∈ ([d].filter Dd.wr).map Dd.wb) = d.wrB b := by
        unfold Dd.wrB
        cases hd : d.wr <;> simp [hd, eq_comm]
      rw [hw]
      walk_at "run"
      refine ite_b (fun h => ?_) (fun h => ?_)
      · walk_at "ret"
        walk_at "run"
        rw [if_pos h] at ht
        rw [ht] at hQ
        exact hQ
      · rw [h, if_neg Bool.false_ne_true] at ht
        exact wss_nil ⟨_, ht, rfl, rfl⟩
  · rintro Γ' M' ⟨o1, ht, rfl, rfl⟩
    rw [List.length_map, List.drop_length] at ht
    walk_at "ret"
    walk_at "run"
    rw [ht] at hQ
    exact hQ
abbrev spbackwards : DSp := fun ds M Q => ∃ nx : List (List Nat), ds = [.lst (nx.map nlD)] ∧ nx.length ≤ 60 ∧ Q (.lst ((leads nx).map nlD)) M
theorem okbackwards {f : Addr} {fd : FuncData} (F : Fun K "backwards" "backwards" sbackwards f fd) (hm : mg "backwards" = some (.ref f)) (hb : Binds K fd ["nexts"] []) (hB : ∀ x ∈ (["range", "len"] : List Str), mg x = none) : Fs P w K mg base 1 "backwards" 1 spbackwards := by
  refine fs_of (N := nbackwards) (Ln := lbackwards) (Bn := ["range", "len"]) (Fn := []) (Bx := ["range", "len"]) F hm hb scbackwards rfl (by decide +kernel) hB ?_
  rintro X ds M Q bod ⟨nx, rfl, hlen, hQ⟩
  have st := bod.st
  show WSs X ([("nexts", some (.lst (nx.map nlD))), ("to", none), ("block", none)] : VEnv) M _ _
  walk_at "ret"
  refine we_frz ?_
  refine we_map (List.range nx.length) natD (fun to => nlD ((List.range nx.length).filter fun k => decide (to ∈ nx.getD k []))) [("to", 1)] ["to", "nexts"] ["range", "len"] [] bod (by decide +kernel) (by walk_at "mem") (by walk_at "wiped") ?_
  refine wi_range st (by walk_at "mem") ?_
  walk_at "run"
  rw [List.length_map, Int.toNat_natCast, rng0]
  refine ⟨by omega, by omega, rfl, by rw [List.length_range]; exact szl (by omega), fun _ _ => trivial, fun to hto => ⟨_, by walk_at "put", fun X1 inn L acc => ?_⟩, fun p => ⟨_, _, _, rfl, rfl, ?_⟩⟩
  · have st1 := inn.st
    refine we_frz ?_
    refine we_pickB (List.range nx.length) natD natD (fun k => decide (to ∈ nx.getD k [])) st1 (blk_in (own2 := [("block", 2)]) (Vb := ["block", "nexts", "to"]) (Bb := []) (Fb := []) bod inn (by decide +kernel)) (by walk_at "mem") (by walk_at "wiped") ?_
    refine wi_range st1 (by walk_at "mem") ?_
    walk_at "run"
    rw [List.length_map, Int.toNat_natCast, rng0]
    refine ⟨by omega, by omega, rfl, by rw [List.length_range]; exact szl (by omega), fun _ _ => trivial, fun k hk => ⟨_, by walk_at "put", fun X2 inn2 L2 acc2 => ?_, fun hw X2 inn2 L2 acc2 => ?_⟩, fun p => ⟨_, _, _, rfl, rfl, ?_⟩⟩
    · have st2 := inn2.st
      have hkl := List.mem_range.mp hk
      have e : nx[k]? = some (nx.getD k []) := by rw [List.getD_eq_getElem?_getD, List.getElem?_eq_getElem hkl]; rfl
      walk_at "run"
      refine ⟨_, _, rfl, IxD.list isR_lst (atI_map e), ?_⟩
      walk_at "run"
      refine od_inI (i := (to : Int)) (ns := (nx.getD k []).map fun (n : Nat) => (n : Int)) (.inl isR_nl) ?_
      rw [mem_nat1]
      exact ⟨_, rfl, rfl, rfl⟩
    · have st2 := inn2.st
      walk_at "run"
      exact ⟨rfl, rfl⟩
    · exact ⟨rfl, rfl⟩
  · unfold leads at hQ
    rw [List.map_map] at hQ
    exact hQ
abbrev spawaiting : DSp := fun ds M Q => ∃ (w : W) (b : Nat) (al : List (List Nat)), ds = [W.d w, natD b, .lst (al.map nlD)] ∧ Fit w ∧ (∀ k ∈ w, ∀ d ∈ k.1, d.Ok al.length) ∧ ∀ p, Q (.ref p) ((p, .lst ((awaitL w b al).map natD)) :: M)
theorem okawaiting {f : Addr} {fd : FuncData} (F : Fun K "awaiting" "awaiting" sawaiting f fd) (hm : mg "awaiting" = some (.ref f)) (hb : Binds K fd ["work", "box", "asked"] []) (hB : ∀ x ∈ (["enumerate"] : List Str), mg x = none) (hfirst_touch : Fs P w K mg base 2 "first_touch" 3 spfirst_touch) (hnexts_of : Fs P w K mg base 1 "nexts_of" 1 spnexts_of) (hbackwards : Fs P w K mg base 1 "backwards" 1 spbackwards) (hcome_to : Fs P w K mg base 1 "come_to" 2 spcome_to) : Fs P w K mg base 3 "awaiting" 3 spawaiting := by
  refine fs_of (N := nawaiting) (Ln := lawaiting) (Bn := ["enumerate"]) (Fn := ["backwards", "nexts_of", "come_to"]) (Bx := ["enumerate"]) F hm hb scawaiting rfl (by decide +kernel) hB ?_
  rintro X ds M Q bod ⟨w, b, al, rfl, hf, hok, hQ⟩
  have st := bod.st
  have rm := bod.room
  have h1 := bod.tr hfirst_touch
  have h2 := bod.tr hnexts_of
  have h3 := bod.tr hbackwards
  have h4 := bod.tr hcome_to
  have h16 := hf.len
  have hnl := nexts_len w
  have hll := leads_len (nexts w)
  show WSs X ([("work", some (.lst (w.map Bk.d))), ("box", some (natD b)), ("asked", some (.lst (al.map nlD))), ("touches", none), ("leads", none), ("free", none), ("deeds", none), ("end", none), ("some", none), ("lead", none), ("block", none), ("touch", none)] : VEnv) M _ _
  refine wss_cons (ws_set st (by walk_at "mem") ?_ (sw_cell (by rw [bod.sc]; decide +kernel)))
  refine we_frz ?_
  refine we_mapT2 w (fun b => .lst (b.1.map Dd.d)) (fun b => b.2.d) (fun k => .str (touch b al k.1).s) [("deeds", 6), ("end", 7)] ["deeds", "end", "box", "asked"] [] ["first_touch"] bod (by decide +kernel) (by walk_at "mem") (by walk_at "mem") (by walk_at "wiped") ?_
  refine wi_list ?_
  walk_at "run"
  refine ⟨_, isR_lst, rfl, szl (by omega), fun _ _ => isR_lst, fun a ha => ⟨_, _, by walk_at "put", by walk_at "put", fun X1 inn L acc => ?_⟩, fun p => ⟨_, _, _, rfl, rfl, ?_⟩⟩
  · have st1 := inn.st
    have g1 := inn.tr h1
    have rm1 := inn.rm rm
    walk_at "run"
    exact ⟨a.1, b, al, rfl, hok a ha, hf.few a ha, rfl, rfl⟩
  rw [show w.map (fun k => D.str (touch b al k.1).s) = (tchs w b al).map Tch.d from by rw [tchs, List.map_map]; rfl]
  walk_at "put!"
  walk_at "set"
  walk_at "run"
  refine ⟨_, w, rfl, isR_lst, fun _ _ => isR_lst, by omega, ?_⟩
  walk_at "run"
  refine ⟨nexts w, rfl, by omega, ?_⟩
  walk_at "run"
  have leadlt : ∀ l ∈ leads (nexts w), l.length ≤ 60 ∧ ∀ k ∈ l, k < w.length := fun l hl => by
    unfold leads at hl
    obtain ⟨to, _, rfl⟩ := List.mem_map.mp hl
    refine ⟨?_, fun k hk => ?_⟩
    · have := List.length_filter_le (fun k => decide (to ∈ (nexts w).getD k [])) (List.range (nexts w).length)
      rw [List.length_range] at this
      omega
    · have := List.mem_range.mp (List.mem_filter.mp hk).1
      omega
  refine wss_cons (ws_setMap (j := 5) (leads (nexts w)) nlD (fun l => nlD (l.filter fun k => decide ((tchs w b al).getD k .w = .n))) [("some", 8)] ["some", "touches"] [] [] bod (by decide +kernel) (by walk_at "mem") (by walk_at "wiped") (by walk_at "mem") (by decide +kernel) rfl (by decide +kernel) ?_)
  refine wi_list ?_
  walk_at "run"
  refine ⟨_, isR_lst, rfl, szl (by omega), fun _ _ => isR_lst, fun l hl => ⟨_, by walk_at "put", fun X1 inn L acc => ?_⟩, fun p => ?_⟩
  · have st1 := inn.st
    obtain ⟨l60, llt⟩ := leadlt l hl
    refine we_frz ?_
    refine we_pickB l natD natD (fun k => decide ((tchs w b al).getD k .w = .n)) st1 (blk_in (own2 := [("lead", 9)]) (Vb := ["lead", "touches"]) (Bb := []) (Fb := []) bod inn (by decide +kernel)) (by walk_at "mem") (by walk_at "wiped") ?_
    refine wi_list ?_
    walk_at "run"
    refine ⟨_, isR_lst, rfl, szl (by omega), fun _ _ => isR_lst, fun k hk => ⟨_, by walk_at "put", fun X2 inn2 L2 acc2 => ?_, fun hw X2 inn2 L2 acc2 => ?_⟩, fun p => ⟨_, _, _, rfl, rfl, ?_⟩⟩
    · have st2 := inn2.st
      have hkl : k < (tchs w b al).length := by rw [tchs_len]; exact llt k hk
      have e : (tchs w b al)[k]? = some ((tchs w b al).getD k .w) := by rw [List.getD_eq_getElem?_getD, List.getElem?_eq_getElem hkl]; rfl
      walk_at "run"
      refine ⟨_, _, rfl, IxD.list isR_lst (atI_map e), ?_⟩
      walk_at "run"
      refine od_eqS ?_
      exact ⟨_, rfl, Tch.s_n _, rfl⟩
    · have st2 := inn2.st
      walk_at "run"
      exact ⟨rfl, rfl⟩
    · exact ⟨rfl, rfl⟩
  rw [show (leads (nexts w)).map (fun l => nlD (l.filter fun k => decide ((tchs w b al).getD k .w = .n))) = (freeL w b al).map nlD from by rw [freeL, List.map_map]; rfl]
  walk_at "put!"
  refine wss_frz (by walk_at "look") (by walk_at "put") st (by walk_at "mem") ?_
  walk_at "ret"
  walk_at "run"
  refine we_frz ?_
  refine we_pickT2 (List.range w.length) natD (fun k => ((tchs w b al).getD k .w).d) natD (fun k => decide ((tchs w b al).getD k .w = .r)) [("block", 10), ("touch", 11)] ["block", "touch"] [] [] bod (by decide +kernel) (by walk_at "mem") (by walk_at "mem") (by walk_at "wiped") ?_
  refine wi_enum st (by walk_at "mem") ?_
  walk_at "run"
  refine ⟨_, isR_lst, ?_, by rw [List.length_range]; exact szl (by omega), fun _ _ => isR_lst, fun k hk => ⟨_, _, by walk_at "put", by walk_at "put", fun X1 inn L acc => ?_, fun hw X1 inn L acc => ?_⟩, fun p => ⟨_, _, _, rfl, rfl, ?_⟩⟩
  · rw [enum_range Tch.d .w, tchs_len]
  · have st1 := inn.st
    walk_at "run"
    refine od_eqS ?_
    exact ⟨_, rfl, Tch.s_r _, rfl⟩
  · have st1 := inn.st
    walk_at "run"
    exact ⟨rfl, rfl⟩
  walk_at "run"
  have hbl : (begL w b al).length ≤ w.length := by
    have := List.length_filter_le (fun k => decide ((tchs w b al).getD k .w = .r)) (List.range w.length)
    rw [List.length_range] at this
    exact this
  refine ⟨freeL w b al, begL w b al, rfl, freeL_in, begL_lt, by rw [freeL_len]; omega, by omega, fun l hl => ?_, fun p => hQ p⟩
  unfold freeL at hl
  obtain ⟨l', hl', rfl⟩ := List.mem_map.mp hl
  have := List.length_filter_le (fun k => decide ((tchs w b al).getD k .w = .n)) l'
  have := (leadlt l' hl').1
  omega
abbrev spasked_by : DSp := fun ds M Q => ∃ (ws : List W) (b : Nat), ds = [Ws.d ws, natD b] ∧ FitWs ws ∧ b < 1000 ∧ Q (.lst ((askedD b (askT ws b)).map nlD)) M
theorem okasked_by {f : Addr} {fd : FuncData} (F : Fun K "asked_by" "asked_by" sasked_by f fd) (hm : mg "asked_by" = some (.ref f)) (hb : Binds K fd ["works", "box"] []) (hB : ∀ x ∈ (["int"] : List Str), mg x = none) (hawaiting : Fs P w K mg base 3 "awaiting" 3 spawaiting) : Fs P w K mg base 4 "asked_by" 2 spasked_by := by
  refine fs_of (N := nasked_by) (Ln := lasked_by) (Bn := []) (Fn := []) (Bx := ["int"]) F hm hb scasked_by rfl (by decide +kernel) hB ?_
  rintro X ds M Q bod ⟨ws, b, rfl, hf, hb, hQ⟩
  have st := bod.st
  have rm := bod.room
  have h1 := bod.tr hawaiting
  have hl := hf.len
  show WSs X ([("works", some (.lst (ws.map W.d))), ("box", some (natD b)), ("found", none), ("changed", none), ("told", none), ("work", none)] : VEnv) M _ _
  refine wss_cons (ws_set st (by walk_at "mem") ?_ (sw_cell (by rw [bod.sc]; decide +kernel)))
  refine we_frz ?_
  refine we_map ws W.d (fun _ => nlD []) [("work", 5)] ["work"] [] [] bod (by decide +kernel) (by walk_at "mem") (by walk_at "wiped") ?_
  refine wi_list ?_
  walk_at "run"
  refine ⟨_, isR_lst, rfl, szl (by omega), fun _ _ => isR_lst, fun a ha => ⟨_, by walk_at "put", fun X1 inn L acc => ?_⟩, fun p => ⟨_, _, _, rfl, rfl, ?_⟩⟩
  · have st1 := inn.st
    walk_at "run"
    exact ⟨rfl, rfl⟩
  rw [show ws.map (fun _ => nlD []) = (askedD b (ws.map fun _ => false)).map nlD from by rw [askedD, List.map_map, List.map_map]; rfl]
  walk_at "put!"
  walk_at "set"
  walk_at "run"
  refine wss_cons (ws_while st (fun m Γ' M' => ∃ (ts : List Bool) (ch : Bool) (o1 : Option D), AskOk ws b ts ∧ (ch = false → askStep ws b ts = ts) ∧ m = (if ch = true then 1 + (ws.length - cntT ts) else 0) ∧ Γ' = ([("works", some (.lst (ws.map W.d))), ("box", some (natD b)), ("found", some (.lst ((askedD b ts).map nlD))), ("changed", some (.bl ch)), ("told", o1), ("work", none)] : VEnv) ∧ M' = M) _ ⟨_, true, _, .start, fun h => (by cases h), rfl, rfl, rfl⟩ ?_)
  rintro m Γ' M' ⟨ts, ch, o1, hok, hch, hm, rfl, rfl⟩
  walk_at "run"
  cases ch with
  | true =>
    rw [if_pos rfl] at hm ⊢
    have htl := hok.len
    refine wss_cons (ws_setMap (j := 4) ws W.d (fun w => nlD (if decide (0 ∈ awaitL w b (askedD b ts)) = true then [b] else [])) [("work", 5)] ["work", "box", "found"] ["int"] ["awaiting"] bod (by decide +kernel) (by walk_at "mem") (by walk_at "wiped") (by walk_at "mem") (by decide +kernel) rfl (by decide +kernel) ?_)
    refine wi_list ?_
    walk_at "run"
    refine ⟨_, isR_lst, rfl, szl (by omega), fun _ _ => isR_lst, fun a ha => ⟨_, by walk_at "put", fun X1 inn L acc => ?_⟩, fun p => ?_⟩
    · have st1 := inn.st
      have g1 := inn.tr h1
      have rm1 := inn.rm rm
      walk_at "run"
      refine ⟨a, b, askedD b ts, rfl, hf.fit a ha, fun k hk d hd => by rw [askedD_len, htl]; exact hf.ok a ha k hk d hd, fun p => ?_⟩
      walk_at "run"
      refine od_frzR ?_
      refine od_inI (i := ((0 : Nat) : Int)) (ns := (awaitL a b (askedD b ts)).map fun (n : Nat) => (n : Int)) (.inl (by rw [List.map_map]; exact isR_lst)) ?_
      rw [mem_nat1]
      walk_at "run"
      refine od_rep isL_lst (by split <;> omega) (by split <;> exact szl (by simp)) ?_
      refine ⟨rfl, ?_⟩
      by_cases q : 0 ∈ awaitL a b (askedD b ts) <;> simp [q]
    rw [told_step]
    walk_at "put!"
    refine wss_frz (by walk_at "look") (by walk_at "put") st (by walk_at "mem") ?_
    walk_at "set"
    walk_at "run"
    have hsl : (askStep ws b ts).length = ws.length := askStep_len
    refine od_neP st (py_nls isR_lst) (py_nls isR_lst) ((shw_nls (askedD_bd hb) (by rw [askedD_len, hsl]; omega)).shaped (by omega)) ((shw_nls (askedD_bd hb) (by rw [askedD_len, htl]; omega)).shaped (by omega)) ?_
    rw [show PyData.eqv (.list ((askedD b (askStep ws b ts)).map nlP)) (.list ((askedD b ts).map nlP)) = decide (askStep ws b ts = ts) from by simp only [PyData.eqv]; rw [eqv_nls]; exact decide_eq_decide.mpr askedD_inj]
    walk_at "put!"
    walk_at "set"
    walk_at "run"
    refine wss_nil ?_
    have hcnt := leT_cnt hok.up
    have hle := cntT_le (askStep ws b ts)
    by_cases q : askStep ws b ts = ts
    · rw [decide_eq_true q]
      exact ⟨0, by omega, _, false, _, hok.step, fun _ => by rw [q, q], rfl, rfl, rfl⟩
    · rw [decide_eq_false q]
      have := hcnt.2 fun e => q e.symm
      exact ⟨_, by show (if true = true then 1 + (ws.length - cntT (askStep ws b ts)) else 0) < m; rw [if_pos rfl]; omega, _, true, _, hok.step, fun h => (by cases h), rfl, rfl, rfl⟩
  | false =>
    rw [if_neg Bool.false_ne_true]
    rw [hok.is hf.nx (hch rfl)]
    walk_at "ret"
    walk_at "run"
    exact hQ
end
end Gen

namespace Gen
open PySem L2 DL Wk
abbrev sawaited : Stmt := top 13
abbrev lawaited : List Str := ["works", "number", "box"]
abbrev nawaited : List Str := ["works", "number", "box"]
theorem scawaited : FnScope nawaited ["works", "number", "box"] (defScope sawaited) := ⟨rfl, rfl, rfl, by decide +kernel, rfl, by decide +kernel, by decide +kernel⟩
abbrev swriting : Stmt := top 14
abbrev lwriting : List Str := ["work", "box"]
abbrev nwriting : List Str := ["work", "box", "block", "one"]
theorem scwriting : FnScope nwriting ["work", "box"] (defScope swriting) := ⟨rfl, rfl, rfl, by decide +kernel, rfl, by decide +kernel, by decide +kernel⟩
abbrev sreached : Stmt := top 15
abbrev lreached : List Str := ["works", "number", "box", "work", "nexts", "begins", "block", "to"]
abbrev nreached : List Str := ["works", "number", "box", "work", "nexts", "begins", "block", "to"]
theorem screached : FnScope nreached ["works", "number", "box"] (defScope sreached) := ⟨rfl, rfl, rfl, by decide +kernel, rfl, by decide +kernel, by decide +kernel⟩
section
variable {P : Program} {w : World} {K : PySem.W.Frag} {mg : Str → Option Value} {base : Heap}
abbrev spawaited : DSp := fun ds M Q => ∃ (ws : List W) (n b : Nat) (w : W), ds = [Ws.d ws, natD n, natD b] ∧ FitWs ws ∧ ws[n]? = some w ∧ b < 1000 ∧ ∀ p, Q (.ref p) ((p, .lst ((awtL ws n b w.length).map natD)) :: M)
theorem okawaited {f : Addr} {fd : FuncData} (F : Fun K "awaited" "awaited" sawaited f fd) (hm : mg "awaited" = some (.ref f)) (hb : Binds K fd ["works", "number", "box"] []) (hawaiting : Fs P w K mg base 3 "awaiting" 3 spawaiting) (hasked_by : Fs P w K mg base 4 "asked_by" 2 spasked_by) : Fs P w K mg base 5 "awaited" 3 spawaited := by
  refine fs_of (N := nawaited) (Ln := lawaited) (Bn := []) (Fn := ["awaiting", "asked_by"]) (Bx := []) F hm hb scawaited rfl (by decide +kernel) (fun _ h => by cases h) ?_
  rintro X ds M Q bod ⟨ws, n, b, w, rfl, hf, hw, hb, hQ⟩
  have st := bod.st
  have rm := bod.room
  have h1 := bod.tr hawaiting
  have h2 := bod.tr hasked_by
  have hwm := List.mem_of_getElem? hw
  show WSs X ([("works", some (.lst (ws.map W.d))), ("number", some (natD n)), ("box", some (natD b))] : VEnv) M _ _
  walk_at "ret"
  walk_at "run"
  refine ⟨_, _, rfl, IxD.list isR_lst (atI_map hw), ?_⟩
  walk_at "run"
  refine ⟨ws, b, rfl, hf, hb, ?_⟩
  walk_at "run"
  refine ⟨w, b, _, rfl, hf.fit w hwm, fun k hk d hd => ?_, fun p => ?_⟩
  · rw [askedD_len, askT_len]; exact hf.ok w hwm k hk d hd
  · rw [awtL_is hf.nx hw]
    exact hQ p
abbrev spwriting : DSp := fun ds M Q => ∃ (w : W) (b : Nat), ds = [W.d w, natD b] ∧ Fit w ∧ Q (nlD (writesL w b)) M
theorem okwriting {f : Addr} {fd : FuncData} (F : Fun K "writing" "writing" swriting f fd) (hm : mg "writing" = some (.ref f)) (hb : Binds K fd ["work", "box"] []) (hB : ∀ x ∈ (["enumerate"] : List Str), mg x = none) (hboxes_written : Fs P w K mg base 1 "boxes_written" 1 spboxes_written) : Fs P w K mg base 2 "writing" 2 spwriting := by
  refine fs_of (N := nwriting) (Ln := lwriting) (Bn := ["enumerate"]) (Fn := []) (Bx := ["enumerate"]) F hm hb scwriting rfl (by decide +kernel) hB ?_
  rintro X ds M Q bod ⟨w, b, rfl, hf, hQ⟩
  have st := bod.st
  have rm := bod.room
  have h1 := bod.tr hboxes_written
  have h16 := hf.len
  show WSs X ([("work", some (.lst (w.map Bk.d))), ("box", some (natD b)), ("block", none), ("one", none)] : VEnv) M _ _
  walk_at "ret"
  refine we_frz ?_
  refine we_pickT2 (List.range w.length) natD (fun k => (w.getD k bk0).d) natD (fun k => wrK b (w.getD k bk0)) [("block", 2), ("one", 3)] ["block", "one", "box"] [] ["boxes_written"] bod (by decide +kernel) (by walk_at "mem") (by walk_at "mem") (by walk_at "wiped") ?_
  refine wi_enum st (by walk_at "mem") ?_
  walk_at "run"
  refine ⟨_, isR_lst, ?_, by rw [List.length_range]; exact szl (by omega), fun _ _ => isR_lst, fun k hk => ⟨_, _, by walk_at "put", by walk_at "put", fun X1 inn L acc => ?_, fun hw X1 inn L acc => ?_⟩, fun p => ⟨_, _, _, rfl, rfl, hQ⟩⟩
  · rw [enum_range Bk.d bk0]
  · have st1 := inn.st
    have g1 := inn.tr h1
    have rm1 := inn.rm rm
    have hk := List.mem_range.mp hk
    have hbm : w.getD k bk0 ∈ w := List.mem_of_getElem? (at_bk hk)
    walk_at "run"
    refine ⟨_, _, rfl, IxD.tup rfl, ?_⟩
    walk_at "run"
    refine ⟨_, rfl, hf.few _ hbm, ?_⟩
    walk_at "run"
    refine od_inI (i := (b : Int)) (ns := (((w.getD k bk0).1.filter Dd.wr).map Dd.wb).map fun (n : Nat) => (n : Int)) (.inl (by rw [List.map_map, List.map_map]; exact isR_lst)) ?_
    rw [mem_nat1]
    exact ⟨_, rfl, wrK_mem, rfl⟩
  · have st1 := inn.st
    walk_at "run"
    exact ⟨rfl, rfl⟩
abbrev spreached : DSp := fun ds M Q => ∃ (ws : List W) (n b : Nat) (w : W), ds = [Ws.d ws, natD n, natD b] ∧ FitWs ws ∧ ws[n]? = some w ∧ ∀ p, Q (.ref p) ((p, .lst ((reachL w b).map natD)) :: M)
theorem okreached {f : Addr} {fd : FuncData} (F : Fun K "reached" "reached" sreached f fd) (hm : mg "reached" = some (.ref f)) (hb : Binds K fd ["works", "number", "box"] []) (hB : ∀ x ∈ (["sorted"] : List Str), mg x = none) (hnexts_of : Fs P w K mg base 1 "nexts_of" 1 spnexts_of) (hwriting : Fs P w K mg base 2 "writing" 2 spwriting) (hcome_to : Fs P w K mg base 1 "come_to" 2 spcome_to) : Fs P w K mg base 3 "reached" 3 spreached := by
  refine fs_of (N := nreached) (Ln := lreached) (Bn := ["sorted"]) (Fn := ["nexts_of", "writing", "come_to"]) (Bx := ["sorted"]) F hm hb screached rfl (by decide +kernel) hB ?_
  rintro X ds M Q bod ⟨ws, n, b, w, rfl, hf, hw, hQ⟩
  have st := bod.st
  have rm := bod.room
  have h1 := bod.tr hnexts_of
  have h2 := bod.tr hwriting
  have h3 := bod.tr hcome_to
  have hwm := List.mem_of_getElem? hw
  have hfw := hf.fit w hwm
  have hn := hf.nx w hwm
  have h16 := hfw.len
  have hnl := nexts_len w
  show WSs X ([("works", some (.lst (ws.map W.d))), ("number", some (natD n)), ("box", some (natD b)), ("work", none), ("nexts", none), ("begins", none), ("block", none), ("to", none)] : VEnv) M _ _
  walk_at "set"
  walk_at "run"
  refine ⟨_, _, rfl, IxD.list isR_lst (atI_map hw), ?_⟩
  walk_at "put!"
  walk_at "set"
  walk_at "run"
  refine ⟨_, w, rfl, isR_lst, fun _ _ => isR_lst, by omega, ?_⟩
  walk_at "run"
  walk_at "set"
  refine we_dnew fun pb => ?_
  walk_at "run"
  have hwl := writesL_len w b
  refine wss_cons (ws_for st (wi_list ?_))
  walk_at "run"
  refine ⟨w, b, rfl, hfw, ?_⟩
  refine ⟨_, isR_lst, fun i Γ' M' => ∃ (kvs : List (Key × D)) (o1 o2 : Option D), KeysOf kvs (begs w ((writesL w b).take i)) ∧ Γ' = ([("works", some (.lst (ws.map W.d))), ("number", some (natD n)), ("box", some (natD b)), ("work", some (W.d w)), ("nexts", some (.lst ((nexts w).map nlD))), ("begins", some (.ref pb)), ("block", o1), ("to", o2)] : VEnv) ∧ M' = (pb, .dK kvs) :: M, ?_, ?_, ?_, ?_⟩
  · exact ⟨[], _, _, by simpa [begs] using keys_nil, rfl, rfl⟩
  · exact fun _ _ _ _ => isR_lst
  · rintro i x Γ' M' hx ⟨kvs, o1, o2, hk, rfl, rfl⟩
    rw [List.getElem?_map] at hx
    obtain ⟨k, hkw, rfl⟩ := Option.map_eq_some_iff.mp hx
    have hkl := writesL_lt (List.mem_of_getElem? hkw)
    have hnx := at_nx hkl
    have h2n := nx_two (w := w) (k := k)
    have hbl := begs_len w ((writesL w b).take i)
    rw [List.length_take] at hbl
    refine wg_name st (by walk_at "mem") (by walk_at "put") ?_
    refine wss_one (ws_for st (wi_list ?_))
    walk_at "run"
    refine ⟨_, _, rfl, IxD.list isR_lst (atI_map hnx), ?_⟩
    refine ⟨_, isR_lst, fun j Γ' M' => ∃ (kvs : List (Key × D)) (o2 : Option D), KeysOf kvs (begs w ((writesL w b).take i) ++ ((nexts w).getD k []).take j) ∧ Γ' = ([("works", some (.lst (ws.map W.d))), ("number", some (natD n)), ("box", some (natD b)), ("work", some (W.d w)), ("nexts", some (.lst ((nexts w).map nlD))), ("begins", some (.ref pb)), ("block", some (natD k)), ("to", o2)] : VEnv) ∧ M' = (pb, .dK kvs) :: M, ?_, ?_, ?_, ?_⟩
    · exact ⟨kvs, o2, by simpa using hk, rfl, rfl⟩
    · exact fun _ _ _ _ => isR_lst
    · rintro j x Γ' M' hx ⟨kvs, o2, hk, rfl, rfl⟩
      rw [List.getElem?_map] at hx
      obtain ⟨t, ht, rfl⟩ := Option.map_eq_some_iff.mp hx
      refine wg_name st (by walk_at "mem") (by walk_at "put") ?_
      walk_at "asg"
      walk_at "run"
      refine wg_dix st ?_ (by intro _; with_unfolding_all rfl)
      walk_at "run"
      have hlen := hk.len
      rw [List.length_append, List.length_take] at hlen
      refine ⟨pb, _, rfl, .inl ⟨kvs, .inl (t : Int), by walk_at "at", rfl, szlt (by omega), ?_⟩⟩
      refine wss_nil ⟨_, _, ?_, rfl, rfl⟩
      have := hk.put t (.bl true)
      rw [List.append_assoc] at this
      rw [List.take_add_one, ht]
      exact this
    · rintro Γ' M' ⟨kvs, o2, hk, rfl, rfl⟩
      rw [List.length_map, List.take_length] at hk
      refine ⟨kvs, _, _, ?_, rfl, rfl⟩
      rw [List.take_add_one, hkw]
      unfold begs at hk ⊢
      simpa using hk
  · rintro Γ' M' ⟨kvs, o1, o2, hk, rfl, rfl⟩
    rw [List.length_map, List.take_length] at hk
    obtain ⟨ks, k1, k2, k3, k4⟩ := hk.ex
    have hlt := begs_lt (w := w) hn (l := writesL w b)
    have pm := sortU_perm (m := w.length) k2 k3 fun t ht => by have := hlt t ht; omega
    have hbl := begs_len w (writesL w b)
    have hsl := sortU_len w.length (begs w (writesL w b))
    walk_at "ret"
    refine we_finO ?_
    walk_at "run"
    refine cd_sortedK st (by walk_at "at") (ks := ks.map fun (n : Nat) => (n : Int)) (by rw [k1, List.map_map]; rfl) (by rw [List.length_map]; omega) (pm.map _) (upI (sortU_up _ _)) ?_
    walk_at "run"
    refine ⟨nexts w, sortU w.length (begs w (writesL w b)), by rw [List.map_map]; rfl, hn, fun t ht => ?_, by omega, by omega, fun l hl => Nat.le_trans (nexts_two w l hl) (by decide), fun p => ?_⟩
    · have := (mem_sortU.mp ht).1; omega
    · refine ⟨p, _, [(pb, _)], M, rfl, .swap _ _ _, ?_⟩
      rw [comeL_congr (cs := begs w (writesL w b)) fun t => by rw [mem_sortU]; exact ⟨fun q => q.2, fun q => ⟨by have := hlt t q; omega, q⟩⟩]
      exact hQ p
end
end Gen

namespace Gen
open PySem L2 DL Wk
abbrev sboxes_in : Stmt := top 6
abbrev lboxes_in : List Str := ["work", "found", "deeds", "end", "box"]
abbrev nboxes_in : List Str := ["work", "found", "deeds", "end", "box"]
theorem scboxes_in : FnScope nboxes_in ["work"] (defScope sboxes_in) := ⟨rfl, rfl, rfl, by decide +kernel, rfl, by decide +kernel, by decide +kernel⟩
section
variable {P : Program} {w : World} {K : PySem.W.Frag} {mg : Str → Option Value} {base : Heap}
/-- the work's list, also where new lists lie before it -/
abbrev Still (M : Mem) (d : D) (w : W) : Prop := ∀ G : Mem, IsR (G ++ M) d (w.map Bk.d)
abbrev spboxes_in : DSp := fun ds M Q => ∃ (d : D) (w : W), ds = [d] ∧ Still M d w ∧ Fit w ∧ ∀ p, Q (.ref p) ((p, .lst ((boxesOf w).map natD)) :: M)
theorem okboxes_in {f : Addr} {fd : FuncData} (F : Fun K "boxes_in" "boxes_in" sboxes_in f fd) (hm : mg "boxes_in" = some (.ref f)) (hb : Binds K fd ["work"] []) (hB : ∀ x ∈ (["sorted"] : List Str), mg x = none) (hboxes_written : Fs P w K mg base 1 "boxes_written" 1 spboxes_written) : Fs P w K mg base 2 "boxes_in" 1 spboxes_in := by
  refine fs_of (N := nboxes_in) (Ln := lboxes_in) (Bn := ["sorted"]) (Fn := ["boxes_written"]) (Bx := ["sorted"]) F hm hb scboxes_in rfl (by decide +kernel) hB ?_
  rintro X ds M Q bod ⟨d, w, rfl, hd, hok, hQ⟩
  have st := bod.st
  have rm := bod.room
  have hbw := bod.tr hboxes_written
  have hl16 := hok.len
  show WSs X ([("work", some (d)), ("found", none), ("deeds", none), ("end", none), ("box", none)] : VEnv) M _ _
  walk_at "set"
  refine we_dnew fun pf => ?_
  walk_at "run"
  refine wss_cons (ws_for st (wi_list ?_))
  walk_at "run"
  refine ⟨_, hd [_], fun i Γ' M' => ∃ (kvs : List (Key × D)) (o1 o2 o3 : Option D), KeysOf kvs (wrote (w.take i)) ∧ Γ' = ([("work", some (d)), ("found", some (.ref pf)), ("deeds", o1), ("end", o2), ("box", o3)] : VEnv) ∧ M' = (pf, .dK kvs) :: M, ?_, ?_, ?_, ?_⟩
  · exact ⟨[], _, _, _, ⟨[], rfl, .nil, by simp [wrote], by simp⟩, rfl, rfl⟩
  · rintro i Γ' M' ⟨kvs, o1, o2, o3, -, -, rfl⟩
    exact hd [_]
  · rintro i x Γ' M' hx ⟨kvs, o1, o2, o3, hk, rfl, rfl⟩
    rw [List.getElem?_map] at hx
    obtain ⟨b, hb, rfl⟩ := Option.map_eq_some_iff.mp hx
    have hbm := List.mem_of_getElem? hb
    have hi := (List.getElem?_eq_some_iff.mp hb).1
    have h24 := hok.few b hbm
    refine wg_tup st rfl ?_
    refine wgs_cons (wg_name st (by walk_at "mem") (by walk_at "put") ?_)
    refine wgs_cons (wg_name st (by walk_at "mem") (by walk_at "put") ?_)
    refine wgs_nil ?_
    have hseen := wrote_len (w.take i) (fun c hc => hok.few c (List.mem_of_mem_take hc))
    rw [List.length_take] at hseen
    refine wss_one (ws_for st (wi_list ?_))
    walk_at "run"
    refine ⟨b.1, rfl, h24, _, isR_lst, fun j Γ' M' => ∃ (kvs : List (Key × D)) (o3 : Option D), KeysOf kvs (wrote (w.take i) ++ (((b.1.filter Dd.wr).map Dd.wb).take j)) ∧ Γ' = ([("work", some (d)), ("found", some (.ref pf)), ("deeds", some (.lst (b.1.map Dd.d))), ("end", some b.2.d), ("box", o3)] : VEnv) ∧ M' = (pf, .dK kvs) :: M, ?_, ?_, ?_, ?_⟩
    · exact ⟨kvs, _, by simpa using hk, rfl, rfl⟩
    · exact fun _ _ _ _ => isR_lst
    · rintro j x Γ' M' hx ⟨kvs, o3, hk, rfl, rfl⟩
      rw [List.getElem?_map] at hx
      obtain ⟨e, he, rfl⟩ := Option.map_eq_some_iff.mp hx
      refine wg_name st (by walk_at "mem") (by walk_at "put") ?_
      walk_at "asg"
      walk_at "run"
      refine wg_dix st ?_ (by intro _; with_unfolding_all rfl)
      walk_at "run"
      have hf := List.length_filter_le Dd.wr b.1
      refine ⟨pf, _, rfl, .inl ⟨kvs, .inl (e.wb : Int), by walk_at "at", rfl, szlt ?_, ?_⟩⟩
      · have := hk.len
        simp only [List.length_append, List.length_take, List.length_map] at this
        omega
      refine wss_nil ?_
      refine ⟨_, _, ?_, rfl, rfl⟩
      have he2 : ((b.1.filter Dd.wr).map Dd.wb)[j]? = some e.wb := by rw [List.getElem?_map, he]; rfl
      rw [List.take_add_one, he2]
      have := hk.put e.wb (.bl true)
      rw [List.append_assoc] at this
      exact this
    · rintro Γ' M' ⟨kvs, o3, hk, rfl, rfl⟩
      refine ⟨kvs, _, _, _, ?_, rfl, rfl⟩
      have h2 : ((b.1.filter Dd.wr).map Dd.wb).take (b.1.filter Dd.wr).length = (b.1.filter Dd.wr).map Dd.wb := List.take_of_length_le (by simp)
      rw [List.length_map, h2] at hk
      have : wrote (w.take (i + 1)) = wrote (w.take i) ++ (b.1.filter Dd.wr).map Dd.wb := by
        rw [List.take_add_one, hb]
        simp [wrote]
      rw [this]; exact hk
  · rintro Γ' M' ⟨kvs, o1, o2, o3, hk, rfl, rfl⟩
    rw [List.length_map, List.take_of_length_le (Nat.le_refl _)] at hk
    obtain ⟨ks, k1, k2, k3⟩ := hk.perm hok.w8
    walk_at "ret"
    refine we_finO ?_
    walk_at "run"
    refine cd_sortedKO st (by walk_at "at") k1 (by rw [List.length_map]; omega) (k2.map _) ((boxesOf_up w).imp Int.le_of_lt) fun p => ?_
    refine ⟨p, _, [_], M, rfl, .swap _ _ _, ?_⟩
    rw [List.map_map]
    exact hQ p
end
end Gen

namespace Gen
open PySem L2 DL Wk
abbrev sbusy : Stmt := top 16
abbrev lbusy : List Str := ["works", "number", "box", "write", "late", "both"]
abbrev nbusy : List Str := ["works", "number", "box", "write", "late", "both", "block"]
theorem scbusy : FnScope nbusy ["works", "number", "box"] (defScope sbusy) := ⟨rfl, rfl, rfl, by decide +kernel, rfl, by decide +kernel, by decide +kernel⟩
section
variable {P : Program} {w : World} {K : PySem.W.Frag} {mg : Str → Option Value} {base : Heap}
abbrev spbusy : DSp := fun ds M Q => ∃ (ws : List W) (n b : Nat) (w : W), ds = [Ws.d ws, natD n, natD b] ∧ FitWs ws ∧ ws[n]? = some w ∧ b < 1000 ∧ ∀ p, Q (.ref p) ((p, .lst ((busyL ws n b w).map natD)) :: M)
theorem okbusy {f : Addr} {fd : FuncData} (F : Fun K "busy" "busy" sbusy f fd) (hm : mg "busy" = some (.ref f)) (hb : Binds K fd ["works", "number", "box"] []) (hB : ∀ x ∈ (["sorted"] : List Str), mg x = none) (hwriting : Fs P w K mg base 2 "writing" 2 spwriting) (hawaited : Fs P w K mg base 5 "awaited" 3 spawaited) (hreached : Fs P w K mg base 3 "reached" 3 spreached) : Fs P w K mg base 6 "busy" 3 spbusy := by
  refine fs_of (N := nbusy) (Ln := lbusy) (Bn := ["sorted"]) (Fn := ["writing", "awaited", "reached"]) (Bx := ["sorted"]) F hm hb scbusy rfl (by decide +kernel) hB ?_
  rintro X ds M Q bod ⟨ws, n, b, w, rfl, hf, hw, hb, hQ⟩
  have st := bod.st
  have rm := bod.room
  have h1 := bod.tr hwriting
  have h2 := bod.tr hawaited
  have h3 := bod.tr hreached
  have hwm := List.mem_of_getElem? hw
  have hfw := hf.fit w hwm
  have h16 := hfw.len
  have hwl := writesL_len w b
  have rl : (reachL w b).length ≤ 16 := by
    have := comeL_len (nx := nexts w) (bs := begs w (writesL w b))
    have := nexts_len w
    unfold reachL
    omega
  show WSs X ([("works", some (.lst (ws.map W.d))), ("number", some (natD n)), ("box", some (natD b)), ("write", none), ("late", none), ("both", none), ("block", none)] : VEnv) M _ _
  walk_at "set"
  walk_at "run"
  refine ⟨_, _, rfl, IxD.list isR_lst (atI_map hw), ?_⟩
  walk_at "run"
  refine ⟨w, b, rfl, hfw, ?_⟩
  walk_at "put!"
  walk_at "set"
  walk_at "run"
  refine ⟨ws, n, b, w, rfl, hf, hw, hb, fun p1 => ?_⟩
  walk_at "put!"
  refine wss_frz (x := "late") (by walk_at "look") (by walk_at "put") st (by walk_at "mem") ?_
  refine wss_cons (ws_setPick (j := 5) (reachL w b) natD natD (fun k => decide (k ∈ awtL ws n b w.length)) [("block", 6)] ["block", "late"] [] [] bod (by decide +kernel) (by walk_at "mem") (by walk_at "wiped") (by walk_at "mem") (by decide +kernel) rfl (by decide +kernel) ?_)
  refine wi_list ?_
  walk_at "run"
  refine ⟨ws, n, b, w, rfl, hf, hw, fun p2 => ?_⟩
  refine ⟨_, isR_ref .here, rfl, szl (by omega), fun _ _ => isR_ref (.there .here), fun k hk => ⟨_, by walk_at "put", fun X1 inn L acc => ?_, fun hw X1 inn L acc => ?_⟩, fun p => ⟨_, by walk_at "put", ?_⟩⟩
  · have st1 := inn.st
    walk_at "run"
    refine od_inI (i := (k : Int)) (ns := (awtL ws n b w.length).map fun (n : Nat) => (n : Int)) (.inl isR_nl) ?_
    exact ⟨_, rfl, decide_eq_decide.mpr mem_natI, rfl⟩
  · have st1 := inn.st
    walk_at "run"
    exact ⟨rfl, rfl⟩
  refine wss_frz (x := "both") (by walk_at "look") (by walk_at "put") st (by walk_at "mem") ?_
  have fl : ((reachL w b).filter fun k => decide (k ∈ awtL ws n b w.length)).length ≤ 16 := Nat.le_trans (List.length_filter_le _ _) rl
  walk_at "ret"
  refine we_gc ?_
  walk_at "run"
  refine we_frz ?_
  refine we_pick ((reachL w b).filter fun k => decide (k ∈ awtL ws n b w.length)) natD natD (fun k => !decide (k ∈ writesL w b)) [("block", 6)] ["block", "write"] [] [] bod (by decide +kernel) (by walk_at "mem") (by walk_at "wiped") ?_
  refine wi_list ?_
  walk_at "run"
  refine ⟨_, isR_lst, rfl, szl (by omega), fun _ _ => isR_lst, fun k hk => ⟨_, by walk_at "put", fun X1 inn L acc => ?_, fun hw X1 inn L acc => ?_⟩, fun p => ⟨_, _, _, rfl, rfl, ?_⟩⟩
  · have st1 := inn.st
    walk_at "run"
    refine od_notInI (i := (k : Int)) (ns := (writesL w b).map fun (n : Nat) => (n : Int)) (.inl isR_nl) ?_
    exact ⟨_, rfl, met_mem, rfl⟩
  · have st1 := inn.st
    walk_at "run"
    exact ⟨rfl, rfl⟩
  have gl := List.length_filter_le (fun k => !decide (k ∈ writesL w b)) ((reachL w b).filter fun k => decide (k ∈ awtL ws n b w.length))
  refine od_cat isL_lst isL_lst (by simp only [List.length_map]; exact szl (by omega)) ?_
  refine wa_nil ?_
  rw [← nl_app]
  refine cd_sortedIO (ns := (busyP ws n b w (writesL w b)).map fun (n : Nat) => (n : Int)) (ms := (busyL ws n b w).map fun (n : Nat) => (n : Int)) isR_nl (busyP_perm.map _) ((upI' (sortU_up _ _)).imp fun h => Int.le_of_lt h) fun q => ?_
  rw [List.map_map]
  exact ⟨[_], _, .swap _ _ _, hQ q⟩
end
end Gen

namespace Gen
open PySem L2 DL Wk
abbrev sis_whole : Stmt := top 1
abbrev lis_whole : List Str := ["thing"]
abbrev nis_whole : List Str := ["thing"]
theorem scis_whole : FnScope nis_whole ["thing"] (defScope sis_whole) := ⟨rfl, rfl, rfl, by decide +kernel, rfl, by decide +kernel, by decide +kernel⟩
abbrev sis_among : Stmt := top 2
abbrev lis_among : List Str := ["thing", "least", "many"]
abbrev nis_among : List Str := ["thing", "least", "many"]
theorem scis_among : FnScope nis_among ["thing", "least", "many"] (defScope sis_among) := ⟨rfl, rfl, rfl, by decide +kernel, rfl, by decide +kernel, by decide +kernel⟩
abbrev sis_rising : Stmt := top 18
abbrev lis_rising : List Str := ["thing", "many"]
abbrev nis_rising : List Str := ["thing", "many", "block", "k"]
theorem scis_rising : FnScope nis_rising ["thing", "many"] (defScope sis_rising) := ⟨rfl, rfl, rfl, by decide +kernel, rfl, by decide +kernel, by decide +kernel⟩
abbrev sis_inside : Stmt := top 19
abbrev lis_inside : List Str := ["works", "number", "box", "thing"]
abbrev nis_inside : List Str := ["works", "number", "box", "thing", "block"]
theorem scis_inside : FnScope nis_inside ["works", "number", "box", "thing"] (defScope sis_inside) := ⟨rfl, rfl, rfl, by decide +kernel, rfl, by decide +kernel, by decide +kernel⟩
section
variable {P : Program} {w : World} {K : PySem.W.Frag} {mg : Str → Option Value} {base : Heap}
theorem ite_nb {b : Bool} {A B : Prop} (h1 : b = true → B) (h2 : b = false → A) : if (!b) = true then A else B := by
  cases b with
  | true => exact h1 rfl
  | false => exact h2 rfl
theorem bt_bool : bootBuiltins "bool" = some (.type "bool") := by decide +kernel
abbrev spis_whole : DSp := fun ds M Q => ∃ (d : D) (t : String), ds = [d] ∧ IsT M d t ∧ Q (.bl (isI d)) M
theorem okis_whole {f : Addr} {fd : FuncData} (F : Fun K "is_whole" "is_whole" sis_whole f fd) (hm : mg "is_whole" = some (.ref f)) (hb : Binds K fd ["thing"] []) (hB : ∀ x ∈ (["isinstance", "int", "bool"] : List Str), mg x = none) : Fs P w K mg base 1 "is_whole" 1 spis_whole := by
  refine fs_of (N := nis_whole) (Ln := lis_whole) (Bn := ["isinstance", "int", "bool"]) (Fn := []) (Bx := ["isinstance", "int", "bool"]) F hm hb scis_whole rfl (by decide +kernel) hB ?_
  rintro X ds M Q bod ⟨d, t, rfl, hty, hQ⟩
  have st := bod.st
  show WSs X ([("thing", some (d))] : VEnv) M _ _
  obtain ⟨k1, k2, _⟩ := hty.kit
  rw [hty.isI] at hQ
  walk_at "ret"
  walk_at "run"
  refine we_isA st (by walk_at "mem") (by walk_at "mem") PyProof.Rows.boot_int ?_
  walk_at "run"
  refine ⟨t, _, hty, k1, ?_⟩
  walk_at "run"
  refine ite_b (fun h => ?_) (fun h => ?_)
  · walk_at "run"
    refine we_isA st (by walk_at "mem") (by walk_at "mem") bt_bool ?_
    walk_at "run"
    refine ⟨t, _, hty, k2, ?_⟩
    walk_at "run"
    have : (!(t == "bool")) = (t == "int") := by
      cases hty <;> first | rfl | exact absurd h (by decide) | decide +kernel
    rw [this]
    exact hQ
  · have : (t == "int") = false := by
      rw [Bool.or_eq_false_iff] at h; exact h.1
    rw [this] at hQ
    exact hQ
abbrev spis_among : DSp := fun ds M Q => ∃ (d : D) (t : String) (l m : Int), ds = [d, .int l, .int m] ∧ IsT M d t ∧ Q (.bl (amD l m d)) M
theorem okis_among {f : Addr} {fd : FuncData} (F : Fun K "is_among" "is_among" sis_among f fd) (hm : mg "is_among" = some (.ref f)) (hb : Binds K fd ["thing", "least", "many"] []) (his_whole : Fs P w K mg base 1 "is_whole" 1 spis_whole) : Fs P w K mg base 2 "is_among" 3 spis_among := by
  refine fs_of (N := nis_among) (Ln := lis_among) (Bn := []) (Fn := ["is_whole"]) (Bx := []) F hm hb scis_among rfl (by decide +kernel) (fun _ h => by cases h) ?_
  rintro X ds M Q bod ⟨d, t, l, m, rfl, hty, hQ⟩
  have st := bod.st
  have rm := bod.room
  have h1 := bod.tr his_whole
  show WSs X ([("thing", some (d)), ("least", some (.int l)), ("many", some (.int m))] : VEnv) M _ _
  walk_at "ret"
  walk_at "run"
  refine ⟨d, t, rfl, hty, ?_⟩
  walk_at "run"
  refine ite_b (fun h => ?_) (fun h => ?_)
  · obtain ⟨i, rfl⟩ : ∃ i, d = .int i := by cases d <;> first | exact ⟨_, rfl⟩ | exact absurd h (by simp [isI])
    walk_at "run"
    refine we_chain ?_
    walk_at "run"
    unfold amD intD at hQ
    rw [h, Bool.true_and] at hQ
    refine ite_d (fun h2 => ?_) (fun h2 => ?_)
    · walk_at "run"
      rw [decide_eq_true h2, Bool.true_and] at hQ
      exact hQ
    · rw [decide_eq_false h2, Bool.false_and] at hQ
      exact hQ
  · unfold amD at hQ
    rw [h, Bool.false_and] at hQ
    exact hQ
abbrev spis_rising : DSp := fun ds M Q => ∃ (d : D) (m : Nat), ds = [d, natD m] ∧ ((∃ t, IsT M d t ∧ (t == "list") = false ∧ Q (.bl false) M) ∨ ∃ xs, IsL M d xs ∧ xs.length ≤ 1000 ∧ (∀ x ∈ xs, ∃ t, IsT M x t) ∧ Q (.bl (riseD m xs)) M)
theorem okis_rising {f : Addr} {fd : FuncData} (F : Fun K "is_rising" "is_rising" sis_rising f fd) (hm : mg "is_rising" = some (.ref f)) (hb : Binds K fd ["thing", "many"] []) (hB : ∀ x ∈ (["isinstance", "list", "all", "range", "len"] : List Str), mg x = none) (his_among : Fs P w K mg base 2 "is_among" 3 spis_among) : Fs P w K mg base 3 "is_rising" 2 spis_rising := by
  refine fs_of (N := nis_rising) (Ln := lis_rising) (Bn := ["isinstance", "list", "all", "range", "len"]) (Fn := []) (Bx := ["isinstance", "list", "all", "range", "len"]) F hm hb scis_rising rfl (by decide +kernel) hB ?_
  rintro X ds M Q bod ⟨d, m, rfl, hc⟩
  have st := bod.st
  have rm := bod.room
  have h1 := bod.tr his_among
  show WSs X ([("thing", some (d)), ("many", some (natD m)), ("block", none), ("k", none)] : VEnv) M _ _
  rcases hc with ⟨t, hty, hne, hQ⟩ | ⟨xs, hl, hlen, hx, hQ⟩
  · obtain ⟨_, _, k3, _⟩ := hty.kit
    refine wss_cons (ws_if ?_)
    walk_at "run"
    refine we_isA st (by walk_at "mem") (by walk_at "mem") PyProof.Rows.boot_list ?_
    walk_at "run"
    refine ⟨t, _, hty, k3, ?_⟩
    walk_at "run"
    rw [hne, Bool.not_false]
    walk_at "run"
    walk_at "ret"
    walk_at "run"
    exact hQ
  · refine ws_mid (fun Γ' M' => xs.all (amD 0 m) = true ∧ Γ' = ([("thing", some (d)), ("many", some (natD m)), ("block", none), ("k", none)] : VEnv) ∧ M' = M) (ws_if ?_) ?_
    · walk_at "run"
      refine we_isA st (by walk_at "mem") (by walk_at "mem") PyProof.Rows.boot_list ?_
      walk_at "run"
      refine ⟨"list", true, .lst hl, by decide +kernel, ?_⟩
      walk_at "run"
      rw [Bool.not_true]
      walk_at "run"
      refine we_frz ?_
      refine we_map xs (fun x => x) (fun x => .bl (amD 0 m x)) [("block", 2)] ["block", "many"] [] ["is_among"] bod (by decide +kernel) (by walk_at "mem") (by walk_at "wiped") ?_
      refine wi_list ?_
      walk_at "run"
      refine ⟨xs, .inl hl, (List.map_id' xs).symm, szl (by omega), fun L acc => .inl hl.cons, fun x hxm => ⟨_, by walk_at "put", fun X1 inn L acc => ?_⟩, fun p => ⟨_, _, _, rfl, rfl, ?_⟩⟩
      · have st1 := inn.st
        have g1 := inn.tr h1
        have rm1 := inn.rm rm
        obtain ⟨t, ht⟩ := hx x hxm
        walk_at "run"
        refine ⟨x, t, 0, m, rfl, ht.cons, ?_⟩
        exact ⟨rfl, rfl⟩
      refine wa_nil ?_
      refine cd_all st (bs := xs.map (amD 0 m)) (by rw [List.map_map]; exact isR_lst) ?_
      refine ⟨_, rfl, ?_⟩
      rw [show (xs.map (amD 0 m)).all id = xs.all (amD 0 m) from by rw [List.all_map]; rfl]
      refine ite_nb (fun h => ?_) (fun h => ?_)
      · exact wss_nil ⟨h, rfl, rfl⟩
      · walk_at "ret"
        walk_at "run"
        unfold riseD at hQ
        rw [h, Bool.false_and] at hQ
        exact hQ
    · rintro Γ' M' ⟨hall, rfl, rfl⟩
      unfold riseD at hQ
      rw [hall, Bool.true_and] at hQ
      have hxi := amD_ints hall
      generalize hns : xs.map intD = ns at hxi
      subst hxi
      rw [List.length_map] at hlen hQ
      walk_at "ret"
      walk_at "e1"
      walk_at "a1"
      refine we_frz ?_
      refine we_map (List.range (ns.length - 1)) natD (fun k => .bl (decide (intD ((ns.map D.int).getD k .non) < intD ((ns.map D.int).getD (k + 1) .non)))) [("k", 3)] ["k", "thing"] [] [] bod (by decide +kernel) (by walk_at "mem") (by walk_at "wiped") ?_
      refine wi_range st (by walk_at "mem") ?_
      walk_at "run"
      refine cd_len (.inl (.inl hl)) ?_
      walk_at "run"
      rw [List.length_map, show (((ns.length : Int) - 1).toNat) = ns.length - 1 from by omega, rng0]
      refine ⟨by omega, by omega, rfl, by rw [List.length_range]; exact szl (by omega), fun _ _ => trivial, fun k hk => ⟨_, by walk_at "put", fun X1 inn L acc => ?_⟩, fun p => ⟨_, _, _, rfl, rfl, ?_⟩⟩
      · have st1 := inn.st
        have hk := List.mem_range.mp hk
        have e1 : ns[k]? = some ns[k] := List.getElem?_eq_getElem (by omega)
        have e2 : ns[k + 1]? = some ns[k + 1] := List.getElem?_eq_getElem (by omega)
        walk_at "run"
        refine ⟨_, _, rfl, IxD.list (.inl hl.cons) (atI_map e1), ?_⟩
        walk_at "run"
        refine od_add (i := (k : Int)) (j := 1) ?_
        walk_at "run"
        refine ⟨_, _, rfl, IxD.list (.inl hl.cons) (by rw [show ((k : Int) + 1) = ((k + 1 : Nat) : Int) from by omega]; exact atI_map e2), ?_⟩
        walk_at "run"
        refine ⟨rfl, ?_⟩
        rw [List.getD_eq_getElem?_getD, List.getD_eq_getElem?_getD, List.getElem?_map, List.getElem?_map, e1, e2]
        rfl
      refine wa_nil ?_
      refine cd_all st (bs := (List.range (ns.length - 1)).map fun k => decide (intD ((ns.map D.int).getD k .non) < intD ((ns.map D.int).getD (k + 1) .non))) (by rw [List.map_map]; exact isR_lst) ?_
      rw [List.all_map]
      exact hQ
abbrev spis_inside : DSp := fun ds M Q => ∃ (ws : List W) (n b : Nat) (w : W) (d : D), ds = [Ws.d ws, natD n, natD b, d] ∧ FitWs ws ∧ ws[n]? = some w ∧ b < 1000 ∧ ((∃ t, IsT M d t ∧ (t == "list") = false ∧ Q (.bl false) M) ∨ ∃ xs, IsL M d xs ∧ xs.length ≤ 1000 ∧ (∀ x ∈ xs, ∃ t, IsT M x t) ∧ Q (.bl (insD w.length (busyL ws n b w) xs)) M)
theorem okis_inside {f : Addr} {fd : FuncData} (F : Fun K "is_inside" "is_inside" sis_inside f fd) (hm : mg "is_inside" = some (.ref f)) (hb : Binds K fd ["works", "number", "box", "thing"] []) (hB : ∀ x ∈ (["len", "all"] : List Str), mg x = none) (his_rising : Fs P w K mg base 3 "is_rising" 2 spis_rising) (hbusy : Fs P w K mg base 6 "busy" 3 spbusy) : Fs P w K mg base 7 "is_inside" 4 spis_inside := by
  refine fs_of (N := nis_inside) (Ln := lis_inside) (Bn := ["len", "all"]) (Fn := ["is_rising", "busy"]) (Bx := ["len", "all"]) F hm hb scis_inside rfl (by decide +kernel) hB ?_
  rintro X ds M Q bod ⟨ws, n, b, w, d, rfl, hf, hw, hb, hc⟩
  have st := bod.st
  have rm := bod.room
  have h1 := bod.tr his_rising
  have h2 := bod.tr hbusy
  show WSs X ([("works", some (.lst (ws.map W.d))), ("number", some (natD n)), ("box", some (natD b)), ("thing", some (d)), ("block", none)] : VEnv) M _ _
  have hbl : (busyL ws n b w).length ≤ 16 := Nat.le_trans (sortU_len _ _) (hf.fit w (List.mem_of_getElem? hw)).len
  refine ws_mid (fun Γ' M' => (∃ xs, IsL M d xs ∧ riseD w.length xs = true ∧ Q (.bl ((busyL ws n b w).all fun k => decide ((k : Int) ∈ xs.map intD))) M) ∧ Γ' = ([("works", some (.lst (ws.map W.d))), ("number", some (natD n)), ("box", some (natD b)), ("thing", some (d)), ("block", none)] : VEnv) ∧ M' = M) (ws_if ?_) ?_
  · walk_at "run"
    refine ⟨_, _, rfl, IxD.list isR_lst (atI_map hw), ?_⟩
    walk_at "run"
    refine cd_len (.inl isR_lst) ?_
    walk_at "run"
    refine ⟨d, w.length, by rw [List.length_map]; rfl, ?_⟩
    rcases hc with ⟨t, hty, hne, hQ⟩ | ⟨xs, hl, hlen, hx, hQ⟩
    · refine .inl ⟨t, hty, hne, ?_⟩
      refine ⟨_, rfl, ?_⟩
      rw [Bool.not_false]
      walk_at "run"
      walk_at "ret"
      walk_at "run"
      exact hQ
    · refine .inr ⟨xs, hl, hlen, hx, ?_⟩
      refine ⟨_, rfl, ?_⟩
      unfold insD at hQ
      refine ite_nb (fun h => ?_) (fun h => ?_)
      · rw [h, Bool.true_and] at hQ
        exact wss_nil ⟨⟨xs, hl, h, hQ⟩, rfl, rfl⟩
      · rw [h, Bool.false_and] at hQ
        walk_at "ret"
        walk_at "run"
        exact hQ
  · rintro Γ' M' ⟨⟨xs, hl, hr, hQ⟩, rfl, rfl⟩
    have hall : xs.all (amD 0 w.length) = true := by unfold riseD at hr; rw [Bool.and_eq_true] at hr; exact hr.1
    have hxi := amD_ints hall
    generalize hns : xs.map intD = ns at hxi hQ
    subst hxi
    walk_at "ret"
    refine we_gc ?_
    walk_at "e1"
    walk_at "a1"
    refine we_frz ?_
    refine we_map (busyL ws n b w) natD (fun k => .bl (decide ((k : Int) ∈ ns))) [("block", 4)] ["block", "thing"] [] [] bod (by decide +kernel) (by walk_at "mem") (by walk_at "wiped") ?_
    refine wi_list ?_
    walk_at "run"
    refine ⟨ws, n, b, w, rfl, hf, hw, hb, fun p => ?_⟩
    refine ⟨_, isR_ref .here, rfl, szl (by omega), fun _ _ => isR_ref (.there .here), fun k hk => ⟨_, by walk_at "put", fun X1 inn L acc => ?_⟩, fun p2 => ⟨_, _, _, rfl, rfl, ?_⟩⟩
    · have st1 := inn.st
      walk_at "run"
      refine od_inI (i := (k : Int)) (ns := ns) (.inl (.inl hl.cons.cons)) ?_
      exact ⟨rfl, rfl⟩
    refine wa_nil ?_
    refine cd_all st (bs := (busyL ws n b w).map fun (k : Nat) => decide ((k : Int) ∈ ns)) (by rw [List.map_map]; exact isR_lst) ?_
    rw [List.all_map]
    exact ⟨[_], _, .refl _, hQ⟩
end
end Gen

set_option pp.maxSteps 800
namespace Gen
open PySem L2 DL Wk
abbrev sis_plan : Stmt := top 20
abbrev lis_plan : List Str := ["works", "number", "thing", "boxes"]
abbrev nis_plan : List Str := ["works", "number", "thing", "boxes", "box"]
theorem scis_plan : FnScope nis_plan ["works", "number", "thing"] (defScope sis_plan) := ⟨rfl, rfl, rfl, by decide +kernel, rfl, by decide +kernel, by decide +kernel⟩
/-- how a value of a plan is looked at: a list of such things, or no list -/
def LsV (M : Mem) (d : D) (o : Option (List D)) : Prop := (o = none ∧ ∃ t, IsT M d t ∧ (t == "list") = false) ∨ ∃ xs, o = some xs ∧ IsL M d xs ∧ xs.length ≤ 1000 ∧ ∀ x ∈ xs, ∃ t, IsT M x t
theorem LsV.cons {M : Mem} {q : Addr × Cell} {d : D} {o : Option (List D)} (h : LsV M d o) : LsV (q :: M) d o := by
  rcases h with ⟨h, t, h1, h2⟩ | ⟨xs, h, h1, h2, h3⟩
  · exact .inl ⟨h, t, h1.cons, h2⟩
  · exact .inr ⟨xs, h, h1.cons, h2, fun x hx => let ⟨t, ht⟩ := h3 x hx; ⟨t, ht.cons⟩⟩
def insO (m : Nat) (B : List Nat) : Option (List D) → Bool
  | none => false
  | some xs => insD m B xs
/-- a dict of such things -/
abbrev Tv := Key × D × Option (List D)
def kvT (ts : List Tv) : List (Key × D) := ts.map fun t => (t.1, t.2.1)
def lookT (ts : List Tv) (b : Nat) : Option (List D) := ((ts.find? fun t => decide (t.1 = .inl (b : Int))).map (·.2.2)).getD none
def keyOk (bs : List Nat) (d : D) : Bool := amD 0 8 d && decide (intD d ∈ bs.map fun (n : Nat) => (n : Int))
def planB (bs : List Nat) (m : Nat) (B : Nat → List Nat) (ts : List Tv) : Bool := decide (ts.length = bs.length) && (ts.all fun t => keyOk bs (kD t.1)) && bs.all fun b => insO m (B b) (lookT ts b)
theorem nodup_leA {α : Type} [DecidableEq α] : ∀ {l m : List α}, l.Nodup → (∀ a ∈ l, a ∈ m) → l.length ≤ m.length
  | [], _, _, _ => Nat.zero_le _
  | a :: l, m, nd, h => by
    rw [List.nodup_cons] at nd
    have ha : a ∈ m := h a List.mem_cons_self
    have := nodup_leA (m := m.erase a) nd.2 fun b hb => (List.mem_erase_of_ne (fun e => nd.1 (by rw [← e]; exact hb))).mpr (h b (List.mem_cons_of_mem _ hb))
    rw [List.length_erase_of_mem ha] at this
    have := List.length_pos_of_mem ha
    rw [List.length_cons]; omega
theorem amD_int {l m : Int} {d : D} (h : amD l m d = true) : ∃ i, d = .int i ∧ l ≤ i ∧ i < m := by
  unfold amD at h
  rw [Bool.and_eq_true, Bool.and_eq_true, decide_eq_true_iff, decide_eq_true_iff] at h
  cases d with
  | int i => exact ⟨i, rfl, h.2⟩
  | _ => exact absurd h.1 (by simp [isI])
/-- as many keys as boxes, all of them boxes: each box is there -/
theorem look_in {bs : List Nat} {ts : List Tv} (nd : (ts.map (·.1)).Nodup) (hl : ts.length = bs.length) (hk : (ts.all fun t => keyOk bs (kD t.1)) = true) {b : Nat} (hb : b ∈ bs) : ∃ t ∈ ts, t.1 = .inl (b : Int) ∧ lookT ts b = t.2.2 ∧ valA (kvT ts) (.inl (b : Int)) = some t.2.1 := by
  have hkey : ∀ t ∈ ts, ∃ c ∈ bs, t.1 = .inl (c : Int) := fun t ht => by
    have := List.all_eq_true.mp hk t ht
    unfold keyOk at this
    rw [Bool.and_eq_true, decide_eq_true_iff] at this
    obtain ⟨i, e, _, _⟩ := amD_int this.1
    obtain ⟨c, h1, h2⟩ := List.mem_map.mp this.2
    refine ⟨c, h1, ?_⟩
    have e2 : intD (kD t.1) = i := by rw [e]; rfl
    rw [e2] at h2
    cases hh : t.1 with
    | inl z => rw [hh] at e; cases e; rw [h2]
    | inr z => rw [hh] at e; cases e
  have hin : ∃ t ∈ ts, t.1 = .inl (b : Int) := by
    refine Classical.byContradiction fun hn => ?_
    have hnm : (Sum.inl (b : Int) : Key) ∉ ts.map (·.1) := fun h => by
      obtain ⟨t, h1, h2⟩ := List.mem_map.mp h
      exact hn ⟨t, h1, h2⟩
    have h1 : ((Sum.inl (b : Int) : Key) :: ts.map (·.1)).Nodup := List.nodup_cons.mpr ⟨hnm, nd⟩
    have h2 := nodup_leA (l := (Sum.inl (b : Int) : Key) :: ts.map (·.1)) (m := bs.map fun (c : Nat) => (Sum.inl (c : Int) : Key)) h1 fun x hx => by
      rcases List.mem_cons.mp hx with rfl | hx
      · exact List.mem_map.mpr ⟨b, hb, rfl⟩
      · obtain ⟨t, h3, rfl⟩ := List.mem_map.mp hx
        obtain ⟨c, h4, h5⟩ := hkey t h3
        exact List.mem_map.mpr ⟨c, h4, h5.symm⟩
    rw [List.length_cons, List.length_map, List.length_map] at h2
    omega
  clear hkey hk hl
  obtain ⟨t, ht, he⟩ := hin
  refine ⟨t, ht, he, ?_⟩
  induction ts with
  | nil => cases ht
  | cons u ts ih =>
    rw [List.map_cons, List.nodup_cons] at nd
    unfold lookT kvT
    rw [List.find?_cons, List.map_cons, valA_cons]
    rcases List.mem_cons.mp ht with rfl | ht
    · rw [decide_eq_true he, if_pos he]
      exact ⟨rfl, rfl⟩
    · have hne : ¬ u.1 = .inl (b : Int) := fun e => nd.1 (List.mem_map.mpr ⟨t, ht, by rw [e, he]⟩)
      rw [decide_eq_false hne, if_neg hne]
      exact ih nd.2 ht
section
variable {P : Program} {w : World} {K : PySem.W.Frag} {mg : Str → Option Value} {base : Heap}
abbrev spis_plan : DSp := fun ds M Q => ∃ (ws : List W) (n : Nat) (w : W) (d : D), ds = [Ws.d ws, natD n, d] ∧ FitWs ws ∧ ws[n]? = some w ∧
  ((∃ t, IsT M d t ∧ (t == "dict") = false ∧ Q (.bl false) M) ∨
   (∃ a ob ks vs f, d = .ref a ∧ At a M (.fzX ob ks vs) f ∧ ks.length ≤ 1000 ∧ (∀ k ∈ ks, ∃ t, IsT M k t) ∧ (∃ k ∈ ks, isI k = false) ∧ Q (.bl false) M) ∨
   ∃ a ts f, d = .ref a ∧ At a M (.dK (kvT ts)) f ∧ ts.length ≤ 1000 ∧ (ts.map (·.1)).Nodup ∧ (∀ t ∈ ts, LsV M t.2.1 t.2.2) ∧ Q (.bl (planB (boxesOf w) w.length (fun b => busyL ws n b w) ts)) M)
theorem okis_plan {f : Addr} {fd : FuncData} (F : Fun K "is_plan" "is_plan" sis_plan f fd) (hm : mg "is_plan" = some (.ref f)) (hb : Binds K fd ["works", "number", "thing"] []) (hB : ∀ x ∈ (["isinstance", "dict", "len", "all"] : List Str), mg x = none) (hboxes_in : Fs P w K mg base 2 "boxes_in" 1 spboxes_in) (his_among : Fs P w K mg base 2 "is_among" 3 spis_among) (his_inside : Fs P w K mg base 7 "is_inside" 4 spis_inside) : Fs P w K mg base 8 "is_plan" 3 spis_plan := by
  refine fs_of (N := nis_plan) (Ln := lis_plan) (Bn := ["isinstance", "dict", "len", "all"]) (Fn := ["boxes_in"]) (Bx := ["isinstance", "dict", "len", "all"]) F hm hb scis_plan rfl (by decide +kernel) hB ?_
  rintro X ds M Q bod ⟨ws, n, w, d, rfl, hf, hw, hc⟩
  have st := bod.st
  have rm := bod.room
  have h1 := bod.tr hboxes_in
  have h2 := bod.tr his_among
  have h3 := bod.tr his_inside
  have hfw := hf.fit w (List.mem_of_getElem? hw)
  have h16 := hfw.len
  have hb8 := boxesOf_len w
  show WSs X ([("works", some (.lst (ws.map W.d))), ("number", some (natD n)), ("thing", some (d)), ("boxes", none), ("box", none)] : VEnv) M _ _
  walk_at "set"
  walk_at "run"
  refine ⟨_, _, rfl, IxD.list isR_lst (atI_map hw), ?_⟩
  walk_at "run"
  refine ⟨_, w, rfl, fun G => isR_lst, hfw, fun q => ?_⟩
  walk_at "put!"
  refine wss_frz (x := "boxes") (by walk_at "look") (by walk_at "put") st (by walk_at "mem") ?_
  rcases hc with ⟨t, hty, hne, hQ⟩ | ⟨a, ob, ks, vs, f, rfl, hat, hl, hk, hodd, hQ⟩ | ⟨a, ts, f, rfl, hat, hl, hnd, hv, hQ⟩
  · obtain ⟨_, _, _, k4, _⟩ := hty.kit
    refine wss_cons (ws_if ?_)
    walk_at "run"
    refine we_isA st (by walk_at "mem") (by walk_at "mem") PyProof.Rows.boot_dict ?_
    walk_at "run"
    refine ⟨t, _, hty, k4, ?_⟩
    walk_at "run"
    rw [hne, Bool.not_false]
    walk_at "run"
    walk_at "ret"
    walk_at "run"
    exact hQ
  · refine wss_cons (ws_if ?_)
    walk_at "run"
    refine we_isX st (by walk_at "mem") (by walk_at "mem") ?_
    walk_at "run"
    refine ⟨a, ob, ks, vs, f, rfl, hat, ?_⟩
    walk_at "run"
    rw [Bool.not_true]
    walk_at "run"
    refine cd_lenX hat ?_
    walk_at "run"
    rw [List.length_map]
    refine ite_n (fun h => ?_) (fun _ => ?_)
    · walk_at "ret"
      walk_at "run"
      exact hQ
    refine wss_nil ?_
    refine wss_cons (ws_if ?_)
    walk_at "run"
    refine we_frz ?_
    refine we_map ks (fun x => x) (fun k => .bl (keyOk (boxesOf w) k)) [("box", 4)] ["box", "boxes"] [] ["is_among"] bod (by decide +kernel) (by walk_at "mem") (by walk_at "wiped") ?_
    refine wi_keysX ?_
    walk_at "run"
    refine ⟨a, ob, ks, vs, _, rfl, hat, (List.map_id' ks).symm, szl (by omega), fun L acc => ⟨_, .there hat⟩, fun k hkm => ⟨_, by walk_at "put", fun X1 inn L acc => ?_⟩, fun pq => ⟨_, _, _, rfl, rfl, ?_⟩⟩
    · have st1 := inn.st
      have g2 := inn.tr h2
      have rm1 := inn.rm rm
      obtain ⟨t, ht⟩ := hk k hkm
      walk_at "run"
      refine ⟨k, t, 0, 8, rfl, ht.cons, ?_⟩
      walk_at "run"
      refine ite_b (fun h => ?_) (fun h => ?_)
      · obtain ⟨i, rfl, i1, i2⟩ := amD_int h
        walk_at "run"
        refine od_inI (i := i) (ns := (boxesOf w).map fun (n : Nat) => (n : Int)) (.inl isR_nl) ?_
        refine ⟨rfl, ?_⟩
        unfold keyOk
        rw [h, Bool.true_and]; rfl
      · refine ⟨rfl, ?_⟩
        unfold keyOk
        rw [h, Bool.false_and]
    · refine wa_nil ?_
      refine cd_all st (bs := ks.map fun k => keyOk (boxesOf w) k) (by rw [List.map_map]; exact isR_lst) ?_
      refine ⟨_, rfl, ?_⟩
      have : (ks.map fun k => keyOk (boxesOf w) k).all id = false := by
        rw [List.all_map, List.all_eq_false]
        obtain ⟨k, k1, k2⟩ := hodd
        refine ⟨k, k1, ?_⟩
        show ¬ keyOk (boxesOf w) k = true
        unfold keyOk amD
        rw [k2, Bool.false_and, Bool.false_and]
        exact Bool.false_ne_true
      rw [this, Bool.not_false]
      walk_at "run"
      walk_at "ret"
      walk_at "run"
      exact hQ
  · refine wss_cons (ws_if ?_)
    walk_at "run"
    refine we_isA st (by walk_at "mem") (by walk_at "mem") PyProof.Rows.boot_dict ?_
    walk_at "run"
    refine ⟨"dict", true, .dK hat, by decide +kernel, ?_⟩
    walk_at "run"
    rw [Bool.not_true]
    walk_at "run"
    refine cd_lenD hat ?_
    walk_at "run"
    rw [List.length_map, show (kvT ts).length = ts.length from List.length_map ..]
    unfold planB at hQ
    refine ite_n (fun h => ?_) (fun hle => ?_)
    · rw [decide_eq_false (by omega), Bool.false_and, Bool.false_and] at hQ
      walk_at "ret"
      walk_at "run"
      exact hQ
    have hlen : ts.length = (boxesOf w).length := by omega
    rw [decide_eq_true hlen, Bool.true_and] at hQ
    refine wss_nil ?_
    refine wss_cons (ws_if ?_)
    walk_at "run"
    refine we_lock hat fun od us => ?_
    refine we_frz ?_
    refine we_map ts (fun t => kD t.1) (fun t => .bl (keyOk (boxesOf w) (kD t.1))) [("box", 4)] ["box", "boxes"] [] ["is_among"] bod (by decide +kernel) (by walk_at "mem") (by walk_at "wiped") ?_
    refine wi_keys ?_
    walk_at "run"
    refine ⟨a, od, us, kvT ts, _, rfl, hat.put _, by unfold kvT; rw [List.map_map]; rfl, szl (by omega), fun L acc => ⟨_, .there (hat.put _)⟩, fun t htm => ⟨_, by walk_at "put", fun X1 inn L acc => ?_⟩, fun pq => ⟨_, _, _, rfl, rfl, ?_⟩⟩
    · have st1 := inn.st
      have g2 := inn.tr h2
      have rm1 := inn.rm rm
      obtain ⟨ty, hty⟩ : ∃ ty, ∀ M : Mem, IsT M (kD t.1) ty := by
        cases t.1 with
        | inl z => exact ⟨_, fun _ => .int z⟩
        | inr z => exact ⟨_, fun _ => .str z⟩
      walk_at "run"
      refine ⟨kD t.1, ty, 0, 8, rfl, hty _, ?_⟩
      walk_at "run"
      refine ite_b (fun h => ?_) (fun h => ?_)
      · obtain ⟨i, hi, i1, i2⟩ := amD_int h
        have hkk : keyOk (boxesOf w) (kD t.1) = decide (i ∈ (boxesOf w).map fun (n : Nat) => (n : Int)) := by
          unfold keyOk
          rw [h, Bool.true_and, hi]; rfl
        rw [hkk, hi]
        walk_at "run"
        refine od_inI (i := i) (ns := (boxesOf w).map fun (n : Nat) => (n : Int)) (.inl isR_nl) ?_
        exact ⟨rfl, rfl⟩
      · refine ⟨rfl, ?_⟩
        unfold keyOk
        rw [h, Bool.false_and]
    · refine ⟨_, hat.put _, ?_⟩
      rw [hat.self]
      refine wa_nil ?_
      refine cd_all st (bs := ts.map fun t => keyOk (boxesOf w) (kD t.1)) (by rw [List.map_map]; exact isR_lst) ?_
      rw [List.all_map, show ts.all (id ∘ fun t => keyOk (boxesOf w) (kD t.1)) = (ts.all fun t => keyOk (boxesOf w) (kD t.1)) from rfl]
      refine ⟨_, rfl, ?_⟩
      refine ite_nb (fun hall => ?_) (fun hall => ?_)
      rotate_left
      · rw [hall, Bool.false_and] at hQ
        walk_at "ret"
        walk_at "run"
        exact hQ
      rw [hall, Bool.true_and] at hQ
      refine wss_nil ?_
      walk_at "ret"
      walk_at "e1"
      walk_at "a1"
      refine we_frz ?_
      refine we_map (boxesOf w) natD (fun b => .bl (insO w.length (busyL ws n b w) (lookT ts b))) [("box", 4)] ["box", "works", "number", "thing"] [] ["is_inside"] bod (by decide +kernel) (by walk_at "mem") (by walk_at "wiped") ?_
      refine wi_list ?_
      walk_at "run"
      refine ⟨_, isR_lst, rfl, szl (by omega), fun _ _ => isR_lst, fun b hb => ⟨_, by walk_at "put", fun X1 inn L acc => ?_⟩, fun p2 => ⟨_, _, _, rfl, rfl, ?_⟩⟩
      · have st1 := inn.st
        have g3 := inn.tr h3
        have rm1 := inn.rm rm
        have hb8 := boxesOf_lt w b hb
        obtain ⟨t, ht, e1, e2, e3⟩ := look_in hnd hlen hall hb
        walk_at "e1"
        walk_at "a1"
        walk_at "e1"
        walk_at "a1"
        walk_at "e1"
        walk_at "a1"
        walk_at "e1"
        walk_at "a1"
        refine we_dix st1 ?_
        walk_at "run"
        refine ⟨t.2.1, by rw [← e3]; exact GetD.dk (.there hat), ?_⟩
        walk_at "run"
        refine ⟨ws, n, b, w, _, rfl, hf, hw, by omega, ?_⟩
        rw [e2]
        rcases hv t ht with ⟨o1, ty, o2, o3⟩ | ⟨xs, o1, o2, o3, o4⟩
        · exact .inl ⟨ty, o2.cons, o3, rfl, by rw [o1]; rfl⟩
        · exact .inr ⟨xs, o2.cons, o3, fun x hx => let ⟨ty, h⟩ := o4 x hx; ⟨ty, h.cons⟩, rfl, by rw [o1]; rfl⟩
      refine wa_nil ?_
      refine cd_all st (bs := (boxesOf w).map fun b => insO w.length (busyL ws n b w) (lookT ts b)) (by rw [List.map_map]; exact isR_lst) ?_
      rw [List.all_map]
      exact hQ
end
end Gen

set_option pp.maxSteps 800
namespace Gen
open PySem L2 DL Wk
abbrev s_law_plan : Stmt := top 40
abbrev l_law_plan : List Str := ["_law_tape_here", "_law_own", "_law_many_here", "_law_found", "_law_left", "_law_box", "_law_way", "_law_more"]
abbrev n_law_plan : List Str := ["_law_tape_here", "_law_own", "_law_many_here", "_law_found", "_law_left", "_law_box", "_law_way", "_law_more", "_law_b"]
theorem sc_law_plan : FnScope n_law_plan ["_law_tape_here", "_law_own", "_law_many_here"] (defScope s_law_plan) := ⟨rfl, rfl, rfl, by decide +kernel, rfl, by decide +kernel, by decide +kernel⟩
abbrev s_law_whole : Stmt := top 41
abbrev l_law_whole : List Str := ["_law_thing"]
abbrev n_law_whole : List Str := ["_law_thing"]
theorem sc_law_whole : FnScope n_law_whole ["_law_thing"] (defScope s_law_whole) := ⟨rfl, rfl, rfl, by decide +kernel, rfl, by decide +kernel, by decide +kernel⟩
abbrev s_law_is_plan : Stmt := top 42
abbrev l_law_is_plan : List Str := ["_law_own", "_law_many_here", "_law_thing", "_law_boxes_here", "_law_box", "_law_some"]
abbrev n_law_is_plan : List Str := ["_law_own", "_law_many_here", "_law_thing", "_law_boxes_here", "_law_box", "_law_some", "_law_b"]
theorem sc_law_is_plan : FnScope n_law_is_plan ["_law_own", "_law_many_here", "_law_thing"] (defScope s_law_is_plan) := ⟨rfl, rfl, rfl, by decide +kernel, rfl, by decide +kernel, by decide +kernel⟩
section
variable {P : Program} {w : World} {K : PySem.W.Frag} {mg : Str → Option Value} {base : Heap}
def ownF (own : Pl) (b : Nat) : List Nat := ((own.find? fun p => decide (p.1 = b)).map (·.2)).getD []
theorem ownF_at {own : Pl} {b : Nat} {l : List Nat} (nd : (own.map (·.1)).Nodup) (h : (b, l) ∈ own) : ownF own b = l := by
  induction own with
  | nil => cases h
  | cons p own ih =>
    rw [List.map_cons, List.nodup_cons] at nd
    unfold ownF
    rw [List.find?_cons]
    rcases List.mem_cons.mp h with rfl | h
    · rw [decide_eq_true rfl]; rfl
    · have hne : p.1 ≠ b := fun e => nd.1 (List.mem_map.mpr ⟨_, h, e.symm⟩)
      rw [decide_eq_false hne]
      exact ih nd.2 h
theorem ownF_mem {own : Pl} {b : Nat} (nd : (own.map (·.1)).Nodup) (h : b ∈ own.map (·.1)) : (b, ownF own b) ∈ own := by
  obtain ⟨⟨b', l⟩, hp, rfl⟩ := List.mem_map.mp h
  rw [ownF_at nd hp]; exact hp
theorem kv_ints (own : Pl) : own.kv.map (·.1) = (own.map fun p => (p.1 : Int)).map Sum.inl := by
  unfold Pl.kv
  rw [List.map_map, List.map_map]; rfl
theorem nat_ne {l : List Nat} : (!decide (l.map (fun (n : Nat) => (n : Int)) = ([] : List Int))) = !decide (l = []) := by
  rw [decide_eq_decide.mpr (show l.map (fun (n : Nat) => (n : Int)) = [] ↔ l = [] from List.map_eq_nil_iff)]
theorem perm_pop2 {bs : List Nat} {pl : Pl} {rest : List Nat} {k : Nat} {l : List Nat} (h : (pl.map (·.1) ++ rest).Perm bs) (hk : k < rest.length) : ((pl ++ [(rest[k], l)]).map (·.1) ++ rest.eraseIdx k).Perm bs := by
  refine List.Perm.trans ?_ h
  rw [List.map_append, List.append_assoc]
  refine List.Perm.append_left _ ?_
  rw [List.map_singleton]
  rw [List.eraseIdx_eq_take_drop_succ]
  have e : rest = rest.take k ++ rest[k] :: rest.drop (k + 1) := by simp
  refine List.Perm.trans ?_ (List.Perm.of_eq e.symm)
  exact (List.perm_middle (a := rest[k]) (l₁ := rest.take k) (l₂ := rest.drop (k + 1))).symm
abbrev sp_law_plan : DSp := fun ds M Q => ∃ (t : Addr) (N m : Nat) (c : Cell) (f : Cell → Mem) (own : Pl) (po : Addr) (M0 : Mem), ds = [.ref t, .ref po, natD m] ∧ M = (po, .dK own.kv) :: M0 ∧ At t M0 c f ∧ Tape N c ∧ N ≤ 900000000 ∧ PlOk m own ∧ m ≤ 16 ∧ (own.map (·.1)).Pairwise (· < ·) ∧
  ∀ (pl : Pl) (p : Addr) (c' : Cell), PlOk m pl → (pl.map (·.1)).Perm (own.map (·.1)) → (∀ q ∈ pl, ∀ k ∈ ownF own q.1, k ∈ q.2) → Tape (N + 200) c' → Q (.ref p) ((p, .dK pl.kv) :: (po, .dK own.kv) :: f c')
theorem ok_law_plan {f : Addr} {fd : FuncData} (F : Fun K "_law_plan" "_law_plan" s_law_plan f fd) (hm : mg "_law_plan" = some (.ref f)) (hb : Binds K fd ["_law_tape_here", "_law_own", "_law_many_here"] []) (hB : ∀ x ∈ (["sorted", "len", "range", "set"] : List Str), mg x = none) (h_law_draw : Fs P w K mg base 1 "_law_draw" 2 sp_law_draw) : Fs P w K mg base 2 "_law_plan" 3 sp_law_plan := by
  refine fs_of (N := n_law_plan) (Ln := l_law_plan) (Bn := ["sorted", "len", "range", "set"]) (Fn := ["_law_draw"]) (Bx := ["sorted", "len", "range", "set"]) F hm hb sc_law_plan rfl (by decide +kernel) hB ?_
  rintro X ds M Q bod ⟨t, N, m, c, f, own, po, M0, rfl, rfl, hat, tp, hN, hown, hm16, houp, hQ⟩
  have st := bod.st
  have rm := bod.room
  have hd := bod.tr h_law_draw
  have hol := hown.len
  show WSs X ([("_law_tape_here", some (.ref t)), ("_law_own", some (.ref po)), ("_law_many_here", some (natD m)), ("_law_found", none), ("_law_left", none), ("_law_box", none), ("_law_way", none), ("_law_more", none), ("_law_b", none)] : VEnv) _ _ _
  refine wss_cons (ws_par st (by walk_at "mem") (by walk_at "mem") (bod.lk (by decide +kernel)) (bod.lk (by decide +kernel)) bod.kind (by decide) (by walk_at "put") (by walk_at "put") ?_)
  walk_at "a1"
  refine we_dnew fun pd => ?_
  walk_at "a1"
  walk_at "run"
  refine cd_sortedKO st (ms := own.map fun p => (p.1 : Int)) (.there .here) (kv_ints own) (by rw [List.length_map]; omega) (.refl _) (by rw [List.pairwise_map]; rw [List.pairwise_map] at houp; exact houp.imp fun h => by omega) fun pw => ?_
  walk_at "run"
  refine ⟨_, _, _, _, rfl, by walk_at "put", by walk_at "put", ?_⟩
  refine wss_cons (ws_while st (fun mm Γ' M' => ∃ (pl : Pl) (rest : List Nat) (c' : Cell) (o1 o2 o3 : Option D), PlOk m pl ∧ (pl.map (·.1) ++ rest).Perm (own.map (·.1)) ∧ (∀ q ∈ pl, ∀ k ∈ ownF own q.1, k ∈ q.2) ∧ mm = rest.length ∧ Tape (N + 20 * pl.length) c' ∧ Γ' = ([("_law_tape_here", some (.ref t)), ("_law_own", some (.ref po)), ("_law_many_here", some (natD m)), ("_law_found", some (.ref pd)), ("_law_left", some (.ref pw)), ("_law_box", o1), ("_law_way", o2), ("_law_more", o3), ("_law_b", none)] : VEnv) ∧ M' = (pw, .lst (rest.map natD)) :: (pd, .dK pl.kv) :: (po, .dK own.kv) :: f c') _ ⟨[], own.map (·.1), c, _, _, _, ⟨.nil, by simp, by simp, by simp⟩, .refl _, by simp, rfl, tp, rfl, by rw [hat.self, List.map_map, List.map_map]; rfl⟩ ?_)
  rintro mm Γ' M' ⟨pl, rest, c1, o1, o2, o3, hok, hpm, hin, hm, tp1, rfl, rfl⟩
  have hpl := hok.len
  have hlen : pl.length + rest.length ≤ 8 := by
    have e := hpm.length_eq
    simp only [List.length_append, List.length_map] at e
    omega
  have at1 := hat.put c1
  walk_at "run"
  refine od_neL st (ns := rest.map fun (n : Nat) => (n : Int)) (ms := []) (by rw [List.map_map]; exact isR_ref .here) isR_lst ?_
  rw [nat_ne]
  walk_at "run"
  refine ite_n (fun hne => ?_) (fun hnil => ?_)
  rotate_left
  · subst hnil
    walk_at "ret"
    refine we_gc ?_
    walk_at "run"
    rw [List.append_nil] at hpm
    exact ⟨[(pw, _)], _, .refl _, hQ pl pd c1 hok hpm hin (tp1.mono (by omega))⟩
  have hrl : 0 < rest.length := List.length_pos_iff.mpr hne
  walk_at "set"
  walk_at "run"
  refine ⟨_, _, _, _, _, rfl, by walk_at "at", tp1, by omega, by simp; omega, by simp; omega, ?_⟩
  intro r2 c2 a2 b2 tp2
  have at2 := hat.put c2
  walk_at "run"
  obtain ⟨k2, rfl⟩ := Int.eq_ofNat_of_zero_le a2
  have hk2 : k2 < rest.length := by simpa using b2
  refine md_popAt (by walk_at "at") (by omega) (by omega) (d := natD rest[k2]) (by simp [hk2]) ?_
  walk_at "put!"
  walk_at "set"
  walk_at "run"
  refine ⟨_, _, _, _, _, rfl, by walk_at "at", tp2, by omega, by omega, by omega, ?_⟩
  intro r3 c3 a3 b3 tp3
  have at3 := hat.put c3
  walk_at "run"
  have hbo : rest[k2] ∈ own.map (·.1) := hpm.mem_iff.mp (List.mem_append_right _ (List.getElem_mem hk2))
  have hmo := ownF_mem hown.nd hbo
  generalize hol' : ownF own rest[k2] = lo at hmo
  have hup' : lo.Pairwise (· < ·) := hown.up _ hmo
  have hlt' : ∀ k ∈ lo, k < m := hown.lt _ hmo
  have sor : ∀ bs : List Nat, bs.Pairwise (· < ·) → (∀ b ∈ bs, b < m) → bs.length ≤ 16 := fun bs h1 h2 => by
    have := nodup_leN (l := bs) (m := List.range m) (h1.imp fun h => Nat.ne_of_lt h) fun y hy => List.mem_range.mpr (h2 y hy)
    rw [List.length_range] at this
    omega
  refine wss_cons (ws_setStP (j := 7) [("_law_b", 8)] ["_law_b", "_law_way", "_law_tape_here"] [] ["_law_draw"] bod (by decide +kernel) (by walk_at "mem") (by walk_at "wiped") (by walk_at "mem") (by decide +kernel) rfl (by decide +kernel) ?_)
  refine wi_range st (by walk_at "mem") ?_
  walk_at "run"
  refine ⟨(m : Int), rfl, by omega, by omega, ?_⟩
  rw [Int.toNat_natCast, rng0]
  refine ⟨fun i acc M' => ∃ (bs : List Nat) (c' : Cell), acc = bs.map natD ∧ bs.Pairwise (· < ·) ∧ (∀ b ∈ bs, b < i ∧ b < m) ∧ Tape (N + 20 * pl.length + 2 + i) c' ∧ M' = (pw, .lst ((rest.eraseIdx k2).map natD)) :: (pd, .dK pl.kv) :: (po, .dK own.kv) :: f c', ?_, ?_, ?_, ?_⟩
  · exact ⟨[], c3, rfl, .nil, by simp, tp3, by simp [List.eraseIdx_eq_take_drop_succ, List.map_take, List.map_drop]⟩
  · intros; trivial
  · rintro i d acc M' hx ⟨bs, c4, rfl, hup, hlt, tp4, rfl⟩
    rw [List.getElem?_map] at hx
    obtain ⟨i', hi', rfl⟩ := Option.map_eq_some_iff.mp hx
    obtain ⟨hi, rfl⟩ : i < m ∧ i' = i := by
      obtain ⟨h1, h2⟩ := List.getElem?_eq_some_iff.mp hi'
      rw [List.length_range] at h1
      rw [List.getElem_range] at h2
      exact ⟨h1, h2.symm⟩
    have hbl := sor bs hup fun b hb => (hlt b hb).2
    have at4 := hat.put c4
    have yes : ∀ c5, Tape (N + 20 * pl.length + 2 + (i' + 1)) c5 → ∃ (bs' : List Nat) (c' : Cell), bs.map natD ++ [natD i'] = bs'.map natD ∧ bs'.Pairwise (· < ·) ∧ (∀ b ∈ bs', b < i' + 1 ∧ b < m) ∧ Tape (N + 20 * pl.length + 2 + (i' + 1)) c' ∧ (pw, Cell.lst ((rest.eraseIdx k2).map natD)) :: (pd, .dK pl.kv) :: (po, .dK own.kv) :: f c5 = (pw, .lst ((rest.eraseIdx k2).map natD)) :: (pd, .dK pl.kv) :: (po, .dK own.kv) :: f c' := fun c5 t5 => by
      refine ⟨bs ++ [i'], c5, by simp, ?_, fun b hb => ?_, t5, rfl⟩
      · rw [List.pairwise_append]
        exact ⟨hup, List.pairwise_singleton _ _, fun a ha b hb => by rw [List.mem_singleton] at hb; rw [hb]; exact (hlt a ha).1⟩
      · rcases List.mem_append.mp hb with hb | hb
        · have := hlt b hb; omega
        · rw [List.mem_singleton] at hb; omega
    have no : ∀ c5, Tape (N + 20 * pl.length + 2 + (i' + 1)) c5 → ∃ (bs' : List Nat) (c' : Cell), bs.map natD = bs'.map natD ∧ bs'.Pairwise (· < ·) ∧ (∀ b ∈ bs', b < i' + 1 ∧ b < m) ∧ Tape (N + 20 * pl.length + 2 + (i' + 1)) c' ∧ (pw, Cell.lst ((rest.eraseIdx k2).map natD)) :: (pd, .dK pl.kv) :: (po, .dK own.kv) :: f c5 = (pw, .lst ((rest.eraseIdx k2).map natD)) :: (pd, .dK pl.kv) :: (po, .dK own.kv) :: f c' := fun c5 t5 =>
      ⟨bs, c5, rfl, hup, fun b hb => by have := hlt b hb; omega, t5, rfl⟩
    refine ⟨_, by walk_at "put", fun X1 inn L => ?_⟩
    have st1 := inn.st
    have g1 := inn.tr hd
    have rm1 := inn.rm rm
    walk_at "run"
    refine ite_d (fun h1 => ⟨_, rfl, ?_⟩) (fun h1 => ?_)
    · rw [if_pos rfl]
      refine ⟨szlt (by rw [List.length_map]; omega), fun X2 inn2 => ?_⟩
      have st2 := inn2.st
      walk_at "run"
      exact ⟨rfl, yes c4 (tp4.mono (by omega))⟩
    · walk_at "run"
      refine ite_d (fun h2 => ?_) (fun h2 => ⟨_, rfl, ?_⟩)
      · walk_at "run"
        refine ⟨_, _, _, _, _, rfl, by walk_at "at", tp4, by omega, by omega, by omega, ?_⟩
        intro r5 c5 a5 b5 tp5
        walk_at "run"
        refine ⟨_, rfl, ?_⟩
        refine ite_d (fun h3 => ?_) (fun h3 => ?_)
        · refine ⟨szlt (by rw [List.length_map]; omega), fun X2 inn2 => ?_⟩
          have st2 := inn2.st
          walk_at "run"
          exact ⟨rfl, yes c5 (tp5.mono (by omega))⟩
        · exact no c5 (tp5.mono (by omega))
      · rw [if_neg Bool.false_ne_true]
        exact no c4 (tp4.mono (by omega))
  · rintro acc M' ⟨bs, c4, rfl, hup, hlt, tp4, rfl⟩ p
    rw [List.length_map, List.length_range] at tp4
    refine ⟨_, by walk_at "put", ?_⟩
    refine wss_frz (x := "_law_more") (by walk_at "look") (by walk_at "put") st (by walk_at "mem") ?_
    have hbl := sor bs hup fun b hb => (hlt b hb).2
    have hbu := sor lo hup' hlt'
    walk_at "asg"
    refine we_gc ?_
    walk_at "e1"
    walk_at "a1"
    walk_at "e1"
    walk_at "a1"
    refine we_bin ?_
    refine we_dix st ?_
    walk_at "run"
    refine ⟨nlD lo, by rw [← Pl.at hown.nd hmo]; exact GetD.dk (by walk_at "at"), ?_⟩
    walk_at "run"
    refine od_cat isL_lst isL_lst (by simp only [List.length_map]; exact szl (by omega)) ?_
    refine wa_nil ?_
    rw [← nl_app]
    have hall : ∀ k ∈ lo ++ bs, k < m := fun k hk => by
      rcases List.mem_append.mp hk with hk | hk
      · exact hlt' k hk
      · exact (hlt k hk).2
    refine cd_setI st (ns := (lo ++ bs).map fun (n : Nat) => (n : Int)) isR_nl (by simp only [List.length_map, List.length_append]; omega) fun ps cc hcc => ?_
    walk_at "run"
    refine cd_sortedSet st .here ?_ (upI' (sortU_up m (lo ++ bs))) (fun k => ?_) ?_
    · have := hcc ((List.range 60).map fun (n : Nat) => (n : Int)) (fun k hk => by
        obtain ⟨n, hn', rfl⟩ := List.mem_map.mp hk
        have := hall n hn'
        exact List.mem_map.mpr ⟨n, List.mem_range.mpr (by omega), rfl⟩)
      rw [List.length_map, List.length_range] at this
      omega
    · rw [decide_eq_true_iff, List.mem_map, List.mem_map]
      exact ⟨fun ⟨n, h, e⟩ => ⟨n, (mem_sortU.mp h).2, e⟩, fun ⟨n, h, e⟩ => ⟨n, mem_sortU.mpr ⟨hall n h, h⟩, e⟩⟩
    rw [List.map_map]
    refine ⟨[_], _, .refl _, ?_⟩
    refine wg_dix st ?_ (by intro _; with_unfolding_all rfl)
    walk_at "run"
    have hkl : pl.kv.length = pl.length := by unfold Pl.kv; rw [List.length_map]
    have hnew : ∀ p ∈ pl, p.1 ≠ rest[k2] := fun p hp e => by
      have nd := hpm.nodup_iff.mpr hown.nd
      rw [List.nodup_append] at nd
      exact nd.2.2 _ (List.mem_map.mpr ⟨p, hp, rfl⟩) _ (List.getElem_mem hk2) e
    refine ⟨pd, _, rfl, .inl ⟨pl.kv, .inl (rest[k2] : Int), by walk_at "at", rfl, szlt (by omega), ?_⟩⟩
    refine wss_nil ?_
    have hb8 : rest[k2] < 8 := hown.box _ hmo
    refine ⟨_, ?_, pl ++ [(rest[k2], sortU m (lo ++ bs))], rest.eraseIdx k2, c4, _, _, _, ⟨?_, ?_, ?_, ?_⟩, perm_pop2 hpm hk2, ?_, rfl, tp4.mono ?_, rfl, ?_⟩
    · have := List.length_eraseIdx_of_lt hk2
      omega
    · have nd := (perm_pop2 (l := sortU m (lo ++ bs)) hpm hk2).nodup_iff.mpr hown.nd
      exact (List.nodup_append.mp nd).1
    · intro p hp
      rcases List.mem_append.mp hp with hp | hp
      · exact hok.box p hp
      · rw [List.mem_singleton] at hp; rw [hp]; exact hb8
    · intro p hp
      rcases List.mem_append.mp hp with hp | hp
      · exact hok.up p hp
      · rw [List.mem_singleton] at hp; rw [hp]; exact sortU_up _ _
    · intro p hp k hk
      rcases List.mem_append.mp hp with hp | hp
      · exact hok.lt p hp k hk
      · rw [List.mem_singleton] at hp; rw [hp] at hk; exact (mem_sortU.mp hk).1
    · intro p hp k hk
      rcases List.mem_append.mp hp with hp | hp
      · exact hin p hp k hk
      · rw [List.mem_singleton] at hp
        subst hp
        have hk : k ∈ ownF own rest[k2] := hk
        rw [hol'] at hk
        exact mem_sortU.mpr ⟨hlt' k hk, List.mem_append_left _ hk⟩
    · rw [List.length_append, List.length_singleton]
      omega
    · rw [← Pl.put_new hnew]; rfl
abbrev sp_law_whole : DSp := fun ds M Q => ∃ (d : D) (t : String), ds = [d] ∧ IsT M d t ∧ Q (.bl (isI d)) M
theorem ok_law_whole {f : Addr} {fd : FuncData} (F : Fun K "_law_whole" "_law_whole" s_law_whole f fd) (hm : mg "_law_whole" = some (.ref f)) (hb : Binds K fd ["_law_thing"] []) (hB : ∀ x ∈ (["isinstance", "int", "bool"] : List Str), mg x = none) : Fs P w K mg base 1 "_law_whole" 1 sp_law_whole := by
  refine fs_of (N := n_law_whole) (Ln := l_law_whole) (Bn := ["isinstance", "int", "bool"]) (Fn := []) (Bx := ["isinstance", "int", "bool"]) F hm hb sc_law_whole rfl (by decide +kernel) hB ?_
  rintro X ds M Q bod ⟨d, t, rfl, hty, hQ⟩
  have st := bod.st
  show WSs X ([("_law_thing", some (d))] : VEnv) M _ _
  obtain ⟨k1, k2, _⟩ := hty.kit
  rw [hty.isI] at hQ
  walk_at "ret"
  walk_at "run"
  refine we_isA st (by walk_at "mem") (by walk_at "mem") PyProof.Rows.boot_int ?_
  walk_at "run"
  refine ⟨t, _, hty, k1, ?_⟩
  walk_at "run"
  refine ite_b (fun h => ?_) (fun h => ?_)
  · walk_at "run"
    refine we_isA st (by walk_at "mem") (by walk_at "mem") bt_bool ?_
    walk_at "run"
    refine ⟨t, _, hty, k2, ?_⟩
    walk_at "run"
    have : (!(t == "bool")) = (t == "int") := by
      cases hty <;> first | rfl | exact absurd h (by decide) | decide +kernel
    rw [this]
    exact hQ
  · have : (t == "int") = false := by
      rw [Bool.or_eq_false_iff] at h; exact h.1
    rw [this] at hQ
    exact hQ
theorem riseG {ys : List Int} (h : ∀ k, k + 1 < ys.length → ys.getD k 0 < ys.getD (k + 1) 0) : ∀ d i, i + d + 1 < ys.length → ys.getD i 0 < ys.getD (i + d + 1) 0
  | 0, i, hi => h i hi
  | d + 1, i, hi => by
    have h1 := riseG h d i (by omega)
    have h2 := h (i + d + 1) (by omega)
    rw [show i + (d + 1) + 1 = i + d + 1 + 1 from by omega]
    omega
theorem riseP {ys : List Int} (h : ∀ k, k + 1 < ys.length → ys.getD k 0 < ys.getD (k + 1) 0) : ys.Pairwise (· < ·) := by
  rw [List.pairwise_iff_getElem]
  intro i j hi hj hij
  have := riseG h (j - i - 1) i (by omega)
  rw [show i + (j - i - 1) + 1 = j from by omega, List.getD_eq_getElem?_getD, List.getD_eq_getElem?_getD, List.getElem?_eq_getElem hi, List.getElem?_eq_getElem hj] at this
  exact this
theorem up_uniq : ∀ {xs ys : List Int}, xs.Pairwise (· < ·) → ys.Pairwise (· < ·) → (∀ k, k ∈ xs ↔ k ∈ ys) → xs = ys
  | [], [], _, _, _ => rfl
  | [], y :: ys, _, _, h => absurd ((h y).mpr List.mem_cons_self) (by simp)
  | x :: xs, [], _, _, h => absurd ((h x).mp List.mem_cons_self) (by simp)
  | x :: xs, y :: ys, h1, h2, h => by
    rw [List.pairwise_cons] at h1 h2
    have e : x = y := by
      rcases List.mem_cons.mp ((h x).mp List.mem_cons_self) with e | hx
      · exact e
      · rcases List.mem_cons.mp ((h y).mpr List.mem_cons_self) with e | hy
        · exact e.symm
        · have := h1.1 y hy
          have := h2.1 x hx
          omega
    subst e
    rw [up_uniq h1.2 h2.2 fun k => ?_]
    constructor
    · intro hk
      rcases List.mem_cons.mp ((h k).mp (List.mem_cons_of_mem _ hk)) with e | hk'
      · have := h1.1 k hk; omega
      · exact hk'
    · intro hk
      rcases List.mem_cons.mp ((h k).mpr (List.mem_cons_of_mem _ hk)) with e | hk'
      · have := h2.1 k hk; omega
      · exact hk'
/-- the rising list of unlike numbers among some -/
def sortI (m : Nat) (zs : List Int) : List Int := (sortU m (zs.map Int.toNat)).map fun (n : Nat) => (n : Int)
theorem sortI_up (m : Nat) (zs : List Int) : (sortI m zs).Pairwise (· < ·) := upI' (sortU_up m _)
theorem sortI_mem {m : Nat} {zs : List Int} (h : ∀ z ∈ zs, 0 ≤ z ∧ z < (m : Int)) (k : Int) : k ∈ sortI m zs ↔ k ∈ zs := by
  unfold sortI
  rw [List.mem_map]
  constructor
  · rintro ⟨n, hn, rfl⟩
    obtain ⟨z, hz, e⟩ := List.mem_map.mp (mem_sortU.mp hn).2
    have := h z hz
    rw [show ((n : Nat) : Int) = z from by omega]; exact hz
  · intro hk
    have := h k hk
    exact ⟨k.toNat, mem_sortU.mpr ⟨by omega, List.mem_map.mpr ⟨k, hk, rfl⟩⟩, by omega⟩
theorem rise_dec {m : Nat} {zs : List Int} (h : ((zs.map D.int).all (amD 0 m)) = true) : riseD m (zs.map D.int) = decide (zs = sortI m zs) := by
  have hb : ∀ z ∈ zs, 0 ≤ z ∧ z < (m : Int) := fun z hz => by
    have := List.all_eq_true.mp h (.int z) (List.mem_map.mpr ⟨z, hz, rfl⟩)
    obtain ⟨i, e, h1, h2⟩ := amD_int this
    cases e
    exact ⟨h1, h2⟩
  unfold riseD
  rw [h, Bool.true_and, Bool.eq_iff_iff, decide_eq_true_iff, List.all_eq_true]
  constructor
  · intro hh
    refine up_uniq (riseP fun k hk => ?_) (sortI_up m zs) fun k => (sortI_mem hb k).symm
    have := of_decide_eq_true (hh k (List.mem_range.mpr (by rw [List.length_map]; omega)))
    rw [List.getD_eq_getElem?_getD, List.getD_eq_getElem?_getD, List.getElem?_map, List.getElem?_map, List.getElem?_eq_getElem hk, List.getElem?_eq_getElem (show k < zs.length by omega)] at this
    rw [List.getD_eq_getElem?_getD, List.getD_eq_getElem?_getD, List.getElem?_eq_getElem hk, List.getElem?_eq_getElem (show k < zs.length by omega)]
    exact this
  · intro e k hk
    rw [List.mem_range, List.length_map] at hk
    have hp : zs.Pairwise (· < ·) := by rw [e]; exact sortI_up m zs
    rw [List.pairwise_iff_getElem] at hp
    have := hp k (k + 1) (by omega) (by omega) (by omega)
    refine decide_eq_true ?_
    rw [List.getD_eq_getElem?_getD, List.getD_eq_getElem?_getD, List.getElem?_map, List.getElem?_map, List.getElem?_eq_getElem (show k + 1 < zs.length by omega), List.getElem?_eq_getElem (show k < zs.length by omega)]
    exact this
theorem keyOk_int {bs : List Nat} {d : D} (h : keyOk bs d = true) : isI d = true := by
  unfold keyOk at h
  rw [Bool.and_eq_true] at h
  obtain ⟨i, rfl, _⟩ := amD_int h.1
  rfl
/-- the whole numbers among the keys -/
def keyI (k : Key) : Int := match k with | .inl z => z | .inr _ => 0
theorem keyI_eq {ts : List Tv} (h : ∀ t ∈ ts, isI (kD t.1) = true) : (kvT ts).map (·.1) = (ts.map fun t => keyI t.1).map Sum.inl := by
  unfold kvT
  rw [List.map_map, List.map_map]
  refine List.map_congr_left fun t ht => ?_
  have := h t ht
  show t.1 = Sum.inl (keyI t.1)
  cases hk : t.1 with
  | inl z => rfl
  | inr z => rw [hk] at this; exact absurd this (by simp [kD, isI])
theorem perm_nodup_int : ∀ {l m : List Int}, l.Nodup → m.Nodup → (∀ x, x ∈ l ↔ x ∈ m) → l.Perm m := fun h1 h2 h => (List.perm_ext_iff_of_nodup h1 h2).mpr h
/-- a plan's keys are just the boxes, in whatever order -/
theorem plan_keys {bs : List Nat} {ts : List Tv} (nd : (ts.map (·.1)).Nodup) (hi : ∀ t ∈ ts, isI (kD t.1) = true) (hup : bs.Pairwise (· < ·)) (h8 : ∀ b ∈ bs, b < 8) :
    (decide (ts.length = bs.length) && ts.all fun t => keyOk bs (kD t.1)) = decide (((ts.map fun t => keyI t.1).mergeSort (fun a b => decide (a ≤ b))) = bs.map fun (n : Nat) => (n : Int)) := by
  have hkd : ∀ t ∈ ts, kD t.1 = .int (keyI t.1) := fun t ht => by
    have := hi t ht
    cases hk : t.1 with
    | inl z => rfl
    | inr z => rw [hk] at this; exact absurd this (by simp [kD, isI])
  have nd2 : (ts.map fun t => keyI t.1).Nodup := by
    have e := keyI_eq hi
    have e2 : (kvT ts).map (·.1) = ts.map (·.1) := by unfold kvT; rw [List.map_map]; rfl
    rw [← e2, e] at nd
    exact (List.pairwise_map.mp nd).imp fun h e => h (congrArg _ e)
  have hok : ∀ t ∈ ts, keyOk bs (kD t.1) = decide (keyI t.1 ∈ bs.map fun (n : Nat) => (n : Int)) := fun t ht => by
    rw [hkd t ht]
    unfold keyOk amD
    have e1 : intD (D.int (keyI t.1)) = keyI t.1 := rfl
    have e2 : isI (D.int (keyI t.1)) = true := rfl
    rw [e1, e2, Bool.true_and]
    by_cases hm : keyI t.1 ∈ bs.map fun (n : Nat) => (n : Int)
    · obtain ⟨b, hb, e⟩ := List.mem_map.mp hm
      have := h8 b hb
      rw [decide_eq_true hm, decide_eq_true (show (0 : Int) ≤ keyI t.1 by omega), decide_eq_true (show keyI t.1 < 8 by omega)]; rfl
    · rw [decide_eq_false hm, Bool.and_false]
  have ndb : (bs.map fun (n : Nat) => (n : Int)).Nodup := (upI' hup).imp fun h => by omega
  rw [Bool.eq_iff_iff, Bool.and_eq_true, decide_eq_true_iff, decide_eq_true_iff, List.all_eq_true]
  constructor
  · rintro ⟨hl, hall⟩
    have hsub : ∀ x ∈ ts.map fun t => keyI t.1, x ∈ bs.map fun (n : Nat) => (n : Int) := fun x hx => by
      obtain ⟨t, ht, rfl⟩ := List.mem_map.mp hx
      have := hall t ht
      rw [hok t ht, decide_eq_true_iff] at this
      exact this
    have hsup : ∀ x ∈ bs.map fun (n : Nat) => (n : Int), x ∈ ts.map fun t => keyI t.1 := fun x hx => Classical.byContradiction fun hn => by
      have := nodup_leA (l := x :: ts.map fun t => keyI t.1) (m := bs.map fun (n : Nat) => (n : Int)) (List.nodup_cons.mpr ⟨hn, nd2⟩) fun y hy => by
        rcases List.mem_cons.mp hy with rfl | hy
        · exact hx
        · exact hsub y hy
      rw [List.length_cons, List.length_map, List.length_map] at this
      omega
    have hp : (ts.map fun t => keyI t.1).Perm (bs.map fun (n : Nat) => (n : Int)) := perm_nodup_int nd2 ndb fun x => ⟨hsub x, hsup x⟩
    have ms := List.mergeSort_perm (ts.map fun t => keyI t.1) fun a b => decide (a ≤ b)
    have hs : ((ts.map fun t => keyI t.1).mergeSort fun a b => decide (a ≤ b)).Pairwise fun a b => decide (a ≤ b) = true := List.pairwise_mergeSort (fun a b c h1 h2 => by simp only [decide_eq_true_eq] at *; omega) (fun a b => by simp only [Bool.or_eq_true, decide_eq_true_eq]; omega) _
    refine up_uniq ?_ (upI' hup) fun k => (ms.trans hp).mem_iff
    have nd3 := (ms.nodup_iff).mpr nd2
    have := (List.pairwise_and_iff.mpr ⟨hs, nd3⟩)
    exact this.imp fun ⟨h1, h2⟩ => by
      have := of_decide_eq_true h1
      omega
  · intro e
    have ms := List.mergeSort_perm (ts.map fun t => keyI t.1) fun a b => decide (a ≤ b)
    rw [e] at ms
    refine ⟨?_, fun t ht => ?_⟩
    · have := ms.length_eq
      rw [List.length_map, List.length_map] at this
      exact this.symm
    · rw [hok t ht, decide_eq_true_iff]
      exact ms.mem_iff.mpr (List.mem_map.mpr ⟨t, ht, rfl⟩)
abbrev sp_law_is_plan : DSp := fun ds M Q => ∃ (po : Addr) (m : Nat) (own : Pl) (g : Cell → Mem) (d : D), ds = [.ref po, natD m, d] ∧ At po M (.dK own.kv) g ∧ PlOk m own ∧ m ≤ 16 ∧ (own.map (·.1)).Pairwise (· < ·) ∧
  ((∃ t, IsT M d t ∧ (t == "dict") = false ∧ Q (.bl false) M) ∨
   (∃ a ob ks vs f, d = .ref a ∧ At a M (.fzX ob ks vs) f ∧ ks.length ≤ 1000 ∧ (∀ k ∈ ks, ∃ t, IsT M k t) ∧ (∃ k ∈ ks, isI k = false) ∧ Q (.bl false) M) ∨
   ∃ a ts f, d = .ref a ∧ At a M (.dK (kvT ts)) f ∧ ts.length ≤ 60 ∧ (ts.map (·.1)).Nodup ∧ (∀ t ∈ ts, LsV M t.2.1 t.2.2) ∧ Q (.bl (planB (own.map (·.1)) m (ownF own) ts)) M)
theorem ok_law_is_plan {f : Addr} {fd : FuncData} (F : Fun K "_law_is_plan" "_law_is_plan" s_law_is_plan f fd) (hm : mg "_law_is_plan" = some (.ref f)) (hb : Binds K fd ["_law_own", "_law_many_here", "_law_thing"] []) (hB : ∀ x ∈ (["sorted", "isinstance", "dict", "all", "list", "set"] : List Str), mg x = none) (h_law_whole : Fs P w K mg base 1 "_law_whole" 1 sp_law_whole) : Fs P w K mg base 2 "_law_is_plan" 3 sp_law_is_plan := by
  refine fs_of (N := n_law_is_plan) (Ln := l_law_is_plan) (Bn := ["sorted", "isinstance", "dict", "all", "list", "set"]) (Fn := []) (Bx := ["sorted", "isinstance", "dict", "all", "list", "set"]) F hm hb sc_law_is_plan rfl (by decide +kernel) hB ?_
  rintro X ds M Q bod ⟨po, m, own, g, d, rfl, hato, hown, hm16, houp, hc⟩
  have st := bod.st
  have rm := bod.room
  have h1 := bod.tr h_law_whole
  have hol := hown.len
  have h8 : ∀ b ∈ own.map (·.1), b < 8 := fun b hb => by
    obtain ⟨p, hp, rfl⟩ := List.mem_map.mp hb
    exact hown.box p hp
  show WSs X ([("_law_own", some (.ref po)), ("_law_many_here", some (natD m)), ("_law_thing", some (d)), ("_law_boxes_here", none), ("_law_box", none), ("_law_some", none), ("_law_b", none)] : VEnv) M _ _
  walk_at "set"
  walk_at "run"
  refine cd_sortedK st (ms := own.map fun p => (p.1 : Int)) hato (kv_ints own) (by rw [List.length_map]; omega) (.refl _) (by rw [List.pairwise_map]; rw [List.pairwise_map] at houp; exact houp.imp fun h => by omega) ?_
  walk_at "put!"
  rw [show (own.map fun p => (p.1 : Int)).map D.int = (own.map (·.1)).map natD from by rw [List.map_map, List.map_map]; rfl]
  rcases hc with ⟨t, hty, hne, hQ⟩ | ⟨a, ob, ks, vs, f, rfl, hat, hl, hk, hodd, hQ⟩ | ⟨a, ts, f, rfl, hat, hl, hnd, hv, hQ⟩
  · obtain ⟨_, _, _, k4, _⟩ := hty.kit
    refine wss_cons (ws_if ?_)
    walk_at "run"
    refine we_isA st (by walk_at "mem") (by walk_at "mem") PyProof.Rows.boot_dict ?_
    walk_at "run"
    refine ⟨t, _, hty, k4, ?_⟩
    walk_at "run"
    rw [hne, Bool.not_false]
    walk_at "run"
    walk_at "ret"
    walk_at "run"
    exact hQ
  · refine wss_cons (ws_if ?_)
    walk_at "run"
    refine we_isX st (by walk_at "mem") (by walk_at "mem") ?_
    walk_at "run"
    refine ⟨a, ob, ks, vs, f, rfl, hat, ?_⟩
    walk_at "run"
    rw [Bool.not_true]
    walk_at "run"
    refine wss_nil ?_
    refine wss_cons (ws_if ?_)
    walk_at "run"
    refine we_frz ?_
    refine we_map ks (fun x => x) (fun k => .bl (isI k)) [("_law_box", 4)] ["_law_box"] [] ["_law_whole"] bod (by decide +kernel) (by walk_at "mem") (by walk_at "wiped") ?_
    refine wi_keysX ?_
    walk_at "run"
    refine ⟨a, ob, ks, vs, _, rfl, hat, (List.map_id' ks).symm, szl (by omega), fun L acc => ⟨_, .there hat⟩, fun k hkm => ⟨_, by walk_at "put", fun X1 inn L acc => ?_⟩, fun pq => ⟨_, _, _, rfl, rfl, ?_⟩⟩
    · have st1 := inn.st
      have g2 := inn.tr h1
      have rm1 := inn.rm rm
      obtain ⟨t, ht⟩ := hk k hkm
      walk_at "run"
      refine ⟨k, t, rfl, ht.cons, ?_⟩
      exact ⟨rfl, rfl⟩
    · refine wa_nil ?_
      refine cd_all st (bs := ks.map isI) (by rw [List.map_map]; exact isR_lst) ?_
      refine ⟨_, rfl, ?_⟩
      have : (ks.map isI).all id = false := by
        rw [List.all_map, List.all_eq_false]
        obtain ⟨k, k1, k2⟩ := hodd
        refine ⟨k, k1, ?_⟩
        show ¬ isI k = true
        rw [k2]
        exact Bool.false_ne_true
      rw [this, Bool.not_false]
      walk_at "run"
      walk_at "ret"
      walk_at "run"
      exact hQ
  · refine wss_cons (ws_if ?_)
    walk_at "run"
    refine we_isA st (by walk_at "mem") (by walk_at "mem") PyProof.Rows.boot_dict ?_
    walk_at "run"
    refine ⟨"dict", true, .dK hat, by decide +kernel, ?_⟩
    walk_at "run"
    rw [Bool.not_true]
    walk_at "run"
    refine wss_nil ?_
    refine wss_cons (ws_if ?_)
    walk_at "run"
    refine we_lock hat fun od us => ?_
    refine we_frz ?_
    refine we_map ts (fun t => kD t.1) (fun t => .bl (isI (kD t.1))) [("_law_box", 4)] ["_law_box"] [] ["_law_whole"] bod (by decide +kernel) (by walk_at "mem") (by walk_at "wiped") ?_
    refine wi_keys ?_
    walk_at "run"
    refine ⟨a, od, us, kvT ts, _, rfl, hat.put _, by unfold kvT; rw [List.map_map]; rfl, szl (by omega), fun L acc => ⟨_, .there (hat.put _)⟩, fun t htm => ⟨_, by walk_at "put", fun X1 inn L acc => ?_⟩, fun pq => ⟨_, _, _, rfl, rfl, ?_⟩⟩
    · have st1 := inn.st
      have g2 := inn.tr h1
      have rm1 := inn.rm rm
      obtain ⟨ty, hty⟩ : ∃ ty, ∀ M : Mem, IsT M (kD t.1) ty := by
        cases t.1 with
        | inl z => exact ⟨_, fun _ => .int z⟩
        | inr z => exact ⟨_, fun _ => .str z⟩
      walk_at "run"
      refine ⟨kD t.1, ty, rfl, hty _, ?_⟩
      exact ⟨rfl, rfl⟩
    · refine ⟨_, hat.put _, ?_⟩
      rw [hat.self]
      refine wa_nil ?_
      refine cd_all st (bs := ts.map fun t => isI (kD t.1)) (by rw [List.map_map]; exact isR_lst) ?_
      rw [List.all_map, show ts.all (id ∘ fun t => isI (kD t.1)) = (ts.all fun t => isI (kD t.1)) from rfl]
      refine ⟨_, rfl, ?_⟩
      refine ite_nb (fun hall => ?_) (fun hall => ?_)
      rotate_left
      · have : planB (own.map (·.1)) m (ownF own) ts = false := by
          unfold planB
          have h2 : (ts.all fun t => keyOk (own.map (·.1)) (kD t.1)) = false := by
            rw [Bool.eq_false_iff]
            intro hh
            rw [List.all_eq_true] at hh
            have : (ts.all fun t => isI (kD t.1)) = true := List.all_eq_true.mpr fun t ht => keyOk_int (hh t ht)
            rw [hall] at this
            cases this
          rw [h2, Bool.and_false, Bool.false_and]
        rw [this] at hQ
        walk_at "ret"
        walk_at "run"
        exact hQ
      have hint : ∀ t ∈ ts, isI (kD t.1) = true := List.all_eq_true.mp hall
      have hpk := plan_keys hnd hint houp h8
      refine wss_nil ?_
      refine wss_cons (ws_if ?_)
      walk_at "run"
      refine cd_sortedK st (ms := (ts.map fun t => keyI t.1).mergeSort fun a b => decide (a ≤ b)) hat (keyI_eq hint) (by rw [List.length_map]; omega) (List.mergeSort_perm _ _) ?_ ?_
      · have := List.pairwise_mergeSort (le := fun a b : Int => decide (a ≤ b)) (fun a b c h1 h2 => by simp only [decide_eq_true_eq] at *; omega) (fun a b => by simp only [Bool.or_eq_true, decide_eq_true_eq]; omega) (ts.map fun t => keyI t.1)
        exact this.imp fun h => of_decide_eq_true h
      walk_at "run"
      refine od_neL st (ns := (ts.map fun t => keyI t.1).mergeSort fun a b => decide (a ≤ b)) (ms := (own.map (·.1)).map fun (n : Nat) => (n : Int)) isR_lst isR_nl ?_
      rw [← hpk]
      refine ⟨_, rfl, ?_⟩
      unfold planB at hQ
      refine ite_nb (fun hkk => ?_) (fun hkk => ?_)
      rotate_left
      · rw [hkk, Bool.false_and] at hQ
        walk_at "ret"
        walk_at "run"
        exact hQ
      rw [hkk, Bool.true_and] at hQ
      rw [Bool.and_eq_true, decide_eq_true_iff] at hkk
      refine wss_nil ?_
      refine wss_cons (ws_for st (wi_list ?_))
      walk_at "run"
      refine ⟨_, isR_lst, fun i Γ' M' => ∃ o1 o2 : Option D, M' = M ∧ (((own.map (·.1)).take i).all fun b => insO m (ownF own b) (lookT ts b)) = true ∧ Γ' = ([("_law_own", some (.ref po)), ("_law_many_here", some (natD m)), ("_law_thing", some (.ref a)), ("_law_boxes_here", some (.lst ((own.map (·.1)).map natD))), ("_law_box", o1), ("_law_some", o2), ("_law_b", none)] : VEnv), ⟨_, _, rfl, by simp, rfl⟩, fun _ _ _ _ => isR_lst, ?_, ?_⟩
      · rintro i x Γ' M' hx ⟨o1, o2, rfl, hpre, rfl⟩
        rw [List.getElem?_map] at hx
        obtain ⟨b, hb, rfl⟩ := Option.map_eq_some_iff.mp hx
        have hbm := List.mem_of_getElem? hb
        have hb8 := h8 b hbm
        obtain ⟨t, ht, e1, e2, e3⟩ := look_in hnd hkk.1 hkk.2 hbm
        have hmo := ownF_mem hown.nd hbm
        have hbad : insO m (ownF own b) (lookT ts b) = false → ((own.map (·.1)).all fun b => insO m (ownF own b) (lookT ts b)) = false := fun h => List.all_eq_false.mpr ⟨b, hbm, by rw [h]; exact Bool.false_ne_true⟩
        have hsnoc : insO m (ownF own b) (lookT ts b) = true → (((own.map (·.1)).take (i + 1)).all fun b => insO m (ownF own b) (lookT ts b)) = true := fun h => by
          rw [List.take_add_one, hb, List.all_append, hpre]
          simp [h]
        refine wg_name st (by walk_at "mem") (by walk_at "put") ?_
        walk_at "set"
        refine we_dix st ?_
        walk_at "run"
        refine ⟨t.2.1, by rw [← e3]; exact GetD.dk hat, ?_⟩
        walk_at "put!"
        refine wss_cons (ws_if ?_)
        walk_at "run"
        refine we_isA st (by walk_at "mem") (by walk_at "mem") PyProof.Rows.boot_list ?_
        walk_at "run"
        rw [e2] at hbad hsnoc
        rcases hv t ht with ⟨o1, ty, o2, o3⟩ | ⟨xs, o1, hls, hxl, hxt⟩
        · obtain ⟨_, _, k3, _⟩ := o2.kit
          refine ⟨ty, _, o2, k3, ?_⟩
          walk_at "run"
          rw [o3, Bool.not_false]
          walk_at "run"
          walk_at "ret"
          walk_at "run"
          rw [hbad (by rw [o1]; rfl)] at hQ
          exact hQ
        rw [o1] at hbad hsnoc
        refine ⟨"list", true, .lst hls, by decide +kernel, ?_⟩
        walk_at "run"
        rw [Bool.not_true]
        walk_at "run"
        refine wss_nil ?_
        refine wss_cons (ws_if ?_)
        walk_at "run"
        refine we_frz ?_
        refine we_map xs (fun x => x) (fun x => .bl (amD 0 m x)) [("_law_b", 6)] ["_law_b", "_law_many_here"] [] ["_law_whole"] bod (by decide +kernel) (by walk_at "mem") (by walk_at "wiped") ?_
        refine wi_list ?_
        walk_at "run"
        refine ⟨xs, .inl hls, (List.map_id' xs).symm, szl (by omega), fun L acc => .inl hls.cons, fun x hxm => ⟨_, by walk_at "put", fun X1 inn L acc => ?_⟩, fun pq => ⟨_, _, _, rfl, rfl, ?_⟩⟩
        · have st1 := inn.st
          have g2 := inn.tr h1
          have rm1 := inn.rm rm
          obtain ⟨ty, hty⟩ := hxt x hxm
          walk_at "run"
          refine ⟨x, ty, rfl, hty.cons, ?_⟩
          walk_at "run"
          refine ite_b (fun h => ?_) (fun h => ?_)
          · obtain ⟨z, rfl⟩ : ∃ z, x = .int z := by cases x <;> first | exact ⟨_, rfl⟩ | exact absurd h (by simp [isI])
            walk_at "run"
            refine we_chain ?_
            walk_at "run"
            have ea : amD 0 m (D.int z) = (decide ((0 : Int) ≤ z) && decide (z < (m : Int))) := rfl
            rw [ea]
            refine ite_d (fun h2 => ?_) (fun h2 => ?_)
            · walk_at "run"
              show OD X1 _ (.int z) (.int (m : Int)) _ _
              walk_at "run"
              rw [decide_eq_true h2]
              exact ⟨rfl, rfl⟩
            · rw [decide_eq_false h2]
              exact ⟨rfl, rfl⟩
          · refine ⟨rfl, ?_⟩
            unfold amD
            rw [h]; rfl
        refine wa_nil ?_
        refine cd_all st (bs := xs.map (amD 0 m)) (by rw [List.map_map]; exact isR_lst) ?_
        rw [List.all_map, show xs.all (id ∘ amD 0 m) = xs.all (amD 0 m) from rfl]
        refine ⟨_, rfl, ?_⟩
        refine ite_nb (fun hal => ?_) (fun hal => ?_)
        rotate_left
        · rw [hbad (by show insD m _ xs = false; unfold insD riseD; rw [hal]; rfl)] at hQ
          walk_at "ret"
          walk_at "run"
          exact hQ
        obtain ⟨zs, rfl⟩ : ∃ zs : List Int, xs = zs.map D.int := ⟨_, amD_ints hal⟩
        have hzb : ∀ z ∈ zs, 0 ≤ z ∧ z < (m : Int) := fun z hz => by
          have := List.all_eq_true.mp hal (.int z) (List.mem_map.mpr ⟨z, hz, rfl⟩)
          obtain ⟨i, e, h1, h2⟩ := amD_int this
          cases e
          exact ⟨h1, h2⟩
        have hrise := rise_dec hal
        refine wss_nil ?_
        refine wss_cons (ws_if ?_)
        refine wt_gc ?_
        walk_at "run"
        refine cd_setI st (ns := zs) (.inl hls) (by rw [List.length_map] at hxl; omega) fun ps cc hcc => ?_
        walk_at "run"
        refine cd_sortedSet st .here ?_ (sortI_up m zs) (fun k => ?_) ?_
        · have := hcc ((List.range 16).map fun (n : Nat) => (n : Int)) fun k hk => by
            have := hzb k hk
            exact List.mem_map.mpr ⟨k.toNat, List.mem_range.mpr (by omega), by omega⟩
          rw [List.length_map, List.length_range] at this
          omega
        · rw [decide_eq_true_iff]; exact sortI_mem hzb k
        walk_at "run"
        refine od_neL st (ns := zs) (ms := sortI m zs) (.inl hls.cons) isR_lst ?_
        rw [← hrise]
        refine ⟨_, rfl, [(ps, _)], _, .refl _, ?_⟩
        refine ite_nb (fun hri => ?_) (fun hri => ?_)
        rotate_left
        · rw [hbad (by show insD m _ (zs.map D.int) = false; unfold insD; rw [hri]; rfl)] at hQ
          walk_at "ret"
          walk_at "run"
          exact hQ
        have hins : insO m (ownF own b) (some (zs.map D.int)) = ((ownF own b).all fun k => decide ((k : Int) ∈ zs)) := by
          show insD m _ (zs.map D.int) = _
          unfold insD
          rw [hri, Bool.true_and, show (zs.map D.int).map intD = zs from by rw [List.map_map]; exact List.map_id' zs]
        have hlo16 : (ownF own b).length ≤ 16 := Nat.le_trans (hown.few _ hmo) hm16
        refine wss_nil ?_
        refine wss_cons (ws_if ?_)
        refine wt_gc ?_
        walk_at "run"
        refine we_pick (ownF own b) natD natD (fun k => !decide ((k : Int) ∈ zs)) [("_law_b", 6)] ["_law_b", "_law_some"] [] [] bod (by decide +kernel) (by walk_at "mem") (by walk_at "wiped") ?_
        refine wi_list ?_
        refine we_dix st ?_
        walk_at "run"
        refine ⟨nlD (ownF own b), by rw [← Pl.at hown.nd hmo]; exact GetD.dk hato, ?_⟩
        refine ⟨_, isR_lst, rfl, szl (by omega), fun _ _ => isR_lst, fun k hk => ⟨_, by walk_at "put", fun X1 inn L acc => ?_, fun hw X1 inn L acc => ?_⟩, fun pq => ?_⟩
        · have st1 := inn.st
          walk_at "run"
          refine od_notInI (i := (k : Int)) (ns := zs) (.inl (.inl hls.cons)) ?_
          exact ⟨_, rfl, rfl, rfl⟩
        · have st1 := inn.st
          walk_at "run"
          exact ⟨rfl, rfl⟩
        walk_at "run"
        refine od_neL st (ns := ((ownF own b).filter fun (k : Nat) => !decide ((k : Int) ∈ zs)).map fun (n : Nat) => (n : Int)) (ms := []) (by rw [List.map_map]; exact isR_ref .here) isR_lst ?_
        rw [nat_ne]
        refine ⟨_, rfl, [(pq, _)], _, .refl _, ?_⟩
        refine ite_nb (fun hfl => ?_) (fun hfl => ?_)
        · rw [decide_eq_true_iff] at hfl
          have : insO m (ownF own b) (some (zs.map D.int)) = true := by
            rw [hins, List.all_eq_true]
            intro k hk
            have := List.filter_eq_nil_iff.mp hfl k hk
            simpa using this
          exact wss_nil (wss_nil ⟨_, _, rfl, hsnoc this, rfl⟩)
        · have : insO m (ownF own b) (some (zs.map D.int)) = false := by
            rw [hins, Bool.eq_false_iff]
            intro hh
            rw [List.all_eq_true] at hh
            rw [decide_eq_false_iff_not] at hfl
            refine hfl (List.filter_eq_nil_iff.mpr fun k hk => ?_)
            have := hh k hk
            rw [this]
            exact Bool.false_ne_true
          rw [hbad this] at hQ
          walk_at "ret"
          walk_at "run"
          exact hQ
      · rintro Γ' M' ⟨o1, o2, rfl, hall2, rfl⟩
        rw [List.length_map, List.take_length] at hall2
        rw [hall2] at hQ
        walk_at "ret"
        walk_at "run"
        exact hQ
end
end Gen

set_option pp.maxSteps 800
namespace Gen
open PySem L2 DL Wk
abbrev s_law_bent : Stmt := top 43
abbrev l_law_bent : List Str := ["_law_tape_here", "_law_plan_here", "_law_many_here", "_law_found", "_law_way", "_law_n", "_law_keys", "_law_box", "_law_some", "_law_at", "_law_odd"]
abbrev n_law_bent : List Str := ["_law_tape_here", "_law_plan_here", "_law_many_here", "_law_found", "_law_way", "_law_n", "_law_keys", "_law_box", "_law_some", "_law_at", "_law_odd"]
theorem sc_law_bent : FnScope n_law_bent ["_law_tape_here", "_law_plan_here", "_law_many_here"] (defScope s_law_bent) := ⟨rfl, rfl, rfl, by decide +kernel, rfl, by decide +kernel, by decide +kernel⟩
theorem _root_.DL.At.onto {a : Addr} {M : Mem} {c : Cell} {f : Cell → Mem} (h : At a M c f) (B : Mem) : At a (M ++ B) c (fun c => f c ++ B) := by
  induction h with
  | here => exact .here
  | there _ ih => exact .there ih
/-- what may stand in a list of a plan, or in a list's place -/
def oddW : List D := [.bl true, .non, .str "1", .str "", .lst [], .lst [.int 0], .tup [.int 0]]
def OddW (M : Mem) (d : D) : Prop := d ∈ oddW ∨ (∃ a f, d = .ref a ∧ At a M (.dK []) f) ∨ ∃ z : Int, d = .int z ∧ -100 ≤ z ∧ z ≤ 100
inductive ValV (M : Mem) : D → Prop
  | odd {d : D} : OddW M d → ValV M d
  | tup {zs : List Int} : (∀ z ∈ zs, -100 ≤ z ∧ z ≤ 100) → zs.length ≤ 60 → ValV M (.tup (zs.map D.int))
  | lst {xs : List D} : (∀ x ∈ xs, OddW M x) → xs.length ≤ 60 → ValV M (.lst xs)
theorem OddW.mid {G : Mem} {d : D} (h : OddW G d) (A B : Mem) : OddW (A ++ (G ++ B)) d := by
  rcases h with h | ⟨a, f, rfl, h⟩ | h
  · exact .inl h
  · exact .inr (.inl ⟨a, _, rfl, (h.onto B).app A⟩)
  · exact .inr (.inr h)
theorem ValV.mid {G : Mem} {d : D} (h : ValV G d) (A B : Mem) : ValV (A ++ (G ++ B)) d := by
  cases h with
  | odd h => exact .odd (h.mid A B)
  | tup h hl => exact .tup h hl
  | lst h hl => exact .lst (fun x hx => (h x hx).mid A B) hl
theorem OddW.ls {M : Mem} {d : D} (h : OddW M d) : (∃ t, IsT M d t ∧ (t == "list") = false) ∨ ∃ xs, d = .lst xs ∧ xs.length ≤ 1 ∧ ∀ x ∈ xs, ∃ t, IsT M x t := by
  rcases h with h | ⟨a, f, rfl, h⟩ | ⟨z, rfl, _⟩
  · simp only [oddW, List.mem_cons, List.not_mem_nil, or_false] at h
    rcases h with rfl | rfl | rfl | rfl | rfl | rfl | rfl
    · exact .inl ⟨_, .bl _, by decide +kernel⟩
    · exact .inl ⟨_, .non, by decide +kernel⟩
    · exact .inl ⟨_, .str _, by decide +kernel⟩
    · exact .inl ⟨_, .str _, by decide +kernel⟩
    · exact .inr ⟨[], rfl, by simp, by simp⟩
    · exact .inr ⟨_, rfl, by simp, fun x hx => by rw [List.mem_singleton.mp hx]; exact ⟨_, .int _⟩⟩
    · exact .inl ⟨_, .tup _, by decide +kernel⟩
  · exact .inl ⟨_, .dK h, by decide +kernel⟩
  · exact .inl ⟨_, .int _, by decide +kernel⟩
theorem OddW.ty {M : Mem} {d : D} (h : OddW M d) : ∃ t, IsT M d t := by
  rcases h.ls with ⟨t, h, _⟩ | ⟨xs, rfl, _⟩
  · exact ⟨t, h⟩
  · exact ⟨_, .lst isL_lst⟩
theorem ValV.lsv {M : Mem} {d : D} (h : ValV M d) : ∃ o, LsV M d o := by
  cases h with
  | odd h =>
    rcases h.ls with ⟨t, h1, h2⟩ | ⟨xs, rfl, h1, h2⟩
    · exact ⟨none, .inl ⟨rfl, t, h1, h2⟩⟩
    · exact ⟨some xs, .inr ⟨xs, rfl, isL_lst, by omega, h2⟩⟩
  | tup _ _ => exact ⟨none, .inl ⟨rfl, "tuple", .tup _, by decide +kernel⟩⟩
  | @lst xs h hl => exact ⟨some xs, .inr ⟨xs, rfl, isL_lst, by omega, fun x hx => (h x hx).ty⟩⟩
def shbC (p : PyData) : Bool := p.showable && (decide (p.depth ≤ 3) && (decide (p.bulk ≤ 7) && p.leavesShort 14))
theorem shb_c {p : PyData} (h : shbC p = true) : ShB 3 7 p := by
  simp only [shbC, Bool.and_eq_true, decide_eq_true_eq] at h
  exact ⟨h.1, h.2.1, h.2.2.1, h.2.2.2⟩
theorem shb_small : ∀ k : Fin 201, shbC (.int ((k.1 : Int) - 100)) = true := by decide +kernel
theorem shb_z {z : Int} (h1 : -100 ≤ z) (h2 : z ≤ 100) : ShB 3 7 (.int z) := by
  have := shb_small ⟨(z + 100).toNat, by omega⟩
  rw [show (((z + 100).toNat : Nat) : Int) - 100 = z from by omega] at this
  exact shb_c this
theorem OddW.py {M : Mem} {d : D} (h : OddW M d) : ∃ p, PyX M d p ∧ ShB 3 7 p := by
  rcases h with h | ⟨a, f, rfl, h⟩ | ⟨z, rfl, h1, h2⟩
  · simp only [oddW, List.mem_cons, List.not_mem_nil, or_false] at h
    rcases h with rfl | rfl | rfl | rfl | rfl | rfl | rfl
    · exact ⟨_, .bl _, shb_c (by decide +kernel)⟩
    · exact ⟨_, .non, shb_c (by decide +kernel)⟩
    · exact ⟨_, .str _, shb_c (by decide +kernel)⟩
    · exact ⟨_, .str _, shb_c (by decide +kernel)⟩
    · exact ⟨_, .lst .nil, shb_c (by decide +kernel)⟩
    · exact ⟨_, .lst (.cons (.int _) .nil), shb_c (by decide +kernel)⟩
    · exact ⟨_, .tup (.cons (.int _) .nil), shb_c (by decide +kernel)⟩
  · exact ⟨_, .dct (qs := []) h rfl .nil, shb_c (by decide +kernel)⟩
  · exact ⟨_, .int z, shb_z h1 h2⟩
theorem pyxs_all {M : Mem} {dep n : Nat} : ∀ {xs : List D}, (∀ x ∈ xs, ∃ p, PyX M x p ∧ ShB dep n p) → ∃ ps, PyXs M xs ps ∧ ps.length = xs.length ∧ ∀ p ∈ ps, ShB dep n p
  | [], _ => ⟨[], .nil, rfl, by simp⟩
  | x :: xs, h => by
    obtain ⟨p, h1, h2⟩ := h x List.mem_cons_self
    obtain ⟨ps, h3, h4, h5⟩ := pyxs_all fun y hy => h y (List.mem_cons_of_mem _ hy)
    exact ⟨p :: ps, .cons h1 h3, by rw [List.length_cons, List.length_cons, h4], fun q hq => by
      rcases List.mem_cons.mp hq with rfl | hq
      · exact h2
      · exact h5 q hq⟩
theorem ValV.py {M : Mem} {d : D} (h : ValV M d) : ∃ p, PyX M d p ∧ ShB 4 480 p := by
  cases h with
  | odd h =>
    obtain ⟨p, h1, h2⟩ := h.py
    exact ⟨p, h1, h2.mono (by omega) (by omega)⟩
  | @tup zs h hl =>
    refine ⟨.tuple (zs.map PyData.int), .tup (PyXs.of_map fun z _ => .int z), ShB.tuple (dep := 3) (n := 7) (fun x hx => ?_) (by rw [List.length_map]; omega)⟩
    obtain ⟨z, hz, rfl⟩ := List.mem_map.mp hx
    exact shb_z (h z hz).1 (h z hz).2
  | @lst xs h hl =>
    obtain ⟨ps, h1, h2, h3⟩ := pyxs_all (M := M) (dep := 3) (n := 7) (xs := xs) fun x hx => (h x hx).py
    exact ⟨.list ps, .lst h1, ShB.list (dep := 3) (n := 7) h3 (by rw [h2]; omega)⟩
def KeySm (k : Key) : Prop := (∃ z : Int, k = .inl z ∧ -100 ≤ z ∧ z ≤ 100) ∨ k = .inr "0" ∨ k = .inr ""
def KeyV (d : D) : Prop := d = .non ∨ d = .bl true ∨ d = .tup [.int 0] ∨ ∃ z : Int, d = .int z ∧ -100 ≤ z ∧ z ≤ 100
/-- a dict, near to a plan or not -/
inductive DictT (G : Mem) (q : Addr) : Prop
  | K {kvs : List (Key × D)} {f : Cell → Mem} : At q G (.dK kvs) f → (kvs.map (·.1)).Nodup → kvs.length ≤ 20 → (∀ p ∈ kvs, KeySm p.1 ∧ ValV G p.2) → DictT G q
  | O {ob : Obj} {ks vs : List D} {f : Cell → Mem} : At q G (.fzX ob ks vs) f → ks.length = vs.length → ks.length ≤ 20 → (∀ k ∈ ks, KeyV k) → (∃ k ∈ ks, isI k = false) → (∀ v ∈ vs, ValV G v) → DictT G q
theorem DictT.mid {G : Mem} {q : Addr} (h : DictT G q) (A B : Mem) : DictT (A ++ (G ++ B)) q := by
  cases h with
  | K h1 h2 h3 h4 => exact .K ((h1.onto B).app A) h2 h3 fun p hp => ⟨(h4 p hp).1, (h4 p hp).2.mid A B⟩
  | O h1 h2 h3 h4 h5 h6 => exact .O ((h1.onto B).app A) h2 h3 h4 h5 fun v hv => (h6 v hv).mid A B
theorem shb_key {k : Key} (h : KeySm k) : ShB 3 7 (keyP k) := by
  rcases h with ⟨z, rfl, h1, h2⟩ | rfl | rfl
  · exact shb_z h1 h2
  · exact shb_c (by decide +kernel)
  · exact shb_c (by decide +kernel)
theorem keyV_py {M : Mem} {d : D} (h : KeyV d) : ∃ p, PyX M d p ∧ ShB 3 7 p := by
  rcases h with rfl | rfl | rfl | ⟨z, rfl, h1, h2⟩
  · exact ⟨_, .non, shb_c (by decide +kernel)⟩
  · exact ⟨_, .bl _, shb_c (by decide +kernel)⟩
  · exact ⟨_, .tup (.cons (.int _) .nil), shb_c (by decide +kernel)⟩
  · exact ⟨_, .int z, shb_z h1 h2⟩
/-- the same text again, the memory as it was -/
def Shows (X : Cx) (M : Mem) (d : D) : Prop := ∃ s : Str, ∀ Q : D → Mem → Prop, Q (.str s) M → CD X (.builtin "repr") [d] M Q
theorem DictT.shows {X : Cx} {M : Mem} {q : Addr} {Ln Vn Bn Fn : List Str} (st : Stat X Ln Vn Bn Fn) (hs : ∃ mm, X.base.Ns sysModules mm) (h : DictT M q) : Shows X M (.ref q) := by
  cases h with
  | @K kvs f h1 h2 h3 h4 =>
    obtain ⟨ps, p1, p2, p3⟩ := pyxs_all (M := M) (dep := 4) (n := 480) (xs := kvs.map (·.2)) fun x hx => by
      obtain ⟨p, hp, rfl⟩ := List.mem_map.mp hx
      exact (h4 p hp).2.py
    rw [List.length_map] at p2
    have l1 : (kvs.map (·.1)).length = ps.length := by rw [List.length_map, p2]
    have e1 : ((kvs.map (·.1)).zip ps).map (·.1) = kvs.map (·.1) := List.map_fst_zip (Nat.le_of_eq l1)
    have e2 : ((kvs.map (·.1)).zip ps).map (·.2) = ps := List.map_snd_zip (Nat.le_of_eq l1.symm)
    refine ⟨_, fun Q hQ => cd_reprB st (.inr (.inr ⟨_, rfl⟩)) (.dct (qs := (kvs.map (·.1)).zip ps) h1 e1.symm (by rw [e2]; exact p1)) (ShB.dict (dep := 4) (n := 480) (k := 20000) (fun x hx => ?_) ?_) (by omega) (by omega) hs hQ⟩
    · obtain ⟨y, hy, rfl⟩ := List.mem_map.mp hx
      have m1 : y.1 ∈ kvs.map (·.1) := by rw [← e1]; exact List.mem_map.mpr ⟨y, hy, rfl⟩
      have m2 : y.2 ∈ ps := by rw [← e2]; exact List.mem_map.mpr ⟨y, hy, rfl⟩
      obtain ⟨p, hp, e⟩ := List.mem_map.mp m1
      exact ⟨by rw [← e]; exact (shb_key (h4 p hp).1).mono (by omega) (by omega), p3 _ m2⟩
    · have : ((kvs.map (·.1)).zip ps).length ≤ 20 := by rw [List.length_zip, l1, Nat.min_self]; omega
      rw [List.length_map]; omega
  | @O ob ks vs f h1 h2 h3 h4 h5 h6 =>
    obtain ⟨ps, p1, p2, p3⟩ := pyxs_all (M := M) (dep := 3) (n := 7) (xs := ks) fun x hx => keyV_py (h4 x hx)
    obtain ⟨qs, q1, q2, q3⟩ := pyxs_all (M := M) (dep := 4) (n := 480) (xs := vs) fun x hx => (h6 x hx).py
    refine ⟨_, fun Q hQ => cd_reprOB st h1 p1 q1 (by omega) (ShB.dict (dep := 4) (n := 480) (k := 20000) (fun x hx => ?_) ?_) (by omega) (by omega) hs hQ⟩
    · exact ⟨(p3 _ (List.of_mem_zip hx).1).mono (by omega) (by omega), q3 _ (List.of_mem_zip hx).2⟩
    · have : (ps.zip qs).length ≤ 20 := by rw [List.length_zip]; omega
      omega
theorem nd_map {pl : Pl} (nd : (pl.map (·.1)).Nodup) : (pl.kv.map (·.1)).Nodup := by
  rw [kv_ints]
  rw [List.nodup_iff_pairwise_ne, List.pairwise_map, List.pairwise_map] at *
  exact nd.imp fun h e => h (by injection e with e; omega)
theorem pl_val {pl : Pl} {m : Nat} (h : PlOk m pl) (hm : m ≤ 16) (G : Mem) : ∀ p ∈ pl.kv, KeySm p.1 ∧ ValV G p.2 := fun p hp => by
  obtain ⟨q, hq, rfl⟩ := List.mem_map.mp hp
  have := h.box q hq
  have := h.few q hq
  refine ⟨.inl ⟨(q.1 : Int), rfl, by omega, by omega⟩, .lst (fun x hx => ?_) (by rw [List.length_map]; omega)⟩
  obtain ⟨k, hk, rfl⟩ := List.mem_map.mp hx
  have := h.lt q hq k hk
  exact .inr (.inr ⟨(k : Int), rfl, by omega, by omega⟩)
theorem sm_kv {pl : Pl} {m : Nat} (h : PlOk m pl) : SmD pl.kv := fun p hp => by
  obtain ⟨q, hq, rfl⟩ := List.mem_map.mp hp
  exact ⟨q.1, rfl, by have := h.box q hq; omega⟩
theorem key_one {kvs : List (Key × D)} {a : Addr} {f : Cell → Mem} {QE : VEnv → Mem → Prop} {Γ : VEnv} {d y : D} (hsm : SmD kvs) (hl : kvs.length < 1000) (hy : (∃ k, y = kD k) ∨ y = .non ∨ y = .bl true ∨ y = .tup [.int 0])
    (h1 : ∀ k, QE Γ (f (.dK (putA kvs k d))) ∨ ¬ (y = kD k ∨ (y = .bl true ∧ k = .inl 1))) (h2 : ∀ ob, (y = .non ∨ y = .bl true ∨ y = .tup [.int 0]) → QE Γ (f (.fzX ob (kvs.map (fun p => kD p.1) ++ [y]) (kvs.map (·.2) ++ [d])))) : SetAny QE Γ d a kvs f y := by
  have hz : kvs.length < sizeLine := szlt (by omega)
  rcases hy with ⟨k, rfl⟩ | rfl | rfl | rfl
  · exact .inl ⟨k, rfl, hz, (h1 k).resolve_right fun h => h (.inl rfl)⟩
  · exact .inr ⟨hsm, hz, .inr ⟨.inl rfl, fun ob => h2 ob (.inl rfl)⟩⟩
  · refine .inr ⟨hsm, hz, ?_⟩
    by_cases h : ∃ p ∈ kvs, p.1 = .inl 1
    · exact .inl ⟨rfl, h, (h1 (.inl 1)).resolve_right fun h => h (.inr ⟨rfl, rfl⟩)⟩
    · exact .inr ⟨.inr (.inl ⟨rfl, fun p hp e => h ⟨p, hp, e⟩⟩), fun ob => h2 ob (.inr (.inl rfl))⟩
  · exact .inr ⟨hsm, hz, .inr ⟨.inr (.inr rfl), fun ob => h2 ob (.inr (.inr rfl))⟩⟩
section
variable {P : Program} {w : World} {K : PySem.W.Frag} {mg : Str → Option Value} {base : Heap}
abbrev sp_law_bent : DSp := fun ds M Q => ∃ (t : Addr) (N m : Nat) (c : Cell) (f : Cell → Mem) (pl : Pl) (p : Addr) (M0 : Mem), ds = [.ref t, .ref p, natD m] ∧ M = (p, .dK pl.kv) :: M0 ∧ At t M0 c f ∧ Tape N c ∧ N ≤ 900000000 ∧ PlOk m pl ∧ m ≤ 16 ∧
  ∀ (q : Addr) (G : Mem) (c' : Cell), DictT G q → Tape (N + 10) c' → Q (.ref q) (G ++ (p, .dK pl.kv) :: f c')
theorem ok_law_bent {f : Addr} {fd : FuncData} (F : Fun K "_law_bent" "_law_bent" s_law_bent f fd) (hm : mg "_law_bent" = some (.ref f)) (hb : Binds K fd ["_law_tape_here", "_law_plan_here", "_law_many_here"] []) (hB : ∀ x ∈ (["dict", "list", "sorted", "len", "tuple"] : List Str), mg x = none) (h_law_draw : Fs P w K mg base 1 "_law_draw" 2 sp_law_draw) : Fs P w K mg base 2 "_law_bent" 3 sp_law_bent := by
  refine fs_of (N := n_law_bent) (Ln := l_law_bent) (Bn := ["dict", "sorted", "len", "tuple"]) (Fn := ["_law_draw"]) (Bx := ["dict", "list", "sorted", "len", "tuple"]) F hm hb sc_law_bent rfl (by decide +kernel) hB ?_
  rintro X ds M Q bod ⟨t, N, m, c, f, pl, p, M0, rfl, rfl, hat, tp, hN, hpl, hm16, hQ⟩
  have st := bod.st
  have rm := bod.room
  have hd := bod.tr h_law_draw
  have hpl8 := hpl.len
  have hkl : pl.kv.length = pl.length := List.length_map ..
  show WSs X ([("_law_tape_here", some (.ref t)), ("_law_plan_here", some (.ref p)), ("_law_many_here", some (natD m)), ("_law_found", none), ("_law_way", none), ("_law_n", none), ("_law_keys", none), ("_law_box", none), ("_law_some", none), ("_law_at", none), ("_law_odd", none)] : VEnv) _ _ _
  walk_at "set"
  walk_at "e1"
  walk_at "a1"
  refine we_lock .here fun od us => ?_
  refine we_frz ?_
  refine we_map pl (fun q => natD q.1) (fun q => .tup [natD q.1, nlD q.2]) [("_law_box", 7)] ["_law_box", "_law_plan_here"] ["list"] [] bod (by decide +kernel) (by walk_at "mem") (by walk_at "wiped") ?_
  refine wi_keys ?_
  walk_at "run"
  refine ⟨p, od, us, pl.kv, _, rfl, .here, by unfold Pl.kv; rw [List.map_map]; rfl, szl (by omega), fun L acc => ⟨_, .there .here⟩, fun q hq => ⟨_, by walk_at "put", fun X1 inn L acc => ?_⟩, fun pq => ⟨_, _, _, rfl, rfl, ?_⟩⟩
  · have st1 := inn.st
    refine we_tup ?_
    walk_at "a1"
    walk_at "e1"
    walk_at "a1"
    walk_at "e1"
    walk_at "a1"
    refine we_dix st1 ?_
    walk_at "run"
    refine ⟨nlD q.2, by rw [← Pl.at hpl.nd hq]; exact GetD.fzK (.there .here), ?_⟩
    walk_at "run"
    refine cd_list (.inl isR_lst) ?_
    walk_at "run"
    exact ⟨rfl, rfl⟩
  refine ⟨_, .here, ?_⟩
  refine wa_nil ?_
  refine cd_dictP (ps := pl.kv) st (by rw [show (pl.kv.map fun p => D.tup [kD p.1, p.2]) = pl.map fun q => D.tup [natD q.1, nlD q.2] from by unfold Pl.kv; rw [List.map_map]; rfl]; exact isR_lst) fun pf => ?_
  rw [mergeA_new _ _ (nd_map hpl.nd) (by simp), List.nil_append]
  walk_at "put!"
  walk_at "set"
  walk_at "run"
  refine ⟨t, 12, _, c, _, rfl, .there (.there hat), tp, by omega, by omega, by omega, fun way c1 a1 b1 tp1 => ?_⟩
  have at1 := hat.put c1
  walk_at "run"
  walk_at "set"
  walk_at "run"
  refine od_add (i := (m : Int)) (j := 2) ?_
  walk_at "run"
  refine ⟨t, _, _, c1, _, rfl, .there (.there at1), tp1, by omega, by omega, by omega, fun n0 c2 a2 b2 tp2 => ?_⟩
  have at2 := hat.put c2
  obtain ⟨n0, rfl⟩ := Int.eq_ofNat_of_zero_le a2
  have hn0 : n0 ≤ 17 := by omega
  walk_at "run"
  have hsp := List.mergeSort_perm (pl.map (·.1)) (fun a b => decide (a ≤ b))
  have hsu : ((pl.map (·.1)).mergeSort fun a b => decide (a ≤ b)).Pairwise (· ≤ ·) := (List.pairwise_mergeSort (fun a b c h1 h2 => by simp only [decide_eq_true_eq] at *; omega) (fun a b => by simp only [Bool.or_eq_true, decide_eq_true_eq]; omega) _).imp fun h => of_decide_eq_true h
  generalize ((pl.map (·.1)).mergeSort fun a b => decide (a ≤ b)) = sk at hsp hsu
  have hskl : sk.length = pl.length := by rw [hsp.length_eq, List.length_map]
  walk_at "set"
  walk_at "run"
  refine cd_sortedK st (ms := sk.map fun (n : Nat) => (n : Int)) .here (kv_ints pl) (by rw [List.length_map]; omega) (by rw [show (pl.map fun p => (p.1 : Int)) = (pl.map (·.1)).map fun (n : Nat) => (n : Int) from by rw [List.map_map]; rfl]; exact hsp.map _) (by rw [List.pairwise_map]; exact hsu.imp fun h => by omega) ?_
  rw [show (sk.map fun (n : Nat) => (n : Int)).map D.int = sk.map natD from by rw [List.map_map]; rfl]
  walk_at "put!"
  refine ws_mid (fun Γ' M' => Γ' = ([("_law_tape_here", some (.ref t)), ("_law_plan_here", some (.ref p)), ("_law_many_here", some (natD m)), ("_law_found", some (.ref pf)), ("_law_way", some (.int way)), ("_law_n", some (.int (n0 : Int))), ("_law_keys", some (.lst (sk.map natD))), ("_law_box", none), ("_law_some", none), ("_law_at", none), ("_law_odd", none)] : VEnv) ∧ M' = (pf, .dK pl.kv) :: (p, .dK pl.kv) :: f c2 ∧ sk ≠ []) (ws_if ?_) ?_
  · refine wt_impB (QB := fun b M' => (b = false → sk ≠ []) ∧ M' = (pf, .dK pl.kv) :: (p, .dK pl.kv) :: f c2) ?_ ?_
    · walk_at "run"
      refine od_eqNl st isR_lst isR_lst ?_
      refine ⟨_, rfl, ?_⟩
      refine ite_b (fun h => ?_) (fun h => ?_)
      · exact ⟨fun h => (by cases h), rfl⟩
      · walk_at "run"
        refine ⟨fun _ e => ?_, rfl⟩
        rw [e] at h; cases h
    rintro b M' ⟨hb, rfl⟩
    cases b with
    | false =>
      rw [if_neg Bool.false_ne_true]
      exact wss_nil ⟨rfl, rfl, hb rfl⟩
    | true =>
      rw [if_pos rfl]
      walk_at "asg"
      walk_at "run"
      refine wg_dixB st ?_ (by intro _; with_unfolding_all rfl)
      walk_at "run"
      refine ⟨t, 8, _, c2, _, rfl, .there (.there at2), tp2, by omega, by omega, by omega, fun r3 c3 a3 b3 tp3 => ?_⟩
      have at3 := hat.put c3
      walk_at "run"
      refine ⟨t, 5, _, c3, _, rfl, .there (.there at3), tp3, by omega, by omega, by omega, fun r4 c4 a4 b4 tp4 => ?_⟩
      have at4 := hat.put c4
      have hk : ∃ y, atI [D.int r3, .int 8, .int (-1), .str "0", .bl true] r4 = some y ∧ ((∃ k, y = kD k ∧ KeySm k) ∨ y = .bl true) := by
        rcases (by omega : r4 = 0 ∨ r4 = 1 ∨ r4 = 2 ∨ r4 = 3 ∨ r4 = 4) with h | h | h | h | h <;> subst h
        · exact ⟨_, rfl, .inl ⟨.inl r3, rfl, .inl ⟨r3, rfl, by omega, by omega⟩⟩⟩
        · exact ⟨_, rfl, .inl ⟨.inl 8, rfl, .inl ⟨8, rfl, by omega, by omega⟩⟩⟩
        · exact ⟨_, rfl, .inl ⟨.inl (-1), rfl, .inl ⟨-1, rfl, by omega, by omega⟩⟩⟩
        · exact ⟨_, rfl, .inl ⟨.inr "0", rfl, .inr (.inl rfl)⟩⟩
        · exact ⟨_, rfl, .inr rfl⟩
      obtain ⟨y, hy, hyk⟩ := hk
      refine ⟨_, _, rfl, IxD.list isR_lst hy, ?_⟩
      refine ⟨pf, _, pl.kv, rfl, .here, ?_⟩
      have v0 : ∀ G, ValV G (.lst [.int 0]) := fun G => .odd (.inl (by unfold oddW; simp))
      have kinj : ∀ {k k' : Key}, kD k = kD k' → k = k' := fun {k k'} e => by
        cases k <;> cases k' <;> first | (injection e with e; rw [e]) | cases e
      refine key_one (sm_kv hpl) (by omega) (hyk.elim (fun ⟨k, h, _⟩ => .inl ⟨k, h⟩) fun h => .inr (.inr (.inl h))) (fun k => ?_) (fun ob hyo => ?_)
      · refine Classical.or_iff_not_imp_right.mpr fun hn => ?_
        have hn := Classical.not_not.mp hn
        have hsm : KeySm k := by
          rcases hn with h | ⟨h, rfl⟩
          · rcases hyk with ⟨k', h', h2⟩ | h'
            · rw [h] at h'; rw [kinj h']; exact h2
            · rw [h] at h'; cases k <;> cases h'
          · exact .inl ⟨1, rfl, by omega, by omega⟩
        walk_at "ret"
        walk_at "run"
        refine hQ pf [(pf, _)] c4 (.K .here (putA_nd (nd_map hpl.nd)) (by have := putA_len (kvs := pl.kv) (k := k) (v := D.lst [.int 0]); omega) fun q hq => ?_) (tp4.mono (by omega))
        rcases putA_mem hq with hq | rfl
        · exact pl_val hpl hm16 _ q hq
        · exact ⟨hsm, v0 _⟩
      · walk_at "ret"
        walk_at "run"
        refine hQ pf [(pf, _)] c4 (.O .here (by simp) (by simp; omega) (fun k hk => ?_) ⟨y, by simp, by rcases hyo with rfl | rfl | rfl <;> rfl⟩ fun v hv => ?_) (tp4.mono (by omega))
        · rcases List.mem_append.mp hk with hk | hk
          · obtain ⟨q, hq, rfl⟩ := List.mem_map.mp hk
            obtain ⟨⟨z, h1, h2, h3⟩ | h1 | h1, _⟩ := pl_val hpl hm16 [] q hq
            · exact .inr (.inr (.inr ⟨z, by rw [h1]; rfl, h2, h3⟩))
            · obtain ⟨q', hq', rfl⟩ := List.mem_map.mp hq; cases h1
            · obtain ⟨q', hq', rfl⟩ := List.mem_map.mp hq; cases h1
          · rw [List.mem_singleton.mp hk]
            exact hyo.elim .inl fun h => h.elim (fun h => .inr (.inl h)) fun h => .inr (.inr (.inl h))
        · rcases List.mem_append.mp hv with hv | hv
          · obtain ⟨q, hq, rfl⟩ := List.mem_map.mp hv
            exact (pl_val hpl hm16 _ q hq).2
          · rw [List.mem_singleton.mp hv]; exact v0 _
  rintro Γ' M' ⟨rfl, rfl, hne⟩
  have hs0 : 0 < sk.length := List.length_pos_iff.mpr hne
  walk_at "set"
  walk_at "run"
  rw [List.length_map]
  refine ⟨t, _, _, c2, _, rfl, .there (.there at2), tp2, by omega, by omega, by omega, fun r3 c3 a3 b3 tp3 => ?_⟩
  have at3 := hat.put c3
  obtain ⟨r3, rfl⟩ := Int.eq_ofNat_of_zero_le a3
  have hr3 : r3 < sk.length := by omega
  have eb : sk[r3]? = some sk[r3] := List.getElem?_eq_getElem hr3
  have hbm : sk[r3] ∈ pl.map (·.1) := hsp.mem_iff.mp (List.getElem_mem hr3)
  generalize sk[r3] = b at eb hbm
  obtain ⟨⟨b', l⟩, hbl, rfl⟩ := List.mem_map.mp hbm
  have hb8 : b' < 8 := hpl.box _ hbl
  have hl16 : l.length ≤ m := hpl.few _ hbl
  have hll : ∀ k ∈ l, k < m := hpl.lt _ hbl
  have hval := Pl.at hpl.nd hbl
  refine ⟨_, _, rfl, IxD.list isR_lst (atI_map eb), ?_⟩
  walk_at "put!"
  walk_at "set"
  refine we_dix st ?_
  walk_at "run"
  refine ⟨nlD l, by rw [← hval]; exact GetD.dk .here, ?_⟩
  walk_at "put!"
  walk_at "set"
  walk_at "run"
  rw [List.length_map]
  refine ⟨t, _, _, c3, _, rfl, .there (.there at3), tp3, by omega, by omega, by omega, fun r4 c4 a4 b4 tp4 => ?_⟩
  have at4 := hat.put c4
  obtain ⟨r4, rfl⟩ := Int.eq_ofNat_of_zero_le a4
  walk_at "put!"
  have pv := pl_val hpl hm16
  have finK : ∀ (kvs : List (Key × D)) (c' : Cell) (o : Option D), (kvs.map (·.1)).Nodup → kvs.length ≤ 20 → (∀ q ∈ kvs, KeySm q.1 ∧ ValV [(pf, .dK kvs)] q.2) → Tape (N + 10) c' → ∃ (G : Mem) (c'' : Cell) (o' : Option D), (o = o') ∧ (pf, Cell.dK kvs) :: (p, .dK pl.kv) :: f c' = G ++ (p, .dK pl.kv) :: f c'' ∧ DictT G pf ∧ Tape (N + 10) c'' := fun kvs c' o h1 h2 h3 h4 => ⟨[(pf, _)], c', o, rfl, rfl, .K .here h1 h2 h3, h4⟩
  refine ws_mid (fun Γ' M' => ∃ (G : Mem) (c' : Cell) (o : Option D), Γ' = ([("_law_tape_here", some (.ref t)), ("_law_plan_here", some (.ref p)), ("_law_many_here", some (natD m)), ("_law_found", some (.ref pf)), ("_law_way", some (.int way)), ("_law_n", some (.int (n0 : Int))), ("_law_keys", some (.lst (sk.map natD))), ("_law_box", some (natD b')), ("_law_some", some (nlD l)), ("_law_at", some (.int (r4 : Int))), ("_law_odd", o)] : VEnv) ∧ M' = G ++ (p, .dK pl.kv) :: f c' ∧ DictT G pf ∧ Tape (N + 10) c') (ws_if ?_) ?_
  rotate_left
  · rintro Γ' M' ⟨G, c', o, rfl, rfl, hd', tp'⟩
    walk_at "ret"
    walk_at "run"
    exact hQ pf G c' hd' tp'
  have put1 : ∀ (d : D) (G : Mem), ValV G d → ((putA pl.kv (.inl (b' : Int)) d).map (·.1)).Nodup ∧ (putA pl.kv (.inl (b' : Int)) d).length ≤ 20 ∧ ∀ q ∈ putA pl.kv (.inl (b' : Int)) d, KeySm q.1 ∧ ValV G q.2 := fun d G hv => ⟨putA_nd (nd_map hpl.nd), by have := putA_len (kvs := pl.kv) (k := .inl (b' : Int)) (v := d); omega, fun q hq => by
    rcases putA_mem hq with hq | rfl
    · exact pv _ q hq
    · exact ⟨.inl ⟨(b' : Int), rfl, by omega, by omega⟩, hv⟩⟩
  have wl : ∀ k ∈ l, ∀ G, OddW G (natD k) := fun k hk G => .inr (.inr ⟨(k : Int), rfl, by omega, by have := hll k hk; omega⟩)
  have cutW : ∀ lo hi G, ∀ x ∈ cutD (l.map natD) lo hi, OddW G x := fun lo hi G x hx => by
    obtain ⟨k, hk, rfl⟩ := List.mem_map.mp (cutD_sub x hx)
    exact wl k hk G
  have cutN : ∀ lo hi, (cutD (l.map natD) lo hi).length ≤ 16 := fun lo hi => Nat.le_trans cutD_len (by rw [List.length_map]; omega)
  walk_at "run"
  refine ite_d (fun h1 => ?_) (fun h1 => ?_)
  · walk_at "expr"
    refine we_meth PySem.F.plainAttrs_dict PySem.F.slot_dict_pop PySem.F.type_dict_pop ?_ (by walk_at "unf") (by walk_at "unf") (by walk_at "unf") (by walk_at "unf") (by walk_at "unf")
    walk_at "run"
    refine md_dpop (k := .inl (b' : Int)) .here hval ?_
    obtain ⟨G, c', o, rfl, e, q1, q2⟩ := finK (dropA pl.kv (.inl (b' : Int))) c4 none (dropA_nd (nd_map hpl.nd)) (by have := dropA_len (kvs := pl.kv) (k := (.inl (b' : Int) : Key)); omega) (fun q hq => pv _ q (dropA_mem hq)) (tp4.mono (by omega))
    exact wss_nil ⟨G, c', _, rfl, e, q1, q2⟩
  refine wss_one (ws_if ?_)
  walk_at "run"
  refine ite_d (fun h2 => ?_) (fun h2 => ?_)
  · walk_at "expr"
    refine we_meth PySem.F.plainAttrs_dict PySem.F.slot_dict_pop PySem.F.type_dict_pop ?_ (by walk_at "unf") (by walk_at "unf") (by walk_at "unf") (by walk_at "unf") (by walk_at "unf")
    walk_at "run"
    refine md_dpop (k := .inl (b' : Int)) .here hval ?_
    walk_at "asg"
    walk_at "run"
    refine wg_dixB st ?_ (by intro _; with_unfolding_all rfl)
    walk_at "run"
    refine ⟨t, 7, _, c4, _, rfl, .there (.there at4), tp4, by omega, by omega, by omega, fun r5 c5 a5 b5 tp5 => ?_⟩
    have at5 := hat.put c5
    have hk : ∃ y, atI [D.non, .str "", .int 3, .int 9, .int (-1), .tup [.int 0], .bl true] r5 = some y ∧ ((∃ k, y = kD k ∧ KeySm k) ∨ y = .non ∨ y = .bl true ∨ y = .tup [.int 0]) := by
      rcases (by omega : r5 = 0 ∨ r5 = 1 ∨ r5 = 2 ∨ r5 = 3 ∨ r5 = 4 ∨ r5 = 5 ∨ r5 = 6) with h | h | h | h | h | h | h <;> subst h
      · exact ⟨_, rfl, .inr (.inl rfl)⟩
      · exact ⟨_, rfl, .inl ⟨.inr "", rfl, .inr (.inr rfl)⟩⟩
      · exact ⟨_, rfl, .inl ⟨.inl 3, rfl, .inl ⟨3, rfl, by omega, by omega⟩⟩⟩
      · exact ⟨_, rfl, .inl ⟨.inl 9, rfl, .inl ⟨9, rfl, by omega, by omega⟩⟩⟩
      · exact ⟨_, rfl, .inl ⟨.inl (-1), rfl, .inl ⟨-1, rfl, by omega, by omega⟩⟩⟩
      · exact ⟨_, rfl, .inr (.inr (.inr rfl))⟩
      · exact ⟨_, rfl, .inr (.inr (.inl rfl))⟩
    obtain ⟨y, hy, hyk⟩ := hk
    refine ⟨_, _, rfl, IxD.list isR_lst hy, ?_⟩
    have hdl := dropA_len (kvs := pl.kv) (k := (.inl (b' : Int) : Key))
    have hdn : ((dropA pl.kv (.inl (b' : Int))).map (·.1)).Nodup := dropA_nd (nd_map hpl.nd)
    have hdp : ∀ q ∈ dropA pl.kv (.inl (b' : Int)), q ∈ pl.kv := fun q hq => dropA_mem hq
    generalize dropA pl.kv (.inl (b' : Int)) = dk at hdl hdn hdp
    refine ⟨pf, _, dk, rfl, .here, ?_⟩
    have v0 : ∀ G, ValV G (nlD l) := fun G => .lst (fun x hx => by
      obtain ⟨k, hk, rfl⟩ := List.mem_map.mp hx
      exact wl k hk G) (by rw [List.length_map]; omega)
    have kinj : ∀ {k k' : Key}, kD k = kD k' → k = k' := fun {k k'} e => by
      cases k <;> cases k' <;> first | (injection e with e; rw [e]) | cases e
    refine key_one (fun q hq => sm_kv hpl q (hdp q hq)) (by omega) (hyk.imp (fun ⟨k, h, _⟩ => ⟨k, h⟩) id) (fun k => ?_) (fun ob hyo => ?_)
    · refine Classical.or_iff_not_imp_right.mpr fun hn => ?_
      have hn := Classical.not_not.mp hn
      have hsm : KeySm k := by
        rcases hn with h | ⟨h, rfl⟩
        · rcases hyk with ⟨k', h', h2⟩ | h' | h' | h'
          · rw [h] at h'; rw [kinj h']; exact h2
          · rw [h] at h'; cases k <;> cases h'
          · rw [h] at h'; cases k <;> cases h'
          · rw [h] at h'; cases k <;> cases h'
        · exact .inl ⟨1, rfl, by omega, by omega⟩
      obtain ⟨G, c', o, rfl, e, q1, q2⟩ := finK (putA dk k (nlD l)) c5 none (putA_nd hdn) (by have := putA_len (kvs := dk) (k := k) (v := nlD l); omega) (fun q hq => by
        rcases putA_mem hq with hq | rfl
        · exact pv _ q (hdp q hq)
        · exact ⟨hsm, v0 _⟩) (tp5.mono (by omega))
      exact wss_nil ⟨G, c', _, rfl, e, q1, q2⟩
    · refine wss_nil ⟨[(pf, _)], c5, _, rfl, rfl, .O .here (by simp) (by simp; omega) (fun k hk => ?_) ⟨y, by simp, by rcases hyo with rfl | rfl | rfl <;> rfl⟩ fun v hv => ?_, tp5.mono (by omega)⟩
      · rcases List.mem_append.mp hk with hk | hk
        · obtain ⟨q, hq, rfl⟩ := List.mem_map.mp hk
          have hq := hdp q hq
          obtain ⟨⟨z, h1, h2, h3⟩ | h1 | h1, _⟩ := pl_val hpl hm16 [] q hq
          · exact .inr (.inr (.inr ⟨z, by rw [h1]; rfl, h2, h3⟩))
          · obtain ⟨q', hq', rfl⟩ := List.mem_map.mp hq; cases h1
          · obtain ⟨q', hq', rfl⟩ := List.mem_map.mp hq; cases h1
        · rw [List.mem_singleton.mp hk]
          exact hyo.elim .inl fun h => h.elim (fun h => .inr (.inl h)) fun h => .inr (.inr (.inl h))
      · rcases List.mem_append.mp hv with hv | hv
        · obtain ⟨q, hq, rfl⟩ := List.mem_map.mp hv
          exact (pv _ q (hdp q hq)).2
        · rw [List.mem_singleton.mp hv]; exact v0 _
  -- found[box] = d
  have fin1 : ∀ (d : D) (G : Mem) (c' : Cell) (o : Option D), (∀ kvs, ValV ((pf, .dK kvs) :: G) d) → (∀ kvs, ∀ q ∈ pl.kv, ValV ((pf, .dK kvs) :: G) q.2) → Tape (N + 10) c' → ∃ (G' : Mem) (c'' : Cell) (o' : Option D), o = o' ∧ (pf, Cell.dK (putA pl.kv (.inl (b' : Int)) d)) :: (G ++ (p, .dK pl.kv) :: f c') = G' ++ (p, .dK pl.kv) :: f c'' ∧ DictT G' pf ∧ Tape (N + 10) c'' := fun d G c' o h1 h2 h3 => by
    obtain ⟨q1, q2, q3⟩ := put1 d ((pf, .dK (putA pl.kv (.inl (b' : Int)) d)) :: G) (h1 _)
    exact ⟨(pf, _) :: G, c', o, rfl, rfl, .K .here q1 q2 q3, h3⟩
  have vk : ∀ G, ∀ q ∈ pl.kv, ValV G q.2 := fun G q hq => (pv G q hq).2
  refine wss_one (ws_if ?_)
  walk_at "run"
  refine ite_d (fun h3 => ?_) (fun h3 => ?_)
  · walk_at "asg"
    walk_at "run"
    refine ⟨_, .inl ⟨_, isR_lst, rfl⟩, ?_⟩
    walk_at "run"
    refine ⟨_, .inl ⟨_, isR_lst, rfl⟩, ?_⟩
    refine od_cat isL_lst isL_lst (szl (by have := cutN none (some (r4 : Int)); have := cutN (some ((r4 : Int) + 1)) none; omega)) ?_
    refine wg_dix st ?_ (by intro _; with_unfolding_all rfl)
    walk_at "run"
    refine ⟨pf, _, rfl, .inl ⟨pl.kv, .inl (b' : Int), .here, rfl, szlt (by omega), ?_⟩⟩
    obtain ⟨G, c', o, rfl, e, q1, q2⟩ := fin1 (.lst (cutD (l.map natD) none (some (r4 : Int)) ++ cutD (l.map natD) (some ((r4 : Int) + 1)) none)) [] c4 none (fun kvs => .lst (fun x hx => (List.mem_append.mp hx).elim (cutW _ _ _ x) (cutW _ _ _ x)) (by have := cutN none (some (r4 : Int)); have := cutN (some ((r4 : Int) + 1)) none; rw [List.length_append]; omega)) (fun kvs => vk _) (tp4.mono (by omega))
    exact wss_nil ⟨G, c', _, rfl, e, q1, q2⟩
  refine wss_one (ws_if ?_)
  walk_at "run"
  refine ite_d (fun h4 => ?_) (fun h4 => ?_)
  · walk_at "asg"
    walk_at "run"
    refine ⟨_, .inl ⟨_, isR_lst, rfl⟩, ?_⟩
    walk_at "run"
    refine ⟨_, .inl ⟨_, isR_lst, rfl⟩, ?_⟩
    refine od_cat isL_lst isL_lst (szl (by have := cutN none (some (r4 : Int)); have := cutN none (some (1 : Int)); omega)) ?_
    walk_at "run"
    refine ⟨_, .inl ⟨_, isR_lst, rfl⟩, ?_⟩
    refine od_cat isL_lst isL_lst (szl (by have := cutN none (some (r4 : Int)); have := cutN none (some (1 : Int)); have := cutN (some (r4 : Int)) none; rw [List.length_append]; omega)) ?_
    refine wg_dix st ?_ (by intro _; with_unfolding_all rfl)
    walk_at "run"
    refine ⟨pf, _, rfl, .inl ⟨pl.kv, .inl (b' : Int), .here, rfl, szlt (by omega), ?_⟩⟩
    obtain ⟨G, c', o, rfl, e, q1, q2⟩ := fin1 (.lst (cutD (l.map natD) none (some (r4 : Int)) ++ cutD (l.map natD) none (some (1 : Int)) ++ cutD (l.map natD) (some (r4 : Int)) none)) [] c4 none (fun kvs => .lst (fun x hx => (List.mem_append.mp hx).elim (fun hx => (List.mem_append.mp hx).elim (cutW _ _ _ x) (cutW _ _ _ x)) (cutW _ _ _ x)) (by have := cutN none (some (r4 : Int)); have := cutN none (some (1 : Int)); have := cutN (some (r4 : Int)) none; rw [List.length_append, List.length_append]; omega)) (fun kvs => vk _) (tp4.mono (by omega))
    exact wss_nil ⟨G, c', _, rfl, e, q1, q2⟩
  refine wss_one (ws_if ?_)
  walk_at "run"
  refine ite_d (fun h5 => ?_) (fun h5 => ?_)
  · with_reducible refine wss_cons ?_
    with_reducible refine ws_set st (by walk_at "mem") ?_ (by walk_at "unf")
    walk_at "run"
    refine we_dnew fun p1 => ?_
    walk_at "run"
    refine ⟨t, 10, _, c4, _, rfl, .there (.there (.there at4)), tp4, by omega, by omega, by omega, fun r5 c5 a5 b5 tp5 => ?_⟩
    have at5 := hat.put c5
    have hodd : ∃ d, atI [D.int (n0 : Int), .int (0 - (n0 : Int)), .bl true, .non, .str "1", natD m, .lst [], .ref p1, .lst [.int 0], .tup [.int 0]] r5 = some d ∧ ∀ kvs, OddW ((pf, .dK kvs) :: [(p1, .dK [])]) d := by
      rcases (by omega : r5 = 0 ∨ r5 = 1 ∨ r5 = 2 ∨ r5 = 3 ∨ r5 = 4 ∨ r5 = 5 ∨ r5 = 6 ∨ r5 = 7 ∨ r5 = 8 ∨ r5 = 9) with h | h | h | h | h | h | h | h | h | h <;> subst h
      · exact ⟨_, rfl, fun _ => .inr (.inr ⟨_, rfl, by omega, by omega⟩)⟩
      · exact ⟨_, rfl, fun _ => .inr (.inr ⟨_, rfl, by omega, by omega⟩)⟩
      · exact ⟨_, rfl, fun _ => .inl (by unfold oddW; simp)⟩
      · exact ⟨_, rfl, fun _ => .inl (by unfold oddW; simp)⟩
      · exact ⟨_, rfl, fun _ => .inl (by unfold oddW; simp)⟩
      · exact ⟨_, rfl, fun _ => .inr (.inr ⟨(m : Int), rfl, by omega, by omega⟩)⟩
      · exact ⟨_, rfl, fun _ => .inl (by unfold oddW; simp)⟩
      · exact ⟨_, rfl, fun _ => .inr (.inl ⟨_, _, rfl, .there .here⟩)⟩
      · exact ⟨_, rfl, fun _ => .inl (by unfold oddW; simp)⟩
      · exact ⟨_, rfl, fun _ => .inl (by unfold oddW; simp)⟩
    obtain ⟨d, ed, hdw⟩ := hodd
    refine ⟨_, _, rfl, IxD.list isR_lst ed, ?_⟩
    walk_at "put!"
    refine wss_gc (G := []) (M2 := (pf, .dK pl.kv) :: (p1, .dK []) :: (p, .dK pl.kv) :: f c5) (.swap _ _ _) ?_
    walk_at "asg"
    walk_at "run"
    refine ⟨_, .inl ⟨_, isR_lst, rfl⟩, ?_⟩
    walk_at "run"
    refine od_cat isL_lst isL_lst (szl (by have := cutN none (some (r4 : Int)); rw [List.length_singleton]; omega)) ?_
    walk_at "run"
    refine ⟨t, 2, _, c5, _, rfl, .there (.there (.there at5)), tp5, by omega, by omega, by omega, fun r6 c6 a6 b6 tp6 => ?_⟩
    walk_at "run"
    refine ⟨_, .inl ⟨_, isR_lst, rfl⟩, ?_⟩
    refine od_cat isL_lst isL_lst (szl (by have := cutN none (some (r4 : Int)); have := cutN (some ((r4 : Int) + r6)) none; rw [List.length_append, List.length_singleton]; omega)) ?_
    refine wg_dix st ?_ (by intro _; with_unfolding_all rfl)
    walk_at "run"
    refine ⟨pf, _, rfl, .inl ⟨pl.kv, .inl (b' : Int), .here, rfl, szlt (by omega), ?_⟩⟩
    obtain ⟨G, c', o, e0, e, q1, q2⟩ := fin1 (.lst (cutD (l.map natD) none (some (r4 : Int)) ++ [d] ++ cutD (l.map natD) (some ((r4 : Int) + r6)) none)) [(p1, .dK [])] c6 (some d) (fun kvs => .lst (fun x hx => (List.mem_append.mp hx).elim (fun hx => (List.mem_append.mp hx).elim (cutW _ _ _ x) (fun hx => by rw [List.mem_singleton.mp hx]; exact hdw kvs)) (cutW _ _ _ x)) (by have := cutN none (some (r4 : Int)); have := cutN (some ((r4 : Int) + r6)) none; rw [List.length_append, List.length_append, List.length_singleton]; omega)) (fun kvs => vk _) (tp6.mono (by omega))
    subst e0
    exact wss_nil ⟨G, c', _, rfl, e, q1, q2⟩
  refine wss_one (ws_if ?_)
  walk_at "run"
  refine ite_d (fun h6 => ?_) (fun h6 => ?_)
  · walk_at "asg"
    walk_at "run"
    refine cd_tuple (.inl isR_lst) ?_
    walk_at "a1"
    refine we_revL ?_
    walk_at "run"
    refine ⟨_, isR_lst, ?_⟩
    walk_at "run"
    refine we_dnew fun p1 => ?_
    walk_at "run"
    refine ⟨t, 6, _, c4, _, rfl, .there (.there (.there at4)), tp4, by omega, by omega, by omega, fun r5 c5 a5 b5 tp5 => ?_⟩
    have hodd : ∃ d, atI [D.tup (l.map natD), .lst (l.map natD).reverse, .non, .ref p1, .int 3, .str ""] r5 = some d ∧ ∀ kvs, ValV ((pf, .dK kvs) :: [(p1, .dK [])]) d := by
      rcases (by omega : r5 = 0 ∨ r5 = 1 ∨ r5 = 2 ∨ r5 = 3 ∨ r5 = 4 ∨ r5 = 5) with h | h | h | h | h | h <;> subst h
      · refine ⟨_, rfl, fun _ => ?_⟩
        have e : l.map natD = (l.map fun (n : Nat) => (n : Int)).map D.int := by rw [List.map_map]; rfl
        rw [e]
        refine .tup (fun z hz => ?_) (by rw [List.length_map]; omega)
        obtain ⟨k, hk, rfl⟩ := List.mem_map.mp hz
        have := hll k hk
        omega
      · refine ⟨_, rfl, fun _ => .lst (fun x hx => ?_) (by rw [List.length_reverse, List.length_map]; omega)⟩
        obtain ⟨k, hk, rfl⟩ := List.mem_map.mp (List.mem_reverse.mp hx)
        exact wl k hk _
      · exact ⟨_, rfl, fun _ => .odd (.inl (by unfold oddW; simp))⟩
      · exact ⟨_, rfl, fun _ => .odd (.inr (.inl ⟨_, _, rfl, .there .here⟩))⟩
      · exact ⟨_, rfl, fun _ => .odd (.inr (.inr ⟨3, rfl, by omega, by omega⟩))⟩
      · exact ⟨_, rfl, fun _ => .odd (.inl (by unfold oddW; simp))⟩
    obtain ⟨d, ed, hdw⟩ := hodd
    refine ⟨_, _, rfl, IxD.list isR_lst ed, ?_⟩
    refine wg_dix st ?_ (by intro _; with_unfolding_all rfl)
    walk_at "run"
    refine ⟨pf, _, rfl, .inl ⟨pl.kv, .inl (b' : Int), .there .here, rfl, szlt (by omega), ?_⟩⟩
    refine wss_gc (G := []) (M2 := (pf, .dK (putA pl.kv (.inl (b' : Int)) d)) :: (p1, .dK []) :: (p, .dK pl.kv) :: f c5) (.swap _ _ _) ?_
    obtain ⟨G, c', o, rfl, e, q1, q2⟩ := fin1 d [(p1, .dK [])] c5 none hdw (fun kvs => vk _) (tp5.mono (by omega))
    exact wss_nil ⟨G, c', _, rfl, e, q1, q2⟩
  · walk_at "asg"
    walk_at "run"
    refine od_cat isL_lst isL_lst (szl (by rw [List.length_map, List.length_singleton]; omega)) ?_
    refine wa_nil ?_
    have e : l.map natD ++ [D.int (n0 : Int)] = ((l ++ [n0]).map fun (n : Nat) => (n : Int)).map D.int := by rw [List.map_map, List.map_append]; rfl
    rw [e]
    have hsp2 := List.mergeSort_perm (l ++ [n0]) (fun a b => decide (a ≤ b))
    have hsu2 : ((l ++ [n0]).mergeSort fun a b => decide (a ≤ b)).Pairwise (· ≤ ·) := (List.pairwise_mergeSort (fun a b c h1 h2 => by simp only [decide_eq_true_eq] at *; omega) (fun a b => by simp only [Bool.or_eq_true, decide_eq_true_eq]; omega) _).imp fun h => of_decide_eq_true h
    generalize ((l ++ [n0]).mergeSort fun a b => decide (a ≤ b)) = so at hsp2 hsu2
    have hsol : so.length = l.length + 1 := by rw [hsp2.length_eq, List.length_append, List.length_singleton]
    refine cd_sortedI (ns := (l ++ [n0]).map fun (n : Nat) => (n : Int)) (ms := so.map fun (n : Nat) => (n : Int)) isR_lst (hsp2.map _) (by rw [List.pairwise_map]; exact hsu2.imp fun h => by omega) ?_
    refine wg_dix st ?_ (by intro _; with_unfolding_all rfl)
    walk_at "run"
    refine ⟨pf, _, rfl, .inl ⟨pl.kv, .inl (b' : Int), .here, rfl, szlt (by omega), ?_⟩⟩
    obtain ⟨G, c', o, rfl, e, q1, q2⟩ := fin1 (.lst ((so.map fun (n : Nat) => (n : Int)).map D.int)) [] c4 none (fun kvs => .lst (fun x hx => by
      rw [List.map_map] at hx
      obtain ⟨k, hk, rfl⟩ := List.mem_map.mp hx
      rcases List.mem_append.mp (hsp2.mem_iff.mp hk) with hk | hk
      · exact wl k hk _
      · rw [List.mem_singleton.mp hk]
        exact .inr (.inr ⟨(n0 : Int), rfl, by omega, by omega⟩)) (by rw [List.length_map, List.length_map]; omega)) (fun kvs => vk _) (tp4.mono (by omega))
    exact wss_nil ⟨G, c', _, rfl, e, q1, q2⟩
end
end Gen

set_option pp.maxSteps 800
namespace Gen
open PySem L2 DL Wk
abbrev slaw : Stmt := top 44
abbrev llaw : List Str := ["_law_script", "_law_k", "_law_tape_here", "_law_works_here", "_law_number_here", "_law_great", "_law_own", "_law_many_here", "_law_plan_here", "_law_things", "_law_turn", "_law_thing", "_law_fewer", "_law_one", "_law_kept", "_law_found"]
abbrev nlaw : List Str := ["_law_script", "_law_k", "_law_tape_here", "_law_works_here", "_law_number_here", "_law_great", "_law_own", "_law_many_here", "_law_plan_here", "_law_things", "_law_turn", "_law_thing", "_law_fewer", "_law_one", "_law_kept", "_law_found", "_law_box"]
theorem sclaw : FnScope nlaw ["_law_script"] (defScope slaw) := ⟨rfl, rfl, rfl, by decide +kernel, rfl, by decide +kernel, by decide +kernel⟩
section
variable {P : Program} {w : World} {K : PySem.W.Frag} {mg : Str → Option Value} {base : Heap}
abbrev splaw : DSp := fun ds M Q => ∃ ns : List Int, ds = [.slst (ns.map .int)] ∧ M = [] ∧ ∀ M', Q (.bl true) M'
theorem law_start (ns : List Int) (hl : ns.length ≤ 63) (hb : ∀ z ∈ ns, PySem.Builtin.Int.intBits z ≤ 1048576) : splaw [.slst (ns.map .int)] [] fun d _ => d = .bl true := ⟨ns, rfl, rfl, fun _ => rfl⟩
theorem boxL_up (w : W) : (boxL w).Pairwise (· < ·) := List.pairwise_lt_range.filter _
/-- each written box with its busy blocks -/
noncomputable def ownL (ws : List W) (n : Nat) (w : W) : Pl := (boxL w).map fun b => (b, busyL ws n b w)
theorem ownL_fst (ws : List W) (n : Nat) (w : W) : (ownL ws n w).map (·.1) = boxL w := by unfold ownL; rw [List.map_map]; exact List.map_id' _
theorem ownL_ok (ws : List W) (n : Nat) (w : W) : PlOk w.length (ownL ws n w) := by
  refine ⟨by rw [ownL_fst]; exact boxL_nd w, fun p hp => ?_, fun p hp => ?_, fun p hp k hk => ?_⟩
  all_goals obtain ⟨b, hb, rfl⟩ := List.mem_map.mp hp
  · exact boxL_lt hb
  · exact sortU_up _ _
  · exact (mem_sortU.mp hk).1
theorem ownL_at {ws : List W} {n b : Nat} {w : W} (h : b ∈ boxL w) : ownF (ownL ws n w) b = busyL ws n b w := ownF_at (ownL_ok ws n w).nd (List.mem_map.mpr ⟨b, h, rfl⟩)
theorem all_cong {α : Type} {l : List α} {f g : α → Bool} (h : ∀ x ∈ l, f x = g x) : l.all f = l.all g := by
  rw [Bool.eq_iff_iff, List.all_eq_true, List.all_eq_true]
  exact ⟨fun q x hx => by rw [← h x hx]; exact q x hx, fun q x hx => by rw [h x hx]; exact q x hx⟩
theorem planB_own {ws : List W} {n : Nat} {w : W} {ts : List Tv} : planB ((ownL ws n w).map (·.1)) w.length (ownF (ownL ws n w)) ts = planB (boxesOf w) w.length (fun b => busyL ws n b w) ts := by
  rw [ownL_fst, ← boxL_eq w]
  unfold planB
  rw [all_cong (l := boxL w) fun b hb => by rw [ownL_at hb]]
theorem ls_ex {M : Mem} : ∀ {kvs : List (Key × D)}, (∀ p ∈ kvs, ∃ o, LsV M p.2 o) → ∃ ts : List Tv, kvT ts = kvs ∧ ts.map (·.1) = kvs.map (·.1) ∧ ts.length = kvs.length ∧ ∀ t ∈ ts, LsV M t.2.1 t.2.2
  | [], _ => ⟨[], rfl, rfl, rfl, by simp⟩
  | p :: kvs, h => by
    obtain ⟨o, ho⟩ := h p List.mem_cons_self
    obtain ⟨ts, h1, h2, h3, h4⟩ := ls_ex fun q hq => h q (List.mem_cons_of_mem _ hq)
    refine ⟨(p.1, p.2, o) :: ts, ?_, by rw [List.map_cons, List.map_cons, h2], by rw [List.length_cons, List.length_cons, h3], fun t ht => ?_⟩
    · unfold kvT at h1 ⊢
      rw [List.map_cons, h1]
    · rcases List.mem_cons.mp ht with rfl | ht
      · exact ho
      · exact h4 t ht
/-- a thing that may be asked for -/
inductive ThV (M : Mem) : D → Prop
  | dict {q : Addr} : DictT M q → ThV M (.ref q)
  | other {d : D} {t : String} {p : PyData} : IsT M d t → (t == "dict") = false → PyX M d p → ShB 4 400 p → ThV M d
abbrev AskP (ws : List W) (n : Nat) (w : W) (d : D) (M : Mem) (Q : D → Mem → Prop) : Prop :=
  (∃ t, IsT M d t ∧ (t == "dict") = false ∧ Q (.bl false) M) ∨
   (∃ a ob ks vs f, d = .ref a ∧ At a M (.fzX ob ks vs) f ∧ ks.length ≤ 1000 ∧ (∀ k ∈ ks, ∃ t, IsT M k t) ∧ (∃ k ∈ ks, isI k = false) ∧ Q (.bl false) M) ∨
   ∃ a ts f, d = .ref a ∧ At a M (.dK (kvT ts)) f ∧ ts.length ≤ 60 ∧ (ts.map (·.1)).Nodup ∧ (∀ t ∈ ts, LsV M t.2.1 t.2.2) ∧ Q (.bl (planB (boxesOf w) w.length (fun b => busyL ws n b w) ts)) M
theorem ThV.ask {M : Mem} {d : D} (ws : List W) (n : Nat) (w : W) (h : ThV M d) : ∃ b, ∀ Q : D → Mem → Prop, Q (.bl b) M → AskP ws n w d M Q := by
  cases h with
  | other h1 h2 _ _ => exact ⟨false, fun Q q => .inl ⟨_, h1, h2, q⟩⟩
  | dict h =>
    cases h with
    | O h1 h2 h3 h4 h5 h6 =>
      refine ⟨false, fun Q q => .inr (.inl ⟨_, _, _, _, _, rfl, h1, by omega, fun k hk => ?_, h5, q⟩)⟩
      rcases h4 k hk with rfl | rfl | rfl | ⟨z, rfl, _⟩
      · exact ⟨_, .non⟩
      · exact ⟨_, .bl _⟩
      · exact ⟨_, .tup _⟩
      · exact ⟨_, .int _⟩
    | K h1 h2 h3 h4 =>
      obtain ⟨ts, e1, e2, e3, e4⟩ := ls_ex fun p hp => (h4 p hp).2.lsv
      subst e1
      exact ⟨_, fun Q q => .inr (.inr ⟨_, ts, _, rfl, h1, by omega, by rw [e2]; exact h2, e4, q⟩)⟩
theorem AskP.mine {ws : List W} {n : Nat} {w : W} {d : D} {M : Mem} {Q : D → Mem → Prop} (h : AskP ws n w d M Q) :
  (∃ t, IsT M d t ∧ (t == "dict") = false ∧ Q (.bl false) M) ∨
   (∃ a ob ks vs f, d = .ref a ∧ At a M (.fzX ob ks vs) f ∧ ks.length ≤ 1000 ∧ (∀ k ∈ ks, ∃ t, IsT M k t) ∧ (∃ k ∈ ks, isI k = false) ∧ Q (.bl false) M) ∨
   ∃ a ts f, d = .ref a ∧ At a M (.dK (kvT ts)) f ∧ ts.length ≤ 60 ∧ (ts.map (·.1)).Nodup ∧ (∀ t ∈ ts, LsV M t.2.1 t.2.2) ∧ Q (.bl (planB ((ownL ws n w).map (·.1)) w.length (ownF (ownL ws n w)) ts)) M := by
  rcases h with h | h | ⟨a, ts, f, h1, h2, h3, h4, h5, h6⟩
  · exact .inl h
  · exact .inr (.inl h)
  · exact .inr (.inr ⟨a, ts, f, h1, h2, h3, h4, h5, by rw [planB_own]; exact h6⟩)
theorem AskP.theirs {ws : List W} {n : Nat} {w : W} {d : D} {M : Mem} {Q : D → Mem → Prop} (h : AskP ws n w d M Q) :
  (∃ t, IsT M d t ∧ (t == "dict") = false ∧ Q (.bl false) M) ∨
   (∃ a ob ks vs f, d = .ref a ∧ At a M (.fzX ob ks vs) f ∧ ks.length ≤ 1000 ∧ (∀ k ∈ ks, ∃ t, IsT M k t) ∧ (∃ k ∈ ks, isI k = false) ∧ Q (.bl false) M) ∨
   ∃ a ts f, d = .ref a ∧ At a M (.dK (kvT ts)) f ∧ ts.length ≤ 1000 ∧ (ts.map (·.1)).Nodup ∧ (∀ t ∈ ts, LsV M t.2.1 t.2.2) ∧ Q (.bl (planB (boxesOf w) w.length (fun b => busyL ws n b w) ts)) M := by
  rcases h with h | h | ⟨a, ts, f, h1, h2, h3, h4, h5, h6⟩
  · exact .inl h
  · exact .inr (.inl h)
  · exact .inr (.inr ⟨a, ts, f, h1, h2, by omega, h4, h5, h6⟩)
theorem ask_plan {ws : List W} {n : Nat} {w : W} {d : D} {M : Mem} {b : Bool} {Q : D → Mem → Prop} (hf : FitWs ws) (hw : ws[n]? = some w) (hb : ∀ Q : D → Mem → Prop, Q (.bl b) M → AskP ws n w d M Q) (q : Q (.bl b) M) : spis_plan [Ws.d ws, natD n, d] M Q := ⟨ws, n, w, d, rfl, hf, hw, (hb Q q).theirs⟩
theorem ask_mine {ws : List W} {n : Nat} {w : W} {d : D} {M : Mem} {b : Bool} {po : Addr} {g : Cell → Mem} {Q : D → Mem → Prop} (hat : At po M (.dK (ownL ws n w).kv) g) (h16 : w.length ≤ 16) (hb : ∀ Q : D → Mem → Prop, Q (.bl b) M → AskP ws n w d M Q) (q : Q (.bl b) M) : sp_law_is_plan [.ref po, natD w.length, d] M Q :=
  ⟨po, w.length, ownL ws n w, g, d, rfl, hat, ownL_ok ws n w, h16, by rw [ownL_fst]; exact boxL_up w, (hb Q q).mine⟩
theorem ThV.shows {X : Cx} {M : Mem} {d : D} {Ln Vn Bn Fn : List Str} (st : Stat X Ln Vn Bn Fn) (hs : ∃ mm, X.base.Ns sysModules mm) (h : ThV M d) : Shows X M d := by
  cases h with
  | dict h => exact h.shows st hs
  | other _ _ hp hb => exact ⟨_, fun Q q => cd_reprP st hp hb (by omega) (by omega) hs q⟩
/-- a plan as such a dict -/
def plTs (pl : Pl) : List Tv := pl.map fun q => (Sum.inl (q.1 : Int), nlD q.2, some (q.2.map natD))
theorem plTs_kv (pl : Pl) : kvT (plTs pl) = pl.kv := by unfold kvT plTs Pl.kv; rw [List.map_map]; rfl
theorem plan_true {ws : List W} {n : Nat} {w : W} {pl : Pl} (h : PlOk w.length pl) (hp : (pl.map (·.1)).Perm (boxL w)) (hin : ∀ q ∈ pl, ∀ k ∈ ownF (ownL ws n w) q.1, k ∈ q.2) : planB (boxesOf w) w.length (fun b => busyL ws n b w) (plTs pl) = true := by
  have hbl : boxL w = boxesOf w := boxL_eq w
  have hnd : ((plTs pl).map (·.1)).Nodup := by
    unfold plTs
    rw [List.map_map]
    have := nd_map h.nd
    unfold Pl.kv at this
    rw [List.map_map] at this
    exact this
  have hlen : (plTs pl).length = (boxesOf w).length := by
    unfold plTs
    rw [List.length_map, ← hbl, ← hp.length_eq, List.length_map]
  have hkey : ((plTs pl).all fun t => keyOk (boxesOf w) (kD t.1)) = true := by
    rw [List.all_eq_true]
    intro t ht
    obtain ⟨q, hq, rfl⟩ := List.mem_map.mp ht
    have h8 := h.box q hq
    have hm : q.1 ∈ boxesOf w := by rw [← hbl]; exact hp.mem_iff.mp (List.mem_map.mpr ⟨q, hq, rfl⟩)
    unfold keyOk
    rw [Bool.and_eq_true, decide_eq_true_iff]
    refine ⟨?_, List.mem_map.mpr ⟨q.1, hm, rfl⟩⟩
    show (true && (decide ((0 : Int) ≤ (q.1 : Int)) && decide ((q.1 : Int) < 8))) = true
    rw [decide_eq_true (by omega), decide_eq_true (by omega)]; rfl
  unfold planB
  rw [decide_eq_true hlen, hkey, Bool.true_and, Bool.true_and, List.all_eq_true]
  intro b hb
  obtain ⟨t, ht, e1, e2, _⟩ := look_in hnd hlen hkey hb
  obtain ⟨q, hq, rfl⟩ := List.mem_map.mp ht
  have eb : q.1 = b := by injection e1 with e; omega
  subst eb
  rw [e2]
  show insD _ _ (q.2.map natD) = true
  unfold insD
  rw [riseD_nats (h.up q hq) (h.lt q hq), Bool.true_and, List.all_eq_true]
  intro k hk
  rw [intD_nats]
  have := hin q hq k (by rw [ownL_at (by rw [hbl]; exact hb)]; exact hk)
  exact decide_eq_true (List.mem_map.mpr ⟨k, this, rfl⟩)
theorem plTs_ls {pl : Pl} {m : Nat} (h : PlOk m pl) (hm : m ≤ 16) (M : Mem) : ∀ t ∈ plTs pl, LsV M t.2.1 t.2.2 := fun t ht => by
  obtain ⟨q, hq, rfl⟩ := List.mem_map.mp ht
  have := h.few q hq
  refine .inr ⟨_, rfl, isL_lst, by rw [List.length_map]; omega, fun x hx => ?_⟩
  obtain ⟨k, _, rfl⟩ := List.mem_map.mp hx
  exact ⟨_, .int _⟩
theorem oklaw {f : Addr} {fd : FuncData} (F : Fun K "law" "law" slaw f fd) (hB : ∀ x ∈ (["range", "max", "min", "len", "dict", "sorted", "int", "repr", "isinstance", "bool"] : List Str), mg x = none) (h_law_tape : Fs P w K mg base 1 "_law_tape" 2 sp_law_tape) (h_law_works : Fs P w K mg base 5 "_law_works" 2 sp_law_works) (h_law_draw : Fs P w K mg base 1 "_law_draw" 2 sp_law_draw) (h_law_size : Fs P w K mg base 1 "_law_size" 1 sp_law_size) (h_law_boxes : Fs P w K mg base 2 "_law_boxes" 1 sp_law_boxes) (h_law_busy : Fs P w K mg base 3 "_law_busy" 3 sp_law_busy) (h_law_plan : Fs P w K mg base 2 "_law_plan" 3 sp_law_plan) (his_plan : Fs P w K mg base 8 "is_plan" 3 spis_plan) (h_law_bent : Fs P w K mg base 2 "_law_bent" 3 sp_law_bent) (h_law_is_plan : Fs P w K mg base 2 "_law_is_plan" 3 sp_law_is_plan) (hsys : ∃ mm, base.Ns PySem.sysModules mm) : GOk P w K mg base 9 f fd ["_law_script"] (spD K 1 splaw) := by
  refine gok_body (N := nlaw) (Ln := llaw) (Bn := ["range", "max", "min", "len", "dict", "sorted", "int", "repr", "isinstance", "bool"]) (Fn := ["_law_tape", "_law_works", "_law_draw", "_law_size", "_law_boxes", "_law_plan", "is_plan", "_law_bent", "_law_is_plan"]) (Bx := ["range", "max", "min", "len", "dict", "sorted", "int", "repr", "isinstance", "bool"]) F sclaw rfl (by decide +kernel) hB ?_
  rintro X ds M Q bod ⟨ns, rfl, rfl, hQ⟩
  have st := bod.st
  have rm := bod.room
  have d1 := bod.tr h_law_tape
  have d2 := bod.tr h_law_works
  have d3 := bod.tr h_law_draw
  have d4 := bod.tr h_law_size
  have d5 := bod.tr h_law_boxes
  have d6 := bod.tr h_law_busy
  have d7 := bod.tr h_law_plan
  have d8 := bod.tr his_plan
  have d9 := bod.tr h_law_bent
  have d10 := bod.tr h_law_is_plan
  have hsy : ∃ mm, X.base.Ns sysModules mm := by rw [bod.base]; exact hsys
  show WSs X ([("_law_script", some (.slst (ns.map .int))), ("_law_k", none), ("_law_tape_here", none), ("_law_works_here", none), ("_law_number_here", none), ("_law_great", none), ("_law_own", none), ("_law_many_here", none), ("_law_plan_here", none), ("_law_things", none), ("_law_turn", none), ("_law_thing", none), ("_law_fewer", none), ("_law_one", none), ("_law_kept", none), ("_law_found", none), ("_law_box", none)] : VEnv) _ _ _
  refine wss_cons (ws_for st (wi_range st (by walk_at "mem") ?_))
  walk_at "run"
  have hcnt : ∃ z : Int, (if (if (3 : Int) < ((ns.map D.int).length : Int) then (3 : Int) else ((ns.map D.int).length : Int)) > 1 then (if (3 : Int) < ((ns.map D.int).length : Int) then (3 : Int) else ((ns.map D.int).length : Int)) else 1) = z ∧ 0 ≤ z ∧ z ≤ 3 := by
    refine ⟨_, rfl, ?_, ?_⟩ <;> (split <;> split <;> omega)
  obtain ⟨z, ez, hz0, hz6⟩ := hcnt
  rw [ez]
  refine ⟨by omega, by omega, fun i Γ' M' => ∃ o0 o1 o2 o3 o4 o5 o6 o7 o8 o9 oa ob oc od oe : Option D, Γ' = ([("_law_script", some (.slst (ns.map .int))), ("_law_k", o0), ("_law_tape_here", o1), ("_law_works_here", o2), ("_law_number_here", o3), ("_law_great", o4), ("_law_own", o5), ("_law_many_here", o6), ("_law_plan_here", o7), ("_law_things", o8), ("_law_turn", o9), ("_law_thing", oa), ("_law_fewer", ob), ("_law_one", oc), ("_law_kept", od), ("_law_found", oe), ("_law_box", none)] : VEnv), ⟨_, _, _, _, _, _, _, _, _, _, _, _, _, _, _, rfl⟩, fun _ _ _ _ => trivial, ?_, ?_⟩
  · rintro i x Γ' M' hx ⟨o0, o1, o2, o3, o4, o5, o6, o7, o8, o9, oa, ob, oc, od, oe, rfl⟩
    obtain ⟨hi, rfl⟩ := rngD_inv hx
    refine wg_name st (by walk_at "mem") (by walk_at "put") ?_
    walk_at "set"
    walk_at "run"
    refine ⟨ns, _, rfl, by omega, by omega, fun t c0 tp0 => ?_⟩
    walk_at "run"
    walk_at "set"
    walk_at "run"
    refine ⟨t, 0, _, _, 4, rfl, .here, tp0, by omega, by omega, fun ws c1 hok hpl tp1 => ?_⟩
    walk_at "run"
    have hf : FitWs ws := hok.fitWs
    have hl10 := hok.len
    have hpos := hok.pos
    refine wss_cons (ws_asg ?_ (by walk_at "unf") (sw_no2 (.inl (by rw [bod.sc]; decide +kernel))) (by walk_at "unf"))
    walk_at "e1"
    walk_at "a1"
    walk_at "run"
    rw [List.length_map]
    refine ⟨t, _, _, c1, _, rfl, .here, tp1, by omega, by omega, by omega, fun n c2 a2 b2 tp2 => ?_⟩
    obtain ⟨n, rfl⟩ := Int.eq_ofNat_of_zero_le a2
    have hn : n < ws.length := by omega
    walk_at "run"
    refine ⟨ws, rfl, hok, fun sz => ?_⟩
    walk_at "run"
    obtain ⟨w, hw⟩ : ∃ w, ws[n]? = some w := ⟨ws[n], List.getElem?_eq_getElem hn⟩
    have hwm := List.mem_of_getElem? hw
    have hfw := hf.fit w hwm
    have hok1 := hok.ok w hwm
    have h16 := hfw.len
    have hp1 := hok1.pos
    have h8 := boxL_len w
    refine wg_tup st rfl ?_
    refine wgs_cons (wg_name st (by walk_at "mem") (by walk_at "put") ?_)
    refine wgs_cons (wg_name st (by walk_at "mem") (by walk_at "put") ?_)
    refine wgs_nil ?_
    refine ws_mid (fun Γ' M2 => Γ' = ([("_law_script", some (.slst (ns.map .int))), ("_law_k", some (.int (0 + (i : Int)))), ("_law_tape_here", some (.ref t)), ("_law_works_here", some (.lst (ws.map W.d))), ("_law_number_here", some (natD n)), ("_law_great", some (.bl (decide (150 < (sz : Int))))), ("_law_own", o5), ("_law_many_here", o6), ("_law_plan_here", o7), ("_law_things", o8), ("_law_turn", o9), ("_law_thing", oa), ("_law_fewer", ob), ("_law_one", oc), ("_law_kept", od), ("_law_found", oe), ("_law_box", none)] : VEnv) ∧ M2 = (t, c2) :: M') (ws_if ?_) ?_
    · walk_at "run"
      refine ite_d (fun h0 => ?_) (fun h0 => wss_nil ⟨rfl, rfl⟩)
      walk_at "run"
      exact ite_d (fun h => wss_one (ws_cont ⟨_, _, _, _, _, _, _, _, _, _, _, _, _, _, _, rfl⟩)) (fun h => wss_nil ⟨rfl, rfl⟩)
    rintro Γ' M2 ⟨rfl, rfl⟩
    walk_at "set"
    refine we_gc ?_
    walk_at "e1"
    walk_at "a1"
    refine we_frz ?_
    refine we_map (boxL w) natD (fun b => .tup [natD b, nlD (busyL ws n b w)]) [("_law_box", 16)] ["_law_box", "_law_works_here", "_law_number_here"] [] ["_law_busy"] bod (by decide +kernel) (by walk_at "mem") (by walk_at "wiped") ?_
    refine wi_list ?_
    walk_at "run"
    refine ⟨_, _, rfl, IxD.list isR_lst (atI_map hw), ?_⟩
    walk_at "run"
    refine ⟨w, rfl, hfw, fun pb => ?_⟩
    refine ⟨_, isR_ref .here, rfl, szl (by omega), fun _ _ => isR_ref (.there .here), fun b hb => ⟨_, by walk_at "put", fun X1 inn L acc => ?_⟩, fun p2 => ⟨_, _, _, rfl, rfl, ?_⟩⟩
    · have st1 := inn.st
      have g1 := inn.tr d6
      have rm1 := inn.rm rm
      walk_at "run"
      refine ⟨ws, n, b, w, rfl, hf, hw, hok1.nodup, ?_⟩
      walk_at "run"
      exact ⟨rfl, rfl⟩
    refine wa_nil ?_
    have hown := ownL_ok ws n w
    have hofst := ownL_fst ws n w
    have hoe : (ownL ws n w).kv = (boxL w).map fun (b : Nat) => ((Sum.inl (b : Int) : Key), nlD (busyL ws n b w)) := by unfold Pl.kv ownL; rw [List.map_map]; rfl
    refine cd_dictP (ps := (ownL ws n w).kv) st (by rw [hoe, List.map_map]; exact isR_lst) fun po => ?_
    rw [mergeA_new _ _ (nd_map hown.nd) (by simp), List.nil_append]
    refine ⟨[(pb, _)], _, .swap _ _ _, ?_⟩
    walk_at "put!"
    walk_at "set"
    walk_at "run"
    refine ⟨_, _, rfl, IxD.list isR_lst (atI_map hw), ?_⟩
    walk_at "run"
    refine cd_len (.inl isR_lst) ?_
    walk_at "put!"
    rw [List.length_map]
    walk_at "set"
    walk_at "run"
    refine ⟨t, _, w.length, c2, _, ownL ws n w, po, _, rfl, rfl, .here, tp2, by omega, hown, h16, by rw [hofst]; exact boxL_up w, fun pl p c3 hpo hpm hin tp3 => ?_⟩
    rw [hofst] at hpm
    walk_at "put!"
    have hpl8 := hpo.len
    refine wss_cons (ws_if ?_)
    walk_at "run"
    refine ⟨ws, n, w, _, rfl, hf, hw, .inr (.inr ⟨p, plTs pl, _, rfl, by rw [plTs_kv]; exact .here, by unfold plTs; rw [List.length_map]; omega, ?_, plTs_ls hpo h16 _, ?_⟩)⟩
    · unfold plTs
      rw [List.map_map]
      have := nd_map hpo.nd
      unfold Pl.kv at this
      rw [List.map_map] at this
      exact this
    rw [plan_true hpo hpm hin]
    walk_at "run"
    refine od_notB ?_
    walk_at "run"
    refine ite_ff ?_
    refine wss_nil ?_
    have hsp := List.mergeSort_perm (pl.map (·.1)) (fun a b => decide (a ≤ b))
    have hsu : ((pl.map (·.1)).mergeSort fun a b => decide (a ≤ b)).Pairwise (· ≤ ·) := (List.pairwise_mergeSort (fun a b c h1 h2 => by simp only [decide_eq_true_eq] at *; omega) (fun a b => by simp only [Bool.or_eq_true, decide_eq_true_eq]; omega) _).imp fun h => of_decide_eq_true h
    generalize ((pl.map (·.1)).mergeSort fun a b => decide (a ≤ b)) = sk at hsp hsu
    have hskl : sk.length = pl.length := by rw [hsp.length_eq, List.length_map]
    with_reducible refine wss_cons ?_
    with_reducible refine ws_set st (by walk_at "mem") ?_ (by walk_at "unf")
    walk_at "run"
    refine we_dnew fun p1 => ?_
    walk_at "run"
    refine cd_sortedK st (ms := sk.map fun (n : Nat) => (n : Int)) (.there .here) (kv_ints pl) (by rw [List.length_map]; omega) (by rw [show (pl.map fun p => (p.1 : Int)) = (pl.map (·.1)).map fun (n : Nat) => (n : Int) from by rw [List.map_map]; rfl]; exact hsp.map _) (by rw [List.pairwise_map]; exact hsu.imp fun h => by omega) ?_
    rw [show (sk.map fun (n : Nat) => (n : Int)).map D.int = sk.map natD from by rw [List.map_map]; rfl]
    walk_at "run"
    refine we_disp1 fun p2 => ?_
    walk_at "run"
    refine ⟨.inl 0, _, rfl, .here, ?_⟩
    walk_at "run"
    generalize hR : (fun c => (p2, Cell.dK [((Sum.inl 0 : Key), D.lst [])]) :: (p1, Cell.dK []) :: (po, Cell.dK (ownL ws n w).kv) :: (t, c) :: M') = R
    have hRe : ∀ c, R c = (p2, Cell.dK [((Sum.inl 0 : Key), D.lst [])]) :: (p1, Cell.dK []) :: (po, Cell.dK (ownL ws n w).kv) :: (t, c) :: M' := fun c => by rw [← hR]
    have hRt : ∀ c, At t (R c) c R := fun c => by rw [← hR]; exact .there (.there (.there .here))
    refine wss_gc (G := []) (M2 := (p, .dK pl.kv) :: R c3) (by rw [hRe]; exact (List.perm_middle (a := (p, Cell.dK pl.kv)) (l₁ := [(p2, Cell.dK [((Sum.inl 0 : Key), D.lst [])]), (p1, Cell.dK [])]) (l₂ := (po, Cell.dK (ownL ws n w).kv) :: (t, c3) :: M'))) ?_
    refine wss_one (ws_for st (wi_range st (by walk_at "mem") ?_))
    walk_at "run"
    have hcn : ∃ y : Int, atI [D.int 10, D.int 2] (if decide (150 < (sz : Int)) = true then 1 else 0) = some (.int y) ∧ 0 ≤ y ∧ y ≤ 10 := by
      by_cases h : 150 < (sz : Int)
      · rw [decide_eq_true h]; exact ⟨2, rfl, by omega, by omega⟩
      · rw [decide_eq_false h]; exact ⟨10, rfl, by omega, by omega⟩
    obtain ⟨y, ey, hy0, hy1⟩ := hcn
    refine ⟨_, _, rfl, IxD.list isR_lst ey, ?_⟩
    walk_at "run"
    refine ⟨by omega, by omega, fun j Γ' M2 => ∃ (c : Cell) (o9 oa ob oc od oe : Option D), Tape (40000 + 100 * j) c ∧ Γ' = ([("_law_script", some (.slst (ns.map .int))), ("_law_k", some (.int (0 + (i : Int)))), ("_law_tape_here", some (.ref t)), ("_law_works_here", some (.lst (ws.map W.d))), ("_law_number_here", some (natD n)), ("_law_great", some (.bl (decide (150 < (sz : Int))))), ("_law_own", some (.ref po)), ("_law_many_here", some (natD w.length)), ("_law_plan_here", some (.ref p)), ("_law_things", some (.lst [.ref p, .ref p1, .lst [], .non, .tup [], .int 0, .bl true, .str "", .lst [.ref p], .lst (sk.map natD), .ref p2])), ("_law_turn", o9), ("_law_thing", oa), ("_law_fewer", ob), ("_law_one", oc), ("_law_kept", od), ("_law_found", oe), ("_law_box", none)] : VEnv) ∧ M2 = (p, .dK pl.kv) :: R c, ⟨c3, _, _, _, _, _, _, tp3.mono (by omega), rfl, rfl⟩, fun _ _ _ _ => trivial, ?_, ?_⟩
    · rintro j x Γ' M2 hx ⟨c, o9, oa, ob, oc, od, oe, tp, rfl, rfl⟩
      obtain ⟨hj, rfl⟩ := rngD_inv hx
      refine wg_name st (by walk_at "mem") (by walk_at "put") ?_
      walk_at "set"
      walk_at "run"
      refine ⟨t, _, w.length, c, R, pl, p, _, rfl, rfl, hRt c, tp, by omega, hpo, h16, fun q1 G1 c4 hd1 tp4 => ?_⟩
      walk_at "put!"
      refine ws_mid (fun Γ' M2 => ∃ (G : Mem) (q : Addr) (c : Cell) (o : Option D), DictT G q ∧ Tape (40000 + 100 * j + 50) c ∧ Γ' = ([("_law_script", some (.slst (ns.map .int))), ("_law_k", some (.int (0 + (i : Int)))), ("_law_tape_here", some (.ref t)), ("_law_works_here", some (.lst (ws.map W.d))), ("_law_number_here", some (natD n)), ("_law_great", some (.bl (decide (150 < (sz : Int))))), ("_law_own", some (.ref po)), ("_law_many_here", some (natD w.length)), ("_law_plan_here", some (.ref p)), ("_law_things", some (.lst [.ref p, .ref p1, .lst [], .non, .tup [], .int 0, .bl true, .str "", .lst [.ref p], .lst (sk.map natD), .ref p2])), ("_law_turn", some (.int (0 + (j : Int)))), ("_law_thing", some (.ref q)), ("_law_fewer", o), ("_law_one", oc), ("_law_kept", od), ("_law_found", oe), ("_law_box", none)] : VEnv) ∧ M2 = G ++ (p, .dK pl.kv) :: R c) (ws_if ?_) ?_
      · walk_at "run"
        refine ⟨t, 3, _, c4, _, rfl, At.app (.there (hRt c4)) G1, tp4, by omega, by omega, by omega, fun r5 c5 a5 b5 tp5 => ?_⟩
        walk_at "run"
        refine ite_d (fun h0 => ?_) (fun h0 => wss_nil ⟨G1, q1, c5, _, hd1, tp5.mono (by omega), rfl, rfl⟩)
        walk_at "set"
        refine we_gc ?_
        walk_at "e1"
        walk_at "a1"
        refine we_lock (At.app .here G1) fun od us => ?_
        refine we_stP [("_law_box", 16)] ["_law_box", "_law_plan_here", "_law_tape_here"] [] ["_law_draw"] bod (by decide +kernel) (by walk_at "mem") (by walk_at "wiped") ?_
        refine wi_keys ?_
        walk_at "run"
        refine ⟨p, od, us, pl.kv, _, rfl, At.app .here G1, fun i acc M' => ∃ (pl' : Pl) (c' : Cell), pl'.Sublist (pl.take i) ∧ acc = pl'.map (fun q => D.tup [natD q.1, nlD q.2]) ∧ Tape (40000 + 100 * j + 12 + i) c' ∧ M' = G1 ++ (p, .fzK od us pl.kv) :: R c', ⟨[], c5, List.nil_sublist _, rfl, tp5.mono (by omega), rfl⟩, ?_, ?_, ?_⟩
        · rintro i acc M' L ⟨pl', c', _, _, _, rfl⟩
          exact ⟨_, .there (At.app .here G1)⟩
        · rintro i d acc M' hx ⟨pl', c', hsub, rfl, tp6, rfl⟩
          rw [List.getElem?_map] at hx
          obtain ⟨kv, hkv, rfl⟩ := Option.map_eq_some_iff.mp hx
          unfold Pl.kv at hkv
          rw [List.getElem?_map] at hkv
          obtain ⟨q, hq, rfl⟩ := Option.map_eq_some_iff.mp hkv
          have hqm := List.mem_of_getElem? hq
          have hlt := (List.getElem?_eq_some_iff.mp hq).1
          have hlen := hsub.length_le
          rw [List.length_take] at hlen
          refine ⟨_, by walk_at "put", fun X1 inn L => ?_⟩
          have st1 := inn.st
          have g1 := inn.tr d3
          have rm1 := inn.rm rm
          walk_at "run"
          refine ⟨t, 4, _, c', _, rfl, .there (At.app (.there (hRt c')) G1), tp6, by omega, by omega, by omega, fun r7 c7 a7 b7 tp7 => ?_⟩
          walk_at "run"
          refine ⟨_, rfl, ?_⟩
          refine ite_d (fun h => ?_) (fun h => ?_)
          · refine ⟨szlt (by rw [List.length_map]; omega), fun X2 inn2 => ?_⟩
            have st2 := inn2.st
            refine we_tup ?_
            walk_at "a1"
            walk_at "e1"
            walk_at "a1"
            refine we_dix st2 ?_
            walk_at "run"
            refine ⟨nlD q.2, by rw [← Pl.at hpo.nd hqm]; exact GetD.fzK (.there (At.app .here G1)), ?_⟩
            walk_at "run"
            refine ⟨rfl, pl' ++ [q], c7, ?_, by rw [List.map_append]; rfl, tp7.mono (by omega), rfl⟩
            rw [List.take_add_one, hq]
            exact hsub.append (List.Sublist.refl _)
          · exact ⟨pl', c7, hsub.trans (by rw [List.take_add_one]; exact List.sublist_append_left _ _), rfl, tp7.mono (by omega), rfl⟩
        · rintro acc M' ⟨pl', c6, hsub, rfl, tp6, rfl⟩ pq
          rw [List.length_map, show pl.kv.length = pl.length from List.length_map .., List.take_length] at *
          have hpo' : PlOk w.length pl' := ⟨hpo.nd.sublist (hsub.map _), fun q hq => hpo.box q (hsub.subset hq), fun q hq => hpo.up q (hsub.subset hq), fun q hq => hpo.lt q (hsub.subset hq)⟩
          refine ⟨_, .there (At.app .here G1), ?_⟩
          refine wa_nil ?_
          refine cd_dictP (ps := pl'.kv) st (by rw [show (pl'.kv.map fun p => D.tup [kD p.1, p.2]) = pl'.map fun q => D.tup [natD q.1, nlD q.2] from by unfold Pl.kv; rw [List.map_map]; rfl]; exact isR_ref .here) fun pf => ?_
          rw [mergeA_new _ _ (nd_map hpo'.nd) (by simp), List.nil_append]
          refine ⟨[(pq, _)], _, .swap _ _ _, ?_⟩
          walk_at "put!"
          walk_at "set"
          walk_at "run"
          refine ⟨t, _, w.length, c6, _, pl', pf, _, rfl, rfl, At.app (.there (hRt c6)) G1, tp6, by omega, hpo', h16, fun q2 G2 c8 hd2 tp8 => ?_⟩
          walk_at "put!"
          refine wss_nil ⟨G2 ++ (pf, .dK pl'.kv) :: G1, q2, c8, _, hd2.mid [] ((pf, .dK pl'.kv) :: G1), tp8.mono (by omega), rfl, by simp⟩
      rintro Γ' M2 ⟨G, q, c5, ob', hdq, tp5, rfl, rfl⟩
      refine wss_cons (ws_for st (wi_tup ?_))
      walk_at "run"
      refine ⟨t, 11, _, c5, _, rfl, At.app (.there (hRt c5)) G, tp5, by omega, by omega, by omega, fun r7 c7 a7 b7 tp7 => ?_⟩
      have hP : DictT (G ++ (p, .dK pl.kv) :: R c7) p := .K (At.app .here G) (nd_map hpo.nd) (by rw [show pl.kv.length = pl.length from List.length_map ..]; omega) (pl_val hpo h16 _)
      have hP1 : DictT (G ++ (p, .dK pl.kv) :: R c7) p1 := by
        rw [hRe]
        exact .K (kvs := []) (At.app (.there (.there .here)) G) (by simp) (by simp) (by simp)
      have hP2 : DictT (G ++ (p, .dK pl.kv) :: R c7) p2 := by
        rw [hRe]
        refine .K (kvs := [((Sum.inl 0 : Key), D.lst [])]) (At.app (.there .here) G) (by simp) (by simp) fun x hx => ?_
        rw [List.mem_singleton.mp hx]
        exact ⟨.inl ⟨0, rfl, by omega, by omega⟩, .lst (by simp) (by simp)⟩
      have hth : ∃ e, atI [D.ref p, .ref p1, .lst [], .non, .tup [], .int 0, .bl true, .str "", .lst [.ref p], .lst (sk.map natD), .ref p2] r7 = some e ∧ ThV (G ++ (p, .dK pl.kv) :: R c7) e := by
        rcases (by omega : r7 = 0 ∨ r7 = 1 ∨ r7 = 2 ∨ r7 = 3 ∨ r7 = 4 ∨ r7 = 5 ∨ r7 = 6 ∨ r7 = 7 ∨ r7 = 8 ∨ r7 = 9 ∨ r7 = 10) with h | h | h | h | h | h | h | h | h | h | h <;> subst h
        · exact ⟨_, rfl, .dict hP⟩
        · exact ⟨_, rfl, .dict hP1⟩
        · exact ⟨_, rfl, .other (.lst isL_lst) (by decide +kernel) (.lst .nil) ((shb_c (by decide +kernel)).mono (by omega) (by omega))⟩
        · exact ⟨_, rfl, .other .non (by decide +kernel) .non ((shb_c (by decide +kernel)).mono (by omega) (by omega))⟩
        · exact ⟨_, rfl, .other (.tup _) (by decide +kernel) (.tup .nil) ((shb_c (by decide +kernel)).mono (by omega) (by omega))⟩
        · exact ⟨_, rfl, .other (.int _) (by decide +kernel) (.int _) ((shb_c (by decide +kernel)).mono (by omega) (by omega))⟩
        · exact ⟨_, rfl, .other (.bl _) (by decide +kernel) (.bl _) ((shb_c (by decide +kernel)).mono (by omega) (by omega))⟩
        · exact ⟨_, rfl, .other (.str _) (by decide +kernel) (.str _) ((shb_c (by decide +kernel)).mono (by omega) (by omega))⟩
        · exact ⟨_, rfl, .other (.lst isL_lst) (by decide +kernel) (.lst (.cons (Pl.pyx (At.app .here G)) .nil)) ((ShB.list (dep := 2) (n := 300) (k := 301) (fun x hx => by rw [List.mem_singleton.mp hx]; exact shb_plan hpo h16) (by simp)).mono (by omega) (by omega))⟩
        · refine ⟨_, rfl, .other (.lst isL_lst) (by decide +kernel) (.lst (PyXs.of_map (g := natP) fun k _ => .int _)) (ShB.list (dep := 3) (n := 7) (fun x hx => ?_) (by rw [List.length_map]; omega))⟩
          obtain ⟨k, hk, rfl⟩ := List.mem_map.mp hx
          obtain ⟨b, hb, rfl⟩ := List.mem_map.mp (hsp.mem_iff.mp hk)
          exact shb_z (by omega) (by have := hpo.box b hb; omega)
        · exact ⟨_, rfl, .dict hP2⟩
      obtain ⟨e, ee, hthe⟩ := hth
      refine ⟨_, _, rfl, IxD.list isR_lst ee, ?_⟩
      walk_at "run"
      have hthq : ThV (G ++ (p, .dK pl.kv) :: R c7) (.ref q) := .dict (hdq.mid [] _)
      have hpoAt : ∃ g, At po (G ++ (p, .dK pl.kv) :: R c7) (.dK (ownL ws n w).kv) g := by
        rw [hRe]
        exact ⟨_, At.app (.there (.there (.there .here))) G⟩
      obtain ⟨g, hpoAt⟩ := hpoAt
      refine ⟨_, rfl, fun i2 Γ' M3 => ∃ oc od oe : Option D, M3 = G ++ (p, .dK pl.kv) :: R c7 ∧ Γ' = ([("_law_script", some (.slst (ns.map .int))), ("_law_k", some (.int (0 + (i : Int)))), ("_law_tape_here", some (.ref t)), ("_law_works_here", some (.lst (ws.map W.d))), ("_law_number_here", some (natD n)), ("_law_great", some (.bl (decide (150 < (sz : Int))))), ("_law_own", some (.ref po)), ("_law_many_here", some (natD w.length)), ("_law_plan_here", some (.ref p)), ("_law_things", some (.lst [.ref p, .ref p1, .lst [], .non, .tup [], .int 0, .bl true, .str "", .lst [.ref p], .lst (sk.map natD), .ref p2])), ("_law_turn", some (.int (0 + (j : Int)))), ("_law_thing", some (.ref q)), ("_law_fewer", ob'), ("_law_one", oc), ("_law_kept", od), ("_law_found", oe), ("_law_box", none)] : VEnv), ⟨_, _, _, rfl, rfl⟩, fun _ _ _ _ => trivial, ?_, ?_⟩
      · rintro i2 d Γ' M3 hx ⟨oc, od, oe, rfl, rfl⟩
        have hd : ThV (G ++ (p, .dK pl.kv) :: R c7) d := by
          have := List.mem_of_getElem? hx
          simp only [List.mem_cons, List.not_mem_nil, or_false] at this
          rcases this with rfl | rfl
          · exact hthq
          · exact hthe
        obtain ⟨s, hs⟩ := hd.shows st hsy
        obtain ⟨b, hb⟩ := hd.ask ws n w
        refine wg_name st (by walk_at "mem") (by walk_at "put") ?_
        walk_at "set"
        walk_at "run"
        refine hs _ ?_
        walk_at "put!"
        walk_at "set"
        walk_at "run"
        refine ask_plan hf hw hb ?_
        walk_at "put!"
        refine wss_cons (ws_if ?_)
        walk_at "run"
        refine we_isA st (by walk_at "mem") (by walk_at "mem") bt_bool ?_
        walk_at "run"
        refine ⟨"bool", true, .bl _, by decide +kernel, ?_⟩
        walk_at "run"
        rw [Bool.not_true]
        walk_at "run"
        refine hs _ ?_
        walk_at "run"
        refine ite_n (fun h => absurd rfl h) (fun _ => ?_)
        refine wss_nil ?_
        refine wss_cons (ws_if ?_)
        walk_at "run"
        refine ask_mine (ws := ws) (n := n) hpoAt h16 hb ?_
        walk_at "run"
        refine od_neB st ?_
        refine ⟨_, rfl, ?_⟩
        rw [show (!(b == b)) = false from by cases b <;> rfl]
        rw [if_neg Bool.false_ne_true]
        refine wss_nil ?_
        exact wss_nil ⟨_, _, _, rfl, rfl⟩
      · rintro Γ' M3 ⟨oc, od, oe, rfl, rfl⟩
        refine wss_gc (G := G) (.refl _) ?_
        exact wss_nil ⟨c7, _, _, _, _, _, _, tp7.mono (by omega), rfl, rfl⟩
    · rintro Γ' M2 ⟨c, o9, oa, ob, oc, od, oe, tp, rfl, rfl⟩
      exact ⟨_, _, _, _, _, _, _, _, _, _, _, _, _, _, _, rfl⟩
  · rintro Γ' M' ⟨o0, o1, o2, o3, o4, o5, o6, o7, o8, o9, oa, ob, oc, od, oe, rfl⟩
    walk_at "ret"
    walk_at "run"
    exact hQ _
end
end Gen

namespace Gen
open PySem L2 DL Wk PyProof.Rows

theorem all_mk {l : PySem.W.OpenLaw} {w : World} {K : PySem.W.Frag} {h : Heap} {mg : Str → Option Value} {fa f1 f2 f3 f4 f5 f6 f7 f8 f9 f10 f11 f12 f13 f14 f15 f16 f17 f18 f19 f20 f21 f22 f23 f24 f25 f26 f27 f28 f29 f30 f31 f32 f33 f34 f35 f36 f37 f38 f39 f40 : Addr} (X : K.In h) (G : h.Ns mainGlobals mg) (hfa : mg "law" = some (.ref fa))
    {od1 an1 od2 an2 od3 an3 od4 an4 od5 an5 od6 an6 od7 an7 od8 an8 od9 an9 od10 an10 od11 an11 od12 an12 od13 an13 od14 an14 od15 an15 od16 an16 od17 an17 od18 an18 od19 an19 od20 an20 od21 an21 od22 an22 od23 an23 od24 an24 od25 an25 od26 an26 od27 an27 od28 an28 od29 an29 od30 an30 od31 an31 od32 an32 od33 an33 od34 an34 od35 an35 od36 an36 od37 an37 od38 an38 od39 an39 od40 an40 : Option Addr} {sl1 sl2 sl3 sl4 sl5 sl6 sl7 sl8 sl9 sl10 sl11 sl12 sl13 sl14 sl15 sl16 sl17 sl18 sl19 sl20 sl21 sl22 sl23 sl24 sl25 sl26 sl27 sl28 sl29 sl30 sl31 sl32 sl33 sl34 sl35 sl36 sl37 sl38 sl39 sl40 : Array (Option Value)} {oc1 kV1 dc1 pm1 cd1 ct1 oc2 kV2 dc2 pm2 cd2 ct2 oc3 kV3 dc3 pm3 cd3 ct3 oc4 kV4 dc4 pm4 cd4 ct4 oc5 kV5 dc5 pm5 cd5 ct5 oc6 kV6 dc6 pm6 cd6 ct6 oc7 kV7 dc7 pm7 cd7 ct7 oc8 kV8 dc8 pm8 cd8 ct8 oc9 kV9 dc9 pm9 cd9 ct9 oc10 kV10 dc10 pm10 cd10 ct10 oc11 kV11 dc11 pm11 cd11 ct11 oc12 kV12 dc12 pm12 cd12 ct12 oc13 kV13 dc13 pm13 cd13 ct13 oc14 kV14 dc14 pm14 cd14 ct14 oc15 kV15 dc15 pm15 cd15 ct15 oc16 kV16 dc16 pm16 cd16 ct16 oc17 kV17 dc17 pm17 cd17 ct17 oc18 kV18 dc18 pm18 cd18 ct18 oc19 kV19 dc19 pm19 cd19 ct19 oc20 kV20 dc20 pm20 cd20 ct20 oc21 kV21 dc21 pm21 cd21 ct21 oc22 kV22 dc22 pm22 cd22 ct22 oc23 kV23 dc23 pm23 cd23 ct23 oc24 kV24 dc24 pm24 cd24 ct24 oc25 kV25 dc25 pm25 cd25 ct25 oc26 kV26 dc26 pm26 cd26 ct26 oc27 kV27 dc27 pm27 cd27 ct27 oc28 kV28 dc28 pm28 cd28 ct28 oc29 kV29 dc29 pm29 cd29 ct29 oc30 kV30 dc30 pm30 cd30 ct30 oc31 kV31 dc31 pm31 cd31 ct31 oc32 kV32 dc32 pm32 cd32 ct32 oc33 kV33 dc33 pm33 cd33 ct33 oc34 kV34 dc34 pm34 cd34 ct34 oc35 kV35 dc35 pm35 cd35 ct35 oc36 kV36 dc36 pm36 cd36 ct36 oc37 kV37 dc37 pm37 cd37 ct37 oc38 kV38 dc38 pm38 cd38 ct38 oc39 kV39 dc39 pm39 cd39 ct39 oc40 kV40 dc40 pm40 cd40 ct40 : Value}
    (a1 : PySem.W.nsIn K mainGlobals "is_whole" = some (some (.ref f1))) (l1 : K.lookup f1 = some ⟨oc1, od1, .func (PySem.W.fnOf "is_whole" "is_whole" (defArgs sis_whole) (defBody sis_whole) (defScope sis_whole) .none kV1 dc1 pm1 an1 cd1 ct1), sl1⟩) (c1 : PySem.W.codeIn K cd1 "is_whole" = true) (k1 : PySem.W.keepIn K (.ref f1) = true)
    (a2 : PySem.W.nsIn K mainGlobals "is_among" = some (some (.ref f2))) (l2 : K.lookup f2 = some ⟨oc2, od2, .func (PySem.W.fnOf "is_among" "is_among" (defArgs sis_among) (defBody sis_among) (defScope sis_among) .none kV2 dc2 pm2 an2 cd2 ct2), sl2⟩) (c2 : PySem.W.codeIn K cd2 "is_among" = true) (k2 : PySem.W.keepIn K (.ref f2) = true)
    (a3 : PySem.W.nsIn K mainGlobals "nexts_of" = some (some (.ref f3))) (l3 : K.lookup f3 = some ⟨oc3, od3, .func (PySem.W.fnOf "nexts_of" "nexts_of" (defArgs snexts_of) (defBody snexts_of) (defScope snexts_of) .none kV3 dc3 pm3 an3 cd3 ct3), sl3⟩) (c3 : PySem.W.codeIn K cd3 "nexts_of" = true) (k3 : PySem.W.keepIn K (.ref f3) = true)
    (a4 : PySem.W.nsIn K mainGlobals "come_to" = some (some (.ref f4))) (l4 : K.lookup f4 = some ⟨oc4, od4, .func (PySem.W.fnOf "come_to" "come_to" (defArgs scome_to) (defBody scome_to) (defScope scome_to) .none kV4 dc4 pm4 an4 cd4 ct4), sl4⟩) (c4 : PySem.W.codeIn K cd4 "come_to" = true) (k4 : PySem.W.keepIn K (.ref f4) = true)
    (a5 : PySem.W.nsIn K mainGlobals "boxes_written" = some (some (.ref f5))) (l5 : K.lookup f5 = some ⟨oc5, od5, .func (PySem.W.fnOf "boxes_written" "boxes_written" (defArgs sboxes_written) (defBody sboxes_written) (defScope sboxes_written) .none kV5 dc5 pm5 an5 cd5 ct5), sl5⟩) (c5 : PySem.W.codeIn K cd5 "boxes_written" = true) (k5 : PySem.W.keepIn K (.ref f5) = true)
    (a6 : PySem.W.nsIn K mainGlobals "boxes_in" = some (some (.ref f6))) (l6 : K.lookup f6 = some ⟨oc6, od6, .func (PySem.W.fnOf "boxes_in" "boxes_in" (defArgs sboxes_in) (defBody sboxes_in) (defScope sboxes_in) .none kV6 dc6 pm6 an6 cd6 ct6), sl6⟩) (c6 : PySem.W.codeIn K cd6 "boxes_in" = true) (k6 : PySem.W.keepIn K (.ref f6) = true)
    (a7 : PySem.W.nsIn K mainGlobals "boxes_read" = some (some (.ref f7))) (l7 : K.lookup f7 = some ⟨oc7, od7, .func (PySem.W.fnOf "boxes_read" "boxes_read" (defArgs sboxes_read) (defBody sboxes_read) (defScope sboxes_read) .none kV7 dc7 pm7 an7 cd7 ct7), sl7⟩) (c7 : PySem.W.codeIn K cd7 "boxes_read" = true) (k7 : PySem.W.keepIn K (.ref f7) = true)
    (a8 : PySem.W.nsIn K mainGlobals "first_touch" = some (some (.ref f8))) (l8 : K.lookup f8 = some ⟨oc8, od8, .func (PySem.W.fnOf "first_touch" "first_touch" (defArgs sfirst_touch) (defBody sfirst_touch) (defScope sfirst_touch) .none kV8 dc8 pm8 an8 cd8 ct8), sl8⟩) (c8 : PySem.W.codeIn K cd8 "first_touch" = true) (k8 : PySem.W.keepIn K (.ref f8) = true)
    (a9 : PySem.W.nsIn K mainGlobals "backwards" = some (some (.ref f9))) (l9 : K.lookup f9 = some ⟨oc9, od9, .func (PySem.W.fnOf "backwards" "backwards" (defArgs sbackwards) (defBody sbackwards) (defScope sbackwards) .none kV9 dc9 pm9 an9 cd9 ct9), sl9⟩) (c9 : PySem.W.codeIn K cd9 "backwards" = true) (k9 : PySem.W.keepIn K (.ref f9) = true)
    (a10 : PySem.W.nsIn K mainGlobals "awaiting" = some (some (.ref f10))) (l10 : K.lookup f10 = some ⟨oc10, od10, .func (PySem.W.fnOf "awaiting" "awaiting" (defArgs sawaiting) (defBody sawaiting) (defScope sawaiting) .none kV10 dc10 pm10 an10 cd10 ct10), sl10⟩) (c10 : PySem.W.codeIn K cd10 "awaiting" = true) (k10 : PySem.W.keepIn K (.ref f10) = true)
    (a11 : PySem.W.nsIn K mainGlobals "asked_by" = some (some (.ref f11))) (l11 : K.lookup f11 = some ⟨oc11, od11, .func (PySem.W.fnOf "asked_by" "asked_by" (defArgs sasked_by) (defBody sasked_by) (defScope sasked_by) .none kV11 dc11 pm11 an11 cd11 ct11), sl11⟩) (c11 : PySem.W.codeIn K cd11 "asked_by" = true) (k11 : PySem.W.keepIn K (.ref f11) = true)
    (a12 : PySem.W.nsIn K mainGlobals "awaited" = some (some (.ref f12))) (l12 : K.lookup f12 = some ⟨oc12, od12, .func (PySem.W.fnOf "awaited" "awaited" (defArgs sawaited) (defBody sawaited) (defScope sawaited) .none kV12 dc12 pm12 an12 cd12 ct12), sl12⟩) (c12 : PySem.W.codeIn K cd12 "awaited" = true) (k12 : PySem.W.keepIn K (.ref f12) = true)
    (a13 : PySem.W.nsIn K mainGlobals "writing" = some (some (.ref f13))) (l13 : K.lookup f13 = some ⟨oc13, od13, .func (PySem.W.fnOf "writing" "writing" (defArgs swriting) (defBody swriting) (defScope swriting) .none kV13 dc13 pm13 an13 cd13 ct13), sl13⟩) (c13 : PySem.W.codeIn K cd13 "writing" = true) (k13 : PySem.W.keepIn K (.ref f13) = true)
    (a14 : PySem.W.nsIn K mainGlobals "reached" = some (some (.ref f14))) (l14 : K.lookup f14 = some ⟨oc14, od14, .func (PySem.W.fnOf "reached" "reached" (defArgs sreached) (defBody sreached) (defScope sreached) .none kV14 dc14 pm14 an14 cd14 ct14), sl14⟩) (c14 : PySem.W.codeIn K cd14 "reached" = true) (k14 : PySem.W.keepIn K (.ref f14) = true)
    (a15 : PySem.W.nsIn K mainGlobals "busy" = some (some (.ref f15))) (l15 : K.lookup f15 = some ⟨oc15, od15, .func (PySem.W.fnOf "busy" "busy" (defArgs sbusy) (defBody sbusy) (defScope sbusy) .none kV15 dc15 pm15 an15 cd15 ct15), sl15⟩) (c15 : PySem.W.codeIn K cd15 "busy" = true) (k15 : PySem.W.keepIn K (.ref f15) = true)
    (a16 : PySem.W.nsIn K mainGlobals "is_rising" = some (some (.ref f16))) (l16 : K.lookup f16 = some ⟨oc16, od16, .func (PySem.W.fnOf "is_rising" "is_rising" (defArgs sis_rising) (defBody sis_rising) (defScope sis_rising) .none kV16 dc16 pm16 an16 cd16 ct16), sl16⟩) (c16 : PySem.W.codeIn K cd16 "is_rising" = true) (k16 : PySem.W.keepIn K (.ref f16) = true)
    (a17 : PySem.W.nsIn K mainGlobals "is_inside" = some (some (.ref f17))) (l17 : K.lookup f17 = some ⟨oc17, od17, .func (PySem.W.fnOf "is_inside" "is_inside" (defArgs sis_inside) (defBody sis_inside) (defScope sis_inside) .none kV17 dc17 pm17 an17 cd17 ct17), sl17⟩) (c17 : PySem.W.codeIn K cd17 "is_inside" = true) (k17 : PySem.W.keepIn K (.ref f17) = true)
    (a18 : PySem.W.nsIn K mainGlobals "is_plan" = some (some (.ref f18))) (l18 : K.lookup f18 = some ⟨oc18, od18, .func (PySem.W.fnOf "is_plan" "is_plan" (defArgs sis_plan) (defBody sis_plan) (defScope sis_plan) .none kV18 dc18 pm18 an18 cd18 ct18), sl18⟩) (c18 : PySem.W.codeIn K cd18 "is_plan" = true) (k18 : PySem.W.keepIn K (.ref f18) = true)
    (a19 : PySem.W.nsIn K mainGlobals "_law_tape" = some (some (.ref f19))) (l19 : K.lookup f19 = some ⟨oc19, od19, .func (PySem.W.fnOf "_law_tape" "_law_tape" (defArgs s_law_tape) (defBody s_law_tape) (defScope s_law_tape) .none kV19 dc19 pm19 an19 cd19 ct19), sl19⟩) (c19 : PySem.W.codeIn K cd19 "_law_tape" = true) (k19 : PySem.W.keepIn K (.ref f19) = true)
    (a20 : PySem.W.nsIn K mainGlobals "_law_draw" = some (some (.ref f20))) (l20 : K.lookup f20 = some ⟨oc20, od20, .func (PySem.W.fnOf "_law_draw" "_law_draw" (defArgs s_law_draw) (defBody s_law_draw) (defScope s_law_draw) .none kV20 dc20 pm20 an20 cd20 ct20), sl20⟩) (c20 : PySem.W.codeIn K cd20 "_law_draw" = true) (k20 : PySem.W.keepIn K (.ref f20) = true)
    (a21 : PySem.W.nsIn K mainGlobals "_law_nexts" = some (some (.ref f21))) (l21 : K.lookup f21 = some ⟨oc21, od21, .func (PySem.W.fnOf "_law_nexts" "_law_nexts" (defArgs s_law_nexts) (defBody s_law_nexts) (defScope s_law_nexts) .none kV21 dc21 pm21 an21 cd21 ct21), sl21⟩) (c21 : PySem.W.codeIn K cd21 "_law_nexts" = true) (k21 : PySem.W.keepIn K (.ref f21) = true)
    (a22 : PySem.W.nsIn K mainGlobals "_law_number" = some (some (.ref f22))) (l22 : K.lookup f22 = some ⟨oc22, od22, .func (PySem.W.fnOf "_law_number" "_law_number" (defArgs s_law_number) (defBody s_law_number) (defScope s_law_number) .none kV22 dc22 pm22 an22 cd22 ct22), sl22⟩) (c22 : PySem.W.codeIn K cd22 "_law_number" = true) (k22 : PySem.W.keepIn K (.ref f22) = true)
    (a23 : PySem.W.nsIn K mainGlobals "_law_deeds" = some (some (.ref f23))) (l23 : K.lookup f23 = some ⟨oc23, od23, .func (PySem.W.fnOf "_law_deeds" "_law_deeds" (defArgs s_law_deeds) (defBody s_law_deeds) (defScope s_law_deeds) .none kV23 dc23 pm23 an23 cd23 ct23), sl23⟩) (c23 : PySem.W.codeIn K cd23 "_law_deeds" = true) (k23 : PySem.W.keepIn K (.ref f23) = true)
    (a24 : PySem.W.nsIn K mainGlobals "_law_work" = some (some (.ref f24))) (l24 : K.lookup f24 = some ⟨oc24, od24, .func (PySem.W.fnOf "_law_work" "_law_work" (defArgs s_law_work) (defBody s_law_work) (defScope s_law_work) .none kV24 dc24 pm24 an24 cd24 ct24), sl24⟩) (c24 : PySem.W.codeIn K cd24 "_law_work" = true) (k24 : PySem.W.keepIn K (.ref f24) = true)
    (a25 : PySem.W.nsIn K mainGlobals "_law_many" = some (some (.ref f25))) (l25 : K.lookup f25 = some ⟨oc25, od25, .func (PySem.W.fnOf "_law_many" "_law_many" (defArgs s_law_many) (defBody s_law_many) (defScope s_law_many) .none kV25 dc25 pm25 an25 cd25 ct25), sl25⟩) (c25 : PySem.W.codeIn K cd25 "_law_many" = true) (k25 : PySem.W.keepIn K (.ref f25) = true)
    (a26 : PySem.W.nsIn K mainGlobals "_law_size" = some (some (.ref f26))) (l26 : K.lookup f26 = some ⟨oc26, od26, .func (PySem.W.fnOf "_law_size" "_law_size" (defArgs s_law_size) (defBody s_law_size) (defScope s_law_size) .none kV26 dc26 pm26 an26 cd26 ct26), sl26⟩) (c26 : PySem.W.codeIn K cd26 "_law_size" = true) (k26 : PySem.W.keepIn K (.ref f26) = true)
    (a27 : PySem.W.nsIn K mainGlobals "_law_slim" = some (some (.ref f27))) (l27 : K.lookup f27 = some ⟨oc27, od27, .func (PySem.W.fnOf "_law_slim" "_law_slim" (defArgs s_law_slim) (defBody s_law_slim) (defScope s_law_slim) .none kV27 dc27 pm27 an27 cd27 ct27), sl27⟩) (c27 : PySem.W.codeIn K cd27 "_law_slim" = true) (k27 : PySem.W.keepIn K (.ref f27) = true)
    (a28 : PySem.W.nsIn K mainGlobals "_law_works" = some (some (.ref f28))) (l28 : K.lookup f28 = some ⟨oc28, od28, .func (PySem.W.fnOf "_law_works" "_law_works" (defArgs s_law_works) (defBody s_law_works) (defScope s_law_works) .none kV28 dc28 pm28 an28 cd28 ct28), sl28⟩) (c28 : PySem.W.codeIn K cd28 "_law_works" = true) (k28 : PySem.W.keepIn K (.ref f28) = true)
    (a29 : PySem.W.nsIn K mainGlobals "_law_ends" = some (some (.ref f29))) (l29 : K.lookup f29 = some ⟨oc29, od29, .func (PySem.W.fnOf "_law_ends" "_law_ends" (defArgs s_law_ends) (defBody s_law_ends) (defScope s_law_ends) .none kV29 dc29 pm29 an29 cd29 ct29), sl29⟩) (c29 : PySem.W.codeIn K cd29 "_law_ends" = true) (k29 : PySem.W.keepIn K (.ref f29) = true)
    (a30 : PySem.W.nsIn K mainGlobals "_law_reads" = some (some (.ref f30))) (l30 : K.lookup f30 = some ⟨oc30, od30, .func (PySem.W.fnOf "_law_reads" "_law_reads" (defArgs s_law_reads) (defBody s_law_reads) (defScope s_law_reads) .none kV30 dc30 pm30 an30 cd30 ct30), sl30⟩) (c30 : PySem.W.codeIn K cd30 "_law_reads" = true) (k30 : PySem.W.keepIn K (.ref f30) = true)
    (a31 : PySem.W.nsIn K mainGlobals "_law_writes" = some (some (.ref f31))) (l31 : K.lookup f31 = some ⟨oc31, od31, .func (PySem.W.fnOf "_law_writes" "_law_writes" (defArgs s_law_writes) (defBody s_law_writes) (defScope s_law_writes) .none kV31 dc31 pm31 an31 cd31 ct31), sl31⟩) (c31 : PySem.W.codeIn K cd31 "_law_writes" = true) (k31 : PySem.W.keepIn K (.ref f31) = true)
    (a32 : PySem.W.nsIn K mainGlobals "_law_is_asked" = some (some (.ref f32))) (l32 : K.lookup f32 = some ⟨oc32, od32, .func (PySem.W.fnOf "_law_is_asked" "_law_is_asked" (defArgs s_law_is_asked) (defBody s_law_is_asked) (defScope s_law_is_asked) .none kV32 dc32 pm32 an32 cd32 ct32), sl32⟩) (c32 : PySem.W.codeIn K cd32 "_law_is_asked" = true) (k32 : PySem.W.keepIn K (.ref f32) = true)
    (a33 : PySem.W.nsIn K mainGlobals "_law_behind" = some (some (.ref f33))) (l33 : K.lookup f33 = some ⟨oc33, od33, .func (PySem.W.fnOf "_law_behind" "_law_behind" (defArgs s_law_behind) (defBody s_law_behind) (defScope s_law_behind) .none kV33 dc33 pm33 an33 cd33 ct33), sl33⟩) (c33 : PySem.W.codeIn K cd33 "_law_behind" = true) (k33 : PySem.W.keepIn K (.ref f33) = true)
    (a34 : PySem.W.nsIn K mainGlobals "_law_busy" = some (some (.ref f34))) (l34 : K.lookup f34 = some ⟨oc34, od34, .func (PySem.W.fnOf "_law_busy" "_law_busy" (defArgs s_law_busy) (defBody s_law_busy) (defScope s_law_busy) .none kV34 dc34 pm34 an34 cd34 ct34), sl34⟩) (c34 : PySem.W.codeIn K cd34 "_law_busy" = true) (k34 : PySem.W.keepIn K (.ref f34) = true)
    (a35 : PySem.W.nsIn K mainGlobals "_law_boxes" = some (some (.ref f35))) (l35 : K.lookup f35 = some ⟨oc35, od35, .func (PySem.W.fnOf "_law_boxes" "_law_boxes" (defArgs s_law_boxes) (defBody s_law_boxes) (defScope s_law_boxes) .none kV35 dc35 pm35 an35 cd35 ct35), sl35⟩) (c35 : PySem.W.codeIn K cd35 "_law_boxes" = true) (k35 : PySem.W.keepIn K (.ref f35) = true)
    (a36 : PySem.W.nsIn K mainGlobals "_law_plan" = some (some (.ref f36))) (l36 : K.lookup f36 = some ⟨oc36, od36, .func (PySem.W.fnOf "_law_plan" "_law_plan" (defArgs s_law_plan) (defBody s_law_plan) (defScope s_law_plan) .none kV36 dc36 pm36 an36 cd36 ct36), sl36⟩) (c36 : PySem.W.codeIn K cd36 "_law_plan" = true) (k36 : PySem.W.keepIn K (.ref f36) = true)
    (a37 : PySem.W.nsIn K mainGlobals "_law_whole" = some (some (.ref f37))) (l37 : K.lookup f37 = some ⟨oc37, od37, .func (PySem.W.fnOf "_law_whole" "_law_whole" (defArgs s_law_whole) (defBody s_law_whole) (defScope s_law_whole) .none kV37 dc37 pm37 an37 cd37 ct37), sl37⟩) (c37 : PySem.W.codeIn K cd37 "_law_whole" = true) (k37 : PySem.W.keepIn K (.ref f37) = true)
    (a38 : PySem.W.nsIn K mainGlobals "_law_is_plan" = some (some (.ref f38))) (l38 : K.lookup f38 = some ⟨oc38, od38, .func (PySem.W.fnOf "_law_is_plan" "_law_is_plan" (defArgs s_law_is_plan) (defBody s_law_is_plan) (defScope s_law_is_plan) .none kV38 dc38 pm38 an38 cd38 ct38), sl38⟩) (c38 : PySem.W.codeIn K cd38 "_law_is_plan" = true) (k38 : PySem.W.keepIn K (.ref f38) = true)
    (a39 : PySem.W.nsIn K mainGlobals "_law_bent" = some (some (.ref f39))) (l39 : K.lookup f39 = some ⟨oc39, od39, .func (PySem.W.fnOf "_law_bent" "_law_bent" (defArgs s_law_bent) (defBody s_law_bent) (defScope s_law_bent) .none kV39 dc39 pm39 an39 cd39 ct39), sl39⟩) (c39 : PySem.W.codeIn K cd39 "_law_bent" = true) (k39 : PySem.W.keepIn K (.ref f39) = true)
    (a40 : PySem.W.nsIn K mainGlobals "law" = some (some (.ref f40))) (l40 : K.lookup f40 = some ⟨oc40, od40, .func (PySem.W.fnOf "law" "law" (defArgs slaw) (defBody slaw) (defScope slaw) .none kV40 dc40 pm40 an40 cd40 ct40), sl40⟩) (c40 : PySem.W.codeIn K cd40 "law" = true) (k40 : PySem.W.keepIn K (.ref f40) = true)
    (z0 : PySem.W.nsIn K mainGlobals "isinstance" = some none)
    (z1 : PySem.W.nsIn K mainGlobals "int" = some none)
    (z2 : PySem.W.nsIn K mainGlobals "bool" = some none)
    (z3 : PySem.W.nsIn K mainGlobals "list" = some none)
    (z4 : PySem.W.nsIn K mainGlobals "dict" = some none)
    (z5 : PySem.W.nsIn K mainGlobals "len" = some none)
    (z6 : PySem.W.nsIn K mainGlobals "sorted" = some none)
    (z7 : PySem.W.nsIn K mainGlobals "range" = some none)
    (z8 : PySem.W.nsIn K mainGlobals "enumerate" = some none)
    (z9 : PySem.W.nsIn K mainGlobals "all" = some none)
    (z10 : PySem.W.nsIn K mainGlobals "abs" = some none)
    (z11 : PySem.W.nsIn K mainGlobals "max" = some none)
    (z12 : PySem.W.nsIn K mainGlobals "sum" = some none)
    (z13 : PySem.W.nsIn K mainGlobals "any" = some none)
    (z14 : PySem.W.nsIn K mainGlobals "set" = some none)
    (z15 : PySem.W.nsIn K mainGlobals "tuple" = some none)
    (z16 : PySem.W.nsIn K mainGlobals "min" = some none)
    (z17 : PySem.W.nsIn K mainGlobals "repr" = some none)
    : ∃ fd : FuncData, (∀ (s : Shared) (v : Value), BindsTo s fd ⟨[v], []⟩ [("_law_script", v)]) ∧ ∀ base : Heap, K.In base → base.Ns mainGlobals mg → (∃ mm, base.Ns sysModules mm) → GOk l.prog w K mg base 9 fa fd ["_law_script"] (spD K 1 splaw) := by
  have e := hfa.symm.trans (PySem.W.mg_of X G a40)
  cases e
  have F1 := fun_mk (st := sis_whole) l1 c1 k1
  have b1 := F1.binds (ps := ["thing"]) fun _ _ _ _ _ _ us hl => match us, hl with | [_], _ => rfl
  have F2 := fun_mk (st := sis_among) l2 c2 k2
  have b2 := F2.binds (ps := ["thing", "least", "many"]) fun _ _ _ _ _ _ us hl => match us, hl with | [_, _, _], _ => rfl
  have F3 := fun_mk (st := snexts_of) l3 c3 k3
  have b3 := F3.binds (ps := ["work"]) fun _ _ _ _ _ _ us hl => match us, hl with | [_], _ => rfl
  have F4 := fun_mk (st := scome_to) l4 c4 k4
  have b4 := F4.binds (ps := ["nexts", "begins"]) fun _ _ _ _ _ _ us hl => match us, hl with | [_, _], _ => rfl
  have F5 := fun_mk (st := sboxes_written) l5 c5 k5
  have b5 := F5.binds (ps := ["deeds"]) fun _ _ _ _ _ _ us hl => match us, hl with | [_], _ => rfl
  have F6 := fun_mk (st := sboxes_in) l6 c6 k6
  have b6 := F6.binds (ps := ["work"]) fun _ _ _ _ _ _ us hl => match us, hl with | [_], _ => rfl
  have F7 := fun_mk (st := sboxes_read) l7 c7 k7
  have b7 := F7.binds (ps := ["deed", "asked"]) fun _ _ _ _ _ _ us hl => match us, hl with | [_, _], _ => rfl
  have F8 := fun_mk (st := sfirst_touch) l8 c8 k8
  have b8 := F8.binds (ps := ["deeds", "box", "asked"]) fun _ _ _ _ _ _ us hl => match us, hl with | [_, _, _], _ => rfl
  have F9 := fun_mk (st := sbackwards) l9 c9 k9
  have b9 := F9.binds (ps := ["nexts"]) fun _ _ _ _ _ _ us hl => match us, hl with | [_], _ => rfl
  have F10 := fun_mk (st := sawaiting) l10 c10 k10
  have b10 := F10.binds (ps := ["work", "box", "asked"]) fun _ _ _ _ _ _ us hl => match us, hl with | [_, _, _], _ => rfl
  have F11 := fun_mk (st := sasked_by) l11 c11 k11
  have b11 := F11.binds (ps := ["works", "box"]) fun _ _ _ _ _ _ us hl => match us, hl with | [_, _], _ => rfl
  have F12 := fun_mk (st := sawaited) l12 c12 k12
  have b12 := F12.binds (ps := ["works", "number", "box"]) fun _ _ _ _ _ _ us hl => match us, hl with | [_, _, _], _ => rfl
  have F13 := fun_mk (st := swriting) l13 c13 k13
  have b13 := F13.binds (ps := ["work", "box"]) fun _ _ _ _ _ _ us hl => match us, hl with | [_, _], _ => rfl
  have F14 := fun_mk (st := sreached) l14 c14 k14
  have b14 := F14.binds (ps := ["works", "number", "box"]) fun _ _ _ _ _ _ us hl => match us, hl with | [_, _, _], _ => rfl
  have F15 := fun_mk (st := sbusy) l15 c15 k15
  have b15 := F15.binds (ps := ["works", "number", "box"]) fun _ _ _ _ _ _ us hl => match us, hl with | [_, _, _], _ => rfl
  have F16 := fun_mk (st := sis_rising) l16 c16 k16
  have b16 := F16.binds (ps := ["thing", "many"]) fun _ _ _ _ _ _ us hl => match us, hl with | [_, _], _ => rfl
  have F17 := fun_mk (st := sis_inside) l17 c17 k17
  have b17 := F17.binds (ps := ["works", "number", "box", "thing"]) fun _ _ _ _ _ _ us hl => match us, hl with | [_, _, _, _], _ => rfl
  have F18 := fun_mk (st := sis_plan) l18 c18 k18
  have b18 := F18.binds (ps := ["works", "number", "thing"]) fun _ _ _ _ _ _ us hl => match us, hl with | [_, _, _], _ => rfl
  have F19 := fun_mk (st := s_law_tape) l19 c19 k19
  have b19 := F19.binds (ps := ["_law_script", "_law_k"]) fun _ _ _ _ _ _ us hl => match us, hl with | [_, _], _ => rfl
  have F20 := fun_mk (st := s_law_draw) l20 c20 k20
  have b20 := F20.binds (ps := ["_law_tape_here", "_law_many_here"]) fun _ _ _ _ _ _ us hl => match us, hl with | [_, _], _ => rfl
  have F21 := fun_mk (st := s_law_nexts) l21 c21 k21
  have b21 := F21.binds (ps := ["_law_tape_here", "_law_many_here"]) fun _ _ _ _ _ _ us hl => match us, hl with | [_, _], _ => rfl
  have F22 := fun_mk (st := s_law_number) l22 c22 k22
  have b22 := F22.binds (ps := ["_law_tape_here"]) fun _ _ _ _ _ _ us hl => match us, hl with | [_], _ => rfl
  have F23 := fun_mk (st := s_law_deeds) l23 c23 k23
  have b23 := F23.binds (ps := ["_law_tape_here", "_law_most", "_law_boxes_here", "_law_first", "_law_works_here"]) fun _ _ _ _ _ _ us hl => match us, hl with | [_, _, _, _, _], _ => rfl
  have F24 := fun_mk (st := s_law_work) l24 c24 k24
  have b24 := F24.binds (ps := ["_law_tape_here", "_law_many_here", "_law_most", "_law_first", "_law_works_here"]) fun _ _ _ _ _ _ us hl => match us, hl with | [_, _, _, _, _], _ => rfl
  have F25 := fun_mk (st := s_law_many) l25 c25 k25
  have b25 := F25.binds (ps := ["_law_tape_here"]) fun _ _ _ _ _ _ us hl => match us, hl with | [_], _ => rfl
  have F26 := fun_mk (st := s_law_size) l26 c26 k26
  have b26 := F26.binds (ps := ["_law_works_here"]) fun _ _ _ _ _ _ us hl => match us, hl with | [_], _ => rfl
  have F27 := fun_mk (st := s_law_slim) l27 c27 k27
  have b27 := F27.binds (ps := ["_law_works_here"]) fun _ _ _ _ _ _ us hl => match us, hl with | [_], _ => rfl
  have F28 := fun_mk (st := s_law_works) l28 c28 k28
  have b28 := F28.binds (ps := ["_law_tape_here", "_law_most"]) fun _ _ _ _ _ _ us hl => match us, hl with | [_, _], _ => rfl
  have F29 := fun_mk (st := s_law_ends) l29 c29 k29
  have b29 := F29.binds (ps := ["_law_work_here"]) fun _ _ _ _ _ _ us hl => match us, hl with | [_], _ => rfl
  have F30 := fun_mk (st := s_law_reads) l30 c30 k30
  have b30 := F30.binds (ps := ["_law_deed", "_law_box"]) fun _ _ _ _ _ _ us hl => match us, hl with | [_, _], _ => rfl
  have F31 := fun_mk (st := s_law_writes) l31 c31 k31
  have b31 := F31.binds (ps := ["_law_work_here", "_law_box"]) fun _ _ _ _ _ _ us hl => match us, hl with | [_, _], _ => rfl
  have F32 := fun_mk (st := s_law_is_asked) l32 c32 k32
  have b32 := F32.binds (ps := ["_law_works_here", "_law_number_here", "_law_block", "_law_box"]) fun _ _ _ _ _ _ us hl => match us, hl with | [_, _, _, _], _ => rfl
  have F33 := fun_mk (st := s_law_behind) l33 c33 k33
  have b33 := F33.binds (ps := ["_law_work_here", "_law_box"]) fun _ _ _ _ _ _ us hl => match us, hl with | [_, _], _ => rfl
  have F34 := fun_mk (st := s_law_busy) l34 c34 k34
  have b34 := F34.binds (ps := ["_law_works_here", "_law_number_here", "_law_box"]) fun _ _ _ _ _ _ us hl => match us, hl with | [_, _, _], _ => rfl
  have F35 := fun_mk (st := s_law_boxes) l35 c35 k35
  have b35 := F35.binds (ps := ["_law_work_here"]) fun _ _ _ _ _ _ us hl => match us, hl with | [_], _ => rfl
  have F36 := fun_mk (st := s_law_plan) l36 c36 k36
  have b36 := F36.binds (ps := ["_law_tape_here", "_law_own", "_law_many_here"]) fun _ _ _ _ _ _ us hl => match us, hl with | [_, _, _], _ => rfl
  have F37 := fun_mk (st := s_law_whole) l37 c37 k37
  have b37 := F37.binds (ps := ["_law_thing"]) fun _ _ _ _ _ _ us hl => match us, hl with | [_], _ => rfl
  have F38 := fun_mk (st := s_law_is_plan) l38 c38 k38
  have b38 := F38.binds (ps := ["_law_own", "_law_many_here", "_law_thing"]) fun _ _ _ _ _ _ us hl => match us, hl with | [_, _, _], _ => rfl
  have F39 := fun_mk (st := s_law_bent) l39 c39 k39
  have b39 := F39.binds (ps := ["_law_tape_here", "_law_plan_here", "_law_many_here"]) fun _ _ _ _ _ _ us hl => match us, hl with | [_, _, _], _ => rfl
  have F40 := fun_mk (st := slaw) l40 c40 k40
  have zz0 := PySem.W.mg_none_of X G z0
  have zz1 := PySem.W.mg_none_of X G z1
  have zz2 := PySem.W.mg_none_of X G z2
  have zz3 := PySem.W.mg_none_of X G z3
  have zz4 := PySem.W.mg_none_of X G z4
  have zz5 := PySem.W.mg_none_of X G z5
  have zz6 := PySem.W.mg_none_of X G z6
  have zz7 := PySem.W.mg_none_of X G z7
  have zz8 := PySem.W.mg_none_of X G z8
  have zz9 := PySem.W.mg_none_of X G z9
  have zz10 := PySem.W.mg_none_of X G z10
  have zz11 := PySem.W.mg_none_of X G z11
  have zz12 := PySem.W.mg_none_of X G z12
  have zz13 := PySem.W.mg_none_of X G z13
  have zz14 := PySem.W.mg_none_of X G z14
  have zz15 := PySem.W.mg_none_of X G z15
  have zz16 := PySem.W.mg_none_of X G z16
  have zz17 := PySem.W.mg_none_of X G z17
  have hB1 : ∀ x ∈ (["isinstance", "int", "bool"] : List Str), mg x = none := (by intro x hx; simp only [List.mem_cons, List.not_mem_nil, or_false] at hx; rcases hx with rfl | rfl | rfl; exact zz0; exact zz1; exact zz2)
  have S1 : ∀ base : Heap, (∃ mm, base.Ns sysModules mm) → Fs l.prog w K mg base 1 "is_whole" 1 spis_whole   := fun base hs => okis_whole F1 (PySem.W.mg_of X G a1) b1 hB1
  have S2 : ∀ base : Heap, (∃ mm, base.Ns sysModules mm) → Fs l.prog w K mg base 2 "is_among" 3 spis_among   := fun base hs => okis_among F2 (PySem.W.mg_of X G a2) b2 (S1 base hs)
  have hB3 : ∀ x ∈ (["list"] : List Str), mg x = none := (by intro x hx; rw [List.mem_singleton] at hx; subst hx; exact zz3)
  have S3 : ∀ base : Heap, (∃ mm, base.Ns sysModules mm) → Fs l.prog w K mg base 1 "nexts_of" 1 spnexts_of   := fun base hs => oknexts_of F3 (PySem.W.mg_of X G a3) b3 hB3
  have hB4 : ∀ x ∈ (["dict", "list", "len", "sorted"] : List Str), mg x = none := (by intro x hx; simp only [List.mem_cons, List.not_mem_nil, or_false] at hx; rcases hx with rfl | rfl | rfl | rfl; exact zz4; exact zz3; exact zz5; exact zz6)
  have S4 : ∀ base : Heap, (∃ mm, base.Ns sysModules mm) → Fs l.prog w K mg base 1 "come_to" 2 spcome_to   := fun base hs => okcome_to F4 (PySem.W.mg_of X G a4) b4 hB4
  have S5 : ∀ base : Heap, (∃ mm, base.Ns sysModules mm) → Fs l.prog w K mg base 1 "boxes_written" 1 spboxes_written   := fun base hs => okboxes_written F5 (PySem.W.mg_of X G a5) b5 
  have hB6 : ∀ x ∈ (["sorted"] : List Str), mg x = none := (by intro x hx; rw [List.mem_singleton] at hx; subst hx; exact zz6)
  have S6 : ∀ base : Heap, (∃ mm, base.Ns sysModules mm) → Fs l.prog w K mg base 2 "boxes_in" 1 spboxes_in   := fun base hs => okboxes_in F6 (PySem.W.mg_of X G a6) b6 hB6 (S5 base hs)
  have S7 : ∀ base : Heap, (∃ mm, base.Ns sysModules mm) → Fs l.prog w K mg base 1 "boxes_read" 2 spboxes_read   := fun base hs => okboxes_read F7 (PySem.W.mg_of X G a7) b7 
  have S8 : ∀ base : Heap, (∃ mm, base.Ns sysModules mm) → Fs l.prog w K mg base 2 "first_touch" 3 spfirst_touch   := fun base hs => okfirst_touch F8 (PySem.W.mg_of X G a8) b8 (S7 base hs) (S5 base hs)
  have hB9 : ∀ x ∈ (["range", "len"] : List Str), mg x = none := (by intro x hx; simp only [List.mem_cons, List.not_mem_nil, or_false] at hx; rcases hx with rfl | rfl; exact zz7; exact zz5)
  have S9 : ∀ base : Heap, (∃ mm, base.Ns sysModules mm) → Fs l.prog w K mg base 1 "backwards" 1 spbackwards   := fun base hs => okbackwards F9 (PySem.W.mg_of X G a9) b9 hB9
  have hB10 : ∀ x ∈ (["enumerate"] : List Str), mg x = none := (by intro x hx; rw [List.mem_singleton] at hx; subst hx; exact zz8)
  have S10 : ∀ base : Heap, (∃ mm, base.Ns sysModules mm) → Fs l.prog w K mg base 3 "awaiting" 3 spawaiting   := fun base hs => okawaiting F10 (PySem.W.mg_of X G a10) b10 hB10 (S8 base hs) (S3 base hs) (S9 base hs) (S4 base hs)
  have hB11 : ∀ x ∈ (["int"] : List Str), mg x = none := (by intro x hx; rw [List.mem_singleton] at hx; subst hx; exact zz1)
  have S11 : ∀ base : Heap, (∃ mm, base.Ns sysModules mm) → Fs l.prog w K mg base 4 "asked_by" 2 spasked_by   := fun base hs => okasked_by F11 (PySem.W.mg_of X G a11) b11 hB11 (S10 base hs)
  have S12 : ∀ base : Heap, (∃ mm, base.Ns sysModules mm) → Fs l.prog w K mg base 5 "awaited" 3 spawaited   := fun base hs => okawaited F12 (PySem.W.mg_of X G a12) b12 (S10 base hs) (S11 base hs)
  have hB13 : ∀ x ∈ (["enumerate"] : List Str), mg x = none := (by intro x hx; rw [List.mem_singleton] at hx; subst hx; exact zz8)
  have S13 : ∀ base : Heap, (∃ mm, base.Ns sysModules mm) → Fs l.prog w K mg base 2 "writing" 2 spwriting   := fun base hs => okwriting F13 (PySem.W.mg_of X G a13) b13 hB13 (S5 base hs)
  have hB14 : ∀ x ∈ (["sorted"] : List Str), mg x = none := (by intro x hx; rw [List.mem_singleton] at hx; subst hx; exact zz6)
  have S14 : ∀ base : Heap, (∃ mm, base.Ns sysModules mm) → Fs l.prog w K mg base 3 "reached" 3 spreached   := fun base hs => okreached F14 (PySem.W.mg_of X G a14) b14 hB14 (S3 base hs) (S13 base hs) (S4 base hs)
  have hB15 : ∀ x ∈ (["sorted"] : List Str), mg x = none := (by intro x hx; rw [List.mem_singleton] at hx; subst hx; exact zz6)
  have S15 : ∀ base : Heap, (∃ mm, base.Ns sysModules mm) → Fs l.prog w K mg base 6 "busy" 3 spbusy   := fun base hs => okbusy F15 (PySem.W.mg_of X G a15) b15 hB15 (S13 base hs) (S12 base hs) (S14 base hs)
  have hB16 : ∀ x ∈ (["isinstance", "list", "all", "range", "len"] : List Str), mg x = none := (by intro x hx; simp only [List.mem_cons, List.not_mem_nil, or_false] at hx; rcases hx with rfl | rfl | rfl | rfl | rfl; exact zz0; exact zz3; exact zz9; exact zz7; exact zz5)
  have S16 : ∀ base : Heap, (∃ mm, base.Ns sysModules mm) → Fs l.prog w K mg base 3 "is_rising" 2 spis_rising   := fun base hs => okis_rising F16 (PySem.W.mg_of X G a16) b16 hB16 (S2 base hs)
  have hB17 : ∀ x ∈ (["len", "all"] : List Str), mg x = none := (by intro x hx; simp only [List.mem_cons, List.not_mem_nil, or_false] at hx; rcases hx with rfl | rfl; exact zz5; exact zz9)
  have S17 : ∀ base : Heap, (∃ mm, base.Ns sysModules mm) → Fs l.prog w K mg base 7 "is_inside" 4 spis_inside   := fun base hs => okis_inside F17 (PySem.W.mg_of X G a17) b17 hB17 (S16 base hs) (S15 base hs)
  have hB18 : ∀ x ∈ (["isinstance", "dict", "len", "all"] : List Str), mg x = none := (by intro x hx; simp only [List.mem_cons, List.not_mem_nil, or_false] at hx; rcases hx with rfl | rfl | rfl | rfl; exact zz0; exact zz4; exact zz5; exact zz9)
  have S18 : ∀ base : Heap, (∃ mm, base.Ns sysModules mm) → Fs l.prog w K mg base 8 "is_plan" 3 spis_plan   := fun base hs => okis_plan F18 (PySem.W.mg_of X G a18) b18 hB18 (S6 base hs) (S2 base hs) (S17 base hs)
  have hB19 : ∀ x ∈ (["len", "abs", "int"] : List Str), mg x = none := (by intro x hx; simp only [List.mem_cons, List.not_mem_nil, or_false] at hx; rcases hx with rfl | rfl | rfl; exact zz5; exact zz10; exact zz1)
  have S19 : ∀ base : Heap, (∃ mm, base.Ns sysModules mm) → Fs l.prog w K mg base 1 "_law_tape" 2 sp_law_tape   := fun base hs => ok_law_tape F19 (PySem.W.mg_of X G a19) b19 hB19
  have S20 : ∀ base : Heap, (∃ mm, base.Ns sysModules mm) → Fs l.prog w K mg base 1 "_law_draw" 2 sp_law_draw   := fun base hs => ok_law_draw F20 (PySem.W.mg_of X G a20) b20 
  have hB21 : ∀ x ∈ (["range", "max"] : List Str), mg x = none := (by intro x hx; simp only [List.mem_cons, List.not_mem_nil, or_false] at hx; rcases hx with rfl | rfl; exact zz7; exact zz11)
  have S21 : ∀ base : Heap, (∃ mm, base.Ns sysModules mm) → Fs l.prog w K mg base 2 "_law_nexts" 2 sp_law_nexts   := fun base hs => ok_law_nexts F21 (PySem.W.mg_of X G a21) b21 hB21 (S20 base hs)
  have S22 : ∀ base : Heap, (∃ mm, base.Ns sysModules mm) → Fs l.prog w K mg base 2 "_law_number" 1 sp_law_number   := fun base hs => ok_law_number F22 (PySem.W.mg_of X G a22) b22 (S20 base hs)
  have hB23 : ∀ x ∈ (["range", "int", "len"] : List Str), mg x = none := (by intro x hx; simp only [List.mem_cons, List.not_mem_nil, or_false] at hx; rcases hx with rfl | rfl | rfl; exact zz7; exact zz1; exact zz5)
  have S23 : ∀ base : Heap, (∃ mm, base.Ns sysModules mm) → Fs l.prog w K mg base 3 "_law_deeds" 5 sp_law_deeds   := fun base hs => ok_law_deeds F23 (PySem.W.mg_of X G a23) b23 hB23 (S20 base hs) (S22 base hs)
  have hB24 : ∀ x ∈ (["list", "range", "len"] : List Str), mg x = none := (by intro x hx; simp only [List.mem_cons, List.not_mem_nil, or_false] at hx; rcases hx with rfl | rfl | rfl; exact zz3; exact zz7; exact zz5)
  have S24 : ∀ base : Heap, (∃ mm, base.Ns sysModules mm) → Fs l.prog w K mg base 4 "_law_work" 5 sp_law_work   := fun base hs => ok_law_work F24 (PySem.W.mg_of X G a24) b24 hB24 (S20 base hs) (S21 base hs) (S23 base hs)
  have hB25 : ∀ x ∈ (["int"] : List Str), mg x = none := (by intro x hx; rw [List.mem_singleton] at hx; subst hx; exact zz1)
  have S25 : ∀ base : Heap, (∃ mm, base.Ns sysModules mm) → Fs l.prog w K mg base 2 "_law_many" 1 sp_law_many   := fun base hs => ok_law_many F25 (PySem.W.mg_of X G a25) b25 hB25 (S20 base hs)
  have hB26 : ∀ x ∈ (["sum", "len"] : List Str), mg x = none := (by intro x hx; simp only [List.mem_cons, List.not_mem_nil, or_false] at hx; rcases hx with rfl | rfl; exact zz12; exact zz5)
  have S26 : ∀ base : Heap, (∃ mm, base.Ns sysModules mm) → Fs l.prog w K mg base 1 "_law_size" 1 sp_law_size   := fun base hs => ok_law_size F26 (PySem.W.mg_of X G a26) b26 hB26
  have S27 : ∀ base : Heap, (∃ mm, base.Ns sysModules mm) → Fs l.prog w K mg base 2 "_law_slim" 1 sp_law_slim   := fun base hs => ok_law_slim F27 (PySem.W.mg_of X G a27) b27 (S26 base hs)
  have hB28 : ∀ x ∈ (["int", "range"] : List Str), mg x = none := (by intro x hx; simp only [List.mem_cons, List.not_mem_nil, or_false] at hx; rcases hx with rfl | rfl; exact zz1; exact zz7)
  have S28 : ∀ base : Heap, (∃ mm, base.Ns sysModules mm) → Fs l.prog w K mg base 5 "_law_works" 2 sp_law_works   := fun base hs => ok_law_works F28 (PySem.W.mg_of X G a28) b28 hB28 (S20 base hs) (S25 base hs) (S24 base hs) (S27 base hs)
  have hB29 : ∀ x ∈ (["list"] : List Str), mg x = none := (by intro x hx; rw [List.mem_singleton] at hx; subst hx; exact zz3)
  have S29 : ∀ base : Heap, (∃ mm, base.Ns sysModules mm) → Fs l.prog w K mg base 1 "_law_ends" 1 sp_law_ends   := fun base hs => ok_law_ends F29 (PySem.W.mg_of X G a29) b29 hB29
  have S30 : ∀ base : Heap, (∃ mm, base.Ns sysModules mm) → Fs l.prog w K mg base 1 "_law_reads" 2 sp_law_reads   := fun base hs => ok_law_reads F30 (PySem.W.mg_of X G a30) b30 
  have hB31 : ∀ x ∈ (["range", "len", "any"] : List Str), mg x = none := (by intro x hx; simp only [List.mem_cons, List.not_mem_nil, or_false] at hx; rcases hx with rfl | rfl | rfl; exact zz7; exact zz5; exact zz13)
  have S31 : ∀ base : Heap, (∃ mm, base.Ns sysModules mm) → Fs l.prog w K mg base 1 "_law_writes" 2 sp_law_writes   := fun base hs => ok_law_writes F31 (PySem.W.mg_of X G a31) b31 hB31
  have S32 : ∀ base : Heap, (∃ mm, base.Ns sysModules mm) → Fs l.prog w K mg base 2 "_law_is_asked" 4 sp_law_is_asked   := fun base hs => ok_law_is_asked F32 (PySem.W.mg_of X G a32) b32 (S30 base hs)
  have hB33 : ∀ x ∈ (["range", "len", "list", "sorted", "set"] : List Str), mg x = none := (by intro x hx; simp only [List.mem_cons, List.not_mem_nil, or_false] at hx; rcases hx with rfl | rfl | rfl | rfl | rfl; exact zz7; exact zz5; exact zz3; exact zz6; exact zz14)
  have S33 : ∀ base : Heap, (∃ mm, base.Ns sysModules mm) → Fs l.prog w K mg base 2 "_law_behind" 2 sp_law_behind   := fun base hs => ok_law_behind F33 (PySem.W.mg_of X G a33) b33 hB33 (S29 base hs) (S31 base hs)
  have hB34 : ∀ x ∈ (["sorted", "set"] : List Str), mg x = none := (by intro x hx; simp only [List.mem_cons, List.not_mem_nil, or_false] at hx; rcases hx with rfl | rfl; exact zz6; exact zz14)
  have S34 : ∀ base : Heap, (∃ mm, base.Ns sysModules mm) → Fs l.prog w K mg base 3 "_law_busy" 3 sp_law_busy   := fun base hs => ok_law_busy F34 (PySem.W.mg_of X G a34) b34 hB34 (S33 base hs) (S32 base hs) (S31 base hs)
  have hB35 : ∀ x ∈ (["range"] : List Str), mg x = none := (by intro x hx; rw [List.mem_singleton] at hx; subst hx; exact zz7)
  have S35 : ∀ base : Heap, (∃ mm, base.Ns sysModules mm) → Fs l.prog w K mg base 2 "_law_boxes" 1 sp_law_boxes   := fun base hs => ok_law_boxes F35 (PySem.W.mg_of X G a35) b35 hB35 (S31 base hs)
  have hB36 : ∀ x ∈ (["sorted", "len", "range", "set"] : List Str), mg x = none := (by intro x hx; simp only [List.mem_cons, List.not_mem_nil, or_false] at hx; rcases hx with rfl | rfl | rfl | rfl; exact zz6; exact zz5; exact zz7; exact zz14)
  have S36 : ∀ base : Heap, (∃ mm, base.Ns sysModules mm) → Fs l.prog w K mg base 2 "_law_plan" 3 sp_law_plan   := fun base hs => ok_law_plan F36 (PySem.W.mg_of X G a36) b36 hB36 (S20 base hs)
  have hB37 : ∀ x ∈ (["isinstance", "int", "bool"] : List Str), mg x = none := (by intro x hx; simp only [List.mem_cons, List.not_mem_nil, or_false] at hx; rcases hx with rfl | rfl | rfl; exact zz0; exact zz1; exact zz2)
  have S37 : ∀ base : Heap, (∃ mm, base.Ns sysModules mm) → Fs l.prog w K mg base 1 "_law_whole" 1 sp_law_whole   := fun base hs => ok_law_whole F37 (PySem.W.mg_of X G a37) b37 hB37
  have hB38 : ∀ x ∈ (["sorted", "isinstance", "dict", "all", "list", "set"] : List Str), mg x = none := (by intro x hx; simp only [List.mem_cons, List.not_mem_nil, or_false] at hx; rcases hx with rfl | rfl | rfl | rfl | rfl | rfl; exact zz6; exact zz0; exact zz4; exact zz9; exact zz3; exact zz14)
  have S38 : ∀ base : Heap, (∃ mm, base.Ns sysModules mm) → Fs l.prog w K mg base 2 "_law_is_plan" 3 sp_law_is_plan   := fun base hs => ok_law_is_plan F38 (PySem.W.mg_of X G a38) b38 hB38 (S37 base hs)
  have hB39 : ∀ x ∈ (["dict", "list", "sorted", "len", "tuple"] : List Str), mg x = none := (by intro x hx; simp only [List.mem_cons, List.not_mem_nil, or_false] at hx; rcases hx with rfl | rfl | rfl | rfl | rfl; exact zz4; exact zz3; exact zz6; exact zz5; exact zz15)
  have S39 : ∀ base : Heap, (∃ mm, base.Ns sysModules mm) → Fs l.prog w K mg base 2 "_law_bent" 3 sp_law_bent   := fun base hs => ok_law_bent F39 (PySem.W.mg_of X G a39) b39 hB39 (S20 base hs)
  have hB40 : ∀ x ∈ (["range", "max", "min", "len", "dict", "sorted", "int", "repr", "isinstance", "bool"] : List Str), mg x = none := (by intro x hx; simp only [List.mem_cons, List.not_mem_nil, or_false] at hx; rcases hx with rfl | rfl | rfl | rfl | rfl | rfl | rfl | rfl | rfl | rfl; exact zz7; exact zz11; exact zz16; exact zz5; exact zz4; exact zz6; exact zz1; exact zz17; exact zz0; exact zz2)
  exact ⟨PySem.W.fnOf "law" "law" (defArgs slaw) (defBody slaw) (defScope slaw) .none kV40 dc40 pm40 an40 cd40 ct40, fun s v => .of_eq rfl, fun base _ _ hs => oklaw F40 hB40 (S19 base hs) (S28 base hs) (S20 base hs) (S26 base hs) (S35 base hs) (S34 base hs) (S36 base hs) (S18 base hs) (S39 base hs) (S38 base hs) hs⟩
end Gen

open PySem PySem.W PyProof.Rows in
set_option maxRecDepth 100000 in
set_option maxHeartbeats 0 in
theorem PySem.Challenge.cw_fewsaves_k20_plans_or_not_holds : PySem.Challenge.rw_fewsaves_k20_plans_or_not.Holds := by
  w_on; o_law; k_head; (case hw => w_witness2)
  k_fill
  refine DL.walk_g (l := PySem.Challenge.rw_fewsaves_k20_plans_or_not) (n := 63) (k := 9) (x := "_law_script") (G := Gen.splaw) rfl (by decide) (by decide +kernel) rfl ⟨rfl, by decide, by decide⟩ (fun w h Y => PySem.W.kIn_of Y) ?F ?G
  case G =>
    intro ns hl hb
    exact Gen.law_start ns hl hb
  case F =>
    intro w mg fa h KX G hmg
    refine' Gen.all_mk KX G hmg ?a1 ?l1 ?c1 ?k1 ?a2 ?l2 ?c2 ?k2 ?a3 ?l3 ?c3 ?k3 ?a4 ?l4 ?c4 ?k4 ?a5 ?l5 ?c5 ?k5 ?a6 ?l6 ?c6 ?k6 ?a7 ?l7 ?c7 ?k7 ?a8 ?l8 ?c8 ?k8 ?a9 ?l9 ?c9 ?k9 ?a10 ?l10 ?c10 ?k10 ?a11 ?l11 ?c11 ?k11 ?a12 ?l12 ?c12 ?k12 ?a13 ?l13 ?c13 ?k13 ?a14 ?l14 ?c14 ?k14 ?a15 ?l15 ?c15 ?k15 ?a16 ?l16 ?c16 ?k16 ?a17 ?l17 ?c17 ?k17 ?a18 ?l18 ?c18 ?k18 ?a19 ?l19 ?c19 ?k19 ?a20 ?l20 ?c20 ?k20 ?a21 ?l21 ?c21 ?k21 ?a22 ?l22 ?c22 ?k22 ?a23 ?l23 ?c23 ?k23 ?a24 ?l24 ?c24 ?k24 ?a25 ?l25 ?c25 ?k25 ?a26 ?l26 ?c26 ?k26 ?a27 ?l27 ?c27 ?k27 ?a28 ?l28 ?c28 ?k28 ?a29 ?l29 ?c29 ?k29 ?a30 ?l30 ?c30 ?k30 ?a31 ?l31 ?c31 ?k31 ?a32 ?l32 ?c32 ?k32 ?a33 ?l33 ?c33 ?k33 ?a34 ?l34 ?c34 ?k34 ?a35 ?l35 ?c35 ?k35 ?a36 ?l36 ?c36 ?k36 ?a37 ?l37 ?c37 ?k37 ?a38 ?l38 ?c38 ?k38 ?a39 ?l39 ?c39 ?k39 ?a40 ?l40 ?c40 ?k40 ?z0 ?z1 ?z2 ?z3 ?z4 ?z5 ?z6 ?z7 ?z8 ?z9 ?z10 ?z11 ?z12 ?z13 ?z14 ?z15 ?z16 ?z17
    (case a1 => k_is)
    (case l1 => k_is)
    (case c1 => k_is)
    (case k1 => k_is)
    (case a2 => k_is)
    (case l2 => k_is)
    (case c2 => k_is)
    (case k2 => k_is)
    (case a3 => k_is)
    (case l3 => k_is)
    (case c3 => k_is)
    (case k3 => k_is)
    (case a4 => k_is)
    (case l4 => k_is)
    (case c4 => k_is)
    (case k4 => k_is)
    (case a5 => k_is)
    (case l5 => k_is)
    (case c5 => k_is)
    (case k5 => k_is)
    (case a6 => k_is)
    (case l6 => k_is)
    (case c6 => k_is)
    (case k6 => k_is)
    (case a7 => k_is)
    (case l7 => k_is)
    (case c7 => k_is)
    (case k7 => k_is)
    (case a8 => k_is)
    (case l8 => k_is)
    (case c8 => k_is)
    (case k8 => k_is)
    (case a9 => k_is)
    (case l9 => k_is)
    (case c9 => k_is)
    (case k9 => k_is)
    (case a10 => k_is)
    (case l10 => k_is)
    (case c10 => k_is)
    (case k10 => k_is)
    (case a11 => k_is)
    (case l11 => k_is)
    (case c11 => k_is)
    (case k11 => k_is)
    (case a12 => k_is)
    (case l12 => k_is)
    (case c12 => k_is)
    (case k12 => k_is)
    (case a13 => k_is)
    (case l13 => k_is)
    (case c13 => k_is)
    (case k13 => k_is)
    (case a14 => k_is)
    (case l14 => k_is)
    (case c14 => k_is)
    (case k14 => k_is)
    (case a15 => k_is)
    (case l15 => k_is)
    (case c15 => k_is)
    (case k15 => k_is)
    (case a16 => k_is)
    (case l16 => k_is)
    (case c16 => k_is)
    (case k16 => k_is)
    (case a17 => k_is)
    (case l17 => k_is)
    (case c17 => k_is)
    (case k17 => k_is)
    (case a18 => k_is)
    (case l18 => k_is)
    (case c18 => k_is)
    (case k18 => k_is)
    (case a19 => k_is)
    (case l19 => k_is)
    (case c19 => k_is)
    (case k19 => k_is)
    (case a20 => k_is)
    (case l20 => k_is)
    (case c20 => k_is)
    (case k20 => k_is)
    (case a21 => k_is)
    (case l21 => k_is)
    (case c21 => k_is)
    (case k21 => k_is)
    (case a22 => k_is)
    (case l22 => k_is)
    (case c22 => k_is)
    (case k22 => k_is)
    (case a23 => k_is)
    (case l23 => k_is)
    (case c23 => k_is)
    (case k23 => k_is)
    (case a24 => k_is)
    (case l24 => k_is)
    (case c24 => k_is)
    (case k24 => k_is)
    (case a25 => k_is)
    (case l25 => k_is)
    (case c25 => k_is)
    (case k25 => k_is)
    (case a26 => k_is)
    (case l26 => k_is)
    (case c26 => k_is)
    (case k26 => k_is)
    (case a27 => k_is)
    (case l27 => k_is)
    (case c27 => k_is)
    (case k27 => k_is)
    (case a28 => k_is)
    (case l28 => k_is)
    (case c28 => k_is)
    (case k28 => k_is)
    (case a29 => k_is)
    (case l29 => k_is)
    (case c29 => k_is)
    (case k29 => k_is)
    (case a30 => k_is)
    (case l30 => k_is)
    (case c30 => k_is)
    (case k30 => k_is)
    (case a31 => k_is)
    (case l31 => k_is)
    (case c31 => k_is)
    (case k31 => k_is)
    (case a32 => k_is)
    (case l32 => k_is)
    (case c32 => k_is)
    (case k32 => k_is)
    (case a33 => k_is)
    (case l33 => k_is)
    (case c33 => k_is)
    (case k33 => k_is)
    (case a34 => k_is)
    (case l34 => k_is)
    (case c34 => k_is)
    (case k34 => k_is)
    (case a35 => k_is)
    (case l35 => k_is)
    (case c35 => k_is)
    (case k35 => k_is)
    (case a36 => k_is)
    (case l36 => k_is)
    (case c36 => k_is)
    (case k36 => k_is)
    (case a37 => k_is)
    (case l37 => k_is)
    (case c37 => k_is)
    (case k37 => k_is)
    (case a38 => k_is)
    (case l38 => k_is)
    (case c38 => k_is)
    (case k38 => k_is)
    (case a39 => k_is)
    (case l39 => k_is)
    (case c39 => k_is)
    (case k39 => k_is)
    (case a40 => k_is)
    (case l40 => k_is)
    (case c40 => k_is)
    (case k40 => k_is)
    (case z0 => k_is)
    (case z1 => k_is)
    (case z2 => k_is)
    (case z3 => k_is)
    (case z4 => k_is)
    (case z5 => k_is)
    (case z6 => k_is)
    (case z7 => k_is)
    (case z8 => k_is)
    (case z9 => k_is)
    (case z10 => k_is)
    (case z11 => k_is)
    (case z12 => k_is)
    (case z13 => k_is)
    (case z14 => k_is)
    (case z15 => k_is)
    (case z16 => k_is)
    (case z17 => k_is)
