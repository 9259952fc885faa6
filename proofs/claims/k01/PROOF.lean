import PyProof.Rows.All
import Wide.All
import OpenK.AllK
import Wide.FinOn
import HandS.ForMost
import HandS.HeadHook2
import KE.KDictKeyed
import HandS.TupAny
import HandS.TupMul
import HandS.Wide
import HandS.IsInst
import HandS.Walk
import HandS.Zip
import HandS.Defaults
import HandS.WordsExc
import HandS.SetFor
import HandS.Conv
import HandS.Ends
import KE.GoesMore
import PyProof.ReprLen
import PyProof.ReprRoads
import HandS.SortInts
import KE.KSortRegAny
import HandS.Exc
import HandS.ExcOwn
import HandS.TryOnly
import PyProof.ExcBaseAll.ValueError
import KE.GoesZip
import KE.GoesEnum
import HandS.Text
import HandS.Iter
import HandS.Small
import KE.KIndexOf
import PyProof.WalkInts
import HandS.Dict
import KE.KDictDisplayH
import KE.KDictWalk
import HandS.Style
import PyProof.AutoSeq1
import KE.DataMinMax
import KE.SortData
import HandS.Deep
import KE.KRevSl
import HandS.ExcIs
import HandS.ExcValue
import PyProof.SumAny
import PyProof.Rows.TupAdd
import HandS.TupLen
import HandS.TupLe
import HandS.DictEq
import KE.KDictCopyH
import KE.KDictOf
import HandS.DictTup
import KE.SortKeyHeap
import HandS.SortKw
import HandS.HeadHook3
import PyProof.Rows.TupIter
import HandS.HeadHook1
import HandS.Head2
import PyProof.CallFns
import PyProof.FString5
import PyProof.Rows.CountFlat
import PyProof.EqKinds
import PyProof.NeKinds
import PyProof.FactsAll.dict
import PyProof.FactsAll.subtypes
import HandS.TupSets
import KE.KDictPairs
import KE.KeyNested
import HandS.Head0
import HandS.Head1
import HandS.HeadEnd
import PySem.Challenge.RW_spotlay_k01_what_is_a_job
set_option Elab.async false
set_option linter.all false
set_option maxRecDepth 100000
set_option maxHeartbeats 0
namespace DL
open PySem PySem.Spec PyProof.Rows L2

inductive D where
  | non | bl (b : Bool) | int (i : Int) | str (x : Str)
  | tup (xs : List D) | lst (xs : List D) | kst (xs : List D)
  | dcT (ks : List (List Key)) (vs : List D) | dcK (ks : List Key) (vs : List D)
  | obj (C : Str) (ns : List Str) (vs : List D)
  | frz (d : D)
  | fn (x : Str) | ad (a : Addr) | lsA (a : Addr) (xs : List D) | key (ns : List Int) | tpx (ns : List Int) | exn (C : Str) | lkT (kvs : List (List Int × Int)) | any
  | dcL (kvs : List (Option Int × Option Int)) | dcN (kvs : List (NestedKey × V))

inductive Kd where
  | fl | sh | ow | sa | rd
  deriving DecidableEq
abbrev KD := Kd × D
abbrev Sl := Option KD
abbrev Frg := PySem.W.Frag

def Imm : HO → Prop
  | .tup _ => True
  | .frz _ _ => True
  | _ => False
def Keep (A : Addr → Prop) (H H' : Hp) : Prop := ∀ a o, H a = some o → (A a ∨ Imm o) → H' a = some o
theorem Keep.of_same {A : Addr → Prop} {H H' : Hp} (s : Same H H') : Keep A H H' := fun a o e _ => s a o e

def ImV : Option Int → Value → Prop
  | none, u => u = .none
  | some i, u => ∃ t, u = .int i t
def DcE : List (Option Int × Option Int) → List DictEntry → Prop
  | [], es => es = []
  | kv :: kvs, es => ∃ e r, es = e :: r ∧ ImV kv.1 e.key ∧ ImV kv.2 e.val ∧ DcE kvs r
def DcL (p : Addr) (o : Obj) (kvs : List (Option Int × Option Int)) : Prop := (p == sysModules) = false ∧ o.ExactDict ∧ ∃ es ep, o.data = .dict es ep ∧ DcE kvs es.toList
def EntN : List (NestedKey × V) → List Addr → List DictEntry → Prop
  | [], as, es => as = [] ∧ es = []
  | kv :: kvs, as, es => ∃ a r e q, as = a :: r ∧ es = e :: q ∧ (∀ w : World, e.hash = kv.1.hash w) ∧ e.key = .ref a ∧ RelV kv.2 e.val ∧ EntN kvs r q
def RawN (p : Addr) (kvs : List (NestedKey × V)) (as : List Addr) (h : Heap) : Prop := ∃ o es ep, h.get? p = some o ∧ (p == sysModules) = false ∧ o.ExactDict ∧ o.data = .dict es ep ∧ EntN kvs as es.toList ∧ (kvs.map (·.1)).Nodup
mutual
def NkV (H : Hp) : NestedKey → V → Prop
  | .num i, v => v = .int i
  | .tup ks, v => ∃ a vs, v = .ref a ∧ H a = some (.tup vs) ∧ NkVs H ks vs
  | .none, _ => False
  | .text _, _ => False
def NkVs (H : Hp) : List NestedKey → List V → Prop
  | [], vs => vs = []
  | k :: ks, vs => ∃ w ws, vs = w :: ws ∧ NkV H k w ∧ NkVs H ks ws
end
def NkA (H : Hp) : List (NestedKey × V) → List Addr → Prop
  | [], as => as = []
  | kv :: kvs, as => ∃ a r, as = a :: r ∧ (NkV H kv.1 (.ref a) ∧ kv.1.depth ≤ 8) ∧ NkA H kvs r
mutual
theorem NkV.keep {A : Addr → Prop} {H H' : Hp} (k : Keep A H H') : ∀ (d : NestedKey) (v : V), NkV H d v → NkV H' d v
  | .num _, _, h => h
  | .tup ks, _, ⟨a, vs, e, t, r⟩ => ⟨a, vs, e, k _ _ t (.inr trivial), NkVs.keep k ks vs r⟩
  | .none, _, h => h
  | .text _, _, h => h
theorem NkVs.keep {A : Addr → Prop} {H H' : Hp} (k : Keep A H H') : ∀ (d : List NestedKey) (v : List V), NkVs H d v → NkVs H' d v
  | [], _, h => h
  | d :: ds, _, ⟨w, ws, e, h, r⟩ => ⟨w, ws, e, NkV.keep k d w h, NkVs.keep k ds ws r⟩
end
theorem NkA.keep {A : Addr → Prop} {H H' : Hp} (k : Keep A H H') : ∀ (d : List (NestedKey × V)) (v : List Addr), NkA H d v → NkA H' d v
  | [], _, h => h
  | d :: ds, _, ⟨a, r, e, ⟨h, z⟩, q⟩ => ⟨a, r, e, ⟨NkV.keep k _ _ h, z⟩, NkA.keep k ds r q⟩

mutual
def RA (K : Frg) (A : Addr → Prop) (H : Hp) : D → V → Prop
  | .non, v => v = .non
  | .bl b, v => v = .bl b
  | .int i, v => v = .int i
  | .str x, v => v = .str x
  | .fn x, v => v = .ref (He.ga K x)
  | .ad a, v => v = .ref a
  | .key ns, v => ∃ p, v = .ref p ∧ H p = some (.tup (ns.map V.int))
  | .tpx ns, v => ∃ p o, v = .ref p ∧ H p = some (.frz o (.tup (ns.map V.int))) ∧ o.dict = none
  | .exn C, v => ∃ p o, v = .ref p ∧ H p = some (.frz o (.ext fun h => h.get? p = some o)) ∧ o.cls = .ref (He.ga K C) ∧ o.dict = none ∧ ∃ vs, o.data = .fields vs
  | .lkT kvs, v => ∃ p o, v = .ref p ∧ H p = some (.frz o (.dT (kvs.map fun x => (x.1.map Sum.inl, V.int x.2))))
  | .any, v => v ≠ .non
  | .dcL kvs, v => ∃ p o, v = .ref p ∧ (∃ u, H p = some (.frz o u)) ∧ DcL p o kvs
  | .dcN kvs, v => ∃ p as, v = .ref p ∧ A p ∧ H p = some (.ext (RawN p kvs as)) ∧ NkA H kvs as
  | .tup ds, v => ∃ p vs, v = .ref p ∧ SqT K H p vs ∧ RAs K A H ds vs
  | .lst ds, v => ∃ p vs, v = .ref p ∧ A p ∧ H p = some (.lst vs) ∧ RAs K A H ds vs
  | .lsA a ds, v => v = .ref a ∧ A a ∧ ∃ vs, H a = some (.lst vs) ∧ RAs K A H ds vs
  | .kst ds, v => ∃ p vs, v = .ref p ∧ SqL K (fun a => match H a with | some (.frz o u) => some (.frz o u) | _ => none) p vs ∧ RAs K A H ds vs
  | .dcT ks ds, v => ∃ p kvs, v = .ref p ∧ A p ∧ Rd H p (.dT kvs) ∧ kvs.map (·.1) = ks ∧ RAs K A H ds (kvs.map (·.2))
  | .dcK ks ds, v => ∃ p kvs, v = .ref p ∧ A p ∧ Rd H p (.dK kvs) ∧ kvs.map (·.1) = ks ∧ RAs K A H ds (kvs.map (·.2))
  | .obj C ns ds, v => ∃ p dx fs, v = .ref p ∧ A p ∧ H p = some (.ins (He.ga K C) dx fs) ∧ fs.map (·.1) = ns ∧ RAs K A H ds (fs.map (·.2))
  | .frz d, v => RA K A H d v
def RAs (K : Frg) (A : Addr → Prop) (H : Hp) : List D → List V → Prop
  | [], vs => vs = []
  | d :: ds, vs => ∃ w ws, vs = w :: ws ∧ RA K A H d w ∧ RAs K A H ds ws
end

mutual
def R (K : Frg) (A : Addr → Prop) (H : Hp) : D → V → List Addr → Prop
  | .tup ds, v, fp => ∃ p vs, v = .ref p ∧ SqT K H p vs ∧ Rs K A H ds vs fp
  | .lst ds, v, fp => ∃ p vs fps, v = .ref p ∧ fp = p :: fps ∧ H p = some (.lst vs) ∧ Rs K A H ds vs fps
  | .dcT ks ds, v, fp => ∃ p kvs fps, v = .ref p ∧ fp = p :: fps ∧ H p = some (.dT kvs) ∧ kvs.map (·.1) = ks ∧ Rs K A H ds (kvs.map (·.2)) fps
  | .dcK ks ds, v, fp => ∃ p kvs fps, v = .ref p ∧ fp = p :: fps ∧ H p = some (.dK kvs) ∧ kvs.map (·.1) = ks ∧ Rs K A H ds (kvs.map (·.2)) fps
  | .obj C ns ds, v, fp => ∃ p dx fs fps, v = .ref p ∧ fp = p :: fps ∧ H p = some (.ins (He.ga K C) dx fs) ∧ fs.map (·.1) = ns ∧ Rs K A H ds (fs.map (·.2)) fps
  | .dcN kvs, v, fp => ∃ p as, v = .ref p ∧ fp = [p] ∧ H p = some (.ext (RawN p kvs as)) ∧ NkA H kvs as
  | .frz d, v, fp => fp = [] ∧ RA K A H d v
  | d, v, fp => fp = [] ∧ RA K (fun _ => False) H d v
def Rs (K : Frg) (A : Addr → Prop) (H : Hp) : List D → List V → List Addr → Prop
  | [], vs, fp => vs = [] ∧ fp = []
  | d :: ds, vs, fp => ∃ w ws f1 f2, vs = w :: ws ∧ fp = f1 ++ f2 ∧ R K A H d w f1 ∧ Rs K A H ds ws f2
end

section
variable {K : Frg} {A B : Addr → Prop} {H H' : Hp}
theorem Rd.keep {p : Addr} {u : HO} (k : Keep A H H') (ha : A p) (r : Rd H p u) : Rd H' p u := by
  rcases r with r | ⟨o, r⟩
  · exact .inl (k _ _ r (.inl ha))
  · exact .inr ⟨o, k _ _ r (.inl ha)⟩
theorem SqT.keep {p : Addr} {vs : List V} (k : Keep A H H') (r : SqT K H p vs) : SqT K H' p vs := by
  rcases r with (r | ⟨o, r⟩) | r
  · exact .inl (.inl (k _ _ r (.inr trivial)))
  · exact .inl (.inr ⟨o, k _ _ r (.inr trivial)⟩)
  · exact .inr r
abbrev lockd (H : Hp) : Hp := fun a => match H a with | some (.frz o u) => some (.frz o u) | _ => none
theorem lockd_some {a : Addr} {x : HO} (h : lockd H a = some x) : H a = some x ∧ ∃ o u, x = .frz o u := by
  unfold lockd at h
  split at h
  · rename_i o u e
    cases h
    exact ⟨e, o, u, rfl⟩
  · cases h
theorem lockd_mk {a : Addr} {o : Obj} {u : HO} (h : H a = some (.frz o u)) : lockd H a = some (.frz o u) := by
  unfold lockd; rw [h]
theorem kst_keep {p : Addr} {vs : List V} (k : Keep A H H') (r : SqL K (lockd H) p vs) : SqL K (lockd H') p vs := by
  rcases r with (r | ⟨o, r⟩) | r
  · obtain ⟨_, o, u, e⟩ := lockd_some r
    cases e
  · exact .inl (.inr ⟨o, lockd_mk (k _ _ (lockd_some r).1 (.inr trivial))⟩)
  · exact .inr r
theorem kst_seq {p : Addr} {vs : List V} (r : SqL K (lockd H) p vs) : SqL K H p vs := by
  rcases r with (r | ⟨o, r⟩) | r
  · obtain ⟨_, o, u, e⟩ := lockd_some r
    cases e
  · exact .inl (.inr ⟨o, (lockd_some r).1⟩)
  · exact .inr r

mutual
theorem RA.keep (k : Keep A H H') : ∀ (d : D) (v : V), RA K A H d v → RA K A H' d v
  | .non, _, h => h
  | .bl _, _, h => h
  | .int _, _, h => h
  | .str _, _, h => h
  | .fn _, _, h => h
  | .ad _, _, h => h
  | .key _, _, ⟨p, e, t⟩ => ⟨p, e, k _ _ t (.inr trivial)⟩
  | .tpx _, _, ⟨p, o, e, t, z⟩ => ⟨p, o, e, k _ _ t (.inr trivial), z⟩
  | .exn _, _, ⟨p, o, e, t, z⟩ => ⟨p, o, e, k _ _ t (.inr trivial), z⟩
  | .dcL _, _, ⟨p, o, e, ⟨u, t⟩, z⟩ => ⟨p, o, e, ⟨u, k _ _ t (.inr trivial)⟩, z⟩
  | .dcN _, _, ⟨p, as, e, a, t, z⟩ => ⟨p, as, e, a, k _ _ t (.inl a), NkA.keep k _ _ z⟩
  | .lkT _, _, ⟨p, o, e, t⟩ => ⟨p, o, e, k _ _ t (.inr trivial)⟩
  | .any, _, h => h
  | .tup ds, _, ⟨p, vs, e, t, r⟩ => ⟨p, vs, e, SqT.keep k t, RAs.keep k ds vs r⟩
  | .lst ds, _, ⟨p, vs, e, a, t, r⟩ => ⟨p, vs, e, a, k _ _ t (.inl a), RAs.keep k ds vs r⟩
  | .lsA _ ds, _, ⟨e, a, vs, t, r⟩ => ⟨e, a, vs, k _ _ t (.inl a), RAs.keep k ds vs r⟩
  | .kst ds, _, ⟨p, vs, e, t, r⟩ => ⟨p, vs, e, kst_keep k t, RAs.keep k ds vs r⟩
  | .dcT ks ds, _, ⟨p, vs, e, a, t, q, r⟩ => ⟨p, vs, e, a, Rd.keep k a t, q, RAs.keep k ds _ r⟩
  | .dcK ks ds, _, ⟨p, vs, e, a, t, q, r⟩ => ⟨p, vs, e, a, Rd.keep k a t, q, RAs.keep k ds _ r⟩
  | .obj C ns ds, _, ⟨p, dx, fs, e, a, t, q, r⟩ => ⟨p, dx, fs, e, a, k _ _ t (.inl a), q, RAs.keep k ds _ r⟩
  | .frz d, v, h => RA.keep k d v h
theorem RAs.keep (k : Keep A H H') : ∀ (ds : List D) (vs : List V), RAs K A H ds vs → RAs K A H' ds vs
  | [], _, h => h
  | d :: ds, _, ⟨w, ws, e, h, r⟩ => ⟨w, ws, e, RA.keep k d w h, RAs.keep k ds ws r⟩
end
mutual
theorem RA.mono (m : ∀ a, A a → B a) : ∀ (d : D) (v : V), RA K A H d v → RA K B H d v
  | .non, _, h => h
  | .bl _, _, h => h
  | .int _, _, h => h
  | .str _, _, h => h
  | .fn _, _, h => h
  | .ad _, _, h => h
  | .key _, _, h => h
  | .tpx _, _, h => h
  | .exn _, _, h => h
  | .dcL _, _, h => h
  | .dcN _, _, ⟨p, as, e, a, z⟩ => ⟨p, as, e, m _ a, z⟩
  | .lkT _, _, h => h
  | .any, _, h => h
  | .tup ds, _, ⟨p, vs, e, t, r⟩ => ⟨p, vs, e, t, RAs.mono m ds vs r⟩
  | .lst ds, _, ⟨p, vs, e, a, t, r⟩ => ⟨p, vs, e, m _ a, t, RAs.mono m ds vs r⟩
  | .lsA _ ds, _, ⟨e, a, vs, t, r⟩ => ⟨e, m _ a, vs, t, RAs.mono m ds vs r⟩
  | .kst ds, _, ⟨p, vs, e, t, r⟩ => ⟨p, vs, e, t, RAs.mono m ds vs r⟩
  | .dcT ks ds, _, ⟨p, vs, e, a, t, q, r⟩ => ⟨p, vs, e, m _ a, t, q, RAs.mono m ds _ r⟩
  | .dcK ks ds, _, ⟨p, vs, e, a, t, q, r⟩ => ⟨p, vs, e, m _ a, t, q, RAs.mono m ds _ r⟩
  | .obj C ns ds, _, ⟨p, dx, fs, e, a, t, q, r⟩ => ⟨p, dx, fs, e, m _ a, t, q, RAs.mono m ds _ r⟩
  | .frz d, v, h => RA.mono m d v h
theorem RAs.mono (m : ∀ a, A a → B a) : ∀ (ds : List D) (vs : List V), RAs K A H ds vs → RAs K B H ds vs
  | [], _, h => h
  | d :: ds, _, ⟨w, ws, e, h, r⟩ => ⟨w, ws, e, RA.mono m d w h, RAs.mono m ds ws r⟩
end
end

def Mu : HO → Prop
  | .lst _ => True
  | .dT _ => True
  | .dK _ => True
  | .ins _ _ _ => True
  | .ext _ => True
  | _ => False
theorem Mu.notImm : ∀ {o : HO}, Mu o → ¬ Imm o := by
  intro o h1 h2; cases o <;> first | exact h1 | exact h2
abbrev No : Addr → Prop := fun _ => False
section
variable {K : Frg} {A B : Addr → Prop} {H H' : Hp}
theorem RA.same (s : Same H H') {d : D} {v : V} (h : RA K A H d v) : RA K A H' d v := RA.keep (Keep.of_same s) d v h
theorem RA.no {d : D} {v : V} (h : RA K No H d v) : RA K A H d v := RA.mono (fun _ z => z.elim) d v h
theorem RAs.no {ds : List D} {vs : List V} (h : RAs K No H ds vs) : RAs K A H ds vs := RAs.mono (fun _ z => z.elim) ds vs h
theorem RAs.same (s : Same H H') {d : List D} {v : List V} (h : RAs K A H d v) : RAs K A H' d v := RAs.keep (Keep.of_same s) d v h
theorem RAs.nil : RAs K A H [] [] := rfl
theorem RAs.cons {d : D} {v : V} {ds : List D} {vs : List V} (h : RA K A H d v) (t : RAs K A H ds vs) : RAs K A H (d :: ds) (v :: vs) := ⟨v, vs, rfl, h, t⟩
theorem RAs.len : ∀ {ds : List D} {vs : List V}, RAs K A H ds vs → vs.length = ds.length
  | [], _, h => by rw [show _ = [] from h]; rfl
  | d :: ds, _, ⟨w, ws, e, _, t⟩ => by rw [e, List.length_cons, List.length_cons, RAs.len t]
theorem RAs.get : ∀ {ds : List D} {vs : List V} {j : Nat} {d : D}, RAs K A H ds vs → ds[j]? = some d → ∃ w, vs[j]? = some w ∧ RA K A H d w
  | [], _, _, _, _, e => by simp at e
  | d :: ds, _, 0, x, ⟨w, ws, e, h, t⟩, q => by
    have : d = x := Option.some.inj q
    subst this e
    exact ⟨w, rfl, h⟩
  | d :: ds, _, j + 1, x, ⟨w, ws, e, h, t⟩, q => by
    subst e
    exact RAs.get (j := j) t q
theorem RAs.append : ∀ {ds es : List D} {vs ws : List V}, RAs K A H ds vs → RAs K A H es ws → RAs K A H (ds ++ es) (vs ++ ws)
  | [], _, _, _, h, t => by rw [show _ = [] from h]; exact t
  | d :: ds, _, _, _, ⟨w, ws, e, h, t⟩, q => by subst e; exact .cons h (RAs.append t q)
theorem RAs.one {d : D} {v : V} (h : RA K A H d v) : RAs K A H [d] [v] := .cons h .nil
theorem RAs.set : ∀ {ds : List D} {vs : List V} {j : Nat} {d : D} {w : V}, RAs K A H ds vs → RA K A H d w → RAs K A H (ds.set j d) (vs.set j w)
  | [], _, _, _, _, h, _ => by rw [show _ = [] from h]; exact .nil
  | d :: ds, _, 0, x, _, ⟨w, ws, e, h, t⟩, q => by subst e; exact .cons q t
  | d :: ds, _, j + 1, x, _, ⟨w, ws, e, h, t⟩, q => by subst e; exact .cons h (RAs.set t q)
theorem RAs.take : ∀ {ds : List D} {vs : List V} (n : Nat), RAs K A H ds vs → RAs K A H (ds.take n) (vs.take n)
  | _, _, 0, _ => by simp; exact .nil
  | [], _, n + 1, h => by rw [show _ = [] from h]; exact .nil
  | d :: ds, _, n + 1, ⟨w, ws, e, h, t⟩ => by subst e; exact .cons h (RAs.take n t)
theorem RAs.drop : ∀ {ds : List D} {vs : List V} (n : Nat), RAs K A H ds vs → RAs K A H (ds.drop n) (vs.drop n)
  | _, _, 0, h => h
  | [], _, n + 1, h => by rw [show _ = [] from h]; exact .nil
  | d :: ds, _, n + 1, ⟨w, ws, e, h, t⟩ => by subst e; exact RAs.drop n t
theorem RAs.eraseIdx {ds : List D} {vs : List V} (n : Nat) (h : RAs K A H ds vs) : RAs K A H (ds.eraseIdx n) (vs.eraseIdx n) := by
  rw [List.eraseIdx_eq_take_drop_succ, List.eraseIdx_eq_take_drop_succ]
  exact (h.take n).append (h.drop (n + 1))
theorem RAs.dropLast {ds : List D} {vs : List V} (h : RAs K A H ds vs) : RAs K A H ds.dropLast vs.dropLast := by
  rw [List.dropLast_eq_take, List.dropLast_eq_take, h.len]
  exact h.take _
theorem RA.int {i : Int} : RA K A H (.int i) (.int i) := rfl
theorem RA.bl {i : Bool} : RA K A H (.bl i) (.bl i) := rfl
theorem RA.str {i : Str} : RA K A H (.str i) (.str i) := rfl
theorem RA.non : RA K A H .non .non := rfl

def KeepF (A : Addr → Prop) (fp : List Addr) (H H' : Hp) : Prop := ∀ a o, H a = some o → (a ∈ fp ∨ A a ∨ Imm o) → H' a = some o
theorem KeepF.keep {fp : List Addr} (k : KeepF A fp H H') : Keep A H H' := fun a o e h => k a o e (.inr h)
theorem KeepF.of_same {fp : List Addr} (s : Same H H') : KeepF A fp H H' := fun a o e _ => s a o e
theorem KeepF.no {fp : List Addr} (k : KeepF A fp H H') : KeepF No fp H H' := fun a o e h => k a o e (by rcases h with h | h | h; exact .inl h; exact h.elim; exact .inr (.inr h))
theorem KeepF.sub {f g : List Addr} (k : KeepF A f H H') (s : ∀ a ∈ g, a ∈ f) : KeepF A g H H' := fun a o e h => k a o e (h.imp (s a) id)
theorem Keep.no (k : Keep A H H') : Keep No H H' := fun a o e h => k a o e (h.imp (fun z => z.elim) id)
mutual
theorem R.keep : ∀ (d : D) (v : V) (fp : List Addr), KeepF A fp H H' → R K A H d v fp → R K A H' d v fp
  | .non, _, _, _, h => h
  | .bl _, _, _, _, h => h
  | .int _, _, _, _, h => h
  | .str _, _, _, _, h => h
  | .fn _, _, _, _, h => h
  | .ad _, _, _, _, h => h
  | .key ns, v, _, k, ⟨e, h⟩ => ⟨e, RA.keep k.keep.no (.key ns) v h⟩
  | .tpx ns, v, _, k, ⟨e, h⟩ => ⟨e, RA.keep k.keep.no (.tpx ns) v h⟩
  | .exn C, v, _, k, ⟨e, h⟩ => ⟨e, RA.keep k.keep.no (.exn C) v h⟩
  | .dcL C, v, _, k, ⟨e, h⟩ => ⟨e, RA.keep k.keep.no (.dcL C) v h⟩
  | .dcN _, _, fp, k, ⟨p, as, e, e2, t, z⟩ => ⟨p, as, e, e2, k _ _ t (.inl (by rw [e2]; exact List.mem_cons_self)), NkA.keep k.keep _ _ z⟩
  | .lkT ns, v, _, k, ⟨e, h⟩ => ⟨e, RA.keep k.keep.no (.lkT ns) v h⟩
  | .any, _, _, _, h => h
  | .kst ds, v, _, k, ⟨e, h⟩ => ⟨e, RA.keep k.keep.no (.kst ds) v h⟩
  | .tup ds, _, fp, k, ⟨p, vs, e, t, r⟩ => ⟨p, vs, e, SqT.keep k.keep t, Rs.keep ds vs fp k r⟩
  | .lst ds, _, fp, k, ⟨p, vs, fps, e, e2, t, r⟩ => ⟨p, vs, fps, e, e2, k _ _ t (.inl (by rw [e2]; exact List.mem_cons_self)), Rs.keep ds vs fps (k.sub fun a h => by rw [e2]; exact List.mem_cons_of_mem _ h) r⟩
  | .lsA _ _, _, _, _, ⟨_, h⟩ => h.2.1.elim
  | .dcT ks ds, _, fp, k, ⟨p, vs, fps, e, e2, t, q, r⟩ => ⟨p, vs, fps, e, e2, k _ _ t (.inl (by rw [e2]; exact List.mem_cons_self)), q, Rs.keep ds _ fps (k.sub fun a h => by rw [e2]; exact List.mem_cons_of_mem _ h) r⟩
  | .dcK ks ds, _, fp, k, ⟨p, vs, fps, e, e2, t, q, r⟩ => ⟨p, vs, fps, e, e2, k _ _ t (.inl (by rw [e2]; exact List.mem_cons_self)), q, Rs.keep ds _ fps (k.sub fun a h => by rw [e2]; exact List.mem_cons_of_mem _ h) r⟩
  | .obj C ns ds, _, fp, k, ⟨p, dx, fs, fps, e, e2, t, q, r⟩ => ⟨p, dx, fs, fps, e, e2, k _ _ t (.inl (by rw [e2]; exact List.mem_cons_self)), q, Rs.keep ds _ fps (k.sub fun a h => by rw [e2]; exact List.mem_cons_of_mem _ h) r⟩
  | .frz d, v, fp, k, ⟨e, h⟩ => ⟨e, RA.keep k.keep d v h⟩
theorem Rs.keep : ∀ (ds : List D) (vs : List V) (fp : List Addr), KeepF A fp H H' → Rs K A H ds vs fp → Rs K A H' ds vs fp
  | [], _, _, _, h => h
  | d :: ds, _, fp, k, ⟨w, ws, f1, f2, e, e2, h, r⟩ => ⟨w, ws, f1, f2, e, e2, R.keep d w f1 (k.sub fun a h => by rw [e2]; exact List.mem_append_left _ h) h, Rs.keep ds ws f2 (k.sub fun a h => by rw [e2]; exact List.mem_append_right _ h) r⟩
end
mutual
theorem R.mono (m : ∀ a, A a → B a) : ∀ (d : D) (v : V) (fp : List Addr), R K A H d v fp → R K B H d v fp
  | .non, _, _, h => h
  | .bl _, _, _, h => h
  | .int _, _, _, h => h
  | .str _, _, _, h => h
  | .fn _, _, _, h => h
  | .ad _, _, _, h => h
  | .key _, _, _, h => h
  | .tpx _, _, _, h => h
  | .exn _, _, _, h => h
  | .dcL _, _, _, h => h
  | .dcN _, _, _, h => h
  | .lkT _, _, _, h => h
  | .any, _, _, h => h
  | .kst ds, v, _, h => h
  | .tup ds, _, fp, ⟨p, vs, e, t, r⟩ => ⟨p, vs, e, t, Rs.mono m ds vs fp r⟩
  | .lst ds, _, fp, ⟨p, vs, fps, e, e2, t, r⟩ => ⟨p, vs, fps, e, e2, t, Rs.mono m ds vs fps r⟩
  | .lsA _ _, _, _, ⟨_, h⟩ => h.2.1.elim
  | .dcT ks ds, _, fp, ⟨p, vs, fps, e, e2, t, q, r⟩ => ⟨p, vs, fps, e, e2, t, q, Rs.mono m ds _ fps r⟩
  | .dcK ks ds, _, fp, ⟨p, vs, fps, e, e2, t, q, r⟩ => ⟨p, vs, fps, e, e2, t, q, Rs.mono m ds _ fps r⟩
  | .obj C ns ds, _, fp, ⟨p, dx, fs, fps, e, e2, t, q, r⟩ => ⟨p, dx, fs, fps, e, e2, t, q, Rs.mono m ds _ fps r⟩
  | .frz d, v, fp, ⟨e, h⟩ => ⟨e, RA.mono m d v h⟩
theorem Rs.mono (m : ∀ a, A a → B a) : ∀ (ds : List D) (vs : List V) (fp : List Addr), Rs K A H ds vs fp → Rs K B H ds vs fp
  | [], _, _, h => h
  | d :: ds, _, fp, ⟨w, ws, f1, f2, e, e2, h, r⟩ => ⟨w, ws, f1, f2, e, e2, R.mono m d w f1 h, Rs.mono m ds ws f2 r⟩
end
mutual
theorem R.ra (m : ∀ a, A a → B a) : ∀ (d : D) (v : V) (fp : List Addr), (∀ a ∈ fp, B a) → R K A H d v fp → RA K B H d v
  | .non, _, _, _, h => h.2
  | .bl _, _, _, _, h => h.2
  | .int _, _, _, _, h => h.2
  | .str _, _, _, _, h => h.2
  | .fn _, _, _, _, h => h.2
  | .ad _, _, _, _, h => h.2
  | .key _, _, _, _, h => h.2
  | .tpx _, _, _, _, h => h.2
  | .exn _, _, _, _, h => h.2
  | .dcL _, _, _, _, h => h.2
  | .dcN _, _, fp, k, ⟨p, as, e, e2, t, z⟩ => ⟨p, as, e, k _ (by rw [e2]; exact List.mem_cons_self), t, z⟩
  | .lkT _, _, _, _, h => h.2
  | .any, _, _, _, h => h.2
  | .kst ds, v, _, _, h => RA.no h.2
  | .tup ds, _, fp, k, ⟨p, vs, e, t, r⟩ => ⟨p, vs, e, t, Rs.ra m ds vs fp k r⟩
  | .lst ds, _, fp, k, ⟨p, vs, fps, e, e2, t, r⟩ => ⟨p, vs, e, k _ (by rw [e2]; exact List.mem_cons_self), t, Rs.ra m ds vs fps (fun a h => k a (by rw [e2]; exact List.mem_cons_of_mem _ h)) r⟩
  | .lsA _ _, _, _, _, ⟨_, h⟩ => h.2.1.elim
  | .dcT ks ds, _, fp, k, ⟨p, vs, fps, e, e2, t, q, r⟩ => ⟨p, vs, e, k _ (by rw [e2]; exact List.mem_cons_self), .inl t, q, Rs.ra m ds _ fps (fun a h => k a (by rw [e2]; exact List.mem_cons_of_mem _ h)) r⟩
  | .dcK ks ds, _, fp, k, ⟨p, vs, fps, e, e2, t, q, r⟩ => ⟨p, vs, e, k _ (by rw [e2]; exact List.mem_cons_self), .inl t, q, Rs.ra m ds _ fps (fun a h => k a (by rw [e2]; exact List.mem_cons_of_mem _ h)) r⟩
  | .obj C ns ds, _, fp, k, ⟨p, dx, fs, fps, e, e2, t, q, r⟩ => ⟨p, dx, fs, e, k _ (by rw [e2]; exact List.mem_cons_self), t, q, Rs.ra m ds _ fps (fun a h => k a (by rw [e2]; exact List.mem_cons_of_mem _ h)) r⟩
  | .frz d, v, fp, _, ⟨e, h⟩ => RA.mono m d v h
theorem Rs.ra (m : ∀ a, A a → B a) : ∀ (ds : List D) (vs : List V) (fp : List Addr), (∀ a ∈ fp, B a) → Rs K A H ds vs fp → RAs K B H ds vs
  | [], _, _, _, h => h.1
  | d :: ds, _, fp, k, ⟨w, ws, f1, f2, e, e2, h, r⟩ => ⟨w, ws, e, R.ra m d w f1 (fun a h => k a (by rw [e2]; exact List.mem_append_left _ h)) h, Rs.ra m ds ws f2 (fun a h => k a (by rw [e2]; exact List.mem_append_right _ h)) r⟩
end
mutual
theorem R.of0 : ∀ (d : D) (v : V), RA K No H d v → R K A H d v []
  | .non, _, h => ⟨rfl, h⟩
  | .bl _, _, h => ⟨rfl, h⟩
  | .int _, _, h => ⟨rfl, h⟩
  | .str _, _, h => ⟨rfl, h⟩
  | .fn _, _, h => ⟨rfl, h⟩
  | .ad _, _, h => ⟨rfl, h⟩
  | .key _, _, h => ⟨rfl, h⟩
  | .tpx _, _, h => ⟨rfl, h⟩
  | .exn _, _, h => ⟨rfl, h⟩
  | .dcL _, _, h => ⟨rfl, h⟩
  | .dcN _, _, ⟨_, _, _, a, _⟩ => a.elim
  | .lkT _, _, h => ⟨rfl, h⟩
  | .any, _, h => ⟨rfl, h⟩
  | .kst ds, v, h => ⟨rfl, h⟩
  | .tup ds, _, ⟨p, vs, e, t, r⟩ => ⟨p, vs, e, t, Rs.of0 ds vs r⟩
  | .lst ds, _, ⟨_, _, _, a, _⟩ => a.elim
  | .lsA _ _, _, ⟨_, a, _⟩ => a.elim
  | .dcT ks ds, _, ⟨_, _, _, a, _⟩ => a.elim
  | .dcK ks ds, _, ⟨_, _, _, a, _⟩ => a.elim
  | .obj C ns ds, _, ⟨_, _, _, _, a, _⟩ => a.elim
  | .frz d, v, h => ⟨rfl, RA.no h⟩
theorem Rs.of0 : ∀ (ds : List D) (vs : List V), RAs K No H ds vs → Rs K A H ds vs []
  | [], _, h => ⟨h, rfl⟩
  | d :: ds, _, ⟨w, ws, e, h, r⟩ => ⟨w, ws, [], [], e, rfl, R.of0 d w h, Rs.of0 ds ws r⟩
end
mutual
theorem R.nil0 : ∀ (d : D) (v : V) (fp : List Addr), RA K No H d v → R K A H' d v fp → fp = []
  | .non, _, _, _, h => h.1
  | .bl _, _, _, _, h => h.1
  | .int _, _, _, _, h => h.1
  | .str _, _, _, _, h => h.1
  | .fn _, _, _, _, h => h.1
  | .ad _, _, _, _, h => h.1
  | .key _, _, _, _, h => h.1
  | .tpx _, _, _, _, h => h.1
  | .exn _, _, _, _, h => h.1
  | .dcL _, _, _, _, h => h.1
  | .dcN _, _, _, ⟨_, _, _, a, _⟩, _ => a.elim
  | .lkT _, _, _, _, h => h.1
  | .any, _, _, _, h => h.1
  | .kst ds, v, _, _, h => h.1
  | .tup ds, _, fp, ⟨p, vs, e, t, r⟩, ⟨p', vs', e', t', r'⟩ => Rs.nil0 ds fp ⟨vs, r⟩ ⟨vs', r'⟩
  | .lst ds, _, _, ⟨_, _, _, a, _⟩, _ => a.elim
  | .lsA _ _, _, _, ⟨_, a, _⟩, _ => a.elim
  | .dcT ks ds, _, _, ⟨_, _, _, a, _⟩, _ => a.elim
  | .dcK ks ds, _, _, ⟨_, _, _, a, _⟩, _ => a.elim
  | .obj C ns ds, _, _, ⟨_, _, _, _, a, _⟩, _ => a.elim
  | .frz d, v, _, _, h => h.1
theorem Rs.nil0 : ∀ (ds : List D) (fp : List Addr), (∃ vs, RAs K No H ds vs) → (∃ vs, Rs K A H' ds vs fp) → fp = []
  | [], _, _, ⟨_, h⟩ => h.2
  | d :: ds, fp, ⟨_, w, ws, e, h, r⟩, ⟨_, w', ws', f1, f2, e', e2, h', r'⟩ => by
    rw [e2, R.nil1 d f1 ⟨w, h⟩ ⟨w', h'⟩, Rs.nil0 ds f2 ⟨ws, r⟩ ⟨ws', r'⟩]; rfl
theorem R.nil1 : ∀ (d : D) (fp : List Addr), (∃ v, RA K No H d v) → (∃ v, R K A H' d v fp) → fp = []
  | .non, _, _, ⟨_, h⟩ => h.1
  | .bl _, _, _, ⟨_, h⟩ => h.1
  | .int _, _, _, ⟨_, h⟩ => h.1
  | .str _, _, _, ⟨_, h⟩ => h.1
  | .fn _, _, _, ⟨_, h⟩ => h.1
  | .ad _, _, _, ⟨_, h⟩ => h.1
  | .key _, _, _, ⟨_, h⟩ => h.1
  | .tpx _, _, _, ⟨_, h⟩ => h.1
  | .exn _, _, _, ⟨_, h⟩ => h.1
  | .dcL _, _, _, ⟨_, h⟩ => h.1
  | .dcN _, _, ⟨_, _, _, _, a, _⟩, _ => a.elim
  | .lkT _, _, _, ⟨_, h⟩ => h.1
  | .any, _, _, ⟨_, h⟩ => h.1
  | .kst ds, _, _, ⟨_, h⟩ => h.1
  | .tup ds, fp, ⟨_, p, vs, e, t, r⟩, ⟨_, p', vs', e', t', r'⟩ => Rs.nil0 ds fp ⟨vs, r⟩ ⟨vs', r'⟩
  | .lst ds, _, ⟨_, _, _, _, a, _⟩, _ => a.elim
  | .lsA _ _, _, ⟨_, _, a, _⟩, _ => a.elim
  | .dcT ks ds, _, ⟨_, _, _, _, a, _⟩, _ => a.elim
  | .dcK ks ds, _, ⟨_, _, _, _, a, _⟩, _ => a.elim
  | .obj C ns ds, _, ⟨_, _, _, _, _, a, _⟩, _ => a.elim
  | .frz d, _, _, ⟨_, h⟩ => h.1
end
mutual
theorem R.mu : ∀ (d : D) (v : V) (fp : List Addr), R K A H d v fp → ∀ a ∈ fp, ∃ o, H a = some o ∧ Mu o
  | .non, _, _, h => fun a q => by rw [h.1] at q; cases q
  | .bl _, _, _, h => fun a q => by rw [h.1] at q; cases q
  | .int _, _, _, h => fun a q => by rw [h.1] at q; cases q
  | .str _, _, _, h => fun a q => by rw [h.1] at q; cases q
  | .fn _, _, _, h => fun a q => by rw [h.1] at q; cases q
  | .ad _, _, _, h => fun a q => by rw [h.1] at q; cases q
  | .key _, _, _, h => fun a q => by rw [h.1] at q; cases q
  | .tpx _, _, _, h => fun a q => by rw [h.1] at q; cases q
  | .exn _, _, _, h => fun a q => by rw [h.1] at q; cases q
  | .dcL _, _, _, h => fun a q => by rw [h.1] at q; cases q
  | .dcN _, _, _, ⟨p, as, e, e2, t, z⟩ => fun a q => by rw [e2] at q; rw [List.mem_singleton.mp q]; exact ⟨_, t, trivial⟩
  | .lkT _, _, _, h => fun a q => by rw [h.1] at q; cases q
  | .any, _, _, h => fun a q => by rw [h.1] at q; cases q
  | .kst ds, v, _, h => fun a q => by rw [h.1] at q; cases q
  | .tup ds, _, fp, ⟨p, vs, e, t, r⟩ => Rs.mu ds vs fp r
  | .lsA _ _, _, _, ⟨_, h⟩ => h.2.1.elim
  | .lst ds, _, fp, ⟨p, vs, fps, e, e2, t, r⟩ => fun a q => by
    rw [e2] at q
    rcases List.mem_cons.mp q with rfl | q
    · exact ⟨_, t, trivial⟩
    · exact Rs.mu ds vs fps r a q
  | .dcT ks ds, _, fp, ⟨p, vs, fps, e, e2, t, _, r⟩ => fun a q => by
    rw [e2] at q
    rcases List.mem_cons.mp q with rfl | q
    · exact ⟨_, t, trivial⟩
    · exact Rs.mu ds _ fps r a q
  | .dcK ks ds, _, fp, ⟨p, vs, fps, e, e2, t, _, r⟩ => fun a q => by
    rw [e2] at q
    rcases List.mem_cons.mp q with rfl | q
    · exact ⟨_, t, trivial⟩
    · exact Rs.mu ds _ fps r a q
  | .obj C ns ds, _, fp, ⟨p, dx, fs, fps, e, e2, t, _, r⟩ => fun a q => by
    rw [e2] at q
    rcases List.mem_cons.mp q with rfl | q
    · exact ⟨_, t, trivial⟩
    · exact Rs.mu ds _ fps r a q
  | .frz d, v, _, h => fun a q => by rw [h.1] at q; cases q
theorem Rs.mu : ∀ (ds : List D) (vs : List V) (fp : List Addr), Rs K A H ds vs fp → ∀ a ∈ fp, ∃ o, H a = some o ∧ Mu o
  | [], _, _, h => fun a q => by rw [h.2] at q; cases q
  | d :: ds, _, fp, ⟨w, ws, f1, f2, e, e2, h, r⟩ => fun a q => by
    rw [e2] at q
    rcases List.mem_append.mp q with q | q
    · exact R.mu d w f1 h a q
    · exact Rs.mu ds ws f2 r a q
end
theorem Rs.nil : Rs K A H [] [] [] := ⟨rfl, rfl⟩
theorem Rs.cons {d : D} {v : V} {ds : List D} {vs : List V} {f g : List Addr} (h : R K A H d v f) (t : Rs K A H ds vs g) : Rs K A H (d :: ds) (v :: vs) (f ++ g) := ⟨v, vs, f, g, rfl, rfl, h, t⟩
theorem Rs.len : ∀ {ds : List D} {vs : List V} {fp : List Addr}, Rs K A H ds vs fp → vs.length = ds.length
  | [], _, _, h => by rw [h.1]; rfl
  | d :: ds, _, _, ⟨w, ws, _, _, e, _, _, t⟩ => by rw [e, List.length_cons, List.length_cons, Rs.len t]
theorem Rs.append : ∀ {ds es : List D} {vs ws : List V} {f g : List Addr}, Rs K A H ds vs f → Rs K A H es ws g → Rs K A H (ds ++ es) (vs ++ ws) (f ++ g)
  | [], _, _, _, _, _, h, t => by rw [h.1, h.2]; exact t
  | d :: ds, _, _, _, _, _, ⟨w, ws, f1, f2, e, e2, h, t⟩, q => by subst e e2; rw [List.append_assoc]; exact .cons h (Rs.append t q)
theorem Rs.one {d : D} {v : V} {f : List Addr} (h : R K A H d v f) : Rs K A H [d] [v] f := ⟨v, [], f, [], rfl, (List.append_nil f).symm, h, .nil⟩
theorem Rs.split : ∀ {ds : List D} {vs : List V} {fp : List Addr} {j : Nat} {d : D}, Rs K A H ds vs fp → ds[j]? = some d →
    ∃ w f1 f2 f3, vs[j]? = some w ∧ fp = f1 ++ (f2 ++ f3) ∧ Rs K A H (ds.take j) (vs.take j) f1 ∧ R K A H d w f2 ∧ Rs K A H (ds.drop (j + 1)) (vs.drop (j + 1)) f3
  | [], _, _, _, _, _, e => by simp at e
  | d :: ds, _, _, 0, x, ⟨w, ws, f1, f2, e, e2, h, t⟩, q => by
    have : d = x := Option.some.inj q
    subst this e e2
    exact ⟨w, [], f1, f2, rfl, rfl, .nil, h, t⟩
  | d :: ds, _, _, j + 1, x, ⟨w, ws, f1, f2, e, e2, h, t⟩, q => by
    subst e e2
    obtain ⟨y, g1, g2, g3, a, b, c, d', e'⟩ := Rs.split (j := j) t q
    exact ⟨y, f1 ++ g1, g2, g3, a, by rw [b, List.append_assoc], .cons h c, d', e'⟩
theorem set_split {α : Type} {l : List α} {j : Nat} {x y : α} (h : l[j]? = some x) : l.set j y = l.take j ++ y :: l.drop (j + 1) := by
  have hl : j < l.length := (List.getElem?_eq_some_iff.mp h).1
  rw [List.set_eq_take_append_cons_drop, if_pos hl]
theorem Rs.put {ds : List D} {vs : List V} {j : Nat} {d d' : D} {w w' : V} {f1 f2 f3 : List Addr} (hd : ds[j]? = some d) (hv : vs[j]? = some w)
    (h1 : Rs K A H (ds.take j) (vs.take j) f1) (h2 : R K A H d' w' f2) (h3 : Rs K A H (ds.drop (j + 1)) (vs.drop (j + 1)) f3) : Rs K A H (ds.set j d') (vs.set j w') (f1 ++ (f2 ++ f3)) := by
  rw [set_split hd, set_split hv]
  exact h1.append (.cons h2 h3)
theorem Rs.take : ∀ {ds : List D} {vs : List V} {fp : List Addr} (n : Nat), Rs K A H ds vs fp → ∃ f1 f2, fp = f1 ++ f2 ∧ Rs K A H (ds.take n) (vs.take n) f1 ∧ Rs K A H (ds.drop n) (vs.drop n) f2
  | _, _, fp, 0, h => ⟨[], fp, rfl, by simp; exact .nil, h⟩
  | [], _, fp, n + 1, h => by obtain ⟨e1, e2⟩ := h; subst e1 e2; exact ⟨[], [], rfl, .nil, .nil⟩
  | d :: ds, _, _, n + 1, ⟨w, ws, f1, f2, e, e2, h, t⟩ => by
    subst e e2
    obtain ⟨g1, g2, a, b, c⟩ := Rs.take n t
    exact ⟨f1 ++ g1, g2, by rw [a, List.append_assoc], .cons h b, c⟩
theorem set_same {α : Type} {l : List α} {j : Nat} {x : α} (h : l[j]? = some x) : l.set j x = l := by
  apply List.ext_getElem?
  intro i
  by_cases hi : j = i
  · subst hi
    rw [List.getElem?_set_self (List.getElem?_eq_some_iff.mp h).1, h]
  · rw [List.getElem?_set_ne hi]
end

section
variable {K : Frg} {A : Addr → Prop} {H H1 : Hp}
def Zip (K : Frg) (A : Addr → Prop) (H : Hp) (d : D) (v : V) (fp : List Addr) (rb : D → D) (e : D) (w : V) (fe : List Addr) : Prop :=
  ∃ f1 f2, fp = f1 ++ (fe ++ f2) ∧ R K A H e w fe ∧ ∀ (H' : Hp) (A' : Addr → Prop) (e' : D) (fe' : List Addr), (∀ a, A a → A' a) → KeepF A (f1 ++ f2) H H' → R K A' H' e' w fe' → R K A' H' (rb e') v (f1 ++ (fe' ++ f2))
theorem Zip.root {d : D} {v : V} {fp : List Addr} (h : R K A H d v fp) : Zip K A H d v fp id d v fp :=
  ⟨[], [], by simp, h, fun H' A' e' fe' _ _ r => by simpa using r⟩
theorem keepF_trans {fp : List Addr} {H2 : Hp} (k : KeepF A fp H H1) (k2 : KeepF A fp H1 H2) : KeepF A fp H H2 := fun a o e h => k2 a o (k a o e h) h
theorem Zip.keep {d : D} {v : V} {fp : List Addr} {rb : D → D} {e : D} {w : V} {fe : List Addr} (z : Zip K A H d v fp rb e w fe) (k : KeepF A fp H H1) : Zip K A H1 d v fp rb e w fe := by
  obtain ⟨f1, f2, e1, r, g⟩ := z
  subst e1
  have k1 : KeepF A fe H H1 := k.sub fun a h => by simp [h]
  have k2 : KeepF A (f1 ++ f2) H H1 := k.sub fun a h => by
    rcases List.mem_append.mp h with h | h <;> simp [h]
  exact ⟨f1, f2, rfl, R.keep _ _ _ k1 r, fun H' A' e' fe' m k' r' => g H' A' e' fe' m (keepF_trans k2 k') r'⟩
theorem mem3 {a : Addr} {f1 f2 g1 g2 : List Addr} {p : Addr} : a ∈ f1 ++ f2 → a ∈ (f1 ++ p :: g1) ++ (g2 ++ f2) := fun h => by
  rcases List.mem_append.mp h with h | h <;> simp [h]
theorem Zip.step_tup {d : D} {v : V} {fp : List Addr} {rb : D → D} {ds : List D} {w : V} {fe : List Addr} {j : Nat} {c : D} (z : Zip K A H d v fp rb (.tup ds) w fe) (hj : ds[j]? = some c) :
    ∃ p vs w' fc, w = .ref p ∧ SqT K H p vs ∧ vs.length = ds.length ∧ vs[j]? = some w' ∧ Zip K A H d v fp (fun c' => rb (.tup (ds.set j c'))) c w' fc := by
  obtain ⟨f1, f2, e1, ⟨p, vs, rfl, t, r⟩, g⟩ := z
  obtain ⟨w', g1, fc, g3, hw, e2, r1, r2, r3⟩ := Rs.split r hj
  subst e1 e2
  refine ⟨p, vs, w', fc, rfl, t, r.len, hw, f1 ++ g1, g3 ++ f2, by simp [List.append_assoc], r2, fun H' A' e' fe' m k r' => ?_⟩
  have q := g H' A' (.tup (ds.set j e')) (g1 ++ (fe' ++ g3)) m (k.sub fun a h => by rcases List.mem_append.mp h with h | h <;> simp [h])
    ⟨p, vs.set j w', rfl, by rw [set_same hw]; exact SqT.keep k.keep t, Rs.put hj hw (Rs.mono m _ _ _ (Rs.keep _ _ _ (k.sub fun a h => by simp [h]) r1)) r' (Rs.mono m _ _ _ (Rs.keep _ _ _ (k.sub fun a h => by simp [h]) r3))⟩
  simpa [List.append_assoc] using q
theorem Zip.step_lst {d : D} {v : V} {fp : List Addr} {rb : D → D} {ds : List D} {w : V} {fe : List Addr} {j : Nat} {c : D} (z : Zip K A H d v fp rb (.lst ds) w fe) (hj : ds[j]? = some c) :
    ∃ p vs w' fc, w = .ref p ∧ H p = some (.lst vs) ∧ vs.length = ds.length ∧ vs[j]? = some w' ∧ Zip K A H d v fp (fun c' => rb (.lst (ds.set j c'))) c w' fc := by
  obtain ⟨f1, f2, e1, ⟨p, vs, fps, rfl, e2, t, r⟩, g⟩ := z
  obtain ⟨w', g1, fc, g3, hw, e3, r1, r2, r3⟩ := Rs.split r hj
  subst e1 e2 e3
  refine ⟨p, vs, w', fc, rfl, t, r.len, hw, f1 ++ p :: g1, g3 ++ f2, by simp [List.append_assoc], r2, fun H' A' e' fe' m k r' => ?_⟩
  have q := g H' A' (.lst (ds.set j e')) (p :: (g1 ++ (fe' ++ g3))) m (k.sub fun a h => mem3 h)
    ⟨p, vs.set j w', _, rfl, rfl, by rw [set_same hw]; exact k _ _ t (.inl (by simp)), Rs.put hj hw (Rs.mono m _ _ _ (Rs.keep _ _ _ (k.sub fun a h => by simp [h]) r1)) r' (Rs.mono m _ _ _ (Rs.keep _ _ _ (k.sub fun a h => by simp [h]) r3))⟩
  simpa [List.append_assoc] using q
end

def Shal (K : Frg) (H : Hp) : D → V → Prop
  | .lst ds, v => ∃ p vs, v = .ref p ∧ H p = some (.lst vs) ∧ RAs K No H ds vs
  | .kst ds, v => ∃ p vs, v = .ref p ∧ SqL K (lockd H) p vs ∧ RAs K No H ds vs
  | .dcT ks ds, v => ∃ p kvs, v = .ref p ∧ Rd H p (.dT kvs) ∧ kvs.map (·.1) = ks ∧ RAs K No H ds (kvs.map (·.2))
  | .dcK ks ds, v => ∃ p kvs, v = .ref p ∧ Rd H p (.dK kvs) ∧ kvs.map (·.1) = ks ∧ RAs K No H ds (kvs.map (·.2))
  | _, _ => False
def VR (K : Frg) (A : Addr → Prop) (H : Hp) : KD → V → List Addr → Prop
  | (.fl, d), v, f => f = [] ∧ RA K No H d v
  | (.sa, d), v, f => f = [] ∧ RA K A H d v ∧ Shal K H d v
  | (.rd, d), v, f => f = [] ∧ RA K A H d v
  | (.sh, d), v, f => R K No H d v f ∧ Shal K H d v
  | (.ow, d), v, f => R K No H d v f
def Slot (K : Frg) (A : Addr → Prop) (H : Hp) : Sl → Option V → List Addr → Prop
  | none, _, f => f = []
  | some kd, x, f => ∃ v, x = some v ∧ VR K A H kd v f
def RepS (K : Frg) (A : Addr → Prop) (H : Hp) : List Sl → L2.St → List Addr → Prop
  | [], σ, ow => σ = [] ∧ ow = []
  | s :: ρ, σ, ow => ∃ x σ' f g, σ = x :: σ' ∧ ow = f ++ g ∧ Slot K A H s x f ∧ RepS K A H ρ σ' g
structure Good (K : Frg) (A : Addr → Prop) (H : Hp) (ρ : List Sl) (σ : L2.St) (ow : List Addr) : Prop where
  rep : RepS K A H ρ σ ow
  nd : ow.Nodup
  dis : ∀ a ∈ ow, ¬ A a
  tr : ∀ a, A a → ∃ o, H a = some o
structure Stp (H : Hp) (ow : List Addr) (A : Addr → Prop) (H' : Hp) (ow' : List Addr) (A' : Addr → Prop) : Prop where
  same : ∀ a o, H a = some o → a ∉ ow → H' a = some o
  own : ∀ a ∈ ow', a ∈ ow ∨ H a = none
  up : ∀ a, A a → A' a
  fr : ∀ a, A' a → A a ∨ a ∈ ow ∨ H a = none
section
variable {K : Frg} {A A' A1 A2 : Addr → Prop} {H H' H1 H2 : Hp} {ow ow' ow1 ow2 : List Addr}
theorem Shal.keep {d : D} {v : V} (k : ∀ p u, v = .ref p → H p = some u → H' p = some u) (k2 : Keep No H H') (h : Shal K H d v) : Shal K H' d v := by
  have k' : ∀ p u, v = .ref p → Rd H p u → Rd H' p u := fun p u e r => by
    rcases r with r | ⟨o, r⟩
    · exact .inl (k p _ e r)
    · exact .inr ⟨o, k p _ e r⟩
  cases d <;> first
    | exact h.elim
    | (obtain ⟨p, vs, e, t, r⟩ := h; exact ⟨p, vs, e, k p _ e t, RAs.keep k2 _ _ r⟩)
    | (obtain ⟨p, vs, e, t, r⟩ := h; exact ⟨p, vs, e, kst_keep k2 t, RAs.keep k2 _ _ r⟩)
    | (obtain ⟨p, vs, e, t, q, r⟩ := h; exact ⟨p, vs, e, k' p _ e t, q, RAs.keep k2 _ _ r⟩)
theorem Rd.same {p : Addr} {u : HO} (s : Same H H') (r : Rd H p u) : Rd H' p u := by
  rcases r with r | ⟨o, r⟩
  · exact .inl (s _ _ r)
  · exact .inr ⟨o, s _ _ r⟩
theorem Shal.same {d : D} {v : V} (s : Same H H') (h : Shal K H d v) : Shal K H' d v := h.keep (fun _ _ _ r => s _ _ r) (Keep.of_same s)
theorem VR.keep {kd : KD} {v : V} {f : List Addr} (k : KeepF A f H H') (h : VR K A H kd v f) : VR K A H' kd v f := by
  obtain ⟨c, d⟩ := kd
  cases c with
  | fl => exact ⟨h.1, RA.keep k.keep.no _ _ h.2⟩
  | rd => exact ⟨h.1, RA.keep k.keep _ _ h.2⟩
  | ow => exact R.keep _ _ _ k.no h
  | sa =>
    refine ⟨h.1, RA.keep k.keep _ _ h.2.1, ?_⟩
    have h1 := h.2.1
    have h2 := h.2.2
    cases d <;> first
      | exact h2.elim
      | (obtain ⟨p, vs, e, a, t, r⟩ := h1; refine h2.keep (fun p' u e' q => ?_) k.keep.no; rw [e] at e'; cases e'; exact k.keep _ _ q (.inl a))
      | (obtain ⟨p, vs, e, t, r⟩ := h2; exact ⟨p, vs, e, kst_keep k.keep.no t, RAs.keep k.keep.no _ _ r⟩)
      | (obtain ⟨p, vs, e, a, t, q', r⟩ := h1; refine h2.keep (fun p' u e' q => ?_) k.keep.no; rw [e] at e'; cases e'; exact k.keep _ _ q (.inl a))
  | sh =>
    refine ⟨R.keep _ _ _ k.no h.1, ?_⟩
    have h1 := h.1
    have h2 := h.2
    have q0 : ∀ p, p ∈ f → ∀ u, H p = some u → H' p = some u := fun p hp u r => k _ _ r (.inl hp)
    cases d <;> first
      | exact h2.elim
      | (obtain ⟨p, vs, fps, e, e2, t, r⟩ := h1; refine h2.keep (fun p' u e' q => ?_) k.keep.no; rw [e] at e'; cases e'; exact q0 p (by rw [e2]; exact List.mem_cons_self) u q)
      | (obtain ⟨p, vs, e, t, r⟩ := h2; exact ⟨p, vs, e, kst_keep k.keep.no t, RAs.keep k.keep.no _ _ r⟩)
      | (obtain ⟨p, vs, fps, e, e2, t, q', r⟩ := h1; refine h2.keep (fun p' u e' q => ?_) k.keep.no; rw [e] at e'; cases e'; exact q0 p (by rw [e2]; exact List.mem_cons_self) u q)
theorem VR.mono {kd : KD} {v : V} {f : List Addr} (m : ∀ a, A a → A' a) (h : VR K A H kd v f) : VR K A' H kd v f := by
  obtain ⟨c, d⟩ := kd
  cases c with
  | fl => exact h
  | rd => exact ⟨h.1, RA.mono m _ _ h.2⟩
  | ow => exact h
  | sa => exact ⟨h.1, RA.mono m _ _ h.2.1, h.2.2⟩
  | sh => exact h
theorem Slot.keep {s : Sl} {x : Option V} {f : List Addr} (k : KeepF A f H H') (h : Slot K A H s x f) : Slot K A H' s x f := by
  cases s with
  | none => exact h
  | some kd => obtain ⟨v, e, h⟩ := h; exact ⟨v, e, h.keep k⟩
theorem Slot.mono {s : Sl} {x : Option V} {f : List Addr} (m : ∀ a, A a → A' a) (h : Slot K A H s x f) : Slot K A' H s x f := by
  cases s with
  | none => exact h
  | some kd => obtain ⟨v, e, h⟩ := h; exact ⟨v, e, h.mono m⟩
theorem RepS.keep : ∀ {ρ : List Sl} {σ : L2.St} {ow : List Addr}, KeepF A ow H H' → RepS K A H ρ σ ow → RepS K A H' ρ σ ow
  | [], _, _, _, h => h
  | s :: ρ, _, _, k, ⟨x, σ', f, g, e, e2, h, r⟩ => ⟨x, σ', f, g, e, e2, h.keep (k.sub fun a q => by rw [e2]; exact List.mem_append_left _ q), RepS.keep (k.sub fun a q => by rw [e2]; exact List.mem_append_right _ q) r⟩
theorem RepS.mono (m : ∀ a, A a → A' a) : ∀ {ρ : List Sl} {σ : L2.St} {ow : List Addr}, RepS K A H ρ σ ow → RepS K A' H ρ σ ow
  | [], _, _, h => h
  | s :: ρ, _, _, ⟨x, σ', f, g, e, e2, h, r⟩ => ⟨x, σ', f, g, e, e2, h.mono m, RepS.mono m r⟩
theorem RepS.len : ∀ {ρ : List Sl} {σ : L2.St} {ow : List Addr}, RepS K A H ρ σ ow → σ.length = ρ.length
  | [], _, _, h => by rw [h.1]; rfl
  | s :: ρ, _, _, ⟨x, σ', f, g, e, e2, h, r⟩ => by rw [e, List.length_cons, List.length_cons, RepS.len r]
theorem RepS.split : ∀ {ρ : List Sl} {σ : L2.St} {ow : List Addr} {i : Nat} {s : Sl}, RepS K A H ρ σ ow → ρ[i]? = some s →
    ∃ x f1 f2 f3, σ[i]? = some x ∧ ow = f1 ++ (f2 ++ f3) ∧ Slot K A H s x f2 ∧
      ∀ (H' : Hp) (A' : Addr → Prop) (s' : Sl) (x' : Option V) (f2' : List Addr), (∀ a, A a → A' a) → KeepF A (f1 ++ f3) H H' → Slot K A' H' s' x' f2' → RepS K A' H' (ρ.set i s') (σ.set i x') (f1 ++ (f2' ++ f3))
  | [], _, _, _, _, _, e => by simp at e
  | t :: ρ, _, _, 0, s, ⟨x, σ', f, g, e, e2, h, r⟩, q => by
    have : t = s := Option.some.inj q
    subst this e e2
    exact ⟨x, [], f, g, rfl, rfl, h, fun H' A' s' x' f2' m k h' => ⟨x', σ', f2', g, rfl, rfl, h', RepS.mono m (RepS.keep (k.sub fun a z => by simpa using z) r)⟩⟩
  | t :: ρ, _, _, i + 1, s, ⟨x, σ', f, g, e, e2, h, r⟩, q => by
    subst e e2
    obtain ⟨y, f1, f2, f3, a, b, c, d⟩ := RepS.split (i := i) r q
    subst b
    refine ⟨y, f ++ f1, f2, f3, a, by rw [List.append_assoc], c, fun H' A' s' x' f2' m k h' => ?_⟩
    refine ⟨x, σ'.set i x', f, f1 ++ (f2' ++ f3), rfl, by rw [List.append_assoc], (h.keep (k.sub fun a z => by simp [z])).mono m, d H' A' s' x' f2' m (k.sub fun a z => ?_) h'⟩
    rcases List.mem_append.mp z with z | z <;> simp [z]
theorem RepS.mu : ∀ {ρ : List Sl} {σ : L2.St} {ow : List Addr}, RepS K A H ρ σ ow → ∀ a ∈ ow, ∃ o, H a = some o ∧ Mu o
  | [], _, _, h => fun a q => by rw [h.2] at q; cases q
  | s :: ρ, _, _, ⟨x, σ', f, g, e, e2, h, r⟩ => fun a q => by
    rw [e2] at q
    rcases List.mem_append.mp q with q | q
    · cases s with
      | none => rw [show f = [] from h] at q; cases q
      | some kd =>
        obtain ⟨v, _, h⟩ := h
        obtain ⟨c, d⟩ := kd
        cases c with
        | fl => rw [h.1] at q; cases q
        | rd => rw [h.1] at q; cases q
        | sa => rw [h.1] at q; cases q
        | ow => exact R.mu _ _ _ h a q
        | sh => exact R.mu _ _ _ h.1 a q
    · exact RepS.mu r a q
theorem Stp.refl : Stp H ow A H ow A := ⟨fun _ _ e _ => e, fun _ h => .inl h, fun _ h => h, fun _ h => .inl h⟩
theorem Stp.of_same (s : Same H H') : Stp H ow A H' ow A := ⟨fun a o e _ => s a o e, fun _ h => .inl h, fun _ h => h, fun _ h => .inl h⟩
theorem Stp.none (s : Stp H ow A H1 ow1 A1) {a : Addr} (h : H1 a = none) : a ∈ ow ∨ H a = none := by
  cases e : H a with
  | none => exact .inr rfl
  | some o =>
    refine .inl (Classical.byContradiction fun z => ?_)
    rw [s.same a o e z] at h; cases h
theorem Stp.trans (s : Stp H ow A H1 ow1 A1) (t : Stp H1 ow1 A1 H2 ow2 A2) : Stp H ow A H2 ow2 A2 where
  same := fun a o e n => t.same a o (s.same a o e n) fun z => by
    rcases s.own a z with z | z
    · exact n z
    · rw [e] at z; cases z
  own := fun a h => by
    rcases t.own a h with z | z
    · exact s.own a z
    · exact s.none z
  up := fun a h => t.up a (s.up a h)
  fr := fun a h => by
    rcases t.fr a h with z | z | z
    · exact s.fr a z
    · exact .inr (s.own a z)
    · exact .inr (s.none z)
theorem Stp.sub {ow0 : List Addr} (s : Stp H ow A H' ow' A') (h : ∀ a ∈ ow0, a ∈ ow') : Stp H ow A H' ow0 A' := ⟨s.same, fun a z => s.own a (h a z), s.up, s.fr⟩
theorem Good.keepA {ρ : List Sl} {σ : L2.St} (g : Good K A H ρ σ ow) (s : Stp H ow A H' ow' A') : Keep A H H' := fun a o e h => s.same a o e fun z => by
  rcases h with h | h
  · exact g.dis a z h
  · obtain ⟨u, e', m⟩ := g.rep.mu a z
    rw [e] at e'; cases e'
    exact m.notImm h
theorem Good.same {ρ : List Sl} {σ : L2.St} (g : Good K A H ρ σ ow) (s : Same H H') : Good K A H' ρ σ ow :=
  ⟨g.rep.keep (KeepF.of_same s), g.nd, g.dis, fun a h => let ⟨o, e⟩ := g.tr a h; ⟨o, s a o e⟩⟩
end
end DL

namespace DL
open PySem PySem.Spec PyProof.Rows L2

abbrev Ro := List Sl
abbrev PF := Ro → (KD → Prop) → Prop
abbrev PTF := Ro → (Bool → Prop) → Prop
abbrev PAF := Ro → (List KD → Prop) → Prop
abbrev BB (A : Addr → Prop) (ow : List Addr) : Addr → Prop := fun a => A a ∨ a ∈ ow
abbrev Fre (H : Hp) : Addr → Prop := fun a => H a = none
abbrev Or2 (B F : Addr → Prop) : Addr → Prop := fun a => B a ∨ F a
def PR (K : Frg) (B F : Addr → Prop) (H : Hp) (v : V) (z : KD) : Prop := ∃ fp, VR K (Or2 B F) H z v fp ∧ fp.Nodup ∧ ∀ a ∈ fp, F a
def VRs (K : Frg) (A : Addr → Prop) (H : Hp) : List KD → List V → List Addr → Prop
  | [], vs, fp => vs = [] ∧ fp = []
  | z :: zs, vs, fp => ∃ w ws f1 f2, vs = w :: ws ∧ fp = f1 ++ f2 ∧ VR K A H z w f1 ∧ VRs K A H zs ws f2
def PRs (K : Frg) (B F : Addr → Prop) (H : Hp) (vs : List V) (zs : List KD) : Prop := ∃ fp, VRs K (Or2 B F) H zs vs fp ∧ fp.Nodup ∧ ∀ a ∈ fp, F a

def PSound (K : Frg) (t : TE) (f : PF) : Prop := ∀ (σ : L2.St) (H : Hp) (A : Addr → Prop) (ρ : Ro) (ow : List Addr) (Q : VK) (P : KD → Prop), Good K A H ρ σ ow → f ρ P →
  (∀ z v H', P z → Same H H' → PR K (BB A ow) (Fre H) H' v z → Q v H') → t σ H Q
def TSound (K : Frg) (t : TT) (f : PTF) : Prop := ∀ (σ : L2.St) (H : Hp) (A : Addr → Prop) (ρ : Ro) (ow : List Addr) (Q : Bool → Hp → Prop) (P : Bool → Prop), Good K A H ρ σ ow → f ρ P →
  (∀ b H', P b → Same H H' → Q b H') → t σ H Q
def ASound (K : Frg) (n : Nat) (t : TA) (f : PAF) : Prop := ∀ (σ : L2.St) (H : Hp) (A : Addr → Prop) (ρ : Ro) (ow : List Addr) (Q : List V → Hp → Prop) (P : List KD → Prop), Good K A H ρ σ ow → f ρ P →
  (∀ zs vs H', zs.length = n → P zs → Same H H' → PRs K (BB A ow) (Fre H) H' vs zs → Q vs H') → t σ H Q
structure DP (X : Cx) (e : Expr) (f : PF) : Prop where
  run : ∃ t, PE X e t ∧ PSound X.K t f
structure DT (X : Cx) (e : Expr) (f : PTF) : Prop where
  run : ∃ t, PT X e t ∧ TSound X.K t f
structure DA (X : Cx) (es : List Expr) (n : Nat) (f : PAF) : Prop where
  run : ∃ t, PA X es t ∧ ASound X.K n t f

section
variable {K : Frg} {A B B' F F' : Addr → Prop} {H H' H1 : Hp}
theorem VR.same {z : KD} {v : V} {f : List Addr} (s : Same H H') (h : VR K A H z v f) : VR K A H' z v f := h.keep (KeepF.of_same s)
theorem VRs.same (s : Same H H') : ∀ {zs : List KD} {vs : List V} {f : List Addr}, VRs K A H zs vs f → VRs K A H' zs vs f
  | [], _, _, h => h
  | z :: zs, _, _, ⟨w, ws, f1, f2, e, e2, h, t⟩ => ⟨w, ws, f1, f2, e, e2, h.same s, VRs.same s t⟩
theorem VRs.mono (m : ∀ a, A a → B a) : ∀ {zs : List KD} {vs : List V} {f : List Addr}, VRs K A H zs vs f → VRs K B H zs vs f
  | [], _, _, h => h
  | z :: zs, _, _, ⟨w, ws, f1, f2, e, e2, h, t⟩ => ⟨w, ws, f1, f2, e, e2, h.mono m, VRs.mono m t⟩
theorem _root_.L2.Same.fre (s : Same H H') : ∀ a, Fre H' a → Fre H a := fun a h => s.free h
theorem PR.same {v : V} {z : KD} (s : Same H H') (h : PR K B F H v z) : PR K B F H' v z := let ⟨fp, a, b, c⟩ := h; ⟨fp, a.same s, b, c⟩
theorem PR.mono {v : V} {z : KD} (m : ∀ a, B a → B' a) (n : ∀ a, F a → F' a) (h : PR K B F H v z) : PR K B' F' H v z :=
  let ⟨fp, a, b, c⟩ := h; ⟨fp, a.mono (fun x h => h.imp (m x) (n x)), b, fun x h => n x (c x h)⟩
theorem PRs.same {v : List V} {z : List KD} (s : Same H H') (h : PRs K B F H v z) : PRs K B F H' v z := let ⟨fp, a, b, c⟩ := h; ⟨fp, a.same s, b, c⟩
theorem PRs.mono {v : List V} {z : List KD} (m : ∀ a, B a → B' a) (n : ∀ a, F a → F' a) (h : PRs K B F H v z) : PRs K B' F' H v z :=
  let ⟨fp, a, b, c⟩ := h; ⟨fp, a.mono (fun x h => h.imp (m x) (n x)), b, fun x h => n x (c x h)⟩
theorem VR.mu {z : KD} {v : V} {f : List Addr} (h : VR K A H z v f) : ∀ a ∈ f, ∃ o, H a = some o ∧ Mu o := by
  obtain ⟨k, d⟩ := z
  cases k with
  | fl => intro a q; rw [h.1] at q; cases q
  | rd => intro a q; rw [h.1] at q; cases q
  | sa => intro a q; rw [h.1] at q; cases q
  | sh => exact R.mu _ _ _ h.1
  | ow => exact R.mu _ _ _ h
theorem VRs.mu : ∀ {zs : List KD} {vs : List V} {f : List Addr}, VRs K A H zs vs f → ∀ a ∈ f, ∃ o, H a = some o ∧ Mu o
  | [], _, _, h => fun a q => by rw [h.2] at q; cases q
  | z :: zs, _, _, ⟨w, ws, f1, f2, e, e2, h, t⟩ => fun a q => by
    rw [e2] at q
    rcases List.mem_append.mp q with q | q
    · exact h.mu a q
    · exact VRs.mu t a q
theorem VR.ra {z : KD} {v : V} {f : List Addr} (h : VR K A H z v f) (m : ∀ a, A a → B a) (n : ∀ a ∈ f, B a) : RA K B H z.2 v := by
  obtain ⟨k, d⟩ := z
  cases k with
  | fl => exact RA.no h.2
  | rd => exact RA.mono m _ _ h.2
  | sa => exact RA.mono m _ _ h.2.1
  | sh => exact R.ra (fun _ z => z.elim) _ _ _ n h.1
  | ow => exact R.ra (fun _ z => z.elim) _ _ _ n h
theorem PR.ra {v : V} {z : KD} (h : PR K B F H v z) : RA K (Or2 B F) H z.2 v := let ⟨_, a, _, c⟩ := h; a.ra (fun _ h => h) fun x h => .inr (c x h)
theorem PR.fl {v : V} {d : D} (h : RA K No H d v) : PR K B F H v (.fl, d) := ⟨[], ⟨rfl, h⟩, List.nodup_nil, fun _ z => nomatch z⟩
theorem PR.rd {v : V} {d : D} (h : RA K (Or2 B F) H d v) : PR K B F H v (.rd, d) := ⟨[], ⟨rfl, h⟩, List.nodup_nil, fun _ z => nomatch z⟩
theorem PR.bl {b : Bool} : PR K B F H (.bl b) (.fl, .bl b) := .fl rfl
theorem PR.int {b : Int} : PR K B F H (.int b) (.fl, .int b) := .fl rfl
theorem PR.str {b : Str} : PR K B F H (.str b) (.fl, .str b) := .fl rfl
theorem PRs.nil : PRs K B F H [] [] := ⟨[], ⟨rfl, rfl⟩, List.nodup_nil, fun _ z => nomatch z⟩

def D.seq : D → Option (List D)
  | .tup ds => some ds
  | .lst ds => some ds
  | .kst ds => some ds
  | _ => none
def Kd.el : Kd → Kd
  | .fl => .fl
  | .sh => .fl
  | .sa => .fl
  | .rd => .rd
  | .ow => .rd
def Kd.elA (k : Kd) (B F : Addr → Prop) : Addr → Prop := match k with
  | .fl => No
  | .sh => No
  | .sa => No
  | .rd => Or2 B F
  | .ow => Or2 B F
def kel (k : Kd) (d : D) : KD := match d with
  | .non => (.fl, d)
  | .bl _ => (.fl, d)
  | .int _ => (.fl, d)
  | .str _ => (.fl, d)
  | _ => (k.el, d)
theorem pr_kel {k : Kd} {d : D} {w : V} (h : RA K (k.elA B F) H d w) : PR K B F H w (kel k d) := by
  have g : PR K B F H w (k.el, d) := by
    cases k with
    | fl => exact .fl h
    | sh => exact .fl h
    | sa => exact .fl h
    | rd => exact .rd h
    | ow => exact .rd h
  cases d <;> first | exact g | exact .fl h
theorem RA.seq {d : D} {ds : List D} {v : V} (h : RA K A H d v) (e : d.seq = some ds) : ∃ p vs, v = .ref p ∧ (SqL K H p vs ∨ SqT K H p vs) ∧ RAs K A H ds vs := by
  cases d <;> first
    | (cases e; done)
    | (cases e; obtain ⟨p, vs, e, t, r⟩ := h; exact ⟨p, vs, e, .inr t, r⟩)
    | (cases e; obtain ⟨p, vs, e, _, t, r⟩ := h; exact ⟨p, vs, e, .inl (.of t), r⟩)
    | (cases e; obtain ⟨p, vs, e, t, r⟩ := h; exact ⟨p, vs, e, .inl (kst_seq t), r⟩)
theorem Shal.seq {d : D} {ds : List D} {v : V} (h : Shal K H d v) (e : d.seq = some ds) : ∃ p vs, v = .ref p ∧ (SqL K H p vs ∨ SqT K H p vs) ∧ RAs K No H ds vs := by
  cases d <;> first
    | (cases e; done)
    | exact h.elim
    | (cases e; obtain ⟨p, vs, e, t, r⟩ := h; exact ⟨p, vs, e, .inl (.of t), r⟩)
    | (cases e; obtain ⟨p, vs, e, t, r⟩ := h; exact ⟨p, vs, e, .inl (kst_seq t), r⟩)
theorem PR.seq {k : Kd} {d : D} {ds : List D} {v : V} (h : PR K B F H v (k, d)) (e : d.seq = some ds) :
    ∃ p vs, v = .ref p ∧ (SqL K H p vs ∨ SqT K H p vs) ∧ RAs K (k.elA B F) H ds vs := by
  cases k with
  | fl => obtain ⟨_, a, _⟩ := h; exact a.2.seq e
  | rd => exact h.ra.seq e
  | ow => exact h.ra.seq e
  | sh => obtain ⟨_, a, _⟩ := h; exact a.2.seq e
  | sa => obtain ⟨_, a, _⟩ := h; exact a.2.2.seq e
theorem PR.lstT {k : Kd} {ds : List D} {v : V} (h : PR K B F H v (k, .lst ds)) : ∃ p vs, v = .ref p ∧ H p = some (.lst vs) ∧ RAs K (k.elA B F) H ds vs := by
  have q : ∃ p vs, v = .ref p ∧ H p = some (.lst vs) ∧ RAs K (Or2 B F) H ds vs := by
    obtain ⟨p, vs, e, _, t, r⟩ := h.ra
    exact ⟨p, vs, e, t, r⟩
  cases k with
  | fl => obtain ⟨_, a, _⟩ := h; obtain ⟨p, vs, e, z, _⟩ := a.2; exact z.elim
  | rd => exact q
  | ow => exact q
  | sh => obtain ⟨_, a, _⟩ := h; obtain ⟨p, vs, e, t, r⟩ := a.2; exact ⟨p, vs, e, t, r⟩
  | sa => obtain ⟨_, a, _⟩ := h; obtain ⟨p, vs, e, t, r⟩ := a.2.2; exact ⟨p, vs, e, t, r⟩
theorem PR.tupT {k : Kd} {ds : List D} {v : V} (h : PR K B F H v (k, .tup ds)) : ∃ p vs, v = .ref p ∧ SqT K H p vs ∧ RAs K (k.elA B F) H ds vs := by
  have q : ∃ p vs, v = .ref p ∧ SqT K H p vs ∧ RAs K (Or2 B F) H ds vs := h.ra
  cases k with
  | fl => obtain ⟨_, a, _⟩ := h; exact a.2
  | rd => exact q
  | ow => exact q
  | sh => obtain ⟨_, a, _⟩ := h; exact a.2.elim
  | sa => obtain ⟨_, a, _⟩ := h; exact a.2.2.elim
theorem RAs.elno {k : Kd} {ds : List D} {vs : List V} (h : RAs K (k.elA B F) H ds vs) (e : k.el = .fl) : RAs K No H ds vs := by
  cases k <;> first | exact h | cases e
theorem RAs.elor {k : Kd} {ds : List D} {vs : List V} (h : RAs K (k.elA B F) H ds vs) : RAs K (Or2 B F) H ds vs := by
  cases k <;> first | exact h | exact RAs.no h
def kT (k : Kd) : Kd := k.el
def kL (k : Kd) : Kd := match k.el with
  | .fl => .sh
  | _ => .rd
theorem kL_fl {k : Kd} (h : k.el = .fl) : kL k = .sh := by unfold kL; rw [h]
theorem kL_rd {k : Kd} (h : k.el ≠ .fl) : kL k = .rd := by cases k <;> first | rfl | exact absurd rfl h
theorem el_cases (k : Kd) : k.el = .fl ∨ k.el = .rd := by cases k <;> first | exact .inl rfl | exact .inr rfl
theorem pr_tup {k : Kd} {ds : List D} {vs : List V} {p : Addr} (hr : RAs K (k.elA B F) H ds vs) (hp : H p = none) : PR K B F (upd H p (.tup vs)) (.ref p) (k.el, .tup ds) := by
  have s : Same H (upd H p (.tup vs)) := fun b o e => by rw [upd_ne (ne_of_none e hp)]; exact e
  rcases el_cases k with e | e
  · rw [e]
    exact .fl ⟨p, vs, rfl, .of upd_same, (hr.elno e).same s⟩
  · rw [e]
    exact .rd ⟨p, vs, rfl, .of upd_same, hr.elor.same s⟩
theorem pr_lst {k : Kd} {ds : List D} {vs : List V} {p : Addr} (hr : RAs K (k.elA B F) H ds vs) (hp : H p = none) (hF : F p) : PR K B F (upd H p (.lst vs)) (.ref p) (kL k, .lst ds) := by
  have s : Same H (upd H p (.lst vs)) := fun b o e => by rw [upd_ne (ne_of_none e hp)]; exact e
  rcases el_cases k with e | e
  · rw [kL_fl e]
    exact ⟨[p], ⟨⟨p, vs, [], rfl, rfl, upd_same, Rs.of0 _ _ ((hr.elno e).same s)⟩, ⟨p, vs, rfl, upd_same, (hr.elno e).same s⟩⟩, by simp, fun a h => by rw [List.mem_singleton.mp h]; exact hF⟩
  · rw [kL_rd (by rw [e]; decide)]
    exact .rd ⟨p, vs, rfl, .inr hF, upd_same, hr.elor.same s⟩
theorem same_upd {p : Addr} {o : HO} (h : H p = none) : Same H (upd H p o) := fun b x e => by
  rw [upd_ne (ne_of_none e h)]
  exact e
end

def Kd.rdk : Kd → Kd
  | .fl => .fl
  | .sh => .sa
  | .sa => .sa
  | .rd => .rd
  | .ow => .rd
section
variable {K : Frg} {A : Addr → Prop} {H : Hp} {σ : L2.St} {ρ : Ro} {ow : List Addr}
theorem Good.slot {i : Nat} {kd : KD} (g : Good K A H ρ σ ow) (e : ρ[i]? = some (some kd)) : ∃ v f, σ[i]? = some (some v) ∧ VR K A H kd v f ∧ f.Nodup ∧ ∀ a ∈ f, a ∈ ow := by
  obtain ⟨x, f1, f2, f3, hx, e2, ⟨v, rfl, h⟩, _⟩ := g.rep.split e
  have nd := g.nd
  rw [e2] at nd
  exact ⟨v, f2, hx, h, (List.nodup_append.mp (List.nodup_append.mp nd).2.1).1, fun a q => by rw [e2]; simp [q]⟩
theorem VR.rdk {k : Kd} {d : D} {v : V} {f : List Addr} {F : Addr → Prop} (h : VR K A H (k, d) v f) (s : ∀ a ∈ f, a ∈ ow) : PR K (BB A ow) F H v (k.rdk, d) := by
  have m : ∀ a, A a → Or2 (BB A ow) F a := fun a h => .inl (.inl h)
  have n : ∀ a ∈ f, Or2 (BB A ow) F a := fun a h => .inl (.inr (s a h))
  have r := h.ra m n
  cases k with
  | fl => exact .fl h.2
  | rd => exact .rd r
  | ow => exact .rd r
  | sh => exact ⟨[], ⟨rfl, r, h.2⟩, List.nodup_nil, fun _ z => nomatch z⟩
  | sa => exact ⟨[], ⟨rfl, r, h.2.2⟩, List.nodup_nil, fun _ z => nomatch z⟩
end

def pVar (i : Nat) : PF := fun ρ P => match ρ[i]? with
  | some (some (k, d)) => P (k.rdk, d)
  | _ => False
def pC (d : D) : PF := fun _ P => P (.fl, d)
section
variable {X : Cx} {pos : Pos}
theorem dp_var (i : Nat) {x : Str} (hN : X.N[i]? = some x := by rfl) (hv : Vis X.env.scope x := by first | exact Or.inl rfl | exact Or.inr (Or.inl rfl) | exact Or.inr (Or.inr rfl)) (hd : (x == ("__debug__" : Str)) = false := by decide)
    (hcd : (x == ("__classdict__" : Str)) = false := by decide) : DP X (.Name x pos) (pVar i) := by
  refine ⟨tVar i, pe_var hN hv hd hcd, fun σ H A ρ ow Q P g h q => ?_⟩
  unfold pVar at h
  cases e : ρ[i]? with
  | none => rw [e] at h; exact h.elim
  | some s =>
    rw [e] at h
    cases s with
    | none => exact h.elim
    | some kd =>
      obtain ⟨k, d⟩ := kd
      obtain ⟨v, f, hv, r, _, s⟩ := g.slot e
      exact ⟨v, hv, q _ v H h (Same.refl H) (r.rdk s)⟩
theorem dp_c {e : Expr} {v : V} {d : D} (h : PE X e (tC v)) (r : ∀ (A : Addr → Prop) (H : Hp), RA X.K A H d v) : DP X e (pC d) :=
  ⟨_, h, fun σ H A ρ ow Q P g h q => q _ v H h (Same.refl H) (.fl (r _ H))⟩
theorem dp_int {i : Int} {j} : DP X (.Constant (.int i) j pos) (pC (.int i)) := dp_c pe_int fun _ _ => rfl
theorem dp_bl {i : Bool} {j} : DP X (.Constant (.bool i) j pos) (pC (.bl i)) := dp_c pe_bl fun _ _ => rfl
theorem dp_str {i : Str} {j} : DP X (.Constant (.str i) j pos) (pC (.str i)) := dp_c pe_str fun _ _ => rfl
theorem dp_non {j} : DP X (.Constant .none j pos) (pC .non) := dp_c pe_non fun _ _ => rfl

def OpS (K : Frg) (r : R2) (o : KD → KD → (KD → Prop) → Prop) : Prop := ∀ (B F : Addr → Prop) (H : Hp) (v w : V) (x y : KD) (P : KD → Prop) (Q : VK), PR K B F H v x → PR K B F H w y → (∀ a, H a = none → F a) → o x y P →
  (∀ z u H', P z → Same H H' → PR K B F H' u z → Q u H') → r v w H Q
def UnS (K : Frg) (r : V → Hp → VK → Prop) (o : KD → (KD → Prop) → Prop) : Prop := ∀ (B F : Addr → Prop) (H : Hp) (v : V) (x : KD) (P : KD → Prop) (Q : VK), PR K B F H v x → (∀ a, H a = none → F a) → o x P →
  (∀ z u H', P z → Same H H' → PR K B F H' u z → Q u H') → r v H Q
def CallS (K : Frg) (r : List V → Hp → VK → Prop) (o : List KD → (KD → Prop) → Prop) : Prop := ∀ (B F : Addr → Prop) (H : Hp) (vs : List V) (xs : List KD) (P : KD → Prop) (Q : VK), PRs K B F H vs xs → (∀ a, H a = none → F a) → o xs P →
  (∀ z u H', P z → Same H H' → PR K B F H' u z → Q u H') → r vs H Q
def pOp (o : KD → KD → (KD → Prop) → Prop) (fa fb : PF) : PF := fun ρ P => fa ρ fun x => fb ρ fun y => o x y P
def pUn (o : KD → (KD → Prop) → Prop) (fa : PF) : PF := fun ρ P => fa ρ fun x => o x P
variable {a b c : Expr} {fa fb fc : PF}
theorem sound_op {K : Frg} {r : R2} {o : KD → KD → (KD → Prop) → Prop} {ta tb : TE} (hr : OpS K r o) (sa : PSound K ta fa) (sb : PSound K tb fb) : PSound K (tOp r ta tb) (pOp o fa fb) := by
  intro σ H A ρ ow Q P g h q
  refine sa σ H A ρ ow _ _ g h fun x v H1 hx s1 p1 => ?_
  refine sb σ H1 A ρ ow _ _ (g.same s1) hx fun y w H2 hy s2 p2 => ?_
  refine hr (BB A ow) (Fre H) H2 v w x y P Q (p1.same s2) (p2.mono (fun _ h => h) (s1.fre)) (s1.trans s2).fre hy fun z u H' hz s3 p3 => ?_
  exact q z u H' hz ((s1.trans s2).trans s3) p3
theorem sound_un {K : Frg} {r : V → Hp → VK → Prop} {o : KD → (KD → Prop) → Prop} {ta : TE} (hr : UnS K r o) (sa : PSound K ta fa) : PSound K (tUn r ta) (pUn o fa) := by
  intro σ H A ρ ow Q P g h q
  refine sa σ H A ρ ow _ _ g h fun x v H1 hx s1 p1 => ?_
  exact hr (BB A ow) (Fre H) H1 v x P Q p1 (s1.fre) hx fun z u H' hz s3 p3 => q z u H' hz (s1.trans s3) p3
theorem dp_op {op : Operator} {r : R2} {o : KD → KD → (KD → Prop) → Prop} (ho : OpR X (binaryOp op) r) (hr : OpS X.K r o) (ha : DP X a fa) (hb : DP X b fb) : DP X (.BinOp a op b pos) (pOp o fa fb) := by
  obtain ⟨ta, ea, sa⟩ := ha.run
  obtain ⟨tb, eb, sb⟩ := hb.run
  exact ⟨_, pe_op ho ea eb, sound_op hr sa sb⟩
theorem dp_un {op : UnaryOp} {r : V → Hp → VK → Prop} {o : KD → (KD → Prop) → Prop} (ho : UnR X (unaryOp op) r) (hr : UnS X.K r o) (ha : DP X a fa) : DP X (.UnaryOp op a pos) (pUn o fa) := by
  obtain ⟨ta, ea, sa⟩ := ha.run
  exact ⟨_, pe_un ho ea, sound_un hr sa⟩
theorem dp_cmp {op : CmpOp} {r : R2} {o : KD → KD → (KD → Prop) → Prop} (ho : OpR X (compareOp op) r) (hr : OpS X.K r o) (ha : DP X a fa) (hb : DP X b fb) (hm : behindInMarks op b = false) : DP X (.Compare a [op] [b] pos) (pOp o fa fb) := by
  obtain ⟨ta, ea, sa⟩ := ha.run
  obtain ⟨tb, eb, sb⟩ := hb.run
  exact ⟨_, pe_cmpR ho ea eb hm, sound_op hr sa sb⟩
def pTest (f : PF) : PTF := fun ρ P => f ρ fun z => match z.2 with
  | .bl b => P b
  | _ => False
theorem sound_test {K : Frg} {t : TE} {f : PF} (s : PSound K t f) : TSound K (tTest t) (pTest f) := by
  intro σ H A ρ ow Q P g h q
  refine s σ H A ρ ow _ _ g h fun z v H1 hz s1 p1 => ?_
  obtain ⟨k, d⟩ := z
  have r := p1.ra
  cases d <;> first
    | exact hz.elim
    | exact ⟨_, r, q _ H1 hz s1⟩
theorem dt_cmp {op : CmpOp} {r : R2} {o : KD → KD → (KD → Prop) → Prop} (ho : OpR X (compareOp op) r) (hr : OpS X.K r o) (ha : DP X a fa) (hb : DP X b fb) (hm : behindInMarks op b = false) : DT X (.Compare a [op] [b] pos) (pTest (pOp o fa fb)) := by
  obtain ⟨ta, ea, sa⟩ := ha.run
  obtain ⟨tb, eb, sb⟩ := hb.run
  exact ⟨_, pt_cmpR ho ea eb hm, sound_test (sound_op hr sa sb)⟩
theorem dt_val {e : Expr} {f : PF} (h : DP X e f) (he : ∀ whole, isTrue e X.env whole = (do let v ← whole; standAt e.pos; holding [v] (truthy v)) := by intro _; rfl) : DT X e (pTest f) := by
  obtain ⟨t, pe, s⟩ := h.run
  exact ⟨_, pt_val pe he, fun σ H A ρ ow Q P g h q => sound_test s σ H A ρ ow Q P g h q⟩
end
end DL

namespace DL
open PySem PySem.Spec PyProof.Rows L2

theorem OpR.or {X : Cx} {f : Value → Value → Sem Value} {r r' : R2} (h : OpR X f r) (h' : OpR X f r') : OpR X f (fun x y H Q => r x y H Q ∨ r' x y H Q) := by
  intro pins s σ H x y v u Q I r1 r2 q
  rcases q with q | q
  · exact h pins s σ H x y v u Q I r1 r2 q
  · exact h' pins s σ H x y v u Q I r1 r2 q
theorem tup_one (l : Addr) (its : Array Value) (n : Nat) (dd : Option Addr) (sl : Array (Option Value)) (u : Tok) :
    Meets (Builtin.«tuple.__mul__» ⟨[.ref l, .int 1 u], []⟩) (fun _ R s => s.heap.get? l = some { cls := .type "tuple", dict := dd, data := .seq its n, slots := sl } ∧ R (.ok (.ret (.ref l))) s) := by
  refine Meets.of_wp fun prog w A R st h => ?_
  obtain ⟨hp, g, d, tk, os⟩ := st
  obtain ⟨hl, h⟩ := h
  have f1 := AutoSeq1.idx_int
  wp_walk using wpAny_loadPart' hl
  exact ⟨_, rfl, h⟩
def rRep1 (K : Frg) : R2 := fun x y H Q => ∃ l xs, x = .ref l ∧ y = .int 1 ∧ SqT K H l xs ∧ Q x H
theorem op_rep1 {X : Cx} : OpR X (binaryOp .Mult) (rRep1 X.K) := by
  intro pins s σ H x y v u Q I rx ry h
  obtain ⟨l, xs, rfl, rfl, hT, q⟩ := h
  cases rx
  obtain ⟨t, rfl⟩ := ry
  obtain ⟨its, r, ⟨⟨cls, dd, data, sl⟩, ho, hc, n, hd⟩, hs⟩ := I.tuple hT
  simp only at hc hd
  subst hc hd
  refine wpAny_binaryOp_repeat_ref (T := "tuple") (U := "int") (by decide) ⟨_, ho, rfl⟩ (fun s' => typeIs_int s' 1 t) noFill_tuple_mul
    F.fills_int_mul F.slot_int_rmul repeat_tuple F.slot_int_index.lookup (call_meets F.slot_int_rmul (typeIs_int s 1 t) F.entry_int_rmul (F.args_int_rmul_2 _ _)
      (int_rmul_tuple 1 t l its.toArray n dd sl) ⟨ho, rfl, ⟨_, ho, rfl⟩, ?_⟩)
  refine call_meets F.slot_tuple_mul ⟨_, ho, rfl⟩ F.entry_tuple_mul (F.args_tuple_mul_2 _ _) (tup_one l its.toArray n dd sl t) ⟨ho, ?_⟩
  exact ⟨V.ref l, H, I, rfl, q⟩
def kT2 (k k' : Kd) : Kd := match k.el, k'.el with
  | .fl, .fl => .fl
  | _, _ => .rd
def kL2 (k k' : Kd) : Kd := match k.el, k'.el with
  | .fl, .fl => .sh
  | _, _ => .rd
section
variable {K : Frg} {A B F : Addr → Prop} {H : Hp}
theorem pr_cat {k k' : Kd} {ds es : List D} {vs ws : List V} (h : RAs K (k.elA B F) H ds vs) (h' : RAs K (k'.elA B F) H es ws) :
    RAs K ((kT2 k k').elA B F) H (ds ++ es) (vs ++ ws) := by
  unfold kT2
  rcases el_cases k with e | e <;> rcases el_cases k' with e' | e' <;> rw [e, e']
  · exact (h.elno e).append (h'.elno e')
  · exact h.elor.append h'.elor
  · exact h.elor.append h'.elor
  · exact h.elor.append h'.elor
theorem kT2_el (k k' : Kd) : (kT2 k k').el = kT2 k k' := by cases k <;> cases k' <;> rfl
theorem kL_kT2 (k k' : Kd) : kL (kT2 k k') = kL2 k k' := by cases k <;> cases k' <;> rfl

def oAdd : KD → KD → (KD → Prop) → Prop := fun x y P => match x, y with
  | (_, .int i), (_, .int j) => P (.fl, .int (i + j))
  | (_, .str a), (_, .str b) => a.length + b.length ≤ 10000000 ∧ P (.fl, .str (a ++ b))
  | (k, .lst a), (k', .lst b) => a.length + b.length ≤ 10000000 ∧ P (kL2 k k', .lst (a ++ b))
  | (k, .tup a), (k', .tup b) => a.length + b.length ≤ 10000000 ∧ P (kT2 k k', .tup (a ++ b))
  | _, _ => False
abbrev rAddAll (K : Frg) : R2 := fun x y H Q => (rI0 (fun i j => .int (i + j)) x y H Q) ∨ (∃ i j, x = .str i ∧ y = .str j ∧ i.length + j.length ≤ sizeLine ∧ Q (.str (i ++ j)) H) ∨ rCat x y H Q ∨ rCatA K x y H Q
theorem op_addAll {X : Cx} : OpR X (binaryOp .Add) (rAddAll X.K) := OpR.or op_add (OpR.or op_add_str (OpR.or op_cat op_catA))
theorem sz7 {n : Nat} (h : n ≤ 10000000) : n ≤ sizeLine := by rw [sizeLine_eq]; omega
theorem os_add : OpS K (rAddAll K) oAdd := by
  intro B F H v w x y P Q px py hF h q
  obtain ⟨k, d⟩ := x
  obtain ⟨k', d'⟩ := y
  unfold oAdd at h
  split at h
  · rename_i i _ j e1 e2
    cases e1; cases e2
    obtain rfl : v = .int i := px.ra
    obtain rfl : w = .int j := py.ra
    exact .inl ⟨i, j, rfl, rfl, q _ _ H h (Same.refl H) .int⟩
  · rename_i i _ j e1 e2
    cases e1; cases e2
    obtain rfl : v = .str i := px.ra
    obtain rfl : w = .str j := py.ra
    exact .inr (.inl ⟨i, j, rfl, rfl, sz7 h.1, q _ _ H h.2 (Same.refl H) .str⟩)
  · rename_i k1 a k2 b e1 e2
    cases e1; cases e2
    obtain ⟨p, vs, rfl, t, r⟩ := px.lstT
    obtain ⟨p', vs', rfl, t', r'⟩ := py.lstT
    refine .inr (.inr (.inl ⟨p, p', vs, vs', rfl, rfl, t, t', by rw [r.len, r'.len]; exact sz7 h.1, fun l hl => ?_⟩))
    have z := pr_lst (pr_cat r r') hl (hF l hl)
    rw [kL_kT2] at z
    exact q _ _ _ h.2 (same_upd hl) z
  · rename_i k1 a k2 b e1 e2
    cases e1; cases e2
    obtain ⟨p, vs, rfl, t, r⟩ := px.tupT
    obtain ⟨p', vs', rfl, t', r'⟩ := py.tupT
    have rr := pr_cat r r'
    have z : ∀ (H' : Hp) (pp : Addr) (ws : List V), Same H H' → SqT K H' pp ws → RAs K ((kT2 k k').elA B F) H (a ++ b) ws → PR K B F H' (.ref pp) (kT2 k k', .tup (a ++ b)) := fun H' pp ws s tt rq => by
      rcases el_cases (kT2 k k') with e | e
      · have e' : kT2 k k' = .fl := by rw [← kT2_el]; exact e
        rw [e']
        exact .fl ⟨pp, ws, rfl, tt, (rq.elno e).same s⟩
      · have e' : kT2 k k' = .rd := by rw [← kT2_el]; exact e
        rw [e']
        exact .rd ⟨pp, ws, rfl, tt, rq.elor.same s⟩
    refine .inr (.inr (.inr ⟨p, p', vs, vs', rfl, rfl, t, t', by rw [r.len, r'.len]; exact sz7 h.1, fun e => ?_, fun _ e => ?_, fun _ _ l hl => ?_⟩))
    · subst e
      exact q _ _ H h.2 (Same.refl H) (z H p' _ (Same.refl H) t' (by simpa using rr))
    · subst e
      exact q _ _ H h.2 (Same.refl H) (z H p _ (Same.refl H) t (by simpa using rr))
    · exact q _ _ _ h.2 (same_upd hl) (z _ l _ (same_upd hl) (.of upd_same) rr)
  · exact h.elim
def oI (C : Int → Int → Prop) (g : Int → Int → D) : KD → KD → (KD → Prop) → Prop := fun x y P => match x.2, y.2 with
  | .int i, .int j => C i j ∧ P (.fl, g i j)
  | _, _ => False
def oI0 (g : Int → Int → D) : KD → KD → (KD → Prop) → Prop := fun x y P => match x.2, y.2 with
  | .int i, .int j => P (.fl, g i j)
  | _, _ => False
theorem os_I {C : Int → Int → Prop} {g : Int → Int → V} {g' : Int → Int → D} (hg : ∀ i j, RA K No H (g' i j) (g i j) ∧ (∀ H', RA K No H' (g' i j) (g i j))) : OpS K (rI C g) (oI C g') := by
  intro B F H v w x y P Q px py hF h q
  obtain ⟨k, d⟩ := x
  obtain ⟨k', d'⟩ := y
  unfold oI at h
  split at h
  · rename_i i j e1 e2
    dsimp only at e1 e2
    subst e1; subst e2
    obtain rfl : v = .int i := px.ra
    obtain rfl : w = .int j := py.ra
    exact ⟨i, j, rfl, rfl, h.1, q _ _ H h.2 (Same.refl H) (.fl ((hg i j).2 H))⟩
  · exact h.elim
theorem os_I0 {g : Int → Int → V} {g' : Int → Int → D} (hg : ∀ i j H', RA K No H' (g' i j) (g i j)) : OpS K (rI0 g) (oI0 g') := by
  intro B F H v w x y P Q px py hF h q
  obtain ⟨k, d⟩ := x
  obtain ⟨k', d'⟩ := y
  unfold oI0 at h
  split at h
  · rename_i i j e1 e2
    dsimp only at e1 e2
    subst e1; subst e2
    obtain rfl : v = .int i := px.ra
    obtain rfl : w = .int j := py.ra
    exact ⟨i, j, rfl, rfl, q _ _ H h (Same.refl H) (.fl (hg i j H))⟩
  · exact h.elim
abbrev oSub : KD → KD → (KD → Prop) → Prop := oI0 fun i j => .int (i - j)
def CDivA (_ j : Int) : Prop := 0 < j ∧ j ≤ 1000000000000000000000000000000000000000000000000000000000000
theorem CDivA.w {i j : Int} (h : CDivA i j) : CDivW i j := by
  refine ⟨h.1, ?_⟩
  have h2 : j.natAbs ≤ 1000000000000000000000000000000000000000000000000000000000000 := by
    have h1 := h.1
    have := h.2
    omega
  by_cases e : j.natAbs = 0
  · rw [e]; decide
  · rw [Nat.log2_lt e]
    exact Nat.lt_of_le_of_lt h2 (Nat.lt_of_lt_of_le (by decide : 1000000000000000000000000000000000000000000000000000000000000 < 2 ^ 200) (Nat.pow_le_pow_right (by decide) (by decide)))
theorem op_fdivA {X : Cx} : OpR X (binaryOp .FloorDiv) (rI CDivA fun i j => .int (i / j)) := fun pins s σ H x y v u Q I rx ry h => by
  obtain ⟨i, j, e1, e2, c, q⟩ := h
  exact op_fdivW pins s σ H x y v u Q I rx ry ⟨i, j, e1, e2, c.w, q⟩
abbrev oFdiv : KD → KD → (KD → Prop) → Prop := oI CDivA fun i j => .int (i / j)
abbrev oMod : KD → KD → (KD → Prop) → Prop := oI (fun _ j => 0 < j) fun i j => .int (i % j)
abbrev oPow : KD → KD → (KD → Prop) → Prop := oI CPow fun i j => .int (i ^ j.toNat)
theorem os_sub : OpS K (rI0 fun i j => .int (i - j)) oSub := os_I0 fun _ _ _ => rfl
theorem os_fdiv : OpS K (rI CDivA fun i j => .int (i / j)) oFdiv := os_I (H := fun _ => none) fun _ _ => ⟨rfl, fun _ => rfl⟩
theorem os_mod : OpS K (rI (fun _ j => 0 < j) fun i j => .int (i % j)) oMod := os_I (H := fun _ => none) fun _ _ => ⟨rfl, fun _ => rfl⟩
theorem os_pow : OpS K (rI CPow fun i j => .int (i ^ j.toNat)) oPow := os_I (H := fun _ => none) fun _ _ => ⟨rfl, fun _ => rfl⟩
def uNeg : KD → (KD → Prop) → Prop := fun x P => match x.2 with
  | .int i => P (.fl, .int (-i))
  | _ => False
theorem us_neg : UnS K (rU fun i => .int (-i)) uNeg := by
  intro B F H v x P Q px hF h q
  obtain ⟨k, d⟩ := x
  unfold uNeg at h
  split at h
  · rename_i i e1
    dsimp only at e1
    subst e1
    obtain rfl : v = .int i := px.ra
    exact ⟨i, rfl, q _ _ H h (Same.refl H) .int⟩
  · exact h.elim
def oMul : KD → KD → (KD → Prop) → Prop := fun x y P => match x, y with
  | (_, .int i), (_, .int j) => CMul i j ∧ P (.fl, .int (i * j))
  | (k, .lst a), (_, .int j) => -100000 ≤ j ∧ j ≤ 100000 ∧ a.length * j.toNat ≤ 10000000 ∧ P (kL k, .lst (List.replicate j.toNat a).flatten)
  | (k, .tup a), (_, .int j) => a ≠ [] ∧ 1 ≤ j ∧ j ≤ 1000 ∧ a.length ≤ 1000 ∧ P (kT k, .tup (List.replicate j.toNat a).flatten)
  | _, _ => False
theorem RAs.rep {ds : List D} {vs : List V} (h : RAs K A H ds vs) : ∀ n : Nat, RAs K A H (List.replicate n ds).flatten (List.replicate n vs).flatten
  | 0 => .nil
  | n + 1 => by
    rw [List.replicate_succ, List.replicate_succ, List.flatten_cons, List.flatten_cons]
    exact h.append (RAs.rep h n)
abbrev rMulAll (K : Frg) : R2 := fun x y H Q => (rI CMul (fun i j => .int (i * j)) x y H Q) ∨ rRep x y H Q ∨ rRepT K x y H Q ∨ rRep1 K x y H Q
theorem op_mulAll {X : Cx} : OpR X (binaryOp .Mult) (rMulAll X.K) := OpR.or op_mul (OpR.or op_rep (OpR.or op_repT op_rep1))
theorem os_mul : OpS K (rMulAll K) oMul := by
  intro B F H v w x y P Q px py hF h q
  obtain ⟨k, d⟩ := x
  obtain ⟨k', d'⟩ := y
  unfold oMul at h
  split at h
  · rename_i i _ j e1 e2
    cases e1; cases e2
    obtain rfl : v = .int i := px.ra
    obtain rfl : w = .int j := py.ra
    exact .inl ⟨i, j, rfl, rfl, h.1, q _ _ H h.2 (Same.refl H) .int⟩
  · rename_i _ a _ j e1 e2
    cases e1; cases e2
    obtain ⟨p, vs, rfl, t, r⟩ := px.lstT
    obtain rfl : w = .int j := py.ra
    obtain ⟨h1, h2, h3, h4⟩ := h
    refine .inr (.inl ⟨p, j, vs, rfl, rfl, t, by omega, by omega, by rw [r.len]; exact sz7 h3, fun l hl => ?_⟩)
    exact q _ _ _ h4 (same_upd hl) (pr_lst (r.rep _) hl (hF l hl))
  · rename_i _ a _ j e1 e2
    cases e1; cases e2
    obtain ⟨p, vs, rfl, t, r⟩ := px.tupT
    obtain rfl : w = .int j := py.ra
    obtain ⟨h0, h1, h2, h3, h4⟩ := h
    by_cases e1 : j = 1
    · subst e1
      refine .inr (.inr (.inr ⟨p, vs, rfl, rfl, t, q _ _ H h4 (Same.refl H) ?_⟩))
      rw [show (List.replicate (1 : Int).toNat a).flatten = a by
        show a ++ [] = a
        exact List.append_nil a]
      rcases el_cases k with e | e
      · rw [show kT k = .fl from e]
        exact .fl ⟨p, vs, rfl, t, r.elno e⟩
      · rw [show kT k = .rd from e]
        exact .rd ⟨p, vs, rfl, t, r.elor⟩
    refine .inr (.inr (.inl ⟨p, j, vs, rfl, rfl, t, fun e => h0 ?_, by omega, h2, by rw [r.len]; exact h3, fun l hl => ?_⟩))
    · have z := r.len
      rw [e] at z
      exact List.eq_nil_of_length_eq_zero z.symm
    · exact q _ _ _ h4 (same_upd hl) (pr_tup (r.rep _) hl)
  · exact h.elim

def imP : Option Int → PyData
  | none => .none
  | some i => .int i
mutual
def D.toP : D → PyData
  | .non => .none
  | .bl b => .bool b
  | .int i => .int i
  | .str x => .str x
  | .tup ds => .tuple (D.toPs ds)
  | .lst ds => .list (D.toPs ds)
  | .kst ds => .list (D.toPs ds)
  | .frz d => D.toP d
  | .dcT _ _ => .dict []
  | .dcK _ _ => .dict []
  | .obj _ _ _ => .dict []
  | .fn _ => .dict []
  | .ad _ => .dict []
  | .lsA _ _ => .dict []
  | .key ns => .tuple (ns.map .int)
  | .tpx ns => .tuple (ns.map .int)
  | .exn _ => .dict []
  | .dcL kvs => .dict (kvs.map fun x => (imP x.1, imP x.2))
  | .dcN _ => .dict []
  | .lkT _ => .dict []
  | .any => .dict []
def D.toPs : List D → List PyData
  | [] => []
  | d :: ds => D.toP d :: D.toPs ds
end
theorem dpAll_ints : ∀ ns : List Int, DpAll K H (ns.map V.int) (ns.map PyData.int)
  | [] => .nil
  | i :: ns => .cons (.int i) (dpAll_ints ns)
mutual
theorem RA.dp : ∀ (d : D) (v : V), RA K A H d v → d.toP.canLay0 = true → Dp K H v d.toP
  | .non, _, h, _ => by rw [show _ = V.non from h]; exact .non
  | .bl b, _, h, _ => by rw [show _ = V.bl b from h]; exact .bl b
  | .int b, _, h, _ => by rw [show _ = V.int b from h]; exact .int b
  | .str b, _, h, _ => by rw [show _ = V.str b from h]; exact .str b
  | .tup ds, _, ⟨p, vs, e, t, r⟩, c => by subst e; exact .tup t (RAs.dp ds vs r c)
  | .lst ds, _, ⟨p, vs, e, _, t, r⟩, c => by subst e; exact .lst (.of t) (RAs.dp ds vs r c)
  | .kst ds, _, ⟨p, vs, e, t, r⟩, c => by subst e; exact .lst (kst_seq t) (RAs.dp ds vs r c)
  | .frz d, v, h, c => RA.dp d v h c
  | .dcT _ _, _, _, c => by cases c
  | .dcK _ _, _, _, c => by cases c
  | .obj _ _ _, _, _, c => by cases c
  | .fn _, _, _, c => by cases c
  | .ad _, _, _, c => by cases c
  | .lsA _ _, _, _, c => by cases c
  | .key ns, _, ⟨p, e, t⟩, _ => by subst e; exact .tup (.inl (.inl t)) (dpAll_ints ns)
  | .tpx ns, _, ⟨p, o, e, t, _⟩, _ => by subst e; exact .tup (.inl (.inr ⟨o, t⟩)) (dpAll_ints ns)
  | .exn _, _, _, c => by cases c
  | .dcL _, _, _, c => by cases c
  | .dcN _, _, _, c => by cases c
  | .lkT _, _, _, c => by cases c
  | .any, _, _, c => by cases c
theorem RAs.dp : ∀ (ds : List D) (vs : List V), RAs K A H ds vs → PyData.canLayAll0 (D.toPs ds) = true → DpAll K H vs (D.toPs ds)
  | [], _, h, _ => by rw [show _ = [] from h]; exact .nil
  | d :: ds, _, ⟨w, ws, e, h, t⟩, c => by
    subst e
    have c' := Bool.and_eq_true_iff.mp (show (d.toP.canLay0 && PyData.canLayAll0 (D.toPs ds)) = true from c)
    exact .cons (RA.dp d w h c'.1) (RAs.dp ds ws t c'.2)
end
def D.okE (d : D) : Prop := SeqAt.shaped d.toP = true
theorem PR.dp {v : V} {z : KD} (h : PR K B F H v z) (c : z.2.okE) : Dp K H v z.2.toP := RA.dp _ _ h.ra (SeqAt.canLay_of_shaped c)
def oEq : KD → KD → (KD → Prop) → Prop := fun x y P => match x.2, y.2 with
  | .int i, .int j => P (.fl, .bl (decide (i = j)))
  | .str i, .str j => P (.fl, .bl (decide (i = j)))
  | .bl i, .bl j => P (.fl, .bl (decide (i = j)))
  | a, b => a.okE ∧ b.okE ∧ P (.fl, .bl (PyData.eqv a.toP b.toP))
def oNe : KD → KD → (KD → Prop) → Prop := fun x y P => match x.2, y.2 with
  | .int i, .int j => P (.fl, .bl (!decide (i = j)))
  | .str i, .str j => P (.fl, .bl (!decide (i = j)))
  | .bl i, .bl j => P (.fl, .bl (!decide (i = j)))
  | a, b => a.okE ∧ b.okE ∧ P (.fl, .bl (!PyData.eqv a.toP b.toP))
abbrev rEqAll (K : Frg) : R2 := fun x y H Q => rEq x y H Q ∨ rEqD K x y H Q
abbrev rNeAll (K : Frg) : R2 := fun x y H Q => rNe x y H Q ∨ rNeD K x y H Q
theorem op_eqAll {X : Cx} (hu : X.A.units + 64 < cLine) : OpR X (compareOp .Eq) (rEqAll X.K) := OpR.or op_eq (op_eqD hu)
theorem op_neAll {X : Cx} (hu : X.A.units + 64 < cLine) : OpR X (compareOp .NotEq) (rNeAll X.K) := OpR.or op_ne (op_neD hu)
theorem dec_V {a b : Int} : decide (V.int a = V.int b) = decide (a = b) := by
  rw [Bool.eq_iff_iff]; simp
theorem dec_Vs {a b : Str} : decide (V.str a = V.str b) = decide (a = b) := by
  rw [Bool.eq_iff_iff]; simp
theorem dec_Vb {a b : Bool} : decide (V.bl a = V.bl b) = decide (a = b) := by
  rw [Bool.eq_iff_iff]; simp
theorem os_eq : OpS K (rEqAll K) oEq := by
  intro B F H v w x y P Q px py hF h q
  obtain ⟨k, d⟩ := x
  obtain ⟨k', d'⟩ := y
  unfold oEq at h
  split at h
  · rename_i i j e1 e2
    dsimp only at e1 e2
    subst e1; subst e2
    obtain rfl : v = .int i := px.ra
    obtain rfl : w = .int j := py.ra
    exact .inl ⟨rfl, by rw [dec_V]; exact q _ _ H h (Same.refl H) .bl⟩
  · rename_i i j e1 e2
    dsimp only at e1 e2
    subst e1; subst e2
    obtain rfl : v = .str i := px.ra
    obtain rfl : w = .str j := py.ra
    exact .inl ⟨rfl, by rw [dec_Vs]; exact q _ _ H h (Same.refl H) .bl⟩
  · rename_i i j e1 e2
    dsimp only at e1 e2
    subst e1; subst e2
    obtain rfl : v = .bl i := px.ra
    obtain rfl : w = .bl j := py.ra
    exact .inl ⟨rfl, by rw [dec_Vb]; exact q _ _ H h (Same.refl H) .bl⟩
  · obtain ⟨h1, h2, h3⟩ := h
    exact .inr ⟨_, _, px.dp h1, py.dp h2, h1, h2, q _ _ H h3 (Same.refl H) .bl⟩
theorem os_ne : OpS K (rNeAll K) oNe := by
  intro B F H v w x y P Q px py hF h q
  obtain ⟨k, d⟩ := x
  obtain ⟨k', d'⟩ := y
  unfold oNe at h
  split at h
  · rename_i i j e1 e2
    dsimp only at e1 e2
    subst e1; subst e2
    obtain rfl : v = .int i := px.ra
    obtain rfl : w = .int j := py.ra
    exact .inl ⟨rfl, by rw [dec_V]; exact q _ _ H h (Same.refl H) .bl⟩
  · rename_i i j e1 e2
    dsimp only at e1 e2
    subst e1; subst e2
    obtain rfl : v = .str i := px.ra
    obtain rfl : w = .str j := py.ra
    exact .inl ⟨rfl, by rw [dec_Vs]; exact q _ _ H h (Same.refl H) .bl⟩
  · rename_i i j e1 e2
    dsimp only at e1 e2
    subst e1; subst e2
    obtain rfl : v = .bl i := px.ra
    obtain rfl : w = .bl j := py.ra
    exact .inl ⟨rfl, by rw [dec_Vb]; exact q _ _ H h (Same.refl H) .bl⟩
  · obtain ⟨h1, h2, h3⟩ := h
    exact .inr ⟨_, _, px.dp h1, py.dp h2, h1, h2, q _ _ H h3 (Same.refl H) .bl⟩
abbrev oLt : KD → KD → (KD → Prop) → Prop := oI0 fun i j => .bl (decide (i < j))
abbrev oLe : KD → KD → (KD → Prop) → Prop := oI0 fun i j => .bl (decide (i ≤ j))
abbrev oGt : KD → KD → (KD → Prop) → Prop := oI0 fun i j => .bl (decide (j < i))
theorem os_lt : OpS K (rI0 fun i j => .bl (decide (i < j))) oLt := os_I0 fun _ _ _ => rfl
theorem os_le : OpS K (rI0 fun i j => .bl (decide (i ≤ j))) oLe := os_I0 fun _ _ _ => rfl
theorem os_gt : OpS K (rI0 fun i j => .bl (decide (j < i))) oGt := os_I0 fun _ _ _ => rfl
def D.isNon : D → Bool
  | .non => true
  | .frz d => D.isNon d
  | _ => false
def oIsN : KD → KD → (KD → Prop) → Prop := fun x y P => y.2 = .non ∧ P (.fl, .bl x.2.isNon)
def oNotN : KD → KD → (KD → Prop) → Prop := fun x y P => y.2 = .non ∧ P (.fl, .bl (!x.2.isNon))
theorem RA.isNon : ∀ {d : D} {v : V}, RA K A H d v → decide (v = .non) = d.isNon
  | .non, _, h => by rw [show _ = V.non from h]; rfl
  | .bl _, _, h => by rw [show _ = V.bl _ from h]; rfl
  | .int _, _, h => by rw [show _ = V.int _ from h]; rfl
  | .str _, _, h => by rw [show _ = V.str _ from h]; rfl
  | .tup _, _, ⟨_, _, e, _⟩ => by rw [e]; rfl
  | .lst _, _, ⟨_, _, e, _⟩ => by rw [e]; rfl
  | .kst _, _, ⟨_, _, e, _⟩ => by rw [e]; rfl
  | .dcT _ _, _, ⟨_, _, e, _⟩ => by rw [e]; rfl
  | .dcK _ _, _, ⟨_, _, e, _⟩ => by rw [e]; rfl
  | .obj _ _ _, _, ⟨_, _, _, e, _⟩ => by rw [e]; rfl
  | .fn _, _, e => by rw [show _ = V.ref _ from e]; rfl
  | .ad _, _, e => by rw [show _ = V.ref _ from e]; rfl
  | .lsA _ _, _, ⟨e, _⟩ => by rw [show _ = V.ref _ from e]; rfl
  | .key _, _, ⟨_, e, _⟩ => by rw [e]; rfl
  | .tpx _, _, ⟨_, _, e, _⟩ => by rw [e]; rfl
  | .exn _, _, ⟨_, _, e, _⟩ => by rw [e]; rfl
  | .dcL _, _, ⟨_, _, e, _⟩ => by rw [e]; rfl
  | .dcN _, _, ⟨_, _, e, _⟩ => by rw [e]; rfl
  | .lkT _, _, ⟨_, _, e, _⟩ => by rw [e]; rfl
  | .any, _, e => decide_eq_false e
  | .frz d, v, h => RA.isNon (d := d) h
def D.flat1 : D → Bool
  | .non => true
  | .bl _ => true
  | .int _ => true
  | .str _ => true
  | _ => false
def eqD1 : D → D → Bool
  | .non, .non => true
  | .bl a, .bl b => a == b
  | .bl a, .int b => (if a then 1 else 0) == b
  | .int a, .bl b => a == (if b then 1 else 0)
  | .int a, .int b => a == b
  | .str a, .str b => a == b
  | _, _ => false
def inD (x : D) (ds : List D) : Bool := ds.any fun y => eqD1 y x
theorem RA.flat1 {d : D} {v : V} (h : RA K A H d v) (e : d.flat1 = true) : flatV v = true := by
  cases d <;> first
    | (cases e; done)
    | (rw [show v = _ from h]; rfl)
theorem RA.eq1 {d e : D} {v w : V} (h : RA K A H d v) (h' : RA K A H e w) (c : d.flat1 = true) (c' : e.flat1 = true) : eqV v w = eqD1 d e := by
  cases d <;> first
    | (cases c; done)
    | (rw [show v = _ from h]
       cases e <;> first
        | (cases c'; done)
        | (rw [show w = _ from h']; rfl))
theorem RAs.flat1 : ∀ {ds : List D} {vs : List V}, RAs K A H ds vs → ds.all D.flat1 = true → vs.all flatV = true
  | [], _, h, _ => by rw [show _ = [] from h]; rfl
  | d :: ds, _, ⟨w, ws, e, h, t⟩, c => by
    subst e
    rw [List.all_cons, Bool.and_eq_true] at c
    rw [List.all_cons, RA.flat1 h c.1, RAs.flat1 t c.2]; rfl
theorem RAs.in1 {x : D} {v : V} (hx : RA K A H x v) (cx : x.flat1 = true) : ∀ {ds : List D} {vs : List V}, RAs K A H ds vs → ds.all D.flat1 = true → inV v vs = inD x ds
  | [], _, h, _ => by rw [show _ = [] from h]; rfl
  | d :: ds, _, ⟨w, ws, e, h, t⟩, c => by
    subst e
    rw [List.all_cons, Bool.and_eq_true] at c
    show (eqV w v || inV v ws) = (eqD1 d x || inD x ds)
    rw [RA.eq1 h hx c.1 cx, RAs.in1 hx cx t c.2]
def oIn (neg : Bool) : KD → KD → (KD → Prop) → Prop := fun x y P => match y.2.seq with
  | some ds => x.2.flat1 = true ∧ ds.all D.flat1 = true ∧ P (.fl, .bl (if neg then !inD x.2 ds else inD x.2 ds))
  | none => False
end
end DL

namespace DL
open PySem PySem.Spec PyProof.Rows L2

section
variable {K : Frg} {A B F : Addr → Prop} {H H' : Hp}
theorem VRs.len : ∀ {zs : List KD} {vs : List V} {f : List Addr}, VRs K A H zs vs f → vs.length = zs.length
  | [], _, _, h => by rw [h.1]; rfl
  | z :: zs, _, _, ⟨w, ws, f1, f2, e, e2, h, t⟩ => by rw [e, List.length_cons, List.length_cons, VRs.len t]
theorem VRs.append : ∀ {zs ys : List KD} {vs ws : List V} {f g : List Addr}, VRs K A H zs vs f → VRs K A H ys ws g → VRs K A H (zs ++ ys) (vs ++ ws) (f ++ g)
  | [], _, _, _, _, _, h, t => by rw [h.1, h.2]; exact t
  | z :: zs, _, _, _, _, _, ⟨w, ws, f1, f2, e, e2, h, t⟩, q => by subst e e2; rw [List.append_assoc]; exact ⟨w, _, f1, _, rfl, rfl, h, VRs.append t q⟩
theorem VRs.one {z : KD} {v : V} {f : List Addr} (h : VR K A H z v f) : VRs K A H [z] [v] f := ⟨v, [], f, [], rfl, (List.append_nil f).symm, h, rfl, rfl⟩
def jn (a b : Kd) : Kd := match a, b with
  | .fl, .fl => .fl
  | .fl, .ow => .ow
  | .sh, .fl => .ow
  | .sh, .ow => .ow
  | .ow, .fl => .ow
  | .ow, .ow => .ow
  | _, _ => .rd
def jT : List KD → Kd
  | [] => .fl
  | z :: zs => jn z.1 (jT zs)
def jL (zs : List KD) : Kd := match jT zs with
  | .fl => .sh
  | .ow => .ow
  | _ => .rd
theorem jT_cases : ∀ zs : List KD, jT zs = .fl ∨ jT zs = .ow ∨ jT zs = .rd
  | [] => .inl rfl
  | z :: zs => by
    show jn z.1 (jT zs) = _ ∨ jn z.1 (jT zs) = _ ∨ jn z.1 (jT zs) = _
    rcases jT_cases zs with e | e | e <;> rw [e] <;> cases z.1 <;> first | exact .inl rfl | exact .inr (.inl rfl) | exact .inr (.inr rfl)
theorem VRs.fl : ∀ {zs : List KD} {vs : List V} {f : List Addr}, VRs K A H zs vs f → jT zs = .fl → f = [] ∧ RAs K No H (zs.map (·.2)) vs
  | [], _, _, h, _ => ⟨h.2, h.1⟩
  | (k, d) :: zs, _, _, ⟨w, ws, f1, f2, e, e2, h, t⟩, j => by
    have j' : jn k (jT zs) = .fl := j
    have e3 : k = .fl ∧ jT zs = .fl := by
      revert j'
      cases k <;> cases jT zs <;> intro j' <;> first | exact ⟨rfl, rfl⟩ | cases j'
    obtain ⟨rfl, e4⟩ := e3
    obtain ⟨q1, q2⟩ := VRs.fl t e4
    subst e e2
    exact ⟨by rw [q1, h.1]; rfl, w, ws, rfl, h.2, q2⟩
theorem VR.r {k : Kd} {d : D} {v : V} {f : List Addr} (h : VR K A H (k, d) v f) (hk : k = .fl ∨ k = .sh ∨ k = .ow) : R K No H d v f := by
  rcases hk with rfl | rfl | rfl
  · obtain ⟨e, h⟩ := h
    subst e
    exact R.of0 _ _ h
  · exact h.1
  · exact h
theorem VRs.ow : ∀ {zs : List KD} {vs : List V} {f : List Addr}, VRs K A H zs vs f → jT zs ≠ .rd → Rs K No H (zs.map (·.2)) vs f
  | [], _, _, h, _ => h
  | (k, d) :: zs, _, _, ⟨w, ws, f1, f2, e, e2, h, t⟩, j => by
    have j' : jn k (jT zs) ≠ .rd := j
    have e3 : (k = .fl ∨ k = .sh ∨ k = .ow) ∧ jT zs ≠ .rd := by
      revert j'
      cases k <;> cases jT zs <;> intro j' <;> first | exact ⟨.inl rfl, by decide⟩ | exact ⟨.inr (.inl rfl), by decide⟩ | exact ⟨.inr (.inr rfl), by decide⟩ | exact absurd rfl j'
    exact ⟨w, ws, f1, f2, e, e2, h.r e3.1, VRs.ow t e3.2⟩
theorem VRs.ra (m : ∀ a, A a → B a) : ∀ {zs : List KD} {vs : List V} {f : List Addr}, VRs K A H zs vs f → (∀ a ∈ f, B a) → RAs K B H (zs.map (·.2)) vs
  | [], _, _, h, _ => h.1
  | z :: zs, _, _, ⟨w, ws, f1, f2, e, e2, h, t⟩, n => ⟨w, ws, e, h.ra m fun a q => n a (by rw [e2]; exact List.mem_append_left _ q), VRs.ra m t fun a q => n a (by rw [e2]; exact List.mem_append_right _ q)⟩
theorem pr_tupJ {zs : List KD} {vs : List V} {p : Addr} (h : PRs K B F H vs zs) (hp : H p = none) : PR K B F (upd H p (.tup vs)) (.ref p) (jT zs, .tup (zs.map (·.2))) := by
  obtain ⟨fp, r, nd, hF⟩ := h
  have s : Same H (upd H p (.tup vs)) := same_upd hp
  rcases jT_cases zs with e | e | e
  · rw [e]; exact .fl ⟨p, vs, rfl, .of upd_same, (r.fl e).2.same s⟩
  · rw [e]; exact ⟨fp, ⟨p, vs, rfl, .of upd_same, Rs.keep _ _ _ (KeepF.of_same s) (r.ow (by rw [e]; decide))⟩, nd, hF⟩
  · rw [e]; exact .rd ⟨p, vs, rfl, .of upd_same, (r.ra (fun _ h => h) fun a q => .inr (hF a q)).same s⟩
theorem pr_lstJ {zs : List KD} {vs : List V} {p : Addr} (h : PRs K B F H vs zs) (hp : H p = none) (hF0 : F p) : PR K B F (upd H p (.lst vs)) (.ref p) (jL zs, .lst (zs.map (·.2))) := by
  obtain ⟨fp, r, nd, hF⟩ := h
  have s : Same H (upd H p (.lst vs)) := same_upd hp
  have np : p ∉ fp := fun q => by
    obtain ⟨o, e, _⟩ := r.mu p q
    rw [hp] at e; cases e
  rcases jT_cases zs with e | e | e
  · have e' : jL zs = .sh := by unfold jL; rw [e]
    rw [e']
    exact ⟨[p], ⟨⟨p, vs, [], rfl, rfl, upd_same, Rs.of0 _ _ ((r.fl e).2.same s)⟩, p, vs, rfl, upd_same, (r.fl e).2.same s⟩, by simp, fun a q => by rw [List.mem_singleton.mp q]; exact hF0⟩
  · have e' : jL zs = .ow := by unfold jL; rw [e]
    rw [e']
    exact ⟨p :: fp, ⟨p, vs, fp, rfl, rfl, upd_same, Rs.keep _ _ _ (KeepF.of_same s) (r.ow (by rw [e]; decide))⟩, List.nodup_cons.mpr ⟨np, nd⟩, fun a q => by
      rcases List.mem_cons.mp q with rfl | q
      · exact hF0
      · exact hF a q⟩
  · have e' : jL zs = .rd := by unfold jL; rw [e]
    rw [e']
    exact .rd ⟨p, vs, rfl, .inr hF0, upd_same, (r.ra (fun _ h => h) fun a q => .inr (hF a q)).same s⟩
theorem PRs.one {z : KD} {v : V} (h : PR K B F H v z) : PRs K B F H [v] [z] := let ⟨fp, a, b, c⟩ := h; ⟨fp, .one a, b, c⟩
theorem PRs.get1 {z : KD} {vs : List V} (h : PRs K B F H vs [z]) : ∃ v, vs = [v] ∧ PR K B F H v z := by
  obtain ⟨fp, ⟨w, ws, f1, f2, e, e2, a, e3, e4⟩, b, c⟩ := h
  subst e e2 e3 e4
  rw [List.append_nil] at b c
  exact ⟨w, rfl, f1, a, b, c⟩
theorem PRs.get2 {z y : KD} {vs : List V} (h : PRs K B F H vs [z, y]) : ∃ v w, vs = [v, w] ∧ PR K B F H v z ∧ PR K B F H w y := by
  obtain ⟨fp, ⟨w, ws, f1, f2, e, e2, a, w', ws', f1', f2', e', e2', a', e3, e4⟩, b, c⟩ := h
  subst e e2 e' e2' e3 e4
  rw [List.append_nil] at b c
  obtain ⟨b1, b2, _⟩ := List.nodup_append.mp b
  exact ⟨w, w', rfl, ⟨f1, a, b1, fun x q => c x (List.mem_append_left _ q)⟩, ⟨f1', a', b2, fun x q => c x (List.mem_append_right _ q)⟩⟩
end
section
variable {X : Cx} {pos : Pos}
theorem da_nil : DA X [] 0 (fun _ P => P []) :=
  ⟨_, pa_nil, fun σ H A ρ ow Q P g h q => q [] [] H rfl h (Same.refl H) .nil⟩
theorem da_cons {e : Expr} {es : List Expr} {n : Nat} {f : PF} {g : PAF} (h : DP X e f) (t : DA X es n g) (hs : starEach (e :: es) X.env = (false, eval e X.env) :: starEach es X.env := by rfl) :
    DA X (e :: es) (n + 1) (fun ρ P => f ρ fun z => g ρ fun zs => P (z :: zs)) := by
  obtain ⟨ta, ea, sa⟩ := h.run
  obtain ⟨tb, eb, sb⟩ := t.run
  refine ⟨_, pa_cons ea eb hs, fun σ H A ρ ow Q P g h q => ?_⟩
  refine sa σ H A ρ ow _ _ g h fun x v H1 hx s1 p1 => ?_
  refine sb σ H1 A ρ ow _ _ (g.same s1) hx fun zs vs H2 hn hy s2 p2 => ?_
  refine q _ _ H2 (by rw [List.length_cons, hn]) hy (s1.trans s2) ?_
  obtain ⟨f1, a1, b1, c1⟩ := p1
  obtain ⟨f2, a2, b2, c2⟩ := p2
  refine ⟨f1 ++ f2, ⟨v, vs, f1, f2, rfl, rfl, a1.same s2, a2.mono fun a z => z.imp id (s1.fre a)⟩, List.nodup_append.mpr ⟨b1, b2, fun a ha b hb e => ?_⟩, fun a z => ?_⟩
  · subst e
    obtain ⟨o, e, _⟩ := a1.mu a ha
    rw [show H1 a = none from c2 a hb] at e; cases e
  · rcases List.mem_append.mp z with z | z
    · exact c1 a z
    · exact s1.fre a (c2 a z)
def pTup (g : PAF) : PF := fun ρ P => g ρ fun zs => P (jT zs, .tup (zs.map (·.2)))
def pLst (g : PAF) : PF := fun ρ P => g ρ fun zs => P (jL zs, .lst (zs.map (·.2)))
theorem dp_tup {es : List Expr} {n : Nat} {g : PAF} {k} (h : DA X es n g) (hn : n ≤ 1000 := by decide) : DP X (.Tuple es k pos) (pTup g) := by
  obtain ⟨ta, ea, sa⟩ := h.run
  refine ⟨_, pe_tup ea, fun σ H A ρ ow Q P g h q => ?_⟩
  refine sa σ H A ρ ow _ _ g h fun zs vs H1 hz hx s1 p1 => ⟨?_, fun p hp => ?_⟩
  · obtain ⟨_, r, _⟩ := p1
    rw [r.len, hz, sizeLine_eq]; omega
  · exact q _ _ _ hx (s1.trans (same_upd hp)) (pr_tupJ p1 hp)
theorem dp_lst {es : List Expr} {n : Nat} {g : PAF} (h : DA X es n g) (hn : n ≤ 1000 := by decide) : DP X (.List es pos) (pLst g) := by
  obtain ⟨ta, ea, sa⟩ := h.run
  refine ⟨_, pe_lst ea, fun σ H A ρ ow Q P g h q => ?_⟩
  refine sa σ H A ρ ow _ _ g h fun zs vs H1 hz hx s1 p1 => ⟨?_, fun p hp => ?_⟩
  · obtain ⟨_, r, _⟩ := p1
    rw [r.len, hz, sizeLine_eq]; omega
  · exact q _ _ _ hx (s1.trans (same_upd hp)) (pr_lstJ p1 hp (s1.fre p hp))
def pCall (o : List KD → (KD → Prop) → Prop) (g : PAF) : PF := fun ρ P => g ρ fun zs => o zs P
theorem sound_call {K : Frg} {n : Nat} {r : List V → Hp → VK → Prop} {o : List KD → (KD → Prop) → Prop} {t : TA} {g : PAF} (hr : CallS K r o) (s : ASound K n t g) : PSound K (tCB r t) (pCall o g) := by
  intro σ H A ρ ow Q P gd h q
  refine s σ H A ρ ow _ _ gd h fun zs vs H1 _ hx s1 p1 => ?_
  exact hr (BB A ow) (Fre H) H1 vs zs P Q p1 s1.fre hx fun z u H' hz s3 p3 => q z u H' hz (s1.trans s3) p3
variable {e : Expr} {es : List Expr} {n : Nat} {g : PAF} {r : List V → Hp → VK → Prop} {o : List KD → (KD → Prop) → Prop} {x : Str} {p : Pos}
theorem dp_callB {id : String} (hc : CallR X (.builtin id) r) (hr : CallS X.K r o) (hg : Gl X x) (hm : X.mg x = none) (hv : bootBuiltins x = some (.builtin id)) (ha : DA X (e :: es) n g) (hn : x ≠ "__name__" := by decide) (hdb : (x == ("__debug__" : Str)) = false := by decide)
    (he : starEach (e :: es) X.env = (false, eval e X.env) :: starEach es X.env := by rfl) (hpl : (backTo pos (starEach es X.env)).any (·.1) = false := by rfl) : DP X (.Call (.Name x p) (e :: es) [] pos) (pCall o g) := by
  obtain ⟨t, ea, sa⟩ := ha.run
  exact ⟨_, pe_callB hc hg hm hv ea hn hdb he hpl, sound_call hr sa⟩
theorem dp_callTy {T : String} (hc : CallR X (.type T) r) (hr : CallS X.K r o) (hg : Gl X x) (hm : X.mg x = none) (hv : bootBuiltins x = some (.type T)) (ha : DA X (e :: es) n g) (hn : x ≠ "__name__" := by decide) (hdb : (x == ("__debug__" : Str)) = false := by decide)
    (he : starEach (e :: es) X.env = (false, eval e X.env) :: starEach es X.env := by rfl) (hpl : (backTo pos (starEach es X.env)).any (·.1) = false := by rfl) : DP X (.Call (.Name x p) (e :: es) [] pos) (pCall o g) := by
  obtain ⟨t, ea, sa⟩ := ha.run
  exact ⟨_, pe_callTy hc hg hm hv ea hn hdb he hpl, sound_call hr sa⟩
end
end DL

namespace DL
open PySem PySem.Spec PyProof.Rows L2

section
variable {K : Frg} {A B F : Addr → Prop} {H H' : Hp}
theorem RAs.atI {ds : List D} {vs : List V} {i : Int} {d : D} (h : RAs K A H ds vs) (e : atI ds i = some d) : ∃ w, L2.atI vs i = some w ∧ RA K A H d w := by
  unfold L2.atI at e ⊢
  rw [h.len]
  cases q : ixN ds.length i with
  | none => rw [q] at e; cases e
  | some j =>
    rw [q] at e
    exact h.get e
def oIx : KD → KD → (KD → Prop) → Prop := fun x y P => match x, y.2 with
  | (k, .tup ds), .int i => (match atI ds i with | some d => P (kel k d) | none => False)
  | (k, .lst ds), .int i => (match atI ds i with | some d => P (kel k d) | none => False)
  | (k, .kst ds), .int i => (match atI ds i with | some d => P (kel k d) | none => False)
  | (_, .str z), .int i => z.length ≤ 10000000 ∧ (match atI z.cps.toList i with | some c => P (.fl, .str ⟨#[c]⟩) | none => False)
  | _, _ => False
theorem os_ix : OpS K (rIx K) oIx := by
  intro B F H v w x y P Q px py hF h q
  obtain ⟨k, d⟩ := x
  obtain ⟨k', d'⟩ := y
  have go : ∀ (ds : List D) (i : Int), d.seq = some ds → d' = .int i → (match atI ds i with | some d => P (kel k d) | none => False) → rIx K v w H Q := fun ds i e1 e2 hh => by
    clear h
    subst e2
    obtain ⟨p, vs, rfl, t, r⟩ := px.seq e1
    obtain rfl : w = .int i := py.ra
    cases e : atI ds i with
    | none => rw [e] at hh; exact hh.elim
    | some c =>
      rw [e] at hh
      obtain ⟨u, hu, ru⟩ := r.atI e
      rcases t with t | t
      · exact .inl ⟨p, vs, i, u, rfl, rfl, t, hu, q _ _ H hh (Same.refl H) (pr_kel ru)⟩
      · exact .inr (.inl ⟨p, vs, i, u, rfl, rfl, t, hu, q _ _ H hh (Same.refl H) (pr_kel ru)⟩)
  unfold oIx at h
  split at h
  · rename_i ds i e1 e2
    cases e1
    exact go ds i rfl e2 h
  · rename_i ds i e1 e2
    cases e1
    exact go ds i rfl e2 h
  · rename_i ds i e1 e2
    cases e1
    exact go ds i rfl e2 h
  · rename_i z i e1 e2
    cases e1
    dsimp only at e2
    subst e2
    obtain rfl : v = .str z := px.ra
    obtain rfl : w = .int i := py.ra
    obtain ⟨h1, h2⟩ := h
    cases e : atI z.cps.toList i with
    | none => rw [e] at h2; exact h2.elim
    | some c =>
      rw [e] at h2
      exact .inr (.inr ⟨z, i, c, rfl, rfl, sz7 h1, e, q _ _ H h2 (Same.refl H) .str⟩)
  · exact h.elim
end
section
variable {X : Cx} {pos : Pos} {a b c : Expr} {fa fb fc : PF}
theorem dp_ix (ha : DP X a fa) (hb : DP X b fb) (hs : PlainIx b := by exact fun _ _ => rfl) : DP X (.Subscript a b pos) (pOp oIx fa fb) := by
  obtain ⟨ta, ea, sa⟩ := ha.run
  obtain ⟨tb, eb, sb⟩ := hb.run
  exact ⟨_, pe_ix ix_seq ea eb hs, sound_op os_ix sa sb⟩

def cutD (xs : List D) (lo hi : Option Int) : List D := (xs.drop (HT.sIx xs.length 0 lo)).take (HT.sIx xs.length xs.length hi - HT.sIx xs.length 0 lo)
theorem RAs.cut {K : Frg} {A : Addr → Prop} {H : Hp} {ds : List D} {vs : List V} (h : RAs K A H ds vs) (lo hi : Option Int) : RAs K A H (cutD ds lo hi) (cutV vs lo hi) := by
  unfold cutD cutV
  rw [h.len]
  exact (h.drop _).take _
abbrev POF := Ro → (Option Int → Prop) → Prop
structure DO (X : Cx) (e : Option Expr) (f : POF) : Prop where
  run : ∃ t, PO X e t ∧ ∀ (σ : L2.St) (H : Hp) (A : Addr → Prop) (ρ : Ro) (ow : List Addr) (Q : Option Int → Hp → Prop) (P : Option Int → Prop), Good X.K A H ρ σ ow → f ρ P →
    (∀ b H', P b → Same H H' → Q b H') → t σ H Q
def oNoP : POF := fun _ P => P none
def oP (f : PF) : POF := fun ρ P => f ρ fun z => match z.2 with
  | .int i => P (some i)
  | _ => False
theorem do_none : DO X none oNoP := ⟨_, po_none, fun σ H A ρ ow Q P g h q => q _ H h (Same.refl H)⟩
theorem do_some (ha : DP X a fa) : DO X (some a) (oP fa) := by
  obtain ⟨ta, ea, sa⟩ := ha.run
  refine ⟨_, po_some ea, fun σ H A ρ ow Q P g h q => ?_⟩
  refine sa σ H A ρ ow _ _ g h fun z v H1 hz s1 p1 => ?_
  obtain ⟨k, d⟩ := z
  have r := p1.ra
  cases d <;> first
    | exact hz.elim
    | exact ⟨_, r, q _ H1 hz s1⟩
def pSl (f : PF) (g h : POF) : PF := fun ρ P => f ρ fun z => g ρ fun lo => h ρ fun hi => match z with
  | (k, .lst ds) => P (kL k, .lst (cutD ds lo hi))
  | (k, .kst ds) => P (kL k, .lst (cutD ds lo hi))
  | (k, .tup ds) => P (kT k, .tup (cutD ds lo hi))
  | _ => False
abbrev rSlAll (K : Frg) : V → Option Int → Option Int → Hp → VK → Prop := fun x lo hi H Q => rSlL K x lo hi H Q ∨ rSlA K x lo hi H Q
theorem dp_sl {lo hi : Option Expr} {g h : POF} {p2 : Pos} (ha : DP X a fa) (hl : DO X lo g) (hh : DO X hi h) : DP X (.Subscript a (.Slice lo hi none p2) pos) (pSl fa g h) := by
  obtain ⟨ta, ea, sa⟩ := ha.run
  obtain ⟨tl, el, sl⟩ := hl.run
  obtain ⟨th, eh, sh⟩ := hh.run
  refine ⟨_, pe_slice (r := rSlAll X.K) (SlR.or sl_list sl_tupA) ea el eh, fun σ H A ρ ow Q P gd hf q => ?_⟩
  refine sa σ H A ρ ow _ _ gd hf fun z v H1 hz s1 p1 => ?_
  refine sl σ H1 A ρ ow _ _ (gd.same s1) hz fun l H2 hl s2 => ?_
  refine sh σ H2 A ρ ow _ _ (gd.same (s1.trans s2)) hl fun u H3 hu s3 => ?_
  obtain ⟨k, d⟩ := z
  have p3 := (p1.same s2).same s3
  have s : Same H H3 := (s1.trans s2).trans s3
  have lst : ∀ (ds : List D) (p : Addr) (vs : List V), v = .ref p → SqL X.K H3 p vs → RAs X.K (k.elA (BB A ow) (Fre H)) H3 ds vs → P (kL k, .lst (cutD ds l u)) → rSlAll X.K v l u H3 Q := fun ds p vs e t r hu => by
    refine .inl ⟨p, vs, e, t, fun pp hp => ?_⟩
    exact q _ _ _ hu (s.trans (same_upd hp)) (pr_lst (r.cut l u) hp (s.fre pp hp))
  cases d with
  | lst ds =>
    obtain ⟨p, vs, e, t, r⟩ := p3.lstT
    exact lst _ p vs e (.of t) r hu
  | tup ds =>
    obtain ⟨p, vs, e, t, r⟩ := p3.tupT
    have rr := r.cut l u
    refine .inr ⟨p, vs, e, t, fun hw => ?_, fun hw pp hp => ?_⟩
    · have ew : cutV vs l u = vs := by
        unfold cutV
        rw [hw.1, hw.2]
        simp
      rw [ew] at rr
      refine q _ _ H3 hu s ?_
      unfold kT
      rcases el_cases k with e' | e'
      · rw [e']; exact .fl ⟨p, vs, rfl, t, rr.elno e'⟩
      · rw [e']; exact .rd ⟨p, vs, rfl, t, rr.elor⟩
    · exact q _ _ _ hu (s.trans (same_upd hp)) (pr_tup rr hp)
  | kst ds =>
    have z : ∃ p vs, v = .ref p ∧ SqL X.K H3 p vs ∧ RAs X.K (k.elA (BB A ow) (Fre H)) H3 ds vs := by
      have p4 : ∃ p vs, v = .ref p ∧ SqL X.K (lockd H3) p vs ∧ RAs X.K (Or2 (BB A ow) (Fre H)) H3 ds vs := p3.ra
      obtain ⟨p', vs', e', t', r'⟩ := p4
      cases k with
      | fl => obtain ⟨_, a, _⟩ := p3; obtain ⟨p, vs, e, t, r⟩ := a.2; exact ⟨p, vs, e, kst_seq t, r⟩
      | rd => exact ⟨p', vs', e', kst_seq t', r'⟩
      | ow => exact ⟨p', vs', e', kst_seq t', r'⟩
      | sh => obtain ⟨_, a, _⟩ := p3; obtain ⟨p, vs, e, t, r⟩ := a.2; exact ⟨p, vs, e, kst_seq t, r⟩
      | sa => obtain ⟨_, a, _⟩ := p3; obtain ⟨p, vs, e, t, r⟩ := a.2.2; exact ⟨p, vs, e, kst_seq t, r⟩
    obtain ⟨p, vs, e, t, r⟩ := z
    exact lst _ p vs e t r hu
  | _ => exact hu.elim

structure DW (X : Cx) (e : Expr) (f : PTF) : Prop where
  run : ∃ t, PW X e t ∧ TSound X.K t f
theorem DW.dt {e : Expr} {f : PTF} (h : DW X e f) : DT X e f := let ⟨t, a, b⟩ := h.run; ⟨t, a.pt, b⟩
variable {ta tb : PTF} {rest : List Expr}
def tAnd (f g : PTF) : PTF := fun ρ P => f ρ fun b => if b = true then g ρ P else P false
def tOr (f g : PTF) : PTF := fun ρ P => f ρ fun b => if b = true then P true else g ρ P
def tNot (f : PTF) : PTF := fun ρ P => f ρ fun b => P (!b)
theorem ts_and {K : Frg} {t u : TT} {f g : PTF} (s : TSound K t f) (s' : TSound K u g) : TSound K (L2.tAnd t u) (tAnd f g) := by
  intro σ H A ρ ow Q P gd h q
  refine s σ H A ρ ow _ _ gd h fun b H1 hb s1 => ?_
  cases b with
  | true => exact s' σ H1 A ρ ow _ _ (gd.same s1) hb fun b H2 hb s2 => q b H2 hb (s1.trans s2)
  | false => exact q false H1 hb s1
theorem ts_or {K : Frg} {t u : TT} {f g : PTF} (s : TSound K t f) (s' : TSound K u g) : TSound K (L2.tOr t u) (tOr f g) := by
  intro σ H A ρ ow Q P gd h q
  refine s σ H A ρ ow _ _ gd h fun b H1 hb s1 => ?_
  cases b with
  | false => exact s' σ H1 A ρ ow _ _ (gd.same s1) hb fun b H2 hb s2 => q b H2 hb (s1.trans s2)
  | true => exact q true H1 hb s1
theorem dw_and1 (h : DT X a ta) : DW X (.BoolOp .And [a] pos) ta := let ⟨_, e, s⟩ := h.run; ⟨_, pw_and1 e, s⟩
theorem dw_or1 (h : DT X a ta) : DW X (.BoolOp .Or [a] pos) ta := let ⟨_, e, s⟩ := h.run; ⟨_, pw_or1 e, s⟩
theorem dw_and (h : DT X a ta) (h' : DW X (.BoolOp .And (b :: rest) pos) tb) : DW X (.BoolOp .And (a :: b :: rest) pos) (tAnd ta tb) := let ⟨_, e, s⟩ := h.run; let ⟨_, e', s'⟩ := h'.run; ⟨_, pw_and e e', ts_and s s'⟩
theorem dw_or (h : DT X a ta) (h' : DW X (.BoolOp .Or (b :: rest) pos) tb) : DW X (.BoolOp .Or (a :: b :: rest) pos) (tOr ta tb) := let ⟨_, e, s⟩ := h.run; let ⟨_, e', s'⟩ := h'.run; ⟨_, pw_or e e', ts_or s s'⟩
theorem dt_not (h : DT X a ta) : DT X (.UnaryOp .Not a pos) (tNot ta) := by
  obtain ⟨t, e, s⟩ := h.run
  refine ⟨_, pt_not e, fun σ H A ρ ow Q P gd h q => ?_⟩
  exact s σ H A ρ ow _ _ gd h fun b H1 hb s1 => q _ H1 hb s1
def pAndV (f g : PF) : PF := fun ρ P => f ρ fun z => match z.2 with
  | .bl b => if b = true then g ρ P else P (.fl, .bl false)
  | _ => False
def uNot : KD → (KD → Prop) → Prop := fun z P => match z.2 with
  | .bl b => P (.fl, .bl (!b))
  | _ => False
theorem dp_one {op} (h : DP X a fa) : DP X (.BoolOp op [a] pos) fa := let ⟨_, e, s⟩ := h.run; ⟨_, pe_one e, s⟩
theorem dp_and (h : DP X a fa) (h' : DP X (.BoolOp .And (b :: rest) pos) fb) : DP X (.BoolOp .And (a :: b :: rest) pos) (pAndV fa fb) := by
  obtain ⟨_, e, s⟩ := h.run
  obtain ⟨_, e', s'⟩ := h'.run
  refine ⟨_, pe_and e e', fun σ H A ρ ow Q P gd h q => ?_⟩
  refine s σ H A ρ ow _ _ gd h fun z v H1 hz s1 p1 => ?_
  obtain ⟨k, d⟩ := z
  have r := p1.ra
  cases d <;> first
    | exact hz.elim
    | skip
  rename_i b
  refine ⟨b, r, ?_⟩
  cases b with
  | true => exact s' σ H1 A ρ ow _ _ (gd.same s1) hz fun z v H2 hz s2 p2 => q z v H2 hz (s1.trans s2) (p2.mono (fun _ h => h) s1.fre)
  | false => exact q _ _ H1 hz s1 .bl
theorem dp_not (h : DP X a fa) : DP X (.UnaryOp .Not a pos) (pUn uNot fa) := by
  obtain ⟨_, e, s⟩ := h.run
  refine ⟨_, pe_not e, fun σ H A ρ ow Q P gd h q => ?_⟩
  refine s σ H A ρ ow _ _ gd h fun z v H1 hz s1 p1 => ?_
  obtain ⟨k, d⟩ := z
  have r := p1.ra
  cases d <;> first
    | exact hz.elim
    | exact ⟨_, r, q _ _ H1 hz s1 .bl⟩
def pChain (o o' : KD → KD → (KD → Prop) → Prop) (fa fb fc : PF) : PF := fun ρ P => fa ρ fun x => fb ρ fun y => o x y fun z => match z.2 with
  | .bl b => if b = true then fc ρ fun w => o' y w P else P (.fl, .bl false)
  | _ => False
theorem sound_chain {K : Frg} {r r' : R2} {o o' : KD → KD → (KD → Prop) → Prop} {ta tb tc : TE} (hr : OpS K r o) (hr' : OpS K r' o') (sa : PSound K ta fa) (sb : PSound K tb fb) (sc : PSound K tc fc) : PSound K (tChain r r' ta tb tc) (pChain o o' fa fb fc) := by
  intro σ H A ρ ow Q P g h q
  refine sa σ H A ρ ow _ _ g h fun x v H1 hx s1 p1 => ?_
  refine sb σ H1 A ρ ow _ _ (g.same s1) hx fun y w H2 hy s2 p2 => ?_
  refine hr (BB A ow) (Fre H) H2 v w x y _ _ (p1.same s2) (p2.mono (fun _ h => h) s1.fre) (s1.trans s2).fre hy fun z u H3 hz s3 p3 => ?_
  obtain ⟨k, d⟩ := z
  have rr := p3.ra
  have s := (s1.trans s2).trans s3
  cases d <;> first
    | exact hz.elim
    | skip
  rename_i b
  refine ⟨b, rr, ?_⟩
  cases b with
  | false => exact q _ _ H3 hz s .bl
  | true =>
    refine sc σ H3 A ρ ow _ _ (g.same s) hz fun z' v' H4 hz' s4 p4 => ?_
    exact hr' (BB A ow) (Fre H) H4 w v' y z' P Q (((p2.same s3).same s4).mono (fun _ h => h) s1.fre) (p4.mono (fun _ h => h) s.fre) (s.trans s4).fre hz' fun z u H5 hz s5 p5 => q z u H5 hz ((s.trans s4).trans s5) p5
theorem dp_chain {op op' : CmpOp} {r r' : R2} {o o' : KD → KD → (KD → Prop) → Prop} (ho : OpR X (compareOp op) r) (ho' : OpR X (compareOp op') r') (hr : OpS X.K r o) (hr' : OpS X.K r' o') (ha : DP X a fa) (hb : DP X b fb) (hc : DP X c fc)
    (hm : lastMarks [op, op'] [b, c] = false := by with_unfolding_all rfl) : DP X (.Compare a [op, op'] [b, c] pos) (pChain o o' fa fb fc) := by
  obtain ⟨_, ea, sa⟩ := ha.run
  obtain ⟨_, eb, sb⟩ := hb.run
  obtain ⟨_, ec, sc⟩ := hc.run
  exact ⟨_, pe_chain ho ho' ea eb ec hm, sound_chain hr hr' sa sb sc⟩
theorem dt_chain {op op' : CmpOp} {r r' : R2} {o o' : KD → KD → (KD → Prop) → Prop} (ho : OpR X (compareOp op) r) (ho' : OpR X (compareOp op') r') (hr : OpS X.K r o) (hr' : OpS X.K r' o') (ha : DP X a fa) (hb : DP X b fb) (hc : DP X c fc)
    (hm : lastMarks [op, op'] [b, c] = false := by with_unfolding_all rfl) : DT X (.Compare a [op, op'] [b, c] pos) (pTest (pChain o o' fa fb fc)) := by
  obtain ⟨_, ea, sa⟩ := ha.run
  obtain ⟨_, eb, sb⟩ := hb.run
  obtain ⟨_, ec, sc⟩ := hc.run
  exact ⟨_, pt_chain ho ho' ea eb ec hm, sound_test (sound_chain hr hr' sa sb sc)⟩
end
end DL

namespace DL
open PySem PySem.Spec PyProof.Rows L2

structure Own (K : Frg) (A : Addr → Prop) (H : Hp) (kd : KD) (v : V) (fp ow : List Addr) : Prop where
  rep : VR K A H kd v fp
  nd : (fp ++ ow).Nodup
  dis : ∀ a ∈ fp, ¬ A a
abbrev GF := KD → Ro → (Ro → Prop) → Prop
def GSound (K : Frg) (is : List Nat) (t : TG) (g : GF) : Prop := ∀ (v : V) (kd : KD) (fp : List Addr) (σ : L2.St) (H : Hp) (A : Addr → Prop) (ρ : Ro) (ow : List Addr) (Q : L2.St → Hp → Prop) (P : Ro → Prop), Good K A H ρ σ ow → Own K A H kd v fp ow → g kd ρ P →
  (∀ ρ' σ' ow', P ρ' → Good K A H ρ' σ' ow' → (∀ a ∈ ow', a ∈ ow ∨ a ∈ fp) → wipe σ' is = wipe σ is → Q σ' H) → t v σ H Q
abbrev GsF := List KD → Ro → (Ro → Prop) → Prop
def GsSound (K : Frg) (is : List Nat) (t : TGs) (g : GsF) : Prop := ∀ (vs : List V) (zs : List KD) (fp : List Addr) (σ : L2.St) (H : Hp) (A : Addr → Prop) (ρ : Ro) (ow : List Addr) (Q : L2.St → Hp → Prop) (P : Ro → Prop), Good K A H ρ σ ow →
  VRs K A H zs vs fp → (fp ++ ow).Nodup → (∀ a ∈ fp, ¬ A a) → g zs ρ P →
  (∀ ρ' σ' ow', P ρ' → Good K A H ρ' σ' ow' → (∀ a ∈ ow', a ∈ ow ∨ a ∈ fp) → wipe σ' is = wipe σ is → Q σ' H) → t vs σ H Q
structure DG (X : Cx) (e : Expr) (is : List Nat) (g : GF) : Prop where
  run : ∃ t, PG X e t ∧ GSound X.K is t g
structure DGs (X : Cx) (es : List Expr) (is : List Nat) (n : Nat) (g : GsF) : Prop where
  run : ∃ t, PGs X es t ∧ GsSound X.K is t g
section
variable {K : Frg} {A : Addr → Prop} {H : Hp} {ρ : Ro} {σ : L2.St} {ow : List Addr}
theorem Good.put {i : Nat} {kd : KD} {v : V} {fp : List Addr} (g : Good K A H ρ σ ow) (o : Own K A H kd v fp ow) :
    ∃ ow', Good K A H (ρ.set i (some kd)) (σ.set i (some v)) ow' ∧ ∀ a ∈ ow', a ∈ ow ∨ a ∈ fp := by
  cases e : ρ[i]? with
  | none =>
    have h1 : ρ.length ≤ i := List.getElem?_eq_none_iff.mp e
    have h2 : σ.length ≤ i := by rw [g.rep.len]; exact h1
    rw [List.set_eq_of_length_le h1, List.set_eq_of_length_le h2]
    exact ⟨ow, g, fun a h => .inl h⟩
  | some s =>
    obtain ⟨x, f1, f2, f3, hx, e2, _, put⟩ := g.rep.split e
    have nd := o.nd
    subst e2
    refine ⟨f1 ++ (fp ++ f3), ⟨put H A (some kd) (some v) fp (fun _ h => h) (fun a o e _ => e) ⟨v, rfl, o.rep⟩, ?_, fun a h => ?_, g.tr⟩, fun a h => ?_⟩
    · obtain ⟨n1, n2, n3⟩ := List.nodup_append.mp nd
      obtain ⟨m1, m2, m3⟩ := List.nodup_append.mp n2
      obtain ⟨_, m5, m6⟩ := List.nodup_append.mp m2
      refine List.nodup_append.mpr ⟨m1, List.nodup_append.mpr ⟨n1, m5, fun a ha b hb => n3 a ha b (by simp [hb])⟩, fun a ha b hb => ?_⟩
      rcases List.mem_append.mp hb with hb | hb
      · exact fun e => n3 b hb a (by simp [ha]) e.symm
      · exact m3 a ha b (by simp [hb])
    · rcases List.mem_append.mp h with h | h
      · exact g.dis a (by simp [h])
      · rcases List.mem_append.mp h with h | h
        · exact o.dis a h
        · exact g.dis a (by simp [h])
    · rcases List.mem_append.mp h with h | h
      · exact .inl (by simp [h])
      · rcases List.mem_append.mp h with h | h
        · exact .inr h
        · exact .inl (by simp [h])
end
theorem wipe_get (σ : L2.St) (j : Nat) : ∀ vs : List Nat, (wipe σ vs)[j]? = if j ∈ vs ∧ j < σ.length then some none else σ[j]?
  | [] => by simp [wipe]
  | v :: vs => by
    show ((wipe σ vs).set v none)[j]? = _
    by_cases hv : v = j
    · subst hv
      by_cases hl : v < σ.length
      · rw [List.getElem?_set_self (by rw [wipe_length]; exact hl), if_pos ⟨List.mem_cons_self, hl⟩]
      · rw [List.set_eq_of_length_le (by rw [wipe_length]; omega), wipe_get σ v vs, if_neg (fun z => hl z.2), if_neg (fun z => hl z.2)]
    · rw [List.getElem?_set_ne hv, wipe_get σ j vs]
      have : j ∈ v :: vs ↔ j ∈ vs := by simp [Ne.symm hv]
      simp only [this]
theorem wipe_set {σ : L2.St} {i : Nat} {x : Option V} {vs : List Nat} (h : i ∈ vs) : wipe (σ.set i x) vs = wipe σ vs := by
  apply List.ext_getElem?
  intro j
  rw [wipe_get, wipe_get, List.length_set]
  by_cases hj : j ∈ vs ∧ j < σ.length
  · rw [if_pos hj, if_pos hj]
  · rw [if_neg hj, if_neg hj]
    by_cases hi : i = j
    · subst hi
      have hl : σ.length ≤ i := by
        by_cases q : i < σ.length
        · exact absurd ⟨h, q⟩ hj
        · omega
      rw [List.set_eq_of_length_le hl]
    · rw [List.getElem?_set_ne hi]
theorem wipe_idem (σ : L2.St) (vs : List Nat) : wipe (wipe σ vs) vs = wipe σ vs := by
  apply List.ext_getElem?
  intro j
  rw [wipe_get, wipe_get, wipe_length]
  by_cases hj : j ∈ vs ∧ j < σ.length
  · rw [if_pos hj, if_pos hj]
  · rw [if_neg hj]
theorem wipe_sub {σ τ : L2.St} {vs ws : List Nat} (h : wipe σ vs = wipe τ vs) (s : ∀ i ∈ vs, i ∈ ws) (hl : σ.length = τ.length) : wipe σ ws = wipe τ ws := by
  apply List.ext_getElem?
  intro j
  have e : (wipe σ vs)[j]? = (wipe τ vs)[j]? := by rw [h]
  rw [wipe_get, wipe_get] at e ⊢
  rw [hl] at e ⊢
  by_cases hj : j ∈ ws ∧ j < τ.length
  · rw [if_pos hj, if_pos hj]
  · rw [if_neg hj, if_neg hj]
    rwa [if_neg (fun z => hj ⟨s j z.1, z.2⟩), if_neg (fun z => hj ⟨s j z.1, z.2⟩)] at e
def gNm (i : Nat) : GF := fun kd ρ P => P (ρ.set i (some kd))
def kmv (k : Kd) (d : D) : KD := match d with
  | .non => (.fl, d)
  | .bl _ => (.fl, d)
  | .int _ => (.fl, d)
  | .str _ => (.fl, d)
  | .frz d => (match k with
    | .fl => (.fl, d)
    | .ow => (.fl, d)
    | _ => (.rd, d))
  | _ => (match k with
    | .fl => (.fl, d)
    | .ow => (.ow, d)
    | _ => (.rd, d))
def gTu (n : Nat) (gs : GsF) : GF := fun kd ρ P => match kd.2 with
  | .tup ds => ds.length = n ∧ gs (ds.map (kmv kd.1)) ρ P
  | _ => False
section
variable {K : Frg} {A : Addr → Prop} {H : Hp}
theorem RA.kmv {k : Kd} {d : D} {v : V} (h : RA K A H d v) (hk : k ≠ .fl) (hk2 : k ≠ .ow) : VR K A H (kmv k d) v [] := by
  cases k <;> first
    | exact absurd rfl hk
    | exact absurd rfl hk2
    | (cases d <;> first | exact ⟨rfl, h⟩)
theorem RA.kmv0 {d : D} {v : V} (h : RA K No H d v) : VR K A H (DL.kmv .fl d) v [] := by
  cases d <;> exact ⟨rfl, h⟩
theorem R.kmv {d : D} {v : V} {f : List Addr} (h : R K No H d v f) : VR K A H (DL.kmv .ow d) v f := by
  cases d <;> exact h
theorem VRs.kmv0 : ∀ {ds : List D} {vs : List V}, RAs K No H ds vs → VRs K A H (ds.map (kmv .fl)) vs []
  | [], _, h => ⟨h, rfl⟩
  | d :: ds, _, ⟨w, ws, e, h, t⟩ => ⟨w, ws, [], [], e, rfl, h.kmv0, VRs.kmv0 t⟩
theorem VRs.kmvR {k : Kd} (hk : k ≠ .fl) (hk2 : k ≠ .ow) : ∀ {ds : List D} {vs : List V}, RAs K A H ds vs → VRs K A H (ds.map (kmv k)) vs []
  | [], _, h => ⟨h, rfl⟩
  | d :: ds, _, ⟨w, ws, e, h, t⟩ => ⟨w, ws, [], [], e, rfl, h.kmv hk hk2, VRs.kmvR hk hk2 t⟩
theorem VRs.kmvO : ∀ {ds : List D} {vs : List V} {f : List Addr}, Rs K No H ds vs f → VRs K A H (ds.map (kmv .ow)) vs f
  | [], _, _, h => h
  | d :: ds, _, _, ⟨w, ws, f1, f2, e, e2, h, t⟩ => ⟨w, ws, f1, f2, e, e2, h.kmv, VRs.kmvO t⟩
theorem VR.tupT {k : Kd} {ds : List D} {v : V} {f : List Addr} (h : VR K A H (k, .tup ds) v f) : ∃ p vs, v = .ref p ∧ SqT K H p vs ∧ VRs K A H (ds.map (kmv k)) vs f := by
  cases k with
  | fl => obtain ⟨e, p, vs, e1, t, r⟩ := h; subst e; exact ⟨p, vs, e1, t, .kmv0 r⟩
  | rd => obtain ⟨e, p, vs, e1, t, r⟩ := h; subst e; exact ⟨p, vs, e1, t, .kmvR (by decide) (by decide) r⟩
  | ow => obtain ⟨p, vs, e1, t, r⟩ := h; exact ⟨p, vs, e1, t, .kmvO r⟩
  | sh => exact h.2.elim
  | sa => exact h.2.2.elim
end
section
variable {X : Cx} {pos : Pos}
theorem dg_name (i : Nat) {x : Str} (hN : X.N.Nodup) (hi : X.N[i]? = some x := by rfl) (hx : Loc X.env.scope x := by first | exact Or.inl rfl | exact Or.inr rfl) (hf : X.fn x = true ∨ X.env.scope.names.lookup x = some .local := by first | exact .inl rfl | exact .inr rfl) : DG X (.Name x pos) [i] (gNm i) := by
  refine ⟨_, pg_name hN hi hx hf, fun v kd fp σ H A ρ ow Q P g o h q => ?_⟩
  obtain ⟨ow', g', s⟩ := g.put (i := i) o
  exact q _ _ ow' h g' s (wipe_set (by simp))
theorem dgs_nil : DGs X [] [] 0 (fun zs ρ P => zs = [] ∧ P ρ) := by
  refine ⟨_, pgs_nil, fun vs zs fp σ H A ρ ow Q P g r nd dis h q => ?_⟩
  obtain ⟨e, h⟩ := h
  subst e
  exact ⟨r.1, q ρ σ ow h g (fun a h => .inl h) rfl⟩
theorem dgs_cons {e : Expr} {es : List Expr} {is js : List Nat} {n : Nat} {g : GF} {gs : GsF} (h1 : DG X e is g) (h2 : DGs X es js n gs)
    (hs : (assignEach (e :: es) X.env).map (·.2) = assign e X.env :: (assignEach es X.env).map (·.2) := by rfl) : DGs X (e :: es) (is ++ js) (n + 1) (fun zs ρ P => match zs with
      | z :: r => g z ρ fun ρ1 => gs r ρ1 P
      | [] => False) := by
  obtain ⟨t, e1, s1⟩ := h1.run
  obtain ⟨u, e2, s2⟩ := h2.run
  refine ⟨_, pgs_cons e1 e2 hs, fun vs zs fp σ H A ρ ow Q P gd r nd dis h q => ?_⟩
  · cases zs with
    | nil => exact h.elim
    | cons z r' =>
      obtain ⟨w, ws, f1, f2, ev, ef, r1, r2⟩ := r
      subst ev ef
      refine ⟨w, ws, rfl, ?_⟩
      obtain ⟨n1, n2, n3⟩ := List.nodup_append.mp nd
      obtain ⟨m1, m2, m3⟩ := List.nodup_append.mp n1
      refine s1 w z f1 σ H A ρ ow _ _ gd ⟨r1, List.nodup_append.mpr ⟨m1, n2, fun a ha b hb => n3 a (by simp [ha]) b hb⟩, fun a ha => dis a (by simp [ha])⟩ h fun ρ1 σ1 ow1 hp gd1 sub1 w1 => ?_
      refine s2 ws r' f2 σ1 H A ρ1 ow1 _ _ gd1 r2 (List.nodup_append.mpr ⟨m2, gd1.nd, fun a ha b hb e => ?_⟩) (fun a ha => dis a (by simp [ha])) hp fun ρ2 σ2 ow2 hp2 gd2 sub2 w2 => ?_
      · subst e
        rcases sub1 a hb with z | z
        · exact n3 a (by simp [ha]) a z rfl
        · exact m3 a z a ha rfl
      · refine q ρ2 σ2 ow2 hp2 gd2 (fun a ha => ?_) ?_
        · rcases sub2 a ha with z | z
          · rcases sub1 a z with z | z
            · exact .inl z
            · exact .inr (by simp [z])
          · exact .inr (by simp [z])
        · have l1 : σ1.length = σ.length := by rw [← wipe_length σ1 is, w1, wipe_length]
          have l2 : σ2.length = σ1.length := by rw [← wipe_length σ2 js, w2, wipe_length]
          exact (wipe_sub w2 (fun i h => by simp [h]) l2).trans (wipe_sub w1 (fun i h => by simp [h]) l1)
theorem dg_tup {es : List Expr} {is : List Nat} {n : Nat} {gs : GsF} {k : Nat} (hc : X.calm = true) (h : DGs X es is n gs) (hn : (assignEach es X.env).length = n := by rfl) (hst : (assignEach es X.env).findIdx? (·.1) = none := by rfl) :
    DG X (.Tuple es k pos) is (gTu n gs) := by
  obtain ⟨t, e, s⟩ := h.run
  refine ⟨_, pg_tup hc e hn hst, fun v kd fp σ H A ρ ow Q P g o h q => ?_⟩
  obtain ⟨k, d⟩ := kd
  cases d with
  | tup ds =>
    obtain ⟨h1, h2⟩ := h
    obtain ⟨p, vs, ev, t, r⟩ := o.rep.tupT
    exact ⟨p, vs, ev, t, by rw [r.len, List.length_map]; exact h1, s vs _ fp σ H A ρ ow Q P g r o.nd o.dis h2 q⟩
  | _ => exact h.elim
end

def OkZ (Z : Addr → Prop) (H' H'' : Hp) : Prop := ∀ a o, H' a = some o → ¬ Z a → H'' a = some o
def Walks (K : Frg) (J : It) (Ok : Hp → Prop) (A : Addr → Prop) (zs : List KD) : Prop :=
  ∃ (G : Hp → Prop) (Y : Nat → Hp → V → Hp → Prop), Walk J zs.length G Y ∧ (∀ H, Ok H → G H) ∧ ∀ i H x H2 z, zs[i]? = some z → Ok H → Y i H x H2 → Same H H2 ∧ VR K A H2 z x []
abbrev Fre2 (H H' : Hp) : Addr → Prop := fun a => H a = none ∧ ∃ o, H' a = some o
abbrev IF := Ro → (List KD → Prop) → Prop
def ISound (K : Frg) (t : TI) (src : IF) : Prop := ∀ (σ : L2.St) (H : Hp) (A : Addr → Prop) (ρ : Ro) (ow : List Addr) (R : It → Hp → Prop) (P : List KD → Prop) (Z : Addr → Prop), Good K A H ρ σ ow →
  (∀ a, Z a → ¬ BB A ow a ∧ ∃ o, H a = some o ∧ Mu o) → src ρ P →
  (∀ zs J H', P zs → Same H H' → Walks K J (OkZ Z H') (Or2 (BB A ow) (Fre2 H H')) zs → R J H') → t σ H R
structure DI (X : Cx) (tg iter : Expr) (src : IF) : Prop where
  run : ∃ t, PI X tg iter t ∧ ISound X.K t src
section
variable {K : Frg} {A B : Addr → Prop} {H H' H2 : Hp} {ow : List Addr} {Z : Addr → Prop}
theorem Rd.tr {p : Addr} {u : HO} (h : Rd H p u) : ∃ o, H p = some o := by
  rcases h with h | ⟨o, h⟩
  · exact ⟨_, h⟩
  · exact ⟨_, h⟩
mutual
theorem RA.monoT (m : ∀ a o, H a = some o → A a → B a) : ∀ (d : D) (v : V), RA K A H d v → RA K B H d v
  | .non, _, h => h
  | .bl _, _, h => h
  | .int _, _, h => h
  | .str _, _, h => h
  | .fn _, _, h => h
  | .ad _, _, h => h
  | .key _, _, h => h
  | .tpx _, _, h => h
  | .exn _, _, h => h
  | .dcL _, _, h => h
  | .dcN _, _, ⟨p, as, e, a, t, z⟩ => ⟨p, as, e, m _ _ t a, t, z⟩
  | .lkT _, _, h => h
  | .any, _, h => h
  | .tup ds, _, ⟨p, vs, e, t, r⟩ => ⟨p, vs, e, t, RAs.monoT m ds vs r⟩
  | .lst ds, _, ⟨p, vs, e, a, t, r⟩ => ⟨p, vs, e, m _ _ t a, t, RAs.monoT m ds vs r⟩
  | .lsA _ ds, _, ⟨e, a, vs, t, r⟩ => ⟨e, m _ _ t a, vs, t, RAs.monoT m ds vs r⟩
  | .kst ds, _, ⟨p, vs, e, t, r⟩ => ⟨p, vs, e, t, RAs.monoT m ds vs r⟩
  | .dcT ks ds, _, ⟨p, vs, e, a, t, q, r⟩ => ⟨p, vs, e, (let ⟨_, z⟩ := Rd.tr t; m _ _ z a), t, q, RAs.monoT m ds _ r⟩
  | .dcK ks ds, _, ⟨p, vs, e, a, t, q, r⟩ => ⟨p, vs, e, (let ⟨_, z⟩ := Rd.tr t; m _ _ z a), t, q, RAs.monoT m ds _ r⟩
  | .obj C ns ds, _, ⟨p, dx, fs, e, a, t, q, r⟩ => ⟨p, dx, fs, e, m _ _ t a, t, q, RAs.monoT m ds _ r⟩
  | .frz d, v, h => RA.monoT m d v h
theorem RAs.monoT (m : ∀ a o, H a = some o → A a → B a) : ∀ (ds : List D) (vs : List V), RAs K A H ds vs → RAs K B H ds vs
  | [], _, h => h
  | d :: ds, _, ⟨w, ws, e, h, r⟩ => ⟨w, ws, e, RA.monoT m d w h, RAs.monoT m ds ws r⟩
end
mutual
theorem R.monoT (m : ∀ a o, H a = some o → A a → B a) : ∀ (d : D) (v : V) (fp : List Addr), R K A H d v fp → R K B H d v fp
  | .non, _, _, h => h
  | .bl _, _, _, h => h
  | .int _, _, _, h => h
  | .str _, _, _, h => h
  | .fn _, _, _, h => h
  | .ad _, _, _, h => h
  | .key _, _, _, h => h
  | .tpx _, _, _, h => h
  | .exn _, _, _, h => h
  | .dcL _, _, _, h => h
  | .dcN _, _, _, h => h
  | .lkT _, _, _, h => h
  | .any, _, _, h => h
  | .kst ds, v, _, h => h
  | .tup ds, _, fp, ⟨p, vs, e, t, r⟩ => ⟨p, vs, e, t, Rs.monoT m ds vs fp r⟩
  | .lst ds, _, fp, ⟨p, vs, fps, e, e2, t, r⟩ => ⟨p, vs, fps, e, e2, t, Rs.monoT m ds vs fps r⟩
  | .lsA _ _, _, _, ⟨_, h⟩ => h.2.1.elim
  | .dcT ks ds, _, fp, ⟨p, vs, fps, e, e2, t, q, r⟩ => ⟨p, vs, fps, e, e2, t, q, Rs.monoT m ds _ fps r⟩
  | .dcK ks ds, _, fp, ⟨p, vs, fps, e, e2, t, q, r⟩ => ⟨p, vs, fps, e, e2, t, q, Rs.monoT m ds _ fps r⟩
  | .obj C ns ds, _, fp, ⟨p, dx, fs, fps, e, e2, t, q, r⟩ => ⟨p, dx, fs, fps, e, e2, t, q, Rs.monoT m ds _ fps r⟩
  | .frz d, v, fp, ⟨e, h⟩ => ⟨e, RA.monoT m d v h⟩
theorem Rs.monoT (m : ∀ a o, H a = some o → A a → B a) : ∀ (ds : List D) (vs : List V) (fp : List Addr), Rs K A H ds vs fp → Rs K B H ds vs fp
  | [], _, _, h => h
  | d :: ds, _, fp, ⟨w, ws, f1, f2, e, e2, h, r⟩ => ⟨w, ws, f1, f2, e, e2, R.monoT m d w f1 h, Rs.monoT m ds ws f2 r⟩
end
theorem VR.monoT {kd : KD} {v : V} {f : List Addr} (m : ∀ a o, H a = some o → A a → B a) (h : VR K A H kd v f) : VR K B H kd v f := by
  obtain ⟨c, d⟩ := kd
  cases c with
  | fl => exact h
  | rd => exact ⟨h.1, RA.monoT m _ _ h.2⟩
  | ow => exact h
  | sa => exact ⟨h.1, RA.monoT m _ _ h.2.1, h.2.2⟩
  | sh => exact h
theorem PR.tr {H0 : Hp} {v : V} {z : KD} (h : PR K B (Fre H0) H v z) : PR K B (Fre2 H0 H) H v z := by
  obtain ⟨fp, r, nd, hF⟩ := h
  exact ⟨fp, r.monoT fun a o e x => x.imp id fun y => ⟨y, o, e⟩, nd, fun a q => ⟨hF a q, let ⟨o, e, _⟩ := r.mu a q; ⟨o, e⟩⟩⟩
theorem fre2 {H0 : Hp} : ∀ a, Fre2 H0 H a → H0 a = none := fun _ h => h.1
theorem zFre {F : Addr → Prop} (hF : ∀ a, F a → H a = none) (hz : ∀ a, Z a → ¬ B a ∧ ∃ o, H a = some o ∧ Mu o) (s : Same H H') : ∀ a o, H' a = some o → (Or2 B F a ∨ Imm o) → ¬ Z a := fun a o e h z => by
  obtain ⟨h1, u, h2, m⟩ := hz a z
  rcases h with (h | h) | h
  · exact h1 h
  · rw [hF a h] at h2; cases h2
  · have e2 := s a u h2
    rw [e] at e2; cases e2
    exact m.notImm h
theorem OkZ.keep {F : Addr → Prop} (hF : ∀ a, F a → H a = none) (hz : ∀ a, Z a → ¬ B a ∧ ∃ o, H a = some o ∧ Mu o) (s : Same H H') (ok : OkZ Z H' H2) : Keep (Or2 B F) H' H2 := fun a o e h => ok a o e (zFre hF hz s a o e h)
def rangeD (lo : Int) (n : Nat) : List KD := (List.range n).map fun (i : Nat) => (.fl, .int (lo + i))
theorem rangeD_get {lo : Int} {n i : Nat} {z : KD} (h : (rangeD lo n)[i]? = some z) : z = (.fl, .int (lo + i)) := by
  unfold rangeD at h
  rw [List.getElem?_map] at h
  cases e : (List.range n)[i]? with
  | none => rw [e] at h; cases h
  | some j =>
    rw [e] at h
    have hj := List.getElem?_eq_some_iff.mp e
    obtain ⟨_, hj⟩ := hj
    rw [List.getElem_range] at hj
    subst hj
    exact (Option.some.inj h).symm
theorem walks_range {lo : Int} {n : Nat} {Ok : Hp → Prop} : Walks K (Itr lo n) Ok A (rangeD lo n) := by
  have hl : (rangeD lo n).length = n := by unfold rangeD; simp
  refine ⟨_, _, by rw [hl]; exact walk_range, fun _ _ => trivial, fun i H x H2 z hz _ y => ?_⟩
  obtain ⟨e, ex⟩ := y
  subst e ex
  rw [rangeD_get hz]
  exact ⟨Same.refl _, rfl, rfl⟩
theorem kel_VR {k : Kd} {F : Addr → Prop} {d : D} {w : V} (h : RA K (k.elA B F) H d w) : VR K (Or2 B F) H (kel k d) w [] := by
  have g : VR K (Or2 B F) H (k.el, d) w [] := by cases k <;> exact ⟨rfl, h⟩
  cases d <;> first | exact g | exact ⟨rfl, h⟩
theorem elA_keeps {k : Kd} {F : Addr → Prop} {d : List D} {w : List V} (kp : Keep (Or2 B F) H H2) (h : RAs K (k.elA B F) H d w) : RAs K (k.elA B F) H2 d w := by
  cases k <;> first
    | exact RAs.keep kp.no _ _ h
    | exact RAs.keep kp _ _ h
theorem walks_lst {F : Addr → Prop} (hF : ∀ a, F a → H a = none) {p : Addr} {vs : List V} {ds : List D} {k : Kd} (hz : ∀ a, Z a → ¬ B a ∧ ∃ o, H a = some o ∧ Mu o) (s : Same H H') (ht : ∀ H2, OkZ Z H' H2 → SqL K H2 p vs) (r : RAs K (k.elA B F) H' ds vs) :
    Walks K (Itl K p) (OkZ Z H') (Or2 B F) (ds.map (kel k)) := by
  have hl : (ds.map (kel k)).length = vs.length := by rw [List.length_map, r.len]
  refine ⟨_, _, by rw [hl]; exact walk_list, ht, fun i H2 x H3 z hzz ok y => ?_⟩
  · obtain ⟨e, ex⟩ := y
    subst e
    rw [List.getElem?_map] at hzz
    cases e : ds[i]? with
    | none => rw [e] at hzz; cases hzz
    | some d =>
      rw [e] at hzz
      obtain ⟨w, hw, rw'⟩ := (elA_keeps (ok.keep hF hz s) r).get e
      rw [ex] at hw
      cases hw
      cases hzz
      exact ⟨Same.refl _, kel_VR rw'⟩
theorem walks_tup {F : Addr → Prop} (hF : ∀ a, F a → H a = none) {p : Addr} {vs : List V} {ds : List D} {k : Kd} (hz : ∀ a, Z a → ¬ B a ∧ ∃ o, H a = some o ∧ Mu o) (s : Same H H') (t : SqT K H' p vs) (r : RAs K (k.elA B F) H' ds vs) :
    Walks K (Itt K p) (OkZ Z H') (Or2 B F) (ds.map (kel k)) := by
  have hl : (ds.map (kel k)).length = vs.length := by rw [List.length_map, r.len]
  refine ⟨_, _, by rw [hl]; exact walk_tup, fun H2 ok => SqT.keep (ok.keep hF hz s) t, fun i H2 x H3 z hzz ok y => ?_⟩
  obtain ⟨e, ex⟩ := y
  subst e
  rw [List.getElem?_map] at hzz
  cases e : ds[i]? with
  | none => rw [e] at hzz; cases hzz
  | some d =>
    rw [e] at hzz
    obtain ⟨w, hw, rw'⟩ := (elA_keeps (ok.keep hF hz s) r).get e
    rw [ex] at hw
    cases hw
    cases hzz
    exact ⟨Same.refl _, kel_VR rw'⟩
end

def iSeq (K : Frg) (tl : TE) : TI := fun σ H R => tl σ H fun x H1 => ∃ a, x = .ref a ∧ (((∃ xs, SqL K H1 a xs) ∧ R (Itl K a) H1) ∨ ((∃ xs, SqT K H1 a xs) ∧ R (Itt K a) H1))
section
variable {X : Cx} {tg : Expr}
theorem pi_seq {l : Expr} {tl : TE} (hl : PE X l tl) : PI X tg l (iSeq X.K tl) := by
  refine ⟨fun pins s σ H R I h => ?_⟩
  refine thn (hl.run pins s σ H _ I h) fun v s1 ⟨x, H1, I1, r1, q1⟩ => ?_
  obtain ⟨a, e, q1⟩ := q1
  subst e
  cases r1
  rcases q1 with ⟨⟨xs, hq⟩, q⟩ | ⟨⟨xs, hq⟩, q⟩
  · obtain ⟨its, rv, p, hz⟩ := I1.list hq
    refine wpAny_pyIter_list p.isList ?_
    refine ⟨s1.heap.objs.size, [s1.heap.objs.size], _, _, H1, rfl, I1.kept (t' := s1.toks) fun b o e => Heap.get?_push_of_some _ e, turn_list a _, ⟨_, Heap.get?_push_size _ rfl, rfl, rfl⟩, fun b hb => ?_, q⟩
    have e : b = s1.heap.objs.size := by simpa using hb
    subst e
    exact I1.fpOk (Nat.le_refl _) (I1.hok.fresh (Nat.le_refl _))
  · obtain ⟨its, rv, p, hz⟩ := I1.tuple hq
    refine wpAny_pyIter_tuple (show s1.heap.IsTuple a its.toArray from p) ?_
    refine ⟨s1.heap.objs.size, [s1.heap.objs.size], _, _, H1, rfl, I1.kept (t' := s1.toks) fun b o e => Heap.get?_push_of_some _ e, turn_tuple a _, ⟨_, Heap.get?_push_size _ rfl, rfl, rfl⟩, fun b hb => ?_, q⟩
    have e : b = s1.heap.objs.size := by simpa using hb
    subst e
    exact I1.fpOk (Nat.le_refl _) (I1.hok.fresh (Nat.le_refl _))
def iSq (f : PF) : IF := fun ρ P => f ρ fun z => match z.2.seq with
  | some ds => P (ds.map (kel z.1))
  | none => False
theorem PR.lp {K : Frg} {B F : Addr → Prop} {H : Hp} {k : Kd} {ds : List D} {v : V} (h : PR K B F H v (k, .lst ds)) : ∃ p vs, v = .ref p ∧ H p = some (.lst vs) ∧ Or2 B F p ∧ RAs K (k.elA B F) H ds vs := by
  obtain ⟨p, vs, e, a, t, r⟩ := h.ra
  obtain ⟨p', vs', e', t', r'⟩ := h.lstT
  rw [e] at e'; cases e'
  exact ⟨p, vs', e, t', a, r'⟩
theorem PR.kstT {K : Frg} {B F : Addr → Prop} {H : Hp} {k : Kd} {ds : List D} {v : V} (h : PR K B F H v (k, .kst ds)) : ∃ p vs, v = .ref p ∧ SqL K (lockd H) p vs ∧ RAs K (k.elA B F) H ds vs := by
  have p4 : ∃ p vs, v = .ref p ∧ SqL K (lockd H) p vs ∧ RAs K (Or2 B F) H ds vs := h.ra
  cases k with
  | fl => obtain ⟨_, a, _⟩ := h; exact a.2
  | rd => exact p4
  | ow => exact p4
  | sh => obtain ⟨_, a, _⟩ := h; exact a.2
  | sa => obtain ⟨_, a, _⟩ := h; exact a.2.2
theorem di_seq {l : Expr} {f : PF} (h : DP X l f) : DI X tg l (iSq f) := by
  obtain ⟨t, e, s⟩ := h.run
  refine ⟨_, pi_seq e, fun σ H A ρ ow R P Z g hz h q => ?_⟩
  refine s σ H A ρ ow _ _ g h fun z v H1 hh s1 p1 => ?_
  obtain ⟨k, d⟩ := z
  have p1 := p1.tr
  cases d with
  | lst ds =>
    obtain ⟨p, vs, ev, t, a, r⟩ := p1.lp
    refine ⟨p, ev, .inl ⟨⟨vs, .of t⟩, q _ _ H1 hh s1 (walks_lst fre2 hz s1 (fun H2 ok => .of (ok p _ t ?_)) r)⟩⟩
    exact zFre fre2 hz s1 p _ t (.inl a)
  | tup ds =>
    obtain ⟨p, vs, ev, t, r⟩ := p1.tupT
    exact ⟨p, ev, .inr ⟨⟨vs, t⟩, q _ _ H1 hh s1 (walks_tup fre2 hz s1 t r)⟩⟩
  | kst ds =>
    obtain ⟨p, vs, ev, t, r⟩ := p1.kstT
    exact ⟨p, ev, .inl ⟨⟨vs, kst_seq t⟩, q _ _ H1 hh s1 (walks_lst fre2 hz s1 (fun H2 ok => kst_seq (kst_keep (ok.keep (fre2 (H := H1)) hz s1) t)) r)⟩⟩
  | _ => exact hh.elim
def iR1 (f : PAF) : IF := fun ρ P => f ρ fun zs => match zs with
  | [(_, .int j)] => -1000000000000 ≤ j ∧ j ≤ 1000000000000 ∧ P (rangeD 0 j.toNat)
  | _ => False
theorem di_range1 {a : Expr} {f : PAF} {p pos : Pos} (hg : Gl X "range") (hm : X.mg "range" = none) (ha : DA X [a] 1 f) (hs : starEach [a] X.env = [(false, eval a X.env)] := by rfl) : DI X tg (.Call (.Name "range" p) [a] [] pos) (iR1 f) := by
  obtain ⟨t, e, s⟩ := ha.run
  refine ⟨_, pi_range1 hg hm e hs, fun σ H A ρ ow R P Z g hz h q => ?_⟩
  refine s σ H A ρ ow _ _ g h fun zs vs H1 _ hh s1 p1 => ?_
  split at hh
  · obtain ⟨h1, h2, h3⟩ := hh
    obtain ⟨v, ev, p2⟩ := p1.get1
    obtain rfl : v = .int _ := p2.ra
    exact ⟨_, ev, by omega, by omega, q _ _ H1 h3 s1 walks_range⟩
  · exact hh.elim
end

theorem VRs.keepF {K : Frg} {A : Addr → Prop} {H H' : Hp} : ∀ {zs : List KD} {vs : List V} {f : List Addr}, KeepF A f H H' → VRs K A H zs vs f → VRs K A H' zs vs f
  | [], _, _, _, h => h
  | z :: zs, _, _, k, ⟨w, ws, f1, f2, e, e2, h, t⟩ => ⟨w, ws, f1, f2, e, e2, h.keep (k.sub fun a q => by rw [e2]; exact List.mem_append_left _ q), VRs.keepF (k.sub fun a q => by rw [e2]; exact List.mem_append_right _ q) t⟩
def tP (K : Frg) (f : PF) : TE := fun σ H Q => ∃ A ρ ow P, Good K A H ρ σ ow ∧ f ρ P ∧ ∀ z v H', P z → Same H H' → PR K (BB A ow) (Fre H) H' v z → Q v H'
def tT (K : Frg) (f : PTF) : TT := fun σ H Q => ∃ A ρ ow P, Good K A H ρ σ ow ∧ f ρ P ∧ ∀ b H', P b → Same H H' → Q b H'
def tG (K : Frg) (is : List Nat) (g : GF) : TG := fun v σ H Q => ∃ kd fp A ρ ow P, Good K A H ρ σ ow ∧ Own K A H kd v fp ow ∧ g kd ρ P ∧ ∀ ρ' σ' ow', P ρ' → Good K A H ρ' σ' ow' → (∀ a ∈ ow', a ∈ ow ∨ a ∈ fp) → wipe σ' is = wipe σ is → Q σ' H
section
variable {X : Cx}
theorem DP.can {e : Expr} {f : PF} (h : DP X e f) : PE X e (tP X.K f) := by
  obtain ⟨t, pe, s⟩ := h.run
  refine ⟨fun pins st σ H Q I hq => ?_⟩
  obtain ⟨A, ρ, ow, P, g, hf, q⟩ := hq
  exact pe.run pins st σ H Q I (s σ H A ρ ow Q P g hf q)
theorem DT.can {e : Expr} {f : PTF} (h : DT X e f) : PT X e (tT X.K f) := by
  obtain ⟨t, pe, s⟩ := h.run
  refine ⟨fun pins st σ H Q I hq => ?_⟩
  obtain ⟨A, ρ, ow, P, g, hf, q⟩ := hq
  exact pe.run pins st σ H Q I (s σ H A ρ ow Q P g hf q)
theorem DG.can {e : Expr} {is : List Nat} {f : GF} (h : DG X e is f) : PG X e (tG X.K is f) := by
  obtain ⟨t, pe, s⟩ := h.run
  refine ⟨fun pins st σ H v u Q I r hq => ?_⟩
  obtain ⟨kd, fp, A, ρ, ow, P, g, o, hf, q⟩ := hq
  exact pe.run pins st σ H v u Q I r (s v kd fp σ H A ρ ow Q P g o hf q)
structure DTs (X : Cx) (es : List Expr) (f : PTF) : Prop where
  run : PTs X es (tT X.K f)
theorem dts_nil : DTs X [] (fun _ P => P true) := by
  refine ⟨⟨fun pins s σ H Q I h => ?_⟩⟩
  obtain ⟨A, ρ, ow, P, g, hf, q⟩ := h
  exact pts_nil.run pins s σ H Q I (q true H hf (Same.refl H))
theorem dts_one {c : Expr} {f : PTF} (h : DT X c f) : DTs X [c] f := ⟨pts_one h.can⟩
end
def compL (step : KD → (Option KD → Prop) → Prop) : List KD → List KD → (List KD → Prop) → Prop
  | [], acc, P => P acc
  | z :: zs, acc, P => step z fun r => match r with
    | some y => compL step zs (acc ++ [y]) P
    | none => compL step zs acc P
def rdAll (ρ : Ro) : Ro := ρ.map fun s => match s with
  | some (k, d) => some (k.rdk, d)
  | none => none
def wipeR (ρ : Ro) : List Nat → Ro
  | [] => ρ
  | i :: is => (wipeR ρ is).set i none
def pLc (src : IF) (is : List Nat) (g : GF) (tt : PTF) (fe : PF) : PF := fun ρ P => src ρ fun zs => zs.length ≤ 10000000 ∧
  compL (fun z Q => g z (wipeR (rdAll ρ) is) fun ρ1 => tt ρ1 fun b => if b = true then fe ρ1 fun y => Q (some y) else Q none) zs [] fun ys => P (jL ys, .lst (ys.map (·.2)))
section
variable {K : Frg} {A B : Addr → Prop} {H H' : Hp} {ow : List Addr}
theorem VR.rdk2 {kd : KD} {v : V} {f : List Addr} (h : VR K A H kd v f) (s : ∀ a ∈ f, a ∈ ow) : VR K (BB A ow) H (kd.1.rdk, kd.2) v [] := by
  obtain ⟨k, d⟩ := kd
  have r : RA K (BB A ow) H d v := h.ra (fun a x => .inl x) (fun a x => .inr (s a x))
  cases k with
  | fl => exact ⟨rfl, h.2⟩
  | rd => exact ⟨rfl, r⟩
  | ow => exact ⟨rfl, r⟩
  | sh => exact ⟨rfl, r, h.2⟩
  | sa => exact ⟨rfl, r, h.2.2⟩
theorem RepS.rdAll : ∀ {ρ : Ro} {σ : L2.St} {f : List Addr}, RepS K A H ρ σ f → (∀ a ∈ f, a ∈ ow) → RepS K (BB A ow) H (rdAll ρ) σ []
  | [], _, _, h, _ => ⟨h.1, rfl⟩
  | s :: ρ, _, _, ⟨x, σ', f, g, e, e2, h, r⟩, i => by
    refine ⟨x, σ', [], [], e, rfl, ?_, RepS.rdAll r fun a q => i a (by rw [e2]; exact List.mem_append_right _ q)⟩
    cases s with
    | none => rfl
    | some kd => obtain ⟨v, ev, h⟩ := h; exact ⟨v, ev, h.rdk2 fun a q => i a (by rw [e2]; exact List.mem_append_left _ q)⟩
theorem RepS.set0 {ρ : Ro} {σ : L2.St} {i : Nat} (h : RepS K A H ρ σ []) : RepS K A H (ρ.set i none) (σ.set i none) [] := by
  cases e : ρ[i]? with
  | none =>
    have h1 : ρ.length ≤ i := List.getElem?_eq_none_iff.mp e
    have h2 : σ.length ≤ i := by rw [h.len]; exact h1
    rw [List.set_eq_of_length_le h1, List.set_eq_of_length_le h2]
    exact h
  | some s =>
    obtain ⟨x, f1, f2, f3, hx, e2, _, put⟩ := h.split e
    have e3 := List.append_eq_nil_iff.mp e2.symm
    have e4 := List.append_eq_nil_iff.mp e3.2
    have := put H A none none [] (fun _ h => h) (fun a o e _ => e) rfl
    rw [e3.1, e4.2] at this
    exact this
theorem RepS.wipe {ρ : Ro} {σ : L2.St} (h : RepS K A H ρ σ []) : ∀ is : List Nat, RepS K A H (wipeR ρ is) (wipe σ is) []
  | [] => h
  | i :: is => (RepS.wipe h is).set0
end
section
variable {X : Cx}
theorem sound_lc {K : Frg} {wi : TI} {src : IF} {is : List Nat} {g : GF} {tt : PTF} {fe : PF} (hs : ISound K wi src) : PSound K (tLc wi (tG K is g) (tT K tt) (tP K fe) is) (pLc src is g tt fe) := by
  intro σ H A ρ ow Q P gd h q
  refine hs σ H A ρ ow _ _ (fun _ => False) gd (fun _ z => z.elim) h fun zs J H1 hz s1 wk => ?_
  obtain ⟨hlen, hc⟩ := hz
  obtain ⟨G, Y, walk, hG, hY⟩ := wk
  intro D hD
  have hD0 : H D = none := s1.free hD
  let Acc : Addr → Prop := fun a => Or2 (BB A ow) (Fre H) a ∧ a ≠ D
  let P' : List KD → Prop := fun ys => P (jL ys, .lst (ys.map (·.2)))
  let step : KD → (Option KD → Prop) → Prop := fun z Q => g z (wipeR (rdAll ρ) is) fun ρ1 => tt ρ1 fun b => if b = true then fe ρ1 fun y => Q (some y) else Q none
  refine lc_it walk (fun i Hc => Same H1 Hc ∧ ∃ acc accV fp, Hc D = some (.lst accV) ∧ VRs K Acc Hc acc accV fp ∧ fp.Nodup ∧ (∀ a ∈ fp, Fre H a ∧ a ≠ D) ∧ compL step (zs.drop i) acc P' ∧ acc.length ≤ i) ?_ ?_ ?_ ?_
  · exact ⟨same_upd hD, [], [], [], upd_same, ⟨rfl, rfl⟩, List.nodup_nil, fun a h => (nomatch h), hc, Nat.le_refl _⟩
  · exact fun i H2 _ p => hG H2 fun a o e _ => p.1 a o e
  · rintro i x H2 H3 hi ⟨sm, acc, accV, fp, hDv, r, nd, hF, hcomp, hl⟩ y
    have hzi : zs[i]? = some zs[i] := List.getElem?_eq_getElem hi
    obtain ⟨s3, vz⟩ := hY i H2 x H3 zs[i] hzi (fun a o e _ => sm a o e) y
    rw [List.drop_eq_getElem_cons hi] at hcomp
    have hstep : step zs[i] fun r => match r with
      | some y => compL step (zs.drop (i + 1)) (acc ++ [y]) P'
      | none => compL step (zs.drop (i + 1)) acc P' := hcomp
    have hD3 : H3 D = some (.lst accV) := s3 _ _ hDv
    have s03 : Same H H3 := (s1.trans sm).trans s3
    -- the block's own knowledge
    let Ab : Addr → Prop := fun a => Acc a ∧ ∃ o, H3 a = some o
    have bAb : ∀ a, BB A ow a → Ab a := fun a h => by
      have tr : ∃ o, H a = some o := by
        rcases h with h | h
        · exact gd.tr a h
        · obtain ⟨o, e, _⟩ := gd.rep.mu a h; exact ⟨o, e⟩
      obtain ⟨o, e⟩ := tr
      exact ⟨⟨.inl h, fun z => by rw [z, hD0] at e; cases e⟩, o, s03 a o e⟩
    have gb : Good K Ab H3 (wipeR (rdAll ρ) is) (wipe σ is) [] :=
      ⟨(RepS.mono bAb (RepS.keep (KeepF.of_same s03) (gd.rep.rdAll fun _ h => h))).wipe is, List.nodup_nil, fun a h => (nomatch h), fun a h => h.2⟩
    have vb : VR K Ab H3 zs[i] x [] := vz.monoT fun a o e h => by
      rcases h with h | ⟨h1, u, h2⟩
      · exact bAb a h
      · exact ⟨⟨.inr h1, fun z => by rw [z, hD] at h2; cases h2⟩, o, e⟩
    have noD : ∀ a u, a ≠ D → ∀ (Hx : Hp) w, Hx a = some u → (upd Hx D w) a = some u := fun a u n Hx w e => by rw [upd_ne n]; exact e
    refine ⟨zs[i], [], Ab, _, [], _, gb, ⟨vb, by simp, fun a h => (nomatch h)⟩, hstep, fun ρ1 σ1 ow1 h1 g1 sub1 w1 => ⟨w1.trans (wipe_idem σ is), ?_⟩⟩
    have ow1n : ow1 = [] := by
      cases ow1 with
      | nil => rfl
      | cons a r => rcases sub1 a List.mem_cons_self with z | z <;> cases z
    subst ow1n
    refine ⟨Ab, ρ1, [], _, g1, h1, fun b H4 h2 s4 => ?_⟩
    cases b with
    | false =>
      rw [if_neg Bool.false_ne_true] at h2 ⊢
      exact ⟨(sm.trans s3).trans s4, acc, accV, fp, s4 _ _ hD3, (r.same s3).same s4, nd, hF, h2, by omega⟩
    | true =>
      rw [if_pos rfl] at h2 ⊢
      refine ⟨Ab, ρ1, [], _, g1.same s4, h2, fun z v H5 h3 s5 p5 => ?_⟩
      have hD5 : H5 D = some (.lst accV) := s5 _ _ (s4 _ _ hD3)
      have s05 : Same H H5 := (s03.trans s4).trans s5
      have r5 := ((r.same s3).same s4).same s5
      obtain ⟨f5, a5, n5, fr5⟩ := p5
      have fr5' : ∀ a ∈ f5, Fre H a ∧ a ≠ D := fun a h => by
        have e4 : H4 a = none := fr5 a h
        have e3 : H3 a = none := s4.free e4
        exact ⟨s03.free e3, fun z => by rw [z, hD3] at e3; cases e3⟩
      have a5' : VR K Acc H5 z v f5 := a5.mono fun a h => by
        rcases h with (h | h) | h
        · exact h.1
        · cases h
        · have e4 : H4 a = none := h
          have e3 : H3 a = none := s4.free e4
          exact ⟨.inr (s03.free e3), fun z => by rw [z, hD3] at e3; cases e3⟩
      have all := r5.append (VRs.one a5')
      refine ⟨accV, hD5, ?_, fun b u e => ?_, acc ++ [z], accV ++ [v], fp ++ f5, upd_same, ?_, ?_, ?_, h3, ?_⟩
      · rw [r.len, sizeLine_eq]
        have := hi
        omega
      · have e5 : H5 b = some u := ((sm.trans s3).trans s4).trans s5 b u e
        rw [upd_ne (fun z => by rw [z, hD] at e; cases e)]
        exact e5
      · have kp : KeepF Acc (fp ++ f5) H5 (upd H5 D (.lst (accV ++ [v]))) := fun a u e h => by
          refine noD a u (fun z => ?_) H5 _ e
          rcases h with h | h | h
          · rcases List.mem_append.mp h with h | h
            · exact (hF a h).2 z
            · exact (fr5' a h).2 z
          · exact h.2 z
          · rw [z, hD5] at e; cases e; exact h
        exact VRs.keepF kp all
      · refine List.nodup_append.mpr ⟨nd, n5, fun a ha b hb e => ?_⟩
        subst e
        obtain ⟨o, e, _⟩ := ((r.same s3).same s4).mu a ha
        rw [show H4 a = none from fr5 a hb] at e; cases e
      · intro a h
        rcases List.mem_append.mp h with h | h
        · exact hF a h
        · exact fr5' a h
      · rw [List.length_append]
        show acc.length + 1 ≤ i + 1
        omega
  · rintro H2 ⟨sm, acc, accV, fp, hDv, r, nd, hF, hcomp, hl⟩
    rw [List.drop_eq_nil_of_le (Nat.le_refl _)] at hcomp
    have hP : P (jL acc, .lst (acc.map (·.2))) := hcomp
    refine q _ _ H2 hP (s1.trans sm) ?_
    have np : D ∉ fp := fun z => (hF D z).2 rfl
    have rO : VRs K (Or2 (BB A ow) (Fre H)) H2 acc accV fp := r.mono fun a h => h.1
    rcases jT_cases acc with e | e | e
    · have e' : jL acc = .sh := by unfold jL; rw [e]
      rw [e']
      exact ⟨[D], ⟨⟨D, accV, [], rfl, rfl, hDv, Rs.of0 _ _ (rO.fl e).2⟩, D, accV, rfl, hDv, (rO.fl e).2⟩, by simp, fun a q => by rw [List.mem_singleton.mp q]; exact hD0⟩
    · have e' : jL acc = .ow := by unfold jL; rw [e]
      rw [e']
      exact ⟨D :: fp, ⟨D, accV, fp, rfl, rfl, hDv, rO.ow (by rw [e]; decide)⟩, List.nodup_cons.mpr ⟨np, nd⟩, fun a q => by
        rcases List.mem_cons.mp q with rfl | q
        · exact hD0
        · exact (hF a q).1⟩
    · have e' : jL acc = .rd := by unfold jL; rw [e]
      rw [e']
      exact .rd ⟨D, accV, rfl, .inr hD0, hDv, rO.ra (fun _ h => h) fun a q => .inr (hF a q).1⟩
end
end DL

namespace DL
open PySem PySem.Spec PyProof.Rows L2

section
variable {X : Cx} {pos : Pos}
theorem dp_lc {elt tg iter : Expr} {ifs : List Expr} {scope : Scope} {own : List (Str × Nat)} {is : List Nat} {src : IF} {g : GF} {tt : PTF} {fe : PF} (hc : X.calm = true) (hN : X.N.Nodup) (hi : DI X tg iter src) (ok : BlkOk X.N X.env.scope scope own)
    (hg : ∀ (s : Shared) (H : Hp) (C : Addr) (cl : List (Str × Addr)) (fp : List Addr), DG (X.blk s H scope (compEnvC scope cl C X.env) fp) tg is g) (ht : ∀ (s : Shared) (H : Hp) (C : Addr) (cl : List (Str × Addr)) (fp : List Addr), DTs (X.blk s H scope (compEnvC scope cl C X.env) fp) ifs tt)
    (he : ∀ (s : Shared) (H : Hp) (C : Addr) (cl : List (Str × Addr)) (fp : List Addr), DP (X.blk s H scope (compEnvC scope cl C X.env) fp) elt fe) (his : own.map (·.2) = is := by rfl) (hs : ∀ x, foldedSetIterable iter X.env x = pure x := by intro _; rfl) :
    DP X (.ListComp elt [⟨tg, iter, ifs, 0⟩] scope pos) (pLc src is g tt fe) := by
  obtain ⟨t, e, s⟩ := hi.run
  subst his
  exact ⟨_, pe_lc hc hN e ok (fun s H C cl fp => (hg s H C cl fp).can) (fun s H C cl fp => (ht s H C cl fp).run) (fun s H C cl fp => (he s H C cl fp).can) hs, sound_lc s⟩
end

abbrev EF := Ro → (KD → Ro → Prop) → (Str → Ro → Prop) → Prop
abbrev TEF := Ro → (Bool → Ro → Prop) → (Str → Ro → Prop) → Prop
def ESound (K : Frg) (E : XK) (t : TE) (f : EF) : Prop := ∀ (σ : L2.St) (H : Hp) (A : Addr → Prop) (ρ : Ro) (ow : List Addr) (Q : VK) (P : KD → Ro → Prop) (PX : Str → Ro → Prop), Good K A H ρ σ ow → f ρ P PX →
  (∀ z ρ' v H' fp ow' A', P z ρ' → Stp H ow A H' (fp ++ ow') A' → Good K A' H' ρ' σ ow' → Own K A' H' z v fp ow' → Q v H') →
  (∀ C ρ' H' ow' A', PX C ρ' → Stp H ow A H' ow' A' → Good K A' H' ρ' σ ow' → E (.ref (He.ga K C)) none H') → t σ H Q
def TESound (K : Frg) (E : XK) (t : TT) (f : TEF) : Prop := ∀ (σ : L2.St) (H : Hp) (A : Addr → Prop) (ρ : Ro) (ow : List Addr) (Q : Bool → Hp → Prop) (P : Bool → Ro → Prop) (PX : Str → Ro → Prop), Good K A H ρ σ ow → f ρ P PX →
  (∀ b ρ' H' ow' A', P b ρ' → Stp H ow A H' ow' A' → Good K A' H' ρ' σ ow' → Q b H') →
  (∀ C ρ' H' ow' A', PX C ρ' → Stp H ow A H' ow' A' → Good K A' H' ρ' σ ow' → E (.ref (He.ga K C)) none H') → t σ H Q
structure DE (X : Cx) (E : XK) (e : Expr) (f : EF) : Prop where
  run : ∃ t, PE X e t ∧ ESound X.K E t f
structure DTE (X : Cx) (E : XK) (e : Expr) (f : TEF) : Prop where
  run : ∃ t, PT X e t ∧ TESound X.K E t f
def rdOnly (ρ : Ro) : Ro := ρ.map fun s => match s with
  | some (.sh, _) => none
  | some (.ow, _) => none
  | s => s
def eP (f : PF) : EF := fun ρ P _ => f ρ fun z => match z.1 with
  | .fl => P z ρ
  | .sh => P z ρ
  | .ow => P z ρ
  | _ => False
def eMv (i : Nat) : EF := fun ρ P _ => match ρ[i]? with
  | some (some (k, d)) => (match k with
    | .sh => P (k, d) (ρ.set i none)
    | .ow => P (k, d) (ρ.set i none)
    | _ => P (k, d) ρ)
  | _ => False
def teP (f : PTF) : TEF := fun ρ P _ => f ρ fun b => P b ρ
section
variable {K : Frg} {A A' : Addr → Prop} {H H' : Hp} {ρ : Ro} {σ : L2.St} {ow : List Addr}
theorem PR.own {v : V} {z : KD} (g : Good K A H ρ σ ow) (s : Same H H') (p : PR K (BB A ow) (Fre H) H' v z) (hk : z.1 = .fl ∨ z.1 = .sh ∨ z.1 = .ow) :
    ∃ fp, Stp H ow A H' (fp ++ ow) A ∧ Own K A H' z v fp ow := by
  obtain ⟨fp, r, nd, hF⟩ := p
  refine ⟨fp, ⟨fun a o e _ => s a o e, fun a h => ?_, fun _ h => h, fun _ h => .inl h⟩, ⟨?_, List.nodup_append.mpr ⟨nd, g.nd, fun a ha b hb e => ?_⟩, fun a h z => ?_⟩⟩
  · rcases List.mem_append.mp h with h | h
    · exact .inr (hF a h)
    · exact .inl h
  · obtain ⟨k, d⟩ := z
    rcases hk with rfl | rfl | rfl <;> exact r
  · subst e
    obtain ⟨o, e, _⟩ := g.rep.mu a hb
    rw [show H a = none from hF a ha] at e; cases e
  · obtain ⟨o, e⟩ := g.tr a z
    rw [show H a = none from hF a h] at e; cases e
theorem RepS.rdOnly : ∀ {ρ : Ro} {σ : L2.St} {f : List Addr}, RepS K A H ρ σ f → RepS K A H (rdOnly ρ) σ []
  | [], _, _, h => ⟨h.1, rfl⟩
  | s :: ρ, _, _, ⟨x, σ', f, g, e, e2, h, r⟩ => by
    refine ⟨x, σ', [], [], e, rfl, ?_, RepS.rdOnly r⟩
    cases s with
    | none => rfl
    | some kd =>
      obtain ⟨k, d⟩ := kd
      obtain ⟨v, ev, h⟩ := h
      cases k with
      | fl => exact ⟨v, ev, rfl, h.2⟩
      | rd => exact ⟨v, ev, rfl, h.2⟩
      | sa => exact ⟨v, ev, rfl, h.2⟩
      | sh => rfl
      | ow => rfl
theorem Good.rdOnly (g : Good K A H ρ σ ow) : Good K A H (rdOnly ρ) σ [] := ⟨g.rep.rdOnly, List.nodup_nil, fun _ h => (nomatch h), g.tr⟩
theorem Good.freeze (g : Good K A H ρ σ ow) (s : Same H H') : Good K (fun a => A a ∨ Fre2 H H' a) H' ρ σ ow :=
  ⟨(g.rep.keep (KeepF.of_same s)).mono fun _ h => .inl h, g.nd, (fun a h z => by
    rcases z with z | ⟨z, _⟩
    · exact g.dis a h z
    · obtain ⟨o, e, _⟩ := g.rep.mu a h
      rw [z] at e; cases e), (fun a h => by
    rcases h with h | ⟨_, h⟩
    · obtain ⟨o, e⟩ := g.tr a h; exact ⟨o, s a o e⟩
    · exact h)⟩
theorem Stp.freeze (s : Same H H') : Stp H ow A H' ow (fun a => A a ∨ Fre2 H H' a) :=
  ⟨fun a o e _ => s a o e, fun _ h => .inl h, fun _ h => .inl h, fun _ h => h.elim .inl fun z => .inr (.inr z.1)⟩
theorem Good.move {i : Nat} {kd : KD} (g : Good K A H ρ σ ow) (e : ρ[i]? = some (some kd)) : ∃ v fp ow', σ[i]? = some (some v) ∧ Good K A H (ρ.set i none) σ ow' ∧ Own K A H kd v fp ow' ∧ ∀ a ∈ fp ++ ow', a ∈ ow := by
  obtain ⟨x, f1, f2, f3, hx, e2, ⟨v, ev, h⟩, put⟩ := g.rep.split e
  subst ev e2
  have nd := g.nd
  obtain ⟨n1, n2, n3⟩ := List.nodup_append.mp nd
  obtain ⟨m1, m2, m3⟩ := List.nodup_append.mp n2
  have r : RepS K A H (ρ.set i none) σ (f1 ++ f3) := by
    have := put H A none (some v) [] (fun _ h => h) (fun a o e _ => e) rfl
    rwa [set_same hx] at this
  refine ⟨v, f2, f1 ++ f3, hx, ⟨r, List.nodup_append.mpr ⟨n1, m2, fun a ha b hb => n3 a ha b (by simp [hb])⟩, fun a h => g.dis a (by rcases List.mem_append.mp h with h | h <;> simp [h]), g.tr⟩,
    ⟨h, List.nodup_append.mpr ⟨m1, List.nodup_append.mpr ⟨n1, m2, fun a ha b hb => n3 a ha b (by simp [hb])⟩, fun a ha b hb e => ?_⟩, fun a h => g.dis a (by simp [h])⟩, fun a h => ?_⟩
  · subst e
    rcases List.mem_append.mp hb with hb | hb
    · exact n3 a hb a (by simp [ha]) rfl
    · exact m3 a ha a hb rfl
  · rcases List.mem_append.mp h with h | h
    · simp [h]
    · rcases List.mem_append.mp h with h | h <;> simp [h]
theorem VR.own0 {k : Kd} {d : D} {v : V} {f : List Addr} (h : VR K A H (k, d) v f) (hk : k = .fl ∨ k = .sa ∨ k = .rd) : f = [] := by
  rcases hk with rfl | rfl | rfl <;> exact h.1
end
section
variable {X : Cx} {E : XK} {pos : Pos} {e : Expr} {f : PF}
theorem de_p (h : DP X e f) : DE X E e (eP f) := by
  obtain ⟨t, pe, s⟩ := h.run
  refine ⟨t, pe, fun σ H A ρ ow Q P PX g hf q _ => ?_⟩
  refine s σ H A ρ ow _ _ g hf fun z v H' hz s1 p1 => ?_
  have hk : (z.1 = .fl ∨ z.1 = .sh ∨ z.1 = .ow) ∧ P z ρ := by
    obtain ⟨k, d⟩ := z
    cases k <;> first
      | exact ⟨.inl rfl, hz⟩
      | exact ⟨.inr (.inl rfl), hz⟩
      | exact ⟨.inr (.inr rfl), hz⟩
      | exact hz.elim
  obtain ⟨fp, s2, o2⟩ := p1.own g s1 hk.1
  exact q z ρ v H' fp ow A hk.2 s2 (g.same s1) o2
theorem de_mv (i : Nat) {x : Str} (hN : X.N[i]? = some x := by rfl) (hv : Vis X.env.scope x := by first | exact Or.inl rfl | exact Or.inr (Or.inl rfl) | exact Or.inr (Or.inr rfl)) (hd : (x == ("__debug__" : Str)) = false := by decide)
    (hcd : (x == ("__classdict__" : Str)) = false := by decide) : DE X E (.Name x pos) (eMv i) := by
  refine ⟨tVar i, pe_var hN hv hd hcd, fun σ H A ρ ow Q P PX g h q _ => ?_⟩
  unfold eMv at h
  cases e : ρ[i]? with
  | none => rw [e] at h; exact h.elim
  | some s =>
    rw [e] at h
    cases s with
    | none => exact h.elim
    | some kd =>
      obtain ⟨k, d⟩ := kd
      obtain ⟨v, fp, ow', hv, g', o, sub⟩ := g.move e
      refine ⟨v, hv, ?_⟩
      have stp : Stp H ow A H (fp ++ ow') A := ⟨fun _ _ e _ => e, fun a h => .inl (sub a h), fun _ h => h, fun _ h => .inl h⟩
      have keep : ∀ (hk : k = .fl ∨ k = .sa ∨ k = .rd) (hp : P (k, d) ρ), Q v H := fun hk hp => by
        have e0 := o.rep.own0 hk
        subst e0
        exact q (k, d) ρ v H [] ow A hp Stp.refl g ⟨o.rep, g.nd, fun a h => (nomatch h)⟩
      cases k with
      | fl => exact keep (.inl rfl) h
      | sa => exact keep (.inr (.inl rfl)) h
      | rd => exact keep (.inr (.inr rfl)) h
      | sh => exact q _ _ v H fp ow' A h stp g' o
      | ow => exact q _ _ v H fp ow' A h stp g' o
theorem dte_p {f : PTF} (h : DT X e f) : DTE X E e (teP f) := by
  obtain ⟨t, pe, s⟩ := h.run
  refine ⟨t, pe, fun σ H A ρ ow Q P PX g hf q _ => ?_⟩
  exact s σ H A ρ ow _ _ g hf fun b H' hb s1 => q b ρ H' ow A hb (Stp.of_same s1) (g.same s1)
end

structure DEnds where
  nx : Ro → Prop
  rt : KD → Ro → Prop
  ex : Str → Ro → Prop
abbrev SF := DEnds → Ro → Prop
def SSound (K : Frg) (E : XK) (pr : List Nat) (t : TS) (f : SF) : Prop := ∀ (σ : L2.St) (H : Hp) (A : Addr → Prop) (ρ : Ro) (ow : List Addr) (T : Ends) (D : DEnds), Good K A H ρ σ ow → f D ρ →
  (∀ ρ' σ' H' ow' A', D.nx ρ' → Stp H ow A H' ow' A' → Good K A' H' ρ' σ' ow' → (∀ i ∈ pr, σ'[i]? = σ[i]?) → T.nx σ' H') →
  (∀ z ρ' v σ' H' fp ow' A', D.rt z ρ' → Stp H ow A H' (fp ++ ow') A' → Good K A' H' ρ' σ' ow' → Own K A' H' z v fp ow' → (∀ i ∈ pr, σ'[i]? = σ[i]?) → T.rt v H') →
  (∀ C ρ' σ' H' ow' A', D.ex C ρ' → Stp H ow A H' ow' A' → Good K A' H' ρ' σ' ow' → (∀ i ∈ pr, σ'[i]? = σ[i]?) → E (.ref (He.ga K C)) none H') → t T σ H
structure DS (X : Cx) (E : XK) (pr : List Nat) (st : Stmt) (f : SF) : Prop where
  run : ∃ t, PS X st t ∧ SSound X.K E pr t f
structure DSs (X : Cx) (E : XK) (pr : List Nat) (st : List Stmt) (f : SF) : Prop where
  run : ∃ t, PSs X st t ∧ SSound X.K E pr t f
def sNil : SF := fun D ρ => D.nx ρ
def sSeq (f g : SF) : SF := fun D ρ => f { D with nx := fun ρ' => g D ρ' } ρ
def sSet (i : Nat) (f : EF) : SF := fun D ρ => f ρ (fun z ρ' => D.nx (ρ'.set i (some z))) D.ex
def sAsg (f : EF) (g : GF) : SF := fun D ρ => f ρ (fun z ρ' => g z ρ' D.nx) D.ex
def sExpr (f : EF) : SF := fun D ρ => f ρ (fun _ ρ' => D.nx ρ') D.ex
def sRet (f : EF) : SF := fun D ρ => f ρ D.rt D.ex
def sIf (t : TEF) (f g : SF) : SF := fun D ρ => t ρ (fun b ρ' => if b = true then f D ρ' else g D ρ') D.ex
def forD (g : GF) (body : SF) (D : DEnds) : List KD → Ro → Prop
  | [], ρ => D.nx ρ
  | z :: zs, ρ => g z ρ fun ρ1 => body { D with nx := fun ρ' => forD g body D zs ρ' } ρ1
def sFor (src : IF) (g : GF) (body : SF) : SF := fun D ρ => src (rdOnly ρ) fun zs => forD g body D zs ρ
def whileD (t : TEF) (body : SF) (D : DEnds) : Nat → Ro → Prop
  | 0, _ => False
  | n + 1, ρ => t ρ (fun b ρ' => if b = true then body { D with nx := fun ρ'' => whileD t body D n ρ'' } ρ' else D.nx ρ') D.ex
def sWhile (t : TEF) (body : SF) : SF := fun D ρ => ∃ n, whileD t body D n ρ
def sFrz (i : Nat) (f : SF) : SF := fun D ρ => match ρ[i]? with
  | some (some (k, d)) => f D (ρ.set i (some (k.rdk, d)))
  | _ => False
section
variable {X : Cx} {E : XK} {pr : List Nat} {pos : Pos} {e : Expr} {ef : EF}
theorem ss_nil {K : Frg} : SSound K E pr tNext sNil := fun σ H A ρ ow T D g h nx rt ex => nx ρ σ H ow A h Stp.refl g fun _ _ => rfl
theorem dss_nil : DSs X E pr [] sNil := ⟨_, pss_nil, ss_nil⟩
theorem ss_seq {K : Frg} {t u : TS} {f g : SF} (s : SSound K E pr t f) (s' : SSound K E pr u g) : SSound K E pr (tSeq t u) (sSeq f g) := by
  intro σ H A ρ ow T D gd h nx rt ex
  refine s σ H A ρ ow _ _ gd h (fun ρ1 σ1 H1 ow1 A1 h1 st1 g1 p1 => ?_) rt ex
  refine s' σ1 H1 A1 ρ1 ow1 T D g1 h1 (fun ρ2 σ2 H2 ow2 A2 h2 st2 g2 p2 => nx ρ2 σ2 H2 ow2 A2 h2 (st1.trans st2) g2 fun i hi => (p2 i hi).trans (p1 i hi)) (fun z ρ2 v σ2 H2 fp ow2 A2 h2 st2 g2 o2 p2 => ?_) (fun C ρ2 σ2 H2 ow2 A2 h2 st2 g2 p2 => ?_)
  · exact rt z ρ2 v σ2 H2 fp ow2 A2 h2 (st1.trans st2) g2 o2 fun i hi => (p2 i hi).trans (p1 i hi)
  · exact ex C ρ2 σ2 H2 ow2 A2 h2 (st1.trans st2) g2 fun i hi => (p2 i hi).trans (p1 i hi)
theorem dss_cons {st : Stmt} {rest : List Stmt} {f g : SF} (h : DS X E pr st f) (h' : DSs X E pr rest g) : DSs X E pr (st :: rest) (sSeq f g) := by
  obtain ⟨t, a, s⟩ := h.run
  obtain ⟨u, b, s'⟩ := h'.run
  exact ⟨_, pss_cons a b, ss_seq s s'⟩
theorem dss_one {st : Stmt} {f : SF} (h : DS X E pr st f) : DSs X E pr [st] f := by
  obtain ⟨t, a, s⟩ := h.run
  exact ⟨_, pss_one a, s⟩
theorem Own.sub {K : Frg} {A : Addr → Prop} {H : Hp} {z : KD} {v : V} {fp ow ow' : List Addr} (o : Own K A H z v fp ow) (s : ∀ a ∈ ow', a ∈ ow) (n : ow'.Nodup) : Own K A H z v fp ow' := by
  obtain ⟨n1, n2, n3⟩ := List.nodup_append.mp o.nd
  exact ⟨o.rep, List.nodup_append.mpr ⟨n1, n, fun a ha b hb => n3 a ha b (s b hb)⟩, o.dis⟩
theorem set_ne_pr {σ : L2.St} {i : Nat} {x : Option V} (hp : i ∉ pr) : ∀ j ∈ pr, (σ.set i x)[j]? = σ[j]? := fun j hj => List.getElem?_set_ne fun e => hp (by rw [e]; exact hj)
theorem ss_set {K : Frg} {i : Nat} {te : TE} (hp : i ∉ pr) (s : ESound K E te ef) : SSound K E pr (tAsg te (gName i)) (sSet i ef) := by
  intro σ H A ρ ow T D gd h nx rt ex
  refine s σ H A ρ ow _ _ _ gd h (fun z ρ1 v H1 fp ow1 A1 h1 st1 g1 o1 => ?_) fun C ρ1 H1 ow1 A1 h1 st1 g1 => ex C ρ1 σ H1 ow1 A1 h1 st1 g1 fun _ _ => rfl
  obtain ⟨ow2, g2, sub⟩ := g1.put (i := i) o1
  exact nx _ _ H1 ow2 A1 h1 (st1.sub fun a h => by rcases sub a h with h | h <;> simp [h]) g2 (set_ne_pr hp)
theorem ds_set (i : Nat) {x : Str} {pos' : Pos} (hN : X.N.Nodup) (he : DE X E e ef) (hp : i ∉ pr := by decide) (hi : X.N[i]? = some x := by rfl) (hx : Loc X.env.scope x := by first | exact Or.inl rfl | exact Or.inr rfl)
    (hs : swapsWith e (some (.Name x pos')) pos.line X.env = pure false := by rfl) (hf : X.fn x = true ∨ X.env.scope.names.lookup x = some .local := by first | exact .inl rfl | exact .inr rfl) : DS X E pr (.Assign [.Name x pos'] e pos) (sSet i ef) := by
  obtain ⟨t, a, s⟩ := he.run
  exact ⟨_, ps_set hN hi hx a hs hf, ss_set hp s⟩
theorem ds_setLc (i : Nat) {y : Str} {py spos : Pos} {elt tg iter : Expr} {ifs : List Expr} {scope : Scope} {own : List (Str × Nat)} {is : List Nat} {src : IF} {g : GF} {tt : PTF} {fe : PF} (hc : X.calm = true) (hN : X.N.Nodup) (hp : i ∉ pr) (hy : X.N[i]? = some y) (hyl : X.env.scope.names.lookup y = some .local)
    (hsw : swapsWith (.ListComp elt [⟨tg, iter, ifs, 0⟩] scope pos) (some (.Name y py)) spos.line X.env = pure true) (hi : DI X tg iter src) (ok : BlkOk X.N X.env.scope scope own)
    (hg : ∀ (s : Shared) (H : Hp) (C : Addr) (cl : List (Str × Addr)) (fp : List Addr), DG (X.blk s H scope (compEnvC scope cl C X.env) fp) tg is g) (ht : ∀ (s : Shared) (H : Hp) (C : Addr) (cl : List (Str × Addr)) (fp : List Addr), DTs (X.blk s H scope (compEnvC scope cl C X.env) fp) ifs tt)
    (he : ∀ (s : Shared) (H : Hp) (C : Addr) (cl : List (Str × Addr)) (fp : List Addr), DP (X.blk s H scope (compEnvC scope cl C X.env) fp) elt fe) (his : own.map (·.2) = is := by rfl) (hs : ∀ x, foldedSetIterable iter X.env x = pure x := by intro _; rfl) :
    DS X E pr (.Assign [.Name y py] (.ListComp elt [⟨tg, iter, ifs, 0⟩] scope pos) spos) (sSet i (eP (pLc src is g tt fe))) := by
  obtain ⟨t, e, s⟩ := hi.run
  subst his
  refine ⟨_, ps_setLc (te := tP X.K fe) (g := tG X.K (own.map (·.2)) g) (tt := tT X.K tt) hc hN hy hyl hsw e ok (fun s H C cl fp => (hg s H C cl fp).can) (fun s H C cl fp => (ht s H C cl fp).run) (fun s H C cl fp => (he s H C cl fp).can) hs, ss_set hp ?_⟩
  have z : DE X E (.ListComp elt [⟨tg, iter, ifs, 0⟩] scope pos) (eP (pLc src (own.map (·.2)) g tt fe)) := de_p ⟨_, pe_lc (te := tP X.K fe) (g := tG X.K (own.map (·.2)) g) (tt := tT X.K tt) hc hN e ok (fun s H C cl fp => (hg s H C cl fp).can) (fun s H C cl fp => (ht s H C cl fp).run) (fun s H C cl fp => (he s H C cl fp).can) hs, sound_lc s⟩
  intro σ H A ρ ow Q P PX gd hf q qx
  refine sound_lc s σ H A ρ ow _ _ gd hf fun z v H' hz s1 p1 => ?_
  have hk : (z.1 = .fl ∨ z.1 = .sh ∨ z.1 = .ow) ∧ P z ρ := by
    obtain ⟨k, d⟩ := z
    cases k <;> first
      | exact ⟨.inl rfl, hz⟩
      | exact ⟨.inr (.inl rfl), hz⟩
      | exact ⟨.inr (.inr rfl), hz⟩
      | exact hz.elim
  obtain ⟨fp, s2, o2⟩ := p1.own gd s1 hk.1
  exact q z ρ v H' fp ow A hk.2 s2 (gd.same s1) o2
theorem ds_expr (he : DE X E e ef) (hs : swapsWith e none pos.line X.env = pure false := by rfl) : DS X E pr (.Expr e pos) (sExpr ef) := by
  obtain ⟨t, a, s⟩ := he.run
  refine ⟨_, ps_expr a hs, fun σ H A ρ ow T D gd h nx rt ex => ?_⟩
  exact s σ H A ρ ow _ _ _ gd h (fun z ρ1 v H1 fp ow1 A1 h1 st1 g1 o1 => nx ρ1 σ H1 ow1 A1 h1 (st1.sub fun a h => by simp [h]) g1 fun _ _ => rfl) fun C ρ1 H1 ow1 A1 h1 st1 g1 => ex C ρ1 σ H1 ow1 A1 h1 st1 g1 fun _ _ => rfl
theorem ds_ret (he : DE X E e ef) : DS X E pr (.Return (some e) pos) (sRet ef) := by
  obtain ⟨t, a, s⟩ := he.run
  refine ⟨_, ps_ret a, fun σ H A ρ ow T D gd h nx rt ex => ?_⟩
  exact s σ H A ρ ow _ _ _ gd h (fun z ρ1 v H1 fp ow1 A1 h1 st1 g1 o1 => rt z ρ1 v σ H1 fp ow1 A1 h1 st1 g1 o1 fun _ _ => rfl) fun C ρ1 H1 ow1 A1 h1 st1 g1 => ex C ρ1 σ H1 ow1 A1 h1 st1 g1 fun _ _ => rfl
theorem ds_if {c : Expr} {a b : List Stmt} {tc : TEF} {f g : SF} (hc : DTE X E c tc) (ha : DSs X E pr a f) (hb : DSs X E pr b g) : DS X E pr (.If c a b pos) (sIf tc f g) := by
  obtain ⟨t, pt, s⟩ := hc.run
  obtain ⟨ta, pa, sa⟩ := ha.run
  obtain ⟨tb, pb, sb⟩ := hb.run
  refine ⟨_, ps_if pt pa pb, fun σ H A ρ ow T D gd h nx rt ex => ?_⟩
  refine s σ H A ρ ow _ _ _ gd h (fun b ρ1 H1 ow1 A1 h1 st1 g1 => ?_) fun C ρ1 H1 ow1 A1 h1 st1 g1 => ex C ρ1 σ H1 ow1 A1 h1 st1 g1 fun _ _ => rfl
  cases b with
  | true => exact sa σ H1 A1 ρ1 ow1 T D g1 h1 (fun ρ2 σ2 H2 ow2 A2 h2 st2 => nx ρ2 σ2 H2 ow2 A2 h2 (st1.trans st2)) (fun z ρ2 v σ2 H2 fp ow2 A2 h2 st2 => rt z ρ2 v σ2 H2 fp ow2 A2 h2 (st1.trans st2)) (fun C ρ2 σ2 H2 ow2 A2 h2 st2 => ex C ρ2 σ2 H2 ow2 A2 h2 (st1.trans st2))
  | false => exact sb σ H1 A1 ρ1 ow1 T D g1 h1 (fun ρ2 σ2 H2 ow2 A2 h2 st2 => nx ρ2 σ2 H2 ow2 A2 h2 (st1.trans st2)) (fun z ρ2 v σ2 H2 fp ow2 A2 h2 st2 => rt z ρ2 v σ2 H2 fp ow2 A2 h2 (st1.trans st2)) (fun C ρ2 σ2 H2 ow2 A2 h2 st2 => ex C ρ2 σ2 H2 ow2 A2 h2 (st1.trans st2))
theorem ds_for {tg iter : Expr} {body : List Stmt} {src : IF} {is : List Nat} {g : GF} {f : SF} (hp : PassesOwn (model X.prog X.w) X.A X.env X.xe) (hc : X.calm = true) (hi : DI X tg iter src) (hg : DG X tg is g) (hb : DSs X E pr body f) (hpr : (is.all fun i => !pr.contains i) = true := by rfl)
    (hs : ∀ x, foldedSetIterable iter X.env x = pure x := by intro _; rfl) : DS X E pr (.For tg iter body [] pos) (sFor src g f) := by
  obtain ⟨ti, pi, si⟩ := hi.run
  obtain ⟨tg', pg, sg⟩ := hg.run
  obtain ⟨tb, pb, sb⟩ := hb.run
  refine ⟨_, ps_for hp hc pi pg pb hs, fun σ H A ρ ow T D gd h nx rt ex => ?_⟩
  refine si σ H A (rdOnly ρ) [] _ _ (fun a => a ∈ ow) gd.rdOnly (fun a z => ⟨fun h => ?_, gd.rep.mu a z⟩) h fun zs J H1 hz s1 wk => ?_
  · rcases h with h | h
    · exact gd.dis a z h
    · cases h
  obtain ⟨G, Y, walk, hG, hY⟩ := wk
  have g1 := gd.freeze s1
  have st0 : Stp H ow A H1 ow (fun a => A a ∨ Fre2 H H1 a) := Stp.freeze s1
  refine for_it walk (fun i σ' H' => ∃ ρ' ow' A', Good X.K A' H' ρ' σ' ow' ∧ Stp H1 ow (fun a => A a ∨ Fre2 H H1 a) H' ow' A' ∧ forD g f D (zs.drop i) ρ' ∧ ∀ j ∈ pr, σ'[j]? = σ[j]?) ⟨ρ, ow, _, g1, Stp.refl, hz, fun _ _ => rfl⟩ ?_ ?_ ?_
  · rintro i σ' H' _ ⟨ρ', ow', A', _, st, _⟩
    exact hG H' fun a o e n => st.same a o e n
  · rintro i x σ' H' H2 hi ⟨ρ', ow', A', g', st, hf, hpr'⟩ y
    have hzi : zs[i]? = some zs[i] := List.getElem?_eq_getElem hi
    obtain ⟨s2, vz⟩ := hY i H' x H2 zs[i] hzi (fun a o e n => st.same a o e n) y
    rw [List.drop_eq_getElem_cons hi] at hf
    have hstep : g zs[i] ρ' fun ρ1 => f { D with nx := fun ρ' => forD g f D (zs.drop (i + 1)) ρ' } ρ1 := hf
    have vA : VR X.K A' H2 zs[i] x [] := vz.mono fun a h => by
      rcases h with (h | h) | h
      · exact st.up a (.inl h)
      · cases h
      · exact st.up a (.inr h)
    refine sg x zs[i] [] σ' H2 A' ρ' ow' _ _ (g'.same s2) ⟨vA, by simpa using g'.nd, fun a h => (nomatch h)⟩ hstep fun ρ1 σ1 ow1 h1 g1' sub1 w1 => ?_
    have st1 : Stp H1 ow (fun a => A a ∨ Fre2 H H1 a) H2 ow1 A' := (st.trans (Stp.of_same s2)).sub fun a h => by
      rcases sub1 a h with h | h
      · exact h
      · cases h
    have pr1 : ∀ j ∈ pr, σ1[j]? = σ[j]? := fun j hj => by
      have hl : σ1.length = σ'.length := by rw [← wipe_length σ1 is, w1, wipe_length]
      have e : (wipe σ1 is)[j]? = (wipe σ' is)[j]? := by rw [w1]
      have nj : j ∉ is := fun z => by
        have := List.all_eq_true.mp hpr j z
        simp [hj] at this
      rw [wipe_get, wipe_get, if_neg (fun z => nj z.1), if_neg (fun z => nj z.1)] at e
      exact e.trans (hpr' j hj)
    refine sb σ1 H2 A' ρ1 ow1 _ _ g1' h1 (fun ρ3 σ3 H3 ow3 A3 h3 st3 g3 p3 => ⟨ρ3, ow3, A3, g3, st1.trans st3, h3, fun j hj => (p3 j hj).trans (pr1 j hj)⟩) (fun z ρ3 v σ3 H3 fp ow3 A3 h3 st3 g3 o3 p3 => ?_) (fun C ρ3 σ3 H3 ow3 A3 h3 st3 g3 p3 => ?_)
    · exact rt z ρ3 v σ3 H3 fp ow3 A3 h3 (st0.trans (st1.trans st3)) g3 o3 fun j hj => (p3 j hj).trans (pr1 j hj)
    · exact ex C ρ3 σ3 H3 ow3 A3 h3 (st0.trans (st1.trans st3)) g3 fun j hj => (p3 j hj).trans (pr1 j hj)
  · rintro σ' H' ⟨ρ', ow', A', g', st, hf, hpr'⟩
    rw [List.drop_eq_nil_of_le (Nat.le_refl _)] at hf
    exact nx ρ' σ' H' ow' A' hf (st0.trans st) g' hpr'
end
end DL

namespace DL
open PySem PySem.Spec PyProof.Rows L2

abbrev CF := List KD → (KD → List KD → Prop) → (Str → List KD → Prop) → Prop
def sel {α : Type} : List Bool → List α → List α
  | true :: ms, x :: xs => x :: sel ms xs
  | false :: ms, _ :: xs => sel ms xs
  | _, _ => []
structure Ret (K : Frg) (H : Hp) (M : List Addr) (A : Addr → Prop) (ms : List Bool) (vs : List V) (H' : Hp) (A' : Addr → Prop) (M' : List Addr) (ys : List KD) (fp : List Addr) : Prop where
  stp : Stp H M A H' (fp ++ M') A'
  muts : VRs K A' H' ys (sel ms vs) M'
  nd : (fp ++ M').Nodup
  dis : ∀ a ∈ fp ++ M', ¬ A' a
  tr : ∀ a, A' a → ∃ o, H' a = some o
def spOf (K : Frg) (n : Nat) (ms : List Bool) (c : CF) : Sp := fun vs H Q E => vs.length = n ∧ ∃ zs A M Q0 X0, VRs K A H zs vs M ∧ M.Nodup ∧ (∀ a ∈ M, ¬ A a) ∧ (∀ a, A a → ∃ o, H a = some o) ∧ c zs Q0 X0 ∧
  (∀ z ys v H' fp M' A', Q0 z ys → Ret K H M A ms vs H' A' M' ys fp → VR K A' H' z v fp → Q v H') ∧
  (∀ C ys H' M' A', X0 C ys → Ret K H M A ms vs H' A' M' ys [] → E (.ref (He.ga K C)) none H')
def mutsOf : List Bool → Ro → Option (List KD)
  | [], _ => some []
  | true :: ms, some kd :: ρ => (mutsOf ms ρ).map (kd :: ·)
  | true :: _, _ => none
  | false :: ms, _ :: ρ => mutsOf ms ρ
  | false :: _, [] => none
def prOf (ms : List Bool) : List Nat := (List.range ms.length).filter fun i => ms[i]? == some true
def cfOf (n : Nat) (ms : List Bool) (f : SF) : CF := fun zs Q X => f
  { nx := fun ρ => match mutsOf ms ρ with | some ys => Q (.fl, .non) ys | none => False
    rt := fun z ρ => match mutsOf ms ρ with | some ys => Q z ys | none => False
    ex := fun C ρ => match mutsOf ms ρ with | some ys => X C ys | none => False } (zs.map some ++ List.replicate n none)
section
variable {K : Frg} {A : Addr → Prop} {H : Hp}
theorem RepS.start : ∀ {zs : List KD} {vs : List V} {M : List Addr} (n : Nat), VRs K A H zs vs M → RepS K A H (zs.map some ++ List.replicate n none) (vs.map some ++ List.replicate n none) M
  | [], _, _, n, h => by
    obtain ⟨e1, e2⟩ := h
    subst e1 e2
    show RepS K A H (List.replicate n none) (List.replicate n none) []
    induction n with
    | zero => exact ⟨rfl, rfl⟩
    | succ n ih => exact ⟨none, _, [], [], rfl, rfl, rfl, ih⟩
  | z :: zs, _, _, n, ⟨w, ws, f1, f2, e, e2, h, t⟩ => by
    subst e e2
    exact ⟨some w, _, f1, f2, rfl, rfl, ⟨w, rfl, h⟩, RepS.start n t⟩
theorem RepS.muts : ∀ {ms : List Bool} {ρ : Ro} {σ : L2.St} {ow : List Addr} {vs : List V} {ys : List KD}, RepS K A H ρ σ ow → mutsOf ms ρ = some ys → ms.length = vs.length →
    (∀ i : Nat, ms[i]? = some true → ∃ v, vs[i]? = some v ∧ σ[i]? = some (some v)) → ∃ M', VRs K A H ys (sel ms vs) M' ∧ M'.Sublist ow
  | [], _, _, _, vs, ys, _, h, hl, _ => by
    have : ys = [] := (Option.some.inj h).symm
    subst this
    exact ⟨[], ⟨by cases vs <;> rfl, rfl⟩, List.nil_sublist _⟩
  | true :: ms, [], _, _, _, _, _, h, _, _ => by cases h
  | true :: ms, none :: ρ, _, _, _, _, _, h, _, _ => by cases h
  | false :: ms, [], _, _, _, _, _, h, _, _ => by cases h
  | true :: ms, some kd :: ρ, _, _, [], _, _, _, hl, _ => by cases hl
  | true :: ms, some kd :: ρ, _, _, v :: vs, ys, ⟨x, σ', f, g, e, e2, ⟨w, ew, hw⟩, r⟩, h, hl, hs => by
    subst e e2 ew
    have h' : (mutsOf ms ρ).map (kd :: ·) = some ys := h
    cases q : mutsOf ms ρ with
    | none => rw [q] at h'; cases h'
    | some ys' =>
      rw [q] at h'
      have e3 : kd :: ys' = ys := Option.some.inj h'
      subst e3
      obtain ⟨v', ev, es⟩ := hs 0 rfl
      have e4 : v = v' := Option.some.inj ev
      have e5 : w = v' := Option.some.inj (Option.some.inj es)
      subst e4 e5
      obtain ⟨M', rM, sub⟩ := RepS.muts r q (by simpa using hl) fun i hi => by
        obtain ⟨u, e1, e2⟩ := hs (i + 1) (by simpa using hi)
        exact ⟨u, by simpa using e1, by simpa using e2⟩
      exact ⟨f ++ M', ⟨w, _, f, M', rfl, rfl, hw, rM⟩, (List.Sublist.refl f).append sub⟩
  | false :: ms, s :: ρ, _, _, [], _, _, _, hl, _ => by cases hl
  | false :: ms, s :: ρ, _, _, v :: vs, ys, ⟨x, σ', f, g, e, e2, hs0, r⟩, h, hl, hs => by
    subst e e2
    obtain ⟨M', rM, sub⟩ := RepS.muts (ms := ms) r h (by simpa using hl) fun i hi => by
      obtain ⟨u, e1, e2⟩ := hs (i + 1) (by simpa using hi)
      exact ⟨u, by simpa using e1, by simpa using e2⟩
    exact ⟨M', rM, sub.trans (List.sublist_append_right f g)⟩
theorem mem_prOf {ms : List Bool} {i : Nat} (h : ms[i]? = some true) : i ∈ prOf ms := by
  unfold prOf
  refine List.mem_filter.mpr ⟨List.mem_range.mpr (List.getElem?_eq_some_iff.mp h).1, ?_⟩
  rw [h]; rfl
theorem body_ok {t : TS} {f : SF} {N : List Str} {ms : List Bool} {E : XK} {vs : List V} {Q : VK} {n : Nat} (s : SSound K E (prOf ms) t f) (hn : N.length - vs.length = n) (hm : ms.length = vs.length) (hsp : spOf K vs.length ms (cfOf n ms f) vs H Q E) :
    t { nx := fun _ H' => Q .non H', rt := Q } (start N vs) H := by
  obtain ⟨_, zs, A, M, Q0, X0, r, nd, dis, tr, hc, hq, hx⟩ := hsp
  have rs : RepS K A H (zs.map some ++ List.replicate n none) (start N vs) M := by
    unfold L2.start
    rw [hn]
    exact RepS.start n r
  have good : Good K A H (zs.map some ++ List.replicate n none) (start N vs) M := ⟨rs, nd, dis, tr⟩
  have slot : ∀ i : Nat, ms[i]? = some true → ∃ v, vs[i]? = some v ∧ (start N vs)[i]? = some (some v) := fun i hi => by
    have hl : i < vs.length := by rw [← hm]; exact (List.getElem?_eq_some_iff.mp hi).1
    refine ⟨vs[i], List.getElem?_eq_getElem hl, ?_⟩
    unfold L2.start
    rw [List.getElem?_append_left (by rw [List.length_map]; exact hl), List.getElem?_map, List.getElem?_eq_getElem hl]
    rfl
  have fin : ∀ {ρ' : Ro} {σ' : L2.St} {H' : Hp} {fp ow' : List Addr} {A' : Addr → Prop} {ys : List KD}, mutsOf ms ρ' = some ys → Stp H M A H' (fp ++ ow') A' → Good K A' H' ρ' σ' ow' → (fp ++ ow').Nodup → (∀ a ∈ fp, ¬ A' a) →
      (∀ i ∈ prOf ms, σ'[i]? = (start N vs)[i]?) → ∃ M', Ret K H M A ms vs H' A' M' ys fp := fun {ρ' σ' H' fp ow' A' ys} e st g nd' dis' p => by
    obtain ⟨M', rM, sub⟩ := g.rep.muts e hm fun i hi => by
      obtain ⟨v, e1, e2⟩ := slot i hi
      exact ⟨v, e1, (p i (mem_prOf hi)).trans e2⟩
    have sub2 : (fp ++ M').Sublist (fp ++ ow') := (List.Sublist.refl fp).append sub
    refine ⟨M', st.sub fun a h => sub2.subset h, rM, List.Nodup.sublist sub2 nd', fun a h => ?_, g.tr⟩
    rcases List.mem_append.mp h with h | h
    · exact dis' a h
    · exact g.dis a (sub.subset h)
  refine s (start N vs) H A _ M _ _ good hc (fun ρ' σ' H' ow' A' h st g p => ?_) (fun z ρ' v σ' H' fp ow' A' h st g o p => ?_) (fun C ρ' σ' H' ow' A' h st g p => ?_)
  · dsimp only at h
    split at h
    · rename_i ys e
      obtain ⟨M', rt⟩ := fin (fp := []) e st g g.nd (fun a h => (nomatch h)) p
      exact hq _ _ .non H' [] M' A' h rt ⟨rfl, rfl⟩
    · exact h.elim
  · dsimp only at h
    split at h
    · rename_i ys e
      obtain ⟨M', rt⟩ := fin e st g o.nd o.dis p
      exact hq _ _ v H' fp M' A' h rt o.rep
    · exact h.elim
  · dsimp only at h
    split at h
    · rename_i ys e
      obtain ⟨M', rt⟩ := fin (fp := []) e st g g.nd (fun a h => (nomatch h)) p
      exact hx C _ H' M' A' h rt
    · exact h.elim
end
section
variable {P : Program} {w : World} {K : Frg} {mg : Str → Option Value} {base : Heap}
end

def pFn (c : CF) (g : PAF) : PF := fun ρ P => g ρ fun zs => c (zs.map fun z => (z.1.rdk, z.2)) (fun z _ => P z) (fun _ _ => False)
section
variable {K : Frg} {A B F : Addr → Prop} {H H' : Hp}
theorem VR.view {z : KD} {v : V} {f : List Addr} (h : VR K A H z v f) (m : ∀ a, A a → B a) (s : ∀ a ∈ f, B a) : VR K B H (z.1.rdk, z.2) v [] := by
  obtain ⟨k, d⟩ := z
  have r : RA K B H d v := h.ra m s
  cases k with
  | fl => exact ⟨rfl, h.2⟩
  | rd => exact ⟨rfl, r⟩
  | ow => exact ⟨rfl, r⟩
  | sh => exact ⟨rfl, r, h.2⟩
  | sa => exact ⟨rfl, r, h.2.2⟩
theorem VRs.view (m : ∀ a, A a → B a) : ∀ {zs : List KD} {vs : List V} {f : List Addr}, VRs K A H zs vs f → (∀ a ∈ f, B a) → VRs K B H (zs.map fun z => (z.1.rdk, z.2)) vs []
  | [], _, _, h, _ => ⟨h.1, rfl⟩
  | z :: zs, _, _, ⟨w, ws, f1, f2, e, e2, h, t⟩, s => ⟨w, ws, [], [], e, rfl, h.view m fun a q => s a (by rw [e2]; exact List.mem_append_left _ q), VRs.view m t fun a q => s a (by rw [e2]; exact List.mem_append_right _ q)⟩
theorem VRs.monoT (m : ∀ a o, H a = some o → A a → B a) : ∀ {zs : List KD} {vs : List V} {f : List Addr}, VRs K A H zs vs f → VRs K B H zs vs f
  | [], _, _, h => h
  | z :: zs, _, _, ⟨w, ws, f1, f2, e, e2, h, t⟩ => ⟨w, ws, f1, f2, e, e2, h.monoT m, VRs.monoT m t⟩
theorem fn_core {c : CF} {zs : List KD} {vs : List V} {n : Nat} {ms : List Bool} {H0 : Hp} {ow : List Addr} {Q : VK} {P : KD → Prop} {E : XK} {ρ : Ro} {σ : L2.St} (g : Good K A H0 ρ σ ow) (s : Same H0 H) (pr : PRs K (BB A ow) (Fre H0) H vs zs) (hl : vs.length = n)
    (hc : c (zs.map fun z => (z.1.rdk, z.2)) (fun z _ => P z) (fun _ _ => False)) (q : ∀ z v H', P z → Same H0 H' → PR K (BB A ow) (Fre H0) H' v z → Q v H') : spOf K n ms c vs H Q E := by
  obtain ⟨fp, r, nd, hF⟩ := pr
  refine ⟨hl, _, fun a => Or2 (BB A ow) (Fre H0) a ∧ ∃ o, H a = some o, [], _, _, (r.monoT fun a o e h => ⟨h, o, e⟩).view (fun a h => h) (fun a h => ⟨.inr (hF a h), let ⟨o, e, _⟩ := r.mu a h; ⟨o, e⟩⟩), List.nodup_nil, fun a h => (nomatch h), fun a h => h.2, hc, fun z ys v H' fp' M' A' hz rt rv => ?_, fun C ys H' M' A' hx _ => hx.elim⟩
  have s' : Same H H' := fun a o e => rt.stp.same a o e (by simp)
  refine q z v H' hz (s.trans s') ⟨fp', rv.mono fun a h => ?_, (List.nodup_append.mp rt.nd).1, fun a h => ?_⟩
  · rcases rt.stp.fr a h with h | h | h
    · exact h.1
    · cases h
    · exact .inr (s.free h)
  · rcases rt.stp.own a (by simp [h]) with h | h
    · cases h
    · exact s.free h
end
section
variable {X : Cx} {CX : CXT} {k n m : Nat} {f C : Addr} {fd : FuncData} {ps : List Str} {c : CF} {ms : List Bool} {E : XK} {x : Str} {p pos : Pos} {e : Expr} {es : List Expr} {g : PAF}
end

inductive AV where
  | v (z : KD) | pl (i : Nat)
def AVs (K : Frg) (A : Addr → Prop) (H : Hp) (σ : L2.St) : List AV → List V → List Addr → Prop
  | [], vs, f => vs = [] ∧ f = []
  | .v z :: r, vs, f => ∃ w ws f1 f2, vs = w :: ws ∧ f = f1 ++ f2 ∧ VR K A H z w f1 ∧ AVs K A H σ r ws f2
  | .pl i :: r, vs, f => ∃ w ws, vs = w :: ws ∧ σ[i]? = some (some w) ∧ AVs K A H σ r ws f
abbrev AEF := Ro → (List AV → Ro → Prop) → (Str → Ro → Prop) → Prop
def AESound (K : Frg) (E : XK) (n : Nat) (t : TA) (f : AEF) : Prop := ∀ (σ : L2.St) (H : Hp) (A : Addr → Prop) (ρ : Ro) (ow : List Addr) (Q : List V → Hp → Prop) (P : List AV → Ro → Prop) (PX : Str → Ro → Prop), Good K A H ρ σ ow → f ρ P PX →
  (∀ avs ρ' vs H' fp ow' A', avs.length = n → P avs ρ' → Stp H ow A H' (fp ++ ow') A' → Good K A' H' ρ' σ ow' → AVs K A' H' σ avs vs fp → (fp ++ ow').Nodup → (∀ a ∈ fp, ¬ A' a) → Q vs H') →
  (∀ C ρ' H' ow' A', PX C ρ' → Stp H ow A H' ow' A' → Good K A' H' ρ' σ ow' → E (.ref (He.ga K C)) none H') → t σ H Q
structure DAE (X : Cx) (E : XK) (es : List Expr) (n : Nat) (f : AEF) : Prop where
  run : ∃ t, PA X es t ∧ AESound X.K E n t f
section
variable {K : Frg} {A B : Addr → Prop} {H H' : Hp} {σ : L2.St}
theorem AVs.len : ∀ {avs : List AV} {vs : List V} {f : List Addr}, AVs K A H σ avs vs f → vs.length = avs.length
  | [], _, _, h => by rw [h.1]; rfl
  | .v z :: r, _, _, ⟨w, ws, f1, f2, e, _, _, t⟩ => by rw [e, List.length_cons, List.length_cons, AVs.len t]
  | .pl i :: r, _, _, ⟨w, ws, e, _, t⟩ => by rw [e, List.length_cons, List.length_cons, AVs.len t]
theorem AVs.mono (m : ∀ a, A a → B a) : ∀ {avs : List AV} {vs : List V} {f : List Addr}, AVs K A H σ avs vs f → AVs K B H σ avs vs f
  | [], _, _, h => h
  | .v z :: r, _, _, ⟨w, ws, f1, f2, e, e2, h, t⟩ => ⟨w, ws, f1, f2, e, e2, h.mono m, AVs.mono m t⟩
  | .pl i :: r, _, _, ⟨w, ws, e, h, t⟩ => ⟨w, ws, e, h, AVs.mono m t⟩
def grab : List AV → Ro → Option (List KD × Ro)
  | [], ρ => some ([], ρ)
  | .v z :: r, ρ => (grab r ρ).map fun q => (z :: q.1, q.2)
  | .pl i :: r, ρ => match ρ[i]? with
    | some (some kd) => (grab r (ρ.set i none)).map fun q => (kd :: q.1, q.2)
    | _ => none
def putB : List Bool → List AV → List KD → Ro → Option Ro
  | true :: ms, .v _ :: r, _ :: ys, ρ => putB ms r ys ρ
  | true :: ms, .pl i :: r, y :: ys, ρ => putB ms r ys (ρ.set i (some y))
  | false :: ms, .v _ :: r, ys, ρ => putB ms r ys ρ
  | [], [], [], ρ => some ρ
  | _, _, _, _ => none
theorem grab_ok : ∀ {avs : List AV} {ρ ρ2 : Ro} {zs : List KD} {vs : List V} {fp ow : List Addr}, grab avs ρ = some (zs, ρ2) → Good K A H ρ σ ow → AVs K A H σ avs vs fp → (fp ++ ow).Nodup → (∀ a ∈ fp, ¬ A a) →
    ∃ M ow2, VRs K A H zs vs M ∧ Good K A H ρ2 σ ow2 ∧ (M ++ ow2).Nodup ∧ (∀ a ∈ M, ¬ A a) ∧ ∀ a ∈ M ++ ow2, a ∈ fp ++ ow
  | [], ρ, ρ2, zs, vs, fp, ow, h, g, r, nd, dis => by
    obtain ⟨e1, e2⟩ := r
    cases h
    subst e1 e2
    exact ⟨[], ow, ⟨rfl, rfl⟩, g, by simpa using nd, fun a h => (nomatch h), fun a h => by simpa using h⟩
  | .v z :: r', ρ, ρ2, zs, vs, fp, ow, h, g, ⟨w, ws, f1, f2, e, e2, hv, t⟩, nd, dis => by
    subst e e2
    have h' : (grab r' ρ).map (fun q => (z :: q.1, q.2)) = some (zs, ρ2) := h
    cases q : grab r' ρ with
    | none => rw [q] at h'; cases h'
    | some p =>
      obtain ⟨zs', ρ2'⟩ := p
      rw [q] at h'
      cases h'
      obtain ⟨n1, n2, n3⟩ := List.nodup_append.mp nd
      obtain ⟨m1, m2, m3⟩ := List.nodup_append.mp n1
      obtain ⟨M, ow2, r1, g2, nd2, dis2, sub⟩ := grab_ok q g t (List.nodup_append.mpr ⟨m2, n2, fun a ha b hb => n3 a (by simp [ha]) b hb⟩) fun a h => dis a (by simp [h])
      refine ⟨f1 ++ M, ow2, ⟨w, ws, f1, M, rfl, rfl, hv, r1⟩, g2, ?_, fun a h => ?_, fun a h => ?_⟩
      · rw [List.append_assoc]
        refine List.nodup_append.mpr ⟨m1, nd2, fun a ha b hb e => ?_⟩
        subst e
        rcases List.mem_append.mp (sub a hb) with z | z
        · exact m3 a ha a z rfl
        · exact n3 a (by simp [ha]) a z rfl
      · rcases List.mem_append.mp h with h | h
        · exact dis a (by simp [h])
        · exact dis2 a h
      · rw [List.append_assoc] at h
        rcases List.mem_append.mp h with h | h
        · simp [h]
        · rcases List.mem_append.mp (sub a h) with z | z <;> simp [z]
  | .pl i :: r', ρ, ρ2, zs, vs, fp, ow, h, g, ⟨w, ws, e, hs, t⟩, nd, dis => by
    subst e
    unfold grab at h
    cases q0 : ρ[i]? with
    | none => rw [q0] at h; cases h
    | some sl =>
      rw [q0] at h
      cases sl with
      | none => cases h
      | some kd =>
        dsimp only at h
        cases q : grab r' (ρ.set i none) with
        | none => rw [q] at h; cases h
        | some p =>
          obtain ⟨zs', ρ2'⟩ := p
          rw [q] at h
          cases h
          obtain ⟨v, fi, ow', hv, g', o, subi⟩ := g.move q0
          rw [hs] at hv
          have ev : w = v := Option.some.inj (Option.some.inj hv)
          subst ev
          obtain ⟨n1, n2, n3⟩ := List.nodup_append.mp nd
          have g'nd := g'.nd
          obtain ⟨M, ow2, r1, g2, nd2, dis2, sub⟩ := grab_ok q g' t (List.nodup_append.mpr ⟨n1, g'nd, fun a ha b hb => n3 a ha b (subi b (by simp [hb]))⟩) dis
          obtain ⟨k1, k2, k3⟩ := List.nodup_append.mp o.nd
          refine ⟨fi ++ M, ow2, ⟨w, ws, fi, M, rfl, rfl, o.rep, r1⟩, g2, ?_, fun a h => ?_, fun a h => ?_⟩
          · rw [List.append_assoc]
            refine List.nodup_append.mpr ⟨k1, nd2, fun a ha b hb e => ?_⟩
            subst e
            rcases List.mem_append.mp (sub a hb) with z | z
            · exact n3 a z a (subi a (by simp [ha])) rfl
            · exact k3 a ha a z rfl
          · rcases List.mem_append.mp h with h | h
            · exact o.dis a h
            · exact dis2 a h
          · rw [List.append_assoc] at h
            rcases List.mem_append.mp h with h | h
            · simp [subi a (by simp [h])]
            · rcases List.mem_append.mp (sub a h) with z | z
              · simp [z]
              · simp [subi a (by simp [z])]
theorem putB_ok {A' : Addr → Prop} {H1 : Hp} : ∀ {ms : List Bool} {avs : List AV} {ys : List KD} {ρ ρ3 : Ro} {vs : List V} {fp M ow : List Addr}, putB ms avs ys ρ = some ρ3 → AVs K A H1 σ avs vs fp → VRs K A' H' ys (sel ms vs) M → Good K A' H' ρ σ ow →
    (M ++ ow).Nodup → (∀ a ∈ M, ¬ A' a) → ∃ ow3, Good K A' H' ρ3 σ ow3 ∧ ∀ a ∈ ow3, a ∈ M ++ ow
  | [], [], [], ρ, ρ3, vs, fp, M, ow, h, _, _, g, _, _ => by cases h; exact ⟨ow, g, fun a h => by simp [h]⟩
  | [], [], _ :: _, _, _, _, _, _, _, h, _, _, _, _, _ => by cases h
  | [], _ :: _, _, _, _, _, _, _, _, h, _, _, _, _, _ => by cases h
  | true :: _, [], _, _, _, _, _, _, _, h, _, _, _, _, _ => by cases h
  | false :: _, [], _, _, _, _, _, _, _, h, _, _, _, _, _ => by cases h
  | false :: _, .pl _ :: _, _, _, _, _, _, _, _, h, _, _, _, _, _ => by cases h
  | true :: _, .v _ :: _, [], _, _, _, _, _, _, h, _, _, _, _, _ => by cases h
  | true :: _, .pl _ :: _, [], _, _, _, _, _, _, h, _, _, _, _, _ => by cases h
  | false :: ms, .v z :: r, ys, ρ, ρ3, vs, fp, M, ow, h, ⟨w, ws, f1, f2, e, e2, hv, t⟩, rM, g, nd, dis => by
    subst e e2
    exact putB_ok (ms := ms) h t rM g nd dis
  | true :: ms, .v z :: r, y :: ys, ρ, ρ3, vs, fp, M, ow, h, ⟨w, ws, f1, f2, e, e2, hv, t⟩, rM, g, nd, dis => by
    subst e e2
    obtain ⟨w', ws', g1, g2, e3, e4, hy, rM'⟩ := rM
    cases e3
    subst e4
    rw [List.append_assoc] at nd
    obtain ⟨_, n2, _⟩ := List.nodup_append.mp nd
    obtain ⟨ow3, g3, sub⟩ := putB_ok (ms := ms) h t rM' g n2 fun a h => dis a (by simp [h])
    exact ⟨ow3, g3, fun a h => by have := sub a h; simp at this ⊢; rcases this with z | z <;> simp [z]⟩
  | true :: ms, .pl i :: r, y :: ys, ρ, ρ3, vs, fp, M, ow, h, ⟨w, ws, e, hs, t⟩, rM, g, nd, dis => by
    subst e
    obtain ⟨w', ws', g1, g2, e3, e4, hy, rM'⟩ := rM
    cases e3
    subst e4
    rw [List.append_assoc] at nd
    obtain ⟨n1, n2, n3⟩ := List.nodup_append.mp nd
    obtain ⟨m1, m2, m3⟩ := List.nodup_append.mp n2
    obtain ⟨ow1, gp, sub1⟩ := g.put (i := i) (kd := y) (v := w) (fp := g1) ⟨hy, List.nodup_append.mpr ⟨n1, m2, fun a ha b hb => n3 a ha b (by simp [hb])⟩, fun a h => dis a (by simp [h])⟩
    rw [set_same hs] at gp
    obtain ⟨ow3, g3, sub⟩ := putB_ok (ms := ms) (ρ := ρ.set i (some y)) h t rM' gp (List.nodup_append.mpr ⟨m1, gp.nd, fun a ha b hb e => by
      subst e
      rcases sub1 a hb with z | z
      · exact m3 a ha a z rfl
      · exact n3 a z a (by simp [ha]) rfl⟩) fun a h => dis a (by simp [h])
    refine ⟨ow3, g3, fun a h => ?_⟩
    rcases List.mem_append.mp (sub a h) with z | z
    · simp [z]
    · rcases sub1 a z with z | z <;> simp [z]
def eFn (ms : List Bool) (c : CF) (f : AEF) : EF := fun ρ P PX => f ρ (fun avs ρ1 => match grab avs ρ1 with
  | some (zs, ρ2) => c zs (fun z ys => match putB ms avs ys ρ2 with | some ρ3 => P z ρ3 | none => False) (fun C ys => match putB ms avs ys ρ2 with | some ρ3 => PX C ρ3 | none => False)
  | none => False) PX
theorem efn_core {E : XK} {n : Nat} {ms : List Bool} {c : CF} {avs : List AV} {ρ ρ2 : Ro} {zs : List KD} {vs : List V} {fp ow ow0 : List Addr} {H0 : Hp} {A0 : Addr → Prop} {Q : VK} {P : KD → Ro → Prop} {PX : Str → Ro → Prop}
    (hg : grab avs ρ = some (zs, ρ2)) (st : Stp H0 ow0 A0 H (fp ++ ow) A) (g : Good K A H ρ σ ow) (r : AVs K A H σ avs vs fp) (nd : (fp ++ ow).Nodup) (dis : ∀ a ∈ fp, ¬ A a) (hl : vs.length = n)
    (hc : c zs (fun z ys => match putB ms avs ys ρ2 with | some ρ3 => P z ρ3 | none => False) (fun C ys => match putB ms avs ys ρ2 with | some ρ3 => PX C ρ3 | none => False))
    (q : ∀ z ρ' v H' fp ow' A', P z ρ' → Stp H0 ow0 A0 H' (fp ++ ow') A' → Good K A' H' ρ' σ ow' → Own K A' H' z v fp ow' → Q v H')
    (qx : ∀ C ρ' H' ow' A', PX C ρ' → Stp H0 ow0 A0 H' ow' A' → Good K A' H' ρ' σ ow' → E (.ref (He.ga K C)) none H') : spOf K n ms c vs H Q E := by
  obtain ⟨M, ow2, rz, g2, nd2, disM, sub⟩ := grab_ok hg g r nd dis
  obtain ⟨k1, k2, k3⟩ := List.nodup_append.mp nd2
  have back : ∀ {ys : List KD} {ρ3 : Ro} {H' : Hp} {fp' M' : List Addr} {A' : Addr → Prop}, putB ms avs ys ρ2 = some ρ3 → Ret K H M A ms vs H' A' M' ys fp' → ∃ ow3, Good K A' H' ρ3 σ ow3 ∧ (∀ a ∈ ow3, a ∈ M' ++ ow2) ∧ Stp H0 ow0 A0 H' (fp' ++ ow3) A' ∧ (∀ a ∈ fp', a ∉ ow3) := fun {ys ρ3 H' fp' M' A'} e rt => by
    have keep : KeepF A ow2 H H' := fun a o e h => rt.stp.same a o e fun z => by
      rcases h with h | h | h
      · exact k3 a z a h rfl
      · exact disM a z h
      · obtain ⟨u, e', m⟩ := rz.mu a z
        rw [e] at e'; cases e'
        exact m.notImm h
    have trk : ∀ a, a ∈ ow2 → ∃ o, H a = some o := fun a h => let ⟨o, e, _⟩ := g2.rep.mu a h; ⟨o, e⟩
    have disA : ∀ a, a ∈ ow2 → ¬ A' a := fun a h z => by
      rcases rt.stp.fr a z with z | z | z
      · exact g2.dis a h z
      · exact k3 a z a h rfl
      · obtain ⟨o, e⟩ := trk a h
        rw [z] at e; cases e
    have g2' : Good K A' H' ρ2 σ ow2 := ⟨(g2.rep.keep keep).mono rt.stp.up, g2.nd, disA, rt.tr⟩
    obtain ⟨f1, f2, f3⟩ := List.nodup_append.mp rt.nd
    have notow2 : ∀ a, a ∈ fp' ++ M' → a ∉ ow2 := fun a h z => by
      rcases rt.stp.own a h with y | y
      · exact k3 a y a z rfl
      · obtain ⟨o, e⟩ := trk a z
        rw [y] at e; cases e
    obtain ⟨ow3, g3, sub3⟩ := putB_ok e r rt.muts g2' (List.nodup_append.mpr ⟨f2, g2.nd, fun a ha b hb e => notow2 a (by simp [ha]) (by rw [e]; exact hb)⟩) fun a h => rt.dis a (by simp [h])
    refine ⟨ow3, g3, sub3, ⟨fun a o e n => ?_, fun a h => ?_, fun a h => rt.stp.up a (st.up a h), fun a h => ?_⟩, fun a ha z => ?_⟩
    · have e1 := st.same a o e n
      refine rt.stp.same a o e1 fun z => ?_
      rcases st.own a (sub a (by simp [z])) with y | y
      · exact n y
      · rw [e] at y; cases y
    · have : a ∈ M ∨ H a = none ∨ a ∈ ow2 := by
        rcases List.mem_append.mp h with h | h
        · rcases rt.stp.own a (by simp [h]) with y | y
          · exact .inl y
          · exact .inr (.inl y)
        · rcases List.mem_append.mp (sub3 a h) with h | h
          · rcases rt.stp.own a (by simp [h]) with y | y
            · exact .inl y
            · exact .inr (.inl y)
          · exact .inr (.inr h)
      rcases this with y | y | y
      · exact st.own a (sub a (by simp [y]))
      · exact st.none y
      · exact st.own a (sub a (by simp [y]))
    · rcases rt.stp.fr a h with y | y | y
      · exact st.fr a y
      · exact .inr (st.own a (sub a (by simp [y])))
      · exact .inr (st.none y)
    · rcases List.mem_append.mp (sub3 a z) with y | y
      · exact f3 a ha a y rfl
      · exact notow2 a (by simp [ha]) y
  refine ⟨hl, zs, A, M, _, _, rz, k1, disM, g.tr, hc, fun z ys v H' fp' M' A' hz rt rv => ?_, fun C ys H' M' A' hz rt => ?_⟩
  · split at hz
    · rename_i ρ3 e
      obtain ⟨ow3, g3, sub3, st3, nin⟩ := back e rt
      obtain ⟨f1, f2, f3⟩ := List.nodup_append.mp rt.nd
      exact q z ρ3 v H' fp' ow3 A' hz st3 g3 ⟨rv, List.nodup_append.mpr ⟨f1, g3.nd, fun a ha b hb e => nin a ha (by rw [e]; exact hb)⟩, fun a h => rt.dis a (by simp [h])⟩
    · exact hz.elim
  · split at hz
    · rename_i ρ3 e
      obtain ⟨ow3, g3, sub3, st3, nin⟩ := back e rt
      exact qx C ρ3 H' ow3 A' hz st3 g3
    · exact hz.elim
end
section
variable {X : Cx} {E : XK} {pos : Pos} {e : Expr} {es : List Expr} {n : Nat} {g : AEF}
theorem dae_nil : DAE X E [] 0 (fun ρ P _ => P [] ρ) :=
  ⟨_, pa_nil, fun σ H A ρ ow Q P PX g h q _ => q [] ρ [] H [] ow A rfl h Stp.refl g ⟨rfl, rfl⟩ g.nd fun a h => (nomatch h)⟩
theorem dae_pl (i : Nat) {x : Str} (t : DAE X E es n g) (hN : X.N[i]? = some x := by rfl) (hv : Vis X.env.scope x := by first | exact Or.inl rfl | exact Or.inr (Or.inl rfl) | exact Or.inr (Or.inr rfl)) (hd : (x == ("__debug__" : Str)) = false := by decide)
    (hcd : (x == ("__classdict__" : Str)) = false := by decide) (hs : starEach (.Name x pos :: es) X.env = (false, eval (.Name x pos) X.env) :: starEach es X.env := by rfl) :
    DAE X E (.Name x pos :: es) (n + 1) (fun ρ P PX => (∃ kd, ρ[i]? = some (some kd)) ∧ g ρ (fun avs ρ' => P (.pl i :: avs) ρ') PX) := by
  obtain ⟨tb, eb, sb⟩ := t.run
  refine ⟨_, pa_cons (pe_var hN hv hd hcd) eb hs, fun σ H A ρ ow Q P PX gd h q qx => ?_⟩
  obtain ⟨⟨kd, e⟩, h⟩ := h
  obtain ⟨v, f, hv, _⟩ := gd.slot e
  refine ⟨v, hv, ?_⟩
  exact sb σ H A ρ ow _ _ _ gd h (fun avs ρ' vs H' fp ow' A' hn hp st g' r nd dis => q _ ρ' _ H' fp ow' A' (by rw [List.length_cons, hn]) hp st g' ⟨v, vs, rfl, hv, r⟩ nd dis) qx
theorem dae_e {f : EF} (h : DE X E e f) (t : DAE X E es n g) (hs : starEach (e :: es) X.env = (false, eval e X.env) :: starEach es X.env := by rfl) :
    DAE X E (e :: es) (n + 1) (fun ρ P PX => f ρ (fun z ρ1 => g ρ1 (fun avs ρ2 => P (.v z :: avs) ρ2) PX) PX) := by
  obtain ⟨ta, ea, sa⟩ := h.run
  obtain ⟨tb, eb, sb⟩ := t.run
  refine ⟨_, pa_cons ea eb hs, fun σ H A ρ ow Q P PX gd h q qx => ?_⟩
  refine sa σ H A ρ ow _ _ _ gd h (fun z ρ1 v H1 fp ow1 A1 h1 st1 g1 o1 => ?_) qx
  have st1' : Stp H ow A H1 ow1 A1 := st1.sub fun a h => by simp [h]
  obtain ⟨n1, n2, n3⟩ := List.nodup_append.mp o1.nd
  refine sb σ H1 A1 ρ1 ow1 _ _ _ g1 h1 (fun avs ρ2 vs H2 fp2 ow2 A2 hn hp st2 g2 r nd dis => ?_) (fun C ρ2 H2 ow2 A2 hx st2 g2 => qx C ρ2 H2 ow2 A2 hx (st1'.trans st2) g2)
  have trk : ∀ a ∈ fp, ∃ o, H1 a = some o := fun a h => let ⟨o, e, _⟩ := o1.rep.mu a h; ⟨o, e⟩
  have kp : KeepF A1 fp H1 H2 := fun a o e h => by
    rcases h with h | h
    · exact st2.same a o e fun z => n3 a h a z rfl
    · exact g1.keepA st2 a o e h
  have notin : ∀ a ∈ fp, a ∉ fp2 ++ ow2 := fun a h z => by
    rcases st2.own a z with y | y
    · exact n3 a h a y rfl
    · obtain ⟨o, e⟩ := trk a h
      rw [y] at e; cases e
  refine q _ ρ2 (v :: vs) H2 (fp ++ fp2) ow2 A2 (by rw [List.length_cons, hn]) hp ?_ g2 ⟨v, vs, fp, fp2, rfl, rfl, (o1.rep.keep kp).mono st2.up, r⟩ ?_ fun a h => ?_
  · have st := st1'.trans st2
    refine ⟨st.same, fun a h => ?_, st.up, st.fr⟩
    rw [List.append_assoc] at h
    rcases List.mem_append.mp h with h | h
    · exact st1.own a (by simp [h])
    · exact st.own a h
  · rw [List.append_assoc]
    exact List.nodup_append.mpr ⟨n1, nd, fun a ha b hb e => notin a ha (by rw [e]; exact hb)⟩
  · rcases List.mem_append.mp h with h | h
    · intro z
      rcases st2.fr a z with y | y | y
      · exact o1.dis a h y
      · exact n3 a h a y rfl
      · obtain ⟨o, e⟩ := trk a h
        rw [y] at e; cases e
    · exact dis a h
variable {CX : CXT} {k m : Nat} {f : Addr} {fd : FuncData} {ps : List Str} {c : CF} {ms : List Bool} {x : Str} {p : Pos}
end
end DL

namespace DL
open PySem PySem.Spec PyProof.Rows L2

section
variable {K : Frg} {A A0 : Addr → Prop} {H H' H0 : Hp} {ρ : Ro} {σ : L2.St} {ow ow0 fp : List Addr}
theorem PR.fin {u : V} {z : KD} (st : Stp H0 ow0 A0 H (fp ++ ow) A) (g : Good K A H ρ σ ow) (nd : (fp ++ ow).Nodup) (dis : ∀ a ∈ fp, ¬ A a) (s : Same H H') (p : PR K A (fun a => a ∈ fp ∨ H a = none) H' u z) :
    ∃ f A', Stp H0 ow0 A0 H' (f ++ ow) A' ∧ Good K A' H' ρ σ ow ∧ Own K A' H' z u f ow := by
  obtain ⟨f, r, n, hF⟩ := p
  obtain ⟨n1, n2, n3⟩ := List.nodup_append.mp nd
  have trk : ∀ a ∈ ow, ∃ o, H a = some o := fun a h => let ⟨o, e, _⟩ := g.rep.mu a h; ⟨o, e⟩
  have nin : ∀ a, (a ∈ fp ∨ H a = none) → a ∉ ow := fun a h z => by
    rcases h with h | h
    · exact n3 a h a z rfl
    · obtain ⟨o, e⟩ := trk a z
      rw [h] at e; cases e
  have nA : ∀ a, (a ∈ fp ∨ H a = none) → ¬ A a := fun a h z => by
    rcases h with h | h
    · exact dis a h z
    · obtain ⟨o, e⟩ := g.tr a z
      rw [h] at e; cases e
  have org : ∀ a, (a ∈ fp ∨ H a = none) → a ∈ ow0 ∨ H0 a = none := fun a h => by
    rcases h with h | h
    · exact st.own a (by simp [h])
    · exact st.none h
  by_cases hk : z.1 = .fl ∨ z.1 = .sh ∨ z.1 = .ow
  · refine ⟨f, A, ⟨fun a o e m => s a o (st.same a o e m), fun a h => ?_, st.up, st.fr⟩, g.same s, ⟨?_, List.nodup_append.mpr ⟨n, n2, fun a ha b hb e => nin a (hF a ha) (by rw [e]; exact hb)⟩, fun a h => nA a (hF a h)⟩⟩
    · rcases List.mem_append.mp h with h | h
      · exact org a (hF a h)
      · exact st.own a (by simp [h])
    · obtain ⟨k, d⟩ := z
      rcases hk with rfl | rfl | rfl <;> exact r
  · have e : f = [] := by
      obtain ⟨k, d⟩ := z
      cases k with
      | fl => exact r.1
      | rd => exact r.1
      | sa => exact r.1
      | sh => exact absurd (.inr (.inl rfl)) hk
      | ow => exact absurd (.inr (.inr rfl)) hk
    subst e
    refine ⟨[], fun a => A a ∨ ((a ∈ fp ∨ H a = none) ∧ ∃ o, H' a = some o), ⟨fun a o e m => s a o (st.same a o e m), fun a h => st.own a (by simp at h; simp [h]), fun a h => .inl (st.up a h), fun a h => ?_⟩, ?_, ⟨r.monoT fun a o e h => ?_, by simpa using n2, fun a h => (nomatch h)⟩⟩
    · rcases h with h | h
      · exact st.fr a h
      · exact .inr (org a h.1)
    · refine ⟨(g.rep.keep (KeepF.of_same s)).mono fun _ h => .inl h, n2, fun a h z => ?_, fun a h => ?_⟩
      · rcases z with z | z
        · exact g.dis a h z
        · exact nin a z.1 h
      · rcases h with h | h
        · obtain ⟨o, e⟩ := g.tr a h; exact ⟨o, s a o e⟩
        · exact h.2
    · rcases h with h | h
      · exact .inl h
      · exact .inr ⟨h, o, e⟩
def valsOf : List AV → Option (List KD)
  | [] => some []
  | .v z :: r => (valsOf r).map (z :: ·)
  | .pl _ :: _ => none
theorem AVs.vals : ∀ {avs : List AV} {vs : List V} {f : List Addr} {zs : List KD}, AVs K A H σ avs vs f → valsOf avs = some zs → VRs K A H zs vs f
  | [], _, _, _, h, e => by cases e; exact h
  | .v z :: r, _, _, zs, ⟨w, ws, f1, f2, e, e2, h, t⟩, q => by
    have q' : (valsOf r).map (z :: ·) = some zs := q
    cases q0 : valsOf r with
    | none => rw [q0] at q'; cases q'
    | some zs' =>
      rw [q0] at q'
      cases q'
      exact ⟨w, ws, f1, f2, e, e2, h, AVs.vals t q0⟩
  | .pl i :: r, _, _, _, _, q => by cases q
theorem VRs.prs {zs : List KD} {vs : List V} (r : VRs K A H zs vs fp) (nd : fp.Nodup) : PRs K A (fun a => a ∈ fp ∨ H a = none) H vs zs := ⟨fp, r.mono fun _ h => .inl h, nd, fun _ h => .inl h⟩
end

theorem ae_nil {K : Frg} {E : XK} : AESound K E 0 tNil (fun ρ P _ => P [] ρ) := fun σ H A ρ ow Q P PX g h q _ => q [] ρ [] H [] ow A rfl h Stp.refl g ⟨rfl, rfl⟩ g.nd fun a h => (nomatch h)
theorem ae_cons {K : Frg} {E : XK} {n : Nat} {ta : TE} {tb : TA} {f : EF} {g : AEF} (sa : ESound K E ta f) (sb : AESound K E n tb g) :
    AESound K E (n + 1) (tCons ta tb) (fun ρ P PX => f ρ (fun z ρ1 => g ρ1 (fun avs ρ2 => P (.v z :: avs) ρ2) PX) PX) := by
  intro σ H A ρ ow Q P PX gd h q qx
  refine sa σ H A ρ ow _ _ _ gd h (fun z ρ1 v H1 fp ow1 A1 h1 st1 g1 o1 => ?_) qx
  have st1' : Stp H ow A H1 ow1 A1 := st1.sub fun a h => by simp [h]
  obtain ⟨n1, n2, n3⟩ := List.nodup_append.mp o1.nd
  refine sb σ H1 A1 ρ1 ow1 _ _ _ g1 h1 (fun avs ρ2 vs H2 fp2 ow2 A2 hn hp st2 g2 r nd dis => ?_) (fun C ρ2 H2 ow2 A2 hx st2 g2 => qx C ρ2 H2 ow2 A2 hx (st1'.trans st2) g2)
  have trk : ∀ a ∈ fp, ∃ o, H1 a = some o := fun a h => let ⟨o, e, _⟩ := o1.rep.mu a h; ⟨o, e⟩
  have kp : KeepF A1 fp H1 H2 := fun a o e h => by
    rcases h with h | h
    · exact st2.same a o e fun z => n3 a h a z rfl
    · exact g1.keepA st2 a o e h
  have notin : ∀ a ∈ fp, a ∉ fp2 ++ ow2 := fun a h z => by
    rcases st2.own a z with y | y
    · exact n3 a h a y rfl
    · obtain ⟨o, e⟩ := trk a h
      rw [y] at e; cases e
  refine q _ ρ2 (v :: vs) H2 (fp ++ fp2) ow2 A2 (by rw [List.length_cons, hn]) hp ?_ g2 ⟨v, vs, fp, fp2, rfl, rfl, (o1.rep.keep kp).mono st2.up, r⟩ ?_ fun a h => ?_
  · have st := st1'.trans st2
    refine ⟨st.same, fun a h => ?_, st.up, st.fr⟩
    rw [List.append_assoc] at h
    rcases List.mem_append.mp h with h | h
    · exact st1.own a (by simp [h])
    · exact st.own a h
  · rw [List.append_assoc]
    exact List.nodup_append.mpr ⟨n1, nd, fun a ha b hb e => notin a ha (by rw [e]; exact hb)⟩
  · rcases List.mem_append.mp h with h | h
    · intro z
      rcases st2.fr a z with y | y | y
      · exact o1.dis a h y
      · exact n3 a h a y rfl
      · obtain ⟨o, e⟩ := trk a h
        rw [y] at e; cases e
    · exact dis a h

def eOp (o : KD → KD → (KD → Prop) → Prop) (fa fb : EF) : EF := fun ρ P PX => fa ρ (fun x ρ1 => fb ρ1 (fun y ρ2 => o x y fun z => P z ρ2) PX) PX
def eCallB (o : List KD → (KD → Prop) → Prop) (g : AEF) : EF := fun ρ P PX => g ρ (fun avs ρ1 => match valsOf avs with | some zs => o zs fun z => P z ρ1 | none => False) PX
def eTup (g : AEF) : EF := fun ρ P PX => g ρ (fun avs ρ1 => match valsOf avs with | some zs => P (jT zs, .tup (zs.map (·.2))) ρ1 | none => False) PX
def eLst (g : AEF) : EF := fun ρ P PX => g ρ (fun avs ρ1 => match valsOf avs with | some zs => P (jL zs, .lst (zs.map (·.2))) ρ1 | none => False) PX
def eTest (f : EF) : TEF := fun ρ P PX => f ρ (fun z ρ1 => match z.2 with | .bl b => P b ρ1 | _ => False) PX
def teAnd (f g : TEF) : TEF := fun ρ P PX => f ρ (fun b ρ1 => if b = true then g ρ1 P PX else P false ρ1) PX
def teOr (f g : TEF) : TEF := fun ρ P PX => f ρ (fun b ρ1 => if b = true then P true ρ1 else g ρ1 P PX) PX
section
variable {K : Frg} {E : XK} {fa fb : EF} {ta tb : TE}
theorem es_op {r : R2} {o : KD → KD → (KD → Prop) → Prop} (hr : OpS K r o) (sa : ESound K E ta fa) (sb : ESound K E tb fb) : ESound K E (tOp r ta tb) (eOp o fa fb) := by
  intro σ H A ρ ow Q P PX gd h q qx
  have s2 := ae_cons sa (ae_cons sb ae_nil)
  have := s2 σ H A ρ ow (fun vs H2 => match vs with | [x, y] => r x y H2 Q | _ => False) (fun avs ρ2 => match avs with | [.v x, .v y] => o x y fun z => P z ρ2 | _ => False) PX gd h (fun avs ρ2 vs H2 fp ow2 A2 hn hp st g2 rr nd dis => ?_) qx
  · exact this
  · split at hp
    · rename_i x y
      have rz : VRs K A2 H2 [x, y] vs fp := rr.vals rfl
      obtain ⟨v, w, ev, px, py⟩ := (rz.prs (List.nodup_append.mp nd).1).get2
      subst ev
      refine hr A2 _ H2 v w x y _ Q px py (fun a h => .inr h) hp fun z u H3 hz s3 p3 => ?_
      obtain ⟨f, A3, st3, g3, o3⟩ := p3.fin st g2 nd dis s3
      exact q z ρ2 u H3 f ow2 A3 hz st3 g3 o3
    · exact hp.elim
theorem es_call {n : Nat} {r : List V → Hp → VK → Prop} {o : List KD → (KD → Prop) → Prop} {t : TA} {g : AEF} (hr : CallS K r o) (s : AESound K E n t g) : ESound K E (tCB r t) (eCallB o g) := by
  intro σ H A ρ ow Q P PX gd h q qx
  refine s σ H A ρ ow _ _ _ gd h (fun avs ρ2 vs H2 fp ow2 A2 hn hp st g2 rr nd dis => ?_) qx
  split at hp
  · rename_i zs e
    have rz := rr.vals e
    refine hr A2 _ H2 vs zs _ Q (rz.prs (List.nodup_append.mp nd).1) (fun a h => .inr h) hp fun z u H3 hz s3 p3 => ?_
    obtain ⟨f, A3, st3, g3, o3⟩ := p3.fin st g2 nd dis s3
    exact q z ρ2 u H3 f ow2 A3 hz st3 g3 o3
  · exact hp.elim
variable {t u : TT} {f g : TEF}
end
section
variable {X : Cx} {E : XK} {pos : Pos} {a b c e : Expr} {es : List Expr} {fa fb : EF} {n : Nat} {g : AEF}
theorem de_op {op : Operator} {r : R2} {o : KD → KD → (KD → Prop) → Prop} (ho : OpR X (binaryOp op) r) (hr : OpS X.K r o) (ha : DE X E a fa) (hb : DE X E b fb) : DE X E (.BinOp a op b pos) (eOp o fa fb) := by
  obtain ⟨ta, ea, sa⟩ := ha.run
  obtain ⟨tb, eb, sb⟩ := hb.run
  exact ⟨_, pe_op ho ea eb, es_op hr sa sb⟩
theorem de_cmp {op : CmpOp} {r : R2} {o : KD → KD → (KD → Prop) → Prop} (ho : OpR X (compareOp op) r) (hr : OpS X.K r o) (ha : DE X E a fa) (hb : DE X E b fb) (hm : behindInMarks op b = false) : DE X E (.Compare a [op] [b] pos) (eOp o fa fb) := by
  obtain ⟨ta, ea, sa⟩ := ha.run
  obtain ⟨tb, eb, sb⟩ := hb.run
  exact ⟨_, pe_cmpR ho ea eb hm, es_op hr sa sb⟩
structure DWE (X : Cx) (E : XK) (e : Expr) (f : TEF) : Prop where
  run : ∃ t, PW X e t ∧ TESound X.K E t f
variable {ta tb : TEF} {rest : List Expr}
theorem DWE.dt (h : DWE X E e ta) : DTE X E e ta := let ⟨t, a, b⟩ := h.run; ⟨t, a.pt, b⟩
theorem de_tup {k} (h : DAE X E es n g) (hn : n ≤ 1000 := by decide) : DE X E (.Tuple es k pos) (eTup g) := by
  obtain ⟨ta, ea, sa⟩ := h.run
  refine ⟨_, pe_tup ea, fun σ H A ρ ow Q P PX gd h q qx => ?_⟩
  refine sa σ H A ρ ow _ _ _ gd h (fun avs ρ2 vs H2 fp ow2 A2 hz hp st g2 rr nd dis => ⟨by rw [rr.len, hz, sizeLine_eq]; omega, fun p hp' => ?_⟩) qx
  split at hp
  · rename_i zs e
    have rz := (rr.vals e).prs (List.nodup_append.mp nd).1
    obtain ⟨f, A3, st3, g3, o3⟩ := (pr_tupJ rz hp').fin st g2 nd dis (same_upd hp')
    exact q _ ρ2 _ _ f ow2 A3 hp st3 g3 o3
  · exact hp.elim
theorem de_lst (h : DAE X E es n g) (hn : n ≤ 1000 := by decide) : DE X E (.List es pos) (eLst g) := by
  obtain ⟨ta, ea, sa⟩ := h.run
  refine ⟨_, pe_lst ea, fun σ H A ρ ow Q P PX gd h q qx => ?_⟩
  refine sa σ H A ρ ow _ _ _ gd h (fun avs ρ2 vs H2 fp ow2 A2 hz hp st g2 rr nd dis => ⟨by rw [rr.len, hz, sizeLine_eq]; omega, fun p hp' => ?_⟩) qx
  split at hp
  · rename_i zs e
    have rz := (rr.vals e).prs (List.nodup_append.mp nd).1
    obtain ⟨f, A3, st3, g3, o3⟩ := (pr_lstJ rz hp' (.inr hp')).fin st g2 nd dis (same_upd hp')
    exact q _ ρ2 _ _ f ow2 A3 hp st3 g3 o3
  · exact hp.elim
variable {r : List V → Hp → VK → Prop} {o : List KD → (KD → Prop) → Prop} {x : Str} {p : Pos}
theorem de_callTy {T : String} (hc : CallR X (.type T) r) (hr : CallS X.K r o) (hg : Gl X x) (hm : X.mg x = none) (hv : bootBuiltins x = some (.type T)) (ha : DAE X E (e :: es) n g) (hn : x ≠ "__name__" := by decide) (hdb : (x == ("__debug__" : Str)) = false := by decide)
    (he : starEach (e :: es) X.env = (false, eval e X.env) :: starEach es X.env := by rfl) (hpl : (backTo pos (starEach es X.env)).any (·.1) = false := by rfl) : DE X E (.Call (.Name x p) (e :: es) [] pos) (eCallB o g) := by
  obtain ⟨t, ea, sa⟩ := ha.run
  exact ⟨_, pe_callTy hc hg hm hv ea hn hdb he hpl, es_call hr sa⟩
def eIxS (i : Nat) (f : EF) : EF := fun ρ P PX => (∃ kd, ρ[i]? = some (some kd)) ∧ f ρ (fun y ρ1 => match ρ1[i]? with
  | some (some (k, d)) => oIx (k.rdk, d) y fun z => (match z.1 with | .fl => P z ρ1 | _ => False)
  | _ => False) PX
theorem de_ixS (i : Nat) {x : Str} {p : Pos} {f : EF} (hb : DE X E b f) (hN : X.N[i]? = some x := by rfl) (hv : Vis X.env.scope x := by first | exact Or.inl rfl | exact Or.inr (Or.inl rfl) | exact Or.inr (Or.inr rfl)) (hd : (x == ("__debug__" : Str)) = false := by decide)
    (hcd : (x == ("__classdict__" : Str)) = false := by decide) (hs : PlainIx b := by exact fun _ _ => rfl) : DE X E (.Subscript (.Name x p) b pos) (eIxS i f) := by
  obtain ⟨tb, eb, sb⟩ := hb.run
  refine ⟨_, pe_ix ix_seq (pe_var hN hv hd hcd) eb hs, fun σ H A ρ ow Q P PX gd h q qx => ?_⟩
  obtain ⟨⟨kd, e⟩, h⟩ := h
  obtain ⟨v, f0, hv, _⟩ := gd.slot e
  refine ⟨v, hv, ?_⟩
  refine sb σ H A ρ ow _ _ _ gd h (fun y ρ1 w H1 fp ow1 A1 h1 st1 g1 o1 => ?_) qx
  split at h1
  · rename_i k d e1
    obtain ⟨v', f1, hv', r1, _, s1⟩ := g1.slot e1
    rw [hv] at hv'
    cases hv'
    have px : PR X.K (BB A1 (fp ++ ow1)) (fun a => a ∈ fp ∨ H1 a = none) H1 v (k.rdk, d) := (r1.rdk (F := fun a => a ∈ fp ∨ H1 a = none) (ow := fp ++ ow1) fun a h => by simp [s1 a h])
    have rz : VRs X.K A1 H1 [y] [w] fp := .one o1.rep
    obtain ⟨w', ew, py⟩ := (rz.prs (List.nodup_append.mp o1.nd).1).get1
    cases ew
    have py' : PR X.K (BB A1 (fp ++ ow1)) (fun a => a ∈ fp ∨ H1 a = none) H1 w y := py.mono (fun a h => .inl h) fun a h => h
    refine os_ix _ _ H1 v w _ y _ Q px py' (fun a h => .inr h) h1 fun z u H3 hz s3 p3 => ?_
    obtain ⟨k3, d3⟩ := z
    cases k3 <;> first
      | exact hz.elim
      | skip
    obtain ⟨f3, r3, _⟩ := p3
    obtain ⟨e3, r3⟩ := r3
    exact q _ ρ1 u H3 [] ow1 A1 hz ((st1.sub fun a h => by simp at h; simp [h]).trans (Stp.of_same s3)) (g1.same s3) ⟨⟨rfl, r3⟩, by simpa using g1.nd, fun a h => (nomatch h)⟩
  · exact h1.elim
end
end DL

namespace DL
open PySem PySem.Spec PyProof.Rows L2

def PlAt (K : Frg) (A : Addr → Prop) (H : Hp) (ρ : Ro) (σ : L2.St) (ow : List Addr) (i : Nat) (k : Kd) (e : D) (rb : D → D) (w : V) : Prop :=
  ∃ d v0 g1 fs g2 fe, ow = g1 ++ (fs ++ g2) ∧ σ[i]? = some (some v0) ∧ Zip K No H d v0 fs rb e w fe ∧ (k = .sh → Shal K H e w ∧ rb = id ∧ w = v0) ∧
    ∀ (H' : Hp) (A' : Addr → Prop) (kd' : KD) (fs' : List Addr), (∀ a, A a → A' a) → KeepF A (g1 ++ g2) H H' → VR K A' H' kd' v0 fs' → RepS K A' H' (ρ.set i (some kd')) σ (g1 ++ (fs' ++ g2))
abbrev PLF := Ro → (Nat → Kd → D → (D → D) → Prop) → Prop
def PLSound (K : Frg) (t : TE) (pl : PLF) : Prop := ∀ (σ : L2.St) (H : Hp) (A : Addr → Prop) (ρ : Ro) (ow : List Addr) (Q : VK) (P : Nat → Kd → D → (D → D) → Prop), Good K A H ρ σ ow → pl ρ P →
  (∀ i k e rb v H', P i k e rb → Same H H' → PlAt K A H' ρ σ ow i k e rb v → Q v H') → t σ H Q
structure DPl (X : Cx) (e : Expr) (pl : PLF) : Prop where
  run : ∃ t, PE X e t ∧ PLSound X.K t pl
section
variable {K : Frg} {A : Addr → Prop} {H H' : Hp} {ρ : Ro} {σ : L2.St} {ow : List Addr} {i : Nat} {k : Kd} {e : D} {rb : D → D} {w : V}
theorem PlAt.same (s : Same H H') (p : PlAt K A H ρ σ ow i k e rb w) : PlAt K A H' ρ σ ow i k e rb w := by
  obtain ⟨d, v0, g1, fs, g2, fe, e1, e2, z, hs, put⟩ := p
  exact ⟨d, v0, g1, fs, g2, fe, e1, e2, z.keep (KeepF.of_same s), fun h => let ⟨a, b⟩ := hs h; ⟨a.same s, b⟩, fun H'' A' kd' fs' m kp r => put H'' A' kd' fs' m (keepF_trans (KeepF.of_same s) kp) r⟩
theorem PlAt.root {d : D} {kd : KD} (g : Good K A H ρ σ ow) (h : ρ[i]? = some (some kd)) (hk : kd.1 = .sh ∨ kd.1 = .ow) : ∃ v, σ[i]? = some (some v) ∧ PlAt K A H ρ σ ow i kd.1 kd.2 id v := by
  obtain ⟨x, f1, f2, f3, hx, e2, ⟨v, ev, r⟩, put⟩ := g.rep.split h
  subst ev
  refine ⟨v, hx, kd.2, v, f1, f2, f3, f2, e2, hx, ?_, fun e => ?_, fun H' A' kd' fs' m kp r' => ?_⟩
  · obtain ⟨k, d⟩ := kd
    rcases hk with rfl | rfl
    · exact Zip.root r.1
    · exact Zip.root r
  · obtain ⟨k, d⟩ := kd
    dsimp only at e
    subst e
    exact ⟨r.2, rfl, rfl⟩
  · have := put H' A' (some kd') (some v) fs' m kp ⟨v, rfl, r'⟩
    rwa [set_same hx] at this
theorem PlAt.mut {fa : List Addr} (g : Good K A H ρ σ ow) (p : PlAt K A H ρ σ ow i k e rb w) (hnd : (fa ++ ow).Nodup) (hda : ∀ a ∈ fa, ¬ A a) :
    ∃ fe, R K No H e w fe ∧ (fa ++ fe).Nodup ∧ (∀ a ∈ fe, a ∈ ow) ∧ (k = .sh → Shal K H e w) ∧ ∀ (e' : D) (k' : Kd) (fz : List Addr) (z : KD) (zv : V) (H' : Hp) (fe' : List Addr), (∀ a o, H a = some o → a ∉ fe → H' a = some o) → R K No H' e' w fe' → (k' = .ow ∨ (k' = .sh ∧ k = .sh ∧ Shal K H' e' w)) → VR K A H' z zv fz → (fz ++ fe').Nodup →
      (∀ a ∈ fz ++ fe', a ∈ fe ∨ a ∈ fa ∨ H a = none) → ∃ ow', Stp H (fa ++ ow) A H' (fz ++ ow') A ∧ Good K A H' (ρ.set i (some (k', rb e'))) σ ow' ∧ Own K A H' z zv fz ow' := by
  obtain ⟨d, v0, g1, fs, g2, fe, e1, e2, ⟨f1, f2, ef, r, reb⟩, hs, put⟩ := p
  subst e1 ef
  have gnd := g.nd
  obtain ⟨n1, n2, n3⟩ := List.nodup_append.mp hnd
  refine ⟨fe, r, List.nodup_append.mpr ⟨n1, ?_, fun a ha b hb => n3 a ha b (by simp [hb])⟩, fun a h => by simp [h], fun h => (hs h).1, fun e' k' fz z zv H' fe' hk r' hk' rz nd' hsub => ?_⟩
  · have a1 := (List.nodup_append.mp (List.nodup_append.mp gnd).2.1).1
    exact (List.nodup_append.mp (List.nodup_append.mp a1).2.1).1
  -- the addresses beside fe
  have side : ∀ a, a ∈ g1 ∨ a ∈ f1 ∨ a ∈ f2 ∨ a ∈ g2 → a ∉ fe ∧ a ∉ fa ∧ ∃ o, H a = some o := fun a h => by
    have inow : a ∈ g1 ++ (f1 ++ (fe ++ f2) ++ g2) := by simp only [List.mem_append]; rcases h with h | h | h | h <;> simp [h]
    refine ⟨fun z => ?_, fun z => n3 a z a inow rfl, let ⟨o, e, _⟩ := g.rep.mu a inow; ⟨o, e⟩⟩
    have b1 := List.nodup_append.mp gnd
    have b2 := List.nodup_append.mp b1.2.1
    have b3 := List.nodup_append.mp b2.1
    have b4 := List.nodup_append.mp b3.2.1
    rcases h with h | h | h | h
    · exact b1.2.2 a h a (by simp [z]) rfl
    · exact b3.2.2 a h a (by simp [z]) rfl
    · exact b4.2.2 a z a h rfl
    · exact b2.2.2 a (by simp [z]) a h rfl
  have keepO : ∀ a o, H a = some o → (a ∈ g1 ∨ a ∈ f1 ∨ a ∈ f2 ∨ a ∈ g2 ∨ A a ∨ Imm o) → H' a = some o := fun a o e h => hk a o e fun z => by
    rcases h with h | h | h | h | h | h
    · exact (side a (.inl h)).1 z
    · exact (side a (.inr (.inl h))).1 z
    · exact (side a (.inr (.inr (.inl h)))).1 z
    · exact (side a (.inr (.inr (.inr h)))).1 z
    · exact g.dis a (by simp [z]) h
    · obtain ⟨u, e', m⟩ := R.mu _ _ _ r a z
      rw [e] at e'; cases e'
      exact m.notImm h
  have whole : R K No H' (rb e') v0 (f1 ++ (fe' ++ f2)) := reb H' No e' fe' (fun _ h => h) (fun a o e h => keepO a o e (by
    rcases h with h | h | h
    · rcases List.mem_append.mp h with h | h <;> simp [h]
    · exact h.elim
    · simp [h])) r'
  have vr : VR K A H' (k', rb e') v0 (f1 ++ (fe' ++ f2)) := by
    rcases hk' with rfl | ⟨rfl, hk1, hsh⟩
    · exact whole
    · obtain ⟨_, hrb, hw⟩ := hs hk1
      refine ⟨whole, ?_⟩
      rw [hrb, ← hw]
      exact hsh
  have rep := put H' A (k', rb e') _ (fun _ h => h) (fun a o e h => keepO a o e (by
    rcases h with h | h | h
    · rcases List.mem_append.mp h with h | h <;> simp [h]
    · simp [h]
    · simp [h])) vr
  have news : ∀ a, a ∈ fz ++ fe' → a ∉ g1 ∧ a ∉ f1 ∧ a ∉ f2 ∧ a ∉ g2 := fun a h => by
    have key : ¬ (a ∈ g1 ∨ a ∈ f1 ∨ a ∈ f2 ∨ a ∈ g2) := fun z => by
      obtain ⟨s1, s2, o, s3⟩ := side a z
      rcases hsub a h with y | y | y
      · exact s1 y
      · exact s2 y
      · rw [s3] at y; cases y
    exact ⟨fun z => key (.inl z), fun z => key (.inr (.inl z)), fun z => key (.inr (.inr (.inl z))), fun z => key (.inr (.inr (.inr z)))⟩
  have nA : ∀ a, a ∈ fz ++ fe' → ¬ A a := fun a h z => by
    rcases hsub a h with y | y | y
    · exact g.dis a (by simp [y]) z
    · exact hda a y z
    · obtain ⟨o, e⟩ := g.tr a z
      rw [y] at e; cases e
  have ndow : (g1 ++ (f1 ++ (fe' ++ f2) ++ g2)).Nodup := by
    have b1 := List.nodup_append.mp gnd
    have b2 := List.nodup_append.mp b1.2.1
    have b3 := List.nodup_append.mp b2.1
    have b4 := List.nodup_append.mp b3.2.1
    have c := List.nodup_append.mp nd'
    refine List.nodup_append.mpr ⟨b1.1, List.nodup_append.mpr ⟨List.nodup_append.mpr ⟨b3.1, List.nodup_append.mpr ⟨c.2.1, b4.2.1, fun a ha b hb e => ?_⟩, fun a ha b hb e => ?_⟩, b2.2.1, fun a ha b hb e => ?_⟩, fun a ha b hb e => ?_⟩
    · subst e; exact (news a (by simp [ha])).2.2.1 hb
    · subst e
      rcases List.mem_append.mp hb with hb | hb
      · exact (news a (by simp [hb])).2.1 ha
      · exact b3.2.2 a ha a (by simp [hb]) rfl
    · subst e
      rcases List.mem_append.mp ha with ha | ha
      · exact b2.2.2 a (by simp [ha]) a hb rfl
      · rcases List.mem_append.mp ha with ha | ha
        · exact (news a (by simp [ha])).2.2.2 hb
        · exact b2.2.2 a (by simp [ha]) a hb rfl
    · subst e
      rcases List.mem_append.mp hb with hb | hb
      · rcases List.mem_append.mp hb with hb | hb
        · exact b1.2.2 a ha a (by simp [hb]) rfl
        · rcases List.mem_append.mp hb with hb | hb
          · exact (news a (by simp [hb])).1 ha
          · exact b1.2.2 a ha a (by simp [hb]) rfl
      · exact b1.2.2 a ha a (by simp [hb]) rfl
  have mem : ∀ a, a ∈ g1 ++ (f1 ++ (fe' ++ f2) ++ g2) → a ∈ fe' ∨ (a ∈ g1 ∨ a ∈ f1 ∨ a ∈ f2 ∨ a ∈ g2) := fun a h => by
    simp only [List.mem_append] at h
    rcases h with h | (h | h | h) | h <;> simp [h]
  refine ⟨g1 ++ (f1 ++ (fe' ++ f2) ++ g2), ⟨fun a o e n => hk a o e fun z => n (by simp [z]), fun a h => ?_, fun _ h => h, fun _ h => .inl h⟩, ⟨rep, ndow, fun a h z => ?_, fun a h => ?_⟩, ⟨rz, List.nodup_append.mpr ⟨(List.nodup_append.mp nd').1, ndow, fun a ha b hb e => ?_⟩, fun a h => nA a (by simp [h])⟩⟩
  · have : a ∈ fz ++ fe' ∨ (a ∈ g1 ∨ a ∈ f1 ∨ a ∈ f2 ∨ a ∈ g2) := by
      rcases List.mem_append.mp h with h | h
      · exact .inl (by simp [h])
      · rcases mem a h with h | h
        · exact .inl (by simp [h])
        · exact .inr h
    rcases this with h | h
    · rcases hsub a h with y | y | y
      · exact .inl (by simp [y])
      · exact .inl (by simp [y])
      · exact .inr y
    · exact .inl (by simp only [List.mem_append]; rcases h with h | h | h | h <;> simp [h])
  · rcases mem a h with h | h
    · exact nA a (by simp [h]) z
    · exact g.dis a (by simp only [List.mem_append]; rcases h with h | h | h | h <;> simp [h]) z
  · obtain ⟨o, e⟩ := g.tr a h
    exact ⟨o, keepO a o e (by simp [h])⟩
  · subst e
    rcases mem a hb with y | y
    · exact (List.nodup_append.mp nd').2.2 a ha a y rfl
    · obtain ⟨s1, s2, s3, s4⟩ := news a (by simp [ha])
      rcases y with y | y | y | y
      · exact s1 y
      · exact s2 y
      · exact s3 y
      · exact s4 y
end
def plVar (i : Nat) : PLF := fun ρ P => match ρ[i]? with
  | some (some (k, d)) => (match k with
    | .sh => P i .sh d id
    | .ow => P i .ow d id
    | _ => False)
  | _ => False
def plIx (pl : PLF) (f : PF) : PLF := fun ρ P => pl ρ fun i k e rb => f ρ fun y => match e, y.2 with
  | .lst ds, .int j => (match ixN ds.length j with
    | some n => (match ds[n]? with | some c => P i .ow c (fun c' => rb (.lst (ds.set n c'))) | none => False)
    | none => False)
  | .tup ds, .int j => (match ixN ds.length j with
    | some n => (match ds[n]? with | some c => P i .ow c (fun c' => rb (.tup (ds.set n c'))) | none => False)
    | none => False)
  | _, _ => False
section
variable {X : Cx} {pos : Pos}
theorem dpl_var (i : Nat) {x : Str} (hN : X.N[i]? = some x := by rfl) (hv : Vis X.env.scope x := by first | exact Or.inl rfl | exact Or.inr (Or.inl rfl) | exact Or.inr (Or.inr rfl)) (hd : (x == ("__debug__" : Str)) = false := by decide)
    (hcd : (x == ("__classdict__" : Str)) = false := by decide) : DPl X (.Name x pos) (plVar i) := by
  refine ⟨_, pe_var hN hv hd hcd, fun σ H A ρ ow Q P g h q => ?_⟩
  unfold plVar at h
  cases e : ρ[i]? with
  | none => rw [e] at h; exact h.elim
  | some s =>
    rw [e] at h
    cases s with
    | none => exact h.elim
    | some kd =>
      obtain ⟨k, d⟩ := kd
      cases k with
      | sh =>
        obtain ⟨v, hv, p⟩ := PlAt.root (d := d) g e (.inl rfl)
        exact ⟨v, hv, q _ _ _ _ v H h (Same.refl H) p⟩
      | ow =>
        obtain ⟨v, hv, p⟩ := PlAt.root (d := d) g e (.inr rfl)
        exact ⟨v, hv, q _ _ _ _ v H h (Same.refl H) p⟩
      | _ => exact h.elim
theorem dpl_ix {a b : Expr} {pl : PLF} {f : PF} (ha : DPl X a pl) (hb : DP X b f) (hs : PlainIx b := by exact fun _ _ => rfl) : DPl X (.Subscript a b pos) (plIx pl f) := by
  obtain ⟨ta, ea, sa⟩ := ha.run
  obtain ⟨tb, eb, sb⟩ := hb.run
  refine ⟨_, pe_ix ix_seq ea eb hs, fun σ H A ρ ow Q P g h q => ?_⟩
  refine sa σ H A ρ ow _ _ g h fun i k e rb v H1 h1 s1 p1 => ?_
  refine sb σ H1 A ρ ow _ _ (g.same s1) h1 fun y w H2 h2 s2 p2 => ?_
  have p3 := p1.same s2
  obtain ⟨ky, dy⟩ := y
  have ry := p2.ra
  obtain ⟨d, v0, g1, fs, g2, fe, e1, e2, z, hsh, put⟩ := p3
  split at h2
  · rename_i ds j q1
    dsimp only at q1
    subst q1
    obtain rfl : w = .int j := ry
    split at h2
    · rename_i n hn
      split at h2
      · rename_i c hc
        obtain ⟨p, vs, w', fc, ev, hp, hl, hw, z'⟩ := z.step_lst hc
        subst ev
        refine .inl ⟨p, vs, j, w', rfl, rfl, .of hp, ?_, q i .ow c _ w' H2 h2 (s1.trans s2) ⟨d, v0, g1, fs, g2, fc, e1, e2, z', (fun h => nomatch h), put⟩⟩
        unfold L2.atI
        rw [hl, hn]
        exact hw
      · exact h2.elim
    · exact h2.elim
  · rename_i ds j q1
    dsimp only at q1
    subst q1
    obtain rfl : w = .int j := ry
    split at h2
    · rename_i n hn
      split at h2
      · rename_i c hc
        obtain ⟨p, vs, w', fc, ev, hp, hl, hw, z'⟩ := z.step_tup hc
        subst ev
        refine .inr (.inl ⟨p, vs, j, w', rfl, rfl, hp, ?_, q i .ow c _ w' H2 h2 (s1.trans s2) ⟨d, v0, g1, fs, g2, fc, e1, e2, z', (fun h => nomatch h), put⟩⟩)
        unfold L2.atI
        rw [hl, hn]
        exact hw
      · exact h2.elim
    · exact h2.elim
  · exact h2.elim
end
def nk (k z : Kd) : Kd := match k, z with
  | .sh, .fl => .sh
  | _, _ => .ow
def ownK : Kd → Bool
  | .fl => true
  | .sh => true
  | .ow => true
  | _ => false
def stIx (e : D) (y z : KD) (k : Kd) (P : Kd → D → Prop) : Prop := ownK z.1 = true ∧ match e, y.2 with
  | .lst ds, .int j => (match ixN ds.length j with
    | some n => P (nk k z.1) (.lst (ds.set n z.2))
    | none => False)
  | _, _ => False
def sStIx (fe : EF) (pl : PLF) (fi : PF) : SF := fun D ρ => fe ρ (fun z ρ1 => pl ρ1 fun i k e rb => fi ρ1 fun y => stIx e y z k fun k' e' => D.nx (ρ1.set i (some (k', rb e')))) D.ex
section
variable {K : Frg} {A : Addr → Prop} {H : Hp}
theorem VR.rown {z : KD} {v : V} {f : List Addr} (h : VR K A H z v f) (hk : ownK z.1 = true) : R K No H z.2 v f := by
  obtain ⟨k, d⟩ := z
  cases k with
  | fl => exact h.r (.inl rfl)
  | sh => exact h.r (.inr (.inl rfl))
  | ow => exact h.r (.inr (.inr rfl))
  | _ => cases hk
theorem KeepF.upd {p : Addr} {o : HO} {fp : List Addr} {B : Addr → Prop} (hp : p ∉ fp) (hB : ¬ B p) (hi : ∀ u, H p = some u → ¬ Imm u) : KeepF B fp H (upd H p o) := fun a u e h => by
  rw [upd_ne]
  · exact e
  · intro z
    subst z
    rcases h with h | h | h
    · exact hp h
    · exact hB h
    · exact hi u e h
theorem ixN_lt {n : Nat} {j : Int} {m : Nat} (h : ixN n j = some m) : m < n := (ixN_seq h).2.1
theorem list_set {ds : List D} {w : V} {fe fa : List Addr} {n : Nat} {z : D} {zv : V} (r : R K No H (.lst ds) w fe) (rz : R K No H z zv fa) (nd : (fa ++ fe).Nodup) (hn : n < ds.length) :
    ∃ p vs fe', w = .ref p ∧ H p = some (.lst vs) ∧ vs.length = ds.length ∧ p ∈ fe ∧ R K No (upd H p (.lst (vs.set n zv))) (.lst (ds.set n z)) w fe' ∧ fe'.Nodup ∧ (∀ a ∈ fe', a ∈ fe ∨ a ∈ fa) := by
  obtain ⟨p, vs, fps, rfl, rfl, hp, rs⟩ := r
  have hd : ds[n]? = some ds[n] := List.getElem?_eq_getElem hn
  obtain ⟨w0, h1, ho, h3, hw, e3, r1, r2, r3⟩ := Rs.split rs hd
  subst e3
  obtain ⟨n1, n2, n3⟩ := List.nodup_append.mp nd
  obtain ⟨m1, m2⟩ := List.nodup_cons.mp n2
  have nf : p ∉ fa := fun q => n3 p q p (by simp) rfl
  have mu : ∀ u, H p = some u → ¬ Imm u := fun u e => by rw [hp] at e; cases e; exact fun z => z
  have np : p ∉ h1 ∧ p ∉ ho ∧ p ∉ h3 := by
    simp only [List.mem_append, not_or] at m1
    exact m1
  refine ⟨p, vs, p :: (h1 ++ (fa ++ h3)), rfl, hp, rs.len, by simp, ⟨p, vs.set n zv, _, rfl, rfl, upd_same, Rs.put hd hw (Rs.keep _ _ _ (KeepF.upd np.1 (fun z => z) mu) r1) (R.keep _ _ _ (KeepF.upd nf (fun z => z) mu) rz) (Rs.keep _ _ _ (KeepF.upd np.2.2 (fun z => z) mu) r3)⟩, ?_, fun a h => ?_⟩
  · obtain ⟨k1, k2, k3⟩ := List.nodup_append.mp m2
    obtain ⟨l1, l2, l3⟩ := List.nodup_append.mp k2
    refine List.nodup_cons.mpr ⟨by simp [np.1, nf, np.2.2], List.nodup_append.mpr ⟨k1, List.nodup_append.mpr ⟨n1, l2, fun a ha b hb => n3 a ha b (by simp [hb])⟩, fun a ha b hb e => ?_⟩⟩
    subst e
    rcases List.mem_append.mp hb with hb | hb
    · exact n3 a hb a (by simp [ha]) rfl
    · exact k3 a ha a (by simp [hb]) rfl
  · simp only [List.mem_cons, List.mem_append] at h ⊢
    rcases h with h | h | h | h <;> simp [h]
theorem shal_set {ds : List D} {p : Addr} {vs : List V} {n : Nat} {z : D} {zv : V} (h : Shal K H (.lst ds) (.ref p)) (hp : H p = some (.lst vs)) (rz : RA K No H z zv) : Shal K (upd H p (.lst (vs.set n zv))) (.lst (ds.set n z)) (.ref p) := by
  obtain ⟨p', vs', e, hp', r⟩ := h
  cases e
  rw [hp] at hp'; cases hp'
  refine ⟨p, _, rfl, upd_same, RAs.keep (fun a u e h => ?_) _ _ (r.set rz)⟩
  rw [upd_ne]
  · exact e
  · intro z
    subst z
    rcases h with h | h
    · exact h
    · rw [hp] at e; cases e; exact h
end
section
variable {X : Cx} {E : XK} {pr : List Nat} {pos : Pos}
theorem ds_stIx {o ix e : Expr} {p2 : Pos} {fe : EF} {pl : PLF} {fi : PF} (he : DE X E e fe) (ho : DPl X o pl) (hi : DP X ix fi) (hs : swapsWithSole [.Subscript o ix p2] e pos.line X.env = pure false := by rfl) (hw : swappedStores [.Subscript o ix p2] e X.env = pure none := by rfl)
    (h1 : (assignEach [.Subscript o ix p2] X.env).map (·.2) = [assign (.Subscript o ix p2) X.env] := by rfl) (hg : ∀ v, assign (.Subscript o ix p2) X.env v = (do
      let ov ← holding [v] (eval o X.env)
      let iv ← holding [v, ov] (eval ix X.env)
      standAt p2
      holding [v, ov, iv] (setItem ov iv v)
      release [v, ov, iv] []) := by intro _; rfl) : DS X E pr (.Assign [.Subscript o ix p2] e pos) (sStIx fe pl fi) := by
  obtain ⟨te, ee, se⟩ := he.run
  obtain ⟨to, eo, so⟩ := ho.run
  obtain ⟨ti, ei, si⟩ := hi.run
  refine ⟨_, ps_asg ee (pg_sub eo ei set_list hg) hs hw h1, fun σ H A ρ ow T D gd h nx rt ex => ?_⟩
  refine se σ H A ρ ow _ _ _ gd h (fun z ρ1 v H1 fp ow1 A1 h1 st1 g1 o1 => ?_) fun C ρ1 H1 ow1 A1 h1 st1 g1 => ex C ρ1 σ H1 ow1 A1 h1 st1 g1 fun _ _ => rfl
  refine so σ H1 A1 ρ1 ow1 _ _ g1 h1 fun i k e rb w H2 h2 s2 p2 => ?_
  refine si σ H2 A1 ρ1 ow1 _ _ (g1.same s2) h2 fun y yv H3 h3 s3 p3 => ?_
  have s := s2.trans s3
  obtain ⟨hk, h3⟩ := h3
  split at h3
  · rename_i ds j q1
    obtain ⟨ky, dy⟩ := y
    dsimp only at q1
    subst q1
    obtain rfl : yv = .int j := p3.ra
    split at h3
    · rename_i n hn
      have o3 : VR X.K A1 H3 z v fp := o1.rep.same s
      obtain ⟨fe0, r, nd, _, hsh, mtt⟩ := (p2.same s3).mut (g1.same s) o1.nd o1.dis
      obtain ⟨p, vs, fe', ew, hp, hl, hpf, r', nd', sub⟩ := list_set r (o3.rown hk) nd (ixN_lt hn)
      subst ew
      have hk' : nk k z.1 = .ow ∨ (nk k z.1 = .sh ∧ k = .sh ∧ Shal X.K (upd H3 p (.lst (vs.set n v))) (.lst (ds.set n z.2)) (.ref p)) := by
        obtain ⟨kz, dz⟩ := z
        cases k <;> cases kz <;> first
          | exact .inl rfl
          | exact .inr ⟨rfl, rfl, shal_set (hsh rfl) hp o3.2⟩
      obtain ⟨ow', st', g', _⟩ := mtt (.lst (ds.set n z.2)) (nk k z.1) [] (.fl, .non) .non _ fe' (fun a o e n => by rw [upd_ne (fun z => n (by rw [z]; exact hpf))]; exact e) r' hk' ⟨rfl, rfl⟩ nd' fun a h => (sub a (by simpa using h)).elim .inl fun z => .inr (.inl z)
      refine ⟨p, vs, j, n, rfl, rfl, hp, by rw [hl]; exact hn, ?_⟩
      refine nx _ σ _ ow' A1 h3 ?_ g' fun _ _ => rfl
      have stA : Stp H ow A H3 (fp ++ ow1) A1 := (st1.trans (Stp.of_same s))
      exact stA.trans (st'.sub fun a h => by simp [h])
    · exact h3.elim
  · exact h3.elim
end

abbrev MOF := Kd → D → List KD → (KD → Kd → D → Prop) → Prop
def MSound (K : Frg) (r : V → List V → Hp → VK → Prop) (op : MOF) : Prop := ∀ (H : Hp) (A : Addr → Prop) (w : V) (vs : List V) (zs : List KD) (k : Kd) (e : D) (fe fa : List Addr) (P : KD → Kd → D → Prop) (Q : VK), R K No H e w fe → (k = .sh → Shal K H e w) → VRs K A H zs vs fa → (fa ++ fe).Nodup → op k e zs P →
  (∀ z k' e' v H' fz fe', P z k' e' → ownK z.1 = true → (∀ a o, H a = some o → a ∉ fe → H' a = some o) → R K No H' e' w fe' → (k' = .ow ∨ (k' = .sh ∧ k = .sh ∧ Shal K H' e' w)) → VR K A H' z v fz → (fz ++ fe').Nodup → (∀ a ∈ fz ++ fe', a ∈ fe ∨ a ∈ fa ∨ H a = none) → Q v H') → r w vs H Q
def mAppend : MOF := fun k e zs P => match e, zs with
  | .lst ds, [z] => ownK z.1 = true ∧ ds.length < 10000000 ∧ P (.fl, .non) (nk k z.1) (.lst (ds ++ [z.2]))
  | _, _ => False
def mPop : MOF := fun k e zs P => match e, zs with
  | .lst ds, [] => (match ds.getLast? with
    | some d => P (kmv (if k = .sh then .fl else .ow) d) (nk k .fl) (.lst ds.dropLast)
    | none => False)
  | _, _ => False
def mPopAt : MOF := fun k e zs P => match e, zs with
  | .lst ds, [(_, .int j)] => (match ixN ds.length j with
    | some n => (match ds[n]? with
      | some d => P (kmv (if k = .sh then .fl else .ow) d) (nk k .fl) (.lst (ds.eraseIdx n))
      | none => False)
    | none => False)
  | _, _ => False
def mExtend : MOF := fun k e zs P => match e, zs with
  | .lst ds, [(kz, .lst es)] => (kz = .sh ∨ kz = .sa ∨ kz = .ow) ∧ ds.length + es.length ≤ 10000000 ∧ P (.fl, .non) (nk k (if kz = .ow then .ow else .fl)) (.lst (ds ++ es))
  | _, _ => False
end DL

namespace DL
open PySem PySem.Spec PyProof.Rows L2
section
variable {K : Frg} {A : Addr → Prop} {H : Hp}
theorem lst_mu {p : Addr} {vs : List V} (hp : H p = some (.lst vs)) : ∀ u, H p = some u → ¬ Imm u := fun u e => by rw [hp] at e; cases e; exact fun z => z
theorem upd_out {p : Addr} {o : HO} {fe : List Addr} (hp : p ∈ fe) : ∀ a u, H a = some u → a ∉ fe → (upd H p o) a = some u := fun a u e n => by
  rw [upd_ne (fun z => n (by rw [z]; exact hp))]
  exact e
theorem keep_upd {p : Addr} {vs : List V} {o : HO} (hp : H p = some (.lst vs)) : Keep No H (upd H p o) := fun a u e h => by
  rw [upd_ne]
  · exact e
  · intro z
    subst z
    rcases h with h | h
    · exact h
    · rw [hp] at e; cases e; exact h
theorem shal_upd {p : Addr} {vs ws : List V} {ds : List D} (hp : H p = some (.lst vs)) (r : RAs K No H ds ws) : Shal K (upd H p (.lst ws)) (.lst ds) (.ref p) := ⟨p, ws, rfl, upd_same, RAs.keep (keep_upd hp) _ _ r⟩
theorem shal_at {p : Addr} {vs : List V} {ds : List D} (h : Shal K H (.lst ds) (.ref p)) (hp : H p = some (.lst vs)) : RAs K No H ds vs := by
  obtain ⟨p', vs', e, hp', r⟩ := h
  cases e
  rw [hp] at hp'; cases hp'
  exact r
theorem nk_cases (k z : Kd) : nk k z = .ow ∨ (nk k z = .sh ∧ k = .sh ∧ z = .fl) := by cases k <;> cases z <;> first | exact .inl rfl | exact .inr ⟨rfl, rfl, rfl⟩
theorem kmv_own (k : Kd) (d : D) : ownK (kmv (if k = .sh then .fl else .ow) d).1 = true := by
  by_cases h : k = .sh
  · rw [if_pos h]; cases d <;> rfl
  · rw [if_neg h]; cases d <;> rfl
theorem ms_append : MSound K rAppend mAppend := by
  intro H A w vs zs k e fe fa P Q r hsh rz nd h q
  unfold mAppend at h
  split at h
  · rename_i ds z
    obtain ⟨hk, hl, hP⟩ := h
    obtain ⟨p, xs, fps, rfl, rfl, hp, rs⟩ := r
    obtain ⟨y, ws, f1, f2, rfl, rfl, hz, e3, e4⟩ := rz
    subst e3 e4
    rw [List.append_nil] at nd
    obtain ⟨n1, n2, n3⟩ := List.nodup_append.mp nd
    obtain ⟨m1, m2⟩ := List.nodup_cons.mp n2
    have nf : p ∉ f1 := fun z => n3 p z p (by simp) rfl
    refine ⟨p, xs, y, rfl, rfl, hp, by rw [rs.len, sizeLine_eq]; omega, ?_⟩
    refine q _ _ _ .non _ [] (p :: (fps ++ f1)) hP rfl (upd_out (by simp)) ⟨p, _, _, rfl, rfl, upd_same, (Rs.keep _ _ _ (KeepF.upd m1 (fun z => z) (lst_mu hp)) rs).append (.one (R.keep _ _ _ (KeepF.upd nf (fun z => z) (lst_mu hp)) (hz.rown hk)))⟩ ?_ ⟨rfl, rfl⟩ ?_ fun a h => ?_
    · rcases nk_cases k z.1 with e | ⟨e1, e2, e3⟩
      · exact .inl e
      · obtain ⟨kz, dz⟩ := z
        dsimp only at e3
        subst e3
        exact .inr ⟨e1, e2, shal_upd hp ((shal_at (hsh e2) hp).append (.one hz.2))⟩
    · refine List.nodup_cons.mpr ⟨by simp [m1, nf], List.nodup_append.mpr ⟨m2, n1, fun a ha b hb e => n3 b hb a (by simp [ha]) e.symm⟩⟩
    · simp only [List.nil_append, List.append_nil, List.mem_cons, List.mem_append] at h ⊢
      rcases h with h | h | h <;> simp [h]
  · exact h.elim
theorem take_out {ds : List D} {p : Addr} {xs : List V} {fps : List Addr} {k : Kd} {n : Nat} {d : D} (hp : H p = some (.lst xs)) (rs : Rs K No H ds xs fps) (nd : (p :: fps).Nodup) (hsh : k = .sh → Shal K H (.lst ds) (.ref p)) (hk : k = .sh ∨ k = .ow) (hd : ds[n]? = some d) :
    ∃ y fz fps', xs[n]? = some y ∧ VR K A (upd H p (.lst (xs.eraseIdx n))) (kmv (if k = .sh then .fl else .ow) d) y fz ∧ R K No (upd H p (.lst (xs.eraseIdx n))) (.lst (ds.eraseIdx n)) (.ref p) (p :: fps') ∧
      (nk k .fl = .ow ∨ (nk k .fl = .sh ∧ k = .sh ∧ Shal K (upd H p (.lst (xs.eraseIdx n))) (.lst (ds.eraseIdx n)) (.ref p))) ∧ (fz ++ (p :: fps')).Nodup ∧ ∀ a ∈ fz ++ (p :: fps'), a ∈ p :: fps := by
  obtain ⟨y, f1, f2, f3, hy, e, r1, r2, r3⟩ := Rs.split rs hd
  subst e
  obtain ⟨m1, m2⟩ := List.nodup_cons.mp nd
  simp only [List.mem_append, not_or] at m1
  have kp : ∀ {f : List Addr}, p ∉ f → KeepF No f H (upd H p (.lst (xs.eraseIdx n))) := fun h => KeepF.upd h (fun z => z) (lst_mu hp)
  obtain ⟨k1, k2, k3⟩ := List.nodup_append.mp m2
  obtain ⟨l1, l2, l3⟩ := List.nodup_append.mp k2
  refine ⟨y, f2, f1 ++ f3, hy, ?_, ⟨p, _, _, rfl, rfl, upd_same, ?_⟩, ?_, ?_, fun a h => ?_⟩
  · rcases hk with rfl | rfl
    · obtain ⟨y', hy', ry⟩ := (shal_at (hsh rfl) hp).get hd
      rw [hy] at hy'; cases hy'
      have e2 : f2 = [] := R.nil0 _ _ _ ry r2
      subst e2
      exact (RA.keep (keep_upd hp) _ _ ry).kmv0
    · exact (R.keep _ _ _ (kp m1.2.1) r2).kmv
  · rw [List.eraseIdx_eq_take_drop_succ, List.eraseIdx_eq_take_drop_succ]
    have q1 := Rs.keep _ _ _ (kp m1.1) r1
    have q3 := Rs.keep _ _ _ (kp m1.2.2) r3
    rw [List.eraseIdx_eq_take_drop_succ] at q1 q3
    exact q1.append q3
  · rcases nk_cases k .fl with e | ⟨e1, e2, e3⟩
    · exact .inl e
    · exact .inr ⟨e1, e2, shal_upd hp ((shal_at (hsh e2) hp).eraseIdx n)⟩
  · refine List.nodup_append.mpr ⟨l1, List.nodup_cons.mpr ⟨by simp [m1.1, m1.2.2], List.nodup_append.mpr ⟨k1, l2, fun a ha b hb => k3 a ha b (by simp [hb])⟩⟩, fun a ha b hb e => ?_⟩
    subst e
    rcases List.mem_cons.mp hb with hb | hb
    · rw [hb] at ha; exact m1.2.1 ha
    · rcases List.mem_append.mp hb with hb | hb
      · exact k3 a hb a (by simp [ha]) rfl
      · exact l3 a ha a hb rfl
  · simp only [List.mem_append, List.mem_cons] at h ⊢
    rcases h with h | h | h | h <;> simp [h]
theorem ms_popAt : MSound K rPopAt (fun k e zs P => (k = .sh ∨ k = .ow) ∧ (match e with | .lst ds => ds.length ≤ 10000000 | _ => False) ∧ mPopAt k e zs P) := by
  intro H A w vs zs k e fe fa P Q r hsh rz nd h q
  obtain ⟨hk, hl, h⟩ := h
  unfold mPopAt at h
  split at h
  · rename_i ds _ j
    split at h
    · rename_i n hn
      split at h
      · rename_i d hd
        obtain ⟨p, xs, fps, rfl, rfl, hp, rs⟩ := r
        obtain ⟨y, ws, f1, f2, rfl, rfl, hz, e3, e4⟩ := rz
        subst e3 e4
        have hy : y = .int j := hz.ra (B := fun _ => True) (fun _ _ => trivial) (fun _ _ => trivial)
        subst hy
        obtain ⟨n1, n2, n3⟩ := List.nodup_append.mp nd
        obtain ⟨y, fz, fps', hy, v1, r1, s1, nd1, sub⟩ := take_out (A := A) hp rs n2 hsh hk hd
        obtain ⟨q1, q2, q3, q4⟩ := ixN_seq hn
        have hl' : ds.length ≤ 10000000 := hl
        refine ⟨p, xs, j, n, y, rfl, rfl, hp, by omega, by omega, by rw [rs.len]; exact q1, hy, ?_⟩
        exact q _ _ _ y _ fz _ h (kmv_own k d) (upd_out (by simp)) r1 s1 v1 nd1 fun a h => .inl (sub a h)
      · exact h.elim
    · exact h.elim
  · exact h.elim
def mRemove : MOF := fun k e zs P => match e, zs with
  | .lst ds, [(_, .int x)] => ∃ (ns : List Int) (j : Nat), ds = ns.map .int ∧ ns[j]? = some x ∧ (∀ m : Nat, m < j → ns[m]? ≠ some x) ∧ P (.fl, .non) (nk k .fl) (.lst ((ns.eraseIdx j).map .int))
  | _, _ => False
theorem RAs.ints : ∀ {ns : List Int} {vs : List V}, RAs K A H (ns.map .int) vs → vs = ns.map V.int
  | [], _, h => h
  | n :: ns, _, ⟨w, ws, e, h, t⟩ => by
    subst e
    rw [show w = V.int n from h, RAs.ints t]
    rfl
theorem Rs.ints : ∀ {ns : List Int} {vs : List V} {f : List Addr}, Rs K A H (ns.map .int) vs f → vs = ns.map V.int ∧ f = []
  | [], _, _, h => h
  | n :: ns, _, _, ⟨w, ws, f1, f2, e, e2, h, t⟩ => by
    obtain ⟨a, b⟩ := Rs.ints t
    subst e e2 a b
    rw [h.1, show w = V.int n from h.2]
    exact ⟨rfl, rfl⟩
theorem RAs.of_ints : ∀ (ns : List Int), RAs K A H (ns.map .int) (ns.map V.int)
  | [] => .nil
  | n :: ns => .cons rfl (RAs.of_ints ns)
end
def isL : D → Bool
  | .lst _ => true
  | _ => false
def eMthR (op : MOF) (i : Nat) (g : AEF) : EF := fun ρ P PX => (match ρ[i]? with | some (some (_, .lst _)) => True | _ => False) ∧ g ρ (fun avs ρ1 => match valsOf avs with
  | some zs => (match ρ1[i]? with
    | some (some (.sh, d)) => op .sh d zs fun z k' e' => P z (ρ1.set i (some (k', e')))
    | some (some (.ow, d)) => op .ow d zs fun z k' e' => P z (ρ1.set i (some (k', e')))
    | _ => False)
  | none => False) PX
def eMthP (op : MOF) (pl : PLF) (g : PAF) : EF := fun ρ P _ => pl ρ fun i k e rb => isL e = true ∧ g ρ fun zs => op k e zs fun z k' e' => P z (ρ.set i (some (k', rb e')))
section
variable {X : Cx} {E : XK} {o e : Expr} {es : List Expr} {n : Nat} {name : Str} {apos cpos : Pos} {id : String} {r : V → List V → Hp → VK → Prop} {op : MOF}
theorem tyL {K : Frg} {H : Hp} {d : D} {v : V} {f : List Addr} (h : R K No H d v f) (e : isL d = true) : tyV K "list" v H := by
  cases d <;> first
    | (cases e; done)
    | (obtain ⟨p, vs, _, e1, _, hp, _⟩ := h; rw [e1]; exact .inl ⟨rfl, _, .of hp⟩)
theorem VR.own_any {K : Frg} {A B : Addr → Prop} {H : Hp} {z : KD} {v : V} {f : List Addr} (h : VR K A H z v f) (e : ownK z.1 = true) : VR K B H z v f := by
  obtain ⟨k, d⟩ := z
  cases k <;> first
    | exact h
    | cases e
theorem mth_fin {K : Frg} {A A0 B : Addr → Prop} {H H0 : Hp} {ρ : Ro} {σ : L2.St} {ow ow0 fp : List Addr} {i : Nat} {k : Kd} {d : D} {rb : D → D} {w : V} {vs : List V} {zs : List KD} {P : KD → Ro → Prop} {Q : VK} (hm : MSound K r op) (st : Stp H0 ow0 A0 H (fp ++ ow) A) (g : Good K A H ρ σ ow) (pl : PlAt K A H ρ σ ow i k d rb w)
    (rz : VRs K B H zs vs fp) (nd : (fp ++ ow).Nodup) (dis : ∀ a ∈ fp, ¬ A a) (h : op k d zs fun z k' e' => P z (ρ.set i (some (k', rb e'))))
    (q : ∀ z ρ' v H' fp ow' A', P z ρ' → Stp H0 ow0 A0 H' (fp ++ ow') A' → Good K A' H' ρ' σ ow' → Own K A' H' z v fp ow' → Q v H') : r w vs H Q := by
  obtain ⟨fe, re, nde, _, hsh, mtt⟩ := pl.mut g nd dis
  refine hm H B w vs zs k d fe fp _ Q re hsh rz nde h fun z k' e' v H' fz fe' hP ho hk r' hk' vz ndz sub => ?_
  obtain ⟨ow', st', g', o'⟩ := mtt e' k' fz z v H' fe' hk r' hk' (vz.own_any ho) ndz sub
  exact q z _ v H' fz ow' A hP (st.trans st') g' o'
variable {g : AEF}
theorem es_mthR {K : Frg} {i : Nat} {t : TA} (hm : MSound K r op) (s : AESound K E n t g) : ESound K E (tBM K "list" r (tVar i) t) (eMthR op i g) := by
  intro σ H A ρ ow Q P PX gd h q qx
  obtain ⟨h0, h⟩ := h
  split at h0
  · rename_i k ds e0
    obtain ⟨v, f, hv, rv, _, sub⟩ := gd.slot e0
    refine ⟨v, hv, ?_, ?_⟩
    · have ra : RA K (fun _ => True) H (.lst ds) v := rv.ra (fun _ _ => trivial) (fun _ _ => trivial)
      obtain ⟨p, vs, ev, _, hp, _⟩ := ra
      rw [ev]
      exact .inl ⟨rfl, _, .of hp⟩
    · refine s σ H A ρ ow _ _ _ gd h (fun avs ρ1 vs H1 fp ow1 A1 hn h1 st1 g1 rr nd dis => ?_) qx
      split at h1
      · rename_i zs ez
        split at h1
        · rename_i d e1
          obtain ⟨v', hv', pl⟩ := PlAt.root (d := d) g1 e1 (.inl rfl)
          rw [hv] at hv'
          cases hv'
          exact mth_fin hm st1 g1 pl (rr.vals ez) nd dis h1 q
        · rename_i d e1
          obtain ⟨v', hv', pl⟩ := PlAt.root (d := d) g1 e1 (.inr rfl)
          rw [hv] at hv'
          cases hv'
          exact mth_fin hm st1 g1 pl (rr.vals ez) nd dis h1 q
        · exact h1.elim
      · exact h1.elim
  · exact h0.elim
theorem es_mthP {K : Frg} {to : TE} {t : TA} {pl : PLF} {gp : PAF} (hm : MSound K r op) (so : PLSound K to pl) (s : ASound K n t gp) : ESound K E (tBM K "list" r to t) (eMthP op pl gp) := by
  intro σ H A ρ ow Q P PX gd h q qx
  refine so σ H A ρ ow _ _ gd h fun i k e rb w H1 h1 s1 p1 => ?_
  obtain ⟨hl, h1⟩ := h1
  refine ⟨?_, ?_⟩
  · obtain ⟨d, v0, g1, fs, g2, fe, _, _, ⟨_, _, _, re, _⟩, _⟩ := p1
    exact tyL re hl
  · refine s σ H1 A ρ ow _ _ (gd.same s1) h1 fun zs vs H2 hn h2 s2 pr => ?_
    obtain ⟨fp, rz, nd, hF⟩ := pr
    have s12 := s1.trans s2
    refine mth_fin hm (ow0 := ow) (A0 := A) (H0 := H) ⟨fun a o e _ => s12 a o e, fun a h => ?_, fun _ h => h, fun _ h => .inl h⟩ (gd.same s12) (p1.same s2) rz (List.nodup_append.mpr ⟨nd, gd.nd, fun a ha b hb e => ?_⟩) (fun a h z => ?_) h2 q
    · rcases List.mem_append.mp h with h | h
      · exact .inr (s1.free (hF a h))
      · exact .inl h
    · subst e
      obtain ⟨o, e, _⟩ := gd.rep.mu a hb
      rw [s1.free (hF a ha)] at e; cases e
    · obtain ⟨o, e⟩ := gd.tr a z
      rw [s1.free (hF a h)] at e; cases e
section
variable {g : AEF} {gp : PAF} {pl : PLF}
theorem de_mthR (pa : PlainAttrs "list") (slot : PySem.Slot "list" name id) (hty : typeOf (.builtin id) = pure (.type "method_descriptor")) (hm : MtM X id r) (hs : MSound X.K r op) (i : Nat) {x : Str} {px : Pos} (ha : DAE X E (e :: es) n g)
    (hN : X.N[i]? = some x := by rfl) (hv : Vis X.env.scope x := by first | exact Or.inl rfl | exact Or.inr (Or.inl rfl) | exact Or.inr (Or.inr rfl)) (hd : (x == ("__debug__" : Str)) = false := by decide) (hcd : (x == ("__classdict__" : Str)) = false := by decide)
    (hbase : attributeBase (.Name x px) name X.env (eval (.Name x px) X.env) = eval (.Name x px) X.env := by rfl)
    (hfew : ((backTo cpos (starEach (e :: es) X.env)).all (fun x => !x.1) && (backToKw cpos (keywordEach [] X.env)).all (fun x => x.1.isSome)
      && decide ((e :: es).length + ([] : List Keyword).length + (if ([] : List Keyword).isEmpty then 0 else 1) < 30)) = true := by rfl)
    (hline : (apos.endLine == cpos.line) = true := by rfl) (hst : starEach (e :: es) X.env = (false, eval e X.env) :: starEach es X.env := by rfl) (hplain : (backTo cpos (starEach es X.env)).any (·.1) = false := by rfl) :
    DE X E (.Call (.Attribute (.Name x px) name apos) (e :: es) [] cpos) (eMthR op i g) := by
  obtain ⟨t, ea, sa⟩ := ha.run
  exact ⟨_, pe_bm pa slot hty hm (pe_var hN hv hd hcd) ea hbase hfew hline hst hplain, es_mthR hs sa⟩
theorem de_mthP (pa : PlainAttrs "list") (slot : PySem.Slot "list" name id) (hty : typeOf (.builtin id) = pure (.type "method_descriptor")) (hm : MtM X id r) (hs : MSound X.K r op) (ho : DPl X o pl) (ha : DA X (e :: es) n gp)
    (hbase : attributeBase o name X.env (eval o X.env) = eval o X.env := by rfl)
    (hfew : ((backTo cpos (starEach (e :: es) X.env)).all (fun x => !x.1) && (backToKw cpos (keywordEach [] X.env)).all (fun x => x.1.isSome)
      && decide ((e :: es).length + ([] : List Keyword).length + (if ([] : List Keyword).isEmpty then 0 else 1) < 30)) = true := by rfl)
    (hline : (apos.endLine == cpos.line) = true := by rfl) (hst : starEach (e :: es) X.env = (false, eval e X.env) :: starEach es X.env := by rfl) (hplain : (backTo cpos (starEach es X.env)).any (·.1) = false := by rfl) :
    DE X E (.Call (.Attribute o name apos) (e :: es) [] cpos) (eMthP op pl gp) := by
  obtain ⟨t, ea, sa⟩ := ha.run
  obtain ⟨to, eo, so⟩ := ho.run
  exact ⟨_, pe_bm pa slot hty hm eo ea hbase hfew hline hst hplain, es_mthP hs so sa⟩
end
end
end DL

namespace DL
open PySem PySem.Spec PyProof.Rows L2
def tE (K : Frg) (f : EF) : TE := fun σ H Q => ∃ A ρ ow P, Good K A H ρ σ ow ∧ f ρ P (fun _ _ => False) ∧ ∀ z ρ' v H' fp ow' A', P z ρ' → Stp H ow A H' (fp ++ ow') A' → Good K A' H' ρ' σ ow' → Own K A' H' z v fp ow' → Q v H'
theorem DE.can {X : Cx} {E : XK} {e : Expr} {f : EF} (h : DE X E e f) : PE X e (tE X.K f) := by
  obtain ⟨t, pe, s⟩ := h.run
  refine ⟨fun pins st σ H Q I hq => ?_⟩
  obtain ⟨A, ρ, ow, P, g, hf, q⟩ := hq
  exact pe.run pins st σ H Q I (s σ H A ρ ow Q P _ g hf q fun _ _ _ _ _ h => h.elim)
def compE (step : KD → Ro → (Option KD → Ro → Prop) → Prop) : List KD → Ro → List KD → (List KD → Ro → Prop) → Prop
  | [], ρ, acc, P => P acc ρ
  | z :: zs, ρ, acc, P => step z ρ fun r ρ' => match r with
    | some y => compE step zs ρ' (acc ++ [y]) P
    | none => compE step zs ρ' acc P
def stepE (is : List Nat) (g : GF) (tt : PTF) (fe : EF) : KD → Ro → (Option KD → Ro → Prop) → Prop := fun z ρ Q => g z ρ fun ρ1 => tt ρ1 fun b => if b = true then fe ρ1 (fun y ρ2 => Q (some y) (wipeR ρ2 is)) (fun _ _ => False) else Q none (wipeR ρ1 is)
def eLc (src : IF) (is : List Nat) (g : GF) (tt : PTF) (fe : EF) : EF := fun ρ P _ => src (rdOnly ρ) fun zs => zs.length ≤ 10000000 ∧ compE (stepE is g tt fe) zs (wipeR ρ is) [] fun ys ρ' => P (jL ys, .lst (ys.map (·.2))) ρ'
section
variable {K : Frg} {A : Addr → Prop} {H : Hp} {σ τ : L2.St}
theorem RepS.congr : ∀ {ρ : Ro} {σ τ : L2.St} {ow : List Addr}, RepS K A H ρ τ ow → σ.length = τ.length → (∀ (i : Nat) kd, ρ[i]? = some (some kd) → σ[i]? = τ[i]?) → RepS K A H ρ σ ow
  | [], σ, τ, ow, h, hl, _ => by
    obtain ⟨e1, e2⟩ := h
    subst e1
    exact ⟨List.eq_nil_of_length_eq_zero hl, e2⟩
  | s :: ρ, [], τ, ow, ⟨x, τ', f, g, e, e2, h, r⟩, hl, hs => by subst e; cases hl
  | s :: ρ, y :: σ, τ, ow, ⟨x, τ', f, g, e, e2, h, r⟩, hl, hs => by
    subst e e2
    refine ⟨y, σ, f, g, rfl, rfl, ?_, RepS.congr r (by simpa using hl) fun i kd hi => by simpa using hs (i + 1) kd (by simpa using hi)⟩
    cases s with
    | none => exact h
    | some kd =>
      have : y = x := by simpa using hs 0 kd rfl
      rw [this]; exact h
theorem wipeR_get (ρ : Ro) (j : Nat) : ∀ vs : List Nat, (wipeR ρ vs)[j]? = if j ∈ vs ∧ j < ρ.length then some none else ρ[j]?
  | [] => by simp [wipeR]
  | v :: vs => by
    have hl : (wipeR ρ vs).length = ρ.length := by
      have : ∀ is : List Nat, (wipeR ρ is).length = ρ.length := by
        intro is
        induction is with
        | nil => rfl
        | cons a r ih => show ((wipeR ρ r).set a none).length = _; rw [List.length_set, ih]
      exact this vs
    show ((wipeR ρ vs).set v none)[j]? = _
    by_cases hv : v = j
    · subst hv
      by_cases hl' : v < ρ.length
      · rw [List.getElem?_set_self (by rw [hl]; exact hl'), if_pos ⟨List.mem_cons_self, hl'⟩]
      · rw [List.set_eq_of_length_le (by rw [hl]; omega), wipeR_get ρ v vs, if_neg (fun z => hl' z.2), if_neg (fun z => hl' z.2)]
    · rw [List.getElem?_set_ne hv, wipeR_get ρ j vs]
      have : j ∈ v :: vs ↔ j ∈ vs := by simp [Ne.symm hv]
      simp only [this]
theorem wipeR_len (ρ : Ro) : ∀ is : List Nat, (wipeR ρ is).length = ρ.length
  | [] => rfl
  | a :: r => by show ((wipeR ρ r).set a none).length = _; rw [List.length_set, wipeR_len ρ r]
theorem wipeR_idem (ρ : Ro) (vs : List Nat) : wipeR (wipeR ρ vs) vs = wipeR ρ vs := by
  apply List.ext_getElem?
  intro j
  rw [wipeR_get, wipeR_get, wipeR_len]
  by_cases hj : j ∈ vs ∧ j < ρ.length
  · rw [if_pos hj, if_pos hj]
  · rw [if_neg hj]
theorem Good.set0 {ρ : Ro} {ow : List Addr} {i : Nat} (g : Good K A H ρ σ ow) : ∃ ow', Good K A H (ρ.set i none) σ ow' ∧ ∀ a ∈ ow', a ∈ ow := by
  cases e : ρ[i]? with
  | none =>
    rw [List.set_eq_of_length_le (List.getElem?_eq_none_iff.mp e)]
    exact ⟨ow, g, fun _ h => h⟩
  | some s =>
    cases s with
    | none => rw [set_same e]; exact ⟨ow, g, fun _ h => h⟩
    | some kd =>
      obtain ⟨v, fp, ow', _, g', _, sub⟩ := g.move e
      exact ⟨ow', g', fun a h => sub a (by simp [h])⟩
theorem Good.wipeR {ρ : Ro} {ow : List Addr} (g : Good K A H ρ σ ow) : ∀ is : List Nat, ∃ ow', Good K A H (wipeR ρ is) σ ow' ∧ ∀ a ∈ ow', a ∈ ow
  | [] => ⟨ow, g, fun _ h => h⟩
  | i :: is => by
    obtain ⟨ow1, g1, s1⟩ := Good.wipeR g is
    obtain ⟨ow2, g2, s2⟩ := g1.set0 (i := i)
    exact ⟨ow2, g2, fun a h => s1 a (s2 a h)⟩
theorem Good.congr {ρ : Ro} {ow : List Addr} (g : Good K A H ρ τ ow) (hl : σ.length = τ.length) (hs : ∀ (i : Nat) kd, ρ[i]? = some (some kd) → σ[i]? = τ[i]?) : Good K A H ρ σ ow := ⟨g.rep.congr hl hs, g.nd, g.dis, g.tr⟩
theorem es_lc {E : XK} {wi : TI} {src : IF} {is : List Nat} {g : GF} {tt : PTF} {fe : EF} (hs : ISound K wi src) : ESound K E (tLc wi (tG K is g) (tT K tt) (tE K fe) is) (eLc src is g tt fe) := by
  intro σ H A ρ ow Q P PX gd h q _
  refine hs σ H A (rdOnly ρ) [] _ _ (fun a => a ∈ ow) gd.rdOnly (fun a z => ⟨fun h => ?_, gd.rep.mu a z⟩) h fun zs J H1 hz s1 wk => ?_
  · rcases h with h | h
    · exact gd.dis a z h
    · cases h
  obtain ⟨hlen, hc⟩ := hz
  obtain ⟨G, Y, walk, hG, hY⟩ := wk
  intro D hD
  have hD0 : H D = none := s1.free hD
  -- what was read for the source is frozen
  let A1 : Addr → Prop := fun a => A a ∨ Fre2 H H1 a
  have g1 : Good K A1 H1 ρ σ ow := gd.freeze s1
  have nA1 : ¬ A1 D := fun z => by
    rcases z with z | z
    · obtain ⟨o, e⟩ := gd.tr D z; rw [hD0] at e; cases e
    · obtain ⟨_, o, e⟩ := z; rw [hD] at e; cases e
  have nowD : D ∉ ow := fun z => by
    obtain ⟨o, e, _⟩ := gd.rep.mu D z; rw [hD0] at e; cases e
  obtain ⟨ow1, g1w, sub1⟩ := g1.wipeR is
  have g1w' : Good K A1 H1 (DL.wipeR ρ is) (wipe σ is) ow1 := g1w.congr (wipe_length σ is) fun i kd hi => by
    rw [wipeR_get] at hi
    rw [wipe_get]
    by_cases hj : i ∈ is ∧ i < ρ.length
    · rw [if_pos hj] at hi; cases hi
    · have : ¬ (i ∈ is ∧ i < σ.length) := fun z => hj ⟨z.1, by rw [← gd.rep.len]; exact z.2⟩
      rw [if_neg this]
  let P' : List KD → Ro → Prop := fun ys ρ' => P (jL ys, .lst (ys.map (·.2))) ρ'
  let step := stepE is g tt fe
  -- the new list is beside all that
  have updD : ∀ {Hx : Hp} {o : HO} {a : Addr} {u : HO}, a ≠ D → Hx a = some u → (upd Hx D o) a = some u := fun n e => by rw [upd_ne n]; exact e
  refine lc_it walk (fun i Hc => ∃ ρ' ow' A' acc accV fp, Good K A' Hc ρ' (wipe σ is) ow' ∧ Hc D = some (.lst accV) ∧ VRs K A' Hc acc accV fp ∧ (fp ++ ow').Nodup ∧ (∀ a ∈ fp, ¬ A' a) ∧ D ∉ fp ∧ D ∉ ow' ∧ ¬ A' D ∧
    Stp H1 ow A1 Hc (fp ++ ow') A' ∧ compE step (zs.drop i) ρ' acc P' ∧ acc.length ≤ i ∧ DL.wipeR ρ' is = ρ') ?_ ?_ ?_ ?_
  · refine ⟨_, ow1, A1, [], [], [], g1w'.same (same_upd hD), upd_same, ⟨rfl, rfl⟩, g1w'.nd, fun a h => (nomatch h), by simp, fun z => nowD (sub1 D z), nA1, ⟨fun a o e _ => same_upd hD a o e, fun a h => .inl (sub1 a (by simpa using h)), fun _ h => h, fun _ h => .inl h⟩, hc, Nat.le_refl _, wipeR_idem ρ is⟩
  · rintro i H2 _ ⟨ρ', ow', A', acc, accV, fp, g', _, _, _, _, _, _, _, st, _⟩
    exact hG H2 fun a o e n => st.same a o e n
  · rintro i x H2 H3 hi ⟨ρ', ow', A', acc, accV, fp, g', hDv, r, nd, dis, nf, no, nA, st, hcomp, hl, hw⟩ y
    have hzi : zs[i]? = some zs[i] := List.getElem?_eq_getElem hi
    obtain ⟨s3, vz⟩ := hY i H2 x H3 zs[i] hzi (fun a o e n => st.same a o e n) y
    rw [List.drop_eq_getElem_cons hi] at hcomp
    have hstep : step zs[i] ρ' fun r ρ2 => match r with
      | some y => compE step (zs.drop (i + 1)) ρ2 (acc ++ [y]) P'
      | none => compE step (zs.drop (i + 1)) ρ2 acc P' := hcomp
    have hD3 : H3 D = some (.lst accV) := s3 _ _ hDv
    have vb : VR K A' H3 zs[i] x [] := vz.mono fun a h => by
      rcases h with (h | h) | h
      · exact st.up a (.inl h)
      · cases h
      · exact st.up a (.inr h)
    have ndow := (List.nodup_append.mp nd).2.1
    refine ⟨zs[i], [], A', ρ', ow', _, g'.same s3, ⟨vb, by simpa using ndow, fun a h => (nomatch h)⟩, hstep, fun ρ1 σ1 owA h1 gA subA w1 => ⟨w1.trans (wipe_idem σ is), ?_⟩⟩
    have subA' : ∀ a ∈ owA, a ∈ ow' := fun a h => (subA a h).elim id fun z => nomatch z
    have hl1 : σ1.length = σ.length := by rw [← wipe_length σ1 is, w1, wipe_length, wipe_length]
    -- back from the block's slots
    have back : ∀ {ρ2 : Ro} {Hx : Hp} {Ax : Addr → Prop} {owx : List Addr}, Good K Ax Hx ρ2 σ1 owx → ∃ owy, Good K Ax Hx (DL.wipeR ρ2 is) (wipe σ is) owy ∧ ∀ a ∈ owy, a ∈ owx := fun {ρ2 Hx Ax owx} gx => by
      obtain ⟨owy, gy, suby⟩ := gx.wipeR is
      refine ⟨owy, gy.congr (by rw [wipe_length]; exact hl1.symm) fun j kd hj => ?_, suby⟩
      rw [wipeR_get] at hj
      have hn : ¬ (j ∈ is ∧ j < ρ2.length) := fun z => by rw [if_pos z] at hj; cases hj
      have e : (wipe σ1 is)[j]? = (wipe (wipe σ is) is)[j]? := by rw [w1]
      rw [wipe_idem, wipe_get, wipe_get] at e
      have l2 : ρ2.length = σ1.length := gx.rep.len.symm
      rw [wipe_get]
      rw [if_neg (fun z => hn ⟨z.1, by rw [l2]; exact z.2⟩)] at e
      exact e.symm
    refine ⟨A', ρ1, owA, _, gA, h1, fun b H4 h2 s4 => ?_⟩
    have st4 : Stp H1 ow A1 H4 (fp ++ ow') A' := (st.trans (Stp.of_same (s3.trans s4)))
    have r4 := (r.same s3).same s4
    have hD4 : H4 D = some (.lst accV) := s4 _ _ hD3
    cases b with
    | false =>
      rw [if_neg Bool.false_ne_true] at h2
      refine iteF ?_
      obtain ⟨owy, gy, suby⟩ := back (gA.same s4)
      have sb : ∀ a ∈ owy, a ∈ ow' := fun a h => subA' a (suby a h)
      exact ⟨_, owy, A', acc, accV, fp, gy, hD4, r4, List.nodup_append.mpr ⟨(List.nodup_append.mp nd).1, gy.nd, fun a ha b hb => (List.nodup_append.mp nd).2.2 a ha b (sb b hb)⟩, dis, nf, fun z => no (sb D z), nA, st4.sub fun a h => by rcases List.mem_append.mp h with h | h <;> simp [h, sb], h2, by omega, wipeR_idem _ is⟩
    | true =>
      rw [if_pos rfl] at h2
      refine iteT ?_
      refine ⟨A', ρ1, owA, _, gA.same s4, h2, fun z ρ2 v H5 f5 ow5 A5 h3 st5 g5 o5 => ?_⟩
      have nowA : D ∉ owA := fun z => no (subA' D z)
      have hD5 : H5 D = some (.lst accV) := st5.same _ _ hD4 nowA
      obtain ⟨owy, gy, suby⟩ := back g5
      obtain ⟨d1, d2, d3⟩ := List.nodup_append.mp nd
      -- the items made so far stay
      have trk : ∀ a ∈ fp, ∃ o, H4 a = some o := fun a h => let ⟨o, e, _⟩ := r4.mu a h; ⟨o, e⟩
      have nfA : ∀ a ∈ fp, a ∉ owA := fun a h z => d3 a h a (subA' a z) rfl
      have r5 : VRs K A5 H5 acc accV fp := (VRs.keepF (fun a o e h => by
        rcases h with h | h
        · exact st5.same a o e (nfA a h)
        · exact (gA.same s4).keepA st5 a o e h) r4).mono st5.up
      have nfp5 : ∀ a ∈ fp, a ∉ f5 ++ ow5 := fun a h z => by
        rcases st5.own a z with y | y
        · exact nfA a h y
        · obtain ⟨o, e⟩ := trk a h; rw [y] at e; cases e
      have nA5 : ∀ a, (∃ o, H4 a = some o) → a ∉ owA → ¬ A' a → ¬ A5 a := fun a t n1 n2 z => by
        rcases st5.fr a z with y | y | y
        · exact n2 y
        · exact n1 y
        · obtain ⟨o, e⟩ := t; rw [y] at e; cases e
      have nD5 : D ∉ f5 ++ ow5 := fun z => by
        rcases st5.own D z with y | y
        · exact nowA y
        · rw [hD4] at y; cases y
      have nAD5 : ¬ A5 D := nA5 D ⟨_, hD4⟩ nowA nA
      have all := r5.append (VRs.one o5.rep)
      have stAll : Stp H1 ow A1 H5 ((fp ++ f5) ++ ow5) A5 := by
        have stA : Stp H1 ow A1 H4 owA A' := st4.sub fun a h => by simp [subA' a h]
        have stT := stA.trans st5
        refine ⟨stT.same, fun a h => ?_, stT.up, stT.fr⟩
        rw [List.append_assoc] at h
        rcases List.mem_append.mp h with h | h
        · exact st4.own a (by simp [h])
        · exact stT.own a h
      have hkeep : ∀ a u, H5 a = some u → a ≠ D → (upd H5 D (.lst (accV ++ [v]))) a = some u := fun a u e n => updD n e
      refine ⟨accV, hD5, ?_, _, owy, A5, acc ++ [z], accV ++ [v], fp ++ f5, ?_, upd_same, ?_, ?_, fun a h => ?_, ?_, fun z => nD5 (by simp [suby D z]), nAD5, ?_, h3, ?_, wipeR_idem _ is⟩
      · rw [r.len, sizeLine_eq]
        have := hi
        omega
      · exact ⟨gy.rep.keep fun a u e h => hkeep a u e fun z => by
          subst z
          rcases h with h | h | h
          · exact nD5 (by simp [suby _ h])
          · exact nAD5 h
          · rw [hD5] at e; cases e; exact h, gy.nd, gy.dis, fun a h => by
          obtain ⟨o, e⟩ := gy.tr a h
          exact ⟨o, hkeep a o e fun z => nAD5 (by rw [← z]; exact h)⟩⟩
      · exact VRs.keepF (fun a u e h => hkeep a u e fun z => by
          subst z
          rcases h with h | h | h
          · rcases List.mem_append.mp h with h | h
            · exact nf h
            · exact nD5 (by simp [h])
          · exact nAD5 h
          · rw [hD5] at e; cases e; exact h) all
      · rw [List.append_assoc]
        obtain ⟨e1, e2, e3⟩ := List.nodup_append.mp o5.nd
        refine List.nodup_append.mpr ⟨d1, List.nodup_append.mpr ⟨e1, gy.nd, fun a ha b hb => e3 a ha b (suby b hb)⟩, fun a ha b hb e => ?_⟩
        subst e
        refine nfp5 a ha ?_
        rcases List.mem_append.mp hb with hb | hb
        · simp [hb]
        · simp [suby a hb]
      · rcases List.mem_append.mp h with h | h
        · exact nA5 a (trk a h) (nfA a h) (dis a h)
        · exact o5.dis a h
      · intro z
        rcases List.mem_append.mp z with z | z
        · exact nf z
        · exact nD5 (by simp [z])
      · refine ⟨fun a o e n => hkeep a o (stAll.same a o e n) (fun z => by rw [z, hD] at e; cases e), fun a h => stAll.own a (by rcases List.mem_append.mp h with h | h <;> simp only [List.mem_append] at h ⊢ <;> first | exact .inl h | exact .inr (suby a h)), stAll.up, stAll.fr⟩
      · rw [List.length_append]
        show acc.length + 1 ≤ i + 1
        omega
  · rintro H2 ⟨ρ', ow', A', acc, accV, fp, g', hDv, r, nd, dis, nf, no, nA, st, hcomp, hl, hw⟩
    rw [List.drop_eq_nil_of_le (Nat.le_refl _)] at hcomp
    have hP : P (jL acc, .lst (acc.map (·.2))) ρ' := hcomp
    have gσ : Good K A' H2 ρ' σ ow' := g'.congr (wipe_length σ is).symm fun j kd hj => by
      rw [← hw, wipeR_get] at hj
      have hn : ¬ (j ∈ is ∧ j < ρ'.length) := fun z => by rw [if_pos z] at hj; cases hj
      have l2 : ρ'.length = σ.length := by rw [← g'.rep.len, wipe_length]
      rw [wipe_get, if_neg fun z => hn ⟨z.1, by rw [l2]; exact z.2⟩]
    have stH : Stp H ow A H2 ((D :: fp) ++ ow') A' := by
      have s0 : Stp H ow A H1 ow A1 := Stp.freeze s1
      have sT := s0.trans st
      refine ⟨sT.same, fun a h => ?_, sT.up, sT.fr⟩
      rcases List.mem_cons.mp h with h | h
      · rw [h]; exact .inr hD0
      · exact sT.own a h
    have ndD : ((D :: fp) ++ ow').Nodup := List.nodup_cons.mpr ⟨by simp [nf, no], nd⟩
    have disD : ∀ a ∈ D :: fp, ¬ A' a := fun a h => by
      rcases List.mem_cons.mp h with h | h
      · rw [h]; exact nA
      · exact dis a h
    have pr : PR K A' (fun a => a ∈ D :: fp ∨ H2 a = none) H2 (.ref D) (jL acc, .lst (acc.map (·.2))) := by
      have rO : VRs K (Or2 A' (fun a => a ∈ D :: fp ∨ H2 a = none)) H2 acc accV fp := r.mono fun a h => .inl h
      have d1 := (List.nodup_append.mp nd).1
      rcases jT_cases acc with e | e | e
      · have e' : jL acc = .sh := by unfold jL; rw [e]
        rw [e']
        exact ⟨[D], ⟨⟨D, accV, [], rfl, rfl, hDv, Rs.of0 _ _ (rO.fl e).2⟩, D, accV, rfl, hDv, (rO.fl e).2⟩, by simp, fun a q => by rw [List.mem_singleton.mp q]; exact .inl (by simp)⟩
      · have e' : jL acc = .ow := by unfold jL; rw [e]
        rw [e']
        exact ⟨D :: fp, ⟨D, accV, fp, rfl, rfl, hDv, rO.ow (by rw [e]; decide)⟩, List.nodup_cons.mpr ⟨nf, d1⟩, fun a q => .inl q⟩
      · have e' : jL acc = .rd := by unfold jL; rw [e]
        rw [e']
        exact .rd ⟨D, accV, rfl, .inr (.inl (by simp)), hDv, rO.ra (fun _ h => h) fun a q => .inr (.inl (by simp [q]))⟩
    obtain ⟨f, A3, st3, g3, o3⟩ := pr.fin stH gσ ndD disD (Same.refl H2)
    exact q _ ρ' _ H2 f ow' A3 hP st3 g3 o3
end
section
variable {X : Cx} {E : XK} {pos : Pos} {pr : List Nat}
theorem ds_setLcE (i : Nat) {y : Str} {py spos : Pos} {elt tg iter : Expr} {ifs : List Expr} {scope : Scope} {own : List (Str × Nat)} {is : List Nat} {src : IF} {g : GF} {tt : PTF} {fe : EF} {E' : XK} (hc : X.calm = true) (hN : X.N.Nodup) (hp : i ∉ pr) (hy : X.N[i]? = some y) (hyl : X.env.scope.names.lookup y = some .local)
    (hsw : swapsWith (.ListComp elt [⟨tg, iter, ifs, 0⟩] scope pos) (some (.Name y py)) spos.line X.env = pure true) (hi : DI X tg iter src) (ok : BlkOk X.N X.env.scope scope own)
    (hg : ∀ (s : Shared) (H : Hp) (C : Addr) (cl : List (Str × Addr)) (fp : List Addr), DG (X.blk s H scope (compEnvC scope cl C X.env) fp) tg is g) (ht : ∀ (s : Shared) (H : Hp) (C : Addr) (cl : List (Str × Addr)) (fp : List Addr), DTs (X.blk s H scope (compEnvC scope cl C X.env) fp) ifs tt)
    (he : ∀ (s : Shared) (H : Hp) (C : Addr) (cl : List (Str × Addr)) (fp : List Addr), DE (X.blk s H scope (compEnvC scope cl C X.env) fp) E' elt fe) (his : own.map (·.2) = is := by rfl) (hs : ∀ x, foldedSetIterable iter X.env x = pure x := by intro _; rfl) :
    DS X E pr (.Assign [.Name y py] (.ListComp elt [⟨tg, iter, ifs, 0⟩] scope pos) spos) (sSet i (eLc src is g tt fe)) := by
  obtain ⟨t, e, s⟩ := hi.run
  subst his
  exact ⟨_, ps_setLc (te := tE X.K fe) (g := tG X.K (own.map (·.2)) g) (tt := tT X.K tt) hc hN hy hyl hsw e ok (fun s H C cl fp => (hg s H C cl fp).can) (fun s H C cl fp => (ht s H C cl fp).run) (fun s H C cl fp => (he s H C cl fp).can) hs, ss_set hp (es_lc s)⟩
end
end DL

namespace DL
open PySem PySem.Spec PyProof.Rows L2
section
variable {K : Frg} {A B F : Addr → Prop} {H : Hp}
def oLen : List KD → (KD → Prop) → Prop := fun zs P => match zs with
  | [(_, .tup ds)] => P (.fl, .int ds.length)
  | [(_, .lst ds)] => P (.fl, .int ds.length)
  | [(_, .kst ds)] => P (.fl, .int ds.length)
  | [(_, .str z)] => z.length ≤ 10000000 ∧ P (.fl, .int z.length)
  | _ => False
theorem cs_len : CallS K (fun xs H Q => ∃ x n, xs = [x] ∧ LenV K x H n ∧ Q (.int n) H) oLen := by
  intro B F H vs xs P Q pr hF h q
  have go : ∀ (k : Kd) (d : D) (ds : List D), xs = [(k, d)] → d.seq = some ds → P (.fl, .int ds.length) → ∃ x n, vs = [x] ∧ LenV K x H n ∧ Q (.int n) H := fun k d ds e e2 hP => by
    subst e
    obtain ⟨v, ev, p⟩ := pr.get1
    obtain ⟨a, us, ea, t, r⟩ := p.ra.seq e2
    subst ev ea
    refine ⟨_, ds.length, rfl, ?_, q _ _ H hP (Same.refl H) .int⟩
    rcases t with t | t
    · exact .inl ⟨us, t, r.len.symm⟩
    · exact .inr ⟨us, t, r.len.symm⟩
  unfold oLen at h
  split at h
  · exact go _ _ _ rfl rfl h
  · exact go _ _ _ rfl rfl h
  · exact go _ _ _ rfl rfl h
  · rename_i k z
    obtain ⟨v, ev, p⟩ := pr.get1
    have e : v = .str z := p.ra
    subst ev e
    exact ⟨_, z.length, rfl, ⟨sz7 h.1, rfl⟩, q _ _ H h.2 (Same.refl H) .int⟩
  · exact h.elim
def oList : List KD → (KD → Prop) → Prop := fun zs P => match zs with
  | [(k, .tup ds)] => P (kL k, .lst ds)
  | [(k, .lst ds)] => P (kL k, .lst ds)
  | [(k, .kst ds)] => P (kL k, .lst ds)
  | _ => False
theorem cs_list : CallS K (fun xs H Q => ∃ p ys, xs = [.ref p] ∧ (SqL K H p ys ∨ SqT K H p ys) ∧ ∀ l, H l = none → Q (.ref l) (upd H l (.lst ys))) oList := by
  intro B F H vs xs P Q pr hF h q
  have go : ∀ (k : Kd) (d : D) (ds : List D), xs = [(k, d)] → d.seq = some ds → P (kL k, .lst ds) → ∃ p ys, vs = [.ref p] ∧ (SqL K H p ys ∨ SqT K H p ys) ∧ ∀ l, H l = none → Q (.ref l) (upd H l (.lst ys)) := fun k d ds e e2 hP => by
    subst e
    obtain ⟨v, ev, p⟩ := pr.get1
    obtain ⟨a, us, ea, t, r⟩ := p.seq e2
    subst ev ea
    exact ⟨a, us, rfl, t, fun l hl => q _ _ _ hP (same_upd hl) (pr_lst r hl (hF l hl))⟩
  unfold oList at h
  split at h
  · exact go _ _ _ rfl rfl h
  · exact go _ _ _ rfl rfl h
  · exact go _ _ _ rfl rfl h
  · exact h.elim
def oTuple : List KD → (KD → Prop) → Prop := fun zs P => match zs with
  | [(k, .tup ds)] => P (kT k, .tup ds)
  | [(k, .lst ds)] => P (kT k, .tup ds)
  | [(k, .kst ds)] => P (kT k, .tup ds)
  | _ => False
theorem cs_tuple : CallS K (fun xs H Q => ∃ p ys, xs = [.ref p] ∧ ((SqL K H p ys ∧ ∀ l, H l = none → Q (.ref l) (upd H l (.tup ys))) ∨ (SqT K H p ys ∧ Q (.ref p) H))) oTuple := by
  intro B F H vs xs P Q pr hF h q
  have go : ∀ (k : Kd) (d : D) (ds : List D), xs = [(k, d)] → d.seq = some ds → P (kT k, .tup ds) → ∃ p ys, vs = [.ref p] ∧ ((SqL K H p ys ∧ ∀ l, H l = none → Q (.ref l) (upd H l (.tup ys))) ∨ (SqT K H p ys ∧ Q (.ref p) H)) := fun k d ds e e2 hP => by
    subst e
    obtain ⟨v, ev, p⟩ := pr.get1
    obtain ⟨a, us, ea, t, r⟩ := p.seq e2
    subst ev ea
    refine ⟨a, us, rfl, ?_⟩
    rcases t with t | t
    · exact .inl ⟨t, fun l hl => q _ _ _ hP (same_upd hl) (pr_tup r hl)⟩
    · refine .inr ⟨t, q _ _ H hP (Same.refl H) ?_⟩
      unfold kT
      rcases el_cases k with e' | e'
      · rw [e']; exact .fl ⟨a, us, rfl, t, r.elno e'⟩
      · rw [e']; exact .rd ⟨a, us, rfl, t, r.elor⟩
  unfold oTuple at h
  split at h
  · exact go _ _ _ rfl rfl h
  · exact go _ _ _ rfl rfl h
  · exact go _ _ _ rfl rfl h
  · exact h.elim
def oInt : List KD → (KD → Prop) → Prop := fun zs P => match zs with
  | [(_, .int i)] => P (.fl, .int i)
  | [(_, .bl b)] => P (.fl, .int (if b = true then 1 else 0))
  | _ => False
theorem cs_int : CallS K (fun xs H Q => (∃ i, xs = [.int i] ∧ Q (.int i) H) ∨ ∃ k, xs = [.bl k] ∧ Q (.int (if k then 1 else 0)) H) oInt := by
  intro B F H vs xs P Q pr hF h q
  unfold oInt at h
  split at h
  · rename_i k i
    obtain ⟨v, ev, p⟩ := pr.get1
    have e : v = .int i := p.ra
    subst ev e
    exact .inl ⟨i, rfl, q _ _ H h (Same.refl H) .int⟩
  · rename_i k i
    obtain ⟨v, ev, p⟩ := pr.get1
    have e : v = .bl i := p.ra
    subst ev e
    exact .inr ⟨i, rfl, q _ _ H h (Same.refl H) .int⟩
  · exact h.elim
def oAbs : List KD → (KD → Prop) → Prop := fun zs P => match zs with
  | [(_, .int i)] => P (.fl, .int (if i < 0 then -i else i))
  | _ => False
theorem cs_abs : CallS K (fun xs H Q => ∃ i, xs = [.int i] ∧ Q (.int (if i < 0 then -i else i)) H) oAbs := by
  intro B F H vs xs P Q pr hF h q
  unfold oAbs at h
  split at h
  · rename_i k i
    obtain ⟨v, ev, p⟩ := pr.get1
    have e : v = .int i := p.ra
    subst ev e
    exact ⟨i, rfl, q _ _ H h (Same.refl H) .int⟩
  · exact h.elim
def oMax2 : List KD → (KD → Prop) → Prop := fun zs P => match zs with
  | [(_, .int i), (_, .int j)] => P (.fl, .int (if j > i then j else i))
  | _ => False
def oMin2 : List KD → (KD → Prop) → Prop := fun zs P => match zs with
  | [(_, .int i), (_, .int j)] => P (.fl, .int (if j < i then j else i))
  | _ => False
def oSum : List KD → (KD → Prop) → Prop := fun zs P => match zs with
  | [(_, .lst ds)] => ∃ ns : List Int, ds = ns.map .int ∧ P (.fl, .int ns.sum)
  | _ => False
theorem pr_ints {k : Kd} {ns : List Int} {v : V} (p : PR K B F H v (k, .lst (ns.map .int))) : ∃ a, v = .ref a ∧ SqL K H a (ns.map V.int) := by
  obtain ⟨a, us, ea, t, r⟩ := p.lstT
  rw [RAs.ints r.elor] at t
  exact ⟨a, ea, .of t⟩
theorem cs_sum : CallS K (rSum K) oSum := by
  intro B F H vs xs P Q pr hF h q
  unfold oSum at h
  split at h
  · rename_i k ds
    obtain ⟨ns, rfl, hP⟩ := h
    obtain ⟨v, ev, p⟩ := pr.get1
    obtain ⟨a, ea, t⟩ := pr_ints p
    subst ev ea
    exact ⟨a, ns, rfl, t, q _ _ H hP (Same.refl H) .int⟩
  · exact h.elim
def oAll : List KD → (KD → Prop) → Prop := fun zs P => match zs with
  | [(_, .lst ds)] => ∃ bs : List Bool, ds = bs.map .bl ∧ P (.fl, .bl (bs.all id))
  | _ => False
theorem RAs.bools : ∀ {ns : List Bool} {vs : List V}, RAs K A H (ns.map .bl) vs → vs = ns.map V.bl
  | [], _, h => h
  | n :: ns, _, ⟨w, ws, e, h, t⟩ => by
    subst e
    rw [show w = V.bl n from h, RAs.bools t]
    rfl
theorem pr_bools {k : Kd} {ns : List Bool} {v : V} (p : PR K B F H v (k, .lst (ns.map .bl))) : ∃ a, v = .ref a ∧ SqL K H a (ns.map V.bl) := by
  obtain ⟨a, us, ea, t, r⟩ := p.lstT
  rw [RAs.bools r.elor] at t
  exact ⟨a, ea, .of t⟩
theorem cs_all : CallS K (rAll K) oAll := by
  intro B F H vs xs P Q pr hF h q
  unfold oAll at h
  split at h
  · rename_i k ds
    obtain ⟨ns, rfl, hP⟩ := h
    obtain ⟨v, ev, p⟩ := pr.get1
    obtain ⟨a, ea, t⟩ := pr_bools p
    subst ev ea
    exact ⟨a, ns, rfl, t, q _ _ H hP (Same.refl H) .bl⟩
  · exact h.elim
end
inductive Bt where
  | int | bool | str | tup | lst | dct
def Bt.nm : Bt → String
  | .int => "int"
  | .bool => "bool"
  | .str => "str"
  | .tup => "tuple"
  | .lst => "list"
  | .dct => "dict"
def isBt : Bt → D → Option Bool
  | .int, .int _ => some true
  | .int, .bl _ => some true
  | .int, .str _ => some false
  | .int, .non => some false
  | .int, .tup _ => some false
  | .int, .lst _ => some false
  | .bool, .int _ => some false
  | .bool, .bl _ => some true
  | .bool, .str _ => some false
  | .bool, .non => some false
  | .bool, .tup _ => some false
  | .bool, .lst _ => some false
  | .str, .int _ => some false
  | .str, .bl _ => some false
  | .str, .str _ => some true
  | .str, .non => some false
  | .str, .tup _ => some false
  | .str, .lst _ => some false
  | .tup, .int _ => some false
  | .tup, .bl _ => some false
  | .tup, .str _ => some false
  | .tup, .non => some false
  | .tup, .tup _ => some true
  | .tup, .lst _ => some false
  | .lst, .int _ => some false
  | .lst, .bl _ => some false
  | .lst, .str _ => some false
  | .lst, .non => some false
  | .lst, .tup _ => some false
  | .lst, .lst _ => some true
  | .int, .kst _ => some false
  | .int, .dcL _ => some false
  | .bool, .kst _ => some false
  | .bool, .dcL _ => some false
  | .str, .kst _ => some false
  | .str, .dcL _ => some false
  | .tup, .kst _ => some false
  | .tup, .dcL _ => some false
  | .lst, .kst _ => some true
  | .lst, .dcL _ => some false
  | .dct, .kst _ => some false
  | .dct, .dcL _ => some true
  | .dct, .int _ => some false
  | .dct, .bl _ => some false
  | .dct, .str _ => some false
  | .dct, .non => some false
  | .dct, .tup _ => some false
  | .dct, .lst _ => some false
  | _, _ => none
def D.tyn : D → String
  | .non => "NoneType"
  | .bl _ => "bool"
  | .int _ => "int"
  | .str _ => "str"
  | .tup _ => "tuple"
  | .lst _ => "list"
  | .kst _ => "list"
  | .dcL _ => "dict"
  | _ => ""
theorem isBt_ok : ∀ {b : Bt} {d : D} {r : Bool}, isBt b d = some r → kitB d.tyn b.nm = some r := by
  intro b d r h
  cases b <;> cases d <;> first
    | (cases h; done)
    | (have e : r = _ := (Option.some.inj h).symm
       subst e
       show kitB _ _ = some _
       dsimp only [D.tyn, Bt.nm]
       decide +kernel)
theorem RA.tyx {K : Frg} {A : Addr → Prop} {H : Hp} {b : Bt} {d : D} {v : V} {r : Bool} (h : RA K A H d v) (e : isBt b d = some r) (nd : ∀ kvs, d ≠ .dcL kvs) : TyX K H v (.type d.tyn) := by
  cases d with
  | non => rw [show v = _ from h]; exact .base .non
  | bl b => rw [show v = _ from h]; exact .base (.bl b)
  | int b => rw [show v = _ from h]; exact .base (.int b)
  | str b => rw [show v = _ from h]; exact .base (.str b)
  | tup ds =>
    obtain ⟨p, vs, ev, t, _⟩ := h
    rw [ev]
    rcases t with (t | ⟨o, t⟩) | ⟨o, its, n, hk, hc, _⟩
    · exact .base (.tup t)
    · exact .fTuple t
    · exact .kTuple hk hc
  | lst ds =>
    obtain ⟨p, vs, ev, _, t, _⟩ := h
    rw [ev]
    exact .base (.lst t)
  | kst ds =>
    obtain ⟨p, vs, ev, t, _⟩ := h
    rw [ev]
    rcases kst_seq t with (t | ⟨o, t⟩) | ⟨o, its, n, hk, hc, _⟩
    · exact .base (.lst t)
    · exact .base (.frz t)
    · exact .kList hk hc
  | dcL kvs => exact absurd rfl (nd kvs)
  | _ => cases b <;> cases e
def rIsO : List V → Hp → VK → Prop := fun vs H Q => ∃ (a : Addr) (o : Obj) (u : HO) (n : String) (b : Bool), vs = [.ref a, .ty n] ∧ H a = some (.frz o u) ∧ o.cls = .type "dict" ∧ kitB "dict" n = some b ∧ Q (.bl b) H
theorem call_isO {X : Cx} : CallR X (.builtin "isinstance") rIsO := by
  intro pins s σ H xs us Q I r h
  obtain ⟨a, o, u, n, b, rfl, hd, hc, e, q⟩ := h
  obtain ⟨u1, u2, rfl, r1, r2⟩ : ∃ u1 u2, us = [u1, u2] ∧ L2.RelV (.ref a) u1 ∧ L2.RelV (.ty n) u2 := by
    cases r with
    | cons r1 t =>
      cases t with
      | cons r2 t2 => cases t2; exact ⟨_, _, rfl, r1, r2⟩
  cases (show u1 = Value.ref a from r1)
  have e2 : u2 = Value.type n := r2
  subst e2
  have h1 : s.heap.get? a = some o := (I.hok a _ hd).1
  exact PySem.W.kia_one PySem.W.kitx_dict I.kIn ⟨o, h1, hc⟩ (kit_ty e) (fun z => nomatch z) fun tk => ⟨.bl b, H, I.tok tk, rfl, q⟩
def rIsA (K : Frg) : List V → Hp → VK → Prop := fun vs H Q => rIsi K vs H Q ∨ rIsO vs H Q
theorem call_isA {X : Cx} : CallR X (.builtin "isinstance") (rIsA X.K) := by
  intro pins s σ H xs us Q I r h
  rcases h with h | h
  · exact call_isi pins s σ H xs us Q I r h
  · exact call_isO pins s σ H xs us Q I r h
theorem RA.isA {K : Frg} {A : Addr → Prop} {H : Hp} {b : Bt} {d : D} {v : V} {r : Bool} {Q : VK} (h : RA K A H d v) (e : isBt b d = some r) (q : Q (.bl r) H) : rIsA K [v, .ty b.nm] H Q := by
  by_cases c : ∃ kvs, d = .dcL kvs
  · obtain ⟨kvs, rfl⟩ := c
    obtain ⟨p, o, ev, ⟨u, t⟩, _, hx, _⟩ := h
    exact .inr ⟨p, o, u, b.nm, r, by rw [ev], t, hx.1, isBt_ok e, q⟩
  · refine .inl ⟨v, .ty b.nm, .type d.tyn, .type b.nm, r, rfl, ?_, h.tyx e (fun kvs z => c ⟨kvs, z⟩), kit_ty (isBt_ok e), q⟩
    constructor
def pIsI (b : Bt) (f : PF) : PF := fun ρ P => f ρ fun z => match isBt b z.2 with
  | some r => P (.fl, .bl r)
  | none => False
section
variable {X : Cx} {pos : Pos} {e : Expr} {f : PF} {E : XK}
theorem dp_isI (b : Bt) {p p2 : Pos} {x : Str} (h : DP X e f) (hg : Gl X "isinstance") (hm : X.mg "isinstance" = none) (hg2 : Gl X x) (hm2 : X.mg x = none) (hv2 : bootBuiltins x = some (.type b.nm))
    (hs : starEach [e, .Name x p2] X.env = (false, eval e X.env) :: starEach [.Name x p2] X.env := by rfl) (hs2 : starEach [.Name x p2] X.env = (false, eval (.Name x p2) X.env) :: starEach [] X.env := by rfl)
    (hpl : (backTo pos (starEach [.Name x p2] X.env)).any (·.1) = false := by rfl) (hn : x ≠ "__name__" := by decide) (hd : (x == ("__debug__" : Str)) = false := by decide) :
    DP X (.Call (.Name "isinstance" p) [e, .Name x p2] [] pos) (pIsI b f) := by
  obtain ⟨t, pe, s⟩ := h.run
  refine ⟨_, pe_callB call_isA hg hm boot_isinstance (pa_cons pe (pa_cons (pe_bltn (v := .ty b.nm) hg2 hm2 hv2 rfl hn hd) pa_nil hs2) hs) (by decide) (by decide) hs hpl, fun σ H A ρ ow Q P g hf q => ?_⟩
  refine s σ H A ρ ow _ _ g hf fun z v H1 h1 s1 p1 => ?_
  cases er : isBt b z.2 with
  | none => rw [er] at h1; exact h1.elim
  | some r =>
    rw [er] at h1
    exact p1.ra.isA er (q _ _ H1 h1 s1 .bl)
end
end DL

namespace DL
open PySem PySem.Spec PyProof.Rows L2
abbrev gNil : PAF := fun _ P => P []
abbrev gCons (f : PF) (g : PAF) : PAF := fun ρ P => f ρ fun z => g ρ fun zs => P (z :: zs)
abbrev aNil : AEF := fun ρ P _ => P [] ρ
abbrev aPl (i : Nat) (g : AEF) : AEF := fun ρ P PX => (∃ kd, ρ[i]? = some (some kd)) ∧ g ρ (fun avs ρ' => P (.pl i :: avs) ρ') PX
abbrev aE (f : EF) (g : AEF) : AEF := fun ρ P PX => f ρ (fun z ρ1 => g ρ1 (fun avs ρ2 => P (.v z :: avs) ρ2) PX) PX
abbrev tNilP : PTF := fun _ P => P true
abbrev tNilG : GsF := fun zs ρ P => zs = [] ∧ P ρ
abbrev tConsG (g : GF) (gs : GsF) : GsF := fun zs ρ P => match zs with
  | z :: r => g z ρ fun ρ1 => gs r ρ1 P
  | [] => False
abbrev qPopAt : MOF := fun k e zs P => (k = .sh ∨ k = .ow) ∧ (match e with | .lst ds => ds.length ≤ 10000000 | _ => False) ∧ mPopAt k e zs P
abbrev qPop : MOF := fun k e zs P => (k = .sh ∨ k = .ow) ∧ mPop k e zs P
theorem bt_len : bootBuiltins "len" = some (.builtin "len") := by decide +kernel
theorem bt_list : bootBuiltins "list" = some (.type "list") := by decide +kernel
theorem bt_tuple : bootBuiltins "tuple" = some (.type "tuple") := by decide +kernel
theorem bt_int : bootBuiltins "int" = some (.type "int") := by decide +kernel
theorem bt_bool : bootBuiltins "bool" = some (.type "bool") := by decide +kernel
theorem bt_dict : bootBuiltins "dict" = some (.type "dict") := by decide +kernel
theorem bt_abs : bootBuiltins "abs" = some (.builtin "abs") := by decide +kernel
theorem bt_sum : bootBuiltins "sum" = some (.builtin "sum") := by decide +kernel
theorem bt_all : bootBuiltins "all" = some (.builtin "all") := by decide +kernel
end DL

namespace DL
open PySem PySem.Spec PyProof.Rows L2
theorem ifb {p q : Prop} {b : Bool} (h1 : b = true → p) (h2 : b = false → q) : if b = true then p else q := by
  cases b
  · exact h2 rfl
  · exact h1 rfl
theorem ifd {c : Prop} [Decidable c] {p q : Prop} (h1 : c → p) (h2 : ¬c → q) : if decide c = true then p else q :=
  ifb (fun h => h1 (of_decide_eq_true h)) fun h => h2 (of_decide_eq_false h)
theorem ifdn {c : Prop} [Decidable c] {p q : Prop} (h1 : ¬c → p) (h2 : c → q) : if (!decide c) = true then p else q :=
  ifb (fun h => h1 (of_decide_eq_false (by cases e : decide c with | true => rw [e] at h; cases h | false => rfl))) fun h => h2 (of_decide_eq_true (by cases e : decide c with | false => rw [e] at h; cases h | true => rfl))
theorem forD_at {g : GF} {body : SF} {D : DEnds} (I : Nat → Ro → Prop) : ∀ (zs : List KD) (i0 : Nat) (ρ : Ro), I i0 ρ →
    (∀ (i : Nat) z ρ (N : Ro → Prop), zs[i]? = some z → I (i0 + i) ρ → (∀ ρ', I (i0 + i + 1) ρ' → N ρ') → g z ρ fun ρ1 => body { D with nx := N } ρ1) →
    (∀ ρ, I (i0 + zs.length) ρ → D.nx ρ) → forD g body D zs ρ
  | [], i0, ρ, h, _, e => e ρ h
  | z :: zs, i0, ρ, h, s, e => s 0 z ρ _ rfl h fun ρ' h' => forD_at I zs (i0 + 1) ρ' h' (fun i z ρ N hz hi hn => by
      have e1 : i0 + 1 + i = i0 + (i + 1) := by omega
      rw [e1] at hi hn
      exact s (i + 1) z ρ N hz hi hn) fun ρ hi => by
      have e1 : i0 + 1 + zs.length = i0 + (zs.length + 1) := by omega
      rw [e1] at hi
      exact e ρ hi
theorem for_ind {g : GF} {body : SF} {D : DEnds} {zs : List KD} {ρ : Ro} (I : Nat → Ro → Prop) (h0 : I 0 ρ)
    (hs : ∀ (i : Nat) z ρ (N : Ro → Prop), zs[i]? = some z → I i ρ → (∀ ρ', I (i + 1) ρ' → N ρ') → g z ρ fun ρ1 => body { D with nx := N } ρ1) (he : ∀ ρ, I zs.length ρ → D.nx ρ) : forD g body D zs ρ :=
  forD_at I zs 0 ρ h0 (fun i z ρ N hz hi hn => hs i z ρ N hz (by rw [Nat.zero_add] at hi; exact hi) (by rw [Nat.zero_add] at hn; exact hn)) fun ρ h => he ρ (by rw [Nat.zero_add] at h; exact h)
theorem range_get {lo : Int} {n i : Nat} {z : KD} (h : (rangeD lo n)[i]? = some z) : i < n ∧ z = (.fl, .int (lo + i)) := by
  refine ⟨?_, rangeD_get h⟩
  have := (List.getElem?_eq_some_iff.mp h).1
  unfold rangeD at this
  rw [List.length_map, List.length_range] at this
  exact this
theorem range_len {lo : Int} {n : Nat} : (rangeD lo n).length = n := by unfold rangeD; rw [List.length_map, List.length_range]
theorem for_range {g : GF} {body : SF} {D : DEnds} {lo : Int} {n : Nat} {ρ : Ro} (I : Nat → Ro → Prop) (h0 : I 0 ρ)
    (hs : ∀ (i : Nat) ρ (N : Ro → Prop), i < n → I i ρ → (∀ ρ', I (i + 1) ρ' → N ρ') → g (.fl, .int (lo + i)) ρ fun ρ1 => body { D with nx := N } ρ1) (he : ∀ ρ, I n ρ → D.nx ρ) : forD g body D (rangeD lo n) ρ :=
  for_ind I h0 (fun i z ρ N hz hi hn => by obtain ⟨a, rfl⟩ := range_get hz; exact hs i ρ N a hi hn) fun ρ h => he ρ (by rw [range_len] at h; exact h)
theorem for_range0 {g : GF} {body : SF} {D : DEnds} {n : Nat} {ρ : Ro} (I : Nat → Ro → Prop) (h0 : I 0 ρ)
    (hs : ∀ (i : Nat) ρ (N : Ro → Prop), i < n → I i ρ → (∀ ρ', I (i + 1) ρ' → N ρ') → g (.fl, .int i) ρ fun ρ1 => body { D with nx := N } ρ1) (he : ∀ ρ, I n ρ → D.nx ρ) : forD g body D (rangeD 0 n) ρ :=
  for_range I h0 (fun i ρ N hi h hn => by rw [Int.zero_add]; exact hs i ρ N hi h hn) he
theorem compL_at {step : KD → (Option KD → Prop) → Prop} {P : List KD → Prop} (I : Nat → List KD → Prop) : ∀ (zs : List KD) (i0 : Nat) (acc : List KD), I i0 acc →
    (∀ (i : Nat) z acc (N : Option KD → Prop), zs[i]? = some z → I (i0 + i) acc → (∀ y, I (i0 + i + 1) (acc ++ [y]) → N (some y)) → (I (i0 + i + 1) acc → N none) → step z N) →
    (∀ acc, I (i0 + zs.length) acc → P acc) → compL step zs acc P
  | [], i0, acc, h, _, e => e acc h
  | z :: zs, i0, acc, h, s, e => by
    have rec_ : ∀ acc', I (i0 + 0 + 1) acc' → compL step zs acc' P := fun acc' h' => compL_at I zs (i0 + 1) acc' h' (fun i z acc N hz hi hn h0 => by
      have e1 : i0 + 1 + i = i0 + (i + 1) := by omega
      rw [e1] at hi hn h0
      exact s (i + 1) z acc N hz hi hn h0) fun acc hi => by
      have e1 : i0 + 1 + zs.length = i0 + (zs.length + 1) := by omega
      rw [e1] at hi
      exact e acc hi
    exact s 0 z acc _ rfl h (fun y hy => rec_ _ hy) fun hy => rec_ _ hy
theorem comp_ind {step : KD → (Option KD → Prop) → Prop} {P : List KD → Prop} {zs : List KD} (I : Nat → List KD → Prop) (h0 : I 0 [])
    (hs : ∀ (i : Nat) z acc (N : Option KD → Prop), zs[i]? = some z → I i acc → (∀ y, I (i + 1) (acc ++ [y]) → N (some y)) → (I (i + 1) acc → N none) → step z N) (he : ∀ acc, I zs.length acc → P acc) : compL step zs [] P :=
  compL_at I zs 0 [] h0 (fun i z acc N hz hi hn h => hs i z acc N hz (by rw [Nat.zero_add] at hi; exact hi) (by rw [Nat.zero_add] at hn; exact hn) (by rw [Nat.zero_add] at h; exact h)) fun ρ h => he ρ (by rw [Nat.zero_add] at h; exact h)
theorem take_succ_map {α β : Type} {zs : List α} {f : α → β} {i : Nat} {z : α} (h : zs[i]? = some z) : (zs.take (i + 1)).map f = (zs.take i).map f ++ [f z] := by
  rw [List.take_add_one, h, List.map_append]; rfl
theorem comp_map {step : KD → (Option KD → Prop) → Prop} {P : List KD → Prop} {zs : List KD} (f : KD → KD) (hs : ∀ (i : Nat) z (N : Option KD → Prop), zs[i]? = some z → N (some (f z)) → step z N) (he : P (zs.map f)) : compL step zs [] P := by
  refine comp_ind (fun i acc => acc = (zs.take i).map f) rfl (fun i z acc N hz hi hn _ => ?_) fun acc h => ?_
  · refine hs i z N hz (hn _ ?_)
    rw [hi, take_succ_map hz]
  · rw [h, List.take_length]; exact he
theorem comp_range {step : KD → (Option KD → Prop) → Prop} {P : List KD → Prop} {lo : Int} {n : Nat} (f : Nat → KD) (hs : ∀ (i : Nat) (N : Option KD → Prop), i < n → N (some (f i)) → step (.fl, .int (lo + i)) N) (he : P ((List.range n).map f)) : compL step (rangeD lo n) [] P := by
  refine comp_ind (fun i acc => acc = (List.range i).map f) rfl (fun i z acc N hz hi hn _ => ?_) fun acc h => ?_
  · obtain ⟨a, rfl⟩ := range_get hz
    refine hs i N a (hn _ ?_)
    rw [hi, List.range_succ, List.map_append]; rfl
  · rw [h, range_len]; exact he
theorem comp_range0 {step : KD → (Option KD → Prop) → Prop} {P : List KD → Prop} {n : Nat} (f : Nat → KD) (hs : ∀ (i : Nat) (N : Option KD → Prop), i < n → N (some (f i)) → step (.fl, .int i) N) (he : P ((List.range n).map f)) : compL step (rangeD 0 n) [] P :=
  comp_range f (fun i N hi h => by rw [Int.zero_add]; exact hs i N hi h) he
theorem compE_at {step : KD → Ro → (Option KD → Ro → Prop) → Prop} {P : List KD → Ro → Prop} (I : Nat → Ro → List KD → Prop) : ∀ (zs : List KD) (i0 : Nat) (ρ : Ro) (acc : List KD), I i0 ρ acc →
    (∀ (i : Nat) z ρ acc (N : Option KD → Ro → Prop), zs[i]? = some z → I (i0 + i) ρ acc → (∀ y ρ', I (i0 + i + 1) ρ' (acc ++ [y]) → N (some y) ρ') → (∀ ρ', I (i0 + i + 1) ρ' acc → N none ρ') → step z ρ N) →
    (∀ ρ acc, I (i0 + zs.length) ρ acc → P acc ρ) → compE step zs ρ acc P
  | [], i0, ρ, acc, h, _, e => e ρ acc h
  | z :: zs, i0, ρ, acc, h, s, e => by
    have rec_ : ∀ ρ' acc', I (i0 + 0 + 1) ρ' acc' → compE step zs ρ' acc' P := fun ρ' acc' h' => compE_at I zs (i0 + 1) ρ' acc' h' (fun i z ρ acc N hz hi hn h0 => by
      have e1 : i0 + 1 + i = i0 + (i + 1) := by omega
      rw [e1] at hi hn h0
      exact s (i + 1) z ρ acc N hz hi hn h0) fun ρ acc hi => by
      have e1 : i0 + 1 + zs.length = i0 + (zs.length + 1) := by omega
      rw [e1] at hi
      exact e ρ acc hi
    exact s 0 z ρ acc _ rfl h (fun y ρ' hy => rec_ ρ' _ hy) fun ρ' hy => rec_ ρ' _ hy
theorem compE_ind {step : KD → Ro → (Option KD → Ro → Prop) → Prop} {P : List KD → Ro → Prop} {zs : List KD} {ρ : Ro} (I : Nat → Ro → List KD → Prop) (h0 : I 0 ρ [])
    (hs : ∀ (i : Nat) z ρ acc (N : Option KD → Ro → Prop), zs[i]? = some z → I i ρ acc → (∀ y ρ', I (i + 1) ρ' (acc ++ [y]) → N (some y) ρ') → (∀ ρ', I (i + 1) ρ' acc → N none ρ') → step z ρ N) (he : ∀ ρ acc, I zs.length ρ acc → P acc ρ) : compE step zs ρ [] P :=
  compE_at I zs 0 ρ [] h0 (fun i z ρ acc N hz hi hn h => hs i z ρ acc N hz (by rw [Nat.zero_add] at hi; exact hi) (by rw [Nat.zero_add] at hn; exact hn) (by rw [Nat.zero_add] at h; exact h)) fun ρ acc h => he ρ acc (by rw [Nat.zero_add] at h; exact h)
theorem ix_tup {k k' : Kd} {ds : List D} {i : Int} {d : D} {P : KD → Prop} (h : atI ds i = some d) (p : P (kel k d)) : oIx (k, .tup ds) (k', .int i) P := by
  show (match atI ds i with | some d => P (kel k d) | none => False)
  rw [h]; exact p
theorem ix_lst {k k' : Kd} {ds : List D} {i : Int} {d : D} {P : KD → Prop} (h : atI ds i = some d) (p : P (kel k d)) : oIx (k, .lst ds) (k', .int i) P := by
  show (match atI ds i with | some d => P (kel k d) | none => False)
  rw [h]; exact p
theorem ix_kst {k k' : Kd} {ds : List D} {i : Int} {d : D} {P : KD → Prop} (h : atI ds i = some d) (p : P (kel k d)) : oIx (k, .kst ds) (k', .int i) P := by
  show (match atI ds i with | some d => P (kel k d) | none => False)
  rw [h]; exact p
abbrev tabl {α : Type} (n : Nat) (f : Nat → α) : List α := (List.range n).map f
theorem tabl_get {α : Type} {n : Nat} {f : Nat → α} {i : Nat} (h : i < n) : (tabl n f)[i]? = some (f i) := by
  rw [List.getElem?_map, List.getElem?_range h]; rfl
theorem tabl_at {α : Type} {n : Nat} {f : Nat → α} {i : Nat} (h : i < n) : L2.atI (tabl n f) (i : Int) = some (f i) := atI_nat (tabl_get h)
theorem tabl_len {α : Type} {n : Nat} {f : Nat → α} : (tabl n f).length = n := by rw [List.length_map, List.length_range]
theorem ixN_ok {n : Nat} {i : Nat} (h : i < n) : ixN n (i : Int) = some i := by
  unfold ixN
  rw [if_pos (by omega), if_pos (by omega)]; simp
def sumR (n : Nat) (f : Nat → Int) : Int := (tabl n f).sum
theorem sumR_succ (n : Nat) (f : Nat → Int) : sumR (n + 1) f = sumR n f + f n := by
  unfold sumR tabl
  rw [List.range_succ, List.map_append, List.sum_append]
  simp
theorem sumR_congr {n : Nat} {f g : Nat → Int} (h : ∀ i, i < n → f i = g i) : sumR n f = sumR n g := by
  induction n with
  | zero => rfl
  | succ n ih => rw [sumR_succ, sumR_succ, ih fun i hi => h i (Nat.lt_succ_of_lt hi), h n (Nat.lt_succ_self n)]
theorem law_in {K : PySem.W.Frag} {c : CF} {H : Hp} {a : Addr} {ns : List Int} (hO : Only H) (hS : SqL K H a (ns.map V.int)) (h : c [(.fl, .kst (ns.map .int))] (fun z _ => z = (.fl, .bl true)) (fun _ _ => False)) :
    spOf K 1 [false] c [.ref a] H (fun v _ => v = .bl true) fun _ _ _ => False := by
  refine ⟨rfl, [(.fl, .kst (ns.map .int))], No, [], _, _, ?_, List.nodup_nil, fun a h => (nomatch h), fun _ h => h.elim, h, fun z ys v H' fp M' A' hz _ r => ?_, fun C ys H' M' A' hx _ => hx⟩
  · refine VRs.one ⟨rfl, a, ns.map V.int, rfl, ?_, RAs.of_ints ns⟩
    rcases hS with hS | hS
    · rcases hS with hS | ⟨o, hS⟩
      · rcases hO a with z | ⟨o, xs, z⟩
        · rw [z] at hS; cases hS
        · rw [z] at hS; cases hS
      · exact .inl (.inr ⟨o, lockd_mk hS⟩)
    · exact .inr hS
  · subst hz
    exact r.2
end DL

namespace DL
open PySem PySem.Spec PyProof.Rows L2
theorem hidE {α : Type _} (a : α) : ∃ b, b = a := ⟨a, rfl⟩
@[irreducible] noncomputable def hid {α : Type _} (a : α) : α := Classical.choose (hidE a)
theorem hid_eq {α : Type _} (a : α) : hid a = a := by unfold hid; exact Classical.choose_spec (hidE a)
noncomputable section
@[irreducible] def xIx : KD → KD → (KD → Prop) → Prop := hid oIx
@[irreducible] def kR1 (j : Int) (P : List KD → Prop) : Prop := hid (-1000000000000 ≤ j ∧ j ≤ 1000000000000 ∧ P (rangeD 0 j.toNat))
@[irreducible] def kR2 (i j : Int) (P : List KD → Prop) : Prop := hid ((-1000000000000 ≤ i ∧ i ≤ 1000000000000 ∧ -1000000000000 ≤ j ∧ j ≤ 1000000000000) ∧ P (rangeD i (j - i).toNat))
@[irreducible] def kLc (step : KD → (Option KD → Prop) → Prop) (zs : List KD) (P : KD → Prop) : Prop := hid (zs.length ≤ 10000000 ∧ compL step zs [] fun ys => P (jL ys, .lst (ys.map (·.2))))
@[irreducible] def kLcE (step : KD → Ro → (Option KD → Ro → Prop) → Prop) (zs : List KD) (ρ : Ro) (P : KD → Ro → Prop) : Prop := hid (zs.length ≤ 10000000 ∧ compE step zs ρ [] fun ys ρ' => P (jL ys, .lst (ys.map (·.2))) ρ')
@[irreducible] def kFor (g : GF) (body : SF) (D : DEnds) (zs : List KD) (ρ : Ro) : Prop := hid (forD g body D zs ρ)
@[irreducible] def sWhileX (t : TEF) (body : SF) : SF := hid (sWhile t body)
@[irreducible] def kPl (e j : D) (P : D → (D → D) → Prop) : Prop := hid (match e, j with
  | .lst ds, .int j => (match ixN ds.length j with
    | some n => (match ds[n]? with | some c => P c (fun c' => .lst (ds.set n c')) | none => False)
    | none => False)
  | .tup ds, .int j => (match ixN ds.length j with
    | some n => (match ds[n]? with | some c => P c (fun c' => .tup (ds.set n c')) | none => False)
    | none => False)
  | _, _ => False)
@[irreducible] def kSt : D → KD → KD → Kd → (Kd → D → Prop) → Prop := hid stIx
@[irreducible] def xPopAt : MOF := hid qPopAt
@[irreducible] def xPop : MOF := hid qPop
@[irreducible] def xExtend : MOF := hid mExtend
@[irreducible] def xRemove : MOF := hid mRemove
@[irreducible] def kLR (n : Int) (P : KD → Prop) : Prop := hid (n ≤ 1000000 ∧ -1000000 ≤ n ∧ P (.sh, .lst ((List.range n.toNat).map fun i : Nat => .int i)))
@[irreducible] def kTR (n : Int) (P : KD → Prop) : Prop := hid (n ≤ 1000000 ∧ -1000000 ≤ n ∧ P (.fl, .tup ((List.range n.toNat).map fun i : Nat => .int i)))
theorem xIx_eq : xIx = oIx := by unfold xIx; simp only [hid_eq]; try rfl
def jR1 (f : PAF) : IF := fun ρ P => f ρ fun zs => match zs with
  | [(_, .int j)] => kR1 j P
  | _ => False
theorem jR1_eq : jR1 = iR1 := by unfold jR1 kR1; simp only [hid_eq]; try rfl
def jR2 (f : PAF) : IF := fun ρ P => f ρ fun zs => match zs with
  | [(_, .int i), (_, .int j)] => kR2 i j P
  | _ => False
def pLcX (src : IF) (is : List Nat) (g : GF) (tt : PTF) (fe : PF) : PF := fun ρ P => src ρ fun zs =>
  kLc (fun z Q => g z (wipeR (rdAll ρ) is) fun ρ1 => tt ρ1 fun b => if b = true then fe ρ1 fun y => Q (some y) else Q none) zs P
theorem pLcX_eq : pLcX = pLc := by unfold pLcX kLc; simp only [hid_eq]; try rfl
def eLcX (src : IF) (is : List Nat) (g : GF) (tt : PTF) (fe : EF) : EF := fun ρ P _ => src (rdOnly ρ) fun zs => kLcE (stepE is g tt fe) zs (wipeR ρ is) P
theorem eLcX_eq : eLcX = eLc := by unfold eLcX kLcE; simp only [hid_eq]; try rfl
def sForX (src : IF) (g : GF) (body : SF) : SF := fun D ρ => src (rdOnly ρ) fun zs => kFor g body D zs ρ
theorem sForX_eq : sForX = sFor := by unfold sForX kFor; simp only [hid_eq]; try rfl
def plIxX (pl : PLF) (f : PF) : PLF := fun ρ P => pl ρ fun i k e rb => f ρ fun y => kPl e y.2 fun c r => P i .ow c fun c' => rb (r c')
theorem plIxX_eq : plIxX = plIx := by
  unfold plIxX kPl plIx
  funext pl f ρ P
  simp only [hid_eq]
  all_goals (
    refine congrArg _ (funext fun i => funext fun k => funext fun e => funext fun rb => congrArg _ (funext fun y => ?_))
    obtain ⟨ky, dy⟩ := y
    cases e <;> cases dy <;> rfl)
def sStIxX (fe : EF) (pl : PLF) (fi : PF) : SF := fun D ρ => fe ρ (fun z ρ1 => pl ρ1 fun i k e rb => fi ρ1 fun y => kSt e y z k fun k' e' => D.nx (ρ1.set i (some (k', rb e')))) D.ex
theorem sStIxX_eq : sStIxX = sStIx := by unfold sStIxX kSt; simp only [hid_eq]; try rfl
def eIxSX (i : Nat) (f : EF) : EF := fun ρ P PX => (∃ kd, ρ[i]? = some (some kd)) ∧ f ρ (fun y ρ1 => match ρ1[i]? with
  | some (some (k, d)) => xIx (k.rdk, d) y fun z => (match z.1 with | .fl => P z ρ1 | _ => False)
  | _ => False) PX
theorem eIxSX_eq : eIxSX = eIxS := by unfold eIxSX xIx; simp only [hid_eq]; try rfl
def pLR1X (f : PF) : PF := fun ρ P => f ρ fun z => match z.2 with
  | .int n => kLR n P
  | _ => False
theorem xPopAt_eq : xPopAt = qPopAt := by unfold xPopAt; simp only [hid_eq]; try rfl
section
variable {K : Frg}
theorem xs_popAt : MSound K rPopAt xPopAt := xPopAt_eq ▸ ms_popAt
end
theorem DP.as {X : Cx} {e : Expr} {f g : PF} (e2 : g = f) (h : DP X e f) : DP X e g := e2 ▸ h
theorem DE.as {X : Cx} {E : XK} {e : Expr} {f g : EF} (e2 : g = f) (h : DE X E e f) : DE X E e g := e2 ▸ h
theorem DS.as {X : Cx} {E : XK} {pr : List Nat} {e : Stmt} {f g : SF} (e2 : g = f) (h : DS X E pr e f) : DS X E pr e g := e2 ▸ h
theorem DI.as {X : Cx} {tg e : Expr} {f g : IF} (e2 : g = f) (h : DI X tg e f) : DI X tg e g := e2 ▸ h
theorem DPl.as {X : Cx} {e : Expr} {f g : PLF} (e2 : g = f) (h : DPl X e f) : DPl X e g := e2 ▸ h
theorem eqIx (a b : PF) : pOp xIx a b = pOp oIx a b := by rw [xIx_eq]
theorem eqSetLc (i : Nat) (src : IF) (is : List Nat) (g : GF) (tt : PTF) (fe : PF) : sSet i (eP (pLcX src is g tt fe)) = sSet i (eP (pLc src is g tt fe)) := by rw [pLcX_eq]
theorem eqSetLcE (i : Nat) (src : IF) (is : List Nat) (g : GF) (tt : PTF) (fe : EF) : sSet i (eLcX src is g tt fe) = sSet i (eLc src is g tt fe) := by rw [eLcX_eq]
theorem eq1 {α β : Type _} {f g : α → β} (h : f = g) (a : α) : f a = g a := by rw [h]
theorem eq2 {α β γ : Type _} {f g : α → β → γ} (h : f = g) (a : α) (b : β) : f a b = g a b := by rw [h]
theorem eq3 {α β γ δ : Type _} {f g : α → β → γ → δ} (h : f = g) (a : α) (b : β) (c : γ) : f a b c = g a b c := by rw [h]
theorem eq5 {α β γ δ ε ζ : Type _} {f g : α → β → γ → δ → ε → ζ} (h : f = g) (a : α) (b : β) (c : γ) (d : δ) (e : ε) : f a b c d e = g a b c d e := by rw [h]
theorem go_ix {k k' : Kd} {d0 : D} {ds : List D} {i : Int} {d : D} {P : KD → Prop} (hs : d0.seq = some ds) (h : atI ds i = some d) (p : P (kel k d)) : xIx (k, d0) (k', .int i) P := by
  rw [xIx_eq]
  cases d0 <;> cases hs
  · exact ix_tup h p
  · exact ix_lst h p
  · exact ix_kst h p
theorem go_tab {k k' : Kd} {n i : Nat} {f : Nat → D} {P : KD → Prop} (h : i < n) (p : P (kel k (f i))) : xIx (k, .tup (tabl n f)) (k', .int i) P := go_ix rfl (tabl_at h) p
theorem go_tabl {k k' : Kd} {n i : Nat} {f : Nat → D} {P : KD → Prop} (h : i < n) (p : P (kel k (f i))) : xIx (k, .lst (tabl n f)) (k', .int i) P := go_ix rfl (tabl_at h) p
theorem go_R1 {j : Int} {n : Nat} {P : List KD → Prop} (hj : j = n) (hn : n ≤ 1000000000) (p : P (rangeD 0 n)) : kR1 j P := by
  unfold kR1; rw [hid_eq]
  subst hj
  refine ⟨by omega, by omega, ?_⟩
  rw [Int.toNat_natCast]; exact p
theorem jT_fl : ∀ {zs : List KD}, (∀ z ∈ zs, z.1 = .fl) → jT zs = .fl
  | [], _ => rfl
  | z :: zs, h => by
    show jn z.1 (jT zs) = .fl
    rw [h z (List.mem_cons_self ..), jT_fl fun y hy => h y (List.mem_cons_of_mem _ hy)]; rfl
theorem jL_fl {zs : List KD} (h : ∀ z ∈ zs, z.1 = .fl) : jL zs = .sh := by unfold jL; rw [jT_fl h]
theorem jL_flm {α : Type} {zs : List α} {f : α → D} : jL (zs.map fun z => ((.fl, f z) : KD)) = .sh := jL_fl fun z hz => by
  obtain ⟨a, _, rfl⟩ := List.mem_map.mp hz; rfl
theorem snd_flm {α : Type} {k : Kd} {zs : List α} {f : α → D} : (zs.map fun z => ((k, f z) : KD)).map (·.2) = zs.map f := by rw [List.map_map]; rfl
theorem go_Lc0 {step : KD → (Option KD → Prop) → Prop} {n : Nat} {P : KD → Prop} (f : Nat → D) (hn : n ≤ 10000000) (hs : ∀ (i : Nat) (N : Option KD → Prop), i < n → N (some (.fl, f i)) → step (.fl, .int i) N) (h : P (.sh, .lst (tabl n f))) : kLc step (rangeD 0 n) P := by
  unfold kLc; rw [hid_eq]
  refine ⟨by rw [range_len]; exact hn, comp_range0 (fun i => (.fl, f i)) hs ?_⟩
  rw [jL_flm, snd_flm]; exact h
theorem go_Lc {step : KD → (Option KD → Prop) → Prop} {zs : List KD} {P : KD → Prop} (f : KD → D) (hn : zs.length ≤ 10000000) (hs : ∀ (i : Nat) z (N : Option KD → Prop), zs[i]? = some z → N (some (.fl, f z)) → step z N) (h : P (.sh, .lst (zs.map f))) : kLc step zs P := by
  unfold kLc; rw [hid_eq]
  refine ⟨hn, comp_map (fun z => (.fl, f z)) hs ?_⟩
  rw [jL_flm, snd_flm]; exact h
theorem go_LcT {step : KD → (Option KD → Prop) → Prop} {n : Nat} {k : Kd} {g : Nat → D} {P : KD → Prop} (f : Nat → D) (hn : n ≤ 10000000) (hs : ∀ (i : Nat) (N : Option KD → Prop), i < n → N (some (.fl, f i)) → step (kel k (g i)) N) (h : P (.sh, .lst (tabl n f))) : kLc step ((tabl n g).map (kel k)) P := by
  unfold kLc; rw [hid_eq]
  rw [List.map_map]
  refine ⟨by rw [List.length_map, List.length_range]; exact hn, comp_ind (fun i acc => acc = (List.range i).map fun j => (.fl, f j)) rfl (fun i z acc N hz hi hN _ => ?_) fun acc h2 => ?_⟩
  · have hi' : i < n := by
      have := (List.getElem?_eq_some_iff.mp hz).1
      rw [List.length_map, List.length_range] at this; exact this
    rw [List.getElem?_map, List.getElem?_range hi'] at hz
    have e : kel k (g i) = z := Option.some.inj hz
    subst e
    refine hs i N hi' (hN _ ?_)
    rw [hi, List.range_succ, List.map_append]; rfl
  · rw [List.length_map, List.length_range] at h2
    rw [h2, jL_flm, snd_flm]; exact h
theorem go_For {g : GF} {body : SF} {D : DEnds} {zs : List KD} {ρ : Ro} (I : Nat → Ro → Prop) (h0 : I 0 ρ)
    (hs : ∀ (i : Nat) z ρ (N : Ro → Prop), zs[i]? = some z → I i ρ → (∀ ρ', I (i + 1) ρ' → N ρ') → g z ρ fun ρ1 => body { D with nx := N } ρ1) (he : ∀ ρ, I zs.length ρ → D.nx ρ) : kFor g body D zs ρ := by
  unfold kFor; rw [hid_eq]; exact for_ind I h0 hs he
theorem go_For0 {g : GF} {body : SF} {D : DEnds} {n : Nat} {ρ : Ro} (I : Nat → Ro → Prop) (h0 : I 0 ρ)
    (hs : ∀ (i : Nat) ρ (N : Ro → Prop), i < n → I i ρ → (∀ ρ', I (i + 1) ρ' → N ρ') → g (.fl, .int i) ρ fun ρ1 => body { D with nx := N } ρ1) (he : ∀ ρ, I n ρ → D.nx ρ) : kFor g body D (rangeD 0 n) ρ := by
  unfold kFor; rw [hid_eq]; exact for_range0 I h0 hs he
theorem go_LcE {step : KD → Ro → (Option KD → Ro → Prop) → Prop} {zs : List KD} {ρ : Ro} {P : KD → Ro → Prop} (I : Nat → Ro → List KD → Prop) (hn : zs.length ≤ 10000000) (h0 : I 0 ρ [])
    (hs : ∀ (i : Nat) z ρ acc (N : Option KD → Ro → Prop), zs[i]? = some z → I i ρ acc → (∀ y ρ', I (i + 1) ρ' (acc ++ [y]) → N (some y) ρ') → (∀ ρ', I (i + 1) ρ' acc → N none ρ') → step z ρ N) (he : ∀ ρ acc, I zs.length ρ acc → P (jL acc, .lst (acc.map (·.2))) ρ) : kLcE step zs ρ P := by
  unfold kLcE; rw [hid_eq]; exact ⟨hn, compE_ind I h0 hs fun ρ acc h => he ρ acc h⟩
theorem tabl_succ {α : Type} {n : Nat} {f : Nat → α} : tabl (n + 1) f = tabl n f ++ [f n] := by
  unfold tabl; rw [List.range_succ, List.map_append]; rfl
theorem tabl_congr {α : Type} {n : Nat} {f g : Nat → α} (h : ∀ i, i < n → f i = g i) : tabl n f = tabl n g := List.map_congr_left fun i hi => h i (List.mem_range.mp hi)
theorem go_LcEA {α : Type} [Inhabited α] (F : α → D) {step : KD → Ro → (Option KD → Ro → Prop) → Prop} {n : Nat} {ρ : Ro} {P : KD → Ro → Prop} (I : Nat → Ro → Prop) (C : Nat → α → Prop) (hn : n ≤ 10000000) (h0 : I 0 ρ)
    (hs : ∀ (i : Nat) ρ (N : Option KD → Ro → Prop), i < n → I i ρ → (∀ c ρ', C i c → I (i + 1) ρ' → N (some (.fl, F c)) ρ') → step (.fl, .int i) ρ N)
    (he : ∀ (g : Nat → α) ρ, (∀ i, i < n → C i (g i)) → I n ρ → P (.sh, .lst (tabl n fun i => F (g i))) ρ) : kLcE step (rangeD 0 n) ρ P := by
  refine go_LcE (fun i ρ acc => I i ρ ∧ ∃ g : Nat → α, (∀ j, j < i → C j (g j)) ∧ acc = (List.range i).map fun j => (.fl, F (g j))) (by rw [range_len]; exact hn) ⟨h0, fun _ => default, fun j h => absurd h (Nat.not_lt_zero _), rfl⟩ (fun i z ρ acc N hz hi hN _ => ?_) fun ρ acc h => ?_
  · obtain ⟨hi', rfl⟩ := range_get hz
    rw [Int.zero_add]
    obtain ⟨hI, g, hg, rfl⟩ := hi
    refine hs i ρ N hi' hI fun c ρ' h1 h2 => hN _ ρ' ⟨h2, fun j => if j = i then c else g j, fun j hj => ?_, ?_⟩
    · show C j (if j = i then c else g j)
      by_cases e : j = i
      · rw [if_pos e, e]; exact h1
      · rw [if_neg e]; exact hg j (by omega)
    · rw [List.range_succ, List.map_append]
      refine congr (congrArg _ (List.map_congr_left fun j hj => ?_)) ?_
      · have := List.mem_range.mp hj
        show ((Kd.fl, F (g j)) : KD) = (.fl, F (if j = i then c else g j))
        rw [if_neg (by omega)]
      · show [((Kd.fl, F c) : KD)] = [(.fl, F (if i = i then c else g i))]
        rw [if_pos rfl]
  · obtain ⟨hI, g, hg, rfl⟩ := h
    rw [range_len] at hI hg ⊢
    rw [jL_flm, snd_flm]
    exact he g ρ hg hI
theorem tabl_snoc {α : Type} {n : Nat} {f : Nat → α} {x : α} : tabl n f ++ [x] = tabl (n + 1) fun i => if i = n then x else f i := by
  rw [tabl_succ, if_pos rfl, tabl_congr (f := f) (g := fun i => if i = n then x else f i) fun i hi => by rw [if_neg (by omega)]]
theorem go_pl {d0 : D} {i : Int} {j : Nat} {ds : List D} {c : D} {P : D → (D → D) → Prop} (hd : d0 = .lst ds) (hj : ixN ds.length i = some j) (hc : ds[j]? = some c) (p : P c fun c' => .lst (ds.set j c')) : kPl d0 (.int i) P := by
  subst hd
  unfold kPl; rw [hid_eq]
  show (match ixN ds.length i with
    | some n => (match ds[n]? with | some c => P c (fun c' => .lst (ds.set n c')) | none => False)
    | none => False)
  rw [hj]
  show (match ds[j]? with | some c => P c (fun c' => .lst (ds.set j c')) | none => False)
  rw [hc]; exact p
theorem go_st {ds : List D} {k' : Kd} {i : Int} {j : Nat} {z : KD} {k : Kd} {P : Kd → D → Prop} (hz : ownK z.1 = true) (hj : ixN ds.length i = some j) (p : P (nk k z.1) (.lst (ds.set j z.2))) : kSt (.lst ds) (k', .int i) z k P := by
  unfold kSt; rw [hid_eq]
  refine ⟨hz, ?_⟩
  show (match ixN ds.length i with
    | some n => P (nk k z.1) (.lst (ds.set n z.2))
    | none => False)
  rw [hj]; exact p
theorem set_tabl {α : Type} {n j : Nat} {f : Nat → α} {x : α} : (tabl n f).set j x = tabl n fun i => if i = j then x else f i := by
  refine List.ext_getElem? fun i => ?_
  by_cases hi : i < n
  · rw [tabl_get hi]
    by_cases e : i = j
    · subst e
      rw [List.getElem?_set_self (by rw [tabl_len]; exact hi), if_pos rfl]
    · rw [List.getElem?_set_ne (fun h => e h.symm), tabl_get hi, if_neg e]
  · rw [List.getElem?_eq_none (by rw [List.length_set, tabl_len]; omega), List.getElem?_eq_none (by rw [tabl_len]; omega)]
theorem go_stT {n : Nat} {f : Nat → D} {k' : Kd} {j : Nat} {z : KD} {k : Kd} {P : Kd → D → Prop} (hz : ownK z.1 = true) (hj : j < n) (p : P (nk k z.1) (.lst (tabl n fun i => if i = j then z.2 else f i))) : kSt (.lst (tabl n f)) (k', .int j) z k P :=
  go_st hz (by rw [tabl_len]; exact ixN_ok hj) (by rw [set_tabl]; exact p)
theorem go_popAt {k k' : Kd} {ds : List D} {i : Int} {j : Nat} {d : D} {P : KD → Kd → D → Prop} (hk : k = .sh ∨ k = .ow) (hn : ds.length ≤ 10000000) (hj : ixN ds.length i = some j) (hd : ds[j]? = some d) (p : P (kmv (if k = .sh then .fl else .ow) d) (nk k .fl) (.lst (ds.eraseIdx j))) : xPopAt k (.lst ds) [(k', .int i)] P := by
  unfold xPopAt; rw [hid_eq]
  refine ⟨hk, hn, ?_⟩
  show (match ixN ds.length i with
    | some n => (match ds[n]? with
      | some d => P (kmv (if k = .sh then .fl else .ow) d) (nk k .fl) (.lst (ds.eraseIdx n))
      | none => False)
    | none => False)
  rw [hj]
  show (match ds[j]? with
      | some d => P (kmv (if k = .sh then .fl else .ow) d) (nk k .fl) (.lst (ds.eraseIdx j))
      | none => False)
  rw [hd]; exact p
end
end DL

namespace DL
open PySem PySem.Spec PyProof.Rows L2
noncomputable section
section
variable {X : Cx} {E : XK} {pos : Pos} {a b : Expr} {fa fb : EF}
theorem de_ix (ha : DE X E a fa) (hb : DE X E b fb) (hs : PlainIx b := by exact fun _ _ => rfl) : DE X E (.Subscript a b pos) (eOp xIx fa fb) := by
  rw [xIx_eq]
  obtain ⟨ta, ea, sa⟩ := ha.run
  obtain ⟨tb, eb, sb⟩ := hb.run
  exact ⟨_, pe_ix ix_seq ea eb hs, es_op os_ix sa sb⟩
end
theorem go_ixC {k k' : Kd} {d0 : D} {ds : List D} {i : Int} {P : KD → Prop} (C : D → Prop) (hs : d0.seq = some ds) (h : ∃ d, atI ds i = some d ∧ C d) (p : ∀ d, C d → P (kel k d)) : xIx (k, d0) (k', .int i) P := by
  obtain ⟨d, e, c⟩ := h
  exact go_ix hs e (p d c)
end
end DL

namespace DL
open PySem PySem.Spec PyProof.Rows L2
open AutoSeq1 (wpAny_loadPart')
section
variable {prog : Program} {w : World} {A : Around} {E : Value → Shared → Prop} {s : Shared}
end
section
variable {K : Frg} {B : Addr → Prop} {H H' : Hp} {Z : Addr → Prop}
theorem OkZ.refl : OkZ Z H H := fun _ _ h _ => h
theorem seq_src {k : Kd} {d : D} {ds : List D} {v : V} (hz : ∀ a, Z a → ¬ B a ∧ ∃ o, H a = some o ∧ Mu o) (s : Same H H') (p : PR K B (Fre2 H H') H' v (k, d)) (e : d.seq = some ds) :
    ∃ q vs, v = .ref q ∧ RAs K (k.elA B (Fre2 H H')) H' ds vs ∧ ((∀ H2, OkZ Z H' H2 → SqL K H2 q vs) ∨ (∀ H2, OkZ Z H' H2 → SqT K H2 q vs)) := by
  cases d with
  | lst es =>
    cases e
    obtain ⟨q, vs, ev, t, a, r⟩ := p.lp
    exact ⟨q, vs, ev, r, .inl fun H2 ok => .of (ok q _ t (zFre fre2 hz s q _ t (.inl a)))⟩
  | tup es =>
    cases e
    obtain ⟨q, vs, ev, t, r⟩ := p.tupT
    exact ⟨q, vs, ev, r, .inr fun H2 ok => SqT.keep (ok.keep (fre2 (H := H')) hz s) t⟩
  | kst es =>
    cases e
    obtain ⟨q, vs, ev, t, r⟩ := p.kstT
    exact ⟨q, vs, ev, r, .inl fun H2 ok => kst_seq (kst_keep (ok.keep (fre2 (H := H')) hz s) t)⟩
  | _ => cases e
def pairK (k k' : Kd) : Kd := match k.el, k'.el with
  | .fl, .fl => .fl
  | _, _ => .rd
theorem pair_VR {k k' : Kd} {F : Addr → Prop} {T : Addr} {x y : V} {d d' : D} {H2 : Hp} (h1 : RA K (k.elA B F) H2 d x) (h2 : RA K (k'.elA B F) H2 d' y) (hT : H2 T = none) :
    Same H2 (upd H2 T (.tup [x, y])) ∧ VR K (Or2 B F) (upd H2 T (.tup [x, y])) (pairK k k', .tup [d, d']) (.ref T) [] := by
  have sm : Same H2 (upd H2 T (.tup [x, y])) := same_upd hT
  refine ⟨sm, ?_⟩
  have t : SqT K (upd H2 T (.tup [x, y])) T [x, y] := .inl (.inl upd_same)
  rcases el_cases k with e | e <;> rcases el_cases k' with e' | e'
  · have a1 : RA K No H2 d x := by cases k <;> first | exact h1 | cases e
    have a2 : RA K No H2 d' y := by cases k' <;> first | exact h2 | cases e'
    rw [show pairK k k' = .fl by unfold pairK; rw [e, e']]
    exact ⟨rfl, T, [x, y], rfl, t, .cons (a1.same sm) (.one (a2.same sm))⟩
  all_goals (
    have a1 : RA K (Or2 B F) H2 d x := by cases k <;> first | exact h1 | exact h1.no
    have a2 : RA K (Or2 B F) H2 d' y := by cases k' <;> first | exact h2 | exact h2.no
    rw [show pairK k k' = .rd by unfold pairK; rw [e, e']]
    exact ⟨rfl, T, [x, y], rfl, t, .cons (a1.same sm) (.one (a2.same sm))⟩)
def enumD (k : Kd) (ds : List D) : List KD := ds.mapIdx fun i d => (k.el, .tup [.int i, d])
theorem walks_pair {J : It} {n : Nat} {G : Hp → Prop} {xs ys : Nat → Option V} {zs : List KD} {k k' : Kd} {F : Addr → Prop} (hw : Walk J n G (YPair xs ys)) (hn : zs.length = n) (hg : ∀ H2, OkZ Z H' H2 → G H2)
    (hi : ∀ i z, zs[i]? = some z → ∃ d d', z = (pairK k k', .tup [d, d']) ∧ ∀ x y, xs i = some x → ys i = some y → ∀ H2, OkZ Z H' H2 → RA K (k.elA B F) H2 d x ∧ RA K (k'.elA B F) H2 d' y) : Walks K J (OkZ Z H') (Or2 B F) zs := by
  subst hn
  refine ⟨_, _, hw, hg, fun i H2 x H3 z hzz ok y => ?_⟩
  obtain ⟨d, d', rfl, f⟩ := hi i z hzz
  obtain ⟨T, x, y, rfl, hT, rfl, ex, ey⟩ := y
  obtain ⟨a1, a2⟩ := f x y ex ey H2 ok
  exact pair_VR a1 a2 hT
end
def iEn (f : PAF) : IF := fun ρ P => f ρ fun zs => match zs with
  | [(k, d)] => (match d.seq with
    | some ds => P (enumD k ds)
    | none => False)
  | _ => False
section
variable {X : Cx}
end
end DL

namespace DL
open PySem PySem.Spec PyProof.Rows L2
noncomputable section
def sPar (i j : Nat) (g : AEF) : SF := fun D ρ => g ρ (fun avs ρ1 => match avs with
  | [.v a, .v b] => D.nx ((ρ1.set i (some a)).set j (some b))
  | _ => False) D.ex
def sSwap (f : PF) (pl1 : PLF) (f1 : PF) (pl2 : PLF) (f2 : PF) : SF := fun D ρ => f ρ fun z => match z with
  | (.fl, .tup [a, b]) => pl1 ρ fun i k e rb => f1 ρ fun y => kSt e y (.fl, a) k fun k' e' =>
      pl2 (ρ.set i (some (k', rb e'))) fun i2 k2 e2 rb2 => f2 (ρ.set i (some (k', rb e'))) fun y2 => kSt e2 y2 (.fl, b) k2 fun k2' e2' => D.nx ((ρ.set i (some (k', rb e'))).set i2 (some (k2', rb2 e2')))
  | _ => False
section
variable {X : Cx} {E : XK} {pr : List Nat} {pos : Pos}
end
def kO : Nat → Kd
  | 0 => .sh
  | _ + 1 => .ow
theorem kO_cases (n : Nat) : kO n = .sh ∨ kO n = .ow := by cases n <;> first | exact .inl rfl | exact .inr rfl
theorem kO_ow {n : Nat} (h : 1 ≤ n) : kO n = .ow := by
  cases n with
  | zero => omega
  | succ n => rfl
theorem jT_ow : ∀ {zs : List KD}, (∀ z ∈ zs, z.1 = .sh ∨ z.1 = .ow) → zs ≠ [] → jT zs = .ow
  | [], _, h => absurd rfl h
  | [z], h, _ => by
    show jn z.1 .fl = .ow
    rcases h z (List.mem_singleton.mpr rfl) with e | e <;> rw [e] <;> rfl
  | z :: y :: zs, h, _ => by
    show jn z.1 (jT (y :: zs)) = .ow
    rw [jT_ow (zs := y :: zs) (fun w hw => h w (List.mem_cons_of_mem _ hw)) (by simp)]
    rcases h z (List.mem_cons_self ..) with e | e <;> rw [e] <;> rfl
theorem jL_sh {n : Nat} {f : Nat → D} : jL ((List.range n).map fun i => ((.sh, f i) : KD)) = kO n := by
  cases n with
  | zero => rfl
  | succ n =>
    unfold jL
    rw [jT_ow (fun z hz => by obtain ⟨a, _, rfl⟩ := List.mem_map.mp hz; exact .inl rfl) (by rw [List.range_succ]; simp)]
    rfl
theorem go_LcS0 {step : KD → (Option KD → Prop) → Prop} {n : Nat} {P : KD → Prop} (f : Nat → D) (hn : n ≤ 10000000) (hs : ∀ (i : Nat) (N : Option KD → Prop), i < n → N (some (.sh, f i)) → step (.fl, .int i) N) (h : P (kO n, .lst (tabl n f))) : kLc step (rangeD 0 n) P := by
  unfold kLc; rw [hid_eq]
  refine ⟨by rw [range_len]; exact hn, comp_range0 (fun i => (.sh, f i)) hs ?_⟩
  rw [jL_sh, snd_flm]; exact h
theorem go_LcST {step : KD → (Option KD → Prop) → Prop} {n : Nat} {k : Kd} {g : Nat → D} {P : KD → Prop} (f : Nat → D) (hn : n ≤ 10000000) (hs : ∀ (i : Nat) (N : Option KD → Prop), i < n → N (some (.sh, f i)) → step (kel k (g i)) N) (h : P (kO n, .lst (tabl n f))) : kLc step ((tabl n g).map (kel k)) P := by
  unfold kLc; rw [hid_eq]
  rw [List.map_map]
  refine ⟨by rw [List.length_map, List.length_range]; exact hn, comp_ind (fun i acc => acc = (List.range i).map fun j => (.sh, f j)) rfl (fun i z acc N hz hi hN _ => ?_) fun acc h2 => ?_⟩
  · have hi' : i < n := by
      have := (List.getElem?_eq_some_iff.mp hz).1
      rw [List.length_map, List.length_range] at this; exact this
    rw [List.getElem?_map, List.getElem?_range hi'] at hz
    have e : kel k (g i) = z := Option.some.inj hz
    subst e
    refine hs i N hi' (hN _ ?_)
    rw [hi, List.range_succ, List.map_append]; rfl
  · rw [List.length_map, List.length_range] at h2
    rw [h2, jL_sh, snd_flm]; exact h
def oTupleF : List KD → (KD → Prop) → Prop := fun zs P => match zs with
  | [(_, d)] => (match d.seq with
    | some ds => ds.all D.flat1 = true ∧ P (.fl, .tup ds)
    | none => False)
  | _ => False
def oListF : List KD → (KD → Prop) → Prop := fun zs P => match zs with
  | [(_, d)] => (match d.seq with
    | some ds => ds.all D.flat1 = true ∧ P (.sh, .lst ds)
    | none => False)
  | _ => False
section
variable {K : Frg}
end
theorem flat_ints {n : Nat} {f : Nat → Int} : (tabl n fun i => D.int (f i)).all D.flat1 = true :=
  List.all_eq_true.mpr fun d hd => by
    obtain ⟨i, _, rfl⟩ := List.mem_map.mp hd; rfl
theorem go_tablI {k k' : Kd} {n i : Nat} {x : Int} {f : Nat → D} {P : KD → Prop} (e : x = (i : Int)) (h : i < n) (p : P (kel k (f i))) : xIx (k, .lst (tabl n f)) (k', .int x) P := by
  subst e; exact go_tabl h p
end
end DL

namespace DL
open PySem PySem.Spec PyProof.Rows L2
noncomputable section
@[irreducible] def kNext (f : SF) (D : DEnds) (ρ : Ro) : Prop := hid (f D ρ)
def sBar (f : SF) : SF := fun D ρ => kNext f D ρ
theorem sBar_eq (f : SF) : sBar f = f := by
  unfold sBar kNext
  simp only [hid_eq]
theorem ds_bar {X : Cx} {E : XK} {pr : List Nat} {st : List Stmt} {f : SF} (h : DSs X E pr st f) : DSs X E pr st (sBar f) := (sBar_eq f).symm ▸ h
theorem go_next {f : SF} {D : DEnds} {ρ : Ro} (h : f D ρ) : kNext f D ρ := by
  unfold kNext; rw [hid_eq]; exact h
end
end DL

namespace DL
open PySem PySem.Spec PyProof.Rows L2
noncomputable section
section
variable {X : Cx} {E : XK} {pr : List Nat} {pos : Pos}
def tForJ (g : TG) (tb : TS) (T : Ends) (J : It) (σ : L2.St) (H1 : Hp) : Prop :=
  ∃ W : Nat → Nat → L2.St → Hp → Prop, (∃ m, W 0 m σ H1) ∧ ∀ (i m : Nat) (σ : L2.St) (H : Hp), W i m σ H → J.stop i H ∧ T.nx σ H ∨ J.go i H ∧ ∃ N : L2.St → Hp → Prop, (∀ (σ' : L2.St) (H' : Hp), N σ' H' → ∃ m', m' < m ∧ W (i + 1) m' σ' H') ∧
    ∀ (x : V) (H' : Hp), J.yld i H x H' → g x σ H' fun σ2 H2 => tb { nx := N, rt := T.rt, bk := T.nx, ct := N } σ2 H2
theorem kFor_eq (g : GF) (f : SF) (D : DEnds) (zs : List KD) (ρ : Ro) : kFor g f D zs ρ = forD g f D zs ρ := by unfold kFor; rw [hid_eq]
theorem for_core {K : Frg} {tgT : TG} {is : List Nat} {g : GF} {tb : TS} {f : SF} {A B : Addr → Prop} {H0 H1 : Hp} {σ : L2.St} {ρ : Ro} {ow ow0 : List Addr} {T : Ends} {D : DEnds} {zs : List KD} {J : It} {A0 : Addr → Prop}
    (sg : GSound K is tgT g) (sb : SSound K E pr tb f) (hpr : (is.all fun i => !pr.contains i) = true) (gd : Good K A H1 ρ σ ow) (st0 : Stp H0 ow0 A0 H1 ow A)
    (wk : Walks K J (OkZ (fun a => a ∈ ow) H1) B zs) (hB : ∀ a, B a → A a) (hz : forD g f D zs ρ)
    (nx : ∀ ρ' σ' H' ow' A', D.nx ρ' → Stp H0 ow0 A0 H' ow' A' → Good K A' H' ρ' σ' ow' → (∀ i ∈ pr, σ'[i]? = σ[i]?) → T.nx σ' H')
    (rt : ∀ z ρ' v σ' H' fp ow' A', D.rt z ρ' → Stp H0 ow0 A0 H' (fp ++ ow') A' → Good K A' H' ρ' σ' ow' → Own K A' H' z v fp ow' → (∀ i ∈ pr, σ'[i]? = σ[i]?) → T.rt v H')
    (ex : ∀ C ρ' σ' H' ow' A', D.ex C ρ' → Stp H0 ow0 A0 H' ow' A' → Good K A' H' ρ' σ' ow' → (∀ i ∈ pr, σ'[i]? = σ[i]?) → E (.ref (He.ga K C)) none H') :
    tForJ tgT tb T J σ H1 := by
  obtain ⟨G, Y, walk, hG, hY⟩ := wk
  refine for_it walk (fun i σ' H' => ∃ ρ' ow' A', Good K A' H' ρ' σ' ow' ∧ Stp H1 ow A H' ow' A' ∧ forD g f D (zs.drop i) ρ' ∧ ∀ j ∈ pr, σ'[j]? = σ[j]?) ⟨ρ, ow, _, gd, Stp.refl, hz, fun _ _ => rfl⟩ ?_ ?_ ?_
  · rintro i σ' H' _ ⟨ρ', ow', A', _, st, _⟩
    exact hG H' fun a o e n => st.same a o e n
  · rintro i x σ' H' H2 hi ⟨ρ', ow', A', g', st, hf, hpr'⟩ y
    have hzi : zs[i]? = some zs[i] := List.getElem?_eq_getElem hi
    obtain ⟨s2, vz⟩ := hY i H' x H2 zs[i] hzi (fun a o e n => st.same a o e n) y
    rw [List.drop_eq_getElem_cons hi] at hf
    have hstep : g zs[i] ρ' fun ρ1 => f { D with nx := fun ρ' => forD g f D (zs.drop (i + 1)) ρ' } ρ1 := hf
    have vA : VR K A' H2 zs[i] x [] := vz.mono fun a h => st.up a (hB a h)
    refine sg x zs[i] [] σ' H2 A' ρ' ow' _ _ (g'.same s2) ⟨vA, by simpa using g'.nd, fun a h => (nomatch h)⟩ hstep fun ρ1 σ1 ow1 h1 g1' sub1 w1 => ?_
    have st1 : Stp H1 ow A H2 ow1 A' := (st.trans (Stp.of_same s2)).sub fun a h => by
      rcases sub1 a h with h | h
      · exact h
      · cases h
    have pr1 : ∀ j ∈ pr, σ1[j]? = σ[j]? := fun j hj => by
      have hl : σ1.length = σ'.length := by rw [← wipe_length σ1 is, w1, wipe_length]
      have e : (wipe σ1 is)[j]? = (wipe σ' is)[j]? := by rw [w1]
      have nj : j ∉ is := fun z => by
        have := List.all_eq_true.mp hpr j z
        simp [hj] at this
      rw [wipe_get, wipe_get, if_neg (fun z => nj z.1), if_neg (fun z => nj z.1)] at e
      exact e.trans (hpr' j hj)
    refine sb σ1 H2 A' ρ1 ow1 _ _ g1' h1 (fun ρ3 σ3 H3 ow3 A3 h3 st3 g3 p3 => ⟨ρ3, ow3, A3, g3, st1.trans st3, h3, fun j hj => (p3 j hj).trans (pr1 j hj)⟩) (fun z ρ3 v σ3 H3 fp ow3 A3 h3 st3 g3 o3 p3 => ?_) (fun C ρ3 σ3 H3 ow3 A3 h3 st3 g3 p3 => ?_)
    · exact rt z ρ3 v σ3 H3 fp ow3 A3 h3 (st0.trans (st1.trans st3)) g3 o3 fun j hj => (p3 j hj).trans (pr1 j hj)
    · exact ex C ρ3 σ3 H3 ow3 A3 h3 (st0.trans (st1.trans st3)) g3 fun j hj => (p3 j hj).trans (pr1 j hj)
  · rintro σ' H' ⟨ρ', ow', A', g', st, hf, hpr'⟩
    rw [List.drop_eq_nil_of_le (Nat.le_refl _)] at hf
    exact nx ρ' σ' H' ow' A' hf (st0.trans st) g' hpr'
end
end
end DL

namespace DL
open PySem PySem.Spec PyProof PyProof.Rows L2
structure RoomG (k : Nat) (A : Around) : Prop where
  room : Room k A
  free : A.guards = some []
theorem RoomG.mono {j k : Nat} {A : Around} (h : RoomG k A) (l : j ≤ k) : RoomG j A := ⟨h.room.mono l, h.free⟩
theorem RoomG.units {k : Nat} {A : Around} (h : RoomG k A) : A.units + 64 < cLine := h.room.units
theorem RoomG.deeper {k : Nat} {A : Around} (h : RoomG (k + 1) A) (env : Env) : RoomG k (A.deeper env) := ⟨h.room.deeper env, h.free⟩
structure GOk (P : Program) (w : World) (K : PySem.W.Frag) (mg : Str → Option Value) (base : Heap) (CX : CXT) (k : Nat) (f : Addr) (ps : List Str) (sp : Sp) : Prop where
  len : ∀ (vs : List V) (H : Hp) (Q : VK) (E : XK), sp vs H Q E → vs.length = ps.length
  run : ∀ (A : Around) (outer : List Env) (s : Shared) (H : Hp) (us : List Value) (vs : List V) (Q : VK) (E : XK), RoomG k A → Env0 P w K mg base A outer s H → Vals vs us → sp vs H Q E →
    codeAny (model P w) A (.call (.ref f) { pos := us }) (CR CX outer P w H s Q E) s
theorem GOk.mono {P : Program} {w : World} {K : PySem.W.Frag} {mg : Str → Option Value} {base : Heap} {CX : CXT} {j k : Nat} {f : Addr} {ps : List Str} {sp : Sp} (h : GOk P w K mg base CX j f ps sp) (l : j ≤ k) : GOk P w K mg base CX k f ps sp :=
  ⟨h.len, fun A outer s H us vs Q E hr => h.run A outer s H us vs Q E (hr.mono l)⟩
abbrev BndG (x qual : Str) (params : Arguments) (body : List Stmt) (scope : Scope) (ps : List Str) : Prop := ∀ (kV doc pm : Value) (an : Option Addr) (cdv ct : Value) (us : List Value), us.length = ps.length →
  bindArgs (PySem.W.fnOf x qual params body scope .none kV doc pm an cdv ct) ⟨us, []⟩ = pure (ps.zip us)
theorem gok_of {P : Program} {w : World} {K : PySem.W.Frag} {mg : Str → Option Value} {base : Heap} {x qual : Str} {params : Arguments} {body : List Stmt} {scope : Scope} {f : Addr} {fd : FuncData} {CX : CXT} {N ps : List Str} {k : Nat} {sp : Sp}
    (F : FunD K x qual params body scope [] [] f fd) (B : BndG x qual params body scope ps) (S : FnScope N ps scope) (hl : ∀ (vs : List V) (H : Hp) (Q : VK) (E : XK), sp vs H Q E → vs.length = ps.length)
    (hb : ∀ (cdv : Value) (A : Around) (outer : List Env) (s : Shared) (H : Hp) (vs : List V) (Q : VK) (E : XK), RoomG k (A.deeper (envOfC qual scope s.heap.objs.size f cdv)) → sp vs H Q E →
      ∃ t, PSs (cxOf CX P w K mg base N qual scope f cdv A outer s H E) body t ∧ t { nx := fun _ H' => Q V.non H', rt := Q } (L2.start N vs) H) :
    GOk P w K mg base CX (k + 1) f ps sp := by
  refine ⟨hl, fun A outer s H us vs Q E hr E0 hv h => ?_⟩
  obtain ⟨oc, od, dV, kV, doc, pm, an, cdv, ct, osl, efd, hlk, hcd, hdv, _⟩ := F.ex
  have edv : dV = .none := by
    rcases hdv with ⟨_, e⟩ | ⟨e, _⟩
    · exact e
    · exact absurd rfl e
  subst edv efd
  have keep : ∀ b o, base.get? b = some o → s.heap.get? b = some o := fun b o e => (E0.bs b o e).1
  have kin : K.In s.heap := E0.mod.kin.keeps keep
  have lenV : us.length = ps.length := by rw [← hl vs H Q E h, hv.length]
  obtain ⟨t, pt, st⟩ := hb cdv A outer s H vs Q E (hr.deeper _) h
  refine codeAny_call_cells (o := ⟨oc, od, _, osl⟩) (fd := PySem.W.fnOf x qual params body scope .none kV doc pm an cdv ct) (body := body) (binds := ps.zip us) hr.room.depth (kin f _ hlk) rfl (E0.mod.nolimit.keeps keep) (PySem.W.codeRec_of kin hcd) rfl
    (B kV doc pm an cdv ct us lenV) rfl (fun y hy => ?_) (fun s1 hin => ?_) S.co S.gen S.kind
  · have hp := List.of_mem_zip (a := y.1) (b := y.2) hy
    rcases S.par y.1 hp.1 with e | e
    · exact .inl e
    · exact .inr ⟨e, PySem.W.cellsFrom_some _ _ _ (.inl e)⟩
  · have I : L2.Inv (cxOf CX P w K mg base N qual scope f cdv A outer s H E) [] (L2.start N vs) H s1 := inv_start S hr.room.hd E0 (hl vs H Q E h) hv hin
    refine wpAny_mono (pt.run [] s1 _ H _ I st) (fun fl s' hq => ?_) fun e s' hq => hq
    match fl, hq with
    | .next, ⟨σ', H', I', q⟩ => exact ⟨.non, H', I'.os, I'.bare, I'.base, I'.hok, rfl, q⟩
    | .brk, ⟨σ', H', I', q⟩ => exact q.elim
    | .cont, ⟨σ', H', I', q⟩ => exact q.elim
    | .ret u, ⟨v, σ', H', I', r, q⟩ => exact ⟨v, H', I'.os, I'.bare, I'.base, I'.hok, r, q⟩
theorem run_gok {X : Cx} {CX : CXT} {k : Nat} {f : Addr} {ps : List Str} {sp : Sp} {E : XK} {pins : List (Addr × Obj)} {σ : L2.St} {H : Hp} {s : Shared} {Q : VK} {us : List Value} {vs : List V}
    (F : GOk X.prog X.w X.K X.mg X.base CX k f ps sp) (hr : RoomG k X.A) (hx : Passes CX X E) (I : L2.Inv X pins σ H s) (r : Vals vs us) (h : sp vs H Q E) : wpAny (model X.prog X.w) X.A (call (.ref f) us) (EP X pins σ Q) X.xe s := by
  refine wpAny_call (codeAny_mono (F.run X.A X.stack s H us vs Q E hr I.env0 r h) fun rs s' hq => ?_)
  match rs, hq with
  | .error e, hq => exact hx pins σ H s e s' I hq
  | .ok .next, hq => exact hq.elim
  | .ok .brk, hq => exact hq.elim
  | .ok .cont, hq => exact hq.elim
  | .ok (.ret u), hq => exact I.after hq
theorem pe_gok {X : Cx} {CX : CXT} {k : Nat} {f : Addr} {ps : List Str} {sp : Sp} {E : XK} {x : Str} {p pos : Pos} {e : Expr} {es : List Expr} {t : TA}
    (F : GOk X.prog X.w X.K X.mg X.base CX k f ps sp) (hr : RoomG k X.A) (hg : Gl X x) (hm : X.mg x = some (.ref f)) (hk : PySem.W.keepIn X.K (.ref f) = true) (hx : Passes CX X E) (ha : PA X (e :: es) t)
    (hdb : (x == ("__debug__" : Str)) = false) (he : starEach (e :: es) X.env = (false, eval e X.env) :: starEach es X.env) (hpl : (backTo pos (starEach es X.env)).any (·.1) = false) :
    PE X (.Call (.Name x p) (e :: es) [] pos) (tCall sp [] E t) :=
  ⟨fun pins s σ H Q I h => wpAny_Call_Name_kw (ld_glob I hg hm (PySem.W.callWith_K I.ok.mod.kin hk (thn (ha.run pos pins s σ H (fun vs H1 => sp (vs ++ []) H1 Q E) I h) fun us s1 ⟨vs, H1, I1, r, q⟩ =>
    ⟨I1.kIn, run_gok F hr hx I1 r (by have q : sp (vs ++ []) H1 Q E := q; rw [List.append_nil] at q; exact q)⟩) he hpl) hdb)⟩
theorem cf_okG {P : Program} {w : World} {K : Frg} {mg : Str → Option Value} {base : Heap} {x qual : Str} {params : Arguments} {body : List Stmt} {scope : Scope} {f : Addr} {fd : FuncData} {N ps : List Str} {k n : Nat} {ms : List Bool} {sem : SF} (F : FunD K x qual params body scope [] [] f fd) (B : BndG x qual params body scope ps) (S : FnScope N ps scope) (hm : ms.length = ps.length) (hn : N.length - ps.length = n)
    (hb : ∀ (cdv : Value) (A : Around) (outer : List Env) (s : Shared) (H : Hp) (E : XK), RoomG k (A.deeper (envOfC qual scope s.heap.objs.size f cdv)) → DSs (cxOf CX0 P w K mg base N qual scope f cdv A outer s H E).nox E (prOf ms) body sem) :
    GOk P w K mg base CX0 (k + 1) f ps (spOf K ps.length ms (cfOf n ms sem)) := by
  refine gok_of F B S (fun vs H Q E h => h.1) (fun cdv A outer s H vs Q E hr h => ?_)
  obtain ⟨t, pt, st⟩ := (hb cdv A outer s H E hr).run
  have hl : vs.length = ps.length := h.1
  have st' : SSound K E (prOf ms) t sem := st
  rw [← hl] at h
  exact ⟨t, pt.nox, body_ok st' (by rw [hl]; exact hn) (by rw [hl]; exact hm) h⟩
section
variable {X : Cx} {CX : CXT} {k n m : Nat} {f C : Addr} {ps : List Str} {c : CF} {ms : List Bool} {E : XK} {x : Str} {p pos : Pos} {e : Expr} {es : List Expr}
theorem dp_callG {g : PAF} (F : GOk X.prog X.w X.K X.mg X.base CX k f ps (spOf X.K n ms c)) (hr : RoomG k X.A) (hg : Gl X x) (hm : X.mg x = some (.ref f)) (hk : PySem.W.keepIn X.K (.ref f) = true) (hx : Passes CX X E) (ha : DA X (e :: es) n g)
    (hdb : (x == ("__debug__" : Str)) = false := by decide) (he : starEach (e :: es) X.env = (false, eval e X.env) :: starEach es X.env := by rfl) (hpl : (backTo pos (starEach es X.env)).any (·.1) = false := by rfl) :
    DP X (.Call (.Name x p) (e :: es) [] pos) (pFn c g) := by
  obtain ⟨t, ea, sa⟩ := ha.run
  refine ⟨_, pe_gok F hr hg hm hk hx ea hdb he hpl, fun σ H A ρ ow Q P gd h q => ?_⟩
  refine sa σ H A ρ ow _ _ gd h fun zs vs H1 hn hz s1 p1 => ?_
  rw [List.append_nil]
  exact fn_core gd s1 p1 (by obtain ⟨_, r, _⟩ := p1; rw [r.len, hn]) hz q
theorem de_callG {g : AEF} (F : GOk X.prog X.w X.K X.mg X.base CX k f ps (spOf X.K n ms c)) (hr : RoomG k X.A) (hg : Gl X x) (hm : X.mg x = some (.ref f)) (hk : PySem.W.keepIn X.K (.ref f) = true) (hx : Passes CX X E) (ha : DAE X E (e :: es) n g)
    (hdb : (x == ("__debug__" : Str)) = false := by decide) (he : starEach (e :: es) X.env = (false, eval e X.env) :: starEach es X.env := by rfl) (hpl : (backTo pos (starEach es X.env)).any (·.1) = false := by rfl) :
    DE X E (.Call (.Name x p) (e :: es) [] pos) (eFn ms c g) := by
  obtain ⟨t, ea, sa⟩ := ha.run
  refine ⟨_, pe_gok F hr hg hm hk hx ea hdb he hpl, fun σ H A ρ ow Q P PX gd h q qx => ?_⟩
  refine sa σ H A ρ ow _ _ _ gd h (fun avs ρ1 vs H1 fp ow1 A1 hn hz st1 g1 r nd dis => ?_) qx
  split at hz
  · rename_i zs ρ2 e
    rw [List.append_nil]
    exact efn_core e st1 g1 r nd dis (by rw [r.len, hn]) hz q qx
  · exact hz.elim
end
theorem law_callG {P : Program} {w : World} {K : Frg} {mg mb : Str → Option Value} {CX : CXT} {k : Nat} {fa a : Addr} {x : Str} {sp : Sp} {s1 : Shared} {vs : List Value} {ns : List Int} (KX : K.In s1.heap) (hns : s1.heap.Ns mainGlobals mg) (hb : s1.heap.Ns builtinsNs mb)
    (hbb : ∀ (x : Str), x ≠ ("__name__" : Str) → mb x = bootBuiltins x) (hlim : s1.heap.NoLimit) (hg : s1.gens = #[]) (ha : s1.heap.get? a = some { cls := .type "list", data := .seq vs.toArray }) (hi : IntsAre vs ns) (hl : ns.length ≤ sizeLine) (hr : Room k callerA)
    (F : ∀ base : Heap, K.In base → base.Ns mainGlobals mg → GOk P w K mg base CX k fa [x] sp)
    (hsp : ∀ H : Hp, Only H → SqL K H a (ns.map V.int) → sp [.ref a] H (fun v _ => v = .bl true) fun _ _ _ => False) (hCX : ∀ (H : Hp) (e : Value) (s' : Shared), CX [] H s1 (fun _ _ _ => False) e s' → False) :
    codeAny (model P w) callerA (.call (.ref fa) { pos := [.ref a] }) (fun r s' => r = .ok (.ret (.bool true)) ∧ OldK s1.heap s'.heap ∧ s'.os = s1.os ∧ AllBare s'.gens) s1 := by
  have core : ∀ H : Hp, Only H → SqL K H a (ns.map V.int) → HOk P w H s1.heap → (∀ b, H b ≠ none → b = a) → (H a ≠ none → K.lookup a = none) →
      codeAny (model P w) callerA (.call (.ref fa) { pos := [.ref a] }) (fun r s' => r = .ok (.ret (.bool true)) ∧ OldK s1.heap s'.heap ∧ s'.os = s1.os ∧ AllBare s'.gens) s1 := fun H hO hS hok hA hK => by
    have isN : ∀ b, b ≠ a → H b = none := fun b h => by
      cases e : H b with
      | none => rfl
      | some u => exact absurd (hA b (by rw [e]; simp)) h
    have dictN : ∀ b o es ep, s1.heap.get? b = some o → o.data = .dict es ep → H b = none := fun b o es ep e d => isN b fun eb => by
      subst eb; rw [ha] at e; cases e; cases d
    have nsK : ∀ {b : Addr} {m : Str → Option Value}, s1.heap.Ns b m → (hidT s1.heap H).Ns b m := fun ⟨o, es, ep, e, d, r⟩ => ⟨o, es, ep, hidT_get e (dictN _ o es ep e d), d, r⟩
    have kb : K.In (hidT s1.heap H) := fun b o e => hidT_get (KX b o e) (by
      by_cases eb : b = a
      · subst eb
        cases e2 : H b with
        | none => rfl
        | some u => have := hK (by rw [e2]; simp); rw [this] at e; cases e
      · exact isN b eb)
    have hM : L2.Mod K mg (hidT s1.heap H) := ⟨kb, nsK hns, ⟨mb, nsK hb, hbb⟩, let ⟨mc, h1, h2⟩ := hlim; ⟨mc, nsK h1, h2⟩⟩
    have e0 : Env0 P w K mg (hidT s1.heap H) callerA [] s1 H := ⟨rfl, hM, fun b o e => of_hidT e, Nat.le_of_eq (hidT_size s1.heap H), trivial, fun b h => (nomatch h), hok, AllBare.of_eq hg⟩
    refine codeAny_mono ((F (hidT s1.heap H) kb (nsK hns)).run callerA [] s1 H [.ref a] [.ref a] _ _ ⟨hr, rfl⟩ e0 (Paired.cons rfl Paired.nil) (hsp H hO hS)) fun r s' h => ?_
    match r, h with
    | .error e, h => exact (hCX H e s' h).elim
    | .ok .next, h => exact h.elim
    | .ok .brk, h => exact h.elim
    | .ok .cont, h => exact h.elim
    | .ok (.ret u), ⟨v, H', os, bare, un, hok', r', q⟩ =>
      subst q
      have eu : u = .bool true := r'
      subst eu
      refine ⟨rfl, OldK.of_keep fun b o e => ?_, os, bare⟩
      by_cases eb : H b = none
      · exact un.keep b o e eb (fun z => nomatch z) (fun z => nomatch z)
      · rcases hO b with z | ⟨ob, xs, z⟩
        · exact absurd z eb
        · have o1 := hok b _ z
          have o2 := hok' b _ (un.frzs b ob _ z)
          have e1 : s1.heap.get? b = some ob := o1.1
          have e2 : s'.heap.get? b = some ob := o2.1
          rw [e1] at e; cases e
          exact e2
  have rv := vals_ints hi
  cases hk : K.lookup a with
  | none =>
    refine core (fun b => if b = a then some (.frz { cls := .type "list", data := .seq vs.toArray } (.lst (ns.map V.int))) else none) (fun b => ?_) (.inl (.inr ⟨_, if_pos rfl⟩)) (fun b u (z : (if b = a then some (.frz { cls := .type "list", data := .seq vs.toArray } (.lst (ns.map V.int))) else none) = some u) => ?_) (fun b z => ?_) fun _ => hk
    · by_cases eb : b = a
      · exact .inr ⟨_, _, if_pos eb⟩
      · exact .inl (if_neg eb)
    · by_cases eb : b = a
      · rw [if_pos eb] at z; cases z
        subst eb
        exact ⟨ha, by rw [List.length_map]; exact hl, vs, 0, rv, ha⟩
      · rw [if_neg eb] at z; cases z
    · by_cases eb : b = a
      · exact eb
      · exact absurd (if_neg eb) z
  | some o =>
    have e := KX a o hk
    rw [ha] at e; cases e
    exact core (fun _ => none) (fun _ => .inl rfl) (.inr ⟨_, vs.toArray, 0, hk, rfl, rfl, rfl, by rw [List.size_toArray, hi.length]; exact hl, rv⟩) (fun b u z => nomatch z) (fun b z => absurd rfl z) fun z => absurd rfl z
theorem walk_ofG {l : PySem.W.OpenLaw} {n k : Nat} {q : Program} {loose : List Str} {XP : (Str → Option Value) → Heap → Prop} {YP : World → Heap → Prop} {d : DefRec} {CX : World → CXT} {x : Str} (hn : l.most = some n) (hn2 : n ≤ sizeLine) (hdf : d.params.defaults = []) (hr : Room k callerA)
    (F : ∀ (w : World) (mg : Str → Option Value) (fa : Addr) (h : Heap), YP w h → h.Ns mainGlobals mg → mg d.name = some (.ref fa) →
      ∃ (K : Frg) (sp : Sp), K.In h ∧ (∀ (H : Hp) (a : Addr) (ns : List Int), ns.length ≤ n → Only H → SqL K H a (ns.map V.int) → sp [.ref a] H (fun v _ => v = .bl true) fun _ _ _ => False) ∧ ∀ base : Heap, K.In base → base.Ns mainGlobals mg → GOk l.prog w K mg base (CX w) k fa [x] sp)
    (hCX : ∀ (w : World) (H : Hp) (s : Shared) (e : Value) (s' : Shared), CX w [] H s (fun _ _ _ => False) e s' → False) :
    PySem.W.WalkO q loose XP YP l.row.toRowW d [] fun f vs => call f vs :=
  Att.attach_call hn hdf fun w s0 s1 mg mb fa o pm cd doc a vs ns G Y ho hd hcd hmg hobj hints hlen hg => by
    obtain ⟨K, sp, KX, hsp, hF⟩ := F w mg fa s1.heap Y G.T.g hmg
    exact law_callG KX G.T.g G.T.b G.T.builtins G.T.nolimit hg hobj hints (Nat.le_trans hlen hn2) hr hF (fun H hO hS => hsp H a ns hlen hO hS) fun H e s' => hCX w H s1 e s'
end DL

namespace DL
open PySem PySem.Spec PyProof PyProof.Rows L2
mutual
def D.wR : D → Bool
  | .non => true
  | .bl _ => true
  | .int i => decide (i.natAbs < 10 ^ 70)
  | .str x => decide (x = "cut") || decide (x = "lay")
  | .tup ds => D.wRs ds
  | .lst ds => D.wRs ds
  | .kst ds => D.wRs ds
  | _ => false
def D.wRs : List D → Bool
  | [] => true
  | d :: ds => d.wR && D.wRs ds
end
mutual
def D.sR : D → Nat
  | .non => 4
  | .bl _ => 5
  | .int _ => 71
  | .str _ => 8
  | .tup ds => D.sRs ds + 3
  | .lst ds => D.sRs ds + 3
  | .kst ds => D.sRs ds + 3
  | _ => 0
def D.sRs : List D → Nat
  | [] => 0
  | d :: ds => d.sR + 2 + D.sRs ds
end
mutual
def D.hR : D → Nat
  | .tup ds => D.hRs ds + 1
  | .lst ds => D.hRs ds + 1
  | .kst ds => D.hRs ds + 1
  | _ => 1
def D.hRs : List D → Nat
  | [] => 0
  | d :: ds => max d.hR (D.hRs ds)
end
theorem shown_int_len {i : Int} (h : i.natAbs < 10 ^ 70) : (PyData.int i).shown.length ≤ 71 := by
  rw [PyData.shown_int, PySem.ofString_length]
  cases i with
  | ofNat n =>
    show (Nat.repr n).length ≤ 71
    exact Nat.le_trans ((Nat.length_repr_le_iff (by decide)).mpr h) (by decide)
  | negSucc n =>
    show ("-" ++ Nat.repr (n + 1)).length ≤ 71
    rw [String.length_append]
    have := (Nat.length_repr_le_iff (n := n + 1) (k := 70) (by decide)).mpr h
    have e : ("-" : String).length = 1 := rfl
    omega
theorem log_ok {n : Nat} (h : n < 10 ^ 70) : n.log2 < 1920 := by
  by_cases e : n = 0
  · subst e; decide
  · exact (Nat.log2_lt e).mpr (Nat.lt_of_lt_of_le h (by decide +kernel))
mutual
theorem D.wR_ok : ∀ d : D, d.wR = true → d.toP.showable = true ∧ d.toP.hasDict = false ∧ d.toP.canLay0 = true ∧ d.toP.shown.length ≤ d.sR ∧ d.toP.depth ≤ d.hR
  | .non, _ => ⟨rfl, rfl, rfl, by decide, by decide⟩
  | .bl b, _ => ⟨rfl, rfl, rfl, by cases b <;> decide, by cases b <;> decide⟩
  | .int i, h => ⟨decide_eq_true (log_ok (of_decide_eq_true h)), rfl, rfl, shown_int_len (of_decide_eq_true h), Nat.le_of_lt (Nat.lt_succ_of_le (Nat.zero_le _))⟩
  | .tup ds, h => by
    obtain ⟨a, b, c, e, f⟩ := D.wRs_ok ds h
    exact ⟨a, b, c, Nat.le_trans (tupleText_len_le _) (Nat.add_le_add_right e 3), Nat.succ_le_succ f⟩
  | .lst ds, h => by
    obtain ⟨a, b, c, e, f⟩ := D.wRs_ok ds h
    exact ⟨a, b, c, Nat.le_trans (listText_len_le _) (Nat.add_le_add_right e 3), Nat.succ_le_succ f⟩
  | .str x, h => by
    have h' : x = "cut" ∨ x = "lay" := by
      rcases (Bool.or_eq_true _ _).mp (show (decide (x = "cut") || decide (x = "lay")) = true from h) with h | h
      · exact .inl (of_decide_eq_true h)
      · exact .inr (of_decide_eq_true h)
    rcases h' with rfl | rfl
    · exact ⟨rfl, rfl, by decide +kernel, by decide +kernel, by decide⟩
    · exact ⟨rfl, rfl, by decide +kernel, by decide +kernel, by decide⟩
  | .kst ds, h => by
    obtain ⟨a, b, c, e, f⟩ := D.wRs_ok ds h
    exact ⟨a, b, c, Nat.le_trans (listText_len_le _) (Nat.add_le_add_right e 3), Nat.succ_le_succ f⟩
  | .dcT _ _, h => by cases h
  | .dcK _ _, h => by cases h
  | .obj _ _ _, h => by cases h
  | .fn _, h => by cases h
  | .ad _, h => by cases h
  | .lsA _ _, h => by cases h
  | .key _, h => by cases h
  | .tpx _, h => by cases h
  | .exn _, h => by cases h
  | .dcL _, h => by cases h
  | .dcN _, h => by cases h
  | .lkT _, h => by cases h
  | .any, h => by cases h
  | .frz _, h => by cases h
theorem D.wRs_ok : ∀ ds : List D, D.wRs ds = true → PyData.showableAll (D.toPs ds) = true ∧ PyData.hasDictAll (D.toPs ds) = false ∧ PyData.canLayAll0 (D.toPs ds) = true ∧ ((PyData.shownAll (D.toPs ds)).map (·.length)).sum + 2 * (PyData.shownAll (D.toPs ds)).length ≤ D.sRs ds ∧ PyData.depthAll (D.toPs ds) ≤ D.hRs ds
  | [], _ => ⟨rfl, rfl, rfl, Nat.le_refl _, Nat.le_refl _⟩
  | d :: ds, h => by
    have h' := Bool.and_eq_true_iff.mp (show (d.wR && D.wRs ds) = true from h)
    obtain ⟨a, b, c, e, f⟩ := D.wR_ok d h'.1
    obtain ⟨a', b', c', e', f'⟩ := D.wRs_ok ds h'.2
    refine ⟨?_, ?_, ?_, ?_, ?_⟩
    · show (d.toP.showable && PyData.showableAll (D.toPs ds)) = true
      rw [a, a']; rfl
    · show (d.toP.hasDict || PyData.hasDictAll (D.toPs ds)) = false
      rw [b, b']; rfl
    · show (d.toP.canLay0 && PyData.canLayAll0 (D.toPs ds)) = true
      rw [c, c']; rfl
    · show (List.map (·.length) (d.toP.shown :: PyData.shownAll (D.toPs ds))).sum + 2 * (d.toP.shown :: PyData.shownAll (D.toPs ds)).length ≤ d.sR + 2 + D.sRs ds
      rw [List.map_cons, List.sum_cons, List.length_cons]
      omega
    · show max d.toP.depth (PyData.depthAll (D.toPs ds)) ≤ max d.hR (D.hRs ds)
      omega
end
noncomputable section
mutual
def _root_.DL.D.imm : D → Bool
  | .non => true
  | .bl _ => true
  | .int _ => true
  | .str _ => true
  | .tup ds => D.imms ds
  | .kst ds => D.imms ds
  | .fn _ => true
  | .ad _ => true
  | .key _ => true
  | .tpx _ => true
  | .exn _ => true
  | .dcL _ => true
  | .lkT _ => true
  | _ => false
def _root_.DL.D.imms : List D → Bool
  | [] => true
  | d :: ds => d.imm && D.imms ds
end
mutual
theorem RA.imm_no {K : Frg} {A : Addr → Prop} {H : Hp} : ∀ (d : D) (v : V), RA K A H d v → d.imm = true → RA K No H d v
  | .non, _, h, _ => h
  | .bl _, _, h, _ => h
  | .int _, _, h, _ => h
  | .str _, _, h, _ => h
  | .tup ds, _, ⟨p, vs, e, t, r⟩, c => ⟨p, vs, e, t, RAs.imm_no ds vs r c⟩
  | .kst ds, _, ⟨p, vs, e, t, r⟩, c => ⟨p, vs, e, t, RAs.imm_no ds vs r c⟩
  | .lst _, _, _, c => by cases c
  | .dcT _ _, _, _, c => by cases c
  | .dcK _ _, _, _, c => by cases c
  | .obj _ _ _, _, _, c => by cases c
  | .fn _, _, h, _ => h
  | .ad _, _, h, _ => h
  | .lsA _ _, _, _, c => by cases c
  | .key _, _, h, _ => h
  | .tpx _, _, h, _ => h
  | .exn _, _, h, _ => h
  | .dcL _, _, h, _ => h
  | .dcN _, _, _, c => by cases c
  | .lkT _, _, h, _ => h
  | .any, _, _, c => by cases c
  | .frz _, _, _, c => by cases c
theorem RAs.imm_no {K : Frg} {A : Addr → Prop} {H : Hp} : ∀ (ds : List D) (vs : List V), RAs K A H ds vs → D.imms ds = true → RAs K No H ds vs
  | [], _, h, _ => h
  | d :: ds, _, ⟨w, ws, e, h, t⟩, c => by
    have c' := Bool.and_eq_true_iff.mp (show (d.imm && D.imms ds) = true from c)
    exact ⟨w, ws, e, RA.imm_no d w h c'.1, RAs.imm_no ds ws t c'.2⟩
end
def pFlat (f : PF) : PF := fun ρ P => f ρ fun z => z.2.imm = true ∧ P (.fl, z.2)
theorem bt_repr : bootBuiltins "repr" = some (.builtin "repr") := by decide +kernel
end
end DL

namespace DL
open PySem PySem.Spec PyProof PyProof.Rows L2
mutual
def D.cL : D → Bool
  | .non => true
  | .bl _ => true
  | .int _ => true
  | .tup ds => D.cLs ds
  | .lst ds => D.cLs ds
  | .kst ds => D.cLs ds
  | .tpx _ => true
  | .key _ => true
  | _ => false
def D.cLs : List D → Bool
  | [] => true
  | d :: ds => d.cL && D.cLs ds
end
mutual
def D.hL : D → Nat
  | .tup ds => D.hLs ds + 1
  | .lst ds => D.hLs ds + 1
  | .kst ds => D.hLs ds + 1
  | .tpx _ => 2
  | .key _ => 2
  | _ => 1
def D.hLs : List D → Nat
  | [] => 0
  | d :: ds => max d.hL (D.hLs ds)
end
theorem pints_ok : ∀ ns : List Int, PyData.canLayAll0 (ns.map PyData.int) = true ∧ PyData.depthAll (ns.map PyData.int) ≤ 1 ∧ PyData.eqvAll (ns.map PyData.int) (ns.map PyData.int) = true
  | [] => ⟨rfl, by decide, rfl⟩
  | i :: ns => by
    obtain ⟨a, b, c⟩ := pints_ok ns
    refine ⟨?_, ?_, ?_⟩
    · show ((PyData.int i).canLay0 && PyData.canLayAll0 (ns.map PyData.int)) = true
      rw [a]; rfl
    · have h1 : (PyData.int i).depth ≤ 1 := Nat.le_of_lt (Nat.lt_succ_of_le (Nat.zero_le _))
      show max (PyData.int i).depth (PyData.depthAll (ns.map PyData.int)) ≤ 1
      omega
    · show (PyData.eqv (.int i) (.int i) && PyData.eqvAll (ns.map PyData.int) (ns.map PyData.int)) = true
      have e : PyData.eqv (.int i) (.int i) = true := (PyData.eqv.eq_5 i i).trans (by simp)
      rw [c, e]; rfl
mutual
theorem D.cL_ok : ∀ d : D, d.cL = true → d.toP.canLay0 = true ∧ d.toP.depth ≤ d.hL ∧ PyData.eqv d.toP d.toP = true
  | .non, _ => ⟨rfl, by decide, rfl⟩
  | .bl b, _ => ⟨rfl, by cases b <;> decide, by cases b <;> rfl⟩
  | .int i, h => ⟨rfl, Nat.le_of_lt (Nat.lt_succ_of_le (Nat.zero_le _)), (PyData.eqv.eq_5 i i).trans (by simp)⟩
  | .tup ds, h => by
    obtain ⟨a, b, c⟩ := D.cLs_ok ds h
    exact ⟨a, Nat.succ_le_succ b, c⟩
  | .lst ds, h => by
    obtain ⟨a, b, c⟩ := D.cLs_ok ds h
    exact ⟨a, Nat.succ_le_succ b, c⟩
  | .kst ds, h => by
    obtain ⟨a, b, c⟩ := D.cLs_ok ds h
    exact ⟨a, Nat.succ_le_succ b, c⟩
  | .str _, h => by cases h
  | .dcT _ _, h => by cases h
  | .dcK _ _, h => by cases h
  | .obj _ _ _, h => by cases h
  | .fn _, h => by cases h
  | .ad _, h => by cases h
  | .lsA _ _, h => by cases h
  | .key ns, _ => by
    obtain ⟨a, b, c⟩ := pints_ok ns
    exact ⟨a, Nat.succ_le_succ b, c⟩
  | .exn _, h => by cases h
  | .dcL _, h => by cases h
  | .dcN _, h => by cases h
  | .tpx ns, _ => by
    obtain ⟨a, b, c⟩ := pints_ok ns
    exact ⟨a, Nat.succ_le_succ b, c⟩
  | .lkT _, h => by cases h
  | .any, h => by cases h
  | .frz _, h => by cases h
theorem D.cLs_ok : ∀ ds : List D, D.cLs ds = true → PyData.canLayAll0 (D.toPs ds) = true ∧ PyData.depthAll (D.toPs ds) ≤ D.hLs ds ∧ PyData.eqvAll (D.toPs ds) (D.toPs ds) = true
  | [], _ => ⟨rfl, Nat.le_refl _, rfl⟩
  | d :: ds, h => by
    have h' := Bool.and_eq_true_iff.mp (show (d.cL && D.cLs ds) = true from h)
    obtain ⟨a, b, c⟩ := D.cL_ok d h'.1
    obtain ⟨a', b', c'⟩ := D.cLs_ok ds h'.2
    refine ⟨?_, ?_, ?_⟩
    · show (d.toP.canLay0 && PyData.canLayAll0 (D.toPs ds)) = true
      rw [a, a']; rfl
    · show max d.toP.depth (PyData.depthAll (D.toPs ds)) ≤ max d.hL (D.hLs ds)
      omega
    · show (PyData.eqv d.toP d.toP && PyData.eqvAll (D.toPs ds) (D.toPs ds)) = true
      rw [c, c']; rfl
end
end DL

namespace DL
open PySem PySem.Spec PyProof PyProof.Rows L2
noncomputable section
def zipD (k k' : Kd) (ds es : List D) : List KD := List.zipWith (fun d e => (pairK k k', .tup [d, e])) ds es
theorem zipD_of {k k' : Kd} {ds es : List D} {i : Nat} {z : KD} (h : (zipD k k' ds es)[i]? = some z) : ∃ d e, ds[i]? = some d ∧ es[i]? = some e ∧ z = (pairK k k', .tup [d, e]) := by
  unfold zipD at h
  rw [List.getElem?_zipWith] at h
  cases e1 : ds[i]? with
  | none => rw [e1] at h; cases h
  | some d =>
    cases e2 : es[i]? with
    | none => rw [e1, e2] at h; cases h
    | some e => rw [e1, e2] at h; exact ⟨d, e, rfl, rfl, (Option.some.inj h).symm⟩
theorem zipD_len {k k' : Kd} {ds es : List D} : (zipD k k' ds es).length = min ds.length es.length := List.length_zipWith
end
end DL

namespace DL
open PySem PySem.Spec PyProof PyProof.Rows L2
noncomputable section
def oFld (C : Str) (NS : List Str) (j : Nat) (z : KD) (P : KD → Prop) : Prop := match z.2 with
  | .obj C' ns ds => C' = C ∧ ns = NS ∧ (match ds[j]? with | some d => P (kel .rd d) | none => False)
  | _ => False
@[irreducible] def xFld (C : Str) (NS : List Str) (j : Nat) (z : KD) (P : KD → Prop) : Prop := hid (oFld C NS j z P)
def pFld (C : Str) (NS : List Str) (j : Nat) (fa : PF) : PF := fun ρ P => fa ρ fun z => xFld C NS j z P
section
variable {X : Cx} {pos : Pos}
def oFldP (C : Str) (NS : List Str) (j : Nat) (i : Nat) (e : D) (rb : D → D) (P : Nat → Kd → D → (D → D) → Prop) : Prop := match e with
  | .obj C' ns ds => C' = C ∧ ns = NS ∧ (match ds[j]? with | some d => P i .ow d (fun c' => rb (.obj C NS (ds.set j c'))) | none => False)
  | _ => False
@[irreducible] def xFldP (C : Str) (NS : List Str) (j : Nat) (i : Nat) (e : D) (rb : D → D) (P : Nat → Kd → D → (D → D) → Prop) : Prop := hid (oFldP C NS j i e rb P)
def plFld (C : Str) (NS : List Str) (j : Nat) (pl : PLF) : PLF := fun ρ P => pl ρ fun i _ e rb => xFldP C NS j i e rb P
end
section
variable {K : Frg} {A : Addr → Prop} {H : Hp}
end
end
end DL

namespace DL
open PySem PySem.Spec PyProof PyProof.Rows L2
noncomputable section
def oFldS (C : Str) (NS : List Str) (j : Nat) (e : D) (z : KD) (P : D → Prop) : Prop := ownK z.1 = true ∧ match e with
  | .obj C' ns ds => C' = C ∧ ns = NS ∧ j < ds.length ∧ P (.obj C NS (ds.set j z.2))
  | _ => False
@[irreducible] def xFldS (C : Str) (NS : List Str) (j : Nat) (e : D) (z : KD) (P : D → Prop) : Prop := hid (oFldS C NS j e z P)
def oFldN (C : Str) (NS : List Str) (f : Str) (e : D) (z : KD) (P : D → Prop) : Prop := ownK z.1 = true ∧ match e with
  | .obj C' ns ds => C' = C ∧ ns = NS ∧ P (.obj C (NS ++ [f]) (ds ++ [z.2]))
  | _ => False
@[irreducible] def xFldN (C : Str) (NS : List Str) (f : Str) (e : D) (z : KD) (P : D → Prop) : Prop := hid (oFldN C NS f e z P)
def sFldS (C : Str) (NS : List Str) (j : Nat) (fe : EF) (pl : PLF) : SF := fun D ρ => fe ρ (fun z ρ1 => pl ρ1 fun i _ e rb => xFldS C NS j e z fun e' => D.nx (ρ1.set i (some (.ow, rb e')))) D.ex
def sFldN (C : Str) (NS : List Str) (f : Str) (fe : EF) (pl : PLF) : SF := fun D ρ => fe ρ (fun z ρ1 => pl ρ1 fun i _ e rb => xFldN C NS f e z fun e' => D.nx (ρ1.set i (some (.ow, rb e')))) D.ex
section
variable {X : Cx} {E : XK} {pr : List Nat} {pos pos' : Pos} {o value : Expr} {f : Str} {C : Str} {NS : List Str} {j : Nat} {fe : EF} {pl : PLF}
end
end
end DL

namespace DL
open PySem PySem.Spec PyProof PyProof.Rows L2
noncomputable section
def pMeth (C : Str) (NS : List Str) (c : CF) (fo : PF) (g : PAF) : PF := fun ρ P => fo ρ fun z => (∃ ds, z.2 = .obj C NS ds) ∧ g ρ fun zs => c ((z :: zs).map fun z => (z.1.rdk, z.2)) (fun z _ => P z) (fun _ _ => False)
def eMeth (i : Nat) (C : Str) (NS : List Str) (ms : List Bool) (c : CF) (g : AEF) : EF := fun ρ P PX => (∃ ds, ρ[i]? = some (some (.ow, .obj C NS ds))) ∧ eFn ms c (aPl i g) ρ P PX
section
variable {X : Cx} {CX : CXT} {E : XK} {k n : Nat} {f : Addr} {ps : List Str} {c : CF} {ms : List Bool} {m : Str} {pos apos : Pos} {o e : Expr} {es : List Expr} {C : Str} {NS : List Str} {pl : Sem Bool}
end
end
end DL

namespace DL
open PySem PySem.Spec PyProof PyProof.Rows L2
noncomputable section
section
variable {X : Cx} {CX : CXT} {E : XK} {k n : Nat} {f : Addr} {ps : List Str} {c : CF} {ms : List Bool} {x : Str} {p pos : Pos} {e : Expr} {es : List Expr} {C : Str} {g : PAF}
end
end
end DL

namespace DL
open PySem PySem.Spec PyProof PyProof.Rows L2
noncomputable section
def sNever : SF := fun _ _ => False
def pLenSet (f : PF) : PF := fun ρ P => f ρ fun z => match z with
  | (_, .lst ds) => ∃ ns : List Int, ds = ns.map .int ∧ ns.Nodup ∧ ns.length ≤ 4000 ∧ P (.fl, .int ns.length)
  | _ => False
section
variable {X : Cx} {E : XK} {pr : List Nat} {pos : Pos}
theorem dp_gint {x : Str} {i : Int} {p : Pos} (hg : Gl X x) (hm : ∃ t, X.mg x = some (.int i t)) (hd : (x == ("__debug__" : Str)) = false := by decide) : DP X (.Name x p) (pC (.int i)) := by
  obtain ⟨t, hm⟩ := hm
  exact dp_c (v := .int i) (pe_glob (v := .int i) hg hm ⟨t, rfl⟩ hd) fun _ _ => rfl
def oTwo (z : KD) (P : D → D → Prop) : Prop := match z.2 with
  | .tup [a, b] => a.imm = true ∧ b.imm = true ∧ P a b
  | _ => False
@[irreducible] def xTwo (z : KD) (P : D → D → Prop) : Prop := hid (oTwo z P)
def sFldP (C : Str) (NS : List Str) (j1 j2 : Nat) (fe : EF) (pl1 pl2 : PLF) : SF := fun D ρ => fe ρ (fun z ρ1 => xTwo z fun a b => pl1 ρ1 fun i _ e rb => xFldS C NS j1 e (.fl, a) fun e' =>
  pl2 (ρ1.set i (some (.ow, rb e'))) fun i2 _ e2 rb2 => xFldS C NS j2 e2 (.fl, b) fun e2' => D.nx ((ρ1.set i (some (.ow, rb e'))).set i2 (some (.ow, rb2 e2')))) D.ex
end
section
variable {X : Cx} {CX : CXT} {E : XK} {k n : Nat} {f : Addr} {ps : List Str} {c : CF} {ms : List Bool} {x : Str} {p pos : Pos} {e : Expr} {es : List Expr} {C : Str} {g : AEF}
end
end
end DL

namespace DL
open PySem PySem.Spec PyProof PyProof.Rows L2
noncomputable section
def sForR (src : IF) (g : GF) (body : SF) : SF := fun D ρ => src ρ fun zs => kFor g body D zs ρ
section
variable {X : Cx} {E : XK} {pr : List Nat} {pos : Pos} {tg : Expr} {body : List Stmt} {is : List Nat} {g : GF} {f : SF}
end
end
end DL

namespace DL
open PySem PySem.Spec PyProof PyProof.Rows L2
noncomputable section
structure ExF (K : Frg) (mg : Str → Option Value) (C : Str) : Prop where
  g : mg C = some (.ref (He.ga K C))
  e : PySem.W.excIn K (He.ga K C) He.veBase "ValueError.__new__" = true ∧ PySem.W.keepIn K (.ref (He.ga K C)) = true ∧ PySem.W.subIn K (.ref (He.ga K C)) (.type "BaseException") = some true ∧ PySem.W.typeIn K (.ref (He.ga K C)) = some (.type "type")
section
variable {X : Cx} {E : XK} {a b : Expr} {rest : List Expr} {pos : Pos} {fa fb : EF}
theorem Own.bl {K : Frg} {A : Addr → Prop} {H : Hp} {b : Bool} {ow : List Addr} (nd : ow.Nodup) : Own K A H (.fl, .bl b) (.bl b) [] ow := ⟨⟨rfl, rfl⟩, nd, fun _ h => nomatch h⟩
end
def sForRE (fe : EF) (g : GF) (body : SF) : SF := fun D ρ => fe ρ (fun z ρ1 => match z.2 with
  | .int j => kR1 j fun zs => kFor g body D zs ρ1
  | _ => False) D.ex
theorem ds_forRE {X : Cx} {E : XK} {pr : List Nat} {pos : Pos} {tg : Expr} {body : List Stmt} {is : List Nat} {g : GF} {f : SF} {a : Expr} {fe : EF} {p pos' : Pos} (hp : PassesOwn (model X.prog X.w) X.A X.env X.xe) (hc : X.calm = true) (hgl : Gl X "range") (hm : X.mg "range" = none) (ha : DE X E a fe) (hg : DG X tg is g) (hb : DSs X E pr body f) (hpr : (is.all fun i => !pr.contains i) = true := by rfl)
    (hs0 : starEach [a] X.env = (false, eval a X.env) :: starEach [] X.env := by rfl)    (hs1 : starEach [a] X.env = [(false, eval a X.env)] := by rfl) (hs : ∀ x, foldedSetIterable (.Call (.Name "range" p) [a] [] pos') X.env x = pure x := by intro _; rfl) : DS X E pr (.For tg (.Call (.Name "range" p) [a] [] pos') body [] pos) (sForRE fe g f) := by
  obtain ⟨t, e, s⟩ := ha.run
  obtain ⟨tg', pg, sg⟩ := hg.run
  obtain ⟨tb, pb, sb⟩ := hb.run
  refine ⟨_, ps_for hp hc (pi_range1 hgl hm (pa_cons e pa_nil hs0) hs1) pg pb hs, fun σ H A ρ ow T D gd h nx rt ex => ?_⟩
  refine s σ H A ρ ow _ _ _ gd h (fun z ρ1 v H1 fp ow1 A1 hh st1 g1 o1 => ?_) fun C ρ1 H1 ow1 A1 h1 st1 g1 => ex C ρ1 σ H1 ow1 A1 h1 st1 g1 fun _ _ => rfl
  have ra : RA X.K (fun _ => True) H1 z.2 v := o1.rep.ra (fun _ _ => trivial) fun _ _ => trivial
  split at hh
  · rename_i j ez
    unfold kR1 at hh
    rw [hid_eq] at hh
    obtain ⟨h1, h2, h3⟩ := hh
    rw [ez] at ra
    obtain rfl : v = .int _ := ra
    refine ⟨_, rfl, by omega, by omega, ?_⟩
    rw [kFor_eq] at h3
    exact for_core sg sb hpr g1 (st1.sub fun a h => by simp [h]) (B := A1) walks_range (fun _ h => h) h3 nx rt ex
  · exact hh.elim
end
end DL

namespace DL
open PySem PySem.Spec PyProof PyProof.Rows L2
noncomputable section
end
end DL

namespace DL
open PySem PySem.Spec PyProof PyProof.Rows L2
def SqB (b : Bool) (K : PySem.W.Frag) (H : Hp) (a : Addr) (xs : List V) : Prop := match b with | true => SqL K H a xs | false => SqT K H a xs
def HpB (b : Bool) (h : Heap) (a : Addr) (its : Array Value) : Prop := match b with | true => h.IsList a its | false => h.IsTuple a its
def ItB (b : Bool) (h : Heap) (it a : Addr) (i : Nat) : Prop := match b with | true => h.IsListIter it a i | false => h.IsTupleIter it a i
def obB (b : Bool) (a : Addr) : Obj := match b with | true => { cls := .type "list_iterator", data := .fields #[.ref a, .int 0 0] } | false => { cls := .type "tuple_iterator", data := .fields #[.ref a, .int 0 0] }
section
variable {b : Bool} {h h' : Heap} {it a : Addr} {i : Nat} {its : Array Value}
theorem ItB.at_ (x : ItB b h it a i) (e : ∀ o, h.get? it = some o → h'.get? it = some o) : ItB b h' it a i := by
  cases b with
  | true => exact Heap.IsListIter.at x e
  | false => exact Heap.IsTupleIter.at x e
theorem ItB.obj (x : ItB b h it a i) : ∃ o, h.get? it = some o ∧ ∀ v, o.data ≠ .cell v := by
  cases b with
  | true => obtain ⟨o, e, _, d⟩ := x; exact ⟨o, e, fun v q => by rw [d] at q; cases q⟩
  | false => obtain ⟨o, e, _, d⟩ := x; exact ⟨o, e, fun v q => by rw [d] at q; cases q⟩
theorem HpB.ne (x : HpB b h a its) (y : ItB b h it a i) : a ≠ it := fun q => by
  cases b with
  | true =>
    obtain ⟨o, ho, hcl, _⟩ := x
    obtain ⟨o2, ho2, hc2, _⟩ := y
    rw [q, ho2] at ho
    cases ho
    rw [hc2] at hcl
    injection hcl with q2
    exact absurd q2 (by decide)
  | false =>
    obtain ⟨o, ho, hcl, _⟩ := x
    obtain ⟨o2, ho2, hc2, _⟩ := y
    rw [q, ho2] at ho
    cases ho
    rw [hc2] at hcl
    injection hcl with q2
    exact absurd q2 (by decide)
theorem HpB.lt (x : HpB b h a its) : a < h.objs.size := by
  cases b with
  | true => obtain ⟨o, ho, _⟩ := x; exact Heap.lt_size ho
  | false => obtain ⟨o, ho, _⟩ := x; exact Heap.lt_size ho
theorem draws_B {prog : Program} {w : World} {A : Around} (hh : A.handled = none) (hne : a ≠ it) : Draws prog w A it [it, a] its.size (fun i v => its[i]? = some v) (fun i h => ItB b h it a i ∧ HpB b h a its) := by
  cases b with
  | true => exact Draws.list hh it a hne its
  | false => exact Draws.tuple hh it a hne its
theorem begins_B : Begins (.ref a) (obB b a) fun h => HpB b h a its := by
  cases b with
  | true => exact begins_list a its
  | false => exact begins_tuple a its
theorem itB_new (e : h.get? it = some (obB b a)) : ItB b h it a 0 := by
  cases b with
  | true => exact ⟨_, e, rfl, rfl⟩
  | false => exact ⟨_, e, rfl, rfl⟩
end
section
variable {X : Cx} {pins : List (Addr × Obj)} {σ : L2.St} {H : Hp} {s : Shared} {b : Bool} {a : Addr} {xs ys : List V}
theorem inv_B (I : L2.Inv X pins σ H s) (h : SqB b X.K H a xs) : ∃ its : List Value, Vals xs its ∧ HpB b s.heap a its.toArray := by
  cases b with
  | true => obtain ⟨its, r, p, _⟩ := I.list h; exact ⟨its, r, p.isList⟩
  | false => obtain ⟨its, r, p, _⟩ := I.tuple h; exact ⟨its, r, p⟩
theorem inj_B (I : L2.Inv X pins σ H s) (h : SqB b X.K H a xs) (h' : SqB b X.K H a ys) : xs = ys := by
  cases b with
  | true => exact I.list_inj h h'
  | false => exact I.tuple_inj h h'
end
def ItzB (b1 b2 : Bool) (K : PySem.W.Frag) (a b : Addr) : It :=
  ⟨fun i H => ∃ (xs ys : List V) (x y : V), SqB b1 K H a xs ∧ SqB b2 K H b ys ∧ xs[i]? = some x ∧ ys[i]? = some y,
    fun i H v H' => ∃ T x y, v = .ref T ∧ H T = none ∧ H' = upd H T (.tup [x, y]) ∧ (∀ xs, SqB b1 K H a xs → xs[i]? = some x) ∧ ∀ ys, SqB b2 K H b ys → ys[i]? = some y,
    fun i H => ∃ xs ys : List V, SqB b1 K H a xs ∧ SqB b2 K H b ys ∧ i ≤ xs.length ∧ i ≤ ys.length ∧ (xs.length = i ∨ ys.length = i)⟩
theorem turn_zipB {b1 b2 : Bool} {P : Program} {w : World} {K : PySem.W.Frag} {elts : List Expr} {kk : Nat} {tpos : Pos} {a b z TI TO i1 i2 : Addr} (D : ZipSep2 z TI TO i1 i2 [i1, a] [i2, b]) :
    Turn P w K (.Tuple elts kk tpos) (ItzB b1 b2 K a b) [z, TI, TO, i1, i2] z (fun i h => IsZip h z TI TO .none ∧ IsTupOf2 h TI (.ref i1) (.ref i2) ∧ (∃ x y, IsTupOf2 h TO x y) ∧ ItB b1 h i1 a i ∧ ItB b2 h i2 b i) where
  mem := by simp
  obj := fun i h st c hc => by
    obtain ⟨hz, hTI, ⟨x, y, hTO⟩, h1, h2⟩ := st
    have e' : c = z ∨ c = TI ∨ c = TO ∨ c = i1 ∨ c = i2 := by simpa using hc
    rcases e' with q | q | q | q | q
    · rw [q]; exact ⟨_, hz, fun v q => nomatch q⟩
    · rw [q]; exact ⟨_, hTI, fun v q => nomatch q⟩
    · rw [q]; exact ⟨_, hTO, fun v q => nomatch q⟩
    · rw [q]; exact h1.obj
    · rw [q]; exact h2.obj
  keep := fun i h h' st k => by
    obtain ⟨hz, hTI, ⟨x, y, hTO⟩, h1, h2⟩ := st
    exact ⟨k z (by simp) _ hz, k TI (by simp) _ hTI, ⟨x, y, k TO (by simp) _ hTO⟩, h1.at_ fun o q => k i1 (by simp) o q, h2.at_ fun o q => k i2 (by simp) o q⟩
  item := by
    intro X hP hw hK hc i pins s σ H E I hf st hg
    subst hP hw hK
    obtain ⟨hz, hTI, ⟨x0, y0, hTO⟩, h1, h2⟩ := st
    obtain ⟨xs, ys, x, y, hqx, hqy, hx, hy⟩ := hg
    obtain ⟨its, rv, p⟩ := inv_B I hqx
    obtain ⟨its2, rv2, p2⟩ := inv_B I hqy
    obtain ⟨u, hu, ru⟩ := rv.get hx
    obtain ⟨u2, hu2, ru2⟩ := rv2.get hy
    have hzl : z < s.heap.objs.size := Heap.lt_size hz
    have hcm : X.A.in1.handled = none := I.ok.hd hc
    refine wpAny_pyNext_zipD2_item D (draws_B (b := b1) (its := its.toArray) hcm (p.ne h1)) (draws_B (b := b2) (its := its2.toArray) hcm (p2.ne h2)) hz hTI hTO ⟨h1, p⟩ ⟨h2, p2⟩ (by rw [List.size_toArray]; exact (List.getElem?_eq_some_iff.mp hu).1) (by rw [List.size_toArray]; exact (List.getElem?_eq_some_iff.mp hu2).1) fun v1 v2 h' tk e1 e2 z' TO' h1' h2' hT hsz hk => ?_
    have ev1 : v1 = u := by
      have q : its.toArray[i]? = some u := by simpa using hu
      rw [q] at e1; exact (Option.some.inj e1).symm
    have ev2 : v2 = u2 := by
      have q : its2.toArray[i]? = some u2 := by simpa using hu2
      rw [q] at e2; exact (Option.some.inj e2).symm
    subst ev1 ev2
    refine ⟨_, rfl, wpAny_letOwnedTupleGo_zip (s := { s with heap := h', toks := tk }) z' fun h'' z'' sb => ?_⟩
    have hT2 : h''.get? s.heap.objs.size = some { cls := .type "tuple", data := .seq #[v1, v2] } := (sb.2 _ (Nat.ne_of_gt hzl)).trans hT
    have new : ObjOk X.prog X.w (upd H s.heap.objs.size (.tup [x, y])) h'' s.heap.objs.size (.tup [x, y]) :=
      ⟨by show 2 ≤ sizeLine; decide, [v1, v2], .cons ru (.cons ru2 .nil), ⟨_, hT2, rfl, _, rfl⟩⟩
    have I1 : Inv X pins σ (upd H s.heap.objs.size (.tup [x, y])) { s with heap := h'', toks := tk } :=
      I.turnedNew (ch := [z, TI, TO, i1, i2]) (fun c o hb q => (sb.2 c (fun q' => hb (by simp [q']))).trans (hk c o (fun q' => hb (by simp [q'])) (fun q' => hb (by simp [q'])) (fun q' => hb (by simp [q'])) (fun q' => hb (by simp [q'])) q)) hf (Nat.le_refl _) new
    refine ⟨.ref s.heap.objs.size, _, I1, rfl, ⟨_, x, y, rfl, I.hok.fresh (Nat.le_refl _), rfl, fun l hl => by rw [inj_B I hl hqx]; exact hx, fun l hl => by rw [inj_B I hl hqy]; exact hy⟩, ⟨z'', ?_, ⟨v1, v2, ?_⟩, ?_, ?_⟩, fun c hcm => ?_⟩
    · exact (sb.2 _ D.TIz).trans (hk _ _ D.TIz D.TITO D.TIi1 D.TIi2 hTI)
    · exact (sb.2 _ D.TOz).trans TO'
    · exact h1'.1.at_ fun o q => (sb.2 _ (Ne.symm D.zi1)).trans q
    · exact h2'.1.at_ fun o q => (sb.2 _ (Ne.symm D.zi2)).trans q
    · have hlt : c < s.heap.objs.size := by
        have e' : c = z ∨ c = TI ∨ c = TO ∨ c = i1 ∨ c = i2 := by simpa using hcm
        rcases e' with q | q | q | q | q
        · rw [q]; exact hzl
        · rw [q]; exact Heap.lt_size hTI
        · rw [q]; exact Heap.lt_size hTO
        · rw [q]; obtain ⟨_, e1, _⟩ := h1.obj; exact Heap.lt_size e1
        · rw [q]; obtain ⟨_, e2, _⟩ := h2.obj; exact Heap.lt_size e2
      rw [upd_ne (Nat.ne_of_lt hlt)]
      exact (hf c hcm).1
  done := by
    intro X hP hw hK hc i pins s σ H E I hf st hg
    subst hP hw hK
    obtain ⟨hz, hTI, ⟨x0, y0, hTO⟩, h1, h2⟩ := st
    obtain ⟨xs, ys, hqx, hqy, hl1, hl2, hend⟩ := hg
    obtain ⟨its, rv, p⟩ := inv_B I hqx
    obtain ⟨its2, rv2, p2⟩ := inv_B I hqy
    have l1 := rv.length
    have l2 := rv2.length
    have hcm : X.A.in1.handled = none := I.ok.hd hc
    exact wpAny_pyNext_zipD2_end D (draws_B (b := b1) (its := its.toArray) hcm (p.ne h1)) (draws_B (b := b2) (its := its2.toArray) hcm (p2.ne h2)) hz hTI hTO ⟨h1, p⟩ ⟨h2, p2⟩ (by rw [List.size_toArray]; omega) (by rw [List.size_toArray]; omega) (by rw [List.size_toArray, List.size_toArray]; omega) fun h' tk hk => ⟨rfl, I.turnedL (t' := tk) (ch := [z, TI, TO, i1, i2]) (fun c o hb q =>
      hk c o (fun q' => hb (by simp [q'])) (fun q' => hb (by simp [q'])) (fun q' => hb (by simp [q'])) (fun q' => hb (by simp [q'])) q) hf⟩
  self := fun A i s Q E st h => wpAny_pyIter_zip st.1 h
def iZipB (K : PySem.W.Frag) (ta : TA) : TI := fun σ H R => ta σ H fun vs H1 => ∃ b1 b2 a b xs ys, vs = [.ref a, .ref b] ∧ SqB b1 K H1 a xs ∧ SqB b2 K H1 b ys ∧ R (ItzB b1 b2 K a b) H1
theorem pi_zipB {X : Cx} {e e2 : Expr} {ta : TA} {p pos tpos : Pos} {elts : List Expr} {kk : Nat} (hg : Gl X "zip") (hm : X.mg "zip" = none) (ha : PA X [e, e2] ta)
    (hs : starEach [e, e2] X.env = (false, eval e X.env) :: starEach [e2] X.env := by rfl) (hpl : (backTo pos (starEach [e2] X.env)).any (·.1) = false := by rfl) :
    PI X (.Tuple elts kk tpos) (.Call (.Name "zip" p) [e, e2] [] pos) (iZipB X.K ta) := by
  refine ⟨fun pins s σ H R I h => ?_⟩
  refine Call_ (ld_blt I hg hm PyProof.Rows.boot_zip (PyProof.Rows.callWith_type1 (thn (ha.run pos pins s σ H _ I h) fun us s1 ⟨vs, H1, I1, r1, q1⟩ => ?_) hs hpl))
  obtain ⟨b1, b2, a, b, xs, ys, ex, hqx, hqy, q⟩ := q1
  subst ex
  cases r1 with
  | cons r rr =>
    cases rr with
    | cons r' rr =>
      cases rr
      cases r
      cases r'
      obtain ⟨its, rv, p1⟩ := inv_B I1 hqx
      obtain ⟨its2, rv2, p2⟩ := inv_B I1 hqy
      refine zip_begins2 (begins_B (b := b1) (a := a) (its := its.toArray)) (begins_B (b := b2) (a := b) (its := its2.toArray)) p1 p2 fun h' hz hTI hTO h1 h2 hsz hk => wpAny_pyIter_zip hz ?_
      have I2 : Inv X pins σ H1 { s1 with heap := h' } := I1.kept (t' := s1.toks) hk
      refine ⟨s1.heap.objs.size + 4, [s1.heap.objs.size + 4, s1.heap.objs.size + 2, s1.heap.objs.size + 3, s1.heap.objs.size, s1.heap.objs.size + 1], _, _, H1, rfl, I2,
        turn_zipB (zip_sep2 (N := s1.heap.objs.size) (fp1 := [a]) (fp2 := [b]) (fun c hc => by rw [List.mem_singleton.mp hc]; exact p1.lt) fun c hc => by rw [List.mem_singleton.mp hc]; exact p2.lt), ⟨hz, hTI, ⟨_, _, hTO⟩, itB_new h1, itB_new h2⟩, fun c hcm => ?_, q⟩
      have e' : c = s1.heap.objs.size + 4 ∨ c = s1.heap.objs.size + 2 ∨ c = s1.heap.objs.size + 3 ∨ c = s1.heap.objs.size ∨ c = s1.heap.objs.size + 1 := by simpa using hcm
      have hle : s1.heap.objs.size ≤ c := by
        rcases e' with z | z | z | z | z
        · rw [z]; exact Nat.le_add_right _ _
        · rw [z]; exact Nat.le_add_right _ _
        · rw [z]; exact Nat.le_add_right _ _
        · rw [z]; exact Nat.le_refl _
        · rw [z]; exact Nat.le_add_right _ _
      exact I1.fpOk hle (I1.hok.fresh hle)
theorem walk_zipB {b1 b2 : Bool} {K : PySem.W.Frag} {a b : Addr} {xs ys : List V} {n : Nat} (hn : n = min xs.length ys.length) : Walk (ItzB b1 b2 K a b) n (fun H => SqB b1 K H a xs ∧ SqB b2 K H b ys) (YPair (fun i => xs[i]?) (fun i => ys[i]?)) := by
  refine ⟨fun i _ hi q => ⟨xs, ys, xs[i]'(by omega), ys[i]'(by omega), q.1, q.2, List.getElem?_eq_getElem _, List.getElem?_eq_getElem _⟩, fun _ q => ⟨xs, ys, q.1, q.2, by omega, by omega, by omega⟩, fun i H v H' _ q y => ?_⟩
  obtain ⟨T, x, y, h1, h2, h3, h4, h5⟩ := y
  exact ⟨T, x, y, h1, h2, h3, h4 xs q.1, h5 ys q.2⟩
noncomputable section
def iZpB (f : PAF) : IF := fun ρ P => f ρ fun zs => match zs with
  | [(k, d), (k', e)] => (match d.seq, e.seq with
    | some ds, some es => P (zipD k k' ds es)
    | _, _ => False)
  | _ => False
theorem di_zipB {X : Cx} {a b : Expr} {f : PAF} {p pos tpos : Pos} {elts : List Expr} {kk : Nat} (hg : Gl X "zip") (hm : X.mg "zip" = none) (ha : DA X [a, b] 2 f) (hs : starEach [a, b] X.env = (false, eval a X.env) :: starEach [b] X.env := by rfl) (hpl : (backTo pos (starEach [b] X.env)).any (·.1) = false := by rfl) :
    DI X (.Tuple elts kk tpos) (.Call (.Name "zip" p) [a, b] [] pos) (iZpB f) := by
  obtain ⟨t, e, s⟩ := ha.run
  refine ⟨_, pi_zipB hg hm e hs hpl, fun σ H A ρ ow R P Z g hz h q => ?_⟩
  refine s σ H A ρ ow _ _ g h fun zs vs H1 _ hh s1 p1 => ?_
  split at hh
  · rename_i k d k' d' _
    obtain ⟨v, w, ev, p2, p3⟩ := p1.get2
    subst ev
    cases e1 : d.seq with
    | none => rw [e1] at hh; exact hh.elim
    | some ds =>
      cases e2 : d'.seq with
      | none => rw [e1, e2] at hh; exact hh.elim
      | some es =>
        rw [e1, e2] at hh
        obtain ⟨y, vs, rfl, r, t⟩ := seq_src hz s1 p2.tr e1
        obtain ⟨y', vs', rfl, r', t'⟩ := seq_src hz s1 p3.tr e2
        have key : ∀ i z, (zipD k k' ds es)[i]? = some z → ∃ d d', z = (pairK k k', D.tup [d, d']) ∧ ∀ x y, vs[i]? = some x → vs'[i]? = some y → ∀ H2, OkZ Z H1 H2 → RA X.K (k.elA (BB A ow) (Fre2 H H1)) H2 d x ∧ RA X.K (k'.elA (BB A ow) (Fre2 H H1)) H2 d' y := fun i z hzz => by
          obtain ⟨d, e, hd, he, rfl⟩ := zipD_of hzz
          refine ⟨d, e, rfl, fun x y hx hy H2 ok => ⟨?_, ?_⟩⟩
          · obtain ⟨w, hw, rw'⟩ := (elA_keeps (ok.keep (fre2 (H := H1)) hz s1) r).get hd
            rw [hx] at hw
            cases hw
            exact rw'
          · obtain ⟨w, hw, rw'⟩ := (elA_keeps (ok.keep (fre2 (H := H1)) hz s1) r').get he
            rw [hy] at hw
            cases hw
            exact rw'
        have hl : (zipD k k' ds es).length = min vs.length vs'.length := by rw [zipD_len, r.len, r'.len]
        have side : ∀ {q : Addr} {us : List V}, ((∀ H2, OkZ Z H1 H2 → SqL X.K H2 q us) ∨ (∀ H2, OkZ Z H1 H2 → SqT X.K H2 q us)) → ∃ b : Bool, ∀ H2, OkZ Z H1 H2 → SqB b X.K H2 q us := fun h => by
          rcases h with h | h
          · exact ⟨true, h⟩
          · exact ⟨false, h⟩
        obtain ⟨b1, t⟩ := side t
        obtain ⟨b2, t'⟩ := side t'
        exact ⟨b1, b2, y, y', vs, vs', rfl, t H1 .refl, t' H1 .refl, q _ _ H1 hh s1 (walks_pair (k := k) (k' := k') (walk_zipB (K := X.K) (n := (zipD k k' ds es).length) hl) rfl (fun H2 ok => ⟨t H2 ok, t' H2 ok⟩) key)⟩
  · exact hh.elim
end
end DL

namespace DL
open PySem PySem.Spec PyProof PyProof.Rows L2
def lstB (K : PySem.W.Frag) (p : Str × List He.Dv) : Bool := match K.lookup (He.ga K p.1) with
  | some ⟨.type c, none, .seq its _, _⟩ => decide (c = "list") && (decide (its.size ≤ 100000) && He.relAll (p.2.map (He.Dv.v K)) its.toList)
  | _ => false
abbrev AlL : Type := He.AlD × Bool
def obsL (fa : List He.Fa) (fn : List He.DefD) (ls : List (Str × List He.Dv)) (K : PySem.W.Frag) : AlL := (He.obsD fa fn K, ls.all (lstB K))
def obsLG (n : Nat) (fa : List He.Fa) (fn : List He.DefD) (ls : List (Str × List He.Dv)) (g : Addr → Option Obj) : AlL := obsL fa fn ls (He.frG g (He.asD g n))
def hookL (n : Nat) (fa : List He.Fa) (fn : List He.DefD) (ls : List (Str × List He.Dv)) : PySem.W.Hook where
  α := AlL
  obs := fun s => obsLG n fa fn ls s.heap.get?
  val := fun _ => (He.valD fn, true)
  says := fun _ h => ∃ K : PySem.W.Frag, K.In h ∧ He.SaysD fa fn K ∧ ls.all (lstB K) = true
  of := fun _ _ e => ⟨_, He.frG_in, congrArg (fun z : AlL => z.1) e, congrArg (fun z : AlL => z.2) e⟩
  keeps := fun _ _ _ ⟨K, hK, c⟩ k => ⟨K, PySem.W.Frag.In.keeps hK k, c⟩
theorem obsLG_eq {n : Nat} {fa : List He.Fa} {fn : List He.DefD} {ls : List (Str × List He.Dv)} {g : Addr → Option Obj} {s : Shared} (h : ∀ a, g a = s.heap.get? a) : obsLG n fa fn ls g = (hookL n fa fn ls).obs s := by
  have e : g = s.heap.get? := funext h
  rw [e] <;> rfl
noncomputable section
theorem RAs.strs {K : Frg} {A : Addr → Prop} {H : Hp} : ∀ {ys : List Str} {vs : List V}, RAs K A H (ys.map .str) vs → vs = ys.map V.str
  | [], _, h => h
  | y :: ys, _, ⟨w, ws, e, h, r⟩ => by
    have h : w = .str y := h
    rw [e, h, RAs.strs r]; rfl
end
end DL

namespace DL
open PySem PySem.Spec PyProof PyProof.Rows L2
noncomputable section
end
end DL

namespace DL
open PySem PySem.Spec PyProof PyProof.Rows L2
noncomputable section
end
end DL

namespace DL
open PySem PySem.Spec PyProof PyProof.Rows L2
noncomputable section
def oKey (k : Key) (z : KD) (P : KD → Prop) : Prop := match z.2 with
  | .dcK ks ds => ∃ (j : Nat) (d : D), ks.Nodup ∧ ks[j]? = some k ∧ ds[j]? = some d ∧ P (kel .rd d)
  | _ => False
@[irreducible] def xKey (k : Key) (z : KD) (P : KD → Prop) : Prop := hid (oKey k z P)
section
variable {X : Cx} {pos ip : Pos}
def oKeyP (k : Key) (i : Nat) (e : D) (rb : D → D) (P : Nat → Kd → D → (D → D) → Prop) : Prop := match e with
  | .dcK ks ds => ∃ (j : Nat) (d : D), ks.Nodup ∧ ks[j]? = some k ∧ ds[j]? = some d ∧ P i .ow d (fun c' => rb (.dcK ks (ds.set j c')))
  | _ => False
@[irreducible] def xKeyP (k : Key) (i : Nat) (e : D) (rb : D → D) (P : Nat → Kd → D → (D → D) → Prop) : Prop := hid (oKeyP k i e rb P)
end
section
variable {K : Frg} {H : Hp}
end
def oKeyS (k : Key) (e : D) (z : D) (P : D → Prop) : Prop := match e with
  | .dcK ks ds => ∃ (j : Nat), ks.Nodup ∧ ks.length < 1000 ∧ ks[j]? = some k ∧ j < ds.length ∧ P (.dcK ks (ds.set j z))
  | _ => False
@[irreducible] def xKeyS (k : Key) (e : D) (z : D) (P : D → Prop) : Prop := hid (oKeyS k e z P)
def oTwoO (z : KD) (P : D → D → Prop) : Prop := ownK z.1 = true ∧ match z.2 with
  | .tup [a, b] => P a b
  | _ => False
@[irreducible] def xTwoO (z : KD) (P : D → D → Prop) : Prop := hid (oTwoO z P)
section
variable {X : Cx} {E : XK} {pr : List Nat} {pos : Pos}
end
end
end DL

namespace DL
open PySem PySem.Spec PyProof PyProof.Rows L2
noncomputable section
section
variable {K : Frg} {A : Addr → Prop} {H : Hp} {ρ : Ro} {σ : L2.St} {ow : List Addr} {i x : Nat} {k : Kd} {e : D} {rb : D → D} {w : V}
end
section
variable {X : Cx} {E : XK} {pr : List Nat} {pos : Pos}
end
structure PKs (X : Cx) (pos : Pos) (keys : List (Option Expr)) (values : List Expr) (ks : List Str) (t : TA) : Prop where
  run : ∃ trs, PPs X pos keys values trs ∧ tPairs trs = fun σ H Q => t σ H fun vs H' => Q ((ks.map V.str).zip vs) H'
theorem VRs.rs {K : Frg} {A : Addr → Prop} {H : Hp} : ∀ {zs : List KD} {vs : List V} {fp : List Addr}, VRs K A H zs vs fp → zs.all (fun z => ownK z.1) = true → Rs K No H (zs.map (·.2)) vs fp
  | [], _, _, h, _ => h
  | z :: zs, _, _, ⟨w, ws, f1, f2, e, e2, h, t⟩, c => by
    have c' := Bool.and_eq_true_iff.mp (show (ownK z.1 && zs.all fun z => ownK z.1) = true from c)
    exact ⟨w, ws, f1, f2, e, e2, VR.rown h c'.1, VRs.rs t c'.2⟩
section
variable {X : Cx} {E : XK} {pos : Pos}
structure DPK (X : Cx) (E : XK) (pos : Pos) (keys : List (Option Expr)) (values : List Expr) (ks : List Str) (n : Nat) (g : AEF) : Prop where
  run : ∃ t, PKs X pos keys values ks t ∧ AESound X.K E n t g
end
section
variable {X : Cx} {E : XK} {pos cpos apos px tpos : Pos}
end
end
end DL

namespace DL
open PySem PySem.Spec PyProof PyProof.Rows L2
noncomputable section
section
variable {X : Cx} {E : XK} {pr : List Nat} {st : Stmt} {f : SF}
end
end
end DL

namespace DL
open PySem PySem.Spec PyProof PyProof.Rows L2
noncomputable section
section
variable {X : Cx} {E : XK} {CX : CXT} {k m : Nat} {f : Addr} {ps : List Str} {c : CF} {ms : List Bool} {x : Str} {p pos : Pos} {e : Expr} {es : List Expr} {g : PAF} {pl : PLF}
end
end
end DL

namespace DL
open PySem PySem.Spec PyProof PyProof.Rows L2
noncomputable section
section
variable {X : Cx} {pos : Pos} {a : Expr} {fa : PF}
end
end
end DL

namespace DL
open PySem PySem.Spec PyProof PyProof.Rows L2
noncomputable section
section
variable {X : Cx} {E : XK} {pr : List Nat} {st : Stmt} {f : SF}
end
end
end DL

namespace DL
open PySem PySem.Spec PyProof PyProof.Rows L2
noncomputable section
def D.wk : D → D
  | .key ns => .tup (ns.map .int)
  | .tpx ns => .tup (ns.map .int)
  | d => d
section
variable {K : Frg} {A B F : Addr → Prop} {H : Hp}
theorem RA.wk {d : D} {v : V} (h : RA K A H d v) : RA K A H d.wk v := by
  cases d with
  | key ns =>
    obtain ⟨p, e, t⟩ := h
    exact ⟨p, _, e, .inl (.inl t), RAs.of_ints _⟩
  | tpx ns =>
    obtain ⟨p, o, e, t, _⟩ := h
    exact ⟨p, _, e, .inl (.inr ⟨o, t⟩), RAs.of_ints _⟩
  | _ => exact h
theorem VR.wk {k : Kd} {d : D} {v : V} {f : List Addr} (h : VR K A H (k, d) v f) : VR K A H (k, d.wk) v f := by
  cases d with
  | key ns =>
    cases k with
    | fl => exact ⟨h.1, RA.wk h.2⟩
    | rd => exact ⟨h.1, RA.wk h.2⟩
    | sa => exact h.2.2.elim
    | sh => exact h.2.elim
    | ow => obtain ⟨e, h⟩ := h; subst e; exact R.of0 _ _ (RA.wk h)
  | tpx ns =>
    cases k with
    | fl => exact ⟨h.1, RA.wk h.2⟩
    | rd => exact ⟨h.1, RA.wk h.2⟩
    | sa => exact h.2.2.elim
    | sh => exact h.2.elim
    | ow => obtain ⟨e, h⟩ := h; subst e; exact R.of0 _ _ (RA.wk h)
  | _ => exact h
theorem PR.wk {z : KD} {v : V} (h : PR K B F H v z) : PR K B F H v (z.1, z.2.wk) := let ⟨fp, a, b, c⟩ := h; ⟨fp, VR.wk a, b, c⟩
end
section
variable {X : Cx} {o e : Expr} {es : List Expr} {to : TE} {t : TA} {name : Str} {apos cpos : Pos} {id : String} {r : V → List V → Hp → VK → Prop}
end

section
variable {prog : Program} {w : World} {A : Around} {E : Value → Shared → Prop} {s : Shared} {l : Addr} {xs : Array (Int × Tok)} {its : List Value} {ns : List Int} {Q : Value → Shared → Prop}
end
end
end DL

namespace DL
open PySem PySem.Spec PyProof PyProof.Rows L2
noncomputable section
abbrev TD := List (List Int × Int)
abbrev lowK (k : List Int) : List Key := k.map Sum.inl
def lowT (kvs : TD) : List (List Key × V) := kvs.map fun x => (lowK x.1, V.int x.2)
def dtD (kvs : TD) : D := .dcT (kvs.map fun x => lowK x.1) (kvs.map fun x => .int x.2)
def look (kvs : TD) (k : List Int) : Option Int := (kvs.find? fun x => decide (x.1 = k)).map (·.2)
def putI (kvs : TD) (k : List Int) (i : Int) : TD := if (kvs.any fun x => decide (x.1 = k)) = true then kvs.map (fun x => if x.1 = k then (x.1, i) else x) else kvs ++ [(k, i)]
theorem low_eq {kvs : TD} : ∀ {kv2 : List (List Key × V)}, kv2.map (·.1) = (kvs.map fun x => lowK x.1) → kv2.map (·.2) = (kvs.map fun x => V.int x.2) → kv2 = lowT kvs := by
  induction kvs with
  | nil => intro kv2 h _; exact List.map_eq_nil_iff.mp h
  | cons x kvs ih =>
    intro kv2 h1 h2
    cases kv2 with
    | nil => cases h1
    | cons y r =>
      obtain ⟨a, b⟩ := y
      rw [List.map_cons, List.map_cons] at h1 h2
      have a1 := (List.cons.inj h1).1
      have a2 := (List.cons.inj h2).1
      dsimp only at a1 a2
      rw [ih (List.cons.inj h1).2 (List.cons.inj h2).2, a1, a2]; rfl
section
variable {K : Frg} {A B F : Addr → Prop} {H : Hp} {kvs : TD} {v : V} {fp : List Addr}
theorem RAs.intv : ∀ {kvs : TD} {vs : List V}, RAs K A H (kvs.map fun x => .int x.2) vs → vs = kvs.map fun x => V.int x.2
  | [], _, h => h
  | x :: kvs, _, ⟨w, ws, e, h, t⟩ => by
    have e1 : w = V.int x.2 := h
    rw [e, e1, RAs.intv (kvs := kvs) t]; rfl
theorem RAs.of_intv : ∀ {kvs : TD}, RAs K A H (kvs.map fun x => .int x.2) (kvs.map fun x => V.int x.2)
  | [] => rfl
  | x :: kvs => ⟨_, _, rfl, rfl, RAs.of_intv (kvs := kvs)⟩
theorem RA.dt (h : RA K A H (dtD kvs) v) : ∃ p, v = .ref p ∧ A p ∧ Rd H p (.dT (lowT kvs)) := by
  obtain ⟨p, k2, e, a, t, e1, r⟩ := h
  refine ⟨p, e, a, ?_⟩
  rw [← low_eq e1 (RAs.intv r)]; exact t
theorem R.dt (h : R K A H (dtD kvs) v fp) : ∃ p, v = .ref p ∧ fp = [p] ∧ H p = some (.dT (lowT kvs)) := by
  obtain ⟨p, k2, fps, e, e2, t, e1, r⟩ := h
  have z : RAs K (fun _ => True) H (kvs.map fun x => .int x.2) (k2.map (·.2)) := Rs.ra (fun _ _ => trivial) _ _ _ (fun _ _ => trivial) r
  have e3 : fps = [] := Rs.nil0 (K := K) (A := A) (H := H) (H' := H) _ fps ⟨_, RAs.of_intv⟩ ⟨_, r⟩
  subst e3
  exact ⟨p, e, e2, by rw [← low_eq e1 (RAs.intv z)]; exact t⟩
end
def isT (d : D) (kvs : TD) : Prop := d = dtD kvs ∨ d = .lkT kvs
theorem RA.isT {K : Frg} {A : Addr → Prop} {H : Hp} {d : D} {kvs : TD} {v : V} (e : isT d kvs) (h : RA K A H d v) : ∃ p, v = .ref p ∧ Rd H p (.dT (lowT kvs)) := by
  rcases e with e | e
  · subst e
    obtain ⟨p, e, _, t⟩ := RA.dt h
    exact ⟨p, e, t⟩
  · subst e
    obtain ⟨p, o, e, t⟩ := h
    exact ⟨p, e, .inr ⟨o, t⟩⟩
def oGetK (x y : KD) (P : KD → Prop) : Prop := ∃ kvs ns i, isT x.2 kvs ∧ y.2 = .key ns ∧ look kvs ns = some i ∧ P (.fl, .int i)
@[irreducible] def xGetK (x y : KD) (P : KD → Prop) : Prop := hid (oGetK x y P)
def oIsT (x : KD) (P : TD → Prop) : Prop := ∃ kvs, isT x.2 kvs ∧ P kvs
@[irreducible] def xIsT (x : KD) (P : TD → Prop) : Prop := hid (oIsT x P)
def oGet2K (kvs : TD) (y z : KD) (P : KD → Prop) : Prop := ∃ ns j, y.2 = .key ns ∧ z.2 = .int j ∧ P (.fl, .int ((look kvs ns).getD j))
@[irreducible] def xGet2K (kvs : TD) (y z : KD) (P : KD → Prop) : Prop := hid (oGet2K kvs y z P)
section
variable {X : Cx} {pos ip : Pos}
end
def oPutK (e : D) (y z : KD) (P : D → Prop) : Prop := ∃ kvs ns i, e = dtD kvs ∧ y.2 = .key ns ∧ z.2 = .int i ∧ kvs.length < 10000000 ∧ P (dtD (putI kvs ns i))
@[irreducible] def xPutK (e : D) (y z : KD) (P : D → Prop) : Prop := hid (oPutK e y z P)
section
variable {X : Cx} {E : XK} {pr : List Nat} {pos : Pos}
def oLck (sl : Option Sl) (P : TD → Prop) : Prop := match sl with
  | some (some (.ow, d)) => ∃ kvs, d = dtD kvs ∧ P kvs
  | _ => False
@[irreducible] def xLck (sl : Option Sl) (P : TD → Prop) : Prop := hid (oLck sl P)
end
end
end DL

namespace SrtO
open PySem PyProof.Rows Srt
section
variable {prog : Program} {w : World} {A : Around} {E : Value → Shared → Prop} {s : Shared}
end
end SrtO
namespace DL
open PySem PySem.Spec PyProof PyProof.Rows L2
noncomputable section
end
end DL
namespace DL
open PySem PySem.Spec PyProof PyProof.Rows L2
noncomputable section
section
variable {X : Cx} {e : Expr} {f : PF} {pos : Pos}
end
end
end DL

namespace DL
open PySem PySem.Spec PyProof PyProof.Rows L2
section
variable {X : Cx} {o : Expr} {p pos apos mpos : Pos} {td : TE}
end
noncomputable section
def oMinK (x : KD) (P : KD → Prop) : Prop := ∃ kvs, isT x.2 kvs ∧ kvs ≠ [] ∧ ∀ m, m ∈ kvs.map (·.2) → (∀ j ∈ kvs.map (·.2), m ≤ j) → P (.fl, .int m)
@[irreducible] def xMinK (x : KD) (P : KD → Prop) : Prop := hid (oMinK x P)
end
end DL

namespace DL
open PySem PySem.Spec PyProof PyProof.Rows L2

noncomputable section
section
variable {X : Cx} {pos : Pos} {a : Expr} {fa : PF}
def tLkP (t : TE) : TE := fun σ H Q => t σ H fun x H1 => ∃ a u, x = .ref a ∧ H1 a = some u ∧ Mut (some u) ∧ ∀ od, Q x (upd H1 a (.frz od u))
theorem pe_lkP {e : Expr} {t : TE} (he : PE X e t) : PE X e (tLkP t) :=
  ⟨fun pins s σ H Q I h => thn (he.run pins s σ H _ I h) fun v s1 ⟨x, H1, I1, r, a, u, ex, hu, mu, q⟩ => let ⟨od, I2⟩ := I1.lock hu mu; ⟨x, _, I2, r, q od⟩⟩
def pLk (f : PF) : PF := fun ρ P => f ρ fun z => match z with
  | (.sh, .lst ds) => P (.fl, .kst ds)
  | _ => False
theorem dp_lk {e : Expr} {f : PF} (he : DP X e f) : DP X e (pLk f) := by
  obtain ⟨ta, ea, sa⟩ := he.run
  refine ⟨_, pe_lkP ea, fun σ H A ρ ow Q P gd hf q => ?_⟩
  refine sa σ H A ρ ow _ _ gd hf fun z v H1 hz s1 p1 => ?_
  split at hz
  · rename_i ds
    obtain ⟨fp, ⟨hr, hs⟩, nd, hF⟩ := p1
    obtain ⟨p, vs, fps, rfl, rfl, hp, rs⟩ := hr
    obtain ⟨p', vs', e', hp', r0⟩ := hs
    cases e'
    rw [hp] at hp'; cases hp'
    have hpn : H p = none := hF p (by simp)
    refine ⟨p, _, rfl, hp, True.intro, fun od => ?_⟩
    have sm : Same H (upd H1 p (.frz od (.lst vs))) := fun b o e => by
      rw [upd_ne (fun z => by rw [z, hpn] at e; cases e)]
      exact s1 b o e
    refine q _ _ _ hz sm (.fl ⟨p, vs, rfl, .inl (.inr ⟨od, lockd_mk upd_same⟩), RAs.keep (fun b o e h => ?_) _ _ r0⟩)
    rcases h with h | h
    · exact h.elim
    · rw [upd_ne (fun z => by rw [z, hp] at e; cases e; exact h)]
      exact e
  · exact hz.elim
end
def oLkL (sl : Option Sl) (P : List D → Prop) : Prop := match sl with
  | some (some (k, .lst ds)) => (k = .sh ∨ k = .ow) ∧ D.imms ds = true ∧ P ds
  | _ => False
@[irreducible] def xLkL (sl : Option Sl) (P : List D → Prop) : Prop := hid (oLkL sl P)
section
variable {X : Cx} {E : XK} {pr : List Nat}
end
end
end DL

namespace DL
open PySem PySem.Spec PyProof.Rows L2
noncomputable section
section
variable {X : Cx} {E : XK} {pr : List Nat} {pos : Pos}
end
end
end DL

namespace DL
open PySem PySem.Spec PyProof.Rows L2
open PySem.W (AlikeAll alike dataLt minD reads_keeps readsAll_len iter_listW iter_tupleW cmpIn_lt moved_old argBest_fold alikeAll dataLt_ints dataLt_tuple rowLt)
noncomputable section
section
variable {prog : Program} {w : World} {A : Around} {E : Value → Shared → Prop} {s : Shared}
end
abbrev pI (ns : List Int) : PyData := .tuple (ns.map .int)
end
end DL

namespace DL
open PySem PySem.Spec PyProof.Rows L2
noncomputable section
section
variable {K : Frg} {A : Addr → Prop} {H : Hp}
def swpL {α : Type} (l : List α) (m k : Nat) (x y : α) : List α := (l.set m y).set k x
end
def sSwR (x i j : Nat) : SF := fun D ρ => match ρ[x]?, ρ[i]?, ρ[j]? with
  | some (some (.ow, .lst ds)), some (some (_, .int a)), some (some (_, .int b)) => ∃ m k u w, ixN ds.length a = some m ∧ ixN ds.length b = some k ∧ ds[m]? = some u ∧ ds[k]? = some w ∧ D.nx (ρ.set x (some (.ow, .lst (swpL ds m k u w))))
  | _, _, _ => False
@[irreducible] def sSwRX (x i j : Nat) : SF := fun D ρ => hid (sSwR x i j D ρ)
section
variable {X : Cx} {E : XK} {pr : List Nat} {pos : Pos}
end
end
end DL

namespace DL
open PySem PySem.Spec PyProof.Rows L2
open PySem.W (AlikeAll minD)
noncomputable section
section
variable {X : Cx} {pos : Pos} {a : Expr} {fa : PF}
end
end
end DL

namespace HT
open PySem PySem.Spec PyProof.Rows
section
variable {prog : Program} {w : World} {A : Around} {E : Value → Shared → Prop} {s : Shared}
end
end HT
namespace DL
open PySem PySem.Spec PyProof.Rows L2
noncomputable section
section
variable {X : Cx} {pos : Pos} {a : Expr} {fa : PF}
end
end
end DL

namespace DL
open PySem PySem.Spec PyProof.Rows L2
noncomputable section
end
end DL

namespace DL
open PySem PySem.Spec PyProof PyProof.Rows L2
noncomputable section
def SSoundW (K : Frg) (W : WX) (pr : List Nat) (t : TS) (f : SF) : Prop := ∀ (σ : L2.St) (H : Hp) (A : Addr → Prop) (ρ : Ro) (ow : List Addr) (T : Ends) (D : DEnds), Good K A H ρ σ ow → f D ρ →
  (∀ ρ' σ' H' ow' A', D.nx ρ' → Stp H ow A H' ow' A' → Good K A' H' ρ' σ' ow' → (∀ i ∈ pr, σ'[i]? = σ[i]?) → T.nx σ' H') →
  (∀ z ρ' v σ' H' fp ow' A', D.rt z ρ' → Stp H ow A H' (fp ++ ow') A' → Good K A' H' ρ' σ' ow' → Own K A' H' z v fp ow' → (∀ i ∈ pr, σ'[i]? = σ[i]?) → T.rt v H') →
  (∀ C ρ' σ' H' ow' A', D.ex C ρ' → Stp H ow A H' ow' A' → Good K A' H' ρ' σ' ow' → (∀ i ∈ pr, σ'[i]? = σ[i]?) → W (.ref (He.ga K C)) none σ' H') → t T σ H
structure DB (X : Cx) (W : WX) (pr : List Nat) (st : List Stmt) (f : SF) : Prop where
  run : ∃ t, PSs X st t ∧ SSoundW X.K W pr t f
section
variable {X : Cx} {W : WX} {pr : List Nat}
end
theorem Good.non {K : Frg} {A : Addr → Prop} {H : Hp} {ρ : Ro} {σ : L2.St} {ow : List Addr} {i : Nat} {x : Option V} (g : Good K A H ρ σ ow) : ∃ ow', Good K A H (ρ.set i none) (σ.set i x) ow' ∧ ∀ a ∈ ow', a ∈ ow := by
  cases e : ρ[i]? with
  | none =>
    have h1 : ρ.length ≤ i := List.getElem?_eq_none_iff.mp e
    have h2 : σ.length ≤ i := by rw [g.rep.len]; exact h1
    rw [List.set_eq_of_length_le h1, List.set_eq_of_length_le h2]
    exact ⟨ow, g, fun a h => h⟩
  | some s =>
    obtain ⟨y, f1, f2, f3, hx, e2, _, put⟩ := g.rep.split e
    have nd := g.nd
    subst e2
    refine ⟨f1 ++ ([] ++ f3), ⟨put H A none x [] (fun _ h => h) (fun a o e _ => e) rfl, ?_, fun a h => ?_, g.tr⟩, fun a h => ?_⟩
    · obtain ⟨m1, m2, m3⟩ := List.nodup_append.mp nd
      obtain ⟨_, m5, m6⟩ := List.nodup_append.mp m2
      exact List.nodup_append.mpr ⟨m1, m5, fun a ha b hb => m3 a ha b (by simp at hb; simp [hb])⟩
    · refine g.dis a ?_
      rcases List.mem_append.mp h with h | h
      · simp [h]
      · simp at h; simp [h]
    · rcases List.mem_append.mp h with h | h
      · simp [h]
      · simp at h; simp [h]
section
variable {X : Cx} {e : Expr} {f : PF} {p p2 pos : Pos} {x : Str} {tab : List (Str × Bool)}
end
inductive XF where
  | exc (C : Str) | kit (C D : Str) (b : Bool) | kitT (C : Str) (T : String) (b : Bool)
def XF.ok (K : PySem.W.Frag) : XF → Bool
  | .exc C => decide (PySem.W.findIn K (.ref (He.ga K C)) "__getattribute__" = some (some (.builtin "BaseException.__getattribute__"))) && (decide (PySem.W.findIn K (.ref (He.ga K C)) "__getattr__" = some none) &&
      (decide (PySem.W.subIn K (.ref (He.ga K C)) (.type "BaseException") = some true) && (PySem.W.hasDictIn K (He.ga K C) && (decide (PySem.W.findIn K (.ref (He.ga K C)) "__class__" = some (some (.builtin "object.__class__"))) &&
      (decide (PySem.W.specialIn K (.builtin "object.__class__") "__get__" = some (some (.builtin "getset_descriptor.__get__"))) && (decide (PySem.W.takesIn K (.builtin "object.__class__") = some true) && decide (PySem.W.mroIn K (He.ga K C) (.type "object") = some true)))))))
  | .kit C D b => decide (PySem.W.kitOne K (.ref (He.ga K C)) (.ref (He.ga K D)) = some b)
  | .kitT C T b => decide (PySem.W.kitOne K (.ref (He.ga K C)) (.type T) = some b)
end
end DL

namespace DL
open PySem PySem.Spec PyProof PyProof.Rows L2
noncomputable section
end
end DL

namespace DL
open PySem PySem.Spec PyProof PyProof.Rows L2
noncomputable section
mutual
def D.cnt : D → Nat
  | .tup ds => D.cnts ds
  | .lst ds => D.cnts ds + 1
  | _ => 0
def D.cnts : List D → Nat
  | [] => 0
  | d :: ds => D.cnt d + D.cnts ds
end
mutual
def D.trkOk : D → Bool
  | .tup ds => D.trkOks ds
  | .lst ds => D.trkOks ds
  | .dcT _ _ => false
  | .dcN _ => false
  | .dcK _ _ => false
  | .obj _ _ _ => false
  | .lsA _ _ => false
  | .frz _ => false
  | _ => true
def D.trkOks : List D → Bool
  | [] => true
  | d :: ds => D.trkOk d && D.trkOks ds
end
mutual
def D.trk : D → List Addr → D
  | .tup ds, fp => .tup (D.trks ds fp)
  | .lst ds, fp => .lsA (fp.headD 0) (D.trks ds fp.tail)
  | d, _ => d
def D.trks : List D → List Addr → List D
  | [], _ => []
  | d :: ds, fp => D.trk d (fp.take (D.cnt d)) :: D.trks ds (fp.drop (D.cnt d))
end
section
variable {K : Frg} {A B : Addr → Prop} {H : Hp}
mutual
theorem R.cnt : ∀ (d : D) (v : V) (fp : List Addr), R K A H d v fp → D.trkOk d = true → fp.length = D.cnt d
  | .tup ds, _, fp, ⟨p, vs, e, t, r⟩, c => Rs.cnt ds vs fp r c
  | .lst ds, _, fp, ⟨p, vs, fps, e, e2, t, r⟩, c => by rw [e2]; exact congrArg (· + 1) (Rs.cnt ds vs fps r c)
  | .non, _, _, h, _ => by rw [h.1]; rfl
  | .bl _, _, _, h, _ => by rw [h.1]; rfl
  | .int _, _, _, h, _ => by rw [h.1]; rfl
  | .str _, _, _, h, _ => by rw [h.1]; rfl
  | .fn _, _, _, h, _ => by rw [h.1]; rfl
  | .ad _, _, _, h, _ => by rw [h.1]; rfl
  | .key _, _, _, h, _ => by rw [h.1]; rfl
  | .tpx _, _, _, h, _ => by rw [h.1]; rfl
  | .exn _, _, _, h, _ => by rw [h.1]; rfl
  | .dcL _, _, _, h, _ => by rw [h.1]; rfl
  | .lkT _, _, _, h, _ => by rw [h.1]; rfl
  | .any, _, _, h, _ => by rw [h.1]; rfl
  | .kst _, _, _, h, _ => by rw [h.1]; rfl
  | .dcT _ _, _, _, _, c => by cases c
  | .dcN _, _, _, _, c => by cases c
  | .dcK _ _, _, _, _, c => by cases c
  | .obj _ _ _, _, _, _, c => by cases c
  | .lsA _ _, _, _, _, c => by cases c
  | .frz _, _, _, _, c => by cases c
theorem Rs.cnt : ∀ (ds : List D) (vs : List V) (fp : List Addr), Rs K A H ds vs fp → D.trkOks ds = true → fp.length = D.cnts ds
  | [], _, _, h, _ => by rw [h.2]; rfl
  | d :: ds, _, _, ⟨w, ws, f1, f2, e, e2, h, t⟩, c => by
    have c' := Bool.and_eq_true_iff.mp (show (D.trkOk d && D.trkOks ds) = true from c)
    rw [e2, List.length_append, R.cnt d w f1 h c'.1, Rs.cnt ds ws f2 t c'.2]; rfl
end
mutual
theorem R.trk (m : ∀ a, A a → B a) : ∀ (d : D) (v : V) (fp : List Addr), R K A H d v fp → D.trkOk d = true → (∀ a ∈ fp, B a) → RA K B H (D.trk d fp) v
  | .tup ds, _, fp, ⟨p, vs, e, t, r⟩, c, hB => ⟨p, vs, e, t, Rs.trk m ds vs fp r c hB⟩
  | .lst ds, _, fp, ⟨p, vs, fps, e, e2, t, r⟩, c, hB => by
    subst e2
    exact ⟨e, hB p (by simp), vs, t, Rs.trk m ds vs fps r c fun a h => hB a (by simp [h])⟩
  | .non, _, _, h, _, _ => RA.no h.2
  | .bl _, _, _, h, _, _ => RA.no h.2
  | .int _, _, _, h, _, _ => RA.no h.2
  | .str _, _, _, h, _, _ => RA.no h.2
  | .fn _, _, _, h, _, _ => RA.no h.2
  | .ad _, _, _, h, _, _ => RA.no h.2
  | .key _, _, _, h, _, _ => RA.no h.2
  | .tpx _, _, _, h, _, _ => RA.no h.2
  | .exn _, _, _, h, _, _ => RA.no h.2
  | .dcL _, _, _, h, _, _ => RA.no h.2
  | .lkT _, _, _, h, _, _ => RA.no h.2
  | .any, _, _, h, _, _ => RA.no h.2
  | .kst _, _, _, h, _, _ => RA.no h.2
  | .dcT _ _, _, _, _, c, _ => by cases c
  | .dcN _, _, _, _, c, _ => by cases c
  | .dcK _ _, _, _, _, c, _ => by cases c
  | .obj _ _ _, _, _, _, c, _ => by cases c
  | .lsA _ _, _, _, _, c, _ => by cases c
  | .frz _, _, _, _, c, _ => by cases c
theorem Rs.trk (m : ∀ a, A a → B a) : ∀ (ds : List D) (vs : List V) (fp : List Addr), Rs K A H ds vs fp → D.trkOks ds = true → (∀ a ∈ fp, B a) → RAs K B H (D.trks ds fp) vs
  | [], _, _, h, _, _ => h.1
  | d :: ds, _, _, ⟨w, ws, f1, f2, e, e2, h, t⟩, c, hB => by
    have c' := Bool.and_eq_true_iff.mp (show (D.trkOk d && D.trkOks ds) = true from c)
    subst e e2
    have l1 := R.cnt d w f1 h c'.1
    refine ⟨w, ws, rfl, ?_, ?_⟩
    · rw [← l1, List.take_left' rfl]
      exact R.trk m d w f1 h c'.1 fun a h => hB a (by simp [h])
    · rw [← l1, List.drop_left' rfl]
      exact Rs.trk m ds ws f2 t c'.2 fun a h => hB a (by simp [h])
end
end
section
variable {X : Cx} {e : Expr} {f : PF}
end
section
variable {X : Cx} {E : XK} {pr : List Nat} {pos : Pos} {e : Expr} {f : PF}
end
def stB (i x : Nat) (body : SF) (D : DEnds) (N : Nat) : Nat → Ro → Prop
  | 0, ρ => D.nx ρ
  | m + 1, ρ => ∃ (ds : List DL.D) (e : DL.D), ρ[i]? = some (some (.ow, .lst ds)) ∧ ds.length = N ∧ ds[N - (m + 1)]? = some e ∧ x < ρ.length ∧
    body { nx := fun ρ' => ∃ e', ρ'[x]? = some (some (.ow, e')) ∧ stB i x body D N m ((ρ'.set x none).set i (some (.ow, .lst (ds.set (N - (m + 1)) e')))), rt := fun _ _ => False, ex := fun _ _ => False } ((ρ.set i none).set x (some (.ow, e)))
@[irreducible] def kForB (i x : Nat) (body : SF) (D : DEnds) (N : Nat) (ρ : Ro) : Prop := hid (stB i x body D N N ρ)
section
variable {X : Cx} {E : XK} {pr : List Nat} {pos : Pos}
end
end
end DL

namespace DL
open PySem PySem.Spec PyProof PyProof.Rows L2
noncomputable section
theorem Rs.imms {K : Frg} {A : Addr → Prop} {H : Hp} {ds : List D} {vs : List V} {fp : List Addr} (h : Rs K A H ds vs fp) (hi : D.imms ds = true) : fp = [] ∧ RAs K No H ds vs := by
  have r : RAs K (fun a => A a ∨ a ∈ fp) H ds vs := Rs.ra (B := fun a => A a ∨ a ∈ fp) (fun _ h => .inl h) ds vs fp (fun a h => .inr h) h
  have r0 := RAs.imm_no ds vs r hi
  exact ⟨Rs.nil0 ds fp ⟨vs, r0⟩ ⟨vs, h⟩, r0⟩
section
variable {X : Cx} {E : XK}
end
section
variable {X : Cx} {E : XK} {pr : List Nat} {epos apos cpos apos2 cpos2 : Pos} {o1 o2 : Expr} {g1 g2 : PF}
end
section
variable {X : Cx} {E : XK} {o e : Expr} {apos cpos : Pos}
end
end
end DL

namespace DL
open PySem PySem.Spec PyProof PyProof.Rows L2
noncomputable section
section
variable {X : Cx} {P : Program} {w : World} {K : Frg} {mg : Str → Option Value} {base : Heap}
end
section
variable {X : Cx} {E : XK} {pr : List Nat}
end
end
end DL

namespace DL
open PySem PySem.Spec PyProof PyProof.Rows L2
noncomputable section
section
variable {X : Cx} {E : XK} {pr : List Nat} {pos : Pos}
end
section
variable {X : Cx} {a b c d k x : Expr} {fa fb fc fd fk fx : PF} {dp apos cpos : Pos}
end
end
end DL

namespace DL
open PySem PySem.Spec PyProof PyProof.Rows L2
open PySem.W (EachIs)
noncomputable section
end
end DL

namespace DL
open PySem PySem.Spec PyProof PyProof.Rows L2
open PySem.W (iter_listW)
noncomputable section
section
variable {prog : Program} {w : World} {A : Around} {E : Value → Shared → Prop} {s : Shared}
end
section
variable {prog : Program} {w : World} {A : Around} {R : Result → Shared → Prop} {I : Addr} {fp wr : List Addr} {G : Array GenState → Array GenState → Prop} {n : Nat} {P : Nat → Value → Prop} {St : Nat → Shared → Prop}
end
section
variable {prog : Program} {w : World} {A : Around} {E : Value → Shared → Prop} {s : Shared}
end
end
end DL

namespace DL
open PySem PySem.Spec PyProof PyProof.Rows L2
noncomputable section
section
variable {K : Frg} {A A2 : Addr → Prop} {H H2 : Hp} {ρ : Ro} {σ : L2.St} {ow ow2 fp : List Addr} {d : D} {v : V}
end
section
variable {X : Cx} {E : XK} {pr : List Nat} {pos : Pos}
end
end
end DL

namespace DL
open PySem PySem.Spec PyProof PyProof.Rows L2
noncomputable section
mutual
def _root_.DL.D.wkD : D → D
  | .tup ds => .tup (D.wkDs ds)
  | .key ns => .tup (ns.map .int)
  | .tpx ns => .tup (ns.map .int)
  | d => d
def _root_.DL.D.wkDs : List D → List D
  | [] => []
  | d :: ds => d.wkD :: D.wkDs ds
end
section
variable {K : Frg} {A B F : Addr → Prop} {H : Hp}
mutual
theorem RA.wkD : ∀ (d : D) (v : V), RA K A H d v → RA K A H d.wkD v
  | .tup ds, _, ⟨p, vs, e, t, r⟩ => ⟨p, vs, e, t, RAs.wkD ds vs r⟩
  | .key ns, _, ⟨p, e, t⟩ => ⟨p, _, e, .inl (.inl t), RAs.of_ints _⟩
  | .tpx ns, _, ⟨p, o, e, t, _⟩ => ⟨p, _, e, .inl (.inr ⟨o, t⟩), RAs.of_ints _⟩
  | .non, _, h => h
  | .bl _, _, h => h
  | .int _, _, h => h
  | .str _, _, h => h
  | .lst _, _, h => h
  | .kst _, _, h => h
  | .dcT _ _, _, h => h
  | .dcK _ _, _, h => h
  | .obj _ _ _, _, h => h
  | .frz _, _, h => h
  | .fn _, _, h => h
  | .ad _, _, h => h
  | .lsA _ _, _, h => h
  | .exn _, _, h => h
  | .dcL _, _, h => h
  | .dcN _, _, h => h
  | .lkT _, _, h => h
  | .any, _, h => h
theorem RAs.wkD : ∀ (ds : List D) (vs : List V), RAs K A H ds vs → RAs K A H (D.wkDs ds) vs
  | [], _, h => h
  | d :: ds, _, ⟨w, ws, e, h, t⟩ => ⟨w, ws, e, RA.wkD d w h, RAs.wkD ds ws t⟩
end
end
section
variable {X : Cx} {pos : Pos}
end
abbrev NK := Int × List Int
abbrev nkD (x : NK) : D := .tup [.int x.1, .key x.2]
abbrev nkP (x : NK) : PyData := .tuple [.int x.1, pI x.2]
theorem RA.nk {K : Frg} {A : Addr → Prop} {H : Hp} {x : NK} {v : V} (h : RA K A H (nkD x) v) : Dp K H v (nkP x) ∧ RA K No H (nkD x) v := by
  have h2 : RA K No H (nkD x) v := RA.imm_no _ _ h rfl
  exact ⟨RA.dp (nkD x) v h (by
    show (PyData.canLay0 (.tuple [.int x.1, .tuple (x.2.map .int)])) = true
    have := (pints_ok x.2).1
    simp only [PyData.canLay0, PyData.canLayAll0, this]; rfl), h2⟩
theorem RAs.nk {K : Frg} {A : Addr → Prop} {H : Hp} : ∀ {ps : List NK} {us : List V}, RAs K A H (ps.map nkD) us → DpAll K H us (ps.map nkP) ∧ ∀ p ∈ us.zip ps, RA K No H (nkD p.2) p.1
  | [], _, h => by rw [show _ = [] from h]; exact ⟨.nil, fun p hp => nomatch hp⟩
  | x :: ps, _, ⟨w, ws, e, h, t⟩ => by
    subst e
    obtain ⟨t1, t2⟩ := RAs.nk t
    refine ⟨.cons h.nk.1 t1, fun p hp => ?_⟩
    rw [List.zip_cons_cons] at hp
    rcases List.mem_cons.mp hp with rfl | hp
    · exact h.nk.2
    · exact t2 p hp
def oInT (neg : Bool) (y x : KD) (P : KD → Prop) : Prop := ∃ kvs ns, isT x.2 kvs ∧ y.2 = .key ns ∧ P (.fl, .bl (if neg then !(look kvs ns).isSome else (look kvs ns).isSome))
@[irreducible] def xInT (neg : Bool) (y x : KD) (P : KD → Prop) : Prop := hid (oInT neg y x P)
section
variable {X : Cx} {pos : Pos} {o k : Expr} {fo fk : PF}
end
end
end DL

namespace DL
open PySem PySem.Spec PyProof PyProof.Rows L2
noncomputable section
def seT (ks : List (List Int)) : List (List Key × V) := ks.map fun k => (lowK k, V.bl true)
def seD (ks : List (List Int)) : D := .dcT (ks.map lowK) (ks.map fun _ => .bl true)
def putS (ks : List (List Int)) (k : List Int) : List (List Int) := if k ∈ ks then ks else ks ++ [k]
theorem se_eq {ks : List (List Int)} : ∀ {kv2 : List (List Key × V)}, kv2.map (·.1) = ks.map lowK → kv2.map (·.2) = (ks.map fun _ => V.bl true) → kv2 = seT ks := by
  induction ks with
  | nil => intro kv2 h _; exact List.map_eq_nil_iff.mp h
  | cons x ks ih =>
    intro kv2 h1 h2
    cases kv2 with
    | nil => cases h1
    | cons y r =>
      obtain ⟨a, b⟩ := y
      rw [List.map_cons, List.map_cons] at h1 h2
      have a1 := (List.cons.inj h1).1
      have a2 := (List.cons.inj h2).1
      dsimp only at a1 a2
      rw [ih (List.cons.inj h1).2 (List.cons.inj h2).2, a1, a2]; rfl
section
variable {K : Frg} {A B F : Addr → Prop} {H : Hp} {ks : List (List Int)} {v : V} {fp : List Addr}
theorem RAs.truev : ∀ {ks : List (List Int)} {vs : List V}, RAs K A H (ks.map fun _ => .bl true) vs → vs = ks.map fun _ => V.bl true
  | [], _, h => h
  | x :: ks, _, ⟨w, ws, e, h, t⟩ => by
    have e1 : w = V.bl true := h
    rw [e, e1, RAs.truev (ks := ks) t]; rfl
theorem RAs.of_truev : ∀ {ks : List (List Int)}, RAs K A H (ks.map fun _ => .bl true) (ks.map fun _ => V.bl true)
  | [] => rfl
  | x :: ks => ⟨_, _, rfl, rfl, RAs.of_truev (ks := ks)⟩
theorem RA.se (h : RA K A H (seD ks) v) : ∃ p, v = .ref p ∧ A p ∧ Rd H p (.dT (seT ks)) := by
  obtain ⟨p, k2, e, a, t, e1, r⟩ := h
  refine ⟨p, e, a, ?_⟩
  rw [← se_eq e1 (RAs.truev r)]; exact t
theorem R.se (h : R K A H (seD ks) v fp) : ∃ p, v = .ref p ∧ fp = [p] ∧ H p = some (.dT (seT ks)) := by
  obtain ⟨p, k2, fps, e, e2, t, e1, r⟩ := h
  have z : RAs K (fun _ => True) H (ks.map fun _ => .bl true) (k2.map (·.2)) := Rs.ra (fun _ _ => trivial) _ _ _ (fun _ _ => trivial) r
  have e3 : fps = [] := Rs.nil0 (K := K) (A := A) (H := H) (H' := H) _ fps ⟨_, RAs.of_truev⟩ ⟨_, r⟩
  subst e3
  exact ⟨p, e, e2, by rw [← se_eq e1 (RAs.truev z)]; exact t⟩
end
section
variable {X : Cx} {pos : Pos}
def oInSe (neg : Bool) (y x : KD) (P : KD → Prop) : Prop := ∃ ks ns, x.2 = seD ks ∧ y.2 = .key ns ∧ P (.fl, .bl (if neg then !decide (ns ∈ ks) else decide (ns ∈ ks)))
@[irreducible] def xInSe (neg : Bool) (y x : KD) (P : KD → Prop) : Prop := hid (oInSe neg y x P)
end
def oPutS (e : D) (y z : KD) (P : D → Prop) : Prop := ∃ ks ns, e = seD ks ∧ y.2 = .key ns ∧ z.2 = .bl true ∧ ks.length < 10000000 ∧ P (seD (putS ks ns))
@[irreducible] def xPutS (e : D) (y z : KD) (P : D → Prop) : Prop := hid (oPutS e y z P)
section
variable {X : Cx} {E : XK} {pr : List Nat} {pos : Pos}
end
end
end DL

namespace DL
open PySem PySem.Spec PyProof PyProof.Rows L2
noncomputable section
def flK (a b c d : Int) : List (Key × V) := mergeK [] [((.inl a : Key), V.int b), (.inl c, V.int d)]
def flD (a b c d : Int) : D := if a = c then .dcK [.inl a] [.int d] else .dcK [.inl a, .inl c] [.int b, .int d]
theorem flK_eq (a b c d : Int) : flK a b c d = if a = c then [(.inl a, V.int d)] else [(.inl a, V.int b), (.inl c, V.int d)] := by
  show putK (putK [] _ _) _ _ = _
  have e2 : putK ([] : List (Key × V)) (.inl a) (V.int b) = [(.inl a, V.int b)] := rfl
  rw [e2]
  unfold putK
  by_cases h : a = c
  · subst h; simp
  · rw [if_neg h, if_neg (by simp [h])]; rfl
section
variable {K : Frg} {A B F : Addr → Prop} {H : Hp}
theorem pair_ext {α β : Type} : ∀ {l m : List (α × β)}, l.map (·.1) = m.map (·.1) → l.map (·.2) = m.map (·.2) → l = m
  | [], [], _, _ => rfl
  | [], _ :: _, h, _ => nomatch h
  | _ :: _, [], h, _ => nomatch h
  | (a, b) :: l, (c, d) :: m, h, h' => by
    rw [List.map_cons, List.map_cons] at h h'
    have e1 := (List.cons.inj h).1
    have e2 := (List.cons.inj h').1
    dsimp only at e1 e2
    rw [e1, e2, pair_ext (List.cons.inj h).2 (List.cons.inj h').2]
theorem RA.fl {a b c d : Int} {v : V} (h : RA K A H (flD a b c d) v) : ∃ p, v = .ref p ∧ Rd H p (.dK (flK a b c d)) := by
  rw [flK_eq]
  unfold flD at h
  by_cases e : a = c
  · rw [if_pos e] at h ⊢
    obtain ⟨p, kvs, e1, _, t, e2, r⟩ := h
    have e3 := RAs.ints (ns := [d]) r
    have e4 : kvs = [((.inl a : Key), V.int d)] := pair_ext e2 e3
    exact ⟨p, e1, e4 ▸ t⟩
  · rw [if_neg e] at h ⊢
    obtain ⟨p, kvs, e1, _, t, e2, r⟩ := h
    have e3 := RAs.ints (ns := [b, d]) r
    have e4 : kvs = [((.inl a : Key), V.int b), (.inl c, V.int d)] := pair_ext e2 e3
    exact ⟨p, e1, e4 ▸ t⟩
end
def oGetFl (x : KD) (P : Int → Int → Int → Int → Prop) : Prop := ∃ a b c d, x.2 = flD a b c d ∧ P a b c d
@[irreducible] def xGetFl (x : KD) (P : Int → Int → Int → Int → Prop) : Prop := hid (oGetFl x P)
section
variable {X : Cx} {a b c d k x o : Expr} {fa fb fc fd fk fx fo : PF} {dp apos cpos : Pos}
end
end
end DL

namespace PySem.W
open PySem PySem.Calls PyProof.Rows PySem.Spec PyProof
section
variable {M : Model} {A : Around} {s : Shared}
end
section
variable {prog : Program} {w : World} {A : Around} {E : Value → Shared → Prop} {s : Shared}
end
end PySem.W

namespace PySem.W
open PySem PySem.Calls PyProof.Rows PyProof.V PySem.Spec
section
variable {prog : Program} {w : World} {K : Type} [DecidableEq K] {knd : HeapKind prog w K} {A : Around} {E : Value → Shared → Prop} {s : Shared}
inductive HitsH {K : Type} [DecidableEq K] (prog : Program) (w : World) (A : Around) (s : Shared) (kb : List (K × Addr × Value)) : List (K × Addr × Value) → Bool → Prop
  | nil : HitsH prog w A s kb [] true
  | miss {k : K} {v : Addr × Value} {r : List (K × Addr × Value)} : atKey kb k = none → HitsH prog w A s kb ((k, v) :: r) false
  | hit {k : K} {v y : Addr × Value} {r : List (K × Addr × Value)} {e b : Bool} : atKey kb k = some y → SeqAt.EqP prog w A s v.2 y.2 e → HitsH prog w A s kb r b → HitsH prog w A s kb ((k, v) :: r) (e && b)
end
end PySem.W
namespace DL
open PySem PySem.Spec PyProof PyProof.Rows L2
section
variable {prog : Program} {w : World} {A : Around} {s : Shared} {H : Hp}
end
section
variable {X : Cx}
end
end DL

namespace PySem.W
open PySem PySem.Calls PyProof.Rows PySem.Spec PyProof
section
variable {prog : Program} {w : World} {A : Around} {E : Value → Shared → Prop} {s : Shared} {β : Type}
end
end PySem.W
namespace DL
open PySem PySem.Spec PyProof PyProof.Rows L2
open PySem.W (EachIs)
noncomputable section
end
end DL

namespace PySem.W
open PySem PySem.Calls PyProof.Rows PySem.Spec PyProof
section
variable {prog : Program} {w : World} {K : Type} [DecidableEq K] {knd : HeapKind prog w K} {A : Around} {E : Value → Shared → Prop} {s : Shared}
end
end PySem.W
namespace DL
open PySem PySem.Spec PyProof PyProof.Rows L2
open PySem.W (EachIs)
noncomputable section
section
variable {X : Cx}
end
end
end DL

namespace DL
open PySem PySem.Spec PyProof PyProof.Rows L2
noncomputable section
section
variable {X : Cx} {CX : CXT} {E : XK} {k n : Nat} {f : Addr} {ps : List Str} {c : CF} {ms : List Bool} {x : Str} {p pos : Pos} {e : Expr} {es : List Expr} {C : Str} {g : AEF}
end
end
end DL

namespace DL
open PySem PySem.Spec PyProof PyProof.Rows L2
noncomputable section
theorem VR.key {K : Frg} {A : Addr → Prop} {H : Hp} {kz : Kd} {ns : List Int} {v : V} {f : List Addr} (h : VR K A H (kz, .key ns) v f) : ∃ b, v = .ref b ∧ H b = some (.tup (ns.map V.int)) :=
  (h.ra (B := fun _ => True) (fun _ _ => trivial) (fun _ _ => trivial) : RA K (fun _ => True) H (.key ns) v)
section
variable {X : Cx} {E : XK} {o e : Expr} {es : List Expr} {n : Nat} {name : Str} {apos cpos : Pos} {id : String} {r : V → List V → Hp → VK → Prop} {op : MOF}
variable {pl : PLF} {gp : PAF}
end
end
end DL

namespace DL
open PySem PySem.Spec PyProof PyProof.Rows L2
noncomputable section
section
variable {X : Cx} {E : XK} {pos : Pos}
end
end
end DL

namespace DL
open PySem PySem.Spec PyProof PyProof.Rows L2
open PySem.W (EachIs)
noncomputable section
end
end DL

namespace DL
open PySem PySem.Spec PyProof PyProof.Rows L2
noncomputable section
section
variable {K : Frg} {A B : Addr → Prop} {H H' : Hp}
theorem RepS.snoc : ∀ {ρ : Ro} {σ : L2.St} {ow : List Addr} {s : Sl} {x : Option V} {f : List Addr}, RepS K A H ρ σ ow → Slot K A H s x f → RepS K A H (ρ ++ [s]) (σ ++ [x]) (ow ++ f)
  | [], _, _, s, x, f, h, r => by
    obtain ⟨e1, e2⟩ := h
    subst e1 e2
    exact ⟨x, [], f, [], rfl, (List.append_nil f).symm, r, rfl, rfl⟩
  | t :: ρ, _, _, s, x, f, ⟨y, σ', g1, g2, e, e2, h, h'⟩, r => by
    subst e e2
    exact ⟨y, σ' ++ [x], g1, g2 ++ f, rfl, List.append_assoc .., h, RepS.snoc h' r⟩
theorem AVs.snoc {x : Option V} : ∀ {avs : List AV} {σ : L2.St} {vs : List V} {f : List Addr}, AVs K A H σ avs vs f → AVs K A H (σ ++ [x]) avs vs f
  | [], _, _, _, h => h
  | .v z :: r, _, _, _, ⟨w, ws, f1, f2, e, e2, h, t⟩ => ⟨w, ws, f1, f2, e, e2, h, AVs.snoc t⟩
  | .pl i :: r, σ, _, _, ⟨w, ws, e, h, t⟩ => ⟨w, ws, e, by rw [List.getElem?_append_left (List.getElem?_eq_some_iff.mp h).1]; exact h, AVs.snoc t⟩
def preV (σ : L2.St) : List Nat → List V → Prop
  | [], vs => vs = []
  | j :: r, vs => ∃ v ws, vs = v :: ws ∧ σ[j]? = some (some v) ∧ preV σ r ws
theorem preV.avs {σ : L2.St} {avs : List AV} {ws : List V} {f : List Addr} (t : AVs K A H σ avs ws f) : ∀ {pre : List Nat} {vs : List V}, preV σ pre vs → AVs K A H σ (pre.map .pl ++ avs) (vs ++ ws) f
  | [], _, h => by subst h; exact t
  | j :: r, _, ⟨v, us, e, h, h'⟩ => by subst e; exact ⟨v, us ++ ws, rfl, h, preV.avs t h'⟩
theorem preV.snoc {x : Option V} {σ : L2.St} : ∀ {pre : List Nat} {vs : List V}, preV σ pre vs → preV (σ ++ [x]) pre vs
  | [], _, h => h
  | j :: r, _, ⟨v, us, e, h, h'⟩ => ⟨v, us, e, by rw [List.getElem?_append_left (List.getElem?_eq_some_iff.mp h).1]; exact h, preV.snoc h'⟩
end
section
variable {X : Cx} {E : XK} {CX : CXT} {k m n : Nat} {f : Addr} {ps : List Str} {c : CF} {ms : List Bool} {x : Str} {p pos apos : Pos} {e o : Expr} {es : List Expr} {post : AEF} {pl : PLF} {C : Str} {NS : List Str} {plA : Sem Bool} {mth : Str}
end
end
end DL

namespace DL
open PySem PySem.Spec PyProof PyProof.Rows L2
noncomputable section
def ESoundW (K : Frg) (W : WX) (t : TE) (f : EF) : Prop := ∀ (σ : L2.St) (H : Hp) (A : Addr → Prop) (ρ : Ro) (ow : List Addr) (Q : VK) (P : KD → Ro → Prop) (PX : Str → Ro → Prop), Good K A H ρ σ ow → f ρ P PX →
  (∀ z ρ' v H' fp ow' A', P z ρ' → Stp H ow A H' (fp ++ ow') A' → Good K A' H' ρ' σ ow' → Own K A' H' z v fp ow' → Q v H') →
  (∀ C ρ' H' ow' A', PX C ρ' → Stp H ow A H' ow' A' → Good K A' H' ρ' σ ow' → W (.ref (He.ga K C)) none σ H') → t σ H Q
structure DEW (X : Cx) (W : WX) (e : Expr) (f : EF) : Prop where
  run : ∃ t, PE X e t ∧ ESoundW X.K W t f
section
variable {X : Cx} {W : WX} {pr : List Nat} {k n : Nat} {f : Addr} {ps : List Str} {ms : List Bool} {c : CF} {g : AEF} {x m : Str} {p pos epos apos : Pos} {e : Expr} {es : List Expr} {C : Str} {NS : List Str} {pl : Sem Bool} {ef : EF}
end
section
variable {X : Cx} {CX : CXT} {E : XK} {k : Nat} {f : Addr} {ps : List Str} {c : CF} {x : Str} {p pos : Pos} {C : Str}
end
end
end DL

namespace DL
open PySem PySem.Spec PyProof PyProof.Rows L2
noncomputable section
structure TabK (K : PySem.W.Frag) (w : World) (x : Str) (kvs : List (Str × Int)) : Prop where
  d : ∃ es n, KDict K w (He.ga K x) es n
  no : ∀ z, kvs.lookup z = none → PySem.W.nsIn K (He.ga K x) z = some none
  yes : ∀ z i, kvs.lookup z = some i → ∃ t, PySem.W.nsIn K (He.ga K x) z = some (some (.int i t))
section
variable {X : Cx} {x : Str} {kvs : List (Str × Int)}
end
section
variable {X : Cx} {o e f : Expr} {td ty tx : TE} {apos cpos : Pos} {d : Addr} {es : Array DictEntry} {n : Nat}
end
section
variable {X : Cx} {a b k x : Expr} {fa fb fk fx : PF} {dp apos cpos : Pos}
end
end
end DL

namespace DL
open PySem PySem.Spec PyProof PyProof.Rows L2
noncomputable section
end
end DL

namespace DL
open PySem PySem.Spec PyProof PyProof.Rows L2
noncomputable section
section
variable {X : Cx} {E : XK} {pr : List Nat} {pos : Pos}
end
end
end DL

namespace DL
open PySem PySem.Spec PyProof PyProof.Rows L2
section
variable {prog : Program} {w : World} {A : Around} {E : Value → Shared → Prop} {s : Shared}
end
noncomputable section
section
variable {X : Cx} {pos : Pos}
end
end
end DL

namespace DL
open PySem PySem.Spec PyProof PyProof.Rows L2 HT
noncomputable section
section
variable {K : Frg} {B F : Addr → Prop} {H : Hp}
end
section
variable {X : Cx} {pos : Pos} {es : List Expr}
end
end
end DL

namespace DL
open PySem PySem.Spec PyProof PyProof.Rows L2
noncomputable section
end
end DL

namespace DL
open PySem PySem.Spec PyProof PyProof.Rows L2
section
variable {X : Cx} {tg e : Expr} {td : TE} {apos cpos : Pos}
end
end DL
namespace DL
open PySem PySem.Spec PyProof PyProof.Rows L2
def nonR (ρ : Ro) : Ro := ρ.map fun _ => none
theorem RepS.non {K : Frg} {A : Addr → Prop} {H : Hp} : ∀ {ρ : Ro} {σ : L2.St}, σ.length = ρ.length → RepS K A H (nonR ρ) σ []
  | [], [], _ => ⟨rfl, rfl⟩
  | [], _ :: _, h => by cases h
  | _ :: _, [], h => by cases h
  | s :: ρ, x :: σ, h => ⟨x, σ, [], [], rfl, rfl, rfl, RepS.non (Nat.succ.inj h)⟩
noncomputable section
end
section
variable {X : Cx}
end
end DL

namespace DL
open PySem PySem.W PySem.Calls PySem.Spec PyProof PyProof.Rows L2 HandSHeadRun
noncomputable section
end
end DL

namespace DL
open PySem PySem.Spec PyProof PyProof.Rows L2
noncomputable section
def gaV (K : PySem.W.Frag) (cs : List Str) : List V := cs.map fun C => V.ref (He.ga K C)
structure PCls (X : Cx) (es : List Expr) (cs : List Str) : Prop where
  run : ∃ t, PA X es t ∧ ∀ σ H Q, Q (gaV X.K cs) H → t σ H Q
end
end DL

namespace DL
open PySem PySem.Spec PyProof PyProof.Rows L2
noncomputable section
end
end DL

namespace DL
open PySem PySem.Spec PyProof PyProof.Rows L2
noncomputable section
end
end DL

namespace DL
open PySem PySem.Spec PyProof PyProof.Rows L2
noncomputable section
abbrev XD : Type := List (Str × Int)
section
variable {K : Frg} {A : Addr → Prop} {H : Hp} {kvs : XD} {v : V} {fp : List Addr}
end
section
variable {X : Cx}
end
section
variable {X : Cx} {E : XK} {pr : List Nat} {pos : Pos}
end
end
end DL

namespace DL
open PySem PySem.Spec PyProof PyProof.Rows L2
noncomputable section
end
end DL

namespace DL
open PySem PySem.Spec PyProof PyProof.Rows L2
noncomputable section
end
end DL

namespace DL
open PySem PySem.Spec PyProof PyProof.Rows L2
noncomputable section
end
end DL

namespace PySem.SeqAt
open PySem PySem.Spec PyProof PyProof.Rows
open MeetsSeq
end PySem.SeqAt
namespace DL
open PySem PySem.Spec PyProof PyProof.Rows L2
noncomputable section
section
variable {X : Cx} {pos : Pos}
def tLckD : TE := fun σ H Q => ∀ p o, H p = none → DcL p o [] → Q (.ref p) (upd H p (.frz o (.dT [])))
theorem pe_lckD : PE X (.Dict [] [] pos) tLckD := by
  refine ⟨fun pins s σ H Q I h => thn (pe_dnewT.run pins s σ H (fun x H1 => ∃ p, x = .ref p ∧ H p = none ∧ H1 = upd H p (.dT [])) I (fun p hp => ⟨p, rfl, hp, rfl⟩)) fun u s1 ⟨x, H1, I1, r, p, ex, hp, e1⟩ => ?_⟩
  subst ex e1
  obtain ⟨od, I2⟩ := I1.lock (d := p) (u := .dT []) upd_same True.intro
  obtain ⟨ho, _, hs, xs, rel, o, es, ep, h1, h2, h3, h4, _⟩ := I2.hok p _ upd_same
  rw [ho] at h1
  cases h1
  cases rel
  have e0 : es.toList = [] := h4
  refine ⟨_, _, I2, r, ?_⟩
  rw [upd_upd]
  exact h p od hp ⟨hs, h2, es, ep, h3, e0⟩
def pLckD : PF := fun _ P => P (.fl, .dcL [])
theorem dp_lckD : DP X (.Dict [] [] pos) pLckD :=
  ⟨_, pe_lckD, fun σ H A ρ ow Q P g h q p o hp ho => q _ _ _ h (same_upd hp) (.fl ⟨p, o, rfl, ⟨_, upd_same⟩, ho⟩)⟩
end
def rNeN (K : Frg) : R2 := fun x y H Q => rNeAll K x y H Q ∨ ∃ (a b : Addr) (xs : List V), x = .ref a ∧ y = .ref b ∧ SqL K H a xs ∧ xs ≠ [] ∧ SqL K H b [] ∧ Q (.bl true) H
theorem op_neN {X : Cx} (hu : X.A.units + 64 < cLine) : OpR X (compareOp .NotEq) (rNeN X.K) := by
  refine OpR.or (op_neAll hu) ?_
  intro pins s σ H x y v u Q I rx ry h
  obtain ⟨a, b, xs, rfl, rfl, ha, hn, hb, q⟩ := h
  cases (show v = Value.ref a from rx)
  cases (show u = Value.ref b from ry)
  obtain ⟨its, r, pl, hz⟩ := I.list ha
  obtain ⟨its2, r2, pl2, hz2⟩ := I.list hb
  have e2 : its2 = [] := by cases r2; rfl
  subst e2
  refine SeqAt.RcNeAt.lists_lengths pl.isList pl2.isList ?_ (by omega) _ _ _ _ ⟨.bl true, H, I, rfl, q⟩
  cases r with
  | nil => exact absurd rfl hn
  | cons _ _ => rfl
def oNeN : KD → KD → (KD → Prop) → Prop := fun x y P => match x.2, y.2 with
  | .lst ds, .lst [] => P (.fl, .bl (!ds.isEmpty))
  | _, _ => oNe x y P
theorem os_neN {K : Frg} : OpS K (rNeN K) oNeN := by
  intro B F H v w x y P Q px py hF h q
  unfold oNeN at h
  split at h
  · rename_i ds e1 e2
    obtain ⟨k, d⟩ := x
    obtain ⟨k', d'⟩ := y
    dsimp only at e1 e2
    subst e1 e2
    obtain ⟨p, vs, ev, t, r⟩ := px.lstT
    obtain ⟨p2, vs2, ev2, t2, r2⟩ := py.lstT
    subst ev ev2
    have e0 : vs2 = [] := r2
    subst e0
    cases ds with
    | nil => exact .inl (os_ne B F H _ _ (k, .lst []) (k', .lst []) P Q px py hF (show (D.lst []).okE ∧ (D.lst []).okE ∧ P (.fl, .bl false) from ⟨rfl, rfl, h⟩) q)
    | cons d ds =>
      refine .inr ⟨p, p2, vs, rfl, rfl, .inl (.inl t), fun z => ?_, .inl (.inl t2), q _ _ H h (Same.refl H) .bl⟩
      rw [z] at r
      obtain ⟨_, _, e, _⟩ := r
      cases e
  · exact .inl (os_ne B F H v w x y P Q px py hF h q)
end
end DL

namespace DL
open PySem PySem.Spec PyProof PyProof.Rows L2
noncomputable section
section
variable {K : Frg} {A : Addr → Prop} {H : Hp} {ρ : Ro} {σ : L2.St} {ow : List Addr} {i : Nat} {k : Kd} {rb : D → D} {w : V} {ds : List D} {n : Nat} {c : D}
theorem PlAt.step (p : PlAt K A H ρ σ ow i k (.lst ds) rb w) (hc : ds[n]? = some c) :
    ∃ q vs w', w = .ref q ∧ H q = some (.lst vs) ∧ vs.length = ds.length ∧ vs[n]? = some w' ∧ PlAt K A H ρ σ ow i .ow c (fun c' => rb (.lst (ds.set n c'))) w' := by
  obtain ⟨d, v0, g1, fs, g2, fe, e1, e2, z, hsh, put⟩ := p
  obtain ⟨p, vs, w', fc, ev, hp, hl, hw, z'⟩ := z.step_lst hc
  exact ⟨p, vs, w', ev, hp, hl, hw, d, v0, g1, fs, g2, fc, e1, e2, z', (fun h => nomatch h), put⟩
end
section
variable {X : Cx} {E : XK} {pr : List Nat} {pos : Pos}
end
end
end DL

namespace DL
open PySem PySem.Spec PyProof PyProof.Rows L2
noncomputable section
section
variable {X : Cx} {pos : Pos}
end
end
end DL

namespace DL
open PySem PySem.Spec PyProof PyProof.Rows L2
noncomputable section
def smallO : Option Int → Bool
  | none => true
  | some i => decide (i.natAbs < 10 ^ 70)
mutual
def D.wM : D → Bool
  | .non => true
  | .bl _ => true
  | .int i => decide (i.natAbs < 10 ^ 70)
  | .str x => decide (x = "1") || decide (x = "0") || decide (x = "job") || decide (x = "")
  | .tup ds => D.wMs ds
  | .kst ds => D.wMs ds
  | .dcL kvs => kvs.all fun x => smallO x.1 && smallO x.2
  | _ => false
def D.wMs : List D → Bool
  | [] => true
  | d :: ds => d.wM && D.wMs ds
end
mutual
def D.sM : D → Nat
  | .non => 4
  | .bl _ => 5
  | .int _ => 71
  | .str _ => 8
  | .tup ds => D.sMs ds + 3
  | .kst ds => D.sMs ds + 3
  | .dcL kvs => 200 * kvs.length + 3
  | _ => 0
def D.sMs : List D → Nat
  | [] => 0
  | d :: ds => d.sM + 2 + D.sMs ds
end
mutual
def D.hM : D → Nat
  | .tup ds => D.hMs ds + 1
  | .kst ds => D.hMs ds + 1
  | .dcL _ => 2
  | _ => 1
def D.hMs : List D → Nat
  | [] => 0
  | d :: ds => max d.hM (D.hMs ds)
end
theorem imP_len {o : Option Int} (h : smallO o = true) : (imP o).shown.length ≤ 71 := by
  cases o with
  | none => decide
  | some i => exact shown_int_len (of_decide_eq_true h)
theorem imP_show {o : Option Int} (h : smallO o = true) : (imP o).showable = true := by
  cases o with
  | none => rfl
  | some i => exact decide_eq_true (log_ok (of_decide_eq_true h))
theorem imP_depth {o : Option Int} : (imP o).depth = 0 := by cases o <;> rfl
theorem kv_ok : ∀ kvs : List (Option Int × Option Int), (kvs.all fun x => smallO x.1 && smallO x.2) = true →
    PyData.showableKv (kvs.map fun x => (imP x.1, imP x.2)) = true ∧ ((PyData.shownKv (kvs.map fun x => (imP x.1, imP x.2))).map (·.length)).sum + 2 * (PyData.shownKv (kvs.map fun x => (imP x.1, imP x.2))).length ≤ 200 * kvs.length ∧ PyData.depthKv (kvs.map fun x => (imP x.1, imP x.2)) = 0
  | [], _ => ⟨rfl, Nat.le_refl _, rfl⟩
  | x :: kvs, h => by
    have h' := Bool.and_eq_true_iff.mp (show ((smallO x.1 && smallO x.2) && kvs.all fun x => smallO x.1 && smallO x.2) = true from h)
    obtain ⟨a1, a2⟩ := Bool.and_eq_true_iff.mp h'.1
    obtain ⟨b1, b2, b3⟩ := kv_ok kvs h'.2
    have l1 := imP_len a1
    have l2 := imP_len a2
    refine ⟨?_, ?_, ?_⟩
    · show ((imP x.1).showable && (imP x.2).showable && PyData.showableKv (kvs.map fun x => (imP x.1, imP x.2))) = true
      rw [imP_show a1, imP_show a2, b1]; rfl
    · show (List.map (·.length) (((imP x.1).shown ++ ": " ++ (imP x.2).shown) :: PyData.shownKv (kvs.map fun x => (imP x.1, imP x.2)))).sum + 2 * (((imP x.1).shown ++ ": " ++ (imP x.2).shown) :: PyData.shownKv (kvs.map fun x => (imP x.1, imP x.2))).length ≤ 200 * (x :: kvs).length
      rw [List.map_cons, List.sum_cons, List.length_cons, List.length_cons, strLen_append, strLen_append]
      have e : (": " : Str).length = 2 := by decide
      omega
    · show max (max (imP x.1).depth (imP x.2).depth) (PyData.depthKv (kvs.map fun x => (imP x.1, imP x.2))) = 0
      rw [imP_depth, imP_depth, b3]; rfl
mutual
theorem D.wM_ok : ∀ d : D, d.wM = true → d.toP.showable = true ∧ d.toP.shown.length ≤ d.sM ∧ d.toP.depth ≤ d.hM
  | .non, _ => ⟨rfl, by decide, by decide⟩
  | .bl b, _ => ⟨rfl, by cases b <;> decide, by cases b <;> decide⟩
  | .int i, h => ⟨decide_eq_true (log_ok (of_decide_eq_true h)), shown_int_len (of_decide_eq_true h), Nat.zero_le _⟩
  | .str x, h => by
    have h' : ((x = "1" ∨ x = "0") ∨ x = "job") ∨ x = "" := by
      have h : (decide (x = "1") || decide (x = "0") || decide (x = "job") || decide (x = "")) = true := h
      rw [Bool.or_eq_true, Bool.or_eq_true, Bool.or_eq_true, decide_eq_true_iff, decide_eq_true_iff, decide_eq_true_iff, decide_eq_true_iff] at h
      exact h
    refine ⟨rfl, ?_, Nat.zero_le _⟩
    rcases h' with ((rfl | rfl) | rfl) | rfl <;> decide +kernel
  | .tup ds, h => by
    obtain ⟨a, b, c⟩ := D.wMs_ok ds h
    exact ⟨a, Nat.le_trans (tupleText_len_le _) (Nat.add_le_add_right b 3), Nat.succ_le_succ c⟩
  | .kst ds, h => by
    obtain ⟨a, b, c⟩ := D.wMs_ok ds h
    exact ⟨a, Nat.le_trans (listText_len_le _) (Nat.add_le_add_right b 3), Nat.succ_le_succ c⟩
  | .dcL kvs, h => by
    obtain ⟨a, b, c⟩ := kv_ok kvs h
    refine ⟨a, Nat.le_trans (dictText_len_le _) (Nat.add_le_add_right b 3), ?_⟩
    show PyData.depthKv (kvs.map fun x => (imP x.1, imP x.2)) + 1 ≤ 2
    rw [c]; decide
  | .lst _, h => by cases h
  | .dcT _ _, h => by cases h
  | .dcK _ _, h => by cases h
  | .obj _ _ _, h => by cases h
  | .frz _, h => by cases h
  | .fn _, h => by cases h
  | .ad _, h => by cases h
  | .lsA _ _, h => by cases h
  | .key _, h => by cases h
  | .tpx _, h => by cases h
  | .exn _, h => by cases h
  | .lkT _, h => by cases h
  | .any, h => by cases h
  | .dcN _, h => by cases h
theorem D.wMs_ok : ∀ ds : List D, D.wMs ds = true → PyData.showableAll (D.toPs ds) = true ∧ ((PyData.shownAll (D.toPs ds)).map (·.length)).sum + 2 * (PyData.shownAll (D.toPs ds)).length ≤ D.sMs ds ∧ PyData.depthAll (D.toPs ds) ≤ D.hMs ds
  | [], _ => ⟨rfl, Nat.le_refl _, Nat.le_refl _⟩
  | d :: ds, h => by
    have h' := Bool.and_eq_true_iff.mp (show (d.wM && D.wMs ds) = true from h)
    obtain ⟨a, b, c⟩ := D.wM_ok d h'.1
    obtain ⟨a', b', c'⟩ := D.wMs_ok ds h'.2
    refine ⟨?_, ?_, ?_⟩
    · show (d.toP.showable && PyData.showableAll (D.toPs ds)) = true
      rw [a, a']; rfl
    · show (List.map (·.length) (d.toP.shown :: PyData.shownAll (D.toPs ds))).sum + 2 * (d.toP.shown :: PyData.shownAll (D.toPs ds)).length ≤ d.sM + 2 + D.sMs ds
      rw [List.map_cons, List.sum_cons, List.length_cons]
      omega
    · show max d.toP.depth (PyData.depthAll (D.toPs ds)) ≤ max d.hM (D.hMs ds)
      omega
end
section
variable {X : Cx} {pins : List (Addr × Obj)} {σ : L2.St} {H : Hp} {s : Shared}
theorem imv_reads {h : Heap} {o : Option Int} {u : Value} (e : ImV o u) : Reads h u (imP o) [] := by
  cases o with
  | none => rw [show u = .none from e]; exact Reads.none
  | some i => obtain ⟨t, rfl⟩ := e; exact Reads.int i t
theorem dce_reads {h : Heap} : ∀ {kvs : List (Option Int × Option Int)} {es : List DictEntry}, DcE kvs es → ReadsAll h (es.map (·.key)) ((kvs.map fun x => (imP x.1, imP x.2)).map (·.1)) [] ∧ ReadsAll h (es.map (·.val)) ((kvs.map fun x => (imP x.1, imP x.2)).map (·.2)) []
  | [], es, e => by rw [show es = [] from e]; exact ⟨.nil, .nil⟩
  | kv :: kvs, _, ⟨e, r, rfl, hk, hv, t⟩ => ⟨ReadsAll.cons (imv_reads hk) (dce_reads t).1, ReadsAll.cons (imv_reads hv) (dce_reads t).2⟩
theorem dict_pieces {prog : Program} {w : World} {h₀ : Heap} {a : Addr} {o : Obj} {es : Array DictEntry} {n : Nat} (L : List (PyData × PyData)) (h1 : h₀.get? a = some o) (h2 : o.cls = .type "dict") (h3 : o.data = .dict es n) (hs : (a == sysModules) = false)
    (h4 : ReadsAll h₀ (es.toList.map (·.key)) (L.map (·.1)) []) (h5 : ReadsAll h₀ (es.toList.map (·.val)) (L.map (·.2)) []) (w1 : PyData.showableKv L = true) (z : (dictText (PyData.shownKv L)).length ≤ sizeLine) :
    (∃ as, Reads h₀ (.ref a) (.dict L) as) ∧ ∃ bs, ReadAtMost h₀ (PyData.depthKv L + 1) (a :: bs) ∧ a ∉ bs ∧ ReprEntriesK prog w bs h₀ (PyData.depthKv L) es.toList (PyData.shownKv L) := by
  obtain ⟨hs1, hs2⟩ := PyData.showableKv_split L w1
  obtain ⟨b1, hb1, k1⟩ := ReprAllK.of_readsAll (prog := prog) (w := w) h4 hs1 (fun _ => List.not_mem_nil) (fun t ht => let ⟨p, hp, hl⟩ := PyData.shownKv_key_le L t ht; Nat.le_trans hl (Nat.le_trans (dictText_mem_le hp) z))
  obtain ⟨b2, hb2, k2⟩ := ReprAllK.of_readsAll (prog := prog) (w := w) h5 hs2 (fun _ => List.not_mem_nil) (fun t ht => let ⟨p, hp, hl⟩ := PyData.shownKv_val_le L t ht; Nat.le_trans hl (Nat.le_trans (dictText_mem_le hp) z))
  have r : Reads h₀ (.ref a) (.dict L) _ := .dict h1 h2 h3 h4 h5
  have hb : ReadAtMost h₀ (PyData.depthKv L) (b1 ++ b2) := (hb1.mono (PyData.depthAll_keys_le L)).append (hb2.mono (PyData.depthAll_vals_le L))
  have hd : (PyData.dict L).depth = PyData.depthKv L + 1 := by simp only [PyData.depth]
  have hna : a ∉ b1 ++ b2 := not_mem_of_deeper r (by rw [hd]; omega) hb
  refine ⟨⟨_, r⟩, b1 ++ b2, ?_, hna, ?_⟩
  · rw [← hd]
    exact ReadAtMost.cons r (by rw [hd]; omega) hb
  · rw [PyData.shownKv_eq]
    exact ReprEntriesK.of_two es.toList _ _ (k1.more_le (fun b hb => List.mem_append_left _ hb) (PyData.depthAll_keys_le L)) (k2.more_le (fun b hb => List.mem_append_right _ hb) (PyData.depthAll_vals_le L))
mutual
theorem RA.repM {A : Addr → Prop} (I : Inv X pins σ H s) : ∀ (d : D) (v : V) (u : Value), RA X.K A H d v → RelV v u → d.wM = true → d.toP.shown.length ≤ sizeLine → (∃ as, Reads s.heap u d.toP as) ∧ ∃ bs, ReadAtMost s.heap d.toP.depth bs ∧ ReprK X.prog X.w bs s.heap d.toP.depth u d.toP.shown
  | .non, _, _, h, r, _, _ => by
    rw [show _ = V.non from h] at r
    cases (show _ = Value.none from r)
    exact ⟨⟨_, Reads.none⟩, [], (fun _ h => nomatch h), .of_is ReprIs.none _ _ _⟩
  | .bl b, _, _, h, r, _, _ => by
    rw [show _ = V.bl b from h] at r
    cases (show _ = Value.bool b from r)
    exact ⟨⟨_, Reads.bool b⟩, [], (fun _ h => nomatch h), .of_is (ReprIs.bool b) _ _ _⟩
  | .int i, _, _, h, r, w, _ => by
    rw [show _ = V.int i from h] at r
    obtain ⟨t, rfl⟩ := r
    exact ⟨⟨_, Reads.int i t⟩, [], (fun _ h => nomatch h), .of_is (ReprIs.int t (log_ok (of_decide_eq_true w))) _ _ _⟩
  | .str x, _, _, h, r, _, z => by
    rw [show _ = V.str x from h] at r
    obtain ⟨t, rfl⟩ := r
    exact ⟨⟨_, Reads.str x t⟩, [], (fun _ h => nomatch h), .of_is (ReprIs.str x t z) _ _ _⟩
  | .tup ds, _, _, ⟨p, vs, e, t, ra⟩, r, w, z => by
    subst e
    cases (show _ = Value.ref p from r)
    obtain ⟨its, rv, ⟨o, ho, hc, n, hd⟩, _⟩ := I.tuple t
    obtain ⟨⟨as, hr⟩, bs, hb, hk⟩ := RAs.repM I ds vs its ra rv w (fun t ht => Nat.le_trans (tupleText_mem_le ht) z)
    have rd : Reads s.heap (.ref p) (.tuple (D.toPs ds)) as := Reads.tuple ho hc hd hr
    have hna : p ∉ bs := not_mem_of_deeper rd (Nat.lt_succ_self _) hb
    exact ⟨⟨_, rd⟩, p :: bs, ReadAtMost.cons rd (Nat.le_succ _) hb, ReprK.tuple ho hc hd hna hk⟩
  | .kst ds, _, _, ⟨p, vs, e, t, ra⟩, r, w, z => by
    subst e
    cases (show _ = Value.ref p from r)
    obtain ⟨its, rv, ⟨o, n, ho, hc, _, hd⟩, _⟩ := I.list (kst_seq t)
    obtain ⟨⟨as, hr⟩, bs, hb, hk⟩ := RAs.repM I ds vs its ra rv w (fun t ht => Nat.le_trans (listText_mem_le ht) z)
    have rd : Reads s.heap (.ref p) (.list (D.toPs ds)) (p :: as) := Reads.list ho hc hd hr
    have hna : p ∉ bs := not_mem_of_deeper rd (Nat.lt_succ_self _) hb
    refine ⟨⟨_, rd⟩, p :: bs, ReadAtMost.cons rd (Nat.le_succ _) hb, ?_⟩
    cases its with
    | nil =>
      cases hr' : D.toPs ds with
      | nil =>
        show ReprK _ _ _ _ (PyData.depthAll (D.toPs ds) + 1) _ (listText (PyData.shownAll (D.toPs ds)))
        rw [hr']
        show ReprK _ _ _ _ _ _ (listText [])
        rw [listText_nil]
        exact ReprK.listEmpty ho hc hd
      | cons x xs => rw [hr'] at hr; exact nomatch hr
    | cons x l => exact ReprK.list ho hc hd hna (by simpa using hk.length_eq) (fun i y e => hk.item i y (by simpa using e))
  | .dcL kvs, _, _, ⟨p, o, e, ⟨v, t⟩, hs, hx, es, ep, hd, he⟩, r, w, z => by
    subst e
    cases (show _ = Value.ref p from r)
    have ho : s.heap.get? p = some o := (I.hok p _ t).1
    obtain ⟨r1, r2⟩ := dce_reads (h := s.heap) he
    obtain ⟨rd, bs, hb, hna, hk⟩ := dict_pieces (prog := X.prog) (w := X.w) _ ho hx.1 hd hs r1 r2 (kv_ok kvs w).1 z
    exact ⟨rd, p :: bs, hb, ReprK.dict ho hx.1 hd hs hna hk⟩
  | .lst _, _, _, _, _, h, _ => by cases h
  | .dcT _ _, _, _, _, _, h, _ => by cases h
  | .dcK _ _, _, _, _, _, h, _ => by cases h
  | .obj _ _ _, _, _, _, _, h, _ => by cases h
  | .frz _, _, _, _, _, h, _ => by cases h
  | .fn _, _, _, _, _, h, _ => by cases h
  | .ad _, _, _, _, _, h, _ => by cases h
  | .lsA _ _, _, _, _, _, h, _ => by cases h
  | .key _, _, _, _, _, h, _ => by cases h
  | .tpx _, _, _, _, _, h, _ => by cases h
  | .exn _, _, _, _, _, h, _ => by cases h
  | .lkT _, _, _, _, _, h, _ => by cases h
  | .any, _, _, _, _, h, _ => by cases h
  | .dcN _, _, _, _, _, h, _ => by cases h
theorem RAs.repM {A : Addr → Prop} (I : Inv X pins σ H s) : ∀ (ds : List D) (vs : List V) (us : List Value), RAs X.K A H ds vs → Vals vs us → D.wMs ds = true → (∀ t ∈ PyData.shownAll (D.toPs ds), t.length ≤ sizeLine) → (∃ as, ReadsAll s.heap us (D.toPs ds) as) ∧ ∃ bs, ReadAtMost s.heap (PyData.depthAll (D.toPs ds)) bs ∧ ReprAllK X.prog X.w bs s.heap (PyData.depthAll (D.toPs ds)) us (PyData.shownAll (D.toPs ds))
  | [], _, _, h, r, _, _ => by
    rw [show _ = [] from h] at r
    cases r
    exact ⟨⟨_, ReadsAll.nil⟩, [], (fun _ h => nomatch h), .nil⟩
  | d :: ds, _, _, ⟨w, ws, e, h, t⟩, r, c, z => by
    subst e
    cases r with
    | cons r1 r2 =>
      have c' := Bool.and_eq_true_iff.mp (show (d.wM && D.wMs ds) = true from c)
      obtain ⟨⟨as1, q1⟩, b1, hb1, k1⟩ := RA.repM I d _ _ h r1 c'.1 (z _ (List.mem_cons_self ..))
      obtain ⟨⟨as2, q2⟩, b2, hb2, k2⟩ := RAs.repM I ds _ _ t r2 c'.2 (fun t ht => z t (List.mem_cons_of_mem _ ht))
      refine ⟨⟨_, ReadsAll.cons q1 q2⟩, b1 ++ b2, ?_, ?_⟩
      · intro b hm
        show ∃ d' as, Reads s.heap (.ref b) d' as ∧ d'.depth ≤ max d.toP.depth (PyData.depthAll (D.toPs ds))
        rcases List.mem_append.mp hm with hm | hm
        · obtain ⟨d', as', r', hd'⟩ := hb1 b hm
          exact ⟨d', as', r', Nat.le_trans hd' (Nat.le_max_left _ _)⟩
        · obtain ⟨d', as', r', hd'⟩ := hb2 b hm
          exact ⟨d', as', r', Nat.le_trans hd' (Nat.le_max_right _ _)⟩
      · exact .cons ((k1.more fun b hb => List.mem_append_left _ hb).level_le (Nat.le_max_left _ _)) (k2.more_le (fun b hb => List.mem_append_right _ hb) (Nat.le_max_right _ _))
theorem RA.showsM {A : Addr → Prop} (I : Inv X pins σ H s) {a : Addr} : ∀ (d : D), RA X.K A H d (.ref a) → d.wM = true → d.toP.shown.length ≤ sizeLine → ∃ T idr, ShowsBy X.prog X.w s.heap a d.toP T idr
  | .non, h, _, _ => nomatch (show V.ref a = V.non from h)
  | .bl b, h, _, _ => nomatch (show V.ref a = V.bl b from h)
  | .int i, h, _, _ => nomatch (show V.ref a = V.int i from h)
  | .str x, h, _, _ => nomatch (show V.ref a = V.str x from h)
  | .tup ds, ⟨p, vs, e, t, ra⟩, w, z => by
    cases e
    obtain ⟨its, rv, ⟨o, ho, hc, n, hd⟩, _⟩ := I.tuple t
    obtain ⟨⟨as, hr⟩, bs, hb, hk⟩ := RAs.repM I ds vs its ra rv w (fun t ht => Nat.le_trans (tupleText_mem_le ht) z)
    have rd : Reads s.heap (.ref a) (.tuple (D.toPs ds)) as := Reads.tuple ho hc hd hr
    have hna : a ∉ bs := not_mem_of_deeper rd (Nat.lt_succ_self _) hb
    exact ⟨"tuple", "tuple.__repr__", F.slot_tuple_repr, F.slot_tuple_str, F.slot_tuple_format, fun s' hk0 => ⟨o, hk0 _ _ ho, hc⟩, fun A' E s' Q hg hu hk0 hQ => call_tuple_reprK ho hc hd hna hk hg (fun b _ => Clear.nil b) hu hk0 hQ z⟩
  | .kst ds, ⟨p, vs, e, t, ra⟩, w, z => by
    cases e
    obtain ⟨its, rv, ⟨o, n, ho, hc, _, hd⟩, _⟩ := I.list (kst_seq t)
    obtain ⟨⟨as, hr⟩, bs, hb, hk⟩ := RAs.repM I ds vs its ra rv w (fun t ht => Nat.le_trans (listText_mem_le ht) z)
    have rd : Reads s.heap (.ref a) (.list (D.toPs ds)) (a :: as) := Reads.list ho hc hd hr
    have hna : a ∉ bs := not_mem_of_deeper rd (Nat.lt_succ_self _) hb
    refine ⟨"list", "list.__repr__", F.slot_list_repr.toG, F.slot_list_str, F.slot_list_format, fun s' hk0 => ⟨o, hk0 _ _ ho, hc⟩, fun A' E s' Q hg hu hk0 hQ => ?_⟩
    have hQ : ∀ h' u tk, (∀ b o, s'.heap.get? b = some o → h'.get? b = some o) → Q (.str (listText (PyData.shownAll (D.toPs ds))) u) { s' with heap := h', toks := tk } := hQ
    cases its with
    | nil =>
      have e : D.toPs ds = [] := by
        cases h0 : D.toPs ds with
        | nil => rfl
        | cons x xs => rw [h0] at hr; exact nomatch hr
      rw [e] at hQ
      simp only [PyData.shownAll, listText_nil] at hQ
      exact call_list_repr_empty ⟨o, hk0 _ _ ho, hc⟩ (hk0 _ _ ho) hd (hQ s'.heap _ _ fun _ _ e => e)
    | cons x l => exact call_list_reprK ho hc hd hna (by simpa using hk.length_eq) (fun i y e => hk.item i y (by simpa using e)) hg (fun b _ => Clear.nil b) hu hk0 hQ z
  | .dcL kvs, ⟨p, o, e, ⟨v, t⟩, hs, hx, es, ep, hd, he⟩, w, z => by
    cases e
    have ho : s.heap.get? a = some o := (I.hok a _ t).1
    obtain ⟨r1, r2⟩ := dce_reads (h := s.heap) he
    obtain ⟨rd, bs, hb, hna, hk⟩ := dict_pieces (prog := X.prog) (w := X.w) _ ho hx.1 hd hs r1 r2 (kv_ok kvs w).1 z
    exact ⟨"dict", "dict.__repr__", F.slot_dict_repr, F.slot_dict_str, F.slot_dict_format, fun s' hk0 => ⟨o, hk0 _ _ ho, hx.1⟩, fun A' E s' Q hg hu hk0 hQ => call_dict_reprK ho hx.1 hd hs hna hk hg (fun b _ => Clear.nil b) hu hk0 hQ z⟩
  | .lst _, _, h, _ => by cases h
  | .dcT _ _, _, h, _ => by cases h
  | .dcK _ _, _, h, _ => by cases h
  | .obj _ _ _, _, h, _ => by cases h
  | .frz _, _, h, _ => by cases h
  | .fn _, _, h, _ => by cases h
  | .ad _, _, h, _ => by cases h
  | .lsA _ _, _, h, _ => by cases h
  | .key _, _, h, _ => by cases h
  | .tpx _, _, h, _ => by cases h
  | .exn _, _, h, _ => by cases h
  | .lkT _, _, h, _ => by cases h
  | .any, _, h, _ => by cases h
  | .dcN _, _, h, _ => by cases h
end
end
def rReprM (K : Frg) : List V → Hp → VK → Prop := fun xs H Q => ∃ (A : Addr → Prop) (d : D) (v : V), xs = [v] ∧ RA K A H d v ∧ d.wM = true ∧ d.hM ≤ 50 ∧ d.sM ≤ 10000000 ∧ Q (.str d.toP.shown) H
theorem RA.kindsM {K : Frg} {A : Addr → Prop} {H : Hp} : ∀ (d : D) (v : V), RA K A H d v → d.wM = true → (∃ a, v = .ref a) ∨ (d = .non ∧ v = .non) ∨ (∃ b, d = .bl b ∧ v = .bl b) ∨ (∃ i, d = .int i ∧ v = .int i) ∨ (∃ x, d = .str x ∧ v = .str x)
  | .non, _, h, _ => .inr (.inl ⟨rfl, h⟩)
  | .bl b, _, h, _ => .inr (.inr (.inl ⟨b, rfl, h⟩))
  | .int i, _, h, _ => .inr (.inr (.inr (.inl ⟨i, rfl, h⟩)))
  | .str x, _, h, _ => .inr (.inr (.inr (.inr ⟨x, rfl, h⟩)))
  | .tup ds, _, ⟨p, vs, e, _⟩, _ => .inl ⟨p, e⟩
  | .kst ds, _, ⟨p, vs, e, _⟩, _ => .inl ⟨p, e⟩
  | .dcL kvs, _, ⟨p, o, e, _⟩, _ => .inl ⟨p, e⟩
  | .lst _, _, _, h => by cases h
  | .dcT _ _, _, _, h => by cases h
  | .dcK _ _, _, _, h => by cases h
  | .obj _ _ _, _, _, h => by cases h
  | .frz _, _, _, h => by cases h
  | .fn _, _, _, h => by cases h
  | .ad _, _, _, h => by cases h
  | .lsA _ _, _, _, h => by cases h
  | .key _, _, _, h => by cases h
  | .tpx _, _, _, h => by cases h
  | .exn _, _, _, h => by cases h
  | .lkT _, _, _, h => by cases h
  | .any, _, _, h => by cases h
  | .dcN _, _, _, h => by cases h
theorem call_reprM {X : Cx} {k : Nat} (hr : RoomG k X.A) : CallR X (.builtin "repr") (rReprM X.K) := by
  intro pins s σ H xs us Q I hv h
  obtain ⟨A, d, v, rfl, ra, w, hh, hs, q⟩ := h
  obtain ⟨u, rfl, hu⟩ : ∃ u, us = [u] ∧ L2.RelV v u := by
    cases hv with
    | cons r t => cases t; exact ⟨_, rfl, r⟩
  obtain ⟨w1, w2, w3⟩ := D.wM_ok d w
  have z : d.toP.shown.length ≤ sizeLine := sz7 (Nat.le_trans w2 hs)
  have un := hr.units
  rcases RA.kindsM d v ra w with ⟨a, rfl⟩ | ⟨rfl, rfl⟩ | ⟨b, rfl, rfl⟩ | ⟨i, rfl, rfl⟩ | ⟨x, rfl, rfl⟩
  · have hu : u = .ref a := hu
    subst hu
    obtain ⟨T, idr, S⟩ := RA.showsM I d ra w z
    exact call_repr_slot (by omega) (S.typeIs s fun _ _ e => e) S.slotRepr (S.call X.A.in1 _ s _ hr.free (by show X.A.units + 1 + d.toP.depth < cLine; omega) (fun _ _ e => e) fun h' u tk ext => ⟨_, _, rfl, ⟨.str d.toP.shown, H, I.kept ext, ⟨u, rfl⟩, q⟩⟩)
  · have hu : u = .none := hu
    subst hu
    exact P.repr_of_none ⟨.str "None", H, I.tok _, ⟨_, rfl⟩, q⟩
  · have hu : u = .bool b := hu
    subst hu
    exact P.repr_of_bool ⟨.str _, H, I.tok _, ⟨_, rfl⟩, q⟩
  · obtain ⟨t, rfl⟩ := hu
    exact P.repr_of_int (log_ok (of_decide_eq_true w)) ⟨.str _, H, I.tok _, ⟨_, rfl⟩, q⟩
  · obtain ⟨t, rfl⟩ := hu
    exact P.repr_of_str ⟨.str _, H, I.tok _, ⟨_, rfl⟩, q⟩ z
def D.okM (d : D) : Prop := d.wM = true ∧ d.sM ≤ 10000000 ∧ d.hM ≤ 50
def oReprM : List KD → (KD → Prop) → Prop := fun zs P => match zs with
  | [(_, d)] => d.okM ∧ P (.fl, .str d.toP.shown)
  | _ => False
theorem cs_reprM {K : Frg} : CallS K (rReprM K) oReprM := by
  intro B F H vs xs P Q pr hF h q
  unfold oReprM at h
  split at h
  · rename_i k d
    obtain ⟨⟨hw, hz, hh⟩, hP⟩ := h
    obtain ⟨v, ev, p⟩ := pr.get1
    subst ev
    exact ⟨_, d, v, rfl, p.ra, hw, hh, hz, q _ _ H hP (Same.refl H) .str⟩
  · exact h.elim
end
end DL

namespace PySem
open Sem (wp)
open SeqAt
def optIs : Option Int → Value → Bool
  | none, .none => true
  | some i, .int j _ => decide (i = j)
  | _, _ => false
theorem optIs_shape : ∀ {k : Option Int} {v : Value}, optIs k v = true → (k = none ∧ v = .none) ∨ ∃ i t, k = some i ∧ v = .int i t
  | none, .none, _ => .inl ⟨rfl, rfl⟩
  | some i, .int j t, h => .inr ⟨i, t, rfl, by rw [show i = j from of_decide_eq_true h]⟩
  | none, .int _ _, h => by cases h
  | some _, .none, h => by cases h
  | none, .bool _, h => by cases h
  | none, .str _ _, h => by cases h
  | none, .bytes _ _, h => by cases h
  | none, .float _ _, h => by cases h
  | none, .ref _, h => by cases h
  | none, .type _, h => by cases h
  | some _, .bool _, h => by cases h
  | some _, .str _ _, h => by cases h
  | some _, .bytes _ _, h => by cases h
  | some _, .float _ _, h => by cases h
  | some _, .ref _, h => by cases h
  | some _, .type _, h => by cases h
  | none, v, h => by cases v <;> first | exact .inl ⟨rfl, rfl⟩ | cases h
  | some i, v, h => by cases v <;> first | cases h | exact .inr ⟨_, _, rfl, by rw [show i = _ from of_decide_eq_true h]⟩
def optKind (prog : Program) (w : World) : KeyKind prog w (Option Int) where
  is := optIs
  hash := fun k => match k with
    | none => NestedKey.hash w .none
    | some i => hashInt i
  inj := fun v a b ha hb => by
    rcases optIs_shape ha with ⟨rfl, rfl⟩ | ⟨i, t, rfl, rfl⟩
    · rcases optIs_shape hb with ⟨rfl, _⟩ | ⟨j, u, rfl, e⟩
      · rfl
      · exact nomatch e
    · rcases optIs_shape hb with ⟨rfl, e⟩ | ⟨j, u, rfl, e⟩
      · exact nomatch e
      · injection e with e1 _; rw [e1]
  byValue := fun k v h => by
    rcases optIs_shape h with ⟨rfl, rfl⟩ | ⟨i, t, rfl, rfl⟩ <;> rfl
  pyHash := fun hv h => by
    rcases optIs_shape hv with ⟨rfl, rfl⟩ | ⟨i, t, rfl, rfl⟩
    · exact W.pyHash_slot (T := "NoneType") rfl F.slot_NoneType_hash F.entry_NoneType_hash (F.args_NoneType_hash_1 _) (beq_builtin_none _) (.inl rfl) (wpAny_bind (wpAny_pure (wpAny_bind (wpAny_mkInt (wpAny_pure ⟨_, _, rfl, h⟩)))))
    · exact wpAny_pyHash_int h
  eqBool := fun hu hv h => by
    rcases optIs_shape hu with ⟨rfl, rfl⟩ | ⟨i, t, rfl, rfl⟩
    · rcases optIs_shape hv with ⟨rfl, rfl⟩ | ⟨j, u, rfl, rfl⟩
      · exact EqAt.same _ _ _ _ _ h
      · exact EqAt.none_int j u _ _ _ _ h
    · rcases optIs_shape hv with ⟨rfl, rfl⟩ | ⟨j, u, rfl, rfl⟩
      · exact EqAt.int_none i t _ _ _ _ h
      · have e : decide ((some i : Option Int) = some j) = (i == j) := by
          by_cases e : i = j
          · subst e; simp
          · rw [decide_eq_false (fun q => e (Option.some.inj q))]; exact (beq_eq_false_iff_ne.mpr e).symm
        rw [e] at h; exact wpAny_eqBool_int h
  «strs» := fun k x t v h => by
    rcases optIs_shape h with ⟨rfl, e⟩ | ⟨i, u, rfl, e⟩ <;> exact nomatch e
theorem merged_all {K : Type} [DecidableEq K] {A : K → Prop} {B : Value → Prop} : ∀ (more acc : List (K × Value)), (∀ x ∈ acc, A x.1 ∧ B x.2) → (∀ x ∈ more, A x.1 ∧ B x.2) → ∀ x ∈ merged acc more, A x.1 ∧ B x.2
  | [], acc, h, _, x, hx => h x hx
  | m :: more, acc, h, h2, x, hx => by
    have hm := h2 m (List.mem_cons_self ..)
    refine merged_all more (stored acc m.1 m.2) (fun y hy => ?_) (fun y hy => h2 y (List.mem_cons_of_mem _ hy)) x hx
    unfold stored at hy
    split at hy
    · obtain ⟨z, hz, rfl⟩ := List.mem_map.mp hy
      split
      · exact ⟨(h z hz).1, hm.2⟩
      · exact h z hz
    · rcases List.mem_append.mp hy with hy | hy
      · exact h y hy
      · rw [List.mem_singleton.mp hy]; exact hm
end PySem
namespace DL
open PySem PySem.Spec PyProof PyProof.Rows L2
noncomputable section
theorem imv_of {k : Option Int} {v : Value} (h : optIs k v = true) : ImV k v := by
  rcases optIs_shape h with ⟨rfl, rfl⟩ | ⟨i, t, rfl, rfl⟩
  · rfl
  · exact ⟨t, rfl⟩
theorem pairs_dce {prog : Program} {w : World} {A B : Option Int → Prop} {es : List DictEntry} {kvs : List (Option Int × Value)} (h : Pairs (optKind prog w) es kvs) : (∀ x ∈ kvs, A x.1 ∧ ∃ o, B o ∧ ImV o x.2) →
    ∃ L : List (Option Int × Option Int), DcE L es ∧ L.length = kvs.length ∧ ∀ x ∈ L, A x.1 ∧ B x.2 := by
  induction h with
  | nil => exact fun _ => ⟨[], rfl, rfl, fun _ h => nomatch h⟩
  | @cons e kv es kvs hk hv t ih =>
    intro hx
    obtain ⟨L, h1, h2, h3⟩ := ih fun x m => hx x (List.mem_cons_of_mem _ m)
    obtain ⟨a, o, b, im⟩ := hx kv (List.mem_cons_self ..)
    refine ⟨(kv.1, o) :: L, ⟨e, es, rfl, imv_of hk, by rw [hv]; exact im, h1⟩, by rw [List.length_cons, List.length_cons, h2], fun x m => ?_⟩
    rcases List.mem_cons.mp m with rfl | m
    · exact ⟨a, b⟩
    · exact h3 x m
def imW : Option Int → V
  | none => .non
  | some i => .int i
theorem imW_is {o : Option Int} {u : Value} (h : RelV (imW o) u) : optIs o u = true ∧ ImV o u := by
  cases o with
  | none => rw [show u = .none from h]; exact ⟨rfl, rfl⟩
  | some i => obtain ⟨t, rfl⟩ := h; exact ⟨decide_eq_true rfl, t, rfl⟩
theorem opairs_of {X : Cx} {pins : List (Addr × Obj)} {σ : L2.St} {H : Hp} {s : Shared} (I : Inv X pins σ H s) : ∀ {ps : List Addr} {kvs : List (Option Int × Option Int)}, Paired (fun p kv => SqT X.K H p [imW kv.1, imW kv.2]) ps kvs →
    ∃ prs : List (Value × Value), prs.length = ps.length ∧ (∀ (j : Nat) k v, prs[j]? = some (k, v) → ∃ p, ps[j]? = some p ∧ s.heap.IsTuple p #[k, v]) ∧ Paired (fun (q : Value × Value) (kv : Option Int × Option Int) => RelV (imW kv.1) q.1 ∧ RelV (imW kv.2) q.2) prs kvs
  | _, _, .nil => ⟨[], rfl, fun j k v e => by simp at e, .nil⟩
  | _, _, .cons (a := p) (b := kv) h t => by
    obtain ⟨prs, hl, hp, hr⟩ := opairs_of I t
    obtain ⟨its, rv, ht, _⟩ := I.tuple h
    obtain ⟨u, y, ei, ru, ry⟩ := vals2 rv
    subst ei
    refine ⟨(u, y) :: prs, by rw [List.length_cons, List.length_cons, hl], fun j k v e => ?_, .cons ⟨ru, ry⟩ hr⟩
    cases j with
    | zero =>
      have e' : (u, y) = (k, v) := Option.some.inj e
      cases e'
      exact ⟨p, rfl, ht⟩
    | succ j =>
      obtain ⟨b, e1, e2⟩ := hp j k v (by simpa using e)
      exact ⟨b, by simpa using e1, e2⟩
def rDictO (K : Frg) : List V → Hp → VK → Prop := fun xs H Q => ∃ (a : Addr) (ps : List Addr) (kvs : List (Option Int × Option Int)), xs = [.ref a] ∧ SqL K H a (ps.map V.ref) ∧ Paired (fun p kv => SqT K H p [imW kv.1, imW kv.2]) ps kvs ∧
    ∀ p o L u, H p = none → DcL p o L → L.length ≤ kvs.length → (∀ x ∈ L, x.1 ∈ kvs.map (·.1) ∧ x.2 ∈ kvs.map (·.2)) → Q (.ref p) (upd H p (.frz o u))
theorem call_dictO {X : Cx} (hcalm : X.calm = true) : CallR X (.type "dict") (rDictO X.K) := by
  intro pins s σ H xs us Q I r q
  obtain ⟨a, ps, kvs, ex, hq, hp, q⟩ := q
  subst ex
  obtain ⟨u, eu, rx⟩ := vals1 r
  subst eu
  cases rx
  obtain ⟨its, rv, ⟨o, n, ho, hc, hd, hdat⟩, hz⟩ := I.list hq
  have ei := refs_at rv
  subst ei
  rw [List.length_map] at hz
  obtain ⟨prs, hl, hat, hrel⟩ := opairs_of I hp
  have hl2 : prs.length = kvs.length := hrel.length
  -- the keys told
  have hkv : ∃ ks : List (Option Int × Value), ks.length = prs.length ∧ (∀ (i : Nat) key v, prs[i]? = some (key, v) → ∃ k, ks[i]? = some (k, v) ∧ (optKind X.prog X.w).is k key = true) ∧ ∀ x ∈ ks, x.1 ∈ kvs.map (·.1) ∧ ∃ o, o ∈ kvs.map (·.2) ∧ ImV o x.2 := by
    clear hat hl hz hdat ho hq hp q rv r hl2
    induction hrel with
    | nil => exact ⟨[], rfl, fun i k v e => by simp at e, fun _ h => nomatch h⟩
    | @cons q0 kv prs kvs h t ih =>
      obtain ⟨ks, h1, h2, h3⟩ := ih
      refine ⟨(kv.1, q0.2) :: ks, by rw [List.length_cons, List.length_cons, h1], fun i key v e => ?_, fun x m => ?_⟩
      · cases i with
        | zero =>
          have e' : q0 = (key, v) := Option.some.inj e
          subst e'
          exact ⟨kv.1, rfl, (imW_is h.1).1⟩
        | succ i =>
          obtain ⟨k, e1, e2⟩ := h2 i key v (by simpa using e)
          exact ⟨k, by simpa using e1, e2⟩
      · rcases List.mem_cons.mp m with rfl | m
        · exact ⟨List.mem_cons_self .., kv.2, List.mem_cons_self .., (imW_is h.2).2⟩
        · obtain ⟨g1, o, g2, g3⟩ := h3 x m
          exact ⟨List.mem_cons_of_mem _ g1, o, List.mem_cons_of_mem _ g2, g3⟩
  obtain ⟨ks, k1, k2, k3⟩ := hkv
  refine PySem.call_dict_pairs (knd := optKind X.prog X.w) (kvs := ks) (PairArg.list a (ps.map Value.ref).toArray (fun j => ps.getD j 0) prs) (I.ok.hd hcalm) ⟨⟨o, n, ho, hc, hd, hdat⟩, by simp [hl], fun j k v e => ?_⟩ ⟨k1, fun i key v e => k2 i key v e⟩ (by rw [hl]; exact hz) fun h' tk hd' k => ?_
  · obtain ⟨p, e1, e2⟩ := hat j k v e
    refine ⟨by simp [e1], .inl ?_⟩
    show s.heap.IsTuple (ps.getD j 0) _
    rw [show ps.getD j 0 = p by simp [e1]]
    exact e2
  · obtain ⟨o', es, ep, g1, g2, g3, _, g4, _⟩ := hd'
    have hm : (s.heap.objs.size == sysModules) = false := beq_eq_false_iff_ne.mpr (Nat.ne_of_gt I.big)
    obtain ⟨L, l1, l2, l3⟩ := pairs_dce (A := fun k => k ∈ kvs.map (·.1)) (B := fun o => o ∈ kvs.map (·.2)) g4 (merged_all ks [] (A := fun k => k ∈ kvs.map (·.1)) (B := fun v => ∃ o, o ∈ kvs.map (·.2) ∧ ImV o v) (fun _ h => nomatch h) k3)
    have hlen : L.length ≤ kvs.length := by
      have := merged_length_le ([] : List (Option Int × Value)) ks
      rw [List.length_nil, Nat.zero_add] at this
      omega
    exact ⟨.ref s.heap.objs.size, upd H s.heap.objs.size (.frz o' (.ext fun _ => True)), I.laid (t' := tk) (fun b u e => k b u List.not_mem_nil e) (Nat.le_refl _) (show ObjOk X.prog X.w _ _ _ (.frz o' (.ext fun _ => True)) from ⟨g1, trivial, ⟨_, g1⟩, fun _ _ _ _ => trivial⟩), rfl, q _ _ L _ (I.hok.fresh (Nat.le_refl _)) ⟨hm, g2, es, ep, g3, l1⟩ hlen l3⟩
def imD : Option Int → D
  | none => .non
  | some i => .int i
theorem imD_ra {K : Frg} {A : Addr → Prop} {H : Hp} {o : Option Int} {v : V} (h : RA K A H (imD o) v) : v = imW o := by
  cases o with
  | none => exact h
  | some i => exact h
theorem RAs.opairs {K : Frg} {A : Addr → Prop} {H : Hp} : ∀ {kvs : List (Option Int × Option Int)} {vs : List V}, RAs K A H (kvs.map fun x => D.tup [imD x.1, imD x.2]) vs → ∃ ps : List Addr, vs = ps.map V.ref ∧ Paired (fun p kv => SqT K H p [imW kv.1, imW kv.2]) ps kvs
  | [], _, h => ⟨[], h, .nil⟩
  | kv :: kvs, _, ⟨w, ws, e, ⟨p, us, e2, t, u1, us1, e3, h1, u2, us2, e4, h2, e5⟩, h⟩ => by
    obtain ⟨ps, rfl, hp⟩ := RAs.opairs h
    subst e e2
    refine ⟨p :: ps, rfl, .cons ?_ hp⟩
    rw [show us2 = [] from e5] at e4
    rw [e4] at e3
    rw [imD_ra h1, imD_ra h2] at e3
    rw [← e3]
    exact t
def oDictO : List KD → (KD → Prop) → Prop := fun zs P => match zs with
  | [(_, .lst ds)] => ∃ kvs : List (Option Int × Option Int), ds = kvs.map (fun x => .tup [imD x.1, imD x.2]) ∧ ∀ L : List (Option Int × Option Int), L.length ≤ kvs.length → (∀ x ∈ L, x.1 ∈ kvs.map (·.1) ∧ x.2 ∈ kvs.map (·.2)) → P (.fl, .dcL L)
  | _ => False
theorem cs_dictO {K : Frg} : CallS K (rDictO K) oDictO := by
  intro B F H vs xs P Q pr hF h q
  unfold oDictO at h
  split at h
  · rename_i k ds
    obtain ⟨kvs, rfl, hP⟩ := h
    obtain ⟨v, ev, p⟩ := pr.get1
    subst ev
    obtain ⟨a, us, ea, t, r⟩ := p.lstT
    subst ea
    obtain ⟨ps, rfl, hp⟩ := RAs.opairs r
    exact ⟨a, ps, kvs, rfl, .inl (.of t), hp, fun p o L u hn hd hl hL => q _ _ _ (hP L hl hL) (same_upd hn) (.fl ⟨p, o, rfl, ⟨_, upd_same⟩, hd⟩)⟩
  · exact h.elim
end
end DL

namespace PA
open DL
def rest (n a b : Nat) (f : Nat → Int) : Int := sumR n fun i => if i ≠ a ∧ i ≠ b then f i else 0
def swp (p : Nat → Nat) (a b : Nat) : Nat → Nat := fun i => if i = b then p a else if i = a then p b else p i
def costV (n : Nat) (F W C : Nat → Nat → Int) (p : Nat → Nat) : Int := sumR n fun i => C i (p i) + sumR n fun j => F i j * W (p i) (p j)
def besV (n : Nat) (F W C : Nat → Nat → Int) (p : Nat → Nat) (a b : Nat) : Int := C a (p a) + C b (p b) - C a (p b) - C b (p a) +
  sumR n fun k => if k ≠ a ∧ k ≠ b then (F a k - F b k) * (W (p a) (p k) - W (p b) (p k)) + (F k a - F k b) * (W (p k) (p a) - W (p k) (p b)) else 0
def savV (n : Nat) (F W C : Nat → Nat → Int) (p : Nat → Nat) (a b : Nat) : Int := if a = b then 0 else besV n F W C p a b + (F a b - F b a) * (W (p a) (p b) - W (p b) (p a))
theorem pigeon : ∀ (B : Nat) (l : List Nat), l.Nodup → (∀ x ∈ l, x < B) → l.length ≤ B
  | 0, [], _, _ => Nat.le_refl _
  | 0, x :: l, _, h => absurd (h x (List.mem_cons_self ..)) (Nat.not_lt_zero _)
  | B + 1, l, hn, h => by
    have h1 := pigeon B (l.erase B) (hn.erase B) fun x hx => by
      have hm := (hn.mem_erase_iff).mp hx
      have := h x hm.2
      omega
    have h2 : l.length ≤ (l.erase B).length + 1 := by
      by_cases c : B ∈ l
      · rw [List.length_erase_of_mem c]; omega
      · rw [List.erase_of_not_mem c]; omega
    omega
theorem nodup_tabl {n : Nat} {p : Nat → Nat} (hi : ∀ i j, i < n → j < n → p i = p j → i = j) : (tabl n p).Nodup := by
  refine List.pairwise_map.mpr ?_
  refine (List.nodup_range (n := n)).imp_of_mem fun {a b} ha hb hab e => hab (hi a b (List.mem_range.mp ha) (List.mem_range.mp hb) e)
theorem surj_of {n : Nat} {p : Nat → Nat} (hp : ∀ i, i < n → p i < n) (hi : ∀ i j, i < n → j < n → p i = p j → i = j) {v : Nat} (hv : v < n) : ∃ j, j < n ∧ p j = v := by
  refine Classical.byContradiction fun c => ?_
  have c' : ∀ j, j < n → p j ≠ v := fun j hj e => c ⟨j, hj, e⟩
  have h := pigeon n (v :: tabl n p) (List.nodup_cons.mpr ⟨fun z => by
      obtain ⟨j, hj, e⟩ := List.mem_map.mp z
      exact c' j (List.mem_range.mp hj) e, nodup_tabl hi⟩) fun x hx => by
    rcases List.mem_cons.mp hx with rfl | hx
    · exact hv
    · obtain ⟨j, hj, rfl⟩ := List.mem_map.mp hx
      exact hp j (List.mem_range.mp hj)
  rw [List.length_cons, tabl_len] at h
  omega
def code (b : Nat) (q : Nat → Nat) : Nat → Nat
  | 0 => 0
  | k + 1 => code b q k + q k * b ^ k
theorem code_lt {b : Nat} {q : Nat → Nat} : ∀ k, (∀ i, i < k → q i < b) → code b q k < b ^ k
  | 0, _ => Nat.one_pos
  | k + 1, h => by
    have h1 := code_lt (b := b) (q := q) k fun i hi => h i (by omega)
    have h2 : (q k + 1) * b ^ k ≤ b * b ^ k := Nat.mul_le_mul_right _ (h k (by omega))
    show code b q k + q k * b ^ k < b ^ (k + 1)
    rw [Nat.pow_succ, Nat.mul_comm (b ^ k) b]
    rw [Nat.add_mul, Nat.one_mul] at h2
    omega
theorem code_inj {b : Nat} {q q' : Nat → Nat} : ∀ k, (∀ i, i < k → q i < b) → (∀ i, i < k → q' i < b) → code b q k = code b q' k → ∀ i, i < k → q i = q' i
  | 0, _, _, _ => fun i hi => absurd hi (Nat.not_lt_zero _)
  | k + 1, h, h', e => by
    have h1 := code_lt (b := b) (q := q) k fun i hi => h i (by omega)
    have h2 := code_lt (b := b) (q := q') k fun i hi => h' i (by omega)
    have e : code b q k + q k * b ^ k = code b q' k + q' k * b ^ k := e
    have e1 : (code b q k + q k * b ^ k) / b ^ k = q k := by rw [Nat.add_mul_div_right _ _ (by omega), Nat.div_eq_of_lt h1, Nat.zero_add]
    have e2 : (code b q' k + q' k * b ^ k) / b ^ k = q' k := by rw [Nat.add_mul_div_right _ _ (by omega), Nat.div_eq_of_lt h2, Nat.zero_add]
    have e3 : q k = q' k := by rw [← e1, ← e2, e]
    rw [e3] at e
    intro i hi
    by_cases c : i = k
    · rw [c]; exact e3
    · exact code_inj k (fun i hi => h i (by omega)) (fun i hi => h' i (by omega)) (by omega) i (by omega)
theorem costV_congr {n : Nat} {F W C : Nat → Nat → Int} {p q : Nat → Nat} (h : ∀ i, i < n → p i = q i) : costV n F W C p = costV n F W C q := by
  unfold costV
  refine sumR_congr fun i hi => ?_
  rw [h i hi]
  exact congrArg (C i (q i) + ·) (sumR_congr fun j hj => by rw [h j hj])
theorem code_cost {n : Nat} {F W C : Nat → Nat → Int} {p q : Nat → Nat} (hp : ∀ i, i < n → p i < n) (hpi : ∀ i j, i < n → j < n → p i = p j → i = j) (hq : ∀ i, i < n → q i < n) (hqi : ∀ i j, i < n → j < n → q i = q j → i = j)
    (e : code n p (n - 1) = code n q (n - 1)) : costV n F W C p = costV n F W C q := by
  have h := code_inj (n - 1) (fun i hi => hp i (by omega)) (fun i hi => hq i (by omega)) e
  refine costV_congr fun i hi => ?_
  by_cases c : i < n - 1
  · exact h i c
  · obtain ⟨j, hj, ej⟩ := surj_of hq hqi (hp i hi)
    by_cases cj : j < n - 1
    · have := hpi j i (by omega) hi (by rw [h j cj, ej])
      omega
    · have : j = i := by omega
      rw [← ej, this]
end PA

namespace DCA
open PySem PySem.Spec PyProof.Rows L2 DL
noncomputable section
def sem__law_bag : SF :=
  (sSeq (sSet 1 (eP (pC (.int 314159265))))
    (sSeq (sForX (iSq (pVar 0)) (gNm 2) (sSet 1 (eP (pOp oMod (pOp oAdd (pOp oMul (pVar 1) (pC (.int 40014))) (pVar 2)) (pC (.int 2147483563))))))
    (sRet (eP (pLst (gCons (pCall oList (gCons (pVar 0) gNil)) (gCons (pC (.int 0)) (gCons (pVar 1) gNil))))))))
@[irreducible] def cf__law_bag : CF := hid (cfOf 2 [false] sem__law_bag)
theorem cf__law_bag_eq : cf__law_bag = cfOf 2 [false] sem__law_bag := by unfold cf__law_bag; rw [hid_eq]
def sem__law_dip : SF :=
  (sSeq (sIf (teP (tAnd (pTest (pOp oEq (pOp xIx (pVar 0) (pC (.int 1))) (pC (.int 0)))) (pTest (pOp oGt (pCall oLen (gCons (pOp xIx (pVar 0) (pC (.int 0))) gNil)) (pC (.int 0)))))) (sSeq (sSet 2 (eMthP xPopAt (plIxX (plVar 0) (pC (.int 0))) (gCons (pC (.int 0)) gNil)))
    (sSeq (sIf (teP (pTest (pOp oLt (pCall oAbs (gCons (pVar 2) gNil)) (pOp oPow (pC (.int 10)) (pC (.int 18)))))) (sRet (eP (pOp oMod (pVar 2) (pVar 1)))) sNil)
    (sStIxX (eP (pCall oAbs (gCons (pVar 2) gNil))) (plVar 0) (pC (.int 1))))) sNil)
    (sSeq (sIf (teP (pTest (pOp oGt (pOp xIx (pVar 0) (pC (.int 1))) (pC (.int 0))))) (sSeq (sSet 3 (eP (pOp oMod (pOp xIx (pVar 0) (pC (.int 1))) (pVar 1))))
    (sSeq (sStIxX (eP (pOp oFdiv (pOp xIx (pVar 0) (pC (.int 1))) (pVar 1))) (plVar 0) (pC (.int 1)))
    (sRet (eMv 3)))) sNil)
    (sSeq (sStIxX (eP (pOp oMod (pOp oAdd (pOp oMul (pOp xIx (pVar 0) (pC (.int 2))) (pOp xIx (pVar 0) (pC (.int 2)))) (pC (.int 40692))) (pC (.int 2147483563)))) (plVar 0) (pC (.int 2)))
    (sRet (eP (pOp oMod (pOp oFdiv (pOp xIx (pVar 0) (pC (.int 2))) (pC (.int 32))) (pVar 1)))))))
@[irreducible] def cf__law_dip : CF := hid (cfOf 2 [true, false] sem__law_dip)
theorem cf__law_dip_eq : cf__law_dip = cfOf 2 [true, false] sem__law_dip := by unfold cf__law_dip; rw [hid_eq]
def sem__law_entry : SF :=
  (sSeq (sIf (teP (pTest (pOp oEq (pVar 1) (pC (.int 0))))) (sRet (eFn [true, false] cf__law_dip (aPl 0 (aE (eP (pOp oAdd (pVar 2) (pC (.int 1)))) aNil)))) sNil)
    (sSeq (sIf (teP (pTest (pOp oEq (pVar 1) (pC (.int 1))))) (sRet (eFn [true, false] cf__law_dip (aPl 0 (aE (eP (pC (.int 4))) aNil)))) sNil)
    (sSeq (sIf (teP (pTest (pOp oEq (pVar 1) (pC (.int 2))))) (sRet (eOp oMul (eMv 2) (eFn [true, false] cf__law_dip (aPl 0 (aE (eP (pC (.int 2))) aNil))))) sNil)
    (sRet (eOp oMul (eFn [true, false] cf__law_dip (aPl 0 (aE (eP (pC (.int 40))) aNil))) (eCallB oInt (aE (eOp oEq (eFn [true, false] cf__law_dip (aPl 0 (aE (eP (pC (.int 3))) aNil))) (eP (pC (.int 0)))) aNil)))))))
@[irreducible] def cf__law_entry : CF := hid (cfOf 0 [true, false, false] sem__law_entry)
theorem cf__law_entry_eq : cf__law_entry = cfOf 0 [true, false, false] sem__law_entry := by unfold cf__law_entry; rw [hid_eq]
def sem__law_square : SF :=
  (sSeq (sSet 4 (eFn [true, false] cf__law_dip (aPl 0 (aE (eP (pC (.int 4))) aNil))))
    (sSeq (sSet 5 (eP (pLst gNil)))
    (sSeq (sForX (jR1 (gCons (pVar 1) gNil)) (gNm 6) (sSeq (sSet 7 (eLcX (jR1 (gCons (pVar 1) gNil)) [8] (gNm 8) tNilP (eFn [true, false, false] cf__law_entry (aPl 0 (aE (eMv 4) (aE (eMv 2) aNil))))))
    (sSeq (sStIxX (eP (pOp oMul (pOp xIx (pVar 7) (pVar 6)) (pCall oInt (gCons (pUn uNot (pVar 3)) gNil)))) (plVar 7) (pVar 6))
    (sExpr (eMthR mAppend 5 (aE (eP (pCall oTuple (gCons (pVar 7) gNil))) aNil))))))
    (sRet (eP (pCall oTuple (gCons (pVar 5) gNil)))))))
@[irreducible] def cf__law_square : CF := hid (cfOf 5 [true, false, false, false] sem__law_square)
theorem cf__law_square_eq : cf__law_square = cfOf 5 [true, false, false, false] sem__law_square := by unfold cf__law_square; rw [hid_eq]
def sem__law_job : SF :=
  (sSeq (sSet 2 (eOp oAdd (eP (pC (.int 1))) (eFn [true, false] cf__law_dip (aPl 0 (aE (eMv 1) aNil)))))
    (sSeq (sSet 3 (eFn [true, false, false, false] cf__law_square (aPl 0 (aE (eMv 2) (aE (eP (pC (.int 999))) (aE (eP (pC (.bl true))) aNil))))))
    (sSeq (sSet 4 (eFn [true, false, false, false] cf__law_square (aPl 0 (aE (eMv 2) (aE (eP (pC (.int 999))) (aE (eP (pC (.bl true))) aNil))))))
    (sRet (eTup (aE (eMv 3) (aE (eMv 4) (aE (eFn [true, false, false, false] cf__law_square (aPl 0 (aE (eMv 2) (aE (eP (pC (.int 1000000))) (aE (eP (pC (.bl false))) aNil))))) aNil))))))))
@[irreducible] def cf__law_job : CF := hid (cfOf 3 [true, false] sem__law_job)
theorem cf__law_job_eq : cf__law_job = cfOf 3 [true, false] sem__law_job := by unfold cf__law_job; rw [hid_eq]
def sem__law_other_job : SF :=
  (sSeq (sSet 2 (eP (pCall oList (gCons (pVar 1) gNil))))
    (sSeq (sForX (jR1 (gCons (pC (.int 2)) gNil)) (gNm 3) (sSeq (sSet 4 (eFn [true, false] cf__law_dip (aPl 0 (aE (eP (pC (.int 3))) aNil))))
    (sStIxX (eFn [true, false, false, false] cf__law_square (aPl 0 (aE (eP (pCall oLen (gCons (pOp xIx (pVar 1) (pC (.int 0))) gNil))) (aE (eP (pOp xIx (pLst (gCons (pC (.int 999)) (gCons (pC (.int 999)) (gCons (pC (.int 1000000)) gNil)))) (pVar 4))) (aE (eP (pOp oLt (pVar 4) (pC (.int 2)))) aNil))))) (plVar 2) (pVar 4))))
    (sRet (eP (pCall oTuple (gCons (pVar 2) gNil))))))
@[irreducible] def cf__law_other_job : CF := hid (cfOf 3 [true, false] sem__law_other_job)
def sem__law_order : SF :=
  (sSeq (sSet 2 (eP (pLR1X (pVar 1))))
    (sRet (eCallB oTuple (aE (eLcX (jR1 (gCons (pVar 1) gNil)) [3] (gNm 3) tNilP (eMthR xPopAt 2 (aE (eFn [true, false] cf__law_dip (aPl 0 (aE (eP (pCall oLen (gCons (pVar 2) gNil))) aNil))) aNil))) aNil))))
@[irreducible] def cf__law_order : CF := hid (cfOf 2 [true, false] sem__law_order)
def sem_fixed : SF :=
  (sSeq (sAsg (eMv 0) (gTu 3 (tConsG (gNm 2) (tConsG (gNm 3) (tConsG (gNm 4) tNilG)))))
    (sSeq (sSet 5 (eP (pLcX (jR1 (gCons (pCall oLen (gCons (pVar 1) gNil)) gNil)) [9] (gNm 9) (pTest (pOp oNotN (pOp xIx (pVar 1) (pVar 9)) (pC .non))) (pVar 9))))
    (sSeq (sSet 6 (eP (pCall oSum (gCons (pLcX (iSq (pVar 5)) [9] (gNm 9) tNilP (pOp xIx (pOp xIx (pVar 4) (pVar 9)) (pOp xIx (pVar 1) (pVar 9)))) gNil))))
    (sFrz 5 (sSeq (sForX (iSq (pVar 5)) (gNm 7) (sForX (iSq (pVar 5)) (gNm 8) (sSet 6 (eP (pOp oAdd (pVar 6) (pOp oMul (pOp xIx (pOp xIx (pVar 2) (pVar 7)) (pVar 8)) (pOp xIx (pOp xIx (pVar 3) (pOp xIx (pVar 1) (pVar 7))) (pOp xIx (pVar 1) (pVar 8)))))))))
    (sRet (eMv 6)))))))
@[irreducible] def cf_fixed : CF := hid (cfOf 8 [false, false] sem_fixed)
def sem_cost : SF :=
  (sRet (eP (pFn cf_fixed (gCons (pVar 0) (gCons (pVar 1) gNil)))))
@[irreducible] def cf_cost : CF := hid (cfOf 0 [false, false] sem_cost)
end
end DCA

namespace DCA
open PySem PySem.Spec PyProof.Rows L2 DL
theorem pos0 : (0 : Int) < 2147483563 := by decide
abbrev BagD (ns : List Int) (m x : Int) : D := .lst [.lst (ns.map .int), .int m, .int x]
def Bag (d : D) : Prop := ∃ ns m x, d = BagD ns m x ∧ 0 ≤ m ∧ 0 ≤ x ∧ x < 2147483563 ∧ ns.length ≤ 63
theorem bag_spec {ns : List Int} {Q X} (hn : ns.length ≤ 63) (h : ∀ d, Bag d → Q (.ow, d) []) : cf__law_bag [(.fl, .kst (ns.map .int))] Q X := by
  rw [cf__law_bag_eq]
  refine go_For (fun i ρ => ∃ x o, 0 ≤ x ∧ x < 2147483563 ∧ ρ = [some (.fl, .kst (ns.map .int)), some (.fl, .int x), o]) ⟨314159265, none, by decide, by decide, rfl⟩ (fun i z ρ N hz hI hN => ?_) fun ρ hI => ?_
  · obtain ⟨x, o, h0, h1, rfl⟩ := hI
    obtain ⟨c, rfl⟩ : ∃ c, z = (.fl, .int c) := by
      rw [List.map_map, List.getElem?_map] at hz
      cases e : ns[i]? with
      | none => rw [e] at hz; cases hz
      | some c => rw [e] at hz; exact ⟨c, (Option.some.inj hz).symm⟩
    refine ⟨.inl (by omega), ⟨pos0, hN _ ⟨_, _, ?_, ?_, rfl⟩⟩⟩
    · exact Int.emod_nonneg _ (by decide)
    · exact Int.emod_lt_of_pos _ (by decide)
  · obtain ⟨x, o, h0, h1, rfl⟩ := hI
    exact h _ ⟨ns, 0, x, rfl, by decide, h0, h1, hn⟩
theorem dip_tail {ns : List Int} {m x many : Int} {o : Sl} {De : DEnds} (h0 : 0 ≤ m) (h1 : 0 ≤ x) (h2 : x < 2147483563) (h3 : ns.length ≤ 63) (hm : 0 < many) (hm2 : many ≤ 1000000000000000000000000000000000000000000000000000000000000)
    (h : ∀ r d o o', 0 ≤ r → r < many → Bag d → De.rt (.fl, .int r) [some (.ow, d), some (.fl, .int many), o, o']) :
    (sSeq (sIf (teP (pTest (pOp oGt (pOp xIx (pVar 0) (pC (.int 1))) (pC (.int 0))))) (sSeq (sSet 3 (eP (pOp oMod (pOp xIx (pVar 0) (pC (.int 1))) (pVar 1))))
    (sSeq (sStIxX (eP (pOp oFdiv (pOp xIx (pVar 0) (pC (.int 1))) (pVar 1))) (plVar 0) (pC (.int 1)))
    (sRet (eMv 3)))) sNil)
    (sSeq (sStIxX (eP (pOp oMod (pOp oAdd (pOp oMul (pOp xIx (pVar 0) (pC (.int 2))) (pOp xIx (pVar 0) (pC (.int 2)))) (pC (.int 40692))) (pC (.int 2147483563)))) (plVar 0) (pC (.int 2)))
    (sRet (eP (pOp oMod (pOp oFdiv (pOp xIx (pVar 0) (pC (.int 2))) (pC (.int 32))) (pVar 1)))))) De [some (.ow, BagD ns m x), some (.fl, .int many), o, none] := by
  refine go_ix rfl rfl (ifd (fun hp => ?_) fun hp => ?_)
  · refine go_ix rfl rfl ⟨hm, go_ix rfl rfl ⟨⟨hm, by omega⟩, go_st rfl rfl ?_⟩⟩
    exact h _ _ _ _ (Int.emod_nonneg _ (by omega)) (Int.emod_lt_of_pos _ hm) ⟨ns, m / many, x, rfl, Int.ediv_nonneg h0 (by omega), h1, h2, h3⟩
  · refine go_ix rfl rfl (go_ix rfl rfl ⟨.inl (by omega), ⟨pos0, go_st rfl rfl (go_ix rfl rfl ⟨⟨by decide, by decide⟩, ⟨hm, ?_⟩⟩)⟩⟩)
    exact h _ _ _ _ (Int.emod_nonneg _ (by omega)) (Int.emod_lt_of_pos _ hm) ⟨ns, m, _, rfl, h0, Int.emod_nonneg _ (by decide), Int.emod_lt_of_pos _ (by decide), h3⟩
theorem dip_spec {d : D} {many : Int} {Q X} (hd : Bag d) (hm : 0 < many) (hm2 : many ≤ 1000000000000000000000000000000000000000000000000000000000000) (h : ∀ r d, 0 ≤ r → r < many → Bag d → Q (.fl, .int r) [(.ow, d)]) : cf__law_dip [(.ow, d), (.fl, .int many)] Q X := by
  rw [cf__law_dip_eq]
  obtain ⟨ns, m, x, rfl, h0, h1, h2, h3⟩ := hd
  refine go_ix rfl rfl (ifd (fun hp => go_ix rfl rfl (ifd (fun hq => ?_) fun hq => ?_)) fun hp => ?_)
  · cases ns with
    | nil => exact absurd hq (by simp)
    | cons c ns =>
      refine go_pl rfl rfl rfl ⟨rfl, go_popAt (j := 0) (.inr rfl) (by rw [List.length_map]; omega) (ixN_ok (i := 0) (by simp)) rfl ?_⟩
      refine ⟨⟨by decide, by decide, by decide⟩, ifd (fun hs => ⟨hm, ?_⟩) fun hs => go_st rfl rfl ?_⟩
      · exact h _ _ (Int.emod_nonneg _ (by omega)) (Int.emod_lt_of_pos _ hm) ⟨ns, m, x, rfl, h0, h1, h2, by rw [List.length_cons] at h3; omega⟩
      · exact dip_tail (ns := ns) (by split <;> omega) h1 h2 (by rw [List.length_cons] at h3; omega) hm hm2 fun r d _ _ a b c => h r d a b c
  · exact dip_tail h0 h1 h2 h3 hm hm2 fun r d _ _ a b c => h r d a b c
  · exact dip_tail h0 h1 h2 h3 hm hm2 fun r d _ _ a b c => h r d a b c
theorem entry_spec {d : D} {kind most : Int} {Q X} (hd : Bag d) (h0 : 0 ≤ most) (h1 : most ≤ 1000000) (h : ∀ r d, 0 ≤ r → r ≤ most + 40 → Bag d → Q (.fl, .int r) [(.ow, d)]) : cf__law_entry [(.ow, d), (.fl, .int kind), (.fl, .int most)] Q X := by
  rw [cf__law_entry_eq]
  refine ifd (fun _ => ⟨⟨_, rfl⟩, dip_spec hd (by omega) (by omega) fun r d a b c => h r d a (by omega) c⟩) fun _ => ?_
  refine ifd (fun _ => ⟨⟨_, rfl⟩, dip_spec hd (by omega) (by omega) fun r d a b c => h r d a (by omega) c⟩) fun _ => ?_
  refine ifd (fun _ => ⟨⟨_, rfl⟩, dip_spec hd (by omega) (by omega) fun r d a b c => ⟨.inl (by omega), ?_⟩⟩) fun _ => ?_
  · have e : r = 0 ∨ r = 1 := by omega
    rcases e with rfl | rfl
    · rw [Int.mul_zero]; exact h _ d (by omega) (by omega) c
    · rw [Int.mul_one]; exact h _ d (by omega) (by omega) c
  · refine ⟨⟨_, rfl⟩, dip_spec hd (by omega) (by omega) fun r d a b c => ⟨⟨_, rfl⟩, dip_spec c (by omega) (by omega) fun s d' a' b' c' => ⟨.inl (by omega), ?_⟩⟩⟩
    by_cases e : s = 0
    · rw [if_pos (decide_eq_true e), Int.mul_one]; exact h _ d' (by omega) (by omega) c'
    · rw [if_neg (fun z => e (of_decide_eq_true z)), Int.mul_zero]; exact h _ d' (by omega) (by omega) c'
abbrev tabD (n : Nat) (f : Nat → Nat → Int) : D := .tup (tabl n fun i => .tup (tabl n fun j => .int (f i j)))
theorem square_spec {d : D} {many : Nat} {most : Int} {bare : Bool} {Q X} (hd : Bag d) (hm : many ≤ 1000) (h0 : 0 ≤ most) (h1 : most ≤ 1000000)
    (h : ∀ f d, (∀ i j, i < many → j < many → 0 ≤ f i j ∧ f i j ≤ most + 40) → (bare = true → ∀ i, i < many → f i i = 0) → Bag d → Q (.fl, tabD many f) [(.ow, d)]) :
    cf__law_square [(.ow, d), (.fl, .int many), (.fl, .int most), (.fl, .bl bare)] Q X := by
  rw [cf__law_square_eq]
  refine ⟨⟨_, rfl⟩, dip_spec hd (by omega) (by omega) fun kind d _ _ hd => go_R1 rfl (by omega) ?_⟩
  refine go_For0 (fun i ρ => ∃ d f o o', Bag d ∧ (∀ i' j, i' < i → j < many → 0 ≤ f i' j ∧ f i' j ≤ most + 40) ∧ (bare = true → ∀ j, j < i → f j j = 0) ∧
      ρ = [some (.ow, d), some (.fl, .int many), some (.fl, .int most), some (.fl, .bl bare), some (.fl, .int kind), some (.sh, .lst (tabl i fun i => .tup (tabl many fun j => .int (f i j)))), o, o', none])
    ⟨d, fun _ _ => 0, none, none, hd, fun _ _ h => absurd h (Nat.not_lt_zero _), fun _ _ h => absurd h (Nat.not_lt_zero _), rfl⟩ (fun k ρ N hk hI hN => ?_) fun ρ hI => ?_
  · obtain ⟨d, f, o, o', hd, hf, hb, rfl⟩ := hI
    refine go_R1 rfl (by omega) ?_
    refine go_LcEA D.int (fun _ ρ => ∃ d, Bag d ∧ ρ = [some (.ow, d), some (.fl, .int many), some (.fl, .int most), some (.fl, .bl bare), some (.fl, .int kind), some (.sh, .lst (tabl k fun i => .tup (tabl many fun j => .int (f i j)))), some (.fl, .int k), o', none])
      (fun _ c => 0 ≤ c ∧ c ≤ most + 40) (by omega) ⟨d, hd, rfl⟩ (fun j ρ N hj hI hN => ?_) fun g ρ hg hI => ?_
    · obtain ⟨d, hd, rfl⟩ := hI
      exact ⟨⟨_, rfl⟩, entry_spec hd h0 h1 fun r d a b c => hN r _ ⟨a, b⟩ ⟨d, c, rfl⟩⟩
    · obtain ⟨d, hd, rfl⟩ := hI
      refine go_tabl hk ⟨.inr (by split <;> omega), go_stT rfl hk ⟨trivial, rfl, by rw [tabl_len]; omega, hN _ ?_⟩⟩
      have key : D.lst (tabl (k + 1) fun i => D.tup (tabl many fun j => D.int (if i = k then (if j = k then g k * (if (!bare) = true then 1 else 0) else g j) else f i j))) =
            D.lst ((tabl k fun i => D.tup (tabl many fun j => D.int (f i j))) ++ [D.tup (tabl many fun i => if i = k then D.int (g k * (if (!bare) = true then 1 else 0)) else D.int (g i))]) := by
        rw [tabl_snoc]
        refine congrArg D.lst (tabl_congr fun i hi => ?_)
        by_cases e : i = k
        · rw [if_pos e]
          refine congrArg D.tup (tabl_congr fun j hj => ?_)
          rw [if_pos e]
          by_cases e2 : j = k
          · rw [if_pos e2, if_pos e2]
          · rw [if_neg e2, if_neg e2]
        · rw [if_neg e]
          refine congrArg D.tup (tabl_congr fun j hj => ?_)
          rw [if_neg e]
      refine ⟨d, fun i j => if i = k then (if j = k then g k * (if (!bare) = true then 1 else 0) else g j) else f i j, some (.fl, .int k), _, hd, fun i' j hi hj => ?_, fun e j hj => ?_, by rw [key]; rfl⟩
      · show 0 ≤ (if i' = k then (if j = k then g k * (if (!bare) = true then 1 else 0) else g j) else f i' j) ∧ (if i' = k then (if j = k then g k * (if (!bare) = true then 1 else 0) else g j) else f i' j) ≤ most + 40
        by_cases e : i' = k
        · rw [if_pos e]
          have := hg j hj
          have := hg k hk
          by_cases e2 : j = k
          · rw [if_pos e2]
            cases bare
            · show 0 ≤ g k * 1 ∧ g k * 1 ≤ most + 40
              rw [Int.mul_one]; omega
            · show 0 ≤ g k * 0 ∧ g k * 0 ≤ most + 40
              rw [Int.mul_zero]; omega
          · rw [if_neg e2]; omega
        · rw [if_neg e]; exact hf i' j (by omega) hj
      · show (if j = k then (if j = k then g k * (if (!bare) = true then 1 else 0) else g j) else f j j) = 0
        by_cases e2 : j = k
        · rw [if_pos e2, if_pos e2, e]; exact Int.mul_zero _
        · rw [if_neg e2]; exact hb e j (by omega)
  · obtain ⟨d, f, o, o', hd, hf, hb, rfl⟩ := hI
    exact h f d hf hb hd
theorem dip_specN {d : D} {many : Int} {Q X} (hd : Bag d) (hm : 0 < many) (hm2 : many ≤ 1000000000000000000000000000000000000000000000000000000000000) (h : ∀ (r : Nat) d, (r : Int) < many → Bag d → Q (.fl, .int r) [(.ow, d)]) : cf__law_dip [(.ow, d), (.fl, .int many)] Q X :=
  dip_spec hd hm hm2 fun r d a b c => by
    obtain ⟨n, rfl⟩ := Int.eq_ofNat_of_zero_le a
    exact h n d b c
def Tab (n : Nat) (b : Int) (f : Nat → Nat → Int) : Prop := ∀ i j, i < n → j < n → 0 ≤ f i j ∧ f i j ≤ b
def Bare (n : Nat) (f : Nat → Nat → Int) : Prop := ∀ i, i < n → f i i = 0
abbrev jobD (n : Nat) (F W C : Nat → Nat → Int) : D := .tup [tabD n F, tabD n W, tabD n C]
theorem Tab.mono {n : Nat} {b c : Int} {f : Nat → Nat → Int} (h : Tab n b f) (hb : b ≤ c) : Tab n c f := fun i j hi hj => ⟨(h i j hi hj).1, Int.le_trans (h i j hi hj).2 hb⟩
structure Job (n : Nat) (F W C : Nat → Nat → Int) : Prop where
  f : Tab n 1000040 F
  w : Tab n 1000040 W
  c : Tab n 1000040 C
  f0 : Bare n F
  w0 : Bare n W
theorem job_spec {d : D} {most : Int} {Q X} (hd : Bag d) (h0 : 0 < most) (h1 : most ≤ 900) (h : ∀ (n : Nat) F W C d, 1 ≤ n → (n : Int) ≤ most → Job n F W C → Bag d → Q (.fl, jobD n F W C) [(.ow, d)]) :
    cf__law_job [(.ow, d), (.fl, .int most)] Q X := by
  rw [cf__law_job_eq]
  refine ⟨⟨_, rfl⟩, dip_specN hd h0 (by omega) fun r d hr hd => ⟨⟨_, rfl⟩, ?_⟩⟩
  refine square_spec (many := 1 + r) (bare := true) hd (by omega) (by omega) (by omega) fun F d hF hF0 hd => ⟨⟨_, rfl⟩, ?_⟩
  refine square_spec (many := 1 + r) (bare := true) hd (by omega) (by omega) (by omega) fun W d hW hW0 hd => ⟨⟨_, rfl⟩, ?_⟩
  refine square_spec (many := 1 + r) (bare := false) hd (by omega) (by omega) (by omega) fun C d hC _ hd => ?_
  exact h (1 + r) F W C d (by omega) (by omega) ⟨Tab.mono hF (by omega), Tab.mono hW (by omega), Tab.mono hC (by omega), hF0 rfl, hW0 rfl⟩ hd
structure Perm (n : Nat) (p : Nat → Nat) : Prop where
  lt : ∀ i, i < n → p i < n
  inj : ∀ i j, i < n → j < n → p i = p j → i = j
structure Part (n : Nat) (q : Nat → Option Nat) : Prop where
  lt : ∀ i a, i < n → q i = some a → a < n
  inj : ∀ i j a, i < n → j < n → q i = some a → q j = some a → i = j
end DCA

namespace DCB
open PySem PySem.Spec PyProof.Rows L2 DL
noncomputable section
def sem__law_tape : SF :=
  (sSeq (sSet 2 (eP (pC (.int 0))))
    (sSeq (sIf (teP (pTest (pOp oLt (pVar 1) (pCall oLen (gCons (pVar 0) gNil))))) (sSet 2 (eP (pCall oAbs (gCons (pOp xIx (pVar 0) (pVar 1)) gNil)))) (sIf (teP (pTest (pOp oGt (pCall oLen (gCons (pVar 0) gNil)) (pC (.int 0))))) (sSet 2 (eP (pOp oAdd (pOp oMod (pCall oAbs (gCons (pOp xIx (pVar 0) (pOp oMod (pVar 1) (pCall oLen (gCons (pVar 0) gNil)))) gNil)) (pOp oPow (pC (.int 10)) (pC (.int 9)))) (pOp oMul (pVar 1) (pC (.int 1000003)))))) sNil))
    (sRet (eP (pLst (gCons (pVar 2) (gCons (pOp oAdd (pOp oMod (pOp oAdd (pOp oMul (pVar 1) (pC (.int 7919))) (pVar 2)) (pC (.int 998244353))) (pC (.int 1))) gNil)))))))
@[irreducible] def cf__law_tape : CF := hid (cfOf 1 [false, false] sem__law_tape)
def sem__law_digit : SF :=
  (sSeq (sIf (teP (pTest (pOp oGt (pOp xIx (pVar 0) (pC (.int 0))) (pC (.int 0))))) (sSeq (sSet 2 (eP (pOp oMod (pOp xIx (pVar 0) (pC (.int 0))) (pVar 1))))
    (sSeq (sStIxX (eP (pOp oFdiv (pOp xIx (pVar 0) (pC (.int 0))) (pVar 1))) (plVar 0) (pC (.int 0)))
    (sRet (eMv 2)))) sNil)
    (sSeq (sStIxX (eP (pOp oMod (pOp oAdd (pOp oMul (pOp xIx (pVar 0) (pC (.int 1))) (pC (.int 48271))) (pC (.int 11))) (pC (.int 2147483647)))) (plVar 0) (pC (.int 1)))
    (sSeq (sSet 3 (eP (pOp oMod (pOp oMul (pOp xIx (pVar 0) (pC (.int 1))) (pC (.int 40692))) (pC (.int 2147483399)))))
    (sRet (eP (pOp oMod (pOp oAdd (pOp oMul (pOp oMod (pOp oMul (pOp xIx (pVar 0) (pC (.int 1))) (pOp xIx (pVar 0) (pC (.int 1)))) (pC (.int 2147483629))) (pC (.int 2147483399))) (pVar 3)) (pVar 1)))))))
@[irreducible] def cf__law_digit : CF := hid (cfOf 2 [true, false] sem__law_digit)
theorem cf__law_digit_eq : cf__law_digit = cfOf 2 [true, false] sem__law_digit := by unfold cf__law_digit; rw [hid_eq]
def sem__law_square : SF :=
  (sSeq (sSet 4 (eP (pLst gNil)))
    (sSeq (sForX (jR1 (gCons (pVar 1) gNil)) (gNm 5) (sSeq (sSet 6 (eP (pLst gNil)))
    (sSeq (sForX (jR1 (gCons (pVar 1) gNil)) (gNm 7) (sSeq (sSet 8 (eFn [true, false] cf__law_digit (aPl 0 (aE (eMv 2) aNil))))
    (sSeq (sIf (teAnd (teP (pTest (pVar 3))) (teOr (teP (pTest (pOp oEq (pVar 5) (pVar 7)))) (eTest (eOp oEq (eFn [true, false] cf__law_digit (aPl 0 (aE (eP (pC (.int 3))) aNil))) (eP (pC (.int 0))))))) (sSet 8 (eP (pC (.int 0)))) sNil)
    (sExpr (eMthR mAppend 6 (aE (eMv 8) aNil))))))
    (sExpr (eMthR mAppend 4 (aE (eMv 6) aNil))))))
    (sRet (eMv 4))))
@[irreducible] def cf__law_square : CF := hid (cfOf 5 [true, false, false, false] sem__law_square)
theorem cf__law_square_eq : cf__law_square = cfOf 5 [true, false, false, false] sem__law_square := by unfold cf__law_square; rw [hid_eq]
def sem__law_mirrored : SF :=
  (sRet (eP (pLcX (jR1 (gCons (pCall oLen (gCons (pVar 0) gNil)) gNil)) [1] (gNm 1) tNilP (pLcX (jR1 (gCons (pCall oLen (gCons (pVar 0) gNil)) gNil)) [2] (gNm 2) tNilP (pOp xIx (pOp xIx (pVar 0) (pCall oMin2 (gCons (pVar 1) (gCons (pVar 2) gNil)))) (pCall oMax2 (gCons (pVar 1) (gCons (pVar 2) gNil))))))))
@[irreducible] def cf__law_mirrored : CF := hid (cfOf 2 [false] sem__law_mirrored)
theorem cf__law_mirrored_eq : cf__law_mirrored = cfOf 2 [false] sem__law_mirrored := by unfold cf__law_mirrored; rw [hid_eq]
def sem__law_on_line : SF :=
  (sSeq (sSet 3 (eLcX (jR1 (gCons (pVar 1) gNil)) [4] (gNm 4) tNilP (eFn [true, false] cf__law_digit (aPl 0 (aE (eMv 2) aNil)))))
    (sFrz 3 (sRet (eP (pLcX (iSq (pVar 3)) [5] (gNm 5) tNilP (pLcX (iSq (pVar 3)) [6] (gNm 6) tNilP (pCall oAbs (gCons (pOp oSub (pVar 5) (pVar 6)) gNil))))))))
@[irreducible] def cf__law_on_line : CF := hid (cfOf 4 [true, false, false] sem__law_on_line)
theorem cf__law_on_line_eq : cf__law_on_line = cfOf 4 [true, false, false] sem__law_on_line := by unfold cf__law_on_line; rw [hid_eq]
def sem__law_tuples : SF :=
  (sRet (eP (pCall oTuple (gCons (pLcX (iSq (pVar 0)) [1] (gNm 1) tNilP (pCall oTupleF (gCons (pVar 1) gNil))) gNil))))
@[irreducible] def cf__law_tuples : CF := hid (cfOf 1 [false] sem__law_tuples)
theorem cf__law_tuples_eq : cf__law_tuples = cfOf 1 [false] sem__law_tuples := by unfold cf__law_tuples; rw [hid_eq]
def sem__law_flows : SF :=
  (sSeq (sSet 3 (eFn [true, false] cf__law_digit (aPl 0 (aE (eP (pC (.int 4))) aNil))))
    (sSeq (sSet 4 (eFn [true, false, false, false] cf__law_square (aPl 0 (aE (eMv 1) (aE (eMv 2) (aE (eP (pC (.bl true))) aNil))))))
    (sSeq (sIf (teP (pTest (pOp oEq (pVar 3) (pC (.int 0))))) (sRet (eP (pFn cf__law_mirrored (gCons (pVar 4) gNil)))) sNil)
    (sSeq (sIf (teP (pTest (pOp oEq (pVar 3) (pC (.int 1))))) (sSeq (sSet 5 (eFn [true, false] cf__law_digit (aPl 0 (aE (eMv 1) aNil))))
    (sForX (jR1 (gCons (pVar 1) gNil)) (gNm 6) (sForX (jR1 (gCons (pVar 1) gNil)) (gNm 7) (sIf (teP (tAnd (pTest (pOp oNe (pVar 6) (pVar 5))) (pTest (pOp oNe (pVar 7) (pVar 5))))) (sStIxX (eP (pC (.int 0))) (plIxX (plVar 4) (pVar 6)) (pVar 7)) sNil)))) sNil)
    (sRet (eMv 4))))))
@[irreducible] def cf__law_flows : CF := hid (cfOf 5 [true, false, false] sem__law_flows)
theorem cf__law_flows_eq : cf__law_flows = cfOf 5 [true, false, false] sem__law_flows := by unfold cf__law_flows; rw [hid_eq]
def sem__law_ways : SF :=
  (sSeq (sSet 3 (eFn [true, false] cf__law_digit (aPl 0 (aE (eP (pC (.int 4))) aNil))))
    (sSeq (sIf (teP (pTest (pOp oEq (pVar 3) (pC (.int 0))))) (sRet (eFn [true, false, false] cf__law_on_line (aPl 0 (aE (eMv 1) (aE (eMv 2) aNil))))) sNil)
    (sSeq (sSet 4 (eFn [true, false, false, false] cf__law_square (aPl 0 (aE (eMv 1) (aE (eMv 2) (aE (eP (pC (.bl true))) aNil))))))
    (sSeq (sIf (teP (pTest (pOp oEq (pVar 3) (pC (.int 1))))) (sRet (eP (pFn cf__law_mirrored (gCons (pVar 4) gNil)))) sNil)
    (sRet (eMv 4))))))
@[irreducible] def cf__law_ways : CF := hid (cfOf 2 [true, false, false] sem__law_ways)
theorem cf__law_ways_eq : cf__law_ways = cfOf 2 [true, false, false] sem__law_ways := by unfold cf__law_ways; rw [hid_eq]
def sem__law_job : SF :=
  (sSeq (sSet 2 (eOp oAdd (eP (pC (.int 1))) (eFn [true, false] cf__law_digit (aPl 0 (aE (eMv 1) aNil)))))
    (sSeq (sSet 3 (eFn [true, false, false] cf__law_flows (aPl 0 (aE (eMv 2) (aE (eOp xIx (eP (pLst (gCons (pC (.int 2)) (gCons (pC (.int 5)) (gCons (pC (.int 1000)) gNil))))) (eFn [true, false] cf__law_digit (aPl 0 (aE (eP (pC (.int 3))) aNil)))) aNil)))))
    (sBar (sSeq (sSet 4 (eFn [true, false, false] cf__law_ways (aPl 0 (aE (eMv 2) (aE (eOp xIx (eP (pLst (gCons (pC (.int 2)) (gCons (pC (.int 5)) (gCons (pC (.int 1000)) gNil))))) (eFn [true, false] cf__law_digit (aPl 0 (aE (eP (pC (.int 3))) aNil)))) aNil)))))
    (sBar (sSeq (sSet 5 (eFn [true, false, false, false] cf__law_square (aPl 0 (aE (eMv 2) (aE (eOp xIx (eP (pLst (gCons (pC (.int 1)) (gCons (pC (.int 9)) (gCons (pC (.int 1000001)) gNil))))) (eFn [true, false] cf__law_digit (aPl 0 (aE (eP (pC (.int 3))) aNil)))) (aE (eP (pC (.bl false))) aNil))))))
    (sBar (sRet (eP (pTup (gCons (pFn cf__law_tuples (gCons (pVar 3) gNil)) (gCons (pFn cf__law_tuples (gCons (pVar 4) gNil)) (gCons (pFn cf__law_tuples (gCons (pVar 5) gNil)) gNil)))))))))))))
@[irreducible] def cf__law_job : CF := hid (cfOf 4 [true, false] sem__law_job)
theorem cf__law_job_eq : cf__law_job = cfOf 4 [true, false] sem__law_job := by unfold cf__law_job; rw [hid_eq]
def sem__law_laying : SF :=
  (sSeq (sSet 2 (eP (pLR1X (pVar 1))))
    (sRet (eCallB oTuple (aE (eLcX (jR1 (gCons (pVar 1) gNil)) [3] (gNm 3) tNilP (eMthR xPopAt 2 (aE (eFn [true, false] cf__law_digit (aPl 0 (aE (eP (pCall oLen (gCons (pVar 2) gNil))) aNil))) aNil))) aNil))))
@[irreducible] def cf__law_laying : CF := hid (cfOf 2 [true, false] sem__law_laying)
def sem__law_cost : SF :=
  (sSeq (sAsg (eMv 0) (gTu 3 (tConsG (gNm 2) (tConsG (gNm 3) (tConsG (gNm 4) tNilG)))))
    (sSeq (sSet 5 (eP (pC (.int 0))))
    (sSeq (sForX (iEn (gCons (pVar 1) gNil)) (gTu 2 (tConsG (gNm 6) (tConsG (gNm 7) tNilG))) (sSeq (sSet 5 (eP (pOp oAdd (pVar 5) (pOp xIx (pOp xIx (pVar 4) (pVar 6)) (pVar 7)))))
    (sForX (iEn (gCons (pVar 1) gNil)) (gTu 2 (tConsG (gNm 8) (tConsG (gNm 9) tNilG))) (sSet 5 (eP (pOp oAdd (pVar 5) (pOp oMul (pOp xIx (pOp xIx (pVar 2) (pVar 6)) (pVar 8)) (pOp xIx (pOp xIx (pVar 3) (pVar 7)) (pVar 9)))))))))
    (sRet (eMv 5)))))
@[irreducible] def cf__law_cost : CF := hid (cfOf 8 [false, false] sem__law_cost)
def sem__law_layings : SF :=
  (sSeq (sSet 1 (eP (pLst (gCons (pTup gNil) gNil))))
    (sSeq (sForX (jR1 (gCons (pVar 0) gNil)) (gNm 2) (sSeq (sSet 3 (eP (pLst gNil)))
    (sFrz 1 (sSeq (sForX (iSq (pVar 1)) (gNm 4) (sExpr (eMthR xExtend 3 (aE (eP (pLcX (jR1 (gCons (pVar 0) gNil)) [5] (gNm 5) (pTest (pOp (oIn true) (pVar 5) (pVar 4))) (pOp oAdd (pVar 4) (pTup (gCons (pVar 5) gNil))))) aNil))))
    (sSet 1 (eMv 3))))))
    (sRet (eMv 1))))
@[irreducible] def cf__law_layings : CF := hid (cfOf 5 [false] sem__law_layings)
def sem__law_whole : SF :=
  (sRet (eP (pAndV (pIsI .int (pVar 0)) (pUn uNot (pIsI .bool (pVar 0))))))
@[irreducible] def cf__law_whole : CF := hid (cfOf 0 [false] sem__law_whole)
theorem cf__law_whole_eq : cf__law_whole = cfOf 0 [false] sem__law_whole := by unfold cf__law_whole; rw [hid_eq]
def sem__law_swapped : SF :=
  (sSeq (sSet 3 (eP (pCall oListF (gCons (pVar 0) gNil))))
    (sSeq (sSwap (pTup (gCons (pOp xIx (pVar 3) (pVar 2)) (gCons (pOp xIx (pVar 3) (pVar 1)) gNil))) (plVar 3) (pVar 1) (plVar 3) (pVar 2))
    (sRet (eP (pCall oTupleF (gCons (pVar 3) gNil))))))
@[irreducible] def cf__law_swapped : CF := hid (cfOf 1 [false, false, false] sem__law_swapped)
def sem_exchanged : SF :=
  (sSeq (sSet 3 (eP (pCall oListF (gCons (pVar 0) gNil))))
    (sSeq (sStIxX (eP (pOp xIx (pVar 0) (pVar 2))) (plVar 3) (pVar 1))
    (sSeq (sStIxX (eP (pOp xIx (pVar 0) (pVar 1))) (plVar 3) (pVar 2))
    (sRet (eP (pCall oTupleF (gCons (pVar 3) gNil)))))))
@[irreducible] def cf_exchanged : CF := hid (cfOf 1 [false, false, false] sem_exchanged)
def sem_beside_saved : SF :=
  (sSeq (sAsg (eMv 0) (gTu 3 (tConsG (gNm 4) (tConsG (gNm 5) (tConsG (gNm 6) tNilG)))))
    (sSeq (sPar 7 8 (aE (eP (pOp xIx (pVar 1) (pVar 2))) (aE (eP (pOp xIx (pVar 1) (pVar 3))) aNil)))
    (sSeq (sSet 9 (eP (pOp oSub (pOp oSub (pOp oAdd (pOp xIx (pOp xIx (pVar 6) (pVar 2)) (pVar 7)) (pOp xIx (pOp xIx (pVar 6) (pVar 3)) (pVar 8))) (pOp xIx (pOp xIx (pVar 6) (pVar 2)) (pVar 8))) (pOp xIx (pOp xIx (pVar 6) (pVar 3)) (pVar 7)))))
    (sSeq (sForX (iEn (gCons (pVar 1) gNil)) (gTu 2 (tConsG (gNm 10) (tConsG (gNm 11) tNilG))) (sIf (teP (tAnd (pTest (pOp oNe (pVar 10) (pVar 2))) (pTest (pOp oNe (pVar 10) (pVar 3))))) (sSeq (sSet 9 (eP (pOp oAdd (pVar 9) (pOp oMul (pOp oSub (pOp xIx (pOp xIx (pVar 4) (pVar 2)) (pVar 10)) (pOp xIx (pOp xIx (pVar 4) (pVar 3)) (pVar 10))) (pOp oSub (pOp xIx (pOp xIx (pVar 5) (pVar 7)) (pVar 11)) (pOp xIx (pOp xIx (pVar 5) (pVar 8)) (pVar 11)))))))
    (sSet 9 (eP (pOp oAdd (pVar 9) (pOp oMul (pOp oSub (pOp xIx (pOp xIx (pVar 4) (pVar 10)) (pVar 2)) (pOp xIx (pOp xIx (pVar 4) (pVar 10)) (pVar 3))) (pOp oSub (pOp xIx (pOp xIx (pVar 5) (pVar 11)) (pVar 7)) (pOp xIx (pOp xIx (pVar 5) (pVar 11)) (pVar 8)))))))) sNil))
    (sRet (eMv 9))))))
@[irreducible] def cf_beside_saved : CF := hid (cfOf 8 [false, false, false, false] sem_beside_saved)
def sem_saved : SF :=
  (sSeq (sIf (teP (pTest (pOp oEq (pVar 2) (pVar 3)))) (sRet (eP (pC (.int 0)))) sNil)
    (sSeq (sAsg (eMv 0) (gTu 3 (tConsG (gNm 4) (tConsG (gNm 5) (tConsG (gNm 6) tNilG)))))
    (sSeq (sPar 7 8 (aE (eP (pOp xIx (pVar 1) (pVar 2))) (aE (eP (pOp xIx (pVar 1) (pVar 3))) aNil)))
    (sSeq (sSet 9 (eP (pOp oMul (pOp oSub (pOp xIx (pOp xIx (pVar 4) (pVar 2)) (pVar 3)) (pOp xIx (pOp xIx (pVar 4) (pVar 3)) (pVar 2))) (pOp oSub (pOp xIx (pOp xIx (pVar 5) (pVar 7)) (pVar 8)) (pOp xIx (pOp xIx (pVar 5) (pVar 8)) (pVar 7))))))
    (sRet (eP (pOp oAdd (pFn cf_beside_saved (gCons (pVar 0) (gCons (pVar 1) (gCons (pVar 2) (gCons (pVar 3) gNil))))) (pVar 9))))))))
@[irreducible] def cf_saved : CF := hid (cfOf 6 [false, false, false, false] sem_saved)
end
end DCB

namespace DCB
open PySem PySem.Spec PyProof.Rows L2 DL PA
def Tape (d : D) : Prop := ∃ a b, d = .lst [.int a, .int b] ∧ 0 ≤ a ∧ 0 ≤ b ∧ b < 2147483647
theorem pos1 : (0 : Int) < 2147483647 := by decide
theorem pos2 : (0 : Int) < 2147483399 := by decide
theorem pos3 : (0 : Int) < 2147483629 := by decide
theorem digit_spec {d : D} {many : Int} {Q X} (hd : Tape d) (hm : 0 < many) (hm2 : many ≤ 1000000000000000000000000000000000000000000000000000000000000) (h : ∀ (r : Nat) d, (r : Int) < many → Tape d → Q (.fl, .int r) [(.sh, d)]) : cf__law_digit [(.sh, d), (.fl, .int many)] Q X := by
  rw [cf__law_digit_eq]
  obtain ⟨a, b, rfl, h0, h1, h2⟩ := hd
  have h' : ∀ (r : Int) d, 0 ≤ r → r < many → Tape d → Q (.fl, .int r) [(.sh, d)] := fun r d x y z => by
    obtain ⟨n, rfl⟩ := Int.eq_ofNat_of_zero_le x
    exact h n d y z
  refine go_ix rfl rfl (ifd (fun hp => ?_) fun hp => ?_)
  · refine go_ix rfl rfl ⟨hm, go_ix rfl rfl ⟨⟨hm, by omega⟩, go_st rfl rfl ?_⟩⟩
    exact h' _ _ (Int.emod_nonneg _ (by omega)) (Int.emod_lt_of_pos _ hm) ⟨a / many, b, rfl, Int.ediv_nonneg h0 (by omega), h1, h2⟩
  · refine go_ix rfl rfl ⟨.inl (by omega), pos1, go_st rfl rfl ?_⟩
    have b0 := Int.emod_nonneg (b * 48271 + 11) (b := 2147483647) (by decide)
    have b1 := Int.emod_lt_of_pos (b * 48271 + 11) pos1
    refine go_ix rfl rfl ⟨.inl (by omega), pos2, ?_⟩
    refine go_ix rfl rfl (go_ix rfl rfl ⟨.inl (by omega), pos3, ?_⟩)
    refine ⟨.inr (by omega), hm, ?_⟩
    exact h' _ _ (Int.emod_nonneg _ (by omega)) (Int.emod_lt_of_pos _ hm) ⟨a, _, rfl, h0, b0, b1⟩
abbrev sqL (n : Nat) (f : Nat → Nat → Int) : D := .lst (tabl n fun i => .lst (tabl n fun j => .int (f i j)))
abbrev tabD (n : Nat) (f : Nat → Nat → Int) : D := .tup (tabl n fun i => .tup (tabl n fun j => .int (f i j)))
def Tab (n : Nat) (b : Int) (f : Nat → Nat → Int) : Prop := ∀ i j, i < n → j < n → 0 ≤ f i j ∧ f i j ≤ b
def Bare (n : Nat) (f : Nat → Nat → Int) : Prop := ∀ i, i < n → f i i = 0
abbrev rowsL (i n : Nat) (f : Nat → Nat → Int) : List D := tabl i fun i => .lst (tabl n fun j => .int (f i j))
theorem square_row {De : DEnds} {d : D} {n i : Nat} {top : Int} {sparse : Bool} {k : Kd} {rows : List D} {b c e : Sl} (hk : k = .sh ∨ k = .ow) (hi : i < n) (hr : rows.length ≤ 1000) (hd : Tape d) (hn : n ≤ 1000) (h0 : 0 < top) (h1 : top ≤ 1000000000)
    (h : ∀ d (g : Nat → Int) c e, Tape d → (∀ j, j < n → 0 ≤ g j ∧ g j ≤ top - 1) → (sparse = true → g i = 0) →
      De.nx [some (.sh, d), some (.fl, .int n), some (.fl, .int top), some (.fl, .bl sparse), some (.ow, .lst (rows ++ [.lst (tabl n fun j => .int (g j))])), some (.fl, .int i), none, c, e]) :
    (sSeq (sSet 6 (eP (pLst gNil)))
    (sSeq (sForX (jR1 (gCons (pVar 1) gNil)) (gNm 7) (sSeq (sSet 8 (eFn [true, false] cf__law_digit (aPl 0 (aE (eMv 2) aNil))))
    (sSeq (sIf (teAnd (teP (pTest (pVar 3))) (teOr (teP (pTest (pOp oEq (pVar 5) (pVar 7)))) (eTest (eOp oEq (eFn [true, false] cf__law_digit (aPl 0 (aE (eP (pC (.int 3))) aNil))) (eP (pC (.int 0))))))) (sSet 8 (eP (pC (.int 0)))) sNil)
    (sExpr (eMthR mAppend 6 (aE (eMv 8) aNil))))))
    (sExpr (eMthR mAppend 4 (aE (eMv 6) aNil))))) De [some (.sh, d), some (.fl, .int n), some (.fl, .int top), some (.fl, .bl sparse), some (k, .lst rows), some (.fl, .int i), b, c, e] := by
  have hsrc : ∀ (P : List KD → Prop), P (rangeD 0 n) → jR1 (gCons (pVar 1) gNil) (rdOnly [some (.sh, d), some (.fl, .int n), some (.fl, .int top), some (.fl, .bl sparse), some (k, .lst rows), some (.fl, .int i), some (.sh, .lst []), c, e]) P := fun P p => by
    rcases hk with rfl | rfl <;> exact go_R1 rfl (by omega) p
  refine hsrc _ ?_
  refine go_For0 (fun j ρ => ∃ d, ∃ g : Nat → Int, ∃ c e, Tape d ∧ (∀ j', j' < j → 0 ≤ g j' ∧ g j' ≤ top - 1) ∧ (sparse = true → i < j → g i = 0) ∧ ρ = [some (.sh, d), some (.fl, .int n), some (.fl, .int top), some (.fl, .bl sparse), some (k, .lst rows), some (.fl, .int i), some (.sh, .lst (tabl j fun j => .int (g j))), c, e])
    ⟨d, fun _ => 0, c, e, hd, fun _ h => absurd h (Nat.not_lt_zero _), fun _ h => absurd h (Nat.not_lt_zero _), rfl⟩ (fun j ρ N hj hI hN => ?_) fun ρ hI => ?_
  · obtain ⟨d, g, c, e, hd, hg, hs, rfl⟩ := hI
    have fin : ∀ (y : Int) d, Tape d → 0 ≤ y → y ≤ top - 1 → (sparse = true → i = j → y = 0) → N [some (.sh, d), some (.fl, .int n), some (.fl, .int top), some (.fl, .bl sparse), some (k, .lst rows), some (.fl, .int i), some (.sh, .lst ((tabl j fun j => .int (g j)) ++ [.int y])), some (.fl, .int j), some (.fl, .int y)] := fun y d hd y0 y1 ys => by
      refine hN _ ⟨d, fun j' => if j' = j then y else g j', some (.fl, .int j), some (.fl, .int y), hd, fun j' hj' => ?_, fun e1 e2 => ?_, ?_⟩
      · show 0 ≤ (if j' = j then y else g j') ∧ (if j' = j then y else g j') ≤ top - 1
        by_cases q : j' = j
        · rw [if_pos q]; exact ⟨y0, y1⟩
        · rw [if_neg q]; exact hg j' (by omega)
      · show (if i = j then y else g i) = 0
        by_cases q : i = j
        · rw [if_pos q]; exact ys e1 q
        · rw [if_neg q]; exact hs e1 (by omega)
      · rw [tabl_snoc]
        rw [show (tabl (j + 1) fun i => if i = j then D.int y else D.int (g i)) = tabl (j + 1) fun j' => D.int (if j' = j then y else g j') from tabl_congr fun i _ => by
          by_cases q : i = j
          · rw [if_pos q, if_pos q]
          · rw [if_neg q, if_neg q]]
    have hle : (tabl j fun j => D.int (g j)).length < 10000000 := by rw [tabl_len]; omega
    refine ⟨⟨_, rfl⟩, digit_spec hd h0 (by omega) fun r d hr hd => ?_⟩
    refine ifb (fun es => ifd (fun eq => ?_) fun eq => ?_) fun es => ?_
    · exact ⟨trivial, rfl, hle, fin 0 d hd (by omega) (by omega) fun _ _ => rfl⟩
    · refine ⟨⟨_, rfl⟩, digit_spec hd (by omega) (by omega) fun s d _ hd => ifd (fun eq2 => ?_) fun eq2 => ?_⟩
      · exact ⟨trivial, rfl, hle, fin 0 d hd (by omega) (by omega) fun _ _ => rfl⟩
      · exact ⟨trivial, rfl, hle, fin r d hd (by omega) (by omega) fun _ q => absurd (by rw [q]) eq⟩
    · exact ⟨trivial, rfl, hle, fin r d hd (by omega) (by omega) fun q _ => absurd q (by rw [es]; decide)⟩
  · obtain ⟨d, g, c, e, hd, hg, hs, rfl⟩ := hI
    rcases hk with rfl | rfl
    · exact ⟨trivial, rfl, by omega, h d g c e hd hg fun q => hs q hi⟩
    · exact ⟨trivial, rfl, by omega, h d g c e hd hg fun q => hs q hi⟩
theorem rows_snoc (i n : Nat) (f : Nat → Nat → Int) (g : Nat → Int) : rowsL i n f ++ [.lst (tabl n fun j => .int (g j))] = rowsL (i + 1) n fun i' j => if i' = i then g j else f i' j := by
  unfold rowsL
  rw [tabl_snoc]
  refine tabl_congr fun i' _ => ?_
  by_cases q : i' = i
  · rw [if_pos q]
    refine congrArg D.lst (tabl_congr fun j _ => ?_)
    show D.int (g j) = D.int (if i' = i then g j else f i' j)
    rw [if_pos q]
  · rw [if_neg q]
    refine congrArg D.lst (tabl_congr fun j _ => ?_)
    show D.int (f i' j) = D.int (if i' = i then g j else f i' j)
    rw [if_neg q]
theorem square_spec {d : D} {n : Nat} {top : Int} {sparse : Bool} {Q X} (hd : Tape d) (hn1 : 1 ≤ n) (hn : n ≤ 1000) (h0 : 0 < top) (h1 : top ≤ 1000000000)
    (h : ∀ f d, Tab n (top - 1) f → (sparse = true → Bare n f) → Tape d → Q (.ow, sqL n f) [(.sh, d)]) : cf__law_square [(.sh, d), (.fl, .int n), (.fl, .int top), (.fl, .bl sparse)] Q X := by
  rw [cf__law_square_eq]
  refine go_R1 rfl (by omega) ?_
  refine go_For0 (fun i ρ => ∃ d f a b c e, Tape d ∧ (∀ i' j, i' < i → j < n → 0 ≤ f i' j ∧ f i' j ≤ top - 1) ∧ (sparse = true → ∀ j, j < i → f j j = 0) ∧
      ρ = [some (.sh, d), some (.fl, .int n), some (.fl, .int top), some (.fl, .bl sparse), some (kO i, .lst (rowsL i n f)), a, b, c, e])
    ⟨d, fun _ _ => 0, none, none, none, none, hd, fun _ _ h => absurd h (Nat.not_lt_zero _), fun _ _ h => absurd h (Nat.not_lt_zero _), rfl⟩ (fun i ρ N hi hI hN => ?_) fun ρ hI => ?_
  · obtain ⟨d, f, a, b, c, e, hd, hf, hb, rfl⟩ := hI
    refine square_row (k := kO i) (rows := rowsL i n f) (kO_cases i) hi (by rw [tabl_len]; omega) hd hn h0 h1 fun d g c e hd hg hs => ?_
    rw [rows_snoc]
    refine hN _ ⟨d, fun i' j => if i' = i then g j else f i' j, _, _, _, _, hd, fun i' j hi' hj => ?_, fun es j hj => ?_, rfl⟩
    · show 0 ≤ (if i' = i then g j else f i' j) ∧ (if i' = i then g j else f i' j) ≤ top - 1
      by_cases q : i' = i
      · rw [if_pos q]; exact hg j hj
      · rw [if_neg q]; exact hf i' j (by omega) hj
    · show (if j = i then g j else f j j) = 0
      by_cases q : j = i
      · rw [if_pos q, q]; exact hs es
      · rw [if_neg q]; exact hb es j (by omega)
  · obtain ⟨d, f, a, b, c, e, hd, hf, hb, rfl⟩ := hI
    rw [kO_ow hn1]
    exact h f d hf hb hd
theorem mirrored_spec {n : Nat} {f : Nat → Nat → Int} {Q X} (hn1 : 1 ≤ n) (hn : n ≤ 1000) (h : Q (.ow, sqL n fun i j => f (min i j) (max i j)) []) : cf__law_mirrored [(.rd, sqL n f)] Q X := by
  rw [cf__law_mirrored_eq]
  refine go_R1 (n := n) (congrArg Int.ofNat tabl_len) (by omega) ?_
  refine go_LcS0 (fun i => .lst (tabl n fun j => .int (f (min i j) (max i j)))) (by omega) (fun i N hi hN => ?_) ?_
  · refine go_R1 (n := n) (congrArg Int.ofNat tabl_len) (by omega) ?_
    refine go_Lc0 (fun j => .int (f (min i j) (max i j))) (by omega) (fun j N hj hN => ?_) hN
    refine go_tablI (i := min i j) ?_ (by omega) (go_tablI (i := max i j) ?_ (by omega) hN)
    · show (if (j : Int) < i then (j : Int) else i) = _
      split <;> omega
    · show (if (j : Int) > i then (j : Int) else i) = _
      split <;> omega
  · rw [kO_ow hn1]; exact h
theorem on_line_spec {d : D} {n : Nat} {top : Int} {Q X} (hd : Tape d) (hn1 : 1 ≤ n) (hn : n ≤ 1000) (h0 : 0 < top) (h1 : top ≤ 1000000000)
    (h : ∀ (s : Nat → Int) d, (∀ i, i < n → 0 ≤ s i ∧ s i < top) → Tape d → Q (.ow, sqL n fun i j => if s i - s j < 0 then -(s i - s j) else s i - s j) [(.sh, d)]) : cf__law_on_line [(.sh, d), (.fl, .int n), (.fl, .int top)] Q X := by
  rw [cf__law_on_line_eq]
  refine go_R1 rfl (by omega) ?_
  refine go_LcEA D.int (fun _ ρ => ∃ d, Tape d ∧ ρ = [some (.sh, d), some (.fl, .int n), some (.fl, .int top), none, none, none, none]) (fun _ c => 0 ≤ c ∧ c < top) (by omega) ⟨d, hd, rfl⟩ (fun i ρ N hi hI hN => ?_) fun s ρ hs hI => ?_
  · obtain ⟨d, hd, rfl⟩ := hI
    exact ⟨⟨_, rfl⟩, digit_spec hd h0 (by omega) fun r d hr hd => hN r _ ⟨by omega, hr⟩ ⟨d, hd, rfl⟩⟩
  · obtain ⟨d, hd, rfl⟩ := hI
    refine go_LcST (fun i => .lst (tabl n fun j => .int (if s i - s j < 0 then -(s i - s j) else s i - s j))) (by omega) (fun i N hi hN => ?_) ?_
    · exact go_LcT (fun j => .int (if s i - s j < 0 then -(s i - s j) else s i - s j)) (by omega) (fun j N hj hN => hN) hN
    · rw [kO_ow hn1]; exact h s d hs hd
theorem tuples_spec {n : Nat} {f : Nat → Nat → Int} {Q X} (hn : n ≤ 1000) (h : Q (.fl, tabD n f) []) : cf__law_tuples [(.rd, sqL n f)] Q X := by
  rw [cf__law_tuples_eq]
  exact go_LcT (fun i => .tup (tabl n fun j => .int (f i j))) (by omega) (fun i N hi hN => ⟨flat_ints, hN⟩) h
theorem flows_spec {d : D} {n : Nat} {top : Int} {Q X} (hd : Tape d) (hn1 : 1 ≤ n) (hn : n ≤ 1000) (h0 : 0 < top) (h1 : top ≤ 1000000000)
    (h : ∀ f d, Tab n (top - 1) f → Bare n f → Tape d → Q (.ow, sqL n f) [(.sh, d)]) : cf__law_flows [(.sh, d), (.fl, .int n), (.fl, .int top)] Q X := by
  rw [cf__law_flows_eq]
  refine ⟨⟨_, rfl⟩, digit_spec hd (by omega) (by omega) fun r d hr hd => ⟨⟨_, rfl⟩, square_spec (sparse := true) hd hn1 hn h0 h1 fun f d hf hb hd => ?_⟩⟩
  refine ifd (fun _ => ?_) fun _ => ifd (fun _ => ⟨⟨_, rfl⟩, digit_spec hd (by omega) (by omega) fun w d hw hd => ?_⟩) fun _ => h f d hf (hb rfl) hd
  · exact mirrored_spec hn1 hn (h _ d (fun i j hi hj => hf _ _ (by omega) (by omega)) (fun i hi => by show f (min i i) (max i i) = 0; rw [Nat.min_self, Nat.max_self]; exact hb rfl i hi) hd)
  · refine go_R1 rfl (by omega) (go_For0 (fun _ ρ => ∃ f a b, Tab n (top - 1) f ∧ Bare n f ∧ ρ = [some (.sh, d), some (.fl, .int n), some (.fl, .int top), some (.fl, .int r), some (.ow, sqL n f), some (.fl, .int w), a, b]) ⟨f, none, none, hf, hb rfl, rfl⟩ (fun i ρ N hi hI hN => ?_) fun ρ hI => ?_)
    · obtain ⟨f, a, b, hf, hb, rfl⟩ := hI
      refine go_R1 rfl (by omega) (go_For0 (fun _ ρ => ∃ f b, Tab n (top - 1) f ∧ Bare n f ∧ ρ = [some (.sh, d), some (.fl, .int n), some (.fl, .int top), some (.fl, .int r), some (.ow, sqL n f), some (.fl, .int w), some (.fl, .int i), b]) ⟨f, b, hf, hb, rfl⟩ (fun j ρ N hj hI hN => ?_) fun ρ hI => ?_)
      · obtain ⟨f, b, hf, hb, rfl⟩ := hI
        refine ifdn (fun _ => ifdn (fun _ => ?_) fun _ => hN _ ⟨f, _, hf, hb, rfl⟩) fun _ => hN _ ⟨f, _, hf, hb, rfl⟩
        refine go_pl rfl (by rw [tabl_len]; exact ixN_ok hi) (tabl_get hi) (go_stT rfl hj (hN _ ⟨fun i' j' => if i' = i ∧ j' = j then 0 else f i' j', some (.fl, .int j), ?_, ?_, ?_⟩))
        · intro i' j' hi' hj'
          show 0 ≤ (if i' = i ∧ j' = j then 0 else f i' j') ∧ (if i' = i ∧ j' = j then 0 else f i' j') ≤ top - 1
          split
          · omega
          · exact hf i' j' hi' hj'
        · intro i' hi'
          show (if i' = i ∧ i' = j then 0 else f i' i') = 0
          split
          · rfl
          · exact hb i' hi'
        · have key : D.lst ((tabl n fun i => D.lst (tabl n fun j => D.int (f i j))).set i (D.lst (tabl n fun j' => if j' = j then D.int 0 else D.int (f i j')))) = sqL n fun i' j' => if i' = i ∧ j' = j then 0 else f i' j' := by
            rw [set_tabl]
            refine congrArg D.lst (tabl_congr fun i' _ => ?_)
            by_cases q : i' = i
            · rw [if_pos q]
              refine congrArg D.lst (tabl_congr fun j' _ => ?_)
              show _ = D.int (if i' = i ∧ j' = j then 0 else f i' j')
              by_cases q2 : j' = j
              · rw [if_pos q2, if_pos ⟨q, q2⟩]
              · rw [if_neg q2, if_neg fun z => q2 z.2, q]
            · rw [if_neg q]
              refine congrArg D.lst (tabl_congr fun j' _ => ?_)
              show _ = D.int (if i' = i ∧ j' = j then 0 else f i' j')
              rw [if_neg fun z => q z.1]
          rw [← key]; rfl
      · obtain ⟨f, b, hf, hb, rfl⟩ := hI
        exact hN _ ⟨f, _, _, hf, hb, rfl⟩
    · obtain ⟨f, a, b, hf, hb, rfl⟩ := hI
      exact h f d hf hb hd
theorem ways_spec {d : D} {n : Nat} {top : Int} {Q X} (hd : Tape d) (hn1 : 1 ≤ n) (hn : n ≤ 1000) (h0 : 0 < top) (h1 : top ≤ 1000000000)
    (h : ∀ f d, Tab n (top - 1) f → Bare n f → Tape d → Q (.ow, sqL n f) [(.sh, d)]) : cf__law_ways [(.sh, d), (.fl, .int n), (.fl, .int top)] Q X := by
  rw [cf__law_ways_eq]
  refine ⟨⟨_, rfl⟩, digit_spec hd (by omega) (by omega) fun r d hr hd => ?_⟩
  refine ifd (fun _ => ⟨⟨_, rfl⟩, on_line_spec hd hn1 hn h0 h1 fun s d hs hd => ?_⟩) fun _ => ⟨⟨_, rfl⟩, square_spec (sparse := true) hd hn1 hn h0 h1 fun f d hf hb hd => ifd (fun _ => ?_) fun _ => h f d hf (hb rfl) hd⟩
  · refine h _ d (fun i j hi hj => ?_) (fun i hi => ?_) hd
    · have := hs i hi
      have := hs j hj
      show 0 ≤ (if s i - s j < 0 then -(s i - s j) else s i - s j) ∧ (if s i - s j < 0 then -(s i - s j) else s i - s j) ≤ top - 1
      split <;> omega
    · show (if s i - s i < 0 then -(s i - s i) else s i - s i) = 0
      split <;> omega
  · exact mirrored_spec hn1 hn (h _ d (fun i j hi hj => hf _ _ (by omega) (by omega)) (fun i hi => by show f (min i i) (max i i) = 0; rw [Nat.min_self, Nat.max_self]; exact hb rfl i hi) hd)
abbrev jobD (n : Nat) (F W C : Nat → Nat → Int) : D := .tup [tabD n F, tabD n W, tabD n C]
structure Job (n : Nat) (F W C : Nat → Nat → Int) : Prop where
  f : Tab n 999 F
  w : Tab n 999 W
  c : Tab n 1000000 C
  f0 : Bare n F
  w0 : Bare n W
theorem Tab.mono {n : Nat} {b c : Int} {f : Nat → Nat → Int} (h : Tab n b f) (hb : b ≤ c) : Tab n c f := fun i j hi hj => ⟨(h i j hi hj).1, Int.le_trans (h i j hi hj).2 hb⟩
theorem one_of3 {r : Nat} {a b c : Int} (hr : (r : Int) < 3) (C : Int → Prop) (ha : C a) (hb : C b) (hc : C c) : ∃ d, L2.atI [D.int a, D.int b, D.int c] r = some d ∧ ∃ t, d = .int t ∧ C t := by
  have e : r = 0 ∨ r = 1 ∨ r = 2 := by omega
  rcases e with rfl | rfl | rfl
  · exact ⟨_, rfl, a, rfl, ha⟩
  · exact ⟨_, rfl, b, rfl, hb⟩
  · exact ⟨_, rfl, c, rfl, hc⟩
theorem pick1 {r : Nat} (hr : (r : Int) < 3) : ∃ d, L2.atI [D.int 2, D.int 5, D.int 1000] r = some d ∧ ∃ t, d = .int t ∧ 0 < t ∧ t ≤ 1000 := one_of3 hr (fun t => 0 < t ∧ t ≤ 1000) (by omega) (by omega) (by omega)
theorem pick2 {r : Nat} (hr : (r : Int) < 3) : ∃ d, L2.atI [D.int 1, D.int 9, D.int 1000001] r = some d ∧ ∃ t, d = .int t ∧ 0 < t ∧ t ≤ 1000001 := one_of3 hr (fun t => 0 < t ∧ t ≤ 1000001) (by omega) (by omega) (by omega)
theorem job_spec {d : D} {most : Int} {Q X} (hd : Tape d) (h0 : 0 < most) (h1 : most ≤ 900) (h : ∀ (n : Nat) F W C d, 1 ≤ n → (n : Int) ≤ most → Job n F W C → Tape d → Q (.fl, jobD n F W C) [(.sh, d)]) :
    cf__law_job [(.sh, d), (.fl, .int most)] Q X := by
  rw [cf__law_job_eq]
  refine ⟨⟨_, rfl⟩, digit_spec hd h0 (by omega) fun r d hr hd => ⟨⟨_, rfl⟩, ⟨_, rfl⟩, digit_spec hd (by omega) (by omega) fun x d hx hd => ?_⟩⟩
  refine go_ixC (fun d => ∃ t, d = .int t ∧ 0 < t ∧ t ≤ 1000) rfl (pick1 hx) fun dt ht => ?_
  obtain ⟨t, rfl, t0, t1⟩ := ht
  have e1 : (1 : Int) + (r : Int) = ((1 + r : Nat) : Int) := by omega
  rw [e1]
  have hn1 : 1 ≤ 1 + r := by omega
  have hn2 : 1 + r ≤ 1000 := by omega
  have hn3 : ((1 + r : Nat) : Int) ≤ most := by omega
  generalize 1 + r = n at hn1 hn2 hn3
  refine flows_spec (n := n) hd hn1 hn2 t0 (by omega) fun F d hF hF0 hd => ?_
  show kNext _ _ [some (.sh, d), some (.fl, .int most), some (.fl, .int n), some (.ow, sqL n F), none, none]
  refine go_next ⟨⟨_, rfl⟩, ⟨_, rfl⟩, digit_spec hd (by omega) (by omega) fun x d hx hd => ?_⟩
  refine go_ixC (fun d => ∃ t, d = .int t ∧ 0 < t ∧ t ≤ 1000) rfl (pick1 hx) fun dt ht => ?_
  obtain ⟨t', rfl, t0', t1'⟩ := ht
  refine ways_spec (n := n) hd hn1 hn2 t0' (by omega) fun W d hW hW0 hd => ?_
  show kNext _ _ [some (.sh, d), some (.fl, .int most), some (.fl, .int n), some (.ow, sqL n F), some (.ow, sqL n W), none]
  refine go_next ⟨⟨_, rfl⟩, ⟨_, rfl⟩, digit_spec hd (by omega) (by omega) fun x d hx hd => ?_⟩
  refine go_ixC (fun d => ∃ t, d = .int t ∧ 0 < t ∧ t ≤ 1000001) rfl (pick2 hx) fun dt ht => ?_
  obtain ⟨t2, rfl, t02, t12⟩ := ht
  refine square_spec (n := n) (sparse := false) hd hn1 hn2 t02 (by omega) fun C d hC _ hd => ?_
  show kNext _ _ [some (.sh, d), some (.fl, .int most), some (.fl, .int n), some (.ow, sqL n F), some (.ow, sqL n W), some (.ow, sqL n C)]
  refine go_next (tuples_spec hn2 (tuples_spec hn2 (tuples_spec hn2 ?_)))
  exact h n F W C d hn1 hn3 ⟨hF.mono (by omega), hW.mono (by omega), hC.mono (by omega), hF0, hW0⟩ hd
structure Perm (n : Nat) (p : Nat → Nat) : Prop where
  lt : ∀ i, i < n → p i < n
  inj : ∀ i j, i < n → j < n → p i = p j → i = j
end DCB

namespace DCC
open PySem PySem.Spec PyProof.Rows L2 DL
noncomputable section
def sem_pairs_of : SF :=
  (sSeq (sSet 1 (eP (pLst gNil)))
    (sSeq (sForX (jR1 (gCons (pVar 0) gNil)) (gNm 2) (sExpr (eMthR xExtend 1 (aE (eP (pLcX (jR2 (gCons (pOp oAdd (pVar 2) (pC (.int 1))) (gCons (pVar 0) gNil))) [3] (gNm 3) tNilP (pTup (gCons (pVar 2) (gCons (pVar 3) gNil))))) aNil))))
    (sRet (eMv 1))))
@[irreducible] def cf_pairs_of : CF := hid (cfOf 3 [false] sem_pairs_of)
def sem_best_exchange : SF :=
  (sSeq (sSet 2 (eP (pC .non)))
    (sSeq (sForX (iSq (pFn cf_pairs_of (gCons (pCall oLen (gCons (pVar 1) gNil)) gNil))) (gTu 2 (tConsG (gNm 3) (tConsG (gNm 4) tNilG))) (sSeq (sSet 5 (eP (pFn DCB.cf_saved (gCons (pVar 0) (gCons (pVar 1) (gCons (pVar 3) (gCons (pVar 4) gNil)))))))
    (sIf (teP (tAnd (pTest (pOp oGt (pVar 5) (pC (.int 0)))) (tOr (pTest (pOp oIsN (pVar 2) (pC .non))) (pTest (pOp oGt (pVar 5) (pOp xIx (pVar 2) (pC (.int 2)))))))) (sSet 2 (eP (pTup (gCons (pVar 3) (gCons (pVar 4) (gCons (pVar 5) gNil)))))) sNil)))
    (sRet (eMv 2))))
@[irreducible] def cf_best_exchange : CF := hid (cfOf 4 [false, false] sem_best_exchange)
def sem_is_still : SF :=
  (sRet (eP (pOp oIsN (pFn cf_best_exchange (gCons (pVar 0) (gCons (pVar 1) gNil))) (pC .non))))
@[irreducible] def cf_is_still : CF := hid (cfOf 0 [false, false] sem_is_still)
def sem_settled : SF :=
  (sSeq (sSet 2 (eP (pLst gNil)))
    (sSeq (sSet 3 (eP (pFn cf_best_exchange (gCons (pVar 0) (gCons (pVar 1) gNil)))))
    (sSeq (sWhileX (teP (pTest (pOp oNotN (pVar 3) (pC .non)))) (sSeq (sExpr (eMthR mAppend 2 (aE (eP (pSl (pVar 3) oNoP (oP (pC (.int 2))))) aNil)))
    (sSeq (sSet 1 (eP (pFn DCB.cf_exchanged (gCons (pVar 1) (gCons (pOp xIx (pVar 3) (pC (.int 0))) (gCons (pOp xIx (pVar 3) (pC (.int 1))) gNil))))))
    (sSet 3 (eP (pFn cf_best_exchange (gCons (pVar 0) (gCons (pVar 1) gNil))))))))
    (sRet (eTup (aE (eMv 2) (aE (eMv 1) aNil)))))))
@[irreducible] def cf_settled : CF := hid (cfOf 2 [false, false] sem_settled)
end
end DCC

namespace DCC
open PySem PySem.Spec PyProof.Rows L2 DL PA DCB
section
variable (n : Nat) (F W C : Nat → Nat → Int) (p : Nat → Nat)
end
variable {n : Nat} {F W C : Nat → Nat → Int} {p : Nat → Nat}
inductive Chain (n : Nat) (F W C : Nat → Nat → Int) (p : Nat → Nat) : List (Nat × Nat) → (Nat → Nat) → Prop
  | nil : Chain n F W C p [] p
  | snoc {l : List (Nat × Nat)} {q : Nat → Nat} {x : Nat × Nat} (h : Chain n F W C p l q) (h1 : x.1 < x.2) (h2 : x.2 < n) (h3 : 0 < savV n F W C q x.1 x.2) : Chain n F W C p (l ++ [x]) (swp q x.1 x.2)
def Past (n : Nat) (F W C : Nat → Nat → Int) (k : Nat) (q : Nat → Nat) : Prop :=
  ∃ cs : List Nat, cs.length = k ∧ cs.Nodup ∧ ∀ c ∈ cs, ∃ q', Perm n q' ∧ code n q' (n - 1) = c ∧ costV n F W C q < costV n F W C q'
theorem Past.next {n : Nat} {F W C : Nat → Nat → Int} {k : Nat} {q q2 : Nat → Nat} (h : Past n F W C k q) (hq : Perm n q) (hlt : costV n F W C q2 < costV n F W C q) : Past n F W C (k + 1) q2 := by
  obtain ⟨cs, hl, hd, hc⟩ := h
  refine ⟨code n q (n - 1) :: cs, by rw [List.length_cons, hl], List.nodup_cons.mpr ⟨fun z => ?_, hd⟩, fun c hcm => ?_⟩
  · obtain ⟨q', hq', e, h'⟩ := hc _ z
    have := code_cost (F := F) (W := W) (C := C) hq'.lt hq'.inj hq.lt hq.inj e
    omega
  · rcases List.mem_cons.mp hcm with rfl | hcm
    · exact ⟨q, hq, rfl, hlt⟩
    · obtain ⟨q', hq', e, h'⟩ := hc c hcm
      exact ⟨q', hq', e, Int.lt_trans hlt h'⟩
end DCC

namespace DCF
open PySem PySem.Spec PyProof.Rows L2 DL
noncomputable section
def sem_is_number : SF :=
  (sRet (eP (pAndV (pIsI .int (pVar 0)) (pAndV (pUn uNot (pIsI .bool (pVar 0))) (pChain oLe oLe (pC (.int 0)) (pVar 0) (pVar 1))))))
@[irreducible] def cf_is_number : CF := hid (cfOf 0 [false, false] sem_is_number)
theorem cf_is_number_eq : cf_is_number = cfOf 0 [false, false] sem_is_number := by unfold cf_is_number; rw [hid_eq]
def sem_is_row : SF :=
  (sRet (eP (pAndV (pIsI .tup (pVar 0)) (pAndV (pOp oEq (pCall oLen (gCons (pVar 0) gNil)) (pVar 1)) (pCall oAll (gCons (pLcX (iSq (pVar 0)) [3] (gNm 3) tNilP (pFn cf_is_number (gCons (pVar 3) (gCons (pVar 2) gNil)))) gNil))))))
@[irreducible] def cf_is_row : CF := hid (cfOf 1 [false, false, false] sem_is_row)
theorem cf_is_row_eq : cf_is_row = cfOf 1 [false, false, false] sem_is_row := by unfold cf_is_row; rw [hid_eq]
def sem_is_square : SF :=
  (sRet (eP (pAndV (pIsI .tup (pVar 0)) (pAndV (pOp oEq (pCall oLen (gCons (pVar 0) gNil)) (pVar 1)) (pCall oAll (gCons (pLcX (iSq (pVar 0)) [3] (gNm 3) tNilP (pFn cf_is_row (gCons (pVar 3) (gCons (pVar 1) (gCons (pVar 2) gNil))))) gNil))))))
@[irreducible] def cf_is_square : CF := hid (cfOf 1 [false, false, false] sem_is_square)
theorem cf_is_square_eq : cf_is_square = cfOf 1 [false, false, false] sem_is_square := by unfold cf_is_square; rw [hid_eq]
def sem_is_job : SF :=
  (sSeq (sIf (teP (tOr (tNot (pTest (pIsI .tup (pVar 0)))) (tOr (pTest (pOp oNe (pCall oLen (gCons (pVar 0) gNil)) (pC (.int 3)))) (tNot (pTest (pIsI .tup (pOp xIx (pVar 0) (pC (.int 0))))))))) (sRet (eP (pC (.bl false)))) sNil)
    (sSeq (sSet 1 (eP (pCall oLen (gCons (pOp xIx (pVar 0) (pC (.int 0))) gNil))))
    (sSeq (sIf (teP (tOr (tNot (pTest (pChain oLe oLe (pC (.int 1)) (pVar 1) (pC (.int 8))))) (tNot (pTest (pFn cf_is_square (gCons (pOp xIx (pVar 0) (pC (.int 0))) (gCons (pVar 1) (gCons (pC (.int 999)) gNil)))))))) (sRet (eP (pC (.bl false)))) sNil)
    (sSeq (sIf (teP (tOr (tNot (pTest (pFn cf_is_square (gCons (pOp xIx (pVar 0) (pC (.int 1))) (gCons (pVar 1) (gCons (pC (.int 999)) gNil)))))) (tNot (pTest (pFn cf_is_square (gCons (pOp xIx (pVar 0) (pC (.int 2))) (gCons (pVar 1) (gCons (pC (.int 1000000)) gNil)))))))) (sRet (eP (pC (.bl false)))) sNil)
    (sRet (eP (pCall oAll (gCons (pLcX (jR1 (gCons (pVar 1) gNil)) [2] (gNm 2) tNilP (pAndV (pOp oEq (pOp xIx (pOp xIx (pOp xIx (pVar 0) (pC (.int 0))) (pVar 2)) (pVar 2)) (pC (.int 0))) (pOp oEq (pOp xIx (pOp xIx (pOp xIx (pVar 0) (pC (.int 1))) (pVar 2)) (pVar 2)) (pC (.int 0))))) gNil))))))))
@[irreducible] def cf_is_job : CF := hid (cfOf 2 [false] sem_is_job)
theorem cf_is_job_eq : cf_is_job = cfOf 2 [false] sem_is_job := by unfold cf_is_job; rw [hid_eq]
def sem_is_part : SF :=
  (sSeq (sSet 2 (eP (pCall oLen (gCons (pOp xIx (pVar 0) (pC (.int 0))) gNil))))
    (sSeq (sIf (teP (tOr (tNot (pTest (pIsI .tup (pVar 1)))) (pTest (pOp oNe (pCall oLen (gCons (pVar 1) gNil)) (pVar 2))))) (sRet (eP (pC (.bl false)))) sNil)
    (sSeq (sSet 3 (eP (pLcX (iSq (pVar 1)) [4] (gNm 4) (pTest (pOp oNotN (pVar 4) (pC .non))) (pVar 4))))
    (sRet (eP (pAndV (pCall oAll (gCons (pLcX (iSq (pVar 3)) [4] (gNm 4) tNilP (pFn cf_is_number (gCons (pVar 4) (gCons (pOp oSub (pVar 2) (pC (.int 1))) gNil)))) gNil)) (pOp oEq (pLenSet (pVar 3)) (pCall oLen (gCons (pVar 3) gNil)))))))))
@[irreducible] def cf_is_part : CF := hid (cfOf 3 [false, false] sem_is_part)
def sem_is_laying : SF :=
  (sRet (eP (pAndV (pFn cf_is_part (gCons (pVar 0) (gCons (pVar 1) gNil))) (pOp (oIn true) (pC .non) (pVar 1)))))
@[irreducible] def cf_is_laying : CF := hid (cfOf 0 [false, false] sem_is_laying)
def sem_with_number : SF :=
  (sSeq (sSet 4 (eP (pOp oAdd (pOp oAdd (pSl (pOp xIx (pVar 0) (pVar 1)) oNoP (oP (pVar 2))) (pTup (gCons (pVar 3) gNil))) (pSl (pOp xIx (pVar 0) (pVar 1)) (oP (pOp oAdd (pVar 2) (pC (.int 1)))) oNoP))))
    (sRet (eP (pOp oAdd (pOp oAdd (pSl (pVar 0) oNoP (oP (pVar 1))) (pTup (gCons (pVar 4) gNil))) (pSl (pVar 0) (oP (pOp oAdd (pVar 1) (pC (.int 1)))) oNoP)))))
@[irreducible] def cf_with_number : CF := hid (cfOf 1 [false, false, false, false] sem_with_number)
def sem_need_number : SF :=
  (sIf (teP (tNot (pTest (pFn cf_is_number (gCons (pVar 0) (gCons (pVar 1) gNil)))))) sNever sNil)
@[irreducible] def cf_need_number : CF := hid (cfOf 0 [false, false] sem_need_number)
def sem_Keeper___init__ : SF :=
  (sSeq (sIf (teP (tNot (pTest (pFn cf_is_job (gCons (pVar 1) gNil))))) sNever sNil)
    (sSeq (sIf (teP (tNot (pTest (pFn cf_is_laying (gCons (pVar 1) (gCons (pVar 2) gNil)))))) sNever sNil)
    (sSeq (sFldN "Keeper" [] "now" (eMv 1) (plVar 0))
    (sSeq (sFldN "Keeper" ["now"] "laid" (eMv 2) (plVar 0))
    (sFldN "Keeper" ["now", "laid"] "past" (eP (pLst gNil)) (plVar 0))))))
@[irreducible] def cf_Keeper___init__ : CF := hid (cfOf 0 [true, false, false] sem_Keeper___init__)
def sem_Keeper_job : SF :=
  (sRet (eP (pFlat (pFld "Keeper" ["now", "laid", "past"] 0 (pVar 0)))))
@[irreducible] def cf_Keeper_job : CF := hid (cfOf 0 [false] sem_Keeper_job)
def sem_Keeper_laying : SF :=
  (sRet (eP (pFlat (pFld "Keeper" ["now", "laid", "past"] 1 (pVar 0)))))
@[irreducible] def cf_Keeper_laying : CF := hid (cfOf 0 [false] sem_Keeper_laying)
def sem_Keeper_cost : SF :=
  (sRet (eP (pFn DCA.cf_cost (gCons (pFlat (pFld "Keeper" ["now", "laid", "past"] 0 (pVar 0))) (gCons (pFlat (pFld "Keeper" ["now", "laid", "past"] 1 (pVar 0))) gNil)))))
@[irreducible] def cf_Keeper_cost : CF := hid (cfOf 0 [false] sem_Keeper_cost)
def sem_Keeper_need_work : SF :=
  (sIf (teP (tNot (pTest (pFn cf_is_number (gCons (pVar 1) (gCons (pOp oSub (pCall oLen (gCons (pFlat (pFld "Keeper" ["now", "laid", "past"] 1 (pVar 0))) gNil)) (pC (.int 1))) gNil)))))) sNever sNil)
@[irreducible] def cf_Keeper_need_work : CF := hid (cfOf 0 [false, false] sem_Keeper_need_work)
def sem_Keeper_need_two : SF :=
  (sSeq (sExpr (eP (pMeth "Keeper" ["now", "laid", "past"] cf_Keeper_need_work (pVar 0) (gCons (pVar 1) gNil))))
    (sSeq (sExpr (eP (pMeth "Keeper" ["now", "laid", "past"] cf_Keeper_need_work (pVar 0) (gCons (pVar 2) gNil))))
    (sIf (teP (pTest (pOp oEq (pVar 1) (pVar 2)))) sNever sNil)))
@[irreducible] def cf_Keeper_need_two : CF := hid (cfOf 0 [false, false, false] sem_Keeper_need_two)
def sem_Keeper_turn_to : SF :=
  (sSeq (sExpr (eMthP mAppend (plFld "Keeper" ["now", "laid", "past"] 2 (plVar 0)) (gCons (pFlat (pTup (gCons (pFlat (pFld "Keeper" ["now", "laid", "past"] 0 (pVar 0))) (gCons (pFlat (pFld "Keeper" ["now", "laid", "past"] 1 (pVar 0))) gNil)))) gNil)))
    (sSeq (sFldS "Keeper" ["now", "laid", "past"] 0 (eMv 1) (plVar 0))
    (sFldS "Keeper" ["now", "laid", "past"] 1 (eMv 2) (plVar 0))))
@[irreducible] def cf_Keeper_turn_to : CF := hid (cfOf 0 [true, false, false] sem_Keeper_turn_to)
def sem_Keeper_flow : SF :=
  (sSeq (sExpr (eP (pMeth "Keeper" ["now", "laid", "past"] cf_Keeper_need_two (pVar 0) (gCons (pVar 1) (gCons (pVar 2) gNil)))))
    (sSeq (sExpr (eP (pFn cf_need_number (gCons (pVar 3) (gCons (pC (.int 999)) gNil)))))
    (sExpr (eMeth 0 "Keeper" ["now", "laid", "past"] [true, false, false] cf_Keeper_turn_to (aE (eP (pTup (gCons (pFn cf_with_number (gCons (pOp xIx (pFlat (pFld "Keeper" ["now", "laid", "past"] 0 (pVar 0))) (pC (.int 0))) (gCons (pVar 1) (gCons (pVar 2) (gCons (pVar 3) gNil))))) (gCons (pOp xIx (pFlat (pFld "Keeper" ["now", "laid", "past"] 0 (pVar 0))) (pC (.int 1))) (gCons (pOp xIx (pFlat (pFld "Keeper" ["now", "laid", "past"] 0 (pVar 0))) (pC (.int 2))) gNil))))) (aE (eP (pFlat (pFld "Keeper" ["now", "laid", "past"] 1 (pVar 0)))) aNil))))))
@[irreducible] def cf_Keeper_flow : CF := hid (cfOf 0 [true, false, false, false] sem_Keeper_flow)
def sem_Keeper_way : SF :=
  (sSeq (sExpr (eP (pMeth "Keeper" ["now", "laid", "past"] cf_Keeper_need_two (pVar 0) (gCons (pVar 1) (gCons (pVar 2) gNil)))))
    (sSeq (sExpr (eP (pFn cf_need_number (gCons (pVar 3) (gCons (pC (.int 999)) gNil)))))
    (sExpr (eMeth 0 "Keeper" ["now", "laid", "past"] [true, false, false] cf_Keeper_turn_to (aE (eP (pTup (gCons (pOp xIx (pFlat (pFld "Keeper" ["now", "laid", "past"] 0 (pVar 0))) (pC (.int 0))) (gCons (pFn cf_with_number (gCons (pOp xIx (pFlat (pFld "Keeper" ["now", "laid", "past"] 0 (pVar 0))) (pC (.int 1))) (gCons (pVar 1) (gCons (pVar 2) (gCons (pVar 3) gNil))))) (gCons (pOp xIx (pFlat (pFld "Keeper" ["now", "laid", "past"] 0 (pVar 0))) (pC (.int 2))) gNil))))) (aE (eP (pFlat (pFld "Keeper" ["now", "laid", "past"] 1 (pVar 0)))) aNil))))))
@[irreducible] def cf_Keeper_way : CF := hid (cfOf 0 [true, false, false, false] sem_Keeper_way)
def sem_Keeper_charge : SF :=
  (sSeq (sExpr (eP (pMeth "Keeper" ["now", "laid", "past"] cf_Keeper_need_work (pVar 0) (gCons (pVar 1) gNil))))
    (sSeq (sExpr (eP (pMeth "Keeper" ["now", "laid", "past"] cf_Keeper_need_work (pVar 0) (gCons (pVar 2) gNil))))
    (sSeq (sExpr (eP (pFn cf_need_number (gCons (pVar 3) (gCons (pC (.int 1000000)) gNil)))))
    (sExpr (eMeth 0 "Keeper" ["now", "laid", "past"] [true, false, false] cf_Keeper_turn_to (aE (eP (pTup (gCons (pOp xIx (pFlat (pFld "Keeper" ["now", "laid", "past"] 0 (pVar 0))) (pC (.int 0))) (gCons (pOp xIx (pFlat (pFld "Keeper" ["now", "laid", "past"] 0 (pVar 0))) (pC (.int 1))) (gCons (pFn cf_with_number (gCons (pOp xIx (pFlat (pFld "Keeper" ["now", "laid", "past"] 0 (pVar 0))) (pC (.int 2))) (gCons (pVar 1) (gCons (pVar 2) (gCons (pVar 3) gNil))))) gNil))))) (aE (eP (pFlat (pFld "Keeper" ["now", "laid", "past"] 1 (pVar 0)))) aNil)))))))
@[irreducible] def cf_Keeper_charge : CF := hid (cfOf 0 [true, false, false, false] sem_Keeper_charge)
def sem_Keeper_swap : SF :=
  (sSeq (sExpr (eP (pMeth "Keeper" ["now", "laid", "past"] cf_Keeper_need_work (pVar 0) (gCons (pVar 1) gNil))))
    (sSeq (sExpr (eP (pMeth "Keeper" ["now", "laid", "past"] cf_Keeper_need_work (pVar 0) (gCons (pVar 2) gNil))))
    (sExpr (eMeth 0 "Keeper" ["now", "laid", "past"] [true, false, false] cf_Keeper_turn_to (aE (eP (pFlat (pFld "Keeper" ["now", "laid", "past"] 0 (pVar 0)))) (aE (eP (pFn DCB.cf_exchanged (gCons (pFlat (pFld "Keeper" ["now", "laid", "past"] 1 (pVar 0))) (gCons (pVar 1) (gCons (pVar 2) gNil))))) aNil))))))
@[irreducible] def cf_Keeper_swap : CF := hid (cfOf 0 [true, false, false] sem_Keeper_swap)
def sem_Keeper_better : SF :=
  (sSeq (sSet 1 (eP (pTup (gCons (pC (.int 0)) (gCons (pC (.int 0)) (gCons (pC (.int 0)) gNil))))))
    (sSeq (sForR (jR1 (gCons (pCall oLen (gCons (pFlat (pFld "Keeper" ["now", "laid", "past"] 1 (pVar 0))) gNil)) gNil)) (gNm 2) (sForR (jR2 (gCons (pOp oAdd (pVar 2) (pC (.int 1))) (gCons (pCall oLen (gCons (pFlat (pFld "Keeper" ["now", "laid", "past"] 1 (pVar 0))) gNil)) gNil))) (gNm 3) (sSeq (sSet 4 (eP (pFn DCB.cf_saved (gCons (pFlat (pFld "Keeper" ["now", "laid", "past"] 0 (pVar 0))) (gCons (pFlat (pFld "Keeper" ["now", "laid", "past"] 1 (pVar 0))) (gCons (pVar 2) (gCons (pVar 3) gNil)))))))
    (sIf (teP (pTest (pOp oGt (pVar 4) (pOp xIx (pVar 1) (pC (.int 2)))))) (sSet 1 (eP (pTup (gCons (pVar 2) (gCons (pVar 3) (gCons (pVar 4) gNil)))))) sNil))))
    (sSeq (sIf (teP (pTest (pOp oEq (pOp xIx (pVar 1) (pC (.int 2))) (pC (.int 0))))) (sRet (eP (pC .non))) sNil)
    (sSeq (sExpr (eMeth 0 "Keeper" ["now", "laid", "past"] [true, false, false] cf_Keeper_swap (aE (eP (pOp xIx (pVar 1) (pC (.int 0)))) (aE (eP (pOp xIx (pVar 1) (pC (.int 1)))) aNil))))
    (sRet (eMv 1))))))
@[irreducible] def cf_Keeper_better : CF := hid (cfOf 4 [true] sem_Keeper_better)
def sem_Keeper_back : SF :=
  (sSeq (sIf (teP (pTest (pOp oEq (pFld "Keeper" ["now", "laid", "past"] 2 (pVar 0)) (pLst gNil)))) sNever sNil)
    (sFldP "Keeper" ["now", "laid", "past"] 0 1 (eMthP xPop (plFld "Keeper" ["now", "laid", "past"] 2 (plVar 0)) gNil) (plVar 0) (plVar 0)))
@[irreducible] def cf_Keeper_back : CF := hid (cfOf 0 [true] sem_Keeper_back)
end
end DCF

namespace DCF
open PySem PySem.Spec PyProof.Rows L2 DL PA DCB DCC
def put (f : Nat → Nat → Int) (a b : Nat) (x : Int) : Nat → Nat → Int := fun i j => if i = a then (if j = b then x else f i j) else f i j
end DCF

namespace DCF
open PySem PySem.Spec PyProof.Rows L2 DL PA DCB DCC
structure KS where
  F : Nat → Nat → Int
  W : Nat → Nat → Int
  C : Nat → Nat → Int
  p : Nat → Nat
structure KOk (n : Nat) (s : KS) : Prop where
  n1 : 1 ≤ n
  n8 : n ≤ 8
  job : Job n s.F s.W s.C
  perm : Perm n s.p
variable {n : Nat} {s : KS} {hist : List KS}
theorem Tab.put {n : Nat} {m : Int} {f : Nat → Nat → Int} {a b : Nat} {x : Int} (h : Tab n m f) (h0 : 0 ≤ x) (h1 : x ≤ m) : Tab n m (put f a b x) := fun i j hi hj => by
  unfold DCF.put
  by_cases c : i = a
  · rw [if_pos c]
    by_cases d : j = b
    · rw [if_pos d]; exact ⟨h0, h1⟩
    · rw [if_neg d]; exact h i j hi hj
  · rw [if_neg c]; exact h i j hi hj
theorem Bare.put {n : Nat} {f : Nat → Nat → Int} {a b : Nat} {x : Int} (h : Bare n f) (hab : a ≠ b) : Bare n (put f a b x) := fun i hi => by
  unfold DCF.put
  by_cases c : i = a
  · rw [if_pos c, if_neg (fun d => hab (c ▸ d))]; exact h i hi
  · rw [if_neg c]; exact h i hi
theorem KOk.way {a b : Nat} {x : Int} (hs : KOk n s) (hab : a ≠ b) (h0 : 0 ≤ x) (h1 : x ≤ 999) : KOk n { s with W := put s.W a b x } := ⟨hs.n1, hs.n8, ⟨hs.job.f, Tab.put hs.job.w h0 h1, hs.job.c, hs.job.f0, Bare.put hs.job.w0 hab⟩, hs.perm⟩
structure Best (n : Nat) (s : KS) (r : Option (Nat × Nat × Int)) : Prop where
  no : r = none → ∀ a b, a < b → b < n → savV n s.F s.W s.C s.p a b ≤ 0
  yes : ∀ a b t, r = some (a, b, t) → a < b ∧ b < n ∧ t = savV n s.F s.W s.C s.p a b ∧ 0 < t ∧ ∀ a b, a < b → b < n → savV n s.F s.W s.C s.p a b ≤ t
end DCF

namespace DCF
open PySem PySem.Spec PyProof.Rows L2 DL PA DCB DCC
mutual
def mix : D → Bool
  | .non => true
  | .bl _ => true
  | .int _ => true
  | .str _ => true
  | .dcL _ => true
  | .tup ds => decide (ds.length ≤ 10000) && mixs ds
  | .kst ds => decide (ds.length ≤ 10000) && mixs ds
  | _ => false
def mixs : List D → Bool
  | [] => true
  | d :: ds => mix d && mixs ds
end
theorem mixs_mem {d : D} : ∀ {ds : List D}, mixs ds = true → d ∈ ds → mix d = true
  | x :: ds, h, hd => by
    have h' := Bool.and_eq_true_iff.mp (show (mix x && mixs ds) = true from h)
    rcases List.mem_cons.mp hd with rfl | hd
    · exact h'.1
    · exact mixs_mem h'.2 hd
theorem mixs_of {ds : List D} : (∀ d ∈ ds, mix d = true) → mixs ds = true := by
  induction ds with
  | nil => exact fun _ => rfl
  | cons d ds ih => exact fun h => Bool.and_eq_true_iff.mpr ⟨h d List.mem_cons_self, ih fun x hx => h x (List.mem_cons_of_mem _ hx)⟩
theorem mix_tup {ds : List D} (hl : ds.length ≤ 10000) (h : ∀ d ∈ ds, mix d = true) : mix (.tup ds) = true := Bool.and_eq_true_iff.mpr ⟨decide_eq_true hl, mixs_of h⟩
theorem mix_tupI {ds : List D} (h : mix (.tup ds) = true) : ds.length ≤ 10000 ∧ ∀ d ∈ ds, mix d = true :=
  have h' := Bool.and_eq_true_iff.mp (show (decide (ds.length ≤ 10000) && mixs ds) = true from h)
  ⟨of_decide_eq_true h'.1, fun _ hd => mixs_mem h'.2 hd⟩
theorem kel_flM {d : D} : kel .fl d = (.fl, d) := by cases d <;> rfl
theorem go_LcD {step : KD → (Option KD → Prop) → Prop} {ds : List D} {P : KD → Prop} (f : D → D) (hn : ds.length ≤ 10000000)
    (hs : ∀ d (N : Option KD → Prop), d ∈ ds → N (some (.fl, f d)) → step (.fl, d) N) (h : P (.sh, .lst (ds.map f))) : kLc step (ds.map (kel .fl)) P := by
  have e : (ds.map (kel .fl)) = ds.map fun d => ((.fl, d) : KD) := List.map_congr_left fun d _ => kel_flM
  rw [e]
  refine go_Lc (fun z => f z.2) (by rw [List.length_map]; exact hn) (fun i z N hz hN => ?_) (by rw [List.map_map]; exact h)
  rw [List.getElem?_map] at hz
  cases q : ds[i]? with
  | none => rw [q] at hz; cases hz
  | some d =>
    rw [q] at hz
    cases hz
    exact hs d N (List.mem_of_getElem? q) hN
def numM (m : Int) : D → Bool
  | .int i => decide (0 ≤ i ∧ i ≤ m)
  | _ => false
def rowM (n : Nat) (m : Int) : D → Bool
  | .tup ds => decide (ds.length = n) && ds.all (numM m)
  | _ => false
def sqM (n : Nat) (m : Int) : D → Bool
  | .tup ds => decide (ds.length = n) && ds.all (rowM n m)
  | _ => false
theorem number_mix {d : D} {m : Int} {Q X} (hm : mix d = true) (h : Q (.fl, .bl (numM m d)) []) : cf_is_number [(.fl, d), (.fl, .int m)] Q X := by
  rw [cf_is_number_eq]
  cases d with
  | int i =>
    refine ifd (fun c => ?_) fun c => ?_
    · have e : numM m (.int i) = decide (i ≤ m) := by
        have c : 0 ≤ i := c
        show decide _ = _
        rw [Bool.eq_iff_iff, decide_eq_true_iff, decide_eq_true_iff]
        omega
      rw [e] at h
      exact h
    · have e : numM m (.int i) = false := decide_eq_false fun z => c z.1
      rw [e] at h
      exact h
  | bl b => exact h
  | non => exact h
  | str x => exact h
  | dcL k => exact h
  | tup ds => exact h
  | kst ds => exact h
  | _ => cases hm
theorem all_bls {ds : List D} {f : D → Bool} {k : Kd} {P : KD → Prop} (p : P (.fl, .bl (ds.all f))) : oAll [(k, .lst (ds.map fun d => .bl (f d)))] P :=
  ⟨ds.map f, by rw [List.map_map]; rfl, by rw [List.all_map]; exact p⟩
theorem row_mix {d : D} {n : Nat} {m : Int} {Q X} (hm : mix d = true) (h : Q (.fl, .bl (rowM n m d)) []) : cf_is_row [(.fl, d), (.fl, .int n), (.fl, .int m)] Q X := by
  rw [cf_is_row_eq]
  cases d with
  | tup ds =>
    obtain ⟨hl, hx⟩ := mix_tupI hm
    refine ifd (fun c => ?_) fun c => ?_
    · have c : ds.length = n := Int.ofNat.inj c
      refine go_LcD (fun d => .bl (numM m d)) (by omega) (fun d N hd hN => number_mix (hx d hd) hN) (all_bls ?_)
      have e : rowM n m (.tup ds) = ds.all (numM m) := by
        show (decide _ && _) = _
        rw [decide_eq_true c, Bool.true_and]
      rw [e] at h
      exact h
    · have e : rowM n m (.tup ds) = false := by
        show (decide _ && _) = _
        rw [decide_eq_false (fun z : ds.length = n => c (congrArg Int.ofNat z)), Bool.false_and]
      rw [e] at h
      exact h
  | int i => exact h
  | bl b => exact h
  | non => exact h
  | str x => exact h
  | dcL k => exact h
  | kst ds => exact h
  | _ => cases hm
theorem square_mix {d : D} {n : Nat} {m : Int} {Q X} (hm : mix d = true) (h : Q (.fl, .bl (sqM n m d)) []) : cf_is_square [(.fl, d), (.fl, .int n), (.fl, .int m)] Q X := by
  rw [cf_is_square_eq]
  cases d with
  | tup ds =>
    obtain ⟨hl, hx⟩ := mix_tupI hm
    refine ifd (fun c => ?_) fun c => ?_
    · have c : ds.length = n := Int.ofNat.inj c
      refine go_LcD (fun d => .bl (rowM n m d)) (by omega) (fun d N hd hN => row_mix (hx d hd) hN) (all_bls ?_)
      have e : sqM n m (.tup ds) = ds.all (rowM n m) := by
        show (decide _ && _) = _
        rw [decide_eq_true c, Bool.true_and]
      rw [e] at h
      exact h
    · have e : sqM n m (.tup ds) = false := by
        show (decide _ && _) = _
        rw [decide_eq_false (fun z : ds.length = n => c (congrArg Int.ofNat z)), Bool.false_and]
      rw [e] at h
      exact h
  | int i => exact h
  | bl b => exact h
  | non => exact h
  | str x => exact h
  | dcL k => exact h
  | kst ds => exact h
  | _ => cases hm
theorem tabl_of {α : Type} {ds : List α} {n : Nat} {g : Nat → α} (hl : ds.length = n) (h : ∀ i d, ds[i]? = some d → d = g i) : ds = tabl n g := by
  refine List.ext_getElem? fun i => ?_
  by_cases hi : i < n
  · rw [tabl_get hi]
    have := List.getElem?_eq_getElem (l := ds) (i := i) (by omega)
    rw [this]
    exact congrArg some (h i _ this)
  · rw [List.getElem?_eq_none (by omega), List.getElem?_eq_none (by rw [tabl_len]; omega)]
def ent (d : D) (i j : Nat) : Int := match d with
  | .tup ds => (match ds[i]? with
    | some (.tup r) => (match r[j]? with
      | some (.int x) => x
      | _ => 0)
    | _ => 0)
  | _ => 0
theorem sq_tab {n : Nat} {m : Int} {d : D} (h : sqM n m d = true) : Tab n m (ent d) ∧ d = tabD n (ent d) := by
  cases d with
  | tup ds =>
    have h' := Bool.and_eq_true_iff.mp (show (decide (ds.length = n) && ds.all (rowM n m)) = true from h)
    have hl : ds.length = n := of_decide_eq_true h'.1
    have key : ∀ i d, ds[i]? = some d → ∃ r : List D, d = D.tup r ∧ r.length = n ∧ ∀ (j : Nat) (e : D), r[j]? = some e → ∃ x : Int, e = D.int x ∧ 0 ≤ x ∧ x ≤ m := fun i d hd => by
      have h2 := List.all_eq_true.mp h'.2 d (List.mem_of_getElem? hd)
      cases d with
      | tup r =>
        have h3 := Bool.and_eq_true_iff.mp (show (decide (r.length = n) && r.all (numM m)) = true from h2)
        refine ⟨r, rfl, of_decide_eq_true h3.1, fun j e he => ?_⟩
        have h4 := List.all_eq_true.mp h3.2 e (List.mem_of_getElem? he)
        cases e with
        | int x => exact ⟨x, rfl, of_decide_eq_true h4⟩
        | _ => cases h4
      | _ => cases h2
    refine ⟨fun i j hi hj => ?_, congrArg D.tup (tabl_of hl fun i d hd => ?_)⟩
    · have hd := List.getElem?_eq_getElem (l := ds) (i := i) (by omega)
      obtain ⟨r, er, hr, hx⟩ := key i _ hd
      have he := List.getElem?_eq_getElem (l := r) (i := j) (by omega)
      obtain ⟨x, ex, h0, h1⟩ := hx j _ he
      have e1 : ent (.tup ds) i j = x := by
        unfold ent
        dsimp only
        rw [hd, er]
        dsimp only
        rw [he, ex]
      rw [e1]
      exact ⟨h0, h1⟩
    · obtain ⟨r, er, hr, hx⟩ := key i d hd
      subst er
      refine congrArg D.tup (tabl_of hr fun j e he => ?_)
      obtain ⟨x, ex, _, _⟩ := hx j e he
      subst ex
      have e1 : ent (.tup ds) i j = x := by
        unfold ent
        dsimp only
        rw [hd]
        dsimp only
        rw [he]
      rw [e1]
  | _ => cases h
theorem sq_yes {n : Nat} {m : Int} {f : Nat → Nat → Int} (h : Tab n m f) : sqM n m (tabD n f) = true := by
  refine Bool.and_eq_true_iff.mpr ⟨decide_eq_true tabl_len, List.all_eq_true.mpr fun d hd => ?_⟩
  obtain ⟨i, hi, rfl⟩ := List.mem_map.mp hd
  have hi := List.mem_range.mp hi
  refine Bool.and_eq_true_iff.mpr ⟨decide_eq_true tabl_len, List.all_eq_true.mpr fun e he => ?_⟩
  obtain ⟨j, hj, rfl⟩ := List.mem_map.mp he
  exact decide_eq_true (h i j hi (List.mem_range.mp hj))
def IsJob (d : D) : Prop := ∃ n F W C, 1 ≤ n ∧ n ≤ 8 ∧ Job n F W C ∧ d = jobD n F W C
theorem isJob_at {a b c : D} : IsJob (.tup [a, b, c]) ↔ ∃ rows, a = .tup rows ∧ 1 ≤ rows.length ∧ rows.length ≤ 8 ∧ sqM rows.length 999 a = true ∧ sqM rows.length 999 b = true ∧ sqM rows.length 1000000 c = true ∧ ∀ i, i < rows.length → ent a i i = 0 ∧ ent b i i = 0 := by
  have ed : ∀ {n : Nat} {f : Nat → Nat → Int} {i : Nat}, i < n → ent (tabD n f) i i = f i i := fun {n f i} hi => by
    unfold ent
    dsimp only
    rw [tabl_get hi]
    dsimp only
    rw [tabl_get hi]
  constructor
  · rintro ⟨n, F, W, C, h1, h2, hj, e⟩
    injection e with e
    obtain ⟨ea, e⟩ := List.cons.inj e
    obtain ⟨eb, e⟩ := List.cons.inj e
    obtain ⟨ec, _⟩ := List.cons.inj e
    subst ea eb ec
    refine ⟨_, rfl, ?_, ?_, ?_, ?_, ?_, fun i hi => ?_⟩
    · rw [tabl_len]; exact h1
    · rw [tabl_len]; exact h2
    · rw [tabl_len]; exact sq_yes hj.f
    · rw [tabl_len]; exact sq_yes hj.w
    · rw [tabl_len]; exact sq_yes hj.c
    · rw [tabl_len] at hi
      rw [ed hi, ed hi]
      exact ⟨hj.f0 i hi, hj.w0 i hi⟩
  · rintro ⟨rows, ea, h1, h2, ha, hb, hc, h0⟩
    obtain ⟨t1, e1⟩ := sq_tab ha
    obtain ⟨t2, e2⟩ := sq_tab hb
    obtain ⟨t3, e3⟩ := sq_tab hc
    refine ⟨rows.length, ent a, ent b, ent c, h1, h2, ⟨t1, t2, t3, fun i hi => (h0 i hi).1, fun i hi => (h0 i hi).2⟩, ?_⟩
    show _ = D.tup [tabD rows.length (ent a), tabD rows.length (ent b), tabD rows.length (ent c)]
    rw [← e1, ← e2, ← e3]
theorem isJob_tup {d : D} (h : IsJob d) : ∃ rows b c, d = .tup [.tup rows, b, c] := by
  obtain ⟨n, F, W, C, _, _, _, e⟩ := h
  exact ⟨_, _, _, e⟩
theorem isJob_len {ds : List D} (h : IsJob (.tup ds)) : ds.length = 3 := by
  obtain ⟨_, _, _, e⟩ := isJob_tup h
  injection e with e
  rw [e]; rfl
theorem go_ixM {ds : List D} {i : Int} {d : D} {P : KD → Prop} {k : Kd} (h : L2.atI ds i = some d) (hk : k = .fl) (p : P (.fl, d)) : xIx (k, .tup ds) (.fl, .int i) P := by
  subst hk
  refine go_ix rfl h ?_
  show P (kel .fl d)
  rw [kel_flM]
  exact p
theorem job_mix {d : D} {Q X} (hm : mix d = true) (h : ∀ b : Bool, (b = true ↔ IsJob d) → Q (.fl, .bl b) []) : cf_is_job [(.fl, d)] Q X := by
  have no : ¬ IsJob d → Q (.fl, .bl false) [] := fun z => h false ⟨fun c => (nomatch c), fun c => absurd c z⟩
  rw [cf_is_job_eq]
  cases d with
  | tup ds =>
    obtain ⟨_, hx⟩ := mix_tupI hm
    have big : (ds.length : Int) ≠ 3 → Q (.fl, .bl false) [] := fun c => no fun z => c (by rw [isJob_len z]; rfl)
    match ds, hx, big, h, no with
    | [], _, big, _, _ => exact big (by simp)
    | [_], _, big, _, _ => exact big (by simp)
    | [_, _], _, big, _, _ => exact big (by simp)
    | x1 :: x2 :: x3 :: x4 :: r, _, big, _, _ =>
      have hb : ((x1 :: x2 :: x3 :: x4 :: r).length : Int) ≠ 3 := by rw [List.length_cons, List.length_cons, List.length_cons, List.length_cons]; omega
      exact big hb
    | [a, b, c], hx, _, h, no =>
      refine go_ixM (d := a) rfl rfl ?_
      cases a with
      | tup rows =>
        refine go_ixM (d := .tup rows) rfl rfl ?_
        have hjn : ¬ (1 ≤ rows.length ∧ rows.length ≤ 8) → Q (.fl, .bl false) [] := fun z => no fun q => by
          obtain ⟨rows', e, h1, h2, _⟩ := isJob_at.mp q
          cases e
          exact z ⟨h1, h2⟩
        refine ifd (fun c1 => ?_) fun c1 => hjn fun z => c1 (Int.ofNat_le.mpr z.1)
        have c1 : (1 : Int) ≤ (rows.length : Int) := c1
        refine ifdn (fun c2 => hjn fun z => c2 (Int.ofNat_le.mpr z.2)) fun c2 => ?_
        have c2 : (rows.length : Int) ≤ 8 := c2
        have no1 : ¬ (sqM rows.length 999 (.tup rows) = true ∧ sqM rows.length 999 b = true ∧ sqM rows.length 1000000 c = true) → Q (.fl, .bl false) [] := fun z => no fun q => by
          obtain ⟨rows', e, _, _, h1, h2, h3, _⟩ := isJob_at.mp q
          cases e
          exact z ⟨h1, h2, h3⟩
        refine go_ixM (d := .tup rows) rfl rfl (square_mix (hx _ (by simp)) ?_)
        generalize e1 : sqM rows.length 999 (.tup rows) = b1
        cases b1 with
        | false => exact no1 fun z => by rw [e1] at z; exact nomatch z.1
        | true =>
          refine go_ixM (d := b) rfl rfl (square_mix (hx _ (by simp)) ?_)
          generalize e2 : sqM rows.length 999 b = b2
          cases b2 with
          | false => exact no1 fun z => by rw [e2] at z; exact nomatch z.2.1
          | true =>
            refine go_ixM (d := c) rfl rfl (square_mix (hx _ (by simp)) ?_)
            generalize e3 : sqM rows.length 1000000 c = b3
            cases b3 with
            | false => exact no1 fun z => by rw [e3] at z; exact nomatch z.2.2
            | true =>
              obtain ⟨_, q1⟩ := sq_tab e1
              obtain ⟨_, q2⟩ := sq_tab e2
              have key : (∀ i, i < rows.length → ent (.tup rows) i i = 0 ∧ ent b i i = 0) ↔ IsJob (.tup [.tup rows, b, c]) := by
                rw [isJob_at]
                constructor
                · exact fun z => ⟨rows, rfl, by omega, by omega, e1, e2, e3, z⟩
                · rintro ⟨rows', e, _, _, _, _, _, z⟩
                  cases e
                  exact z
              have i1 : ∀ {i : Nat} {P : KD → Prop}, i < rows.length → P (.fl, .int (ent (.tup rows) i i)) → xIx (.fl, .tup rows) (.fl, .int i) fun z => xIx z (.fl, .int i) P := fun {i P} hi p => by
                have : D.tup rows = tabD rows.length (ent (.tup rows)) := q1
                rw [this]
                have p2 : P (.fl, .int (ent (tabD rows.length (ent (.tup rows))) i i)) := by rw [← this]; exact p
                have e4 : ent (tabD rows.length (ent (.tup rows))) i i = ent (.tup rows) i i := by rw [← this]
                rw [e4] at p2
                exact go_tab hi (go_tab hi p2)
              have i2 : ∀ {i : Nat} {P : KD → Prop}, i < rows.length → P (.fl, .int (ent b i i)) → xIx (.fl, b) (.fl, .int i) fun z => xIx z (.fl, .int i) P := fun {i P} hi p => by
                have e4 : ent (tabD rows.length (ent b)) i i = ent b i i := by rw [← q2]
                rw [q2]
                exact go_tab hi (go_tab hi p)
              refine go_R1 (n := rows.length) rfl (by omega) ?_
              refine go_Lc0 (fun i => .bl (decide (ent (.tup rows) i i = 0) && decide (ent b i i = 0))) (by omega) (fun i N hi hN => ?_) ?_
              · refine go_ixM (d := .tup rows) rfl rfl (i1 hi ?_)
                refine ifd (fun z1 => ?_) fun z1 => ?_
                · refine go_ixM (d := b) rfl rfl (i2 hi ?_)
                  have z1 : ent (.tup rows) i i = 0 := z1
                  rw [decide_eq_true z1, Bool.true_and] at hN
                  exact hN
                · have z1 : ¬ ent (.tup rows) i i = 0 := z1
                  rw [decide_eq_false z1, Bool.false_and] at hN
                  exact hN
              · refine ⟨tabl rows.length fun i => decide (ent (.tup rows) i i = 0) && decide (ent b i i = 0), by unfold tabl; rw [List.map_map]; rfl, h _ (Iff.trans ?_ key)⟩
                rw [List.all_eq_true]
                constructor
                · intro z i hi
                  have := z _ (List.mem_map.mpr ⟨i, List.mem_range.mpr hi, rfl⟩)
                  have := Bool.and_eq_true_iff.mp this
                  exact ⟨of_decide_eq_true this.1, of_decide_eq_true this.2⟩
                · intro z x hx
                  obtain ⟨i, hi, rfl⟩ := List.mem_map.mp hx
                  obtain ⟨a1, a2⟩ := z i (List.mem_range.mp hi)
                  exact Bool.and_eq_true_iff.mpr ⟨decide_eq_true a1, decide_eq_true a2⟩
      | int i => exact no fun z => by obtain ⟨_, _, _, e⟩ := isJob_tup z; cases e
      | bl b => exact no fun z => by obtain ⟨_, _, _, e⟩ := isJob_tup z; cases e
      | non => exact no fun z => by obtain ⟨_, _, _, e⟩ := isJob_tup z; cases e
      | str x => exact no fun z => by obtain ⟨_, _, _, e⟩ := isJob_tup z; cases e
      | dcL k => exact no fun z => by obtain ⟨_, _, _, e⟩ := isJob_tup z; cases e
      | kst ds => exact no fun z => by obtain ⟨_, _, _, e⟩ := isJob_tup z; cases e
      | _ => exact absurd (hx _ List.mem_cons_self) (fun z => by cases z)
  | int i => exact no fun z => by obtain ⟨_, _, _, e⟩ := isJob_tup z; cases e
  | bl b => exact no fun z => by obtain ⟨_, _, _, e⟩ := isJob_tup z; cases e
  | non => exact no fun z => by obtain ⟨_, _, _, e⟩ := isJob_tup z; cases e
  | str x => exact no fun z => by obtain ⟨_, _, _, e⟩ := isJob_tup z; cases e
  | dcL k => exact no fun z => by obtain ⟨_, _, _, e⟩ := isJob_tup z; cases e
  | kst ds => exact no fun z => by obtain ⟨_, _, _, e⟩ := isJob_tup z; cases e
  | _ => cases hm
end DCF

namespace K01
open PySem PySem.Spec PyProof.Rows L2 DL
def topS (i : Nat) : Stmt := PySem.Challenge.pw_spotlay_k01_what_is_a_job.main.body.getD i (.Pass ⟨0, 0, 0, 0⟩)
def clsS (i j : Nat) : Stmt := match topS i with | .ClassDef (body := b) .. => b.getD j (.Pass ⟨0, 0, 0, 0⟩) | s => s
abbrev FnP (K : PySem.W.Frag) (x q : Str) (st : Stmt) (f : Addr) (fd : FuncData) : Prop := FunD K x q (defArgs st) (defBody st) (defScope st) [] [] f fd
abbrev s_is_number : Stmt := topS 4
theorem sc_is_number : FnScope ["thing", "most"] ["thing", "most"] (defScope s_is_number) := ⟨rfl, rfl, rfl, by decide +kernel, rfl, by decide +kernel, by decide +kernel⟩
theorem b_is_number : BndG "is_number" "is_number" (defArgs s_is_number) (defBody s_is_number) (defScope s_is_number) ["thing", "most"] := fun _ _ _ _ _ _ us hl => match us, hl with | [_, _], _ => rfl
abbrev s_is_row : Stmt := topS 5
theorem sc_is_row : FnScope ["thing", "many", "most", "one"] ["thing", "many", "most"] (defScope s_is_row) := ⟨rfl, rfl, rfl, by decide +kernel, rfl, by decide +kernel, by decide +kernel⟩
theorem b_is_row : BndG "is_row" "is_row" (defArgs s_is_row) (defBody s_is_row) (defScope s_is_row) ["thing", "many", "most"] := fun _ _ _ _ _ _ us hl => match us, hl with | [_, _, _], _ => rfl
abbrev s_is_square : Stmt := topS 6
theorem sc_is_square : FnScope ["thing", "many", "most", "row"] ["thing", "many", "most"] (defScope s_is_square) := ⟨rfl, rfl, rfl, by decide +kernel, rfl, by decide +kernel, by decide +kernel⟩
theorem b_is_square : BndG "is_square" "is_square" (defArgs s_is_square) (defBody s_is_square) (defScope s_is_square) ["thing", "many", "most"] := fun _ _ _ _ _ _ us hl => match us, hl with | [_, _, _], _ => rfl
abbrev s_is_job : Stmt := topS 7
theorem sc_is_job : FnScope ["thing", "many", "k"] ["thing"] (defScope s_is_job) := ⟨rfl, rfl, rfl, by decide +kernel, rfl, by decide +kernel, by decide +kernel⟩
theorem b_is_job : BndG "is_job" "is_job" (defArgs s_is_job) (defBody s_is_job) (defScope s_is_job) ["thing"] := fun _ _ _ _ _ _ us hl => match us, hl with | [_], _ => rfl
abbrev s__law_bag : Stmt := topS 9
theorem sc__law_bag : FnScope ["script", "mixed", "cell"] ["script"] (defScope s__law_bag) := ⟨rfl, rfl, rfl, by decide +kernel, rfl, by decide +kernel, by decide +kernel⟩
theorem b__law_bag : BndG "_law_bag" "_law_bag" (defArgs s__law_bag) (defBody s__law_bag) (defScope s__law_bag) ["script"] := fun _ _ _ _ _ _ us hl => match us, hl with | [_], _ => rfl
abbrev s__law_dip : Stmt := topS 10
theorem sc__law_dip : FnScope ["bag", "many", "cell", "digit"] ["bag", "many"] (defScope s__law_dip) := ⟨rfl, rfl, rfl, by decide +kernel, rfl, by decide +kernel, by decide +kernel⟩
theorem b__law_dip : BndG "_law_dip" "_law_dip" (defArgs s__law_dip) (defBody s__law_dip) (defScope s__law_dip) ["bag", "many"] := fun _ _ _ _ _ _ us hl => match us, hl with | [_, _], _ => rfl
abbrev s__law_entry : Stmt := topS 11
theorem sc__law_entry : FnScope ["bag", "kind", "most"] ["bag", "kind", "most"] (defScope s__law_entry) := ⟨rfl, rfl, rfl, by decide +kernel, rfl, by decide +kernel, by decide +kernel⟩
theorem b__law_entry : BndG "_law_entry" "_law_entry" (defArgs s__law_entry) (defBody s__law_entry) (defScope s__law_entry) ["bag", "kind", "most"] := fun _ _ _ _ _ _ us hl => match us, hl with | [_, _, _], _ => rfl
abbrev s__law_square : Stmt := topS 12
theorem sc__law_square : FnScope ["bag", "many", "most", "bare", "kind", "rows", "k", "row", "j"] ["bag", "many", "most", "bare"] (defScope s__law_square) := ⟨rfl, rfl, rfl, by decide +kernel, rfl, by decide +kernel, by decide +kernel⟩
theorem b__law_square : BndG "_law_square" "_law_square" (defArgs s__law_square) (defBody s__law_square) (defScope s__law_square) ["bag", "many", "most", "bare"] := fun _ _ _ _ _ _ us hl => match us, hl with | [_, _, _, _], _ => rfl
abbrev s__law_job : Stmt := topS 13
theorem sc__law_job : FnScope ["bag", "most", "many", "flows", "ways"] ["bag", "most"] (defScope s__law_job) := ⟨rfl, rfl, rfl, by decide +kernel, rfl, by decide +kernel, by decide +kernel⟩
theorem b__law_job : BndG "_law_job" "_law_job" (defArgs s__law_job) (defBody s__law_job) (defScope s__law_job) ["bag", "most"] := fun _ _ _ _ _ _ us hl => match us, hl with | [_, _], _ => rfl
abbrev s__law_whole : Stmt := topS 14
theorem sc__law_whole : FnScope ["thing", "most"] ["thing", "most"] (defScope s__law_whole) := ⟨rfl, rfl, rfl, by decide +kernel, rfl, by decide +kernel, by decide +kernel⟩
theorem b__law_whole : BndG "_law_whole" "_law_whole" (defArgs s__law_whole) (defBody s__law_whole) (defScope s__law_whole) ["thing", "most"] := fun _ _ _ _ _ _ us hl => match us, hl with | [_, _], _ => rfl
abbrev s__law_is_square : Stmt := topS 15
theorem sc__law_is_square : FnScope ["thing", "many", "most", "row", "one"] ["thing", "many", "most"] (defScope s__law_is_square) := ⟨rfl, rfl, rfl, by decide +kernel, rfl, by decide +kernel, by decide +kernel⟩
theorem b__law_is_square : BndG "_law_is_square" "_law_is_square" (defArgs s__law_is_square) (defBody s__law_is_square) (defScope s__law_is_square) ["thing", "many", "most"] := fun _ _ _ _ _ _ us hl => match us, hl with | [_, _, _], _ => rfl
abbrev s__law_is_job : Stmt := topS 16
theorem sc__law_is_job : FnScope ["thing", "many", "square", "most", "dots", "k"] ["thing"] (defScope s__law_is_job) := ⟨rfl, rfl, rfl, by decide +kernel, rfl, by decide +kernel, by decide +kernel⟩
theorem b__law_is_job : BndG "_law_is_job" "_law_is_job" (defArgs s__law_is_job) (defBody s__law_is_job) (defScope s__law_is_job) ["thing"] := fun _ _ _ _ _ _ us hl => match us, hl with | [_], _ => rfl
abbrev s__law_put : Stmt := topS 17
theorem sc__law_put : FnScope ["some", "at", "other"] ["some", "at", "other"] (defScope s__law_put) := ⟨rfl, rfl, rfl, by decide +kernel, rfl, by decide +kernel, by decide +kernel⟩
theorem b__law_put : BndG "_law_put" "_law_put" (defArgs s__law_put) (defBody s__law_put) (defScope s__law_put) ["some", "at", "other"] := fun _ _ _ _ _ _ us hl => match us, hl with | [_, _, _], _ => rfl
abbrev s__law_odd : Stmt := topS 18
theorem sc__law_odd : FnScope ["bag", "most", "far", "some"] ["bag", "most"] (defScope s__law_odd) := ⟨rfl, rfl, rfl, by decide +kernel, rfl, by decide +kernel, by decide +kernel⟩
theorem b__law_odd : BndG "_law_odd" "_law_odd" (defArgs s__law_odd) (defBody s__law_odd) (defScope s__law_odd) ["bag", "most"] := fun _ _ _ _ _ _ us hl => match us, hl with | [_, _], _ => rfl
abbrev s__law_cut : Stmt := topS 19
theorem sc__law_cut : FnScope ["bag", "some", "at"] ["bag", "some"] (defScope s__law_cut) := ⟨rfl, rfl, rfl, by decide +kernel, rfl, by decide +kernel, by decide +kernel⟩
theorem b__law_cut : BndG "_law_cut" "_law_cut" (defArgs s__law_cut) (defBody s__law_cut) (defScope s__law_cut) ["bag", "some"] := fun _ _ _ _ _ _ us hl => match us, hl with | [_, _], _ => rfl
abbrev s__law_others : Stmt := topS 20
theorem sc__law_others : FnScope ["bag", "way", "size", "great"] ["bag"] (defScope s__law_others) := ⟨rfl, rfl, rfl, by decide +kernel, rfl, by decide +kernel, by decide +kernel⟩
theorem b__law_others : BndG "_law_others" "_law_others" (defArgs s__law_others) (defBody s__law_others) (defScope s__law_others) ["bag"] := fun _ _ _ _ _ _ us hl => match us, hl with | [_], _ => rfl
abbrev s__law_nested : Stmt := topS 21
theorem sc__law_nested : FnScope ["bag", "found", "turn"] ["bag"] (defScope s__law_nested) := ⟨rfl, rfl, rfl, by decide +kernel, rfl, by decide +kernel, by decide +kernel⟩
theorem b__law_nested : BndG "_law_nested" "_law_nested" (defArgs s__law_nested) (defBody s__law_nested) (defScope s__law_nested) ["bag"] := fun _ _ _ _ _ _ us hl => match us, hl with | [_], _ => rfl
abbrev s__law_odd_part : Stmt := topS 22
theorem sc__law_odd_part : FnScope ["bag", "job", "which", "square", "way", "odd", "at"] ["bag", "job", "which"] (defScope s__law_odd_part) := ⟨rfl, rfl, rfl, by decide +kernel, rfl, by decide +kernel, by decide +kernel⟩
theorem b__law_odd_part : BndG "_law_odd_part" "_law_odd_part" (defArgs s__law_odd_part) (defBody s__law_odd_part) (defScope s__law_odd_part) ["bag", "job", "which"] := fun _ _ _ _ _ _ us hl => match us, hl with | [_, _, _], _ => rfl
abbrev s__law_other_size : Stmt := topS 23
theorem sc__law_other_size : FnScope ["bag", "job", "which", "way", "square", "other", "row"] ["bag", "job", "which"] (defScope s__law_other_size) := ⟨rfl, rfl, rfl, by decide +kernel, rfl, by decide +kernel, by decide +kernel⟩
theorem b__law_other_size : BndG "_law_other_size" "_law_other_size" (defArgs s__law_other_size) (defBody s__law_other_size) (defScope s__law_other_size) ["bag", "job", "which"] := fun _ _ _ _ _ _ us hl => match us, hl with | [_, _, _], _ => rfl
abbrev s__law_spoilt : Stmt := topS 24
theorem sc__law_spoilt : FnScope ["bag", "job", "way", "which", "square", "k", "j", "odd"] ["bag", "job"] (defScope s__law_spoilt) := ⟨rfl, rfl, rfl, by decide +kernel, rfl, by decide +kernel, by decide +kernel⟩
theorem b__law_spoilt : BndG "_law_spoilt" "_law_spoilt" (defArgs s__law_spoilt) (defBody s__law_spoilt) (defScope s__law_spoilt) ["bag", "job"] := fun _ _ _ _ _ _ us hl => match us, hl with | [_, _], _ => rfl
abbrev s_law : Stmt := topS 25
theorem sc_law : FnScope ["script", "bag", "job", "turn", "thing", "seen", "found"] ["script"] (defScope s_law) := ⟨rfl, rfl, rfl, by decide +kernel, rfl, by decide +kernel, by decide +kernel⟩
theorem b_law : BndG "law" "law" (defArgs s_law) (defBody s_law) (defScope s_law) ["script"] := fun _ _ _ _ _ _ us hl => match us, hl with | [_], _ => rfl
noncomputable section
/- _law_whole(thing, most); slots: 0 thing, 1 most -/
def sem__law_whole : SF :=
  (sRet (eP (pAndV (pIsI .int (pVar 0)) (pAndV (pUn uNot (pIsI .bool (pVar 0))) (pChain oLe oLe (pC (.int 0)) (pVar 0) (pVar 1))))))
@[irreducible] def cf__law_whole : CF := hid (cfOf 0 [false, false] sem__law_whole)
theorem cf__law_whole_eq : cf__law_whole = cfOf 0 [false, false] sem__law_whole := by unfold cf__law_whole; rw [hid_eq]
/- _law_is_square(thing, many, most); slots: 0 thing, 1 many, 2 most, 3 row, 4 one -/
def sem__law_is_square : SF :=
  (sSeq (sIf (teP (tOr (tNot (pTest (pIsI .tup (pVar 0)))) (pTest (pOp oNe (pCall oLen (gCons (pVar 0) gNil)) (pVar 1))))) (sRet (eP (pC (.bl false)))) sNil)
    (sSeq (sForX (iSq (pVar 0)) (gNm 3) (sIf (teP (tOr (tNot (pTest (pIsI .tup (pVar 3)))) (tOr (pTest (pOp oNe (pCall oLen (gCons (pVar 3) gNil)) (pVar 1))) (pTest (pOp oNeN (pLcX (iSq (pVar 3)) [4] (gNm 4) (tNot (pTest (pFn cf__law_whole (gCons (pVar 4) (gCons (pVar 2) gNil))))) (pVar 4)) (pLst gNil)))))) (sRet (eP (pC (.bl false)))) sNil))
    (sRet (eP (pC (.bl true))))))
@[irreducible] def cf__law_is_square : CF := hid (cfOf 2 [false, false, false] sem__law_is_square)
theorem cf__law_is_square_eq : cf__law_is_square = cfOf 2 [false, false, false] sem__law_is_square := by unfold cf__law_is_square; rw [hid_eq]
/- _law_is_job(thing); slots: 0 thing, 1 many, 2 square, 3 most, 4 dots, 5 k -/
def sem__law_is_job : SF :=
  (sSeq (sIf (teP (tOr (tNot (pTest (pIsI .tup (pVar 0)))) (tOr (pTest (pOp oNe (pCall oLen (gCons (pVar 0) gNil)) (pC (.int 3)))) (tNot (pTest (pIsI .tup (pOp xIx (pVar 0) (pC (.int 0))))))))) (sRet (eP (pC (.bl false)))) sNil)
    (sSeq (sSet 1 (eP (pCall oLen (gCons (pOp xIx (pVar 0) (pC (.int 0))) gNil))))
    (sSeq (sForX (iZpB (gCons (pVar 0) (gCons (pLst (gCons (pC (.int 999)) (gCons (pC (.int 999)) (gCons (pC (.int 1000000)) gNil)))) gNil))) (gTu 2 (tConsG (gNm 2) (tConsG (gNm 3) tNilG))) (sIf (teP (tNot (pTest (pFn cf__law_is_square (gCons (pVar 2) (gCons (pVar 1) (gCons (pVar 3) gNil))))))) (sRet (eP (pC (.bl false)))) sNil))
    (sSeq (sSet 4 (eP (pLcX (jR1 (gCons (pVar 1) gNil)) [5] (gNm 5) tNilP (pOp oAdd (pOp xIx (pOp xIx (pOp xIx (pVar 0) (pC (.int 0))) (pVar 5)) (pVar 5)) (pOp xIx (pOp xIx (pOp xIx (pVar 0) (pC (.int 1))) (pVar 5)) (pVar 5))))))
    (sRet (eP (pAndV (pChain oLt oLt (pC (.int 0)) (pVar 1) (pC (.int 9))) (pOp oEq (pCall oSum (gCons (pVar 4) gNil)) (pC (.int 0))))))))))
@[irreducible] def cf__law_is_job : CF := hid (cfOf 5 [false] sem__law_is_job)
theorem cf__law_is_job_eq : cf__law_is_job = cfOf 5 [false] sem__law_is_job := by unfold cf__law_is_job; rw [hid_eq]
/- _law_put(some, at, other); slots: 0 some, 1 at, 2 other -/
def sem__law_put : SF :=
  (sRet (eP (pOp oAdd (pOp oAdd (pSl (pVar 0) oNoP (oP (pVar 1))) (pTup (gCons (pVar 2) gNil))) (pSl (pVar 0) (oP (pOp oAdd (pVar 1) (pC (.int 1)))) oNoP))))
@[irreducible] def cf__law_put : CF := hid (cfOf 0 [false, false, false] sem__law_put)
theorem cf__law_put_eq : cf__law_put = cfOf 0 [false, false, false] sem__law_put := by unfold cf__law_put; rw [hid_eq]
/- _law_odd(bag, most); slots: 0 bag, 1 most, 2 far, 3 some -/
def sem__law_odd : SF :=
  (sSeq (sSet 2 (eOp oAdd (eP (pOp oPow (pC (.int 10)) (pC (.int 59)))) (eFn [true, false] DCA.cf__law_dip (aPl 0 (aE (eP (pOp oPow (pC (.int 10)) (pC (.int 59)))) aNil)))))
    (sSeq (sSet 3 (eP (pLst (gCons (pOp oAdd (pVar 1) (pC (.int 1))) (gCons (pUn uNeg (pC (.int 1))) (gCons (pVar 2) (gCons (pUn uNeg (pVar 2)) (gCons (pC (.bl true)) (gCons (pC (.bl false)) (gCons (pC .non) (gCons (pC (.str "1")) (gCons (pTup (gCons (pC (.int 1)) gNil)) (gCons (pLk (pLst (gCons (pC (.int 1)) gNil))) (gCons pLckD (gCons (pVar 1) gNil)))))))))))))))
    (sRet (eIxSX 3 (eFn [true, false] DCA.cf__law_dip (aPl 0 (aE (eP (pC (.int 12))) aNil)))))))
@[irreducible] def cf__law_odd : CF := hid (cfOf 2 [true, false] sem__law_odd)
theorem cf__law_odd_eq : cf__law_odd = cfOf 2 [true, false] sem__law_odd := by unfold cf__law_odd; rw [hid_eq]
/- _law_cut(bag, some); slots: 0 bag, 1 some, 2 at -/
def sem__law_cut : SF :=
  (sSeq (sSet 2 (eFn [true, false] DCA.cf__law_dip (aPl 0 (aE (eP (pCall oLen (gCons (pVar 1) gNil))) aNil))))
    (sRet (eOp xIx (eP (pLst (gCons (pOp oAdd (pSl (pVar 1) oNoP (oP (pVar 2))) (pSl (pVar 1) (oP (pOp oAdd (pVar 2) (pC (.int 1)))) oNoP)) (gCons (pOp oAdd (pOp oAdd (pSl (pVar 1) oNoP (oP (pVar 2))) (pSl (pVar 1) (oP (pVar 2)) (oP (pOp oAdd (pVar 2) (pC (.int 1)))))) (pSl (pVar 1) (oP (pVar 2)) oNoP)) (gCons (pLk (pCall oList (gCons (pVar 1) gNil))) gNil))))) (eFn [true, false] DCA.cf__law_dip (aPl 0 (aE (eP (pC (.int 3))) aNil))))))
@[irreducible] def cf__law_cut : CF := hid (cfOf 1 [true, false] sem__law_cut)
theorem cf__law_cut_eq : cf__law_cut = cfOf 1 [true, false] sem__law_cut := by unfold cf__law_cut; rw [hid_eq]
/- _law_others(bag); slots: 0 bag, 1 way, 2 size, 3 great -/
def sem__law_others : SF :=
  (sSeq (sSet 1 (eFn [true, false] DCA.cf__law_dip (aPl 0 (aE (eP (pC (.int 13))) aNil))))
    (sSeq (sSet 2 (eOp oAdd (eP (pC (.int 9))) (eFn [true, false] DCA.cf__law_dip (aPl 0 (aE (eP (pC (.int 4))) aNil)))))
    (sSeq (sSet 3 (eP (pOp oMul (pTup (gCons (pOp oMul (pTup (gCons (pC (.int 0)) gNil)) (pVar 2)) gNil)) (pVar 2))))
    (sRet (eP (pOp xIx (pLst (gCons (pC .non) (gCons (pC (.bl true)) (gCons (pC (.int 0)) (gCons (pC (.int 7)) (gCons (pC (.str "job")) (gCons (pC (.str "")) (gCons (pTup gNil) (gCons (pLk (pLst gNil)) (gCons pLckD (gCons (pTup (gCons (pTup gNil) (gCons (pTup gNil) (gCons (pTup gNil) gNil)))) (gCons (pTup (gCons (pVar 3) (gCons (pVar 3) (gCons (pVar 3) gNil)))) (gCons (pTup (gCons (pC .non) (gCons (pC .non) (gCons (pC .non) gNil)))) (gCons (pTup (gCons (pTup (gCons (pC (.int 0)) gNil)) (gCons (pTup (gCons (pC (.int 0)) gNil)) (gCons (pTup (gCons (pC (.int 0)) gNil)) gNil)))) gNil)))))))))))))) (pVar 1)))))))
@[irreducible] def cf__law_others : CF := hid (cfOf 3 [true] sem__law_others)
theorem cf__law_others_eq : cf__law_others = cfOf 3 [true] sem__law_others := by unfold cf__law_others; rw [hid_eq]
/- _law_nested(bag); slots: 0 bag, 1 found, 2 turn -/
def sem__law_nested : SF :=
  (sSeq (sSet 1 (eFn [true, false] DCA.cf__law_dip (aPl 0 (aE (eP (pC (.int 4))) aNil))))
    (sSeq (sForRE (eOp oAdd (eP (pC (.int 1))) (eFn [true, false] DCA.cf__law_dip (aPl 0 (aE (eP (pC (.int 5))) aNil)))) (gNm 2) (sSet 1 (eOp xIx (eP (pLst (gCons (pTup (gCons (pVar 1) gNil)) (gCons (pLk (pLst (gCons (pVar 1) gNil))) gNil)))) (eFn [true, false] DCA.cf__law_dip (aPl 0 (aE (eP (pC (.int 2))) aNil))))))
    (sRet (eMv 1))))
@[irreducible] def cf__law_nested : CF := hid (cfOf 2 [true] sem__law_nested)
theorem cf__law_nested_eq : cf__law_nested = cfOf 2 [true] sem__law_nested := by unfold cf__law_nested; rw [hid_eq]
/- _law_odd_part(bag, job, which); slots: 0 bag, 1 job, 2 which, 3 square, 4 way, 5 odd, 6 at -/
def sem__law_odd_part : SF :=
  (sSeq (sSet 3 (eP (pOp xIx (pVar 1) (pVar 2))))
    (sSeq (sSet 4 (eFn [true, false] DCA.cf__law_dip (aPl 0 (aE (eP (pC (.int 12))) aNil))))
    (sSeq (sSet 5 (eP (pOp xIx (pLst (gCons (pC .non) (gCons (pC (.int 0)) (gCons (pC (.str "0")) (gCons pLckD (gCons (pCall oDictO (gCons (pLcX (jR1 (gCons (pCall oLen (gCons (pVar 3) gNil)) gNil)) [6] (gNm 6) tNilP (pTup (gCons (pVar 6) (gCons (pC (.int 0)) gNil)))) gNil)) (gCons (pTup gNil) gNil))))))) (pOp oFdiv (pVar 4) (pC (.int 2))))))
    (sSeq (sIf (teP (pTest (pOp oEq (pOp oMod (pVar 4) (pC (.int 2))) (pC (.int 0))))) (sRet (eP (pFn cf__law_put (gCons (pVar 1) (gCons (pVar 2) (gCons (pVar 5) gNil)))))) sNil)
    (sRet (eFn [false, false, false] cf__law_put (aE (eMv 1) (aE (eMv 2) (aE (eFn [false, false, false] cf__law_put (aE (eMv 3) (aE (eFn [true, false] DCA.cf__law_dip (aPl 0 (aE (eP (pCall oLen (gCons (pVar 3) gNil))) aNil))) (aE (eMv 5) aNil)))) aNil)))))))))
@[irreducible] def cf__law_odd_part : CF := hid (cfOf 4 [true, false, false] sem__law_odd_part)
theorem cf__law_odd_part_eq : cf__law_odd_part = cfOf 4 [true, false, false] sem__law_odd_part := by unfold cf__law_odd_part; rw [hid_eq]
/- _law_other_size(bag, job, which); slots: 0 bag, 1 job, 2 which, 3 way, 4 square, 5 other, 6 row -/
def sem__law_other_size : SF :=
  (sSeq (sSet 3 (eFn [true, false] DCA.cf__law_dip (aPl 0 (aE (eP (pC (.int 4))) aNil))))
    (sSeq (sSet 4 (eP (pOp xIx (pVar 1) (pVar 2))))
    (sSeq (sIf (teP (pTest (pOp oEq (pVar 3) (pC (.int 0))))) (sRet (eP (pFn cf__law_put (gCons (pVar 1) (gCons (pVar 2) (gCons (pOp oAdd (pCall oTuple (gCons (pLcX (iSq (pVar 4)) [6] (gNm 6) tNilP (pOp oAdd (pVar 6) (pTup (gCons (pC (.int 0)) gNil)))) gNil)) (pTup (gCons (pOp oMul (pTup (gCons (pC (.int 0)) gNil)) (pOp oAdd (pCall oLen (gCons (pVar 4) gNil)) (pC (.int 1)))) gNil))) gNil)))))) sNil)
    (sSeq (sIf (teP (pTest (pOp oEq (pVar 3) (pC (.int 1))))) (sRet (eP (pFn cf__law_put (gCons (pVar 1) (gCons (pVar 2) (gCons (pCall oTuple (gCons (pLcX (iSq (pSl (pVar 4) oNoP (oP (pUn uNeg (pC (.int 1)))))) [6] (gNm 6) tNilP (pSl (pVar 6) oNoP (oP (pUn uNeg (pC (.int 1)))))) gNil)) gNil)))))) sNil)
    (sSeq (sSet 5 (eFn [true, false] DCA.cf__law_job (aPl 0 (aE (eP (pC (.int 8))) aNil))))
    (sRet (eP (pOp xIx (pLst (gCons (pFn cf__law_put (gCons (pVar 1) (gCons (pVar 2) (gCons (pOp xIx (pVar 5) (pVar 2)) gNil)))) (gCons (pOp oAdd (pSl (pVar 5) oNoP (oP (pVar 2))) (pSl (pVar 1) (oP (pVar 2)) oNoP)) gNil))) (pOp oSub (pVar 3) (pC (.int 2)))))))))))
@[irreducible] def cf__law_other_size : CF := hid (cfOf 4 [true, false, false] sem__law_other_size)
theorem cf__law_other_size_eq : cf__law_other_size = cfOf 4 [true, false, false] sem__law_other_size := by unfold cf__law_other_size; rw [hid_eq]
/- _law_spoilt(bag, job); slots: 0 bag, 1 job, 2 way, 3 which, 4 square, 5 k, 6 j, 7 odd -/
def sem__law_spoilt : SF :=
  (sSeq (sSet 2 (eFn [true, false] DCA.cf__law_dip (aPl 0 (aE (eP (pC (.int 12))) aNil))))
    (sSeq (sSet 3 (eFn [true, false] DCA.cf__law_dip (aPl 0 (aE (eP (pC (.int 3))) aNil))))
    (sSeq (sSet 4 (eP (pOp xIx (pVar 1) (pVar 3))))
    (sSeq (sSet 5 (eFn [true, false] DCA.cf__law_dip (aPl 0 (aE (eP (pCall oLen (gCons (pVar 4) gNil))) aNil))))
    (sSeq (sSet 6 (eFn [true, false] DCA.cf__law_dip (aPl 0 (aE (eP (pCall oLen (gCons (pVar 4) gNil))) aNil))))
    (sBar (sSeq (sIf (teP (pTest (pOp oLt (pVar 2) (pC (.int 3))))) (sSeq (sSet 7 (eFn [true, false] cf__law_odd (aPl 0 (aE (eP (pOp xIx (pLst (gCons (pC (.int 999)) (gCons (pC (.int 999)) (gCons (pC (.int 1000000)) gNil)))) (pVar 3))) aNil))))
    (sRet (eP (pFn cf__law_put (gCons (pVar 1) (gCons (pVar 3) (gCons (pFn cf__law_put (gCons (pVar 4) (gCons (pVar 5) (gCons (pFn cf__law_put (gCons (pOp xIx (pVar 4) (pVar 5)) (gCons (pVar 6) (gCons (pVar 7) gNil)))) gNil)))) gNil))))))) sNil)
    (sBar (sSeq (sIf (teP (pTest (pOp oEq (pVar 2) (pC (.int 3))))) (sRet (eFn [false, false, false] cf__law_put (aE (eMv 1) (aE (eMv 3) (aE (eFn [false, false, false] cf__law_put (aE (eMv 4) (aE (eMv 5) (aE (eFn [false, false, false] cf__law_put (aE (eP (pOp xIx (pVar 4) (pVar 5))) (aE (eMv 5) (aE (eFn [true, false] DCA.cf__law_dip (aPl 0 (aE (eP (pC (.int 1000))) aNil))) aNil)))) aNil)))) aNil))))) sNil)
    (sBar (sSeq (sIf (teP (pTest (pOp oEq (pVar 2) (pC (.int 4))))) (sRet (eFn [false, false, false] cf__law_put (aE (eMv 1) (aE (eMv 3) (aE (eFn [false, false, false] cf__law_put (aE (eMv 4) (aE (eMv 5) (aE (eFn [true, false] cf__law_cut (aPl 0 (aE (eP (pOp xIx (pVar 4) (pVar 5))) aNil))) aNil)))) aNil))))) sNil)
    (sBar (sSeq (sIf (teP (pTest (pOp oEq (pVar 2) (pC (.int 5))))) (sRet (eFn [false, false, false] cf__law_put (aE (eMv 1) (aE (eMv 3) (aE (eFn [true, false] cf__law_cut (aPl 0 (aE (eMv 4) aNil))) aNil))))) sNil)
    (sBar (sSeq (sIf (teP (pTest (pOp oEq (pVar 2) (pC (.int 6))))) (sRet (eOp xIx (eLst (aE (eFn [true, false] cf__law_cut (aPl 0 (aE (eMv 1) aNil))) (aE (eP (pFn cf__law_put (gCons (pVar 1) (gCons (pVar 3) (gCons (pOp xIx (pVar 1) (pOp oSub (pVar 3) (pC (.int 1)))) gNil))))) aNil))) (eFn [true, false] DCA.cf__law_dip (aPl 0 (aE (eP (pC (.int 2))) aNil))))) sNil)
    (sBar (sSeq (sIf (teP (pTest (pOp oEq (pVar 2) (pC (.int 7))))) (sRet (eFn [true] cf__law_others (aPl 0 aNil))) sNil)
    (sBar (sSeq (sIf (teP (pTest (pOp oEq (pVar 2) (pC (.int 8))))) (sRet (eFn [true, false, false] cf__law_odd_part (aPl 0 (aE (eMv 1) (aE (eMv 3) aNil))))) sNil)
    (sBar (sSeq (sIf (teP (pTest (pOp oLt (pVar 2) (pC (.int 11))))) (sRet (eFn [true, false, false] cf__law_other_size (aPl 0 (aE (eMv 1) (aE (eMv 3) aNil))))) sNil)
    (sBar (sRet (eFn [false, false, false] cf__law_put (aE (eMv 1) (aE (eMv 3) (aE (eFn [false, false, false] cf__law_put (aE (eMv 4) (aE (eMv 5) (aE (eFn [false, false, false] cf__law_put (aE (eP (pOp xIx (pVar 4) (pVar 5))) (aE (eMv 6) (aE (eFn [true] cf__law_nested (aPl 0 aNil)) aNil)))) aNil)))) aNil)))))))))))))))))))))))))))
@[irreducible] def cf__law_spoilt : CF := hid (cfOf 6 [true, false] sem__law_spoilt)
theorem cf__law_spoilt_eq : cf__law_spoilt = cfOf 6 [true, false] sem__law_spoilt := by unfold cf__law_spoilt; rw [hid_eq]
/- law(script); slots: 0 script, 1 bag, 2 job, 3 turn, 4 thing, 5 seen, 6 found -/
def sem_law : SF :=
  (sSeq (sSet 1 (eP (pFn DCA.cf__law_bag (gCons (pVar 0) gNil))))
    (sSeq (sSet 2 (eFn [true, false] DCA.cf__law_job (aPl 1 (aE (eP (pC (.int 8))) aNil))))
    (sSeq (sForX (jR1 (gCons (pC (.int 10)) gNil)) (gNm 3) (sSeq (sSet 4 (eFn [true, false] cf__law_spoilt (aPl 1 (aE (eMv 2) aNil))))
    (sSeq (sIf (teP (pTest (pOp oEq (pVar 3) (pC (.int 9))))) (sSet 4 (eMv 2)) sNil)
    (sBar (sSeq (sSet 5 (eP (pCall oReprM (gCons (pVar 4) gNil))))
    (sSeq (sSet 6 (eP (pFn DCF.cf_is_job (gCons (pVar 4) gNil))))
    (sIf (teP (tOr (tNot (pTest (pIsI .bool (pVar 6)))) (tOr (pTest (pOp oNe (pCall oReprM (gCons (pVar 4) gNil)) (pVar 5))) (pTest (pOp oNe (pVar 6) (pFn cf__law_is_job (gCons (pVar 4) gNil))))))) (sRet (eP (pC (.bl false)))) sNil)))))))
    (sRet (eP (pC (.bl true)))))))
@[irreducible] def cf_law : CF := hid (cfOf 6 [false] sem_law)
theorem cf_law_eq : cf_law = cfOf 6 [false] sem_law := by unfold cf_law; rw [hid_eq]
end
structure Facts (K : PySem.W.Frag) (mg : Str → Option Value) where
  f_is_number : Addr
  d_is_number : FuncData
  F_is_number : FnP K "is_number" "is_number" s_is_number f_is_number d_is_number
  g_is_number : mg "is_number" = some (.ref f_is_number)
  f_is_row : Addr
  d_is_row : FuncData
  F_is_row : FnP K "is_row" "is_row" s_is_row f_is_row d_is_row
  g_is_row : mg "is_row" = some (.ref f_is_row)
  f_is_square : Addr
  d_is_square : FuncData
  F_is_square : FnP K "is_square" "is_square" s_is_square f_is_square d_is_square
  g_is_square : mg "is_square" = some (.ref f_is_square)
  f_is_job : Addr
  d_is_job : FuncData
  F_is_job : FnP K "is_job" "is_job" s_is_job f_is_job d_is_job
  g_is_job : mg "is_job" = some (.ref f_is_job)
  f__law_bag : Addr
  d__law_bag : FuncData
  F__law_bag : FnP K "_law_bag" "_law_bag" s__law_bag f__law_bag d__law_bag
  g__law_bag : mg "_law_bag" = some (.ref f__law_bag)
  f__law_dip : Addr
  d__law_dip : FuncData
  F__law_dip : FnP K "_law_dip" "_law_dip" s__law_dip f__law_dip d__law_dip
  g__law_dip : mg "_law_dip" = some (.ref f__law_dip)
  f__law_entry : Addr
  d__law_entry : FuncData
  F__law_entry : FnP K "_law_entry" "_law_entry" s__law_entry f__law_entry d__law_entry
  g__law_entry : mg "_law_entry" = some (.ref f__law_entry)
  f__law_square : Addr
  d__law_square : FuncData
  F__law_square : FnP K "_law_square" "_law_square" s__law_square f__law_square d__law_square
  g__law_square : mg "_law_square" = some (.ref f__law_square)
  f__law_job : Addr
  d__law_job : FuncData
  F__law_job : FnP K "_law_job" "_law_job" s__law_job f__law_job d__law_job
  g__law_job : mg "_law_job" = some (.ref f__law_job)
  f__law_whole : Addr
  d__law_whole : FuncData
  F__law_whole : FnP K "_law_whole" "_law_whole" s__law_whole f__law_whole d__law_whole
  g__law_whole : mg "_law_whole" = some (.ref f__law_whole)
  f__law_is_square : Addr
  d__law_is_square : FuncData
  F__law_is_square : FnP K "_law_is_square" "_law_is_square" s__law_is_square f__law_is_square d__law_is_square
  g__law_is_square : mg "_law_is_square" = some (.ref f__law_is_square)
  f__law_is_job : Addr
  d__law_is_job : FuncData
  F__law_is_job : FnP K "_law_is_job" "_law_is_job" s__law_is_job f__law_is_job d__law_is_job
  g__law_is_job : mg "_law_is_job" = some (.ref f__law_is_job)
  f__law_put : Addr
  d__law_put : FuncData
  F__law_put : FnP K "_law_put" "_law_put" s__law_put f__law_put d__law_put
  g__law_put : mg "_law_put" = some (.ref f__law_put)
  f__law_odd : Addr
  d__law_odd : FuncData
  F__law_odd : FnP K "_law_odd" "_law_odd" s__law_odd f__law_odd d__law_odd
  g__law_odd : mg "_law_odd" = some (.ref f__law_odd)
  f__law_cut : Addr
  d__law_cut : FuncData
  F__law_cut : FnP K "_law_cut" "_law_cut" s__law_cut f__law_cut d__law_cut
  g__law_cut : mg "_law_cut" = some (.ref f__law_cut)
  f__law_others : Addr
  d__law_others : FuncData
  F__law_others : FnP K "_law_others" "_law_others" s__law_others f__law_others d__law_others
  g__law_others : mg "_law_others" = some (.ref f__law_others)
  f__law_nested : Addr
  d__law_nested : FuncData
  F__law_nested : FnP K "_law_nested" "_law_nested" s__law_nested f__law_nested d__law_nested
  g__law_nested : mg "_law_nested" = some (.ref f__law_nested)
  f__law_odd_part : Addr
  d__law_odd_part : FuncData
  F__law_odd_part : FnP K "_law_odd_part" "_law_odd_part" s__law_odd_part f__law_odd_part d__law_odd_part
  g__law_odd_part : mg "_law_odd_part" = some (.ref f__law_odd_part)
  f__law_other_size : Addr
  d__law_other_size : FuncData
  F__law_other_size : FnP K "_law_other_size" "_law_other_size" s__law_other_size f__law_other_size d__law_other_size
  g__law_other_size : mg "_law_other_size" = some (.ref f__law_other_size)
  f__law_spoilt : Addr
  d__law_spoilt : FuncData
  F__law_spoilt : FnP K "_law_spoilt" "_law_spoilt" s__law_spoilt f__law_spoilt d__law_spoilt
  g__law_spoilt : mg "_law_spoilt" = some (.ref f__law_spoilt)
  f_law : Addr
  d_law : FuncData
  F_law : FnP K "law" "law" s_law f_law d_law
  g_law : mg "law" = some (.ref f_law)
  i_MOST_COST : ∃ t, mg "MOST_COST" = some (.int 1000000 t)
  i_MOST_SENT : ∃ t, mg "MOST_SENT" = some (.int 999 t)
  i_MOST_WORKS : ∃ t, mg "MOST_WORKS" = some (.int 8 t)
  m_abs : mg "abs" = none
  m_all : mg "all" = none
  m_bool : mg "bool" = none
  m_dict : mg "dict" = none
  m_int : mg "int" = none
  m_isinstance : mg "isinstance" = none
  m_len : mg "len" = none
  m_list : mg "list" = none
  m_range : mg "range" = none
  m_repr : mg "repr" = none
  m_sum : mg "sum" = none
  m_tuple : mg "tuple" = none
  m_zip : mg "zip" = none
section
variable {P : Program} {w : World} {K : PySem.W.Frag} {mg : Str → Option Value} {base : Heap}
theorem ok_is_number (L : Facts K mg) : GOk P w K mg base CX0 1 L.f_is_number ["thing", "most"] (spOf K 2 [false, false] DCF.cf_is_number) := DCF.cf_is_number_eq ▸
  cf_okG L.F_is_number b_is_number sc_is_number rfl rfl fun cdv A outer s H E hr => have hN := (sc_is_number).nd
    (dss_one (ds_ret (de_p (dp_and (dp_isI .int (dp_var 0) (by rfl) L.m_isinstance (by rfl) L.m_int bt_int) (dp_and (dp_not (dp_isI .bool (dp_var 0) (by rfl) L.m_isinstance (by rfl) L.m_bool bt_bool)) (dp_one (dp_chain op_le op_le os_le os_le dp_int (dp_var 0) (dp_var 1))))))))
theorem ok_is_row (L : Facts K mg) : GOk P w K mg base CX0 2 L.f_is_row ["thing", "many", "most"] (spOf K 3 [false, false, false] DCF.cf_is_row) := DCF.cf_is_row_eq ▸
  cf_okG L.F_is_row b_is_row sc_is_row rfl rfl fun cdv A outer s H E hr => have hN := (sc_is_row).nd
    (dss_one (ds_ret (de_p (dp_and (dp_isI .tup (dp_var 0) (by rfl) L.m_isinstance (by rfl) L.m_tuple bt_tuple) (dp_and (dp_cmp (op_eqAll hr.units) os_eq (dp_callB call_len cs_len (by rfl) L.m_len bt_len (da_cons (dp_var 0) da_nil)) (dp_var 1) (by rfl)) (dp_one (dp_callB (cr_all (by rfl)) cs_all (by rfl) L.m_all bt_all (da_cons (DP.as (eq5 pLcX_eq _ _ _ _ _) (dp_lc (by rfl) hN (di_seq (dp_var 0)) (blkOk_by (own := [("one", 3)]) (by kernel_rfl)) (fun _ _ _ _ _ => (dg_name 3 hN)) (fun _ _ _ _ _ => dts_nil) (fun _ _ _ _ _ => (dp_callG (ok_is_number L) (hr.mono (by decide)) (by rfl) L.g_is_number L.F_is_number.kp pass0 (da_cons (dp_var 3) (da_cons (dp_var 2) da_nil)))))) da_nil))))))))
theorem ok_is_square (L : Facts K mg) : GOk P w K mg base CX0 3 L.f_is_square ["thing", "many", "most"] (spOf K 3 [false, false, false] DCF.cf_is_square) := DCF.cf_is_square_eq ▸
  cf_okG L.F_is_square b_is_square sc_is_square rfl rfl fun cdv A outer s H E hr => have hN := (sc_is_square).nd
    (dss_one (ds_ret (de_p (dp_and (dp_isI .tup (dp_var 0) (by rfl) L.m_isinstance (by rfl) L.m_tuple bt_tuple) (dp_and (dp_cmp (op_eqAll hr.units) os_eq (dp_callB call_len cs_len (by rfl) L.m_len bt_len (da_cons (dp_var 0) da_nil)) (dp_var 1) (by rfl)) (dp_one (dp_callB (cr_all (by rfl)) cs_all (by rfl) L.m_all bt_all (da_cons (DP.as (eq5 pLcX_eq _ _ _ _ _) (dp_lc (by rfl) hN (di_seq (dp_var 0)) (blkOk_by (own := [("row", 3)]) (by kernel_rfl)) (fun _ _ _ _ _ => (dg_name 3 hN)) (fun _ _ _ _ _ => dts_nil) (fun _ _ _ _ _ => (dp_callG (ok_is_row L) (hr.mono (by decide)) (by rfl) L.g_is_row L.F_is_row.kp pass0 (da_cons (dp_var 3) (da_cons (dp_var 1) (da_cons (dp_var 2) da_nil))))))) da_nil))))))))
theorem ok_is_job (L : Facts K mg) : GOk P w K mg base CX0 4 L.f_is_job ["thing"] (spOf K 1 [false] DCF.cf_is_job) := DCF.cf_is_job_eq ▸
  cf_okG L.F_is_job b_is_job sc_is_job rfl rfl fun cdv A outer s H E hr => have hN := (sc_is_job).nd
    (dss_cons (ds_if (dte_p (DW.dt (dw_or (dt_not (dt_val (dp_isI .tup (dp_var 0) (by rfl) L.m_isinstance (by rfl) L.m_tuple bt_tuple))) (dw_or (dt_cmp (op_neAll hr.units) os_ne (dp_callB call_len cs_len (by rfl) L.m_len bt_len (da_cons (dp_var 0) da_nil)) dp_int (by rfl)) (dw_or1 (dt_not (dt_val (dp_isI .tup (DP.as (eqIx _ _) (dp_ix (dp_var 0) dp_int)) (by rfl) L.m_isinstance (by rfl) L.m_tuple bt_tuple)))))))) (dss_one (ds_ret (de_p dp_bl))) dss_nil)
      (dss_cons (ds_set 1 hN (de_p (dp_callB call_len cs_len (by rfl) L.m_len bt_len (da_cons (DP.as (eqIx _ _) (dp_ix (dp_var 0) dp_int)) da_nil))))
      (dss_cons (ds_if (dte_p (DW.dt (dw_or (dt_not (dt_chain op_le op_le os_le os_le dp_int (dp_var 1) (dp_gint (by rfl) L.i_MOST_WORKS))) (dw_or1 (dt_not (dt_val (dp_callG (ok_is_square L) (hr.mono (by decide)) (by rfl) L.g_is_square L.F_is_square.kp pass0 (da_cons (DP.as (eqIx _ _) (dp_ix (dp_var 0) dp_int)) (da_cons (dp_var 1) (da_cons (dp_gint (by rfl) L.i_MOST_SENT) da_nil)))))))))) (dss_one (ds_ret (de_p dp_bl))) dss_nil)
      (dss_cons (ds_if (dte_p (DW.dt (dw_or (dt_not (dt_val (dp_callG (ok_is_square L) (hr.mono (by decide)) (by rfl) L.g_is_square L.F_is_square.kp pass0 (da_cons (DP.as (eqIx _ _) (dp_ix (dp_var 0) dp_int)) (da_cons (dp_var 1) (da_cons (dp_gint (by rfl) L.i_MOST_SENT) da_nil)))))) (dw_or1 (dt_not (dt_val (dp_callG (ok_is_square L) (hr.mono (by decide)) (by rfl) L.g_is_square L.F_is_square.kp pass0 (da_cons (DP.as (eqIx _ _) (dp_ix (dp_var 0) dp_int)) (da_cons (dp_var 1) (da_cons (dp_gint (by rfl) L.i_MOST_COST) da_nil)))))))))) (dss_one (ds_ret (de_p dp_bl))) dss_nil)
      (dss_one (ds_ret (de_p (dp_callB (cr_all (by rfl)) cs_all (by rfl) L.m_all bt_all (da_cons (DP.as (eq5 pLcX_eq _ _ _ _ _) (dp_lc (by rfl) hN (DI.as (eq1 jR1_eq _) (di_range1 (by rfl) L.m_range (da_cons (dp_var 1) da_nil))) (blkOk_by (own := [("k", 2)]) (by kernel_rfl)) (fun _ _ _ _ _ => (dg_name 2 hN)) (fun _ _ _ _ _ => dts_nil) (fun _ _ _ _ _ => (dp_and (dp_cmp (op_eqAll hr.units) os_eq (DP.as (eqIx _ _) (dp_ix (DP.as (eqIx _ _) (dp_ix (DP.as (eqIx _ _) (dp_ix (dp_var 0) dp_int)) (dp_var 2))) (dp_var 2))) dp_int (by rfl)) (dp_one (dp_cmp (op_eqAll hr.units) os_eq (DP.as (eqIx _ _) (dp_ix (DP.as (eqIx _ _) (dp_ix (DP.as (eqIx _ _) (dp_ix (dp_var 0) dp_int)) (dp_var 2))) (dp_var 2))) dp_int (by rfl))))))) da_nil)))))))))
theorem ok__law_bag (L : Facts K mg) : GOk P w K mg base CX0 1 L.f__law_bag ["script"] (spOf K 1 [false] DCA.cf__law_bag) := DCA.cf__law_bag_eq ▸
  cf_okG L.F__law_bag b__law_bag sc__law_bag rfl rfl fun cdv A outer s H E hr => have hN := (sc__law_bag).nd
    (dss_cons (ds_set 1 hN (de_p dp_int))
      (dss_cons (DS.as (eq3 sForX_eq _ _ _) (ds_for PassesOwn.never (by rfl) (di_seq (dp_var 0)) (dg_name 2 hN) (dss_one (ds_set 1 hN (de_p (dp_op op_mod os_mod (dp_op op_addAll os_add (dp_op op_mulAll os_mul (dp_var 1) dp_int) (dp_var 2)) dp_int))))))
      (dss_one (ds_ret (de_p (dp_lst (da_cons (dp_callTy call_list_of cs_list (by rfl) L.m_list bt_list (da_cons (dp_var 0) da_nil)) (da_cons dp_int (da_cons (dp_var 1) da_nil)))))))))
theorem ok__law_dip (L : Facts K mg) : GOk P w K mg base CX0 1 L.f__law_dip ["bag", "many"] (spOf K 2 [true, false] DCA.cf__law_dip) := DCA.cf__law_dip_eq ▸
  cf_okG L.F__law_dip b__law_dip sc__law_dip rfl rfl fun cdv A outer s H E hr => have hN := (sc__law_dip).nd
    (dss_cons (ds_if (dte_p (DW.dt (dw_and (dt_cmp (op_eqAll hr.units) os_eq (DP.as (eqIx _ _) (dp_ix (dp_var 0) dp_int)) dp_int (by rfl)) (dw_and1 (dt_cmp op_gt os_gt (dp_callB call_len cs_len (by rfl) L.m_len bt_len (da_cons (DP.as (eqIx _ _) (dp_ix (dp_var 0) dp_int)) da_nil)) dp_int (by rfl)))))) (dss_cons (ds_set 2 hN (de_mthP PySem.F.plainAttrs_list PySem.F.slot_list_pop PySem.F.type_list_pop mt_popAt xs_popAt (DPl.as (eq2 plIxX_eq _ _) (dpl_ix (dpl_var 0) dp_int)) (da_cons dp_int da_nil)))
      (dss_cons (ds_if (dte_p (dt_cmp op_lt os_lt (dp_callB call_abs cs_abs (by rfl) L.m_abs bt_abs (da_cons (dp_var 2) da_nil)) (dp_op op_pow os_pow dp_int dp_int) (by rfl))) (dss_one (ds_ret (de_p (dp_op op_mod os_mod (dp_var 2) (dp_var 1))))) dss_nil)
      (dss_one (DS.as (eq3 sStIxX_eq _ _ _) (ds_stIx (de_p (dp_callB call_abs cs_abs (by rfl) L.m_abs bt_abs (da_cons (dp_var 2) da_nil))) (dpl_var 0) dp_int))))) dss_nil)
      (dss_cons (ds_if (dte_p (dt_cmp op_gt os_gt (DP.as (eqIx _ _) (dp_ix (dp_var 0) dp_int)) dp_int (by rfl))) (dss_cons (ds_set 3 hN (de_p (dp_op op_mod os_mod (DP.as (eqIx _ _) (dp_ix (dp_var 0) dp_int)) (dp_var 1))))
      (dss_cons (DS.as (eq3 sStIxX_eq _ _ _) (ds_stIx (de_p (dp_op op_fdivA os_fdiv (DP.as (eqIx _ _) (dp_ix (dp_var 0) dp_int)) (dp_var 1))) (dpl_var 0) dp_int))
      (dss_one (ds_ret (de_mv 3))))) dss_nil)
      (dss_cons (DS.as (eq3 sStIxX_eq _ _ _) (ds_stIx (de_p (dp_op op_mod os_mod (dp_op op_addAll os_add (dp_op op_mulAll os_mul (DP.as (eqIx _ _) (dp_ix (dp_var 0) dp_int)) (DP.as (eqIx _ _) (dp_ix (dp_var 0) dp_int))) dp_int) dp_int)) (dpl_var 0) dp_int))
      (dss_one (ds_ret (de_p (dp_op op_mod os_mod (dp_op op_fdivA os_fdiv (DP.as (eqIx _ _) (dp_ix (dp_var 0) dp_int)) dp_int) (dp_var 1))))))))
theorem ok__law_entry (L : Facts K mg) : GOk P w K mg base CX0 2 L.f__law_entry ["bag", "kind", "most"] (spOf K 3 [true, false, false] DCA.cf__law_entry) := DCA.cf__law_entry_eq ▸
  cf_okG L.F__law_entry b__law_entry sc__law_entry rfl rfl fun cdv A outer s H E hr => have hN := (sc__law_entry).nd
    (dss_cons (ds_if (dte_p (dt_cmp (op_eqAll hr.units) os_eq (dp_var 1) dp_int (by rfl))) (dss_one (ds_ret (de_callG (ok__law_dip L) (hr.mono (by decide)) (by rfl) L.g__law_dip L.F__law_dip.kp pass0 (dae_pl 0 (dae_e (de_p (dp_op op_addAll os_add (dp_var 2) dp_int)) dae_nil))))) dss_nil)
      (dss_cons (ds_if (dte_p (dt_cmp (op_eqAll hr.units) os_eq (dp_var 1) dp_int (by rfl))) (dss_one (ds_ret (de_callG (ok__law_dip L) (hr.mono (by decide)) (by rfl) L.g__law_dip L.F__law_dip.kp pass0 (dae_pl 0 (dae_e (de_p dp_int) dae_nil))))) dss_nil)
      (dss_cons (ds_if (dte_p (dt_cmp (op_eqAll hr.units) os_eq (dp_var 1) dp_int (by rfl))) (dss_one (ds_ret (de_op op_mulAll os_mul (de_mv 2) (de_callG (ok__law_dip L) (hr.mono (by decide)) (by rfl) L.g__law_dip L.F__law_dip.kp pass0 (dae_pl 0 (dae_e (de_p dp_int) dae_nil)))))) dss_nil)
      (dss_one (ds_ret (de_op op_mulAll os_mul (de_callG (ok__law_dip L) (hr.mono (by decide)) (by rfl) L.g__law_dip L.F__law_dip.kp pass0 (dae_pl 0 (dae_e (de_p dp_int) dae_nil))) (de_callTy call_int1 cs_int (by rfl) L.m_int bt_int (dae_e (de_cmp (op_eqAll hr.units) os_eq (de_callG (ok__law_dip L) (hr.mono (by decide)) (by rfl) L.g__law_dip L.F__law_dip.kp pass0 (dae_pl 0 (dae_e (de_p dp_int) dae_nil))) (de_p dp_int) (by rfl)) dae_nil))))))))
theorem ok__law_square (L : Facts K mg) : GOk P w K mg base CX0 3 L.f__law_square ["bag", "many", "most", "bare"] (spOf K 4 [true, false, false, false] DCA.cf__law_square) := DCA.cf__law_square_eq ▸
  cf_okG L.F__law_square b__law_square sc__law_square rfl rfl fun cdv A outer s H E hr => have hN := (sc__law_square).nd
    (dss_cons (ds_set 4 hN (de_callG (ok__law_dip L) (hr.mono (by decide)) (by rfl) L.g__law_dip L.F__law_dip.kp pass0 (dae_pl 0 (dae_e (de_p dp_int) dae_nil))))
      (dss_cons (ds_set 5 hN (de_p (dp_lst da_nil)))
      (dss_cons (DS.as (eq3 sForX_eq _ _ _) (ds_for PassesOwn.never (by rfl) (DI.as (eq1 jR1_eq _) (di_range1 (by rfl) L.m_range (da_cons (dp_var 1) da_nil))) (dg_name 6 hN) (dss_cons (DS.as (eqSetLcE _ _ _ _ _ _) (ds_setLcE (E' := E) 7 (by rfl) hN (by decide) (by rfl) (by rfl) (sw_true (by rfl) (by rfl) (by rfl) (by decide +kernel)) (DI.as (eq1 jR1_eq _) (di_range1 (by rfl) L.m_range (da_cons (dp_var 1) da_nil))) (blkOk_by (own := [("j", 8)]) (by kernel_rfl)) (fun _ _ _ _ _ => (dg_name 8 hN)) (fun _ _ _ _ _ => dts_nil) (fun _ _ _ _ _ => (de_callG (ok__law_entry L) (hr.mono (by decide)) (by rfl) L.g__law_entry L.F__law_entry.kp pass0 (dae_pl 0 (dae_e (de_mv 4) (dae_e (de_mv 2) dae_nil)))))))
      (dss_cons (DS.as (eq3 sStIxX_eq _ _ _) (ds_stIx (de_p (dp_op op_mulAll os_mul (DP.as (eqIx _ _) (dp_ix (dp_var 7) (dp_var 6))) (dp_callTy call_int1 cs_int (by rfl) L.m_int bt_int (da_cons (dp_not (dp_var 3)) da_nil)))) (dpl_var 7) (dp_var 6)))
      (dss_one (ds_expr (de_mthR PySem.F.plainAttrs_list PySem.F.slot_list_append PySem.F.type_list_append mt_append ms_append 5 (dae_e (de_p (dp_callTy call_tuple_of cs_tuple (by rfl) L.m_tuple bt_tuple (da_cons (dp_var 7) da_nil))) dae_nil))))))))
      (dss_one (ds_ret (de_p (dp_callTy call_tuple_of cs_tuple (by rfl) L.m_tuple bt_tuple (da_cons (dp_var 5) da_nil))))))))
theorem ok__law_job (L : Facts K mg) : GOk P w K mg base CX0 4 L.f__law_job ["bag", "most"] (spOf K 2 [true, false] DCA.cf__law_job) := DCA.cf__law_job_eq ▸
  cf_okG L.F__law_job b__law_job sc__law_job rfl rfl fun cdv A outer s H E hr => have hN := (sc__law_job).nd
    (dss_cons (ds_set 2 hN (de_op op_addAll os_add (de_p dp_int) (de_callG (ok__law_dip L) (hr.mono (by decide)) (by rfl) L.g__law_dip L.F__law_dip.kp pass0 (dae_pl 0 (dae_e (de_mv 1) dae_nil)))))
      (dss_cons (ds_set 3 hN (de_callG (ok__law_square L) (hr.mono (by decide)) (by rfl) L.g__law_square L.F__law_square.kp pass0 (dae_pl 0 (dae_e (de_mv 2) (dae_e (de_p dp_int) (dae_e (de_p dp_bl) dae_nil))))))
      (dss_cons (ds_set 4 hN (de_callG (ok__law_square L) (hr.mono (by decide)) (by rfl) L.g__law_square L.F__law_square.kp pass0 (dae_pl 0 (dae_e (de_mv 2) (dae_e (de_p dp_int) (dae_e (de_p dp_bl) dae_nil))))))
      (dss_one (ds_ret (de_tup (dae_e (de_mv 3) (dae_e (de_mv 4) (dae_e (de_callG (ok__law_square L) (hr.mono (by decide)) (by rfl) L.g__law_square L.F__law_square.kp pass0 (dae_pl 0 (dae_e (de_mv 2) (dae_e (de_p dp_int) (dae_e (de_p dp_bl) dae_nil))))) dae_nil)))))))))
theorem ok__law_whole (L : Facts K mg) : GOk P w K mg base CX0 1 L.f__law_whole ["thing", "most"] (spOf K 2 [false, false] cf__law_whole) := cf__law_whole_eq ▸
  cf_okG L.F__law_whole b__law_whole sc__law_whole rfl rfl fun cdv A outer s H E hr => have hN := (sc__law_whole).nd
    (dss_one (ds_ret (de_p (dp_and (dp_isI .int (dp_var 0) (by rfl) L.m_isinstance (by rfl) L.m_int bt_int) (dp_and (dp_not (dp_isI .bool (dp_var 0) (by rfl) L.m_isinstance (by rfl) L.m_bool bt_bool)) (dp_one (dp_chain op_le op_le os_le os_le dp_int (dp_var 0) (dp_var 1))))))))
theorem ok__law_is_square (L : Facts K mg) : GOk P w K mg base CX0 2 L.f__law_is_square ["thing", "many", "most"] (spOf K 3 [false, false, false] cf__law_is_square) := cf__law_is_square_eq ▸
  cf_okG L.F__law_is_square b__law_is_square sc__law_is_square rfl rfl fun cdv A outer s H E hr => have hN := (sc__law_is_square).nd
    (dss_cons (ds_if (dte_p (DW.dt (dw_or (dt_not (dt_val (dp_isI .tup (dp_var 0) (by rfl) L.m_isinstance (by rfl) L.m_tuple bt_tuple))) (dw_or1 (dt_cmp (op_neAll hr.units) os_ne (dp_callB call_len cs_len (by rfl) L.m_len bt_len (da_cons (dp_var 0) da_nil)) (dp_var 1) (by rfl)))))) (dss_one (ds_ret (de_p dp_bl))) dss_nil)
      (dss_cons (DS.as (eq3 sForX_eq _ _ _) (ds_for PassesOwn.never (by rfl) (di_seq (dp_var 0)) (dg_name 3 hN) (dss_one (ds_if (dte_p (DW.dt (dw_or (dt_not (dt_val (dp_isI .tup (dp_var 3) (by rfl) L.m_isinstance (by rfl) L.m_tuple bt_tuple))) (dw_or (dt_cmp (op_neAll hr.units) os_ne (dp_callB call_len cs_len (by rfl) L.m_len bt_len (da_cons (dp_var 3) da_nil)) (dp_var 1) (by rfl)) (dw_or1 (dt_cmp (op_neN hr.units) os_neN (DP.as (eq5 pLcX_eq _ _ _ _ _) (dp_lc (by rfl) hN (di_seq (dp_var 3)) (blkOk_by (own := [("one", 4)]) (by kernel_rfl)) (fun _ _ _ _ _ => (dg_name 4 hN)) (fun _ _ _ _ _ => (dts_one (dt_not (dt_val (dp_callG (ok__law_whole L) (hr.mono (by decide)) (by rfl) L.g__law_whole L.F__law_whole.kp pass0 (da_cons (dp_var 4) (da_cons (dp_var 2) da_nil))))))) (fun _ _ _ _ _ => (dp_var 4)))) (dp_lst da_nil) (by rfl))))))) (dss_one (ds_ret (de_p dp_bl))) dss_nil))))
      (dss_one (ds_ret (de_p dp_bl)))))
theorem ok__law_is_job (L : Facts K mg) : GOk P w K mg base CX0 3 L.f__law_is_job ["thing"] (spOf K 1 [false] cf__law_is_job) := cf__law_is_job_eq ▸
  cf_okG L.F__law_is_job b__law_is_job sc__law_is_job rfl rfl fun cdv A outer s H E hr => have hN := (sc__law_is_job).nd
    (dss_cons (ds_if (dte_p (DW.dt (dw_or (dt_not (dt_val (dp_isI .tup (dp_var 0) (by rfl) L.m_isinstance (by rfl) L.m_tuple bt_tuple))) (dw_or (dt_cmp (op_neAll hr.units) os_ne (dp_callB call_len cs_len (by rfl) L.m_len bt_len (da_cons (dp_var 0) da_nil)) dp_int (by rfl)) (dw_or1 (dt_not (dt_val (dp_isI .tup (DP.as (eqIx _ _) (dp_ix (dp_var 0) dp_int)) (by rfl) L.m_isinstance (by rfl) L.m_tuple bt_tuple)))))))) (dss_one (ds_ret (de_p dp_bl))) dss_nil)
      (dss_cons (ds_set 1 hN (de_p (dp_callB call_len cs_len (by rfl) L.m_len bt_len (da_cons (DP.as (eqIx _ _) (dp_ix (dp_var 0) dp_int)) da_nil))))
      (dss_cons (DS.as (eq3 sForX_eq _ _ _) (ds_for PassesOwn.never (by rfl) (di_zipB (by rfl) L.m_zip (da_cons (dp_var 0) (da_cons (dp_lst (da_cons dp_int (da_cons dp_int (da_cons dp_int da_nil)))) da_nil))) (dg_tup (by rfl) (dgs_cons (dg_name 2 hN) (dgs_cons (dg_name 3 hN) dgs_nil))) (dss_one (ds_if (dte_p (dt_not (dt_val (dp_callG (ok__law_is_square L) (hr.mono (by decide)) (by rfl) L.g__law_is_square L.F__law_is_square.kp pass0 (da_cons (dp_var 2) (da_cons (dp_var 1) (da_cons (dp_var 3) da_nil))))))) (dss_one (ds_ret (de_p dp_bl))) dss_nil))))
      (dss_cons (DS.as (eqSetLc _ _ _ _ _ _) (ds_setLc 4 (by rfl) hN (by decide) (by rfl) (by rfl) (sw_true (by rfl) (by rfl) (by rfl) (by decide +kernel)) (DI.as (eq1 jR1_eq _) (di_range1 (by rfl) L.m_range (da_cons (dp_var 1) da_nil))) (blkOk_by (own := [("k", 5)]) (by kernel_rfl)) (fun _ _ _ _ _ => (dg_name 5 hN)) (fun _ _ _ _ _ => dts_nil) (fun _ _ _ _ _ => (dp_op op_addAll os_add (DP.as (eqIx _ _) (dp_ix (DP.as (eqIx _ _) (dp_ix (DP.as (eqIx _ _) (dp_ix (dp_var 0) dp_int)) (dp_var 5))) (dp_var 5))) (DP.as (eqIx _ _) (dp_ix (DP.as (eqIx _ _) (dp_ix (DP.as (eqIx _ _) (dp_ix (dp_var 0) dp_int)) (dp_var 5))) (dp_var 5)))))))
      (dss_one (ds_ret (de_p (dp_and (dp_chain op_lt op_lt os_lt os_lt dp_int (dp_var 1) dp_int) (dp_one (dp_cmp (op_eqAll hr.units) os_eq (dp_callB (cr_sum (by rfl)) cs_sum (by rfl) L.m_sum bt_sum (da_cons (dp_var 4) da_nil)) dp_int (by rfl)))))))))))
theorem ok__law_put (L : Facts K mg) : GOk P w K mg base CX0 1 L.f__law_put ["some", "at", "other"] (spOf K 3 [false, false, false] cf__law_put) := cf__law_put_eq ▸
  cf_okG L.F__law_put b__law_put sc__law_put rfl rfl fun cdv A outer s H E hr => have hN := (sc__law_put).nd
    (dss_one (ds_ret (de_p (dp_op op_addAll os_add (dp_op op_addAll os_add (dp_sl (dp_var 0) do_none (do_some (dp_var 1))) (dp_tup (da_cons (dp_var 2) da_nil))) (dp_sl (dp_var 0) (do_some (dp_op op_addAll os_add (dp_var 1) dp_int)) do_none)))))
theorem ok__law_odd (L : Facts K mg) : GOk P w K mg base CX0 2 L.f__law_odd ["bag", "most"] (spOf K 2 [true, false] cf__law_odd) := cf__law_odd_eq ▸
  cf_okG L.F__law_odd b__law_odd sc__law_odd rfl rfl fun cdv A outer s H E hr => have hN := (sc__law_odd).nd
    (dss_cons (ds_set 2 hN (de_op op_addAll os_add (de_p (dp_op op_pow os_pow dp_int dp_int)) (de_callG (ok__law_dip L) (hr.mono (by decide)) (by rfl) L.g__law_dip L.F__law_dip.kp pass0 (dae_pl 0 (dae_e (de_p (dp_op op_pow os_pow dp_int dp_int)) dae_nil)))))
      (dss_cons (ds_set 3 hN (de_p (dp_lst (da_cons (dp_op op_addAll os_add (dp_var 1) dp_int) (da_cons (dp_un un_neg us_neg dp_int) (da_cons (dp_var 2) (da_cons (dp_un un_neg us_neg (dp_var 2)) (da_cons dp_bl (da_cons dp_bl (da_cons dp_non (da_cons dp_str (da_cons (dp_tup (da_cons dp_int da_nil)) (da_cons (dp_lk (dp_lst (da_cons dp_int da_nil))) (da_cons dp_lckD (da_cons (dp_var 1) da_nil)))))))))))))))
      (dss_one (ds_ret (DE.as (eq2 eIxSX_eq _ _) (de_ixS 3 (de_callG (ok__law_dip L) (hr.mono (by decide)) (by rfl) L.g__law_dip L.F__law_dip.kp pass0 (dae_pl 0 (dae_e (de_p dp_int) dae_nil)))))))))
theorem ok__law_cut (L : Facts K mg) : GOk P w K mg base CX0 2 L.f__law_cut ["bag", "some"] (spOf K 2 [true, false] cf__law_cut) := cf__law_cut_eq ▸
  cf_okG L.F__law_cut b__law_cut sc__law_cut rfl rfl fun cdv A outer s H E hr => have hN := (sc__law_cut).nd
    (dss_cons (ds_set 2 hN (de_callG (ok__law_dip L) (hr.mono (by decide)) (by rfl) L.g__law_dip L.F__law_dip.kp pass0 (dae_pl 0 (dae_e (de_p (dp_callB call_len cs_len (by rfl) L.m_len bt_len (da_cons (dp_var 1) da_nil))) dae_nil))))
      (dss_one (ds_ret (de_ix (de_p (dp_lst (da_cons (dp_op op_addAll os_add (dp_sl (dp_var 1) do_none (do_some (dp_var 2))) (dp_sl (dp_var 1) (do_some (dp_op op_addAll os_add (dp_var 2) dp_int)) do_none)) (da_cons (dp_op op_addAll os_add (dp_op op_addAll os_add (dp_sl (dp_var 1) do_none (do_some (dp_var 2))) (dp_sl (dp_var 1) (do_some (dp_var 2)) (do_some (dp_op op_addAll os_add (dp_var 2) dp_int)))) (dp_sl (dp_var 1) (do_some (dp_var 2)) do_none)) (da_cons (dp_lk (dp_callTy call_list_of cs_list (by rfl) L.m_list bt_list (da_cons (dp_var 1) da_nil))) da_nil))))) (de_callG (ok__law_dip L) (hr.mono (by decide)) (by rfl) L.g__law_dip L.F__law_dip.kp pass0 (dae_pl 0 (dae_e (de_p dp_int) dae_nil)))))))
theorem ok__law_others (L : Facts K mg) : GOk P w K mg base CX0 2 L.f__law_others ["bag"] (spOf K 1 [true] cf__law_others) := cf__law_others_eq ▸
  cf_okG L.F__law_others b__law_others sc__law_others rfl rfl fun cdv A outer s H E hr => have hN := (sc__law_others).nd
    (dss_cons (ds_set 1 hN (de_callG (ok__law_dip L) (hr.mono (by decide)) (by rfl) L.g__law_dip L.F__law_dip.kp pass0 (dae_pl 0 (dae_e (de_p dp_int) dae_nil))))
      (dss_cons (ds_set 2 hN (de_op op_addAll os_add (de_p dp_int) (de_callG (ok__law_dip L) (hr.mono (by decide)) (by rfl) L.g__law_dip L.F__law_dip.kp pass0 (dae_pl 0 (dae_e (de_p dp_int) dae_nil)))))
      (dss_cons (ds_set 3 hN (de_p (dp_op op_mulAll os_mul (dp_tup (da_cons (dp_op op_mulAll os_mul (dp_tup (da_cons dp_int da_nil)) (dp_var 2)) da_nil)) (dp_var 2))))
      (dss_one (ds_ret (de_p (DP.as (eqIx _ _) (dp_ix (dp_lst (da_cons dp_non (da_cons dp_bl (da_cons dp_int (da_cons dp_int (da_cons dp_str (da_cons dp_str (da_cons (dp_tup da_nil) (da_cons (dp_lk (dp_lst da_nil)) (da_cons dp_lckD (da_cons (dp_tup (da_cons (dp_tup da_nil) (da_cons (dp_tup da_nil) (da_cons (dp_tup da_nil) da_nil)))) (da_cons (dp_tup (da_cons (dp_var 3) (da_cons (dp_var 3) (da_cons (dp_var 3) da_nil)))) (da_cons (dp_tup (da_cons dp_non (da_cons dp_non (da_cons dp_non da_nil)))) (da_cons (dp_tup (da_cons (dp_tup (da_cons dp_int da_nil)) (da_cons (dp_tup (da_cons dp_int da_nil)) (da_cons (dp_tup (da_cons dp_int da_nil)) da_nil)))) da_nil)))))))))))))) (dp_var 1)))))))))
theorem ok__law_nested (L : Facts K mg) : GOk P w K mg base CX0 2 L.f__law_nested ["bag"] (spOf K 1 [true] cf__law_nested) := cf__law_nested_eq ▸
  cf_okG L.F__law_nested b__law_nested sc__law_nested rfl rfl fun cdv A outer s H E hr => have hN := (sc__law_nested).nd
    (dss_cons (ds_set 1 hN (de_callG (ok__law_dip L) (hr.mono (by decide)) (by rfl) L.g__law_dip L.F__law_dip.kp pass0 (dae_pl 0 (dae_e (de_p dp_int) dae_nil))))
      (dss_cons (ds_forRE PassesOwn.never (by rfl) (by rfl) L.m_range (de_op op_addAll os_add (de_p dp_int) (de_callG (ok__law_dip L) (hr.mono (by decide)) (by rfl) L.g__law_dip L.F__law_dip.kp pass0 (dae_pl 0 (dae_e (de_p dp_int) dae_nil)))) (dg_name 2 hN) (dss_one (ds_set 1 hN (de_ix (de_p (dp_lst (da_cons (dp_tup (da_cons (dp_var 1) da_nil)) (da_cons (dp_lk (dp_lst (da_cons (dp_var 1) da_nil))) da_nil)))) (de_callG (ok__law_dip L) (hr.mono (by decide)) (by rfl) L.g__law_dip L.F__law_dip.kp pass0 (dae_pl 0 (dae_e (de_p dp_int) dae_nil)))))))
      (dss_one (ds_ret (de_mv 1)))))
theorem ok__law_odd_part (L : Facts K mg) : GOk P w K mg base CX0 2 L.f__law_odd_part ["bag", "job", "which"] (spOf K 3 [true, false, false] cf__law_odd_part) := cf__law_odd_part_eq ▸
  cf_okG L.F__law_odd_part b__law_odd_part sc__law_odd_part rfl rfl fun cdv A outer s H E hr => have hN := (sc__law_odd_part).nd
    (dss_cons (ds_set 3 hN (de_p (DP.as (eqIx _ _) (dp_ix (dp_var 1) (dp_var 2)))))
      (dss_cons (ds_set 4 hN (de_callG (ok__law_dip L) (hr.mono (by decide)) (by rfl) L.g__law_dip L.F__law_dip.kp pass0 (dae_pl 0 (dae_e (de_p dp_int) dae_nil))))
      (dss_cons (ds_set 5 hN (de_p (DP.as (eqIx _ _) (dp_ix (dp_lst (da_cons dp_non (da_cons dp_int (da_cons dp_str (da_cons dp_lckD (da_cons (dp_callTy (call_dictO (by rfl)) cs_dictO (by rfl) L.m_dict bt_dict (da_cons (DP.as (eq5 pLcX_eq _ _ _ _ _) (dp_lc (by rfl) hN (DI.as (eq1 jR1_eq _) (di_range1 (by rfl) L.m_range (da_cons (dp_callB call_len cs_len (by rfl) L.m_len bt_len (da_cons (dp_var 3) da_nil)) da_nil))) (blkOk_by (own := [("at", 6)]) (by kernel_rfl)) (fun _ _ _ _ _ => (dg_name 6 hN)) (fun _ _ _ _ _ => dts_nil) (fun _ _ _ _ _ => (dp_tup (da_cons (dp_var 6) (da_cons dp_int da_nil)))))) da_nil)) (da_cons (dp_tup da_nil) da_nil))))))) (dp_op op_fdivA os_fdiv (dp_var 4) dp_int)))))
      (dss_cons (ds_if (dte_p (dt_cmp (op_eqAll hr.units) os_eq (dp_op op_mod os_mod (dp_var 4) dp_int) dp_int (by rfl))) (dss_one (ds_ret (de_p (dp_callG (ok__law_put L) (hr.mono (by decide)) (by rfl) L.g__law_put L.F__law_put.kp pass0 (da_cons (dp_var 1) (da_cons (dp_var 2) (da_cons (dp_var 5) da_nil))))))) dss_nil)
      (dss_one (ds_ret (de_callG (ok__law_put L) (hr.mono (by decide)) (by rfl) L.g__law_put L.F__law_put.kp pass0 (dae_e (de_mv 1) (dae_e (de_mv 2) (dae_e (de_callG (ok__law_put L) (hr.mono (by decide)) (by rfl) L.g__law_put L.F__law_put.kp pass0 (dae_e (de_mv 3) (dae_e (de_callG (ok__law_dip L) (hr.mono (by decide)) (by rfl) L.g__law_dip L.F__law_dip.kp pass0 (dae_pl 0 (dae_e (de_p (dp_callB call_len cs_len (by rfl) L.m_len bt_len (da_cons (dp_var 3) da_nil))) dae_nil))) (dae_e (de_mv 5) dae_nil)))) dae_nil))))))))))
theorem ok__law_other_size (L : Facts K mg) : GOk P w K mg base CX0 5 L.f__law_other_size ["bag", "job", "which"] (spOf K 3 [true, false, false] cf__law_other_size) := cf__law_other_size_eq ▸
  cf_okG L.F__law_other_size b__law_other_size sc__law_other_size rfl rfl fun cdv A outer s H E hr => have hN := (sc__law_other_size).nd
    (dss_cons (ds_set 3 hN (de_callG (ok__law_dip L) (hr.mono (by decide)) (by rfl) L.g__law_dip L.F__law_dip.kp pass0 (dae_pl 0 (dae_e (de_p dp_int) dae_nil))))
      (dss_cons (ds_set 4 hN (de_p (DP.as (eqIx _ _) (dp_ix (dp_var 1) (dp_var 2)))))
      (dss_cons (ds_if (dte_p (dt_cmp (op_eqAll hr.units) os_eq (dp_var 3) dp_int (by rfl))) (dss_one (ds_ret (de_p (dp_callG (ok__law_put L) (hr.mono (by decide)) (by rfl) L.g__law_put L.F__law_put.kp pass0 (da_cons (dp_var 1) (da_cons (dp_var 2) (da_cons (dp_op op_addAll os_add (dp_callTy call_tuple_of cs_tuple (by rfl) L.m_tuple bt_tuple (da_cons (DP.as (eq5 pLcX_eq _ _ _ _ _) (dp_lc (by rfl) hN (di_seq (dp_var 4)) (blkOk_by (own := [("row", 6)]) (by kernel_rfl)) (fun _ _ _ _ _ => (dg_name 6 hN)) (fun _ _ _ _ _ => dts_nil) (fun _ _ _ _ _ => (dp_op op_addAll os_add (dp_var 6) (dp_tup (da_cons dp_int da_nil)))))) da_nil)) (dp_tup (da_cons (dp_op op_mulAll os_mul (dp_tup (da_cons dp_int da_nil)) (dp_op op_addAll os_add (dp_callB call_len cs_len (by rfl) L.m_len bt_len (da_cons (dp_var 4) da_nil)) dp_int)) da_nil))) da_nil))))))) dss_nil)
      (dss_cons (ds_if (dte_p (dt_cmp (op_eqAll hr.units) os_eq (dp_var 3) dp_int (by rfl))) (dss_one (ds_ret (de_p (dp_callG (ok__law_put L) (hr.mono (by decide)) (by rfl) L.g__law_put L.F__law_put.kp pass0 (da_cons (dp_var 1) (da_cons (dp_var 2) (da_cons (dp_callTy call_tuple_of cs_tuple (by rfl) L.m_tuple bt_tuple (da_cons (DP.as (eq5 pLcX_eq _ _ _ _ _) (dp_lc (by rfl) hN (di_seq (dp_sl (dp_var 4) do_none (do_some (dp_un un_neg us_neg dp_int)))) (blkOk_by (own := [("row", 6)]) (by kernel_rfl)) (fun _ _ _ _ _ => (dg_name 6 hN)) (fun _ _ _ _ _ => dts_nil) (fun _ _ _ _ _ => (dp_sl (dp_var 6) do_none (do_some (dp_un un_neg us_neg dp_int)))))) da_nil)) da_nil))))))) dss_nil)
      (dss_cons (ds_set 5 hN (de_callG (ok__law_job L) (hr.mono (by decide)) (by rfl) L.g__law_job L.F__law_job.kp pass0 (dae_pl 0 (dae_e (de_p dp_int) dae_nil))))
      (dss_one (ds_ret (de_p (DP.as (eqIx _ _) (dp_ix (dp_lst (da_cons (dp_callG (ok__law_put L) (hr.mono (by decide)) (by rfl) L.g__law_put L.F__law_put.kp pass0 (da_cons (dp_var 1) (da_cons (dp_var 2) (da_cons (DP.as (eqIx _ _) (dp_ix (dp_var 5) (dp_var 2))) da_nil)))) (da_cons (dp_op op_addAll os_add (dp_sl (dp_var 5) do_none (do_some (dp_var 2))) (dp_sl (dp_var 1) (do_some (dp_var 2)) do_none)) da_nil))) (dp_op op_sub os_sub (dp_var 3) dp_int)))))))))))
theorem ok__law_spoilt (L : Facts K mg) : GOk P w K mg base CX0 6 L.f__law_spoilt ["bag", "job"] (spOf K 2 [true, false] cf__law_spoilt) := cf__law_spoilt_eq ▸
  cf_okG L.F__law_spoilt b__law_spoilt sc__law_spoilt rfl rfl fun cdv A outer s H E hr => have hN := (sc__law_spoilt).nd
    (dss_cons (ds_set 2 hN (de_callG (ok__law_dip L) (hr.mono (by decide)) (by rfl) L.g__law_dip L.F__law_dip.kp pass0 (dae_pl 0 (dae_e (de_p dp_int) dae_nil))))
      (dss_cons (ds_set 3 hN (de_callG (ok__law_dip L) (hr.mono (by decide)) (by rfl) L.g__law_dip L.F__law_dip.kp pass0 (dae_pl 0 (dae_e (de_p dp_int) dae_nil))))
      (dss_cons (ds_set 4 hN (de_p (DP.as (eqIx _ _) (dp_ix (dp_var 1) (dp_var 3)))))
      (dss_cons (ds_set 5 hN (de_callG (ok__law_dip L) (hr.mono (by decide)) (by rfl) L.g__law_dip L.F__law_dip.kp pass0 (dae_pl 0 (dae_e (de_p (dp_callB call_len cs_len (by rfl) L.m_len bt_len (da_cons (dp_var 4) da_nil))) dae_nil))))
      (dss_cons (ds_set 6 hN (de_callG (ok__law_dip L) (hr.mono (by decide)) (by rfl) L.g__law_dip L.F__law_dip.kp pass0 (dae_pl 0 (dae_e (de_p (dp_callB call_len cs_len (by rfl) L.m_len bt_len (da_cons (dp_var 4) da_nil))) dae_nil))))
      (ds_bar (dss_cons (ds_if (dte_p (dt_cmp op_lt os_lt (dp_var 2) dp_int (by rfl))) (dss_cons (ds_set 7 hN (de_callG (ok__law_odd L) (hr.mono (by decide)) (by rfl) L.g__law_odd L.F__law_odd.kp pass0 (dae_pl 0 (dae_e (de_p (DP.as (eqIx _ _) (dp_ix (dp_lst (da_cons dp_int (da_cons dp_int (da_cons dp_int da_nil)))) (dp_var 3)))) dae_nil))))
      (dss_one (ds_ret (de_p (dp_callG (ok__law_put L) (hr.mono (by decide)) (by rfl) L.g__law_put L.F__law_put.kp pass0 (da_cons (dp_var 1) (da_cons (dp_var 3) (da_cons (dp_callG (ok__law_put L) (hr.mono (by decide)) (by rfl) L.g__law_put L.F__law_put.kp pass0 (da_cons (dp_var 4) (da_cons (dp_var 5) (da_cons (dp_callG (ok__law_put L) (hr.mono (by decide)) (by rfl) L.g__law_put L.F__law_put.kp pass0 (da_cons (DP.as (eqIx _ _) (dp_ix (dp_var 4) (dp_var 5))) (da_cons (dp_var 6) (da_cons (dp_var 7) da_nil)))) da_nil)))) da_nil)))))))) dss_nil)
      (ds_bar (dss_cons (ds_if (dte_p (dt_cmp (op_eqAll hr.units) os_eq (dp_var 2) dp_int (by rfl))) (dss_one (ds_ret (de_callG (ok__law_put L) (hr.mono (by decide)) (by rfl) L.g__law_put L.F__law_put.kp pass0 (dae_e (de_mv 1) (dae_e (de_mv 3) (dae_e (de_callG (ok__law_put L) (hr.mono (by decide)) (by rfl) L.g__law_put L.F__law_put.kp pass0 (dae_e (de_mv 4) (dae_e (de_mv 5) (dae_e (de_callG (ok__law_put L) (hr.mono (by decide)) (by rfl) L.g__law_put L.F__law_put.kp pass0 (dae_e (de_p (DP.as (eqIx _ _) (dp_ix (dp_var 4) (dp_var 5)))) (dae_e (de_mv 5) (dae_e (de_callG (ok__law_dip L) (hr.mono (by decide)) (by rfl) L.g__law_dip L.F__law_dip.kp pass0 (dae_pl 0 (dae_e (de_p dp_int) dae_nil))) dae_nil)))) dae_nil)))) dae_nil)))))) dss_nil)
      (ds_bar (dss_cons (ds_if (dte_p (dt_cmp (op_eqAll hr.units) os_eq (dp_var 2) dp_int (by rfl))) (dss_one (ds_ret (de_callG (ok__law_put L) (hr.mono (by decide)) (by rfl) L.g__law_put L.F__law_put.kp pass0 (dae_e (de_mv 1) (dae_e (de_mv 3) (dae_e (de_callG (ok__law_put L) (hr.mono (by decide)) (by rfl) L.g__law_put L.F__law_put.kp pass0 (dae_e (de_mv 4) (dae_e (de_mv 5) (dae_e (de_callG (ok__law_cut L) (hr.mono (by decide)) (by rfl) L.g__law_cut L.F__law_cut.kp pass0 (dae_pl 0 (dae_e (de_p (DP.as (eqIx _ _) (dp_ix (dp_var 4) (dp_var 5)))) dae_nil))) dae_nil)))) dae_nil)))))) dss_nil)
      (ds_bar (dss_cons (ds_if (dte_p (dt_cmp (op_eqAll hr.units) os_eq (dp_var 2) dp_int (by rfl))) (dss_one (ds_ret (de_callG (ok__law_put L) (hr.mono (by decide)) (by rfl) L.g__law_put L.F__law_put.kp pass0 (dae_e (de_mv 1) (dae_e (de_mv 3) (dae_e (de_callG (ok__law_cut L) (hr.mono (by decide)) (by rfl) L.g__law_cut L.F__law_cut.kp pass0 (dae_pl 0 (dae_e (de_mv 4) dae_nil))) dae_nil)))))) dss_nil)
      (ds_bar (dss_cons (ds_if (dte_p (dt_cmp (op_eqAll hr.units) os_eq (dp_var 2) dp_int (by rfl))) (dss_one (ds_ret (de_ix (de_lst (dae_e (de_callG (ok__law_cut L) (hr.mono (by decide)) (by rfl) L.g__law_cut L.F__law_cut.kp pass0 (dae_pl 0 (dae_e (de_mv 1) dae_nil))) (dae_e (de_p (dp_callG (ok__law_put L) (hr.mono (by decide)) (by rfl) L.g__law_put L.F__law_put.kp pass0 (da_cons (dp_var 1) (da_cons (dp_var 3) (da_cons (DP.as (eqIx _ _) (dp_ix (dp_var 1) (dp_op op_sub os_sub (dp_var 3) dp_int))) da_nil))))) dae_nil))) (de_callG (ok__law_dip L) (hr.mono (by decide)) (by rfl) L.g__law_dip L.F__law_dip.kp pass0 (dae_pl 0 (dae_e (de_p dp_int) dae_nil)))))) dss_nil)
      (ds_bar (dss_cons (ds_if (dte_p (dt_cmp (op_eqAll hr.units) os_eq (dp_var 2) dp_int (by rfl))) (dss_one (ds_ret (de_callG (ok__law_others L) (hr.mono (by decide)) (by rfl) L.g__law_others L.F__law_others.kp pass0 (dae_pl 0 dae_nil)))) dss_nil)
      (ds_bar (dss_cons (ds_if (dte_p (dt_cmp (op_eqAll hr.units) os_eq (dp_var 2) dp_int (by rfl))) (dss_one (ds_ret (de_callG (ok__law_odd_part L) (hr.mono (by decide)) (by rfl) L.g__law_odd_part L.F__law_odd_part.kp pass0 (dae_pl 0 (dae_e (de_mv 1) (dae_e (de_mv 3) dae_nil)))))) dss_nil)
      (ds_bar (dss_cons (ds_if (dte_p (dt_cmp op_lt os_lt (dp_var 2) dp_int (by rfl))) (dss_one (ds_ret (de_callG (ok__law_other_size L) (hr.mono (by decide)) (by rfl) L.g__law_other_size L.F__law_other_size.kp pass0 (dae_pl 0 (dae_e (de_mv 1) (dae_e (de_mv 3) dae_nil)))))) dss_nil)
      (ds_bar (dss_one (ds_ret (de_callG (ok__law_put L) (hr.mono (by decide)) (by rfl) L.g__law_put L.F__law_put.kp pass0 (dae_e (de_mv 1) (dae_e (de_mv 3) (dae_e (de_callG (ok__law_put L) (hr.mono (by decide)) (by rfl) L.g__law_put L.F__law_put.kp pass0 (dae_e (de_mv 4) (dae_e (de_mv 5) (dae_e (de_callG (ok__law_put L) (hr.mono (by decide)) (by rfl) L.g__law_put L.F__law_put.kp pass0 (dae_e (de_p (DP.as (eqIx _ _) (dp_ix (dp_var 4) (dp_var 5)))) (dae_e (de_mv 6) (dae_e (de_callG (ok__law_nested L) (hr.mono (by decide)) (by rfl) L.g__law_nested L.F__law_nested.kp pass0 (dae_pl 0 dae_nil)) dae_nil)))) dae_nil)))) dae_nil))))))))))))))))))))))))))))
theorem ok_law (L : Facts K mg) : GOk P w K mg base CX0 7 L.f_law ["script"] (spOf K 1 [false] cf_law) := cf_law_eq ▸
  cf_okG L.F_law b_law sc_law rfl rfl fun cdv A outer s H E hr => have hN := (sc_law).nd
    (dss_cons (ds_set 1 hN (de_p (dp_callG (ok__law_bag L) (hr.mono (by decide)) (by rfl) L.g__law_bag L.F__law_bag.kp pass0 (da_cons (dp_var 0) da_nil))))
      (dss_cons (ds_set 2 hN (de_callG (ok__law_job L) (hr.mono (by decide)) (by rfl) L.g__law_job L.F__law_job.kp pass0 (dae_pl 1 (dae_e (de_p dp_int) dae_nil))))
      (dss_cons (DS.as (eq3 sForX_eq _ _ _) (ds_for PassesOwn.never (by rfl) (DI.as (eq1 jR1_eq _) (di_range1 (by rfl) L.m_range (da_cons dp_int da_nil))) (dg_name 3 hN) (dss_cons (ds_set 4 hN (de_callG (ok__law_spoilt L) (hr.mono (by decide)) (by rfl) L.g__law_spoilt L.F__law_spoilt.kp pass0 (dae_pl 1 (dae_e (de_mv 2) dae_nil))))
      (dss_cons (ds_if (dte_p (dt_cmp (op_eqAll hr.units) os_eq (dp_var 3) dp_int (by rfl))) (dss_one (ds_set 4 hN (de_mv 2))) dss_nil)
      (ds_bar (dss_cons (ds_set 5 hN (de_p (dp_callB (call_reprM hr) cs_reprM (by rfl) L.m_repr bt_repr (da_cons (dp_var 4) da_nil))))
      (dss_cons (ds_set 6 hN (de_p (dp_callG (ok_is_job L) (hr.mono (by decide)) (by rfl) L.g_is_job L.F_is_job.kp pass0 (da_cons (dp_var 4) da_nil))))
      (dss_one (ds_if (dte_p (DW.dt (dw_or (dt_not (dt_val (dp_isI .bool (dp_var 6) (by rfl) L.m_isinstance (by rfl) L.m_bool bt_bool))) (dw_or (dt_cmp (op_neAll hr.units) os_ne (dp_callB (call_reprM hr) cs_reprM (by rfl) L.m_repr bt_repr (da_cons (dp_var 4) da_nil)) (dp_var 5) (by rfl)) (dw_or1 (dt_cmp (op_neAll hr.units) os_ne (dp_var 6) (dp_callG (ok__law_is_job L) (hr.mono (by decide)) (by rfl) L.g__law_is_job L.F__law_is_job.kp pass0 (da_cons (dp_var 4) da_nil)) (by rfl))))))) (dss_one (ds_ret (de_p dp_bl))) dss_nil)))))))))
      (dss_one (ds_ret (de_p dp_bl))))))
end
def fn : List He.DefD := [⟨("is_number", none), "is_number", "is_number", defArgs s_is_number, defBody s_is_number, defScope s_is_number, [], []⟩, ⟨("is_row", none), "is_row", "is_row", defArgs s_is_row, defBody s_is_row, defScope s_is_row, [], []⟩, ⟨("is_square", none), "is_square", "is_square", defArgs s_is_square, defBody s_is_square, defScope s_is_square, [], []⟩, ⟨("is_job", none), "is_job", "is_job", defArgs s_is_job, defBody s_is_job, defScope s_is_job, [], []⟩, ⟨("_law_bag", none), "_law_bag", "_law_bag", defArgs s__law_bag, defBody s__law_bag, defScope s__law_bag, [], []⟩, ⟨("_law_dip", none), "_law_dip", "_law_dip", defArgs s__law_dip, defBody s__law_dip, defScope s__law_dip, [], []⟩, ⟨("_law_entry", none), "_law_entry", "_law_entry", defArgs s__law_entry, defBody s__law_entry, defScope s__law_entry, [], []⟩, ⟨("_law_square", none), "_law_square", "_law_square", defArgs s__law_square, defBody s__law_square, defScope s__law_square, [], []⟩, ⟨("_law_job", none), "_law_job", "_law_job", defArgs s__law_job, defBody s__law_job, defScope s__law_job, [], []⟩, ⟨("_law_whole", none), "_law_whole", "_law_whole", defArgs s__law_whole, defBody s__law_whole, defScope s__law_whole, [], []⟩, ⟨("_law_is_square", none), "_law_is_square", "_law_is_square", defArgs s__law_is_square, defBody s__law_is_square, defScope s__law_is_square, [], []⟩, ⟨("_law_is_job", none), "_law_is_job", "_law_is_job", defArgs s__law_is_job, defBody s__law_is_job, defScope s__law_is_job, [], []⟩, ⟨("_law_put", none), "_law_put", "_law_put", defArgs s__law_put, defBody s__law_put, defScope s__law_put, [], []⟩, ⟨("_law_odd", none), "_law_odd", "_law_odd", defArgs s__law_odd, defBody s__law_odd, defScope s__law_odd, [], []⟩, ⟨("_law_cut", none), "_law_cut", "_law_cut", defArgs s__law_cut, defBody s__law_cut, defScope s__law_cut, [], []⟩, ⟨("_law_others", none), "_law_others", "_law_others", defArgs s__law_others, defBody s__law_others, defScope s__law_others, [], []⟩, ⟨("_law_nested", none), "_law_nested", "_law_nested", defArgs s__law_nested, defBody s__law_nested, defScope s__law_nested, [], []⟩, ⟨("_law_odd_part", none), "_law_odd_part", "_law_odd_part", defArgs s__law_odd_part, defBody s__law_odd_part, defScope s__law_odd_part, [], []⟩, ⟨("_law_other_size", none), "_law_other_size", "_law_other_size", defArgs s__law_other_size, defBody s__law_other_size, defScope s__law_other_size, [], []⟩, ⟨("_law_spoilt", none), "_law_spoilt", "_law_spoilt", defArgs s__law_spoilt, defBody s__law_spoilt, defScope s__law_spoilt, [], []⟩, ⟨("law", none), "law", "law", defArgs s_law, defBody s_law, defScope s_law, [], []⟩]
def fa : List He.Fa := [.glo "is_number", .glo "is_row", .glo "is_square", .glo "is_job", .glo "_law_bag", .glo "_law_dip", .glo "_law_entry", .glo "_law_square", .glo "_law_job", .glo "_law_whole", .glo "_law_is_square", .glo "_law_is_job", .glo "_law_put", .glo "_law_odd", .glo "_law_cut", .glo "_law_others", .glo "_law_nested", .glo "_law_odd_part", .glo "_law_other_size", .glo "_law_spoilt", .glo "law", .int "MOST_COST" 1000000, .int "MOST_SENT" 999, .int "MOST_WORKS" 8, .free "abs", .free "all", .free "bool", .free "dict", .free "int", .free "isinstance", .free "len", .free "list", .free "range", .free "repr", .free "sum", .free "tuple", .free "zip"]
def ls : List (Str × List He.Dv) := []
abbrev Rw : PySem.W.OpenRow := PySem.W.OpenLaw.row PySem.Challenge.rw_spotlay_k01_what_is_a_job
abbrev hk : PySem.W.Hook := hookL 4 fa fn ls
def ob (s : PySem.W.SharedT) : AlL := obsLG 4 fa fn ls (HandSHeadRun.getT s)
theorem ob_eq (s : PySem.W.SharedT) : ob s = hk.obs s.abs := obsLG_eq (HandSHeadRun.getT_eq s)
abbrev loose : List Str := "is_number" :: "is_row" :: "is_square" :: "is_job" :: "_law_bag" :: "_law_dip" :: "_law_entry" :: "_law_square" :: "_law_job" :: "_law_whole" :: "_law_is_square" :: "_law_is_job" :: "_law_put" :: "_law_odd" :: "_law_cut" :: "_law_others" :: "_law_nested" :: "_law_odd_part" :: "_law_other_size" :: "_law_spoilt" :: "MOST_WORKS" :: "MOST_SENT" :: "MOST_COST" :: []
theorem run (w : World) : HandSHeadRun.RunEq Rw (PySem.W.view Rw.prog [25]) hk ob 6000 loose w := by
  intro os
  kernel_rfl
theorem facts {K : PySem.W.Frag} {h : Heap} {mg : Str → Option Value} {f : Addr} (X : K.In h) (G : h.Ns mainGlobals mg) (hfa : mg ("law" : Str) = some (.ref f)) (c : He.SaysD fa fn K) (l0 : ls.all (lstB K) = true) : ∃ L : Facts K mg, L.f_law = f := by
  have l := l0
  obtain ⟨d0, F0⟩ := c.def_ 0 (d := ⟨("is_number", none), "is_number", "is_number", defArgs s_is_number, defBody s_is_number, defScope s_is_number, [], []⟩) rfl
  obtain ⟨d1, F1⟩ := c.def_ 1 (d := ⟨("is_row", none), "is_row", "is_row", defArgs s_is_row, defBody s_is_row, defScope s_is_row, [], []⟩) rfl
  obtain ⟨d2, F2⟩ := c.def_ 2 (d := ⟨("is_square", none), "is_square", "is_square", defArgs s_is_square, defBody s_is_square, defScope s_is_square, [], []⟩) rfl
  obtain ⟨d3, F3⟩ := c.def_ 3 (d := ⟨("is_job", none), "is_job", "is_job", defArgs s_is_job, defBody s_is_job, defScope s_is_job, [], []⟩) rfl
  obtain ⟨d4, F4⟩ := c.def_ 4 (d := ⟨("_law_bag", none), "_law_bag", "_law_bag", defArgs s__law_bag, defBody s__law_bag, defScope s__law_bag, [], []⟩) rfl
  obtain ⟨d5, F5⟩ := c.def_ 5 (d := ⟨("_law_dip", none), "_law_dip", "_law_dip", defArgs s__law_dip, defBody s__law_dip, defScope s__law_dip, [], []⟩) rfl
  obtain ⟨d6, F6⟩ := c.def_ 6 (d := ⟨("_law_entry", none), "_law_entry", "_law_entry", defArgs s__law_entry, defBody s__law_entry, defScope s__law_entry, [], []⟩) rfl
  obtain ⟨d7, F7⟩ := c.def_ 7 (d := ⟨("_law_square", none), "_law_square", "_law_square", defArgs s__law_square, defBody s__law_square, defScope s__law_square, [], []⟩) rfl
  obtain ⟨d8, F8⟩ := c.def_ 8 (d := ⟨("_law_job", none), "_law_job", "_law_job", defArgs s__law_job, defBody s__law_job, defScope s__law_job, [], []⟩) rfl
  obtain ⟨d9, F9⟩ := c.def_ 9 (d := ⟨("_law_whole", none), "_law_whole", "_law_whole", defArgs s__law_whole, defBody s__law_whole, defScope s__law_whole, [], []⟩) rfl
  obtain ⟨d10, F10⟩ := c.def_ 10 (d := ⟨("_law_is_square", none), "_law_is_square", "_law_is_square", defArgs s__law_is_square, defBody s__law_is_square, defScope s__law_is_square, [], []⟩) rfl
  obtain ⟨d11, F11⟩ := c.def_ 11 (d := ⟨("_law_is_job", none), "_law_is_job", "_law_is_job", defArgs s__law_is_job, defBody s__law_is_job, defScope s__law_is_job, [], []⟩) rfl
  obtain ⟨d12, F12⟩ := c.def_ 12 (d := ⟨("_law_put", none), "_law_put", "_law_put", defArgs s__law_put, defBody s__law_put, defScope s__law_put, [], []⟩) rfl
  obtain ⟨d13, F13⟩ := c.def_ 13 (d := ⟨("_law_odd", none), "_law_odd", "_law_odd", defArgs s__law_odd, defBody s__law_odd, defScope s__law_odd, [], []⟩) rfl
  obtain ⟨d14, F14⟩ := c.def_ 14 (d := ⟨("_law_cut", none), "_law_cut", "_law_cut", defArgs s__law_cut, defBody s__law_cut, defScope s__law_cut, [], []⟩) rfl
  obtain ⟨d15, F15⟩ := c.def_ 15 (d := ⟨("_law_others", none), "_law_others", "_law_others", defArgs s__law_others, defBody s__law_others, defScope s__law_others, [], []⟩) rfl
  obtain ⟨d16, F16⟩ := c.def_ 16 (d := ⟨("_law_nested", none), "_law_nested", "_law_nested", defArgs s__law_nested, defBody s__law_nested, defScope s__law_nested, [], []⟩) rfl
  obtain ⟨d17, F17⟩ := c.def_ 17 (d := ⟨("_law_odd_part", none), "_law_odd_part", "_law_odd_part", defArgs s__law_odd_part, defBody s__law_odd_part, defScope s__law_odd_part, [], []⟩) rfl
  obtain ⟨d18, F18⟩ := c.def_ 18 (d := ⟨("_law_other_size", none), "_law_other_size", "_law_other_size", defArgs s__law_other_size, defBody s__law_other_size, defScope s__law_other_size, [], []⟩) rfl
  obtain ⟨d19, F19⟩ := c.def_ 19 (d := ⟨("_law_spoilt", none), "_law_spoilt", "_law_spoilt", defArgs s__law_spoilt, defBody s__law_spoilt, defScope s__law_spoilt, [], []⟩) rfl
  obtain ⟨d20, F20⟩ := c.def_ 20 (d := ⟨("law", none), "law", "law", defArgs s_law, defBody s_law, defScope s_law, [], []⟩) rfl
  have e := hfa.symm.trans (He.glo_ok X G (c.fact 20 (f := .glo "law") rfl))
  cases e
  exact ⟨⟨_, d0, F0, He.glo_ok X G (c.fact 0 (f := .glo "is_number") rfl), _, d1, F1, He.glo_ok X G (c.fact 1 (f := .glo "is_row") rfl), _, d2, F2, He.glo_ok X G (c.fact 2 (f := .glo "is_square") rfl), _, d3, F3, He.glo_ok X G (c.fact 3 (f := .glo "is_job") rfl), _, d4, F4, He.glo_ok X G (c.fact 4 (f := .glo "_law_bag") rfl), _, d5, F5, He.glo_ok X G (c.fact 5 (f := .glo "_law_dip") rfl), _, d6, F6, He.glo_ok X G (c.fact 6 (f := .glo "_law_entry") rfl), _, d7, F7, He.glo_ok X G (c.fact 7 (f := .glo "_law_square") rfl), _, d8, F8, He.glo_ok X G (c.fact 8 (f := .glo "_law_job") rfl), _, d9, F9, He.glo_ok X G (c.fact 9 (f := .glo "_law_whole") rfl), _, d10, F10, He.glo_ok X G (c.fact 10 (f := .glo "_law_is_square") rfl), _, d11, F11, He.glo_ok X G (c.fact 11 (f := .glo "_law_is_job") rfl), _, d12, F12, He.glo_ok X G (c.fact 12 (f := .glo "_law_put") rfl), _, d13, F13, He.glo_ok X G (c.fact 13 (f := .glo "_law_odd") rfl), _, d14, F14, He.glo_ok X G (c.fact 14 (f := .glo "_law_cut") rfl), _, d15, F15, He.glo_ok X G (c.fact 15 (f := .glo "_law_others") rfl), _, d16, F16, He.glo_ok X G (c.fact 16 (f := .glo "_law_nested") rfl), _, d17, F17, He.glo_ok X G (c.fact 17 (f := .glo "_law_odd_part") rfl), _, d18, F18, He.glo_ok X G (c.fact 18 (f := .glo "_law_other_size") rfl), _, d19, F19, He.glo_ok X G (c.fact 19 (f := .glo "_law_spoilt") rfl), _, d20, F20, He.glo_ok X G (c.fact 20 (f := .glo "law") rfl), He.int_ok X G (c.fact 21 (f := .int "MOST_COST" 1000000) rfl), He.int_ok X G (c.fact 22 (f := .int "MOST_SENT" 999) rfl), He.int_ok X G (c.fact 23 (f := .int "MOST_WORKS" 8) rfl), He.free_ok X G (c.fact 24 (f := .free "abs") rfl), He.free_ok X G (c.fact 25 (f := .free "all") rfl), He.free_ok X G (c.fact 26 (f := .free "bool") rfl), He.free_ok X G (c.fact 27 (f := .free "dict") rfl), He.free_ok X G (c.fact 28 (f := .free "int") rfl), He.free_ok X G (c.fact 29 (f := .free "isinstance") rfl), He.free_ok X G (c.fact 30 (f := .free "len") rfl), He.free_ok X G (c.fact 31 (f := .free "list") rfl), He.free_ok X G (c.fact 32 (f := .free "range") rfl), He.free_ok X G (c.fact 33 (f := .free "repr") rfl), He.free_ok X G (c.fact 34 (f := .free "sum") rfl), He.free_ok X G (c.fact 35 (f := .free "tuple") rfl), He.free_ok X G (c.fact 36 (f := .free "zip") rfl)⟩, rfl⟩
end K01

namespace K01
open PySem PySem.Spec PyProof.Rows L2 DL PA DCB DCF
open DCA (Bag dip_spec dip_specN bag_spec)
theorem go_LcDF {step : KD → (Option KD → Prop) → Prop} {ds : List D} {P : KD → Prop} (s : D → Bool) (hn : ds.length ≤ 10000000)
    (hs : ∀ d (N : Option KD → Prop), d ∈ ds → (s d = true → N (some (.fl, d))) → (s d = false → N none) → step (.fl, d) N) (h : P (.sh, .lst (ds.filter s))) : kLc step (ds.map (kel .fl)) P := by
  unfold kLc; rw [hid_eq]
  refine ⟨by rw [List.length_map]; exact hn, comp_ind (fun i acc => acc = ((ds.take i).filter s).map fun a => (.fl, a)) rfl (fun i z acc N hz hi hN hN0 => ?_) fun acc h2 => ?_⟩
  · rw [List.getElem?_map] at hz
    cases e : ds[i]? with
    | none => rw [e] at hz; cases hz
    | some a =>
      rw [e] at hz
      have e2 : kel .fl a = z := Option.some.inj hz
      rw [kel_flM] at e2
      subst e2
      have e3 : ds.take (i + 1) = ds.take i ++ [a] := by rw [List.take_add_one, e]; rfl
      rw [e3, List.filter_append, List.map_append] at hN hN0
      refine hs a N (List.mem_of_getElem? e) (fun q => hN _ ?_) fun q => hN0 ?_
      · rw [hi, List.filter_cons_of_pos q]; rfl
      · rw [hi, List.filter_cons_of_neg (by rw [q]; decide)]; exact (List.append_nil _).symm
  · rw [List.length_map, List.take_length] at h2
    rw [h2, jL_flm, snd_flm, List.map_id']
    exact h
theorem whole_mix {d : D} {m : Int} {Q X} (hm : mix d = true) (h : Q (.fl, .bl (numM m d)) []) : cf__law_whole [(.fl, d), (.fl, .int m)] Q X := by
  rw [cf__law_whole_eq]
  cases d with
  | non => exact h
  | bl i => exact h
  | int i =>
    by_cases h0 : 0 ≤ i
    · by_cases h1 : i ≤ m
      · have e : numM m (.int i) = true := decide_eq_true ⟨h0, h1⟩
        rw [e] at h
        refine ifd (fun c => ?_) (fun c => absurd h0 c)
        show Q (.fl, .bl (decide (i ≤ m))) []
        rw [decide_eq_true h1]; exact h
      · have e : numM m (.int i) = false := decide_eq_false (fun z => h1 z.2)
        rw [e] at h
        refine ifd (fun c => ?_) (fun c => absurd h0 c)
        show Q (.fl, .bl (decide (i ≤ m))) []
        rw [decide_eq_false h1]; exact h
    · have e : numM m (.int i) = false := decide_eq_false (fun z => h0 z.1)
      rw [e] at h
      refine ifd (fun c => absurd c h0) (fun c => ?_)
      exact h
  | str i => exact h
  | dcL i => exact h
  | tup i => exact h
  | kst i => exact h
  | _ => cases hm
theorem row_no {n : Nat} {m : Int} {ds : List D} {x : D} (hx : x ∈ ds) (h : rowM n m x = false) : sqM n m (.tup ds) = false := by
  show (decide _ && ds.all (rowM n m)) = false
  rw [Bool.and_eq_false_iff]
  right
  rw [List.all_eq_false]
  exact ⟨x, hx, by rw [h]; decide⟩
theorem own_square {d : D} {n : Nat} {m : Int} {Q X} (hm : mix d = true) (h : Q (.fl, .bl (sqM n m d)) []) : cf__law_is_square [(.fl, d), (.fl, .int n), (.fl, .int m)] Q X := by
  rw [cf__law_is_square_eq]
  cases d with
  | tup ds =>
    obtain ⟨hl, hx⟩ := mix_tupI hm
    refine ifdn (fun c => ?_) fun c => ?_
    · have e : sqM n m (.tup ds) = false := by
        show (decide _ && _) = _
        rw [decide_eq_false (fun z : ds.length = n => c (congrArg Int.ofNat z)), Bool.false_and]
      rw [e] at h
      exact h
    have c : ds.length = n := Int.ofNat.inj c
    have bad : ∀ {x : D}, x ∈ ds → rowM n m x = false → Q (.fl, .bl false) [] := fun hx e => by rw [row_no hx e] at h; exact h
    refine go_For (fun i ρ => ∃ e3, (ds.take i).all (rowM n m) = true ∧ ρ = [some (.fl, .tup ds), some (.fl, .int n), some (.fl, .int m), e3, none]) ⟨none, rfl, rfl⟩ (fun i z ρ N hz hI hN => ?_) fun ρ hI => ?_
    · obtain ⟨e3, h1, rfl⟩ := hI
      rw [List.getElem?_map] at hz
      cases hg : ds[i]? with
      | none => rw [hg] at hz; cases hz
      | some x =>
        rw [hg] at hz
        have ez : kel .fl x = z := Option.some.inj hz
        rw [kel_flM] at ez
        subst ez
        have ht : ds.take (i + 1) = ds.take i ++ [x] := by rw [List.take_add_one, hg]; rfl
        have hmem := List.mem_of_getElem? hg
        cases x with
        | tup rs =>
          obtain ⟨hl2, hx2⟩ := mix_tupI (hx _ hmem)
          refine ifdn (fun c2 => ?_) fun c2 => ?_
          · refine bad hmem ?_
            show (decide _ && _) = _
            rw [decide_eq_false (fun z : rs.length = n => c2 (congrArg Int.ofNat z)), Bool.false_and]
          have c2 : rs.length = n := Int.ofNat.inj c2
          refine go_LcDF (fun d => !numM m d) (by omega) (fun y N hy hN hN0 => ?_) ?_
          · refine whole_mix (hx2 _ hy) ?_
            cases e : numM m y with
            | true => exact hN0 (by rw [e]; rfl)
            | false => exact hN (by rw [e]; rfl)
          · have er : rowM n m (.tup rs) = rs.all (numM m) := by
              show (decide _ && _) = _
              rw [decide_eq_true c2, Bool.true_and]
            cases e : rs.filter (fun d => !numM m d) with
            | nil =>
              have ha : rs.all (numM m) = true := by
                rw [List.all_eq_true]
                intro y hy
                have := List.filter_eq_nil_iff.mp e y hy
                cases e2 : numM m y with
                | true => rfl
                | false => rw [e2] at this; exact absurd rfl this
              refine hN _ ⟨some (.fl, .tup rs), ?_, rfl⟩
              rw [ht, List.all_append, h1, List.all_cons, er, ha]; rfl
            | cons y r =>
              refine bad hmem ?_
              rw [er, List.all_eq_false]
              have hy : y ∈ rs.filter (fun d => !numM m d) := by rw [e]; exact List.mem_cons_self ..
              obtain ⟨hy1, hy2⟩ := List.mem_filter.mp hy
              refine ⟨y, hy1, fun z => ?_⟩
              rw [z] at hy2
              cases hy2
        | non => exact bad hmem rfl
        | bl b => exact bad hmem rfl
        | int b => exact bad hmem rfl
        | str b => exact bad hmem rfl
        | dcL b => exact bad hmem rfl
        | kst b => exact bad hmem rfl
        | _ => exact absurd (hx _ hmem) (fun z => by cases z)
    · obtain ⟨e3, h1, rfl⟩ := hI
      rw [List.length_map, List.take_length] at h1
      have e : sqM n m (.tup ds) = true := by
        show (decide _ && ds.all (rowM n m)) = true
        rw [decide_eq_true c, h1]; rfl
      rw [e] at h
      exact h
  | int i => exact h
  | bl b => exact h
  | non => exact h
  | str x => exact h
  | dcL k => exact h
  | kst ds => exact h
  | _ => cases hm
end K01
namespace K01
open PySem PySem.Spec PyProof.Rows L2 DL PA DCB DCF
open DCA (Bag dip_spec dip_specN bag_spec)
theorem kmv_mix {d : D} (h : mix d = true) : kmv .fl d = (.fl, d) := by cases d <;> first | rfl | cases h
theorem go_gTu2 {i j : Nat} {k : Kd} {x y : D} {ρ : Ro} {P : Ro → Prop} (hk : k = .fl) (hx : mix x = true) (hy : mix y = true) (h : P ((ρ.set i (some (.fl, x))).set j (some (.fl, y)))) : gTu 2 (tConsG (gNm i) (tConsG (gNm j) tNilG)) (k, .tup [x, y]) ρ P := by
  subst hk
  refine ⟨rfl, ?_⟩
  rw [show List.map (kmv ((Kd.fl, D.tup [x, y]) : KD).fst) [x, y] = [(.fl, x), (.fl, y)] from by
    show [kmv .fl x, kmv .fl y] = _
    rw [kmv_mix hx, kmv_mix hy]]
  exact ⟨rfl, h⟩
theorem sum0 {n : Nat} {f : Nat → Int} (h : ∀ i, i < n → 0 ≤ f i) : (tabl n f).sum = 0 ↔ ∀ i, i < n → f i = 0 := by
  have key : 0 ≤ (tabl n f).sum ∧ ((tabl n f).sum = 0 ↔ ∀ i, i < n → f i = 0) := by
    induction n with
    | zero => exact ⟨Int.le_refl _, fun _ i hi => absurd hi (Nat.not_lt_zero _), fun _ => rfl⟩
    | succ n ih =>
      obtain ⟨a, b⟩ := ih fun i hi => h i (by omega)
      have hn := h n (Nat.lt_succ_self n)
      rw [tabl_succ, List.sum_append, List.sum_cons, List.sum_nil]
      refine ⟨by omega, fun z i hi => ?_, fun z => ?_⟩
      · rcases Nat.lt_succ_iff_lt_or_eq.mp hi with hi | rfl
        · exact b.mp (by omega) i hi
        · omega
      · have := b.mpr fun i hi => z i (by omega)
        have := z n (Nat.lt_succ_self n)
        omega
  exact key.2
theorem own_job {d : D} {Q X} (hm : mix d = true) (h : ∀ b : Bool, (b = true ↔ IsJob d) → Q (.fl, .bl b) []) : cf__law_is_job [(.fl, d)] Q X := by
  have no : ¬ IsJob d → Q (.fl, .bl false) [] := fun z => h false ⟨fun c => (nomatch c), fun c => absurd c z⟩
  rw [cf__law_is_job_eq]
  cases d with
  | tup ds =>
    obtain ⟨_, hx⟩ := mix_tupI hm
    have big : (ds.length : Int) ≠ 3 → Q (.fl, .bl false) [] := fun c => no fun z => c (by rw [isJob_len z]; rfl)
    match ds, hx, big, h, no with
    | [], _, big, _, _ => exact big (by simp)
    | [_], _, big, _, _ => exact big (by simp)
    | [_, _], _, big, _, _ => exact big (by simp)
    | x1 :: x2 :: x3 :: x4 :: r, _, big, _, _ =>
      have hb : ((x1 :: x2 :: x3 :: x4 :: r).length : Int) ≠ 3 := by rw [List.length_cons, List.length_cons, List.length_cons, List.length_cons]; omega
      exact big hb
    | [a, b, c], hx, _, h, no =>
      refine go_ixM (d := a) rfl rfl ?_
      cases a with
      | tup rows =>
        have hr := (mix_tupI (hx (.tup rows) (by simp))).1
        refine go_ixM (d := .tup rows) rfl rfl ?_
        have no1 : ¬ (sqM rows.length 999 (.tup rows) = true ∧ sqM rows.length 999 b = true ∧ sqM rows.length 1000000 c = true) → Q (.fl, .bl false) [] := fun z => no fun q => by
          obtain ⟨rows', e, _, _, h1, h2, h3, _⟩ := isJob_at.mp q
          cases e
          exact z ⟨h1, h2, h3⟩
        refine go_For (fun i ρ => ∃ e2 e3, (1 ≤ i → sqM rows.length 999 (.tup rows) = true) ∧ (2 ≤ i → sqM rows.length 999 b = true) ∧ (3 ≤ i → sqM rows.length 1000000 c = true) ∧ ρ = [some (.fl, .tup [.tup rows, b, c]), some (.fl, .int rows.length), e2, e3, none, none])
          ⟨none, none, fun h => absurd h (by decide), fun h => absurd h (by decide), fun h => absurd h (by decide), rfl⟩ (fun i z ρ N hz hI hN => ?_) fun ρ hI => ?_
        · obtain ⟨e2, e3, s1, s2, s3, rfl⟩ := hI
          match i, hz with
          | 0, e =>
            cases Option.some.inj e
            refine go_gTu2 (x := .tup rows) (y := .int 999) rfl (hx _ (by simp)) rfl ?_
            refine own_square (d := .tup rows) (hx _ (by simp)) ?_
            generalize e1 : sqM rows.length 999 (.tup rows) = b1
            cases b1 with
            | false => exact no1 fun z => by rw [e1] at z; exact nomatch z.1
            | true => exact hN _ ⟨_, _, fun _ => e1, fun h => absurd h (by decide), fun h => absurd h (by decide), rfl⟩
          | 1, e =>
            cases Option.some.inj e
            refine go_gTu2 (x := b) (y := .int 999) rfl (hx _ (by simp)) rfl ?_
            refine own_square (d := b) (hx _ (by simp)) ?_
            generalize e1 : sqM rows.length 999 b = b1
            cases b1 with
            | false => exact no1 fun z => by rw [e1] at z; exact nomatch z.2.1
            | true => exact hN _ ⟨_, _, fun _ => s1 (by decide), fun _ => e1, fun h => absurd h (by decide), rfl⟩
          | 2, e =>
            cases Option.some.inj e
            refine go_gTu2 (x := c) (y := .int 1000000) rfl (hx _ (by simp)) rfl ?_
            refine own_square (d := c) (hx _ (by simp)) ?_
            generalize e1 : sqM rows.length 1000000 c = b1
            cases b1 with
            | false => exact no1 fun z => by rw [e1] at z; exact nomatch z.2.2
            | true => exact hN _ ⟨_, _, fun _ => s1 (by decide), fun _ => s2 (by decide), fun _ => e1, rfl⟩
          | i + 3, e => exact nomatch e
        · obtain ⟨e2, e3, s1, s2, s3, rfl⟩ := hI
          have e1 := s1 (show 1 ≤ 3 by decide)
          have e2' := s2 (show 2 ≤ 3 by decide)
          have e3' := s3 (show 3 ≤ 3 by decide)
          clear s1 s2 s3
          obtain ⟨t1, q1⟩ := sq_tab e1
          obtain ⟨t2, q2⟩ := sq_tab e2'
          have key : (1 ≤ rows.length ∧ rows.length ≤ 8 ∧ ∀ i, i < rows.length → ent (.tup rows) i i = 0 ∧ ent b i i = 0) ↔ IsJob (.tup [.tup rows, b, c]) := by
            rw [isJob_at]
            constructor
            · exact fun z => ⟨rows, rfl, z.1, z.2.1, e1, e2', e3', z.2.2⟩
            · rintro ⟨rows', e, z1, z2, _, _, _, z⟩
              cases e
              exact ⟨z1, z2, z⟩
          have i1 : ∀ {i : Nat} {P : KD → Prop}, i < rows.length → P (.fl, .int (ent (.tup rows) i i)) → xIx (.fl, .tup rows) (.fl, .int i) fun z => xIx z (.fl, .int i) P := fun {i P} hi p => by
            have : D.tup rows = tabD rows.length (ent (.tup rows)) := q1
            rw [this]
            have p2 : P (.fl, .int (ent (tabD rows.length (ent (.tup rows))) i i)) := by rw [← this]; exact p
            have e4 : ent (tabD rows.length (ent (.tup rows))) i i = ent (.tup rows) i i := by rw [← this]
            rw [e4] at p2
            exact go_tab hi (go_tab hi p2)
          have i2 : ∀ {i : Nat} {P : KD → Prop}, i < rows.length → P (.fl, .int (ent b i i)) → xIx (.fl, b) (.fl, .int i) fun z => xIx z (.fl, .int i) P := fun {i P} hi p => by
            have e4 : ent (tabD rows.length (ent b)) i i = ent b i i := by rw [← q2]
            rw [q2]
            exact go_tab hi (go_tab hi p)
          refine go_R1 (n := rows.length) rfl (by omega) ?_
          refine go_Lc0 (fun i => .int (ent (.tup rows) i i + ent b i i)) (by omega) (fun i N hi hN => ?_) ?_
          · refine go_ixM (d := .tup rows) rfl rfl (i1 hi ?_)
            exact go_ixM (d := b) rfl rfl (i2 hi hN)
          · have nok : ¬ (1 ≤ rows.length ∧ rows.length ≤ 8) → Q (.fl, .bl false) [] := fun z => no fun q => by
              have := key.mpr q
              exact z ⟨this.1, this.2.1⟩
            refine ifd (fun c1 => ?_) fun c1 => nok fun z => c1 (show (0 : Int) < (rows.length : Int) by omega)
            have c1 : (0 : Int) < (rows.length : Int) := c1
            refine ifd (fun c2 => ?_) fun c2 => nok fun z => c2 (show (rows.length : Int) < 9 by omega)
            have c2 : (rows.length : Int) < 9 := c2
            refine ⟨tabl rows.length fun i => ent (.tup rows) i i + ent b i i, by unfold tabl; rw [List.map_map]; rfl, ?_⟩
            refine h _ (Iff.trans ?_ key)
            rw [decide_eq_true_iff]
            have nn : ∀ i, i < rows.length → 0 ≤ ent (.tup rows) i i ∧ 0 ≤ ent b i i := fun i hi => ⟨(t1 i i hi hi).1, (t2 i i hi hi).1⟩
            rw [sum0 fun i hi => by have := nn i hi; omega]
            constructor
            · exact fun z => ⟨by omega, by omega, fun i hi => by have := nn i hi; have := z i hi; omega⟩
            · exact fun z i hi => by have := z.2.2 i hi; omega
      | int i => exact no fun z => by obtain ⟨_, _, _, e⟩ := isJob_tup z; cases e
      | bl i => exact no fun z => by obtain ⟨_, _, _, e⟩ := isJob_tup z; cases e
      | non => exact no fun z => by obtain ⟨_, _, _, e⟩ := isJob_tup z; cases e
      | str i => exact no fun z => by obtain ⟨_, _, _, e⟩ := isJob_tup z; cases e
      | dcL i => exact no fun z => by obtain ⟨_, _, _, e⟩ := isJob_tup z; cases e
      | kst i => exact no fun z => by obtain ⟨_, _, _, e⟩ := isJob_tup z; cases e
      | _ => exact absurd (hx _ (List.mem_cons_self ..)) (fun z => by cases z)
  | int i => exact no fun z => by obtain ⟨_, _, _, e⟩ := isJob_tup z; cases e
  | bl b => exact no fun z => by obtain ⟨_, _, _, e⟩ := isJob_tup z; cases e
  | non => exact no fun z => by obtain ⟨_, _, _, e⟩ := isJob_tup z; cases e
  | str x => exact no fun z => by obtain ⟨_, _, _, e⟩ := isJob_tup z; cases e
  | dcL k => exact no fun z => by obtain ⟨_, _, _, e⟩ := isJob_tup z; cases e
  | kst ds => exact no fun z => by obtain ⟨_, _, _, e⟩ := isJob_tup z; cases e
  | _ => cases hm
end K01
namespace K01
open PySem PySem.Spec PyProof.Rows L2 DL PA DCB DCF
open DCA (Bag dip_spec dip_specN bag_spec)
theorem go_ixS {k k' : Kd} {ds : List D} {i : Int} {d : D} {P : KD → Prop} (hk : k.el = .fl) (h : L2.atI ds i = some d) (p : P (.fl, d)) : xIx (k, .lst ds) (k', .int i) P := by
  refine go_ix rfl h ?_
  rw [show kel k d = (.fl, d) by cases d <;> first | rfl | exact Prod.ext hk rfl]
  exact p
theorem CP59 : CPow 10 59 := ⟨by decide, by decide, by decide⟩
theorem cut_set {l : List D} {w : Nat} {x : D} (hw : w < l.length) : DL.cutD l none (some (w : Int)) ++ [x] ++ DL.cutD l (some ((w : Int) + 1)) none = l.set w x := by
  rw [set_split (List.getElem?_eq_getElem hw)]
  have e1 : DL.cutD l none (some (w : Int)) = l.take w := by
    unfold DL.cutD
    show (l.drop 0).take ((if (w : Int) < 0 then ((w : Int) + (l.length : Nat)).toNat else min (w : Int).toNat l.length) - 0) = _
    rw [if_neg (by omega), List.drop_zero]
    congr 1
    omega
  have e2 : DL.cutD l (some ((w : Int) + 1)) none = l.drop (w + 1) := by
    unfold DL.cutD
    show (l.drop (if (w : Int) + 1 < 0 then ((w : Int) + 1 + (l.length : Nat)).toNat else min ((w : Int) + 1).toNat l.length)).take (l.length - if (w : Int) + 1 < 0 then ((w : Int) + 1 + (l.length : Nat)).toNat else min ((w : Int) + 1).toNat l.length) = _
    have e : min ((w : Int) + 1).toNat l.length = w + 1 := by omega
    rw [if_neg (by omega), e]
    exact List.take_of_length_le (by rw [List.length_drop]; exact Nat.le_refl _)
  rw [e1, e2, List.append_assoc]; rfl
theorem cut_len {l : List D} {lo hi : Option Int} : (DL.cutD l lo hi).length ≤ l.length := by
  unfold DL.cutD
  rw [List.length_take, List.length_drop]
  omega
/-- of mixed kind, so long, so deep -/
def Sz (s k : Nat) (d : D) : Prop := mix d = true ∧ d.wM = true ∧ d.sM ≤ s ∧ d.hM ≤ k
theorem Sz.mono {s k s' k' : Nat} {d : D} (h : Sz s k d) (a : s ≤ s') (b : k ≤ k') : Sz s' k' d := ⟨h.1, h.2.1, Nat.le_trans h.2.2.1 a, Nat.le_trans h.2.2.2 b⟩
theorem szs {s k : Nat} : ∀ {ds : List D}, (∀ x ∈ ds, Sz s k x) → D.wMs ds = true ∧ D.sMs ds ≤ ds.length * (s + 2) ∧ D.hMs ds ≤ k
  | [], _ => ⟨rfl, Nat.zero_le _, Nat.zero_le _⟩
  | d :: ds, h => by
    obtain ⟨a, b, c⟩ := szs fun x hx => h x (List.mem_cons_of_mem _ hx)
    obtain ⟨_, h2, h3, h4⟩ := h d (List.mem_cons_self ..)
    refine ⟨?_, ?_, ?_⟩
    · show (d.wM && D.wMs ds) = true
      rw [h2, a]; rfl
    · show d.sM + 2 + D.sMs ds ≤ (ds.length + 1) * (s + 2)
      rw [Nat.add_mul]
      omega
    · show max d.hM (D.hMs ds) ≤ k
      omega
theorem sz_seq {s k L S : Nat} {ds : List D} (hl : ds.length ≤ L) (hL : L ≤ 1000) (hS : L * (s + 2) + 3 ≤ S) (h : ∀ x ∈ ds, Sz s k x) : Sz S (k + 1) (.tup ds) ∧ Sz S (k + 1) (.kst ds) := by
  obtain ⟨a, b, c⟩ := szs h
  have b2 : D.sMs ds + 3 ≤ S := by
    have := Nat.mul_le_mul_right (s + 2) hl
    omega
  exact ⟨⟨mix_tup (by omega) fun x hx => (h x hx).1, a, b2, Nat.succ_le_succ c⟩, ⟨mix_tup (by omega) fun x hx => (h x hx).1, a, b2, Nat.succ_le_succ c⟩⟩
abbrev It : D → Prop := Sz 1000 8
abbrev Rw' : D → Prop := Sz 24100 9
abbrev Sq' : D → Prop := Sz 578600 10
abbrev Jb : D → Prop := Sz 10000000 50
theorem it_rw {d : D} (h : It d) : Rw' d := h.mono (by decide) (by decide)
theorem rw_sq {d : D} (h : Rw' d) : Sq' d := h.mono (by decide) (by decide)
theorem sq_jb {d : D} (h : Sq' d) : Jb d := h.mono (by decide) (by decide)
theorem rw_of {ds : List D} (hl : ds.length ≤ 24) (h : ∀ x ∈ ds, It x) : Rw' (.tup ds) ∧ Rw' (.kst ds) := sz_seq hl (by decide) (by decide) h
theorem sq_of {ds : List D} (hl : ds.length ≤ 24) (h : ∀ x ∈ ds, Rw' x) : Sq' (.tup ds) ∧ Sq' (.kst ds) := sz_seq hl (by decide) (by decide) h
theorem jb_of {ds : List D} (hl : ds.length ≤ 9) (h : ∀ x ∈ ds, Sq' x) : Jb (.tup ds) ∧ Jb (.kst ds) := by
  obtain ⟨a, b⟩ := sz_seq (L := 9) (S := 10000000) hl (by decide) (by decide) h
  exact ⟨a.mono (Nat.le_refl _) (by decide), b.mono (Nat.le_refl _) (by decide)⟩
theorem it_int {i : Int} (h : i.natAbs < 10 ^ 70) : It (.int i) := ⟨rfl, decide_eq_true h, by show 71 ≤ 1000; decide, by show 1 ≤ 8; decide⟩
theorem it_small {i : Int} (h : i.natAbs ≤ 10000000) : It (.int i) := it_int (Nat.lt_of_le_of_lt h (by decide))
theorem it_non : It .non := ⟨rfl, rfl, by decide, by decide⟩
theorem mem_set {P : D → Prop} {ds : List D} {a : Nat} {x : D} (h : ∀ y ∈ ds, P y) (hx : P x) : ∀ y ∈ ds.set a x, P y := fun y hy => by
  rcases List.mem_or_eq_of_mem_set hy with hy | rfl
  · exact h y hy
  · exact hx
theorem mem_cutD {ds : List D} {lo hi : Option Int} {x : D} (h : x ∈ DL.cutD ds lo hi) : x ∈ ds := List.mem_of_mem_drop (List.mem_of_mem_take h)
theorem put_spec {ds : List D} {a : Nat} {i : Int} {x : D} {Q X} (ei : i = a) (hl : ds.length ≤ 1000) (ha : a < ds.length) (h : Q (.fl, .tup (ds.set a x)) []) : cf__law_put [(.fl, .tup ds), (.fl, .int i), (.fl, x)] Q X := by
  subst ei
  rw [cf__law_put_eq]
  have l1 := cut_len (l := ds) (lo := none) (hi := some (a : Int))
  have l2 := cut_len (l := ds) (lo := some ((a : Int) + 1)) (hi := none)
  refine ⟨by show _ + 1 ≤ _; omega, by show (_ ++ [x]).length + _ ≤ _; rw [List.length_append]; show _ + 1 + _ ≤ _; omega, ?_⟩
  show Q (.fl, .tup (DL.cutD ds none (some (a : Int)) ++ [x] ++ DL.cutD ds (some ((a : Int) + 1)) none)) []
  rw [cut_set ha]
  exact h
theorem cut_spec {d : D} {ds : List D} {Q X} (hd : Bag d) (h1 : 1 ≤ ds.length) (h8 : ds.length ≤ 8) (h : ∀ es d, es.length ≤ 3 * ds.length → (∀ x ∈ es, x ∈ ds) → Bag d → Q (.fl, .tup es) [(.ow, d)] ∧ Q (.fl, .kst es) [(.ow, d)]) :
    cf__law_cut [(.ow, d), (.fl, .tup ds)] Q X := by
  rw [cf__law_cut_eq]
  refine ⟨⟨_, rfl⟩, dip_specN hd (by show (0 : Int) < (ds.length : Int); omega) (by show (ds.length : Int) ≤ _; omega) fun a d ha hd => ?_⟩
  have l1 := cut_len (l := ds) (lo := none) (hi := some (a : Int))
  have l2 := cut_len (l := ds) (lo := some ((a : Int) + 1)) (hi := none)
  have l3 := cut_len (l := ds) (lo := some (a : Int)) (hi := some ((a : Int) + 1))
  have l4 := cut_len (l := ds) (lo := some (a : Int)) (hi := none)
  refine ⟨by omega, by omega, by rw [List.length_append]; omega, ?_⟩
  refine ⟨⟨_, rfl⟩, dip_specN hd (by decide) (by decide) fun q d hq hd => ?_⟩
  match q, hq with
  | 0, _ =>
    refine go_ixS (d := .tup (DL.cutD ds none (some (a : Int)) ++ DL.cutD ds (some ((a : Int) + 1)) none)) rfl rfl ?_
    refine (h _ _ (by rw [List.length_append]; omega) (fun x hx => ?_) hd).1
    rcases List.mem_append.mp hx with hx | hx <;> exact mem_cutD hx
  | 1, _ =>
    refine go_ixS (d := .tup (DL.cutD ds none (some (a : Int)) ++ DL.cutD ds (some (a : Int)) (some ((a : Int) + 1)) ++ DL.cutD ds (some (a : Int)) none)) rfl rfl ?_
    refine (h _ _ (by rw [List.length_append, List.length_append]; omega) (fun x hx => ?_) hd).1
    rcases List.mem_append.mp hx with hx | hx
    · rcases List.mem_append.mp hx with hx | hx <;> exact mem_cutD hx
    · exact mem_cutD hx
  | 2, _ =>
    refine go_ixS (d := .kst ds) rfl rfl ?_
    exact (h _ _ (by omega) (fun x hx => hx) hd).2
end K01
namespace K01
open PySem PySem.Spec PyProof.Rows L2 DL PA DCB DCF
open DCA (Bag dip_spec dip_specN bag_spec)
theorem odd_spec {d : D} {m : Int} {Q X} (hd : Bag d) (h0 : 0 ≤ m) (h9 : m ≤ 1000000) (h : ∀ x d, It x → Bag d → Q (.fl, x) [(.ow, d)]) : cf__law_odd [(.ow, d), (.fl, .int m)] Q X := by
  rw [cf__law_odd_eq]
  refine ⟨CP59, ⟨_, rfl⟩, CP59, dip_specN hd (by decide) (by decide) fun r d hr hd => ?_⟩
  have big : ((10 : Int) ^ 59 + (r : Int)).natAbs < 10 ^ 70 := by
    have hr : (r : Int) < (10 : Int) ^ 59 := hr
    have : (10 : Int) ^ 59 + (10 : Int) ^ 59 < ((10 ^ 70 : Nat) : Int) := by decide
    have : (0 : Int) < (10 : Int) ^ 59 := by decide
    omega
  refine ⟨⟨_, rfl⟩, ⟨_, rfl⟩, dip_specN hd (by decide) (by decide) fun q d hq hd => ?_⟩
  match q, hq with
  | 0, _ => exact go_ixS (d := .int (m + 1)) rfl rfl (h _ _ (it_small (by omega)) hd)
  | 1, _ => exact go_ixS (d := .int (-1)) rfl rfl (h _ _ (it_small (by decide)) hd)
  | 2, _ => exact go_ixS (d := .int ((10 : Int) ^ 59 + (r : Int))) rfl rfl (h _ _ (it_int big) hd)
  | 3, _ => exact go_ixS (d := .int (-((10 : Int) ^ 59 + (r : Int)))) rfl rfl (h _ _ (it_int (by rw [Int.natAbs_neg]; exact big)) hd)
  | 4, _ => exact go_ixS (d := .bl true) rfl rfl (h _ _ ⟨rfl, rfl, by decide, by decide⟩ hd)
  | 5, _ => exact go_ixS (d := .bl false) rfl rfl (h _ _ ⟨rfl, rfl, by decide, by decide⟩ hd)
  | 6, _ => exact go_ixS (d := .non) rfl rfl (h _ _ it_non hd)
  | 7, _ => exact go_ixS (d := .str "1") rfl rfl (h _ _ ⟨rfl, by decide +kernel, by decide, by decide⟩ hd)
  | 8, _ => exact go_ixS (d := .tup [.int 1]) rfl rfl (h _ _ ⟨rfl, by decide +kernel, by decide, by decide⟩ hd)
  | 9, _ => exact go_ixS (d := .kst [.int 1]) rfl rfl (h _ _ ⟨rfl, by decide +kernel, by decide, by decide⟩ hd)
  | 10, _ => exact go_ixS (d := .dcL []) rfl rfl (h _ _ ⟨rfl, rfl, by decide, by decide⟩ hd)
  | 11, _ => exact go_ixS (d := .int m) rfl rfl (h _ _ (it_small (by omega)) hd)
theorem rep_one {x : D} : ∀ n : Nat, (List.replicate n [x]).flatten = List.replicate n x
  | 0 => rfl
  | n + 1 => by rw [List.replicate_succ, List.flatten_cons, rep_one n]; rfl
theorem others_spec {d : D} {Q X} (hd : Bag d) (h : ∀ x d, Jb x → Bag d → Q (.fl, x) [(.ow, d)]) : cf__law_others [(.ow, d)] Q X := by
  rw [cf__law_others_eq]
  refine ⟨⟨_, rfl⟩, dip_specN hd (by decide) (by decide) fun way d hw hd => ?_⟩
  refine ⟨⟨_, rfl⟩, dip_specN hd (by decide) (by decide) fun r d hr hd => ?_⟩
  have hr : (r : Int) < 4 := hr
  refine ⟨by simp, by omega, by omega, by decide, ?_⟩
  refine ⟨by simp, by omega, by omega, by show 1 ≤ 1000; decide, ?_⟩
  have toN : ((9 : Int) + (r : Int)).toNat = 9 + r := by omega
  have i0 : It (.int 0) := it_small (by decide)
  have gr : Rw' (.tup (List.replicate ((9 : Int) + (r : Int)).toNat [D.int 0]).flatten) := by
    rw [rep_one, toN]
    exact (rw_of (by rw [List.length_replicate]; omega) fun y hy => by rw [List.eq_of_mem_replicate hy]; exact i0).1
  have gs : Sq' (.tup (List.replicate ((9 : Int) + (r : Int)).toNat [D.tup (List.replicate ((9 : Int) + (r : Int)).toNat [D.int 0]).flatten]).flatten) := by
    generalize D.tup (List.replicate ((9 : Int) + (r : Int)).toNat [D.int 0]).flatten = row at gr
    rw [rep_one, toN]
    exact (sq_of (by rw [List.length_replicate]; omega) fun y hy => by rw [List.eq_of_mem_replicate hy]; exact gr).1
  have up : ∀ {x : D}, It x → Jb x := fun hx => sq_jb (rw_sq (it_rw hx))
  have three : ∀ {x : D}, Sq' x → Jb (.tup [x, x, x]) := fun {x} hx => (jb_of (ds := [x, x, x]) (by show 3 ≤ 9; decide) fun y hy => by
    have : y = x := by simpa using hy
    rw [this]; exact hx).1
  match way, hw with
  | 0, _ => exact go_ixS (d := .non) rfl rfl (h _ _ (up it_non) hd)
  | 1, _ => exact go_ixS (d := .bl true) rfl rfl (h _ _ (up ⟨rfl, rfl, by decide, by decide⟩) hd)
  | 2, _ => exact go_ixS (d := .int 0) rfl rfl (h _ _ (up i0) hd)
  | 3, _ => exact go_ixS (d := .int 7) rfl rfl (h _ _ (up (it_small (by decide))) hd)
  | 4, _ => exact go_ixS (d := .str "job") rfl rfl (h _ _ (up ⟨rfl, by decide +kernel, by decide, by decide⟩) hd)
  | 5, _ => exact go_ixS (d := .str "") rfl rfl (h _ _ (up ⟨rfl, by decide +kernel, by decide, by decide⟩) hd)
  | 6, _ => exact go_ixS (d := .tup []) rfl rfl (h _ _ (up ⟨rfl, rfl, by decide, by decide⟩) hd)
  | 7, _ => exact go_ixS (d := .kst []) rfl rfl (h _ _ (up ⟨rfl, rfl, by decide, by decide⟩) hd)
  | 8, _ => exact go_ixS (d := .dcL []) rfl rfl (h _ _ (up ⟨rfl, rfl, by decide, by decide⟩) hd)
  | 9, _ => exact go_ixS (d := .tup [.tup [], .tup [], .tup []]) rfl rfl (h _ _ (three (rw_sq (it_rw ⟨rfl, rfl, by decide, by decide⟩))) hd)
  | 10, _ => exact go_ixS rfl rfl (h _ _ (three gs) hd)
  | 11, _ => exact go_ixS (d := .tup [.non, .non, .non]) rfl rfl (h _ _ (three (rw_sq (it_rw it_non))) hd)
  | 12, _ => exact go_ixS (d := .tup [.tup [.int 0], .tup [.int 0], .tup [.int 0]]) rfl rfl (h _ _ (three (rw_sq (rw_of (ds := [.int 0]) (by decide) fun y hy => by
      rw [List.mem_singleton.mp hy]; exact i0).1)) hd)
theorem nested_spec {d : D} {Q X} (hd : Bag d) (h : ∀ x d, It x → Bag d → Q (.fl, x) [(.ow, d)]) : cf__law_nested [(.ow, d)] Q X := by
  rw [cf__law_nested_eq]
  refine ⟨⟨_, rfl⟩, dip_specN hd (by decide) (by decide) fun v d hv hd => ?_⟩
  refine ⟨⟨_, rfl⟩, dip_specN hd (by decide) (by decide) fun r d hr hd => ?_⟩
  have hr : (r : Int) < 5 := hr
  have hv : (v : Int) < 4 := hv
  refine go_R1 (n := 1 + r) (by omega) (by omega) ?_
  refine go_For0 (fun t ρ => ∃ d x e2, Bag d ∧ Sz (71 + 5 * t) (1 + t) x ∧ ρ = [some (.ow, d), some (.fl, x), e2])
    ⟨d, .int v, none, hd, ⟨rfl, (it_small (i := (v : Int)) (by omega)).2.1, by show 71 ≤ _; omega, by show 1 ≤ _; omega⟩, rfl⟩ (fun t ρ N ht hI hN => ?_) fun ρ hI => ?_
  · obtain ⟨d, x, e2, hd, hx, rfl⟩ := hI
    have hs := sz_seq (ds := [x]) (s := 71 + 5 * t) (k := 1 + t) (L := 1) (S := 71 + 5 * (t + 1)) (by show 1 ≤ 1; decide) (by decide) (by omega) fun y hy => by
      rw [List.mem_singleton.mp hy]; exact hx
    refine ⟨⟨_, rfl⟩, dip_specN hd (by decide) (by decide) fun q d hq hd => ?_⟩
    match q, hq with
    | 0, _ => exact go_ixS (d := .tup [x]) rfl rfl (hN _ ⟨d, _, _, hd, hs.1.mono (s' := 71 + 5 * (t + 1)) (k' := 1 + (t + 1)) (Nat.le_refl _) (by omega), rfl⟩)
    | 1, _ => exact go_ixS (d := .kst [x]) rfl rfl (hN _ ⟨d, _, _, hd, hs.2.mono (s' := 71 + 5 * (t + 1)) (k' := 1 + (t + 1)) (Nat.le_refl _) (by omega), rfl⟩)
  · obtain ⟨d, x, e2, hd, hx, rfl⟩ := hI
    exact h _ _ (hx.mono (by omega) (by omega)) hd
end K01
namespace K01
open PySem PySem.Spec PyProof.Rows L2 DL PA DCB DCF
open DCA (Bag dip_spec dip_specN bag_spec)
def Row (n : Nat) (d : D) : Prop := ∃ its, d = .tup its ∧ its.length = n ∧ ∀ x ∈ its, It x
def Squ (n : Nat) (d : D) : Prop := ∃ rows, d = .tup rows ∧ rows.length = n ∧ ∀ x ∈ rows, Row n x
variable {n : Nat}
theorem row_rw {d : D} (hn : n ≤ 8) (h : Row n d) : Rw' d := by
  obtain ⟨its, rfl, hl, hi⟩ := h
  exact (rw_of (by omega) hi).1
theorem squ_sq {d : D} (hn : n ≤ 8) (h : Squ n d) : Sq' d := by
  obtain ⟨rows, rfl, hl, hi⟩ := h
  exact (sq_of (by omega) fun x hx => row_rw hn (hi x hx)).1
theorem tab_squ {f : Nat → Nat → Int} (h : DCA.Tab n 1000040 f) : Squ n (tabD n f) := by
  refine ⟨_, rfl, tabl_len, fun x hx => ?_⟩
  obtain ⟨i, hi, rfl⟩ := List.mem_map.mp hx
  refine ⟨_, rfl, tabl_len, fun y hy => ?_⟩
  obtain ⟨j, hj, rfl⟩ := List.mem_map.mp hy
  have := h i j (List.mem_range.mp hi) (List.mem_range.mp hj)
  exact it_small (by omega)
theorem job_squ {F W C : Nat → Nat → Int} (h : DCA.Job n F W C) : ∀ x ∈ [tabD n F, tabD n W, tabD n C], Squ n x := fun x hx => by
  simp only [List.mem_cons, List.not_mem_nil, or_false] at hx
  rcases hx with rfl | rfl | rfl
  · exact tab_squ h.f
  · exact tab_squ h.w
  · exact tab_squ h.c
theorem jb_set {js : List D} {w : Nat} {x : D} (hn : n ≤ 8) (h3 : js.length = 3) (hs : ∀ x ∈ js, Squ n x) (hx : Sq' x) : Jb (.tup (js.set w x)) :=
  (jb_of (by rw [List.length_set]; omega) (mem_set (fun y hy => squ_sq hn (hs y hy)) hx)).1
theorem sq_set {rows : List D} {k : Nat} {x : D} (hn : n ≤ 8) (hl : rows.length = n) (hs : ∀ x ∈ rows, Row n x) (hx : Rw' x) : Sq' (.tup (rows.set k x)) :=
  (sq_of (by rw [List.length_set]; omega) (mem_set (fun y hy => row_rw hn (hs y hy)) hx)).1
theorem rw_set {its : List D} {k : Nat} {x : D} (hn : n ≤ 8) (hl : its.length = n) (hs : ∀ x ∈ its, It x) (hx : It x) : Rw' (.tup (its.set k x)) :=
  (rw_of (by rw [List.length_set]; omega) (mem_set hs hx)).1
theorem odd_part_spec {d : D} {js : List D} {w : Nat} {Q X} (hd : Bag d) (h1 : 1 ≤ n) (hn : n ≤ 8) (h3 : js.length = 3) (hs : ∀ x ∈ js, Squ n x) (hw : w < 3) (h : ∀ x d, Jb x → Bag d → Q (.fl, x) [(.ow, d)]) :
    cf__law_odd_part [(.ow, d), (.fl, .tup js), (.fl, .int w)] Q X := by
  rw [cf__law_odd_part_eq]
  have hw' : w < js.length := by omega
  obtain ⟨rows, er, hl, hr⟩ := hs js[w] (List.getElem_mem hw')
  have e : js[w]? = some (.tup rows) := by rw [List.getElem?_eq_getElem hw', er]
  refine go_ixM (atI_nat e) rfl ?_
  refine ⟨⟨_, rfl⟩, dip_specN hd (by decide) (by decide) fun way d hy hd => ?_⟩
  refine go_R1 (n := rows.length) rfl (by omega) ?_
  refine go_Lc0 (fun i => .tup [.int i, .int 0]) (by omega) (fun i N hi hN => hN) ?_
  refine ⟨(List.range rows.length).map fun i : Nat => (some (i : Int), some 0), by rw [List.map_map]; rfl, fun L hL1 hL2 => ?_⟩
  have fL : Rw' (.dcL L) := by
    rw [List.length_map, List.length_range] at hL1
    refine ⟨rfl, List.all_eq_true.mpr fun x hx => ?_, by show 200 * L.length + 3 ≤ _; omega, by show 2 ≤ 9; decide⟩
    obtain ⟨m1, m2⟩ := hL2 x hx
    rw [List.map_map] at m1 m2
    obtain ⟨i, hi, ei⟩ := List.mem_map.mp m1
    obtain ⟨j, hj, ej⟩ := List.mem_map.mp m2
    have hi := List.mem_range.mp hi
    rw [← ei, ← ej]
    exact Bool.and_eq_true_iff.mpr ⟨decide_eq_true (Nat.lt_of_le_of_lt (show (i : Int).natAbs ≤ 8 by omega) (by decide)), by show decide ((0 : Int).natAbs < 10 ^ 70) = true; decide⟩
  have jh : ∀ {x : D} {d : D}, Rw' x → Bag d → Q (.fl, .tup (js.set w x)) [(.ow, d)] := fun hx hd => h _ _ (jb_set hn h3 hs (rw_sq hx)) hd
  have jk : ∀ {x : D} {k : Nat} {d : D}, Rw' x → Bag d → Q (.fl, .tup (js.set w (.tup (rows.set k x)))) [(.ow, d)] := fun hx hd => h _ _ (jb_set hn h3 hs (sq_set hn hl hr hx)) hd
  have up : ∀ {x : D}, It x → Rw' x := it_rw
  have hd0 : (0 : Int) < (rows.length : Int) := by omega
  have hd1 : (rows.length : Int) ≤ 1000000000000000000000000000000000000000000000000000000000000 := by omega
  match way, hy with
  | 0, _ => exact ⟨⟨by decide, by decide⟩, go_ixS (d := .non) rfl rfl ⟨by decide, put_spec rfl (by omega) hw' (jh (up it_non) hd)⟩⟩
  | 1, _ => exact ⟨⟨by decide, by decide⟩, go_ixS (d := .non) rfl rfl ⟨by decide, ⟨_, rfl⟩, dip_specN hd hd0 hd1 fun k d hk hd => put_spec rfl (by omega) (Int.ofNat_lt.mp hk) (put_spec rfl (by omega) hw' (jk (up it_non) hd))⟩⟩
  | 2, _ => exact ⟨⟨by decide, by decide⟩, go_ixS (d := .int 0) rfl rfl ⟨by decide, put_spec rfl (by omega) hw' (jh (up (it_small (by decide))) hd)⟩⟩
  | 3, _ => exact ⟨⟨by decide, by decide⟩, go_ixS (d := .int 0) rfl rfl ⟨by decide, ⟨_, rfl⟩, dip_specN hd hd0 hd1 fun k d hk hd => put_spec rfl (by omega) (Int.ofNat_lt.mp hk) (put_spec rfl (by omega) hw' (jk (up (it_small (by decide))) hd))⟩⟩
  | 4, _ => exact ⟨⟨by decide, by decide⟩, go_ixS (d := .str "0") rfl rfl ⟨by decide, put_spec rfl (by omega) hw' (jh (up ⟨rfl, by decide +kernel, by decide, by decide⟩) hd)⟩⟩
  | 5, _ => exact ⟨⟨by decide, by decide⟩, go_ixS (d := .str "0") rfl rfl ⟨by decide, ⟨_, rfl⟩, dip_specN hd hd0 hd1 fun k d hk hd => put_spec rfl (by omega) (Int.ofNat_lt.mp hk) (put_spec rfl (by omega) hw' (jk (up ⟨rfl, by decide +kernel, by decide, by decide⟩) hd))⟩⟩
  | 6, _ => exact ⟨⟨by decide, by decide⟩, go_ixS (d := .dcL []) rfl rfl ⟨by decide, put_spec rfl (by omega) hw' (jh (up ⟨rfl, rfl, by decide, by decide⟩) hd)⟩⟩
  | 7, _ => exact ⟨⟨by decide, by decide⟩, go_ixS (d := .dcL []) rfl rfl ⟨by decide, ⟨_, rfl⟩, dip_specN hd hd0 hd1 fun k d hk hd => put_spec rfl (by omega) (Int.ofNat_lt.mp hk) (put_spec rfl (by omega) hw' (jk (up ⟨rfl, rfl, by decide, by decide⟩) hd))⟩⟩
  | 8, _ => exact ⟨⟨by decide, by decide⟩, go_ixS (d := .dcL L) rfl rfl ⟨by decide, put_spec rfl (by omega) hw' (jh fL hd)⟩⟩
  | 9, _ => exact ⟨⟨by decide, by decide⟩, go_ixS (d := .dcL L) rfl rfl ⟨by decide, ⟨_, rfl⟩, dip_specN hd hd0 hd1 fun k d hk hd => put_spec rfl (by omega) (Int.ofNat_lt.mp hk) (put_spec rfl (by omega) hw' (jk fL hd))⟩⟩
  | 10, _ => exact ⟨⟨by decide, by decide⟩, go_ixS (d := .tup []) rfl rfl ⟨by decide, put_spec rfl (by omega) hw' (jh (up ⟨rfl, rfl, by decide, by decide⟩) hd)⟩⟩
  | 11, _ => exact ⟨⟨by decide, by decide⟩, go_ixS (d := .tup []) rfl rfl ⟨by decide, ⟨_, rfl⟩, dip_specN hd hd0 hd1 fun k d hk hd => put_spec rfl (by omega) (Int.ofNat_lt.mp hk) (put_spec rfl (by omega) hw' (jk (up ⟨rfl, rfl, by decide, by decide⟩) hd))⟩⟩
end K01
namespace K01
open PySem PySem.Spec PyProof.Rows L2 DL PA DCB DCF
open DCA (Bag dip_spec dip_specN bag_spec)
variable {n : Nat}
def fAdd : D → D
  | .tup its => .tup (its ++ [.int 0])
  | d => d
def fCut : D → D
  | .tup its => .tup (DL.cutD its none (some (-1)))
  | d => d
theorem other_size_spec {d : D} {js : List D} {w : Nat} {Q X} (hd : Bag d) (h1 : 1 ≤ n) (hn : n ≤ 8) (h3 : js.length = 3) (hs : ∀ x ∈ js, Squ n x) (hw : w < 3) (h : ∀ x d, Jb x → Bag d → Q (.fl, x) [(.ow, d)]) :
    cf__law_other_size [(.ow, d), (.fl, .tup js), (.fl, .int w)] Q X := by
  rw [cf__law_other_size_eq]
  have hw' : w < js.length := by omega
  obtain ⟨rows, er, hl, hr⟩ := hs js[w] (List.getElem_mem hw')
  have e : js[w]? = some (.tup rows) := by rw [List.getElem?_eq_getElem hw', er]
  have jh : ∀ {x : D} {d : D}, Sq' x → Bag d → Q (.fl, .tup (js.set w x)) [(.ow, d)] := fun hx hd => h _ _ (jb_set hn h3 hs hx) hd
  refine ⟨⟨_, rfl⟩, dip_specN hd (by decide) (by decide) fun way d hy hd => ?_⟩
  refine go_ixM (atI_nat e) rfl ?_
  refine ifd (fun c => ?_) fun c => ifd (fun c1 => ?_) fun c1 => ?_
  · refine go_LcD fAdd (by omega) (fun x N hx hN => ?_) ?_
    · obtain ⟨its, rfl, hi, hI⟩ := hr x hx
      exact ⟨by show its.length + 1 ≤ 10000000; omega, hN⟩
    · refine ⟨by simp, by show 1 ≤ (rows.length : Int) + 1; omega, by show (rows.length : Int) + 1 ≤ 1000; omega, by show 1 ≤ 1000; decide, ?_⟩
      refine ⟨by rw [List.length_map]; show rows.length + 1 ≤ 10000000; omega, ?_⟩
      refine put_spec rfl (by omega) hw' (jh ?_ hd)
      refine (sq_of (by rw [List.length_append, List.length_map]; show rows.length + 1 ≤ 24; omega) fun y hy => ?_).1
      rcases List.mem_append.mp hy with hy | hy
      · obtain ⟨x, hx, rfl⟩ := List.mem_map.mp hy
        obtain ⟨its, rfl, hi, hI⟩ := hr x hx
        refine (rw_of (by rw [List.length_append]; show its.length + 1 ≤ 24; omega) fun y hy => ?_).1
        rcases List.mem_append.mp hy with hy | hy
        · exact hI y hy
        · rw [List.mem_singleton.mp hy]; exact it_small (by decide)
      · rw [List.mem_singleton.mp hy]
        show Rw' (.tup (List.replicate ((rows.length : Int) + 1).toNat [D.int 0]).flatten)
        rw [rep_one]
        refine (rw_of (by rw [List.length_replicate]; omega) fun y hy => ?_).1
        rw [List.eq_of_mem_replicate hy]; exact it_small (by decide)
  · have l1 := cut_len (l := rows) (lo := none) (hi := some (-1))
    refine go_LcD fCut (by omega) (fun x N hx hN => ?_) ?_
    · obtain ⟨its, rfl, hi, hI⟩ := hr x (mem_cutD hx)
      exact hN
    · refine put_spec rfl (by omega) hw' (jh ?_ hd)
      refine (sq_of (by rw [List.length_map]; omega) fun y hy => ?_).1
      obtain ⟨x, hx, rfl⟩ := List.mem_map.mp hy
      obtain ⟨its, rfl, hi, hI⟩ := hr x (mem_cutD hx)
      have l2 := cut_len (l := its) (lo := none) (hi := some (-1))
      exact (rw_of (by omega) fun y hy => hI y (mem_cutD hy)).1
  · refine ⟨⟨_, rfl⟩, DCA.job_spec hd (by decide) (by decide) fun n2 F W C d hn1 hn2 hj hd => ?_⟩
    have hn2 : n2 ≤ 8 := by omega
    have hs2 := job_squ hj
    have hw2 : w < [tabD n2 F, tabD n2 W, tabD n2 C].length := hw
    have e2 : [tabD n2 F, tabD n2 W, tabD n2 C][w]? = some [tabD n2 F, tabD n2 W, tabD n2 C][w] := List.getElem?_eq_getElem hw2
    have q2 := hs2 _ (List.getElem_mem hw2)
    generalize [tabD n2 F, tabD n2 W, tabD n2 C][w] = x2 at e2 q2
    generalize ej : [tabD n2 F, tabD n2 W, tabD n2 C] = js2 at e2 hs2
    have h32 : js2.length = 3 := by rw [← ej]; rfl
    rw [show DCA.jobD n2 F W C = .tup js2 by rw [← ej]]
    refine go_ixM (atI_nat e2) rfl ?_
    refine put_spec rfl (by omega) hw' ?_
    have l1 := cut_len (l := js2) (lo := none) (hi := some (w : Int))
    have l2 := cut_len (l := js) (lo := some (w : Int)) (hi := none)
    refine ⟨by omega, ?_⟩
    have f1 : Jb (.tup (js.set w x2)) := jb_set hn h3 hs (squ_sq hn2 q2)
    have f2 : Jb (.tup (DL.cutD js2 none (some (w : Int)) ++ DL.cutD js (some (w : Int)) none)) := (jb_of (by rw [List.length_append]; omega) fun y hy => by
      rcases List.mem_append.mp hy with hy | hy
      · exact squ_sq hn2 (hs2 y (mem_cutD hy))
      · exact squ_sq hn (hs y (mem_cutD hy))).1
    match way, hy, c, c1 with
    | 0, _, c, _ => exact absurd rfl c
    | 1, _, _, c1 => exact absurd rfl c1
    | 2, _, _, _ => exact go_ixS rfl rfl (h _ _ f1 hd)
    | 3, _, _, _ => exact go_ixS rfl rfl (h _ _ f2 hd)
end K01
namespace K01
open PySem PySem.Spec PyProof.Rows L2 DL PA DCB DCF
open DCA (Bag dip_spec dip_specN bag_spec)
abbrev sp8 : SF := (sRet (eFn [false, false, false] cf__law_put (aE (eMv 1) (aE (eMv 3) (aE (eFn [false, false, false] cf__law_put (aE (eMv 4) (aE (eMv 5) (aE (eFn [false, false, false] cf__law_put (aE (eP (pOp xIx (pVar 4) (pVar 5))) (aE (eMv 6) (aE (eFn [true] cf__law_nested (aPl 0 aNil)) aNil)))) aNil)))) aNil)))))
abbrev sp7 : SF := (sSeq (sIf (teP (pTest (pOp oLt (pVar 2) (pC (.int 11))))) (sRet (eFn [true, false, false] cf__law_other_size (aPl 0 (aE (eMv 1) (aE (eMv 3) aNil))))) sNil) (sBar sp8))
abbrev sp6 : SF := (sSeq (sIf (teP (pTest (pOp oEq (pVar 2) (pC (.int 8))))) (sRet (eFn [true, false, false] cf__law_odd_part (aPl 0 (aE (eMv 1) (aE (eMv 3) aNil))))) sNil) (sBar sp7))
abbrev sp5 : SF := (sSeq (sIf (teP (pTest (pOp oEq (pVar 2) (pC (.int 7))))) (sRet (eFn [true] cf__law_others (aPl 0 aNil))) sNil) (sBar sp6))
abbrev sp4 : SF := (sSeq (sIf (teP (pTest (pOp oEq (pVar 2) (pC (.int 6))))) (sRet (eOp xIx (eLst (aE (eFn [true, false] cf__law_cut (aPl 0 (aE (eMv 1) aNil))) (aE (eP (pFn cf__law_put (gCons (pVar 1) (gCons (pVar 3) (gCons (pOp xIx (pVar 1) (pOp oSub (pVar 3) (pC (.int 1)))) gNil))))) aNil))) (eFn [true, false] DCA.cf__law_dip (aPl 0 (aE (eP (pC (.int 2))) aNil))))) sNil) (sBar sp5))
abbrev sp3 : SF := (sSeq (sIf (teP (pTest (pOp oEq (pVar 2) (pC (.int 5))))) (sRet (eFn [false, false, false] cf__law_put (aE (eMv 1) (aE (eMv 3) (aE (eFn [true, false] cf__law_cut (aPl 0 (aE (eMv 4) aNil))) aNil))))) sNil) (sBar sp4))
abbrev sp2 : SF := (sSeq (sIf (teP (pTest (pOp oEq (pVar 2) (pC (.int 4))))) (sRet (eFn [false, false, false] cf__law_put (aE (eMv 1) (aE (eMv 3) (aE (eFn [false, false, false] cf__law_put (aE (eMv 4) (aE (eMv 5) (aE (eFn [true, false] cf__law_cut (aPl 0 (aE (eP (pOp xIx (pVar 4) (pVar 5))) aNil))) aNil)))) aNil))))) sNil) (sBar sp3))
abbrev sp1 : SF := (sSeq (sIf (teP (pTest (pOp oEq (pVar 2) (pC (.int 3))))) (sRet (eFn [false, false, false] cf__law_put (aE (eMv 1) (aE (eMv 3) (aE (eFn [false, false, false] cf__law_put (aE (eMv 4) (aE (eMv 5) (aE (eFn [false, false, false] cf__law_put (aE (eP (pOp xIx (pVar 4) (pVar 5))) (aE (eMv 5) (aE (eFn [true, false] DCA.cf__law_dip (aPl 0 (aE (eP (pC (.int 1000))) aNil))) aNil)))) aNil)))) aNil))))) sNil) (sBar sp2))
abbrev sp0 : SF := (sSeq (sIf (teP (pTest (pOp oLt (pVar 2) (pC (.int 3))))) (sSeq (sSet 7 (eFn [true, false] cf__law_odd (aPl 0 (aE (eP (pOp xIx (pLst (gCons (pC (.int 999)) (gCons (pC (.int 999)) (gCons (pC (.int 1000000)) gNil)))) (pVar 3))) aNil)))) (sRet (eP (pFn cf__law_put (gCons (pVar 1) (gCons (pVar 3) (gCons (pFn cf__law_put (gCons (pVar 4) (gCons (pVar 5) (gCons (pFn cf__law_put (gCons (pOp xIx (pVar 4) (pVar 5)) (gCons (pVar 6) (gCons (pVar 7) gNil)))) gNil)))) gNil))))))) sNil) (sBar sp1))
structure Ctx (n : Nat) (js rows its : List D) (w k j : Nat) : Prop where
  h1 : 1 ≤ n
  hn : n ≤ 8
  h3 : js.length = 3
  hs : ∀ x ∈ js, Squ n x
  hw : w < 3
  ew : js[w]? = some (.tup rows)
  hl : rows.length = n
  hr : ∀ x ∈ rows, Row n x
  hk : k < n
  hj : j < n
  ek : rows[k]? = some (.tup its)
  hi : its.length = n
  hI : ∀ x ∈ its, It x
abbrev spR (d : D) (js : List D) (way w : Nat) (rows : List D) (k j : Nat) (e7 : Sl) : Ro := [some (.ow, d), some (.fl, .tup js), some (.fl, .int way), some (.fl, .int w), some (.fl, .tup rows), some (.fl, .int k), some (.fl, .int j), e7]
section
variable {n : Nat} {js rows its : List D} {w k j way : Nat} {T : DEnds} {d : D} {e7 : Sl}
theorem Ctx.one (c : Ctx n js rows its w k j) {x : D} (hx : Sq' x) : Jb (.tup (js.set w x)) := jb_set c.hn c.h3 c.hs hx
theorem Ctx.two (c : Ctx n js rows its w k j) {x : D} (hx : Rw' x) : Jb (.tup (js.set w (.tup (rows.set k x)))) := c.one (sq_set c.hn c.hl c.hr hx)
theorem Ctx.three (c : Ctx n js rows its w k j) {x : D} {i : Nat} (hx : It x) : Jb (.tup (js.set w (.tup (rows.set k (.tup (its.set i x)))))) := c.two (rw_set c.hn c.hi c.hI hx)
abbrev End (T : DEnds) : Prop := ∀ x d e1 e2 e3 e4 e5 e6 e7, Jb x → Bag d → T.rt (.fl, x) [some (.ow, d), e1, e2, e3, e4, e5, e6, e7]
theorem sp8_spec (c : Ctx n js rows its w k j) (hd : Bag d) (h : End T) : sp8 T (spR d js way w rows k j e7) := by
  have := c.hn; have := c.hl; have := c.hi; have := c.hk; have := c.hj; have := c.h3; have := c.hw
  refine go_ixM (atI_nat c.ek) rfl ?_
  refine ⟨⟨_, rfl⟩, nested_spec hd fun x d hx hd => ?_⟩
  refine put_spec rfl (by omega) (by omega) (put_spec rfl (by omega) (by omega) (put_spec rfl (by omega) (by omega) ?_))
  exact h _ _ _ _ _ _ _ _ _ (c.three hx) hd
theorem sp7_spec (c : Ctx n js rows its w k j) (hd : Bag d) (h : End T) : sp7 T (spR d js way w rows k j e7) := by
  refine ifd (fun _ => ?_) fun _ => go_next (sp8_spec c hd h)
  refine ⟨⟨_, rfl⟩, other_size_spec hd c.h1 c.hn c.h3 c.hs c.hw fun x d hx hd => ?_⟩
  exact h _ _ _ _ _ _ _ _ _ hx hd
theorem sp6_spec (c : Ctx n js rows its w k j) (hd : Bag d) (h : End T) : sp6 T (spR d js way w rows k j e7) := by
  refine ifd (fun _ => ?_) fun _ => go_next (sp7_spec c hd h)
  refine ⟨⟨_, rfl⟩, odd_part_spec hd c.h1 c.hn c.h3 c.hs c.hw fun x d hx hd => ?_⟩
  exact h _ _ _ _ _ _ _ _ _ hx hd
theorem sp5_spec (c : Ctx n js rows its w k j) (hd : Bag d) (h : End T) : sp5 T (spR d js way w rows k j e7) := by
  refine ifd (fun _ => ?_) fun _ => go_next (sp6_spec c hd h)
  refine ⟨⟨_, rfl⟩, others_spec hd fun x d hx hd => ?_⟩
  exact h _ _ _ _ _ _ _ _ _ hx hd
theorem before {js : List D} {w : Nat} (h3 : js.length = 3) (hw : w < 3) : ∃ y, L2.atI js ((w : Int) - 1) = some y ∧ y ∈ js := by
  match js, h3, w, hw with
  | [a, b, c], _, 0, _ => exact ⟨c, rfl, by simp⟩
  | [a, b, c], _, 1, _ => exact ⟨a, rfl, by simp⟩
  | [a, b, c], _, 2, _ => exact ⟨b, rfl, by simp⟩
theorem sp4_spec (c : Ctx n js rows its w k j) (hd : Bag d) (h : End T) : sp4 T (spR d js way w rows k j e7) := by
  have := c.h3; have := c.hw
  refine ifd (fun _ => ?_) fun _ => go_next (sp5_spec c hd h)
  obtain ⟨y, ey, hy⟩ := before c.h3 c.hw
  refine ⟨⟨_, rfl⟩, cut_spec hd (by omega) (by omega) fun es d hl hm hd => ?_⟩
  obtain ⟨j1, j2⟩ := jb_of (ds := es) (by omega) fun x hx => squ_sq c.hn (c.hs x (hm x hx))
  have j3 := c.one (squ_sq c.hn (c.hs y hy))
  constructor
  · refine go_ixM ey rfl (put_spec rfl (by omega) (by omega) ?_)
    refine ⟨⟨_, rfl⟩, dip_specN hd (by decide) (by decide) fun q d hq hd => ?_⟩
    match q, hq with
    | 0, _ => exact go_ixS rfl rfl (h _ _ _ _ _ _ _ _ _ j1 hd)
    | 1, _ => exact go_ixS rfl rfl (h _ _ _ _ _ _ _ _ _ j3 hd)
  · refine go_ixM ey rfl (put_spec rfl (by omega) (by omega) ?_)
    refine ⟨⟨_, rfl⟩, dip_specN hd (by decide) (by decide) fun q d hq hd => ?_⟩
    match q, hq with
    | 0, _ => exact go_ixS rfl rfl (h _ _ _ _ _ _ _ _ _ j2 hd)
    | 1, _ => exact go_ixS rfl rfl (h _ _ _ _ _ _ _ _ _ j3 hd)
theorem sp3_spec (c : Ctx n js rows its w k j) (hd : Bag d) (h : End T) : sp3 T (spR d js way w rows k j e7) := by
  have := c.h3; have := c.hw; have := c.hl; have := c.hn; have := c.h1
  refine ifd (fun _ => ?_) fun _ => go_next (sp4_spec c hd h)
  refine ⟨⟨_, rfl⟩, cut_spec hd (by omega) (by omega) fun es d hl hm hd => ?_⟩
  obtain ⟨j1, j2⟩ := sq_of (ds := es) (by omega) fun x hx => row_rw c.hn (c.hr x (hm x hx))
  exact ⟨put_spec rfl (by omega) (by omega) (h _ _ _ _ _ _ _ _ _ (c.one j1) hd), put_spec rfl (by omega) (by omega) (h _ _ _ _ _ _ _ _ _ (c.one j2) hd)⟩
theorem sp2_spec (c : Ctx n js rows its w k j) (hd : Bag d) (h : End T) : sp2 T (spR d js way w rows k j e7) := by
  have := c.h3; have := c.hw; have := c.hl; have := c.hn; have := c.h1; have := c.hi; have := c.hk
  refine ifd (fun _ => ?_) fun _ => go_next (sp3_spec c hd h)
  refine ⟨⟨_, rfl⟩, go_ixM (atI_nat c.ek) rfl (cut_spec hd (by omega) (by omega) fun es d hl hm hd => ?_)⟩
  obtain ⟨j1, j2⟩ := rw_of (ds := es) (by omega) fun x hx => c.hI x (hm x hx)
  exact ⟨put_spec rfl (by omega) (by omega) (put_spec rfl (by omega) (by omega) (h _ _ _ _ _ _ _ _ _ (c.two j1) hd)), put_spec rfl (by omega) (by omega) (put_spec rfl (by omega) (by omega) (h _ _ _ _ _ _ _ _ _ (c.two j2) hd))⟩
theorem sp1_spec (c : Ctx n js rows its w k j) (hd : Bag d) (h : End T) : sp1 T (spR d js way w rows k j e7) := by
  have := c.hn; have := c.hl; have := c.hi; have := c.hk; have := c.hj; have := c.h3; have := c.hw
  refine ifd (fun _ => ?_) fun _ => go_next (sp2_spec c hd h)
  refine go_ixM (atI_nat c.ek) rfl ?_
  refine ⟨⟨_, rfl⟩, dip_specN hd (by decide) (by decide) fun r d hr hd => ?_⟩
  have hr : (r : Int) < 1000 := hr
  refine put_spec rfl (by omega) (by omega) (put_spec rfl (by omega) (by omega) (put_spec rfl (by omega) (by omega) ?_))
  exact h _ _ _ _ _ _ _ _ _ (c.three (it_small (by omega))) hd
theorem mostAt {w : Nat} (hw : w < 3) : ∃ m : Int, L2.atI [D.int 999, D.int 999, D.int 1000000] (w : Int) = some (.int m) ∧ 0 ≤ m ∧ m ≤ 1000000 := by
  match w, hw with
  | 0, _ => exact ⟨999, rfl, by decide, by decide⟩
  | 1, _ => exact ⟨999, rfl, by decide, by decide⟩
  | 2, _ => exact ⟨1000000, rfl, by decide, by decide⟩
theorem sp0_spec (c : Ctx n js rows its w k j) (hd : Bag d) (h : End T) : sp0 T (spR d js way w rows k j e7) := by
  have := c.hn; have := c.hl; have := c.hi; have := c.hk; have := c.hj; have := c.h3; have := c.hw
  refine ifd (fun _ => ?_) fun _ => go_next (sp1_spec c hd h)
  obtain ⟨m, em, m0, m9⟩ := mostAt c.hw
  refine ⟨⟨_, rfl⟩, go_ixS rfl em (odd_spec hd m0 m9 fun x d hx hd => ?_)⟩
  refine go_ixM (atI_nat c.ek) rfl ?_
  refine put_spec rfl (by omega) (by omega) (put_spec rfl (by omega) (by omega) (put_spec rfl (by omega) (by omega) ?_))
  exact h _ _ _ _ _ _ _ _ _ (c.three hx) hd
end
theorem spoilt_spec {n : Nat} {F W C : Nat → Nat → Int} {d : D} {Q X} (hd : Bag d) (h1 : 1 ≤ n) (hn : n ≤ 8) (hj : DCA.Job n F W C) (h : ∀ x d, Jb x → Bag d → Q (.fl, x) [(.ow, d)]) : cf__law_spoilt [(.ow, d), (.fl, jobD n F W C)] Q X := by
  rw [cf__law_spoilt_eq]
  refine ⟨⟨_, rfl⟩, dip_specN hd (by decide) (by decide) fun way d hy hd => ?_⟩
  refine ⟨⟨_, rfl⟩, dip_specN hd (by decide) (by decide) fun w d hw hd => ?_⟩
  have hw : w < 3 := Int.ofNat_lt.mp hw
  have hs := job_squ hj
  have hw2 : w < [tabD n F, tabD n W, tabD n C].length := hw
  have e2 : [tabD n F, tabD n W, tabD n C][w]? = some [tabD n F, tabD n W, tabD n C][w] := List.getElem?_eq_getElem hw2
  obtain ⟨rows, er, hl, hr⟩ := hs _ (List.getElem_mem hw2)
  rw [er] at e2
  generalize ej : [tabD n F, tabD n W, tabD n C] = js at e2 hs
  have h3 : js.length = 3 := by rw [← ej]; rfl
  refine go_ixM (ds := [tabD n F, tabD n W, tabD n C]) (d := .tup rows) (by rw [ej]; exact atI_nat e2) rfl ?_
  have q0 : (0 : Int) < (rows.length : Int) := by omega
  have q1 : (rows.length : Int) ≤ 1000000000000000000000000000000000000000000000000000000000000 := by omega
  refine ⟨⟨_, rfl⟩, dip_specN hd q0 q1 fun k d hk hd => ?_⟩
  refine ⟨⟨_, rfl⟩, dip_specN hd q0 q1 fun j d hj2 hd => ?_⟩
  have hk : k < rows.length := Int.ofNat_lt.mp hk
  have hj2 : j < rows.length := Int.ofNat_lt.mp hj2
  obtain ⟨its, ei, hi, hI⟩ := hr _ (List.getElem_mem hk)
  have c : Ctx n js rows its w k j := ⟨h1, hn, h3, hs, hw, e2, hl, hr, by omega, by omega, by rw [List.getElem?_eq_getElem hk, ei], hi, hI⟩
  show kNext sp0 _ [some (.ow, d), some (.fl, .tup [tabD n F, tabD n W, tabD n C]), some (.fl, .int way), some (.fl, .int w), some (.fl, .tup rows), some (.fl, .int k), some (.fl, .int j), none]
  rw [ej]
  exact go_next (sp0_spec c hd fun x d e1 e2 e3 e4 e5 e6 e7 hx hd => h _ _ hx hd)
end K01
namespace K01
open PySem PySem.Spec PyProof.Rows L2 DL PA DCB DCF
open DCA (Bag dip_spec dip_specN bag_spec)
abbrev wl0 : SF := (sSeq (sSet 5 (eP (pCall oReprM (gCons (pVar 4) gNil)))) (sSeq (sSet 6 (eP (pFn DCF.cf_is_job (gCons (pVar 4) gNil)))) (sIf (teP (tOr (tNot (pTest (pIsI .bool (pVar 6)))) (tOr (pTest (pOp oNe (pCall oReprM (gCons (pVar 4) gNil)) (pVar 5))) (pTest (pOp oNe (pVar 6) (pFn cf__law_is_job (gCons (pVar 4) gNil))))))) (sRet (eP (pC (.bl false)))) sNil)))
theorem law_spec {ns : List Int} (hl : ns.length ≤ 63) : cf_law [(.fl, .kst (ns.map .int))] (fun z _ => z = (.fl, .bl true)) (fun _ _ => False) := by
  rw [cf_law_eq]
  refine bag_spec hl fun d hd => ?_
  refine ⟨⟨_, rfl⟩, DCA.job_spec hd (by decide) (by decide) fun n F W C d hn1 hn hj hd => ?_⟩
  have hn8 : n ≤ 8 := by omega
  have jj : Jb (jobD n F W C) := (jb_of (ds := [tabD n F, tabD n W, tabD n C]) (by show 3 ≤ 9; decide) fun x hx => squ_sq hn8 (job_squ hj x hx)).1
  refine go_R1 (n := 10) rfl (by decide) ?_
  refine go_For0 (fun t ρ => ∃ d e3 e4 e5 e6, Bag d ∧ ρ = [some (.fl, .kst (ns.map .int)), some (.ow, d), some (.fl, jobD n F W C), e3, e4, e5, e6])
    ⟨d, none, none, none, none, hd, rfl⟩ (fun t ρ N ht hI hN => ?_) fun ρ hI => ?_
  · obtain ⟨d, e3, e4, e5, e6, hd, rfl⟩ := hI
    refine ⟨⟨_, rfl⟩, spoilt_spec hd hn1 hn8 hj fun x d hx hd => ?_⟩
    have key : ∀ {x : D} {N' : DEnds}, Jb x → (∀ ρ, N ρ → N'.nx ρ) → wl0 N' [some (.fl, .kst (ns.map .int)), some (.ow, d), some (.fl, jobD n F W C), some (.fl, .int t), some (.fl, x), e5, e6] := fun {x N'} hx hN' => by
      refine ⟨⟨hx.2.1, hx.2.2.1, hx.2.2.2⟩, ?_⟩
      refine job_mix hx.1 fun b hb => ?_
      refine ⟨⟨hx.2.1, hx.2.2.1, hx.2.2.2⟩, ?_⟩
      refine ifdn (fun c => absurd rfl c) fun _ => ?_
      refine own_job hx.1 fun c hc => ?_
      have e : b = c := Bool.eq_iff_iff.mpr (hb.trans hc.symm)
      subst e
      refine ifdn (fun c => absurd rfl c) fun _ => ?_
      exact hN' _ (hN _ ⟨d, _, _, _, _, hd, rfl⟩)
    refine ifd (fun c => ?_) fun c => ?_
    · show kNext wl0 _ [some (.fl, .kst (ns.map .int)), some (.ow, d), some (.fl, jobD n F W C), some (.fl, .int t), some (.fl, jobD n F W C), e5, e6]
      exact go_next (key jj fun ρ h => h)
    · show kNext wl0 _ [some (.fl, .kst (ns.map .int)), some (.ow, d), some (.fl, jobD n F W C), some (.fl, .int t), some (.fl, x), e5, e6]
      exact go_next (key hx fun ρ h => h)
  · obtain ⟨d, e3, e4, e5, e6, hd, rfl⟩ := hI
    exact rfl
end K01

open PySem PySem.W PySem.Calls PyProof.Rows
theorem PySem.Challenge.cw_spotlay_k01_what_is_a_job_holds : PySem.Challenge.rw_spotlay_k01_what_is_a_job.Holds := by
  w_on; o_law
  refine HandSHeadRun.head_any (r := OpenLaw.row PySem.Challenge.rw_spotlay_k01_what_is_a_job) (q := view (OpenLaw.row PySem.Challenge.rw_spotlay_k01_what_is_a_job).prog [25]) (H := K01.hk) (ob := K01.ob) (M := 6000) (loose := K01.loose)
    (d := HandSHeadRun.topDef (OpenLaw.row PySem.Challenge.rw_spotlay_k01_what_is_a_job).prog 25) (kwd := []) K01.ob_eq
    (by kernel_rfl) (fun s => by kernel_rfl) K01.run (by kernel_rfl) (by kernel_rfl) (by kernel_rfl) (by rfl)
    (by first | assumption | decide +kernel) (by decide +kernel) ⟨rfl, rfl, rfl, rfl, rfl, by decide +kernel⟩ ?hw ?hc
  case hw => w_witness2
  case hc =>
    refine DL.walk_ofG (l := PySem.Challenge.rw_spotlay_k01_what_is_a_job) (n := 63) (k := 7) (x := "script") (CX := fun _ => L2.CX0) rfl (by decide) (by kernel_rfl) ⟨rfl, by decide, by decide⟩ ?F (fun _ _ _ _ _ z => z)
    intro w mg fa h Y G hmg0
    obtain ⟨K, KX, c, l⟩ := Y
    have hmg : mg ("law" : PySem.Str) = some (.ref fa) := by
      have e : (HandSHeadRun.topDef (OpenLaw.row PySem.Challenge.rw_spotlay_k01_what_is_a_job).prog 25).name = ("law" : PySem.Str) := by kernel_rfl
      rw [← e]
      exact hmg0
    obtain ⟨L, rfl⟩ := K01.facts KX G hmg c l
    exact ⟨K, DL.spOf K 1 [false] K01.cf_law, KX, fun H a ns hl hO hS => DL.law_in hO hS (K01.law_spec hl), fun base _ _ => K01.ok_law L⟩
