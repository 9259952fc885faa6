import PyProof.Rows.All
import Wide.All
import OpenK.AllK
import Wide.FinOn
import HandS.ForMost
import HandS.HeadHook2
import KE.KDictKeyed
import HandS.TupAny
import HandS.TupMul
import HandS.Wide
import HandS.IsInst
import HandS.Walk
import HandS.Zip
import HandS.Defaults
import HandS.WordsExc
import HandS.SetFor
import HandS.Conv
import HandS.Ends
import KE.GoesMore
import PyProof.ReprLen
import PyProof.ReprRoads
import HandS.SortInts
import KE.KSortRegAny
import HandS.Exc
import HandS.ExcOwn
import HandS.TryOnly
import PyProof.ExcBaseAll.ValueError
import KE.GoesZip
import KE.GoesEnum
import HandS.Text
import HandS.Iter
import HandS.Small
import KE.KIndexOf
import PyProof.WalkInts
import HandS.Dict
import KE.KDictDisplayH
import KE.KDictWalk
import HandS.Style
import PyProof.AutoSeq1
import KE.DataMinMax
import KE.SortData
import HandS.Deep
import KE.KRevSl
import HandS.ExcIs
import HandS.ExcValue
import PyProof.SumAny
import PyProof.Rows.TupAdd
import HandS.TupLen
import HandS.TupLe
import HandS.DictEq
import KE.KDictCopyH
import KE.KDictOf
import HandS.DictTup
import KE.SortKeyHeap
import HandS.SortKw
import HandS.HeadHook3
import PyProof.Rows.TupIter
import HandS.HeadHook1
import HandS.Head2
import PyProof.CallFns
import PyProof.FString5
import PyProof.Rows.CountFlat
import PyProof.EqKinds
import PyProof.NeKinds
import PyProof.FactsAll.dict
import PyProof.FactsAll.subtypes
import HandS.TupSets
import KE.KDictPairs
import KE.KeyNested
import HandS.Head0
import HandS.Head1
import HandS.HeadEnd
import PySem.Challenge.RW_spotlay_k48_how_many_unlike
set_option Elab.async false
set_option linter.all false
set_option maxRecDepth 100000
set_option maxHeartbeats 0
namespace DL
open PySem PySem.Spec PyProof.Rows L2

inductive D where
  | non | bl (b : Bool) | int (i : Int) | str (x : Str)
  | tup (xs : List D) | lst (xs : List D) | kst (xs : List D)
  | dcT (ks : List (List Key)) (vs : List D) | dcK (ks : List Key) (vs : List D)
  | obj (C : Str) (ns : List Str) (vs : List D)
  | frz (d : D)
  | fn (x : Str) | ad (a : Addr) | lsA (a : Addr) (xs : List D) | key (ns : List Int) | tpx (ns : List Int) | exn (C : Str) | lkT (kvs : List (List Int × Int)) | any
  | dcL (kvs : List (Option Int × Option Int)) | dcN (kvs : List (NestedKey × V))

inductive Kd where
  | fl | sh | ow | sa | rd
  deriving DecidableEq
abbrev KD := Kd × D
abbrev Sl := Option KD
abbrev Frg := PySem.W.Frag

def Imm : HO → Prop
  | .tup _ => True
  | .frz _ _ => True
  | _ => False
def Keep (A : Addr → Prop) (H H' : Hp) : Prop := ∀ a o, H a = some o → (A a ∨ Imm o) → H' a = some o
theorem Keep.of_same {A : Addr → Prop} {H H' : Hp} (s : Same H H') : Keep A H H' := fun a o e _ => s a o e

def ImV : Option Int → Value → Prop
  | none, u => u = .none
  | some i, u => ∃ t, u = .int i t
def DcE : List (Option Int × Option Int) → List DictEntry → Prop
  | [], es => es = []
  | kv :: kvs, es => ∃ e r, es = e :: r ∧ ImV kv.1 e.key ∧ ImV kv.2 e.val ∧ DcE kvs r
def DcL (p : Addr) (o : Obj) (kvs : List (Option Int × Option Int)) : Prop := (p == sysModules) = false ∧ o.ExactDict ∧ ∃ es ep, o.data = .dict es ep ∧ DcE kvs es.toList
def EntN : List (NestedKey × V) → List Addr → List DictEntry → Prop
  | [], as, es => as = [] ∧ es = []
  | kv :: kvs, as, es => ∃ a r e q, as = a :: r ∧ es = e :: q ∧ (∀ w : World, e.hash = kv.1.hash w) ∧ e.key = .ref a ∧ RelV kv.2 e.val ∧ EntN kvs r q
def RawN (p : Addr) (kvs : List (NestedKey × V)) (as : List Addr) (h : Heap) : Prop := ∃ o es ep, h.get? p = some o ∧ (p == sysModules) = false ∧ o.ExactDict ∧ o.data = .dict es ep ∧ EntN kvs as es.toList ∧ (kvs.map (·.1)).Nodup
mutual
def NkV (K : Frg) (H : Hp) : NestedKey → V → Prop
  | .num i, v => v = .int i
  | .tup ks, v => ∃ a vs, v = .ref a ∧ SqT K H a vs ∧ NkVs K H ks vs
  | .none, _ => False
  | .text _, _ => False
def NkVs (K : Frg) (H : Hp) : List NestedKey → List V → Prop
  | [], vs => vs = []
  | k :: ks, vs => ∃ w ws, vs = w :: ws ∧ NkV K H k w ∧ NkVs K H ks ws
end
def NkA (K : Frg) (H : Hp) : List (NestedKey × V) → List Addr → Prop
  | [], as => as = []
  | kv :: kvs, as => ∃ a r, as = a :: r ∧ (NkV K H kv.1 (.ref a) ∧ kv.1.depth ≤ 8) ∧ NkA K H kvs r

mutual
def RA (K : Frg) (A : Addr → Prop) (H : Hp) : D → V → Prop
  | .non, v => v = .non
  | .bl b, v => v = .bl b
  | .int i, v => v = .int i
  | .str x, v => v = .str x
  | .fn x, v => v = .ref (He.ga K x)
  | .ad a, v => v = .ref a
  | .key ns, v => ∃ p, v = .ref p ∧ H p = some (.tup (ns.map V.int))
  | .tpx ns, v => ∃ p o, v = .ref p ∧ H p = some (.frz o (.tup (ns.map V.int))) ∧ o.dict = none
  | .exn C, v => ∃ p o, v = .ref p ∧ H p = some (.frz o (.ext fun h => h.get? p = some o)) ∧ o.cls = .ref (He.ga K C) ∧ o.dict = none ∧ ∃ vs, o.data = .fields vs
  | .lkT kvs, v => ∃ p o, v = .ref p ∧ H p = some (.frz o (.dT (kvs.map fun x => (x.1.map Sum.inl, V.int x.2))))
  | .any, v => v ≠ .non
  | .dcL kvs, v => ∃ p o, v = .ref p ∧ (∃ u, H p = some (.frz o u)) ∧ DcL p o kvs
  | .dcN kvs, v => ∃ p as, v = .ref p ∧ A p ∧ H p = some (.ext (RawN p kvs as)) ∧ NkA K H kvs as
  | .tup ds, v => ∃ p vs, v = .ref p ∧ SqT K H p vs ∧ RAs K A H ds vs
  | .lst ds, v => ∃ p vs, v = .ref p ∧ A p ∧ H p = some (.lst vs) ∧ RAs K A H ds vs
  | .lsA a ds, v => v = .ref a ∧ A a ∧ ∃ vs, H a = some (.lst vs) ∧ RAs K A H ds vs
  | .kst ds, v => ∃ p vs, v = .ref p ∧ SqL K (fun a => match H a with | some (.frz o u) => some (.frz o u) | _ => none) p vs ∧ RAs K A H ds vs
  | .dcT ks ds, v => ∃ p kvs, v = .ref p ∧ A p ∧ Rd H p (.dT kvs) ∧ kvs.map (·.1) = ks ∧ RAs K A H ds (kvs.map (·.2))
  | .dcK ks ds, v => ∃ p kvs, v = .ref p ∧ A p ∧ Rd H p (.dK kvs) ∧ kvs.map (·.1) = ks ∧ RAs K A H ds (kvs.map (·.2))
  | .obj C ns ds, v => ∃ p dx fs, v = .ref p ∧ A p ∧ H p = some (.ins (He.ga K C) dx fs) ∧ fs.map (·.1) = ns ∧ RAs K A H ds (fs.map (·.2))
  | .frz d, v => RA K A H d v
def RAs (K : Frg) (A : Addr → Prop) (H : Hp) : List D → List V → Prop
  | [], vs => vs = []
  | d :: ds, vs => ∃ w ws, vs = w :: ws ∧ RA K A H d w ∧ RAs K A H ds ws
end

mutual
def R (K : Frg) (A : Addr → Prop) (H : Hp) : D → V → List Addr → Prop
  | .tup ds, v, fp => ∃ p vs, v = .ref p ∧ SqT K H p vs ∧ Rs K A H ds vs fp
  | .lst ds, v, fp => ∃ p vs fps, v = .ref p ∧ fp = p :: fps ∧ H p = some (.lst vs) ∧ Rs K A H ds vs fps
  | .dcT ks ds, v, fp => ∃ p kvs fps, v = .ref p ∧ fp = p :: fps ∧ H p = some (.dT kvs) ∧ kvs.map (·.1) = ks ∧ Rs K A H ds (kvs.map (·.2)) fps
  | .dcK ks ds, v, fp => ∃ p kvs fps, v = .ref p ∧ fp = p :: fps ∧ H p = some (.dK kvs) ∧ kvs.map (·.1) = ks ∧ Rs K A H ds (kvs.map (·.2)) fps
  | .obj C ns ds, v, fp => ∃ p dx fs fps, v = .ref p ∧ fp = p :: fps ∧ H p = some (.ins (He.ga K C) dx fs) ∧ fs.map (·.1) = ns ∧ Rs K A H ds (fs.map (·.2)) fps
  | .dcN kvs, v, fp => ∃ p as, v = .ref p ∧ fp = [p] ∧ H p = some (.ext (RawN p kvs as)) ∧ NkA K H kvs as
  | .frz d, v, fp => fp = [] ∧ RA K A H d v
  | d, v, fp => fp = [] ∧ RA K (fun _ => False) H d v
def Rs (K : Frg) (A : Addr → Prop) (H : Hp) : List D → List V → List Addr → Prop
  | [], vs, fp => vs = [] ∧ fp = []
  | d :: ds, vs, fp => ∃ w ws f1 f2, vs = w :: ws ∧ fp = f1 ++ f2 ∧ R K A H d w f1 ∧ Rs K A H ds ws f2
end

section
variable {K : Frg} {A B : Addr → Prop} {H H' : Hp}
theorem Rd.keep {p : Addr} {u : HO} (k : Keep A H H') (ha : A p) (r : Rd H p u) : Rd H' p u := by
  rcases r with r | ⟨o, r⟩
  · exact .inl (k _ _ r (.inl ha))
  · exact .inr ⟨o, k _ _ r (.inl ha)⟩
theorem SqT.keep {p : Addr} {vs : List V} (k : Keep A H H') (r : SqT K H p vs) : SqT K H' p vs := by
  rcases r with (r | ⟨o, r⟩) | r
  · exact .inl (.inl (k _ _ r (.inr trivial)))
  · exact .inl (.inr ⟨o, k _ _ r (.inr trivial)⟩)
  · exact .inr r
abbrev lockd (H : Hp) : Hp := fun a => match H a with | some (.frz o u) => some (.frz o u) | _ => none
mutual
theorem NkV.keep {K : Frg} {A : Addr → Prop} {H H' : Hp} (k : Keep A H H') : ∀ (d : NestedKey) (v : V), NkV K H d v → NkV K H' d v
  | .num _, _, h => h
  | .tup ks, _, ⟨a, vs, e, t, r⟩ => ⟨a, vs, e, SqT.keep k t, NkVs.keep k ks vs r⟩
  | .none, _, h => h
  | .text _, _, h => h
theorem NkVs.keep {K : Frg} {A : Addr → Prop} {H H' : Hp} (k : Keep A H H') : ∀ (d : List NestedKey) (v : List V), NkVs K H d v → NkVs K H' d v
  | [], _, h => h
  | d :: ds, _, ⟨w, ws, e, h, r⟩ => ⟨w, ws, e, NkV.keep k d w h, NkVs.keep k ds ws r⟩
end
theorem NkA.keep {K : Frg} {A : Addr → Prop} {H H' : Hp} (k : Keep A H H') : ∀ (d : List (NestedKey × V)) (v : List Addr), NkA K H d v → NkA K H' d v
  | [], _, h => h
  | d :: ds, _, ⟨a, r, e, ⟨h, z⟩, q⟩ => ⟨a, r, e, ⟨NkV.keep k _ _ h, z⟩, NkA.keep k ds r q⟩
theorem lockd_some {a : Addr} {x : HO} (h : lockd H a = some x) : H a = some x ∧ ∃ o u, x = .frz o u := by
  unfold lockd at h
  split at h
  · rename_i o u e
    cases h
    exact ⟨e, o, u, rfl⟩
  · cases h
theorem lockd_mk {a : Addr} {o : Obj} {u : HO} (h : H a = some (.frz o u)) : lockd H a = some (.frz o u) := by
  unfold lockd; rw [h]
theorem kst_keep {p : Addr} {vs : List V} (k : Keep A H H') (r : SqL K (lockd H) p vs) : SqL K (lockd H') p vs := by
  rcases r with (r | ⟨o, r⟩) | r
  · obtain ⟨_, o, u, e⟩ := lockd_some r
    cases e
  · exact .inl (.inr ⟨o, lockd_mk (k _ _ (lockd_some r).1 (.inr trivial))⟩)
  · exact .inr r
theorem kst_seq {p : Addr} {vs : List V} (r : SqL K (lockd H) p vs) : SqL K H p vs := by
  rcases r with (r | ⟨o, r⟩) | r
  · obtain ⟨_, o, u, e⟩ := lockd_some r
    cases e
  · exact .inl (.inr ⟨o, (lockd_some r).1⟩)
  · exact .inr r

mutual
theorem RA.keep (k : Keep A H H') : ∀ (d : D) (v : V), RA K A H d v → RA K A H' d v
  | .non, _, h => h
  | .bl _, _, h => h
  | .int _, _, h => h
  | .str _, _, h => h
  | .fn _, _, h => h
  | .ad _, _, h => h
  | .key _, _, ⟨p, e, t⟩ => ⟨p, e, k _ _ t (.inr trivial)⟩
  | .tpx _, _, ⟨p, o, e, t, z⟩ => ⟨p, o, e, k _ _ t (.inr trivial), z⟩
  | .exn _, _, ⟨p, o, e, t, z⟩ => ⟨p, o, e, k _ _ t (.inr trivial), z⟩
  | .dcL _, _, ⟨p, o, e, ⟨u, t⟩, z⟩ => ⟨p, o, e, ⟨u, k _ _ t (.inr trivial)⟩, z⟩
  | .dcN _, _, ⟨p, as, e, a, t, z⟩ => ⟨p, as, e, a, k _ _ t (.inl a), NkA.keep k _ _ z⟩
  | .lkT _, _, ⟨p, o, e, t⟩ => ⟨p, o, e, k _ _ t (.inr trivial)⟩
  | .any, _, h => h
  | .tup ds, _, ⟨p, vs, e, t, r⟩ => ⟨p, vs, e, SqT.keep k t, RAs.keep k ds vs r⟩
  | .lst ds, _, ⟨p, vs, e, a, t, r⟩ => ⟨p, vs, e, a, k _ _ t (.inl a), RAs.keep k ds vs r⟩
  | .lsA _ ds, _, ⟨e, a, vs, t, r⟩ => ⟨e, a, vs, k _ _ t (.inl a), RAs.keep k ds vs r⟩
  | .kst ds, _, ⟨p, vs, e, t, r⟩ => ⟨p, vs, e, kst_keep k t, RAs.keep k ds vs r⟩
  | .dcT ks ds, _, ⟨p, vs, e, a, t, q, r⟩ => ⟨p, vs, e, a, Rd.keep k a t, q, RAs.keep k ds _ r⟩
  | .dcK ks ds, _, ⟨p, vs, e, a, t, q, r⟩ => ⟨p, vs, e, a, Rd.keep k a t, q, RAs.keep k ds _ r⟩
  | .obj C ns ds, _, ⟨p, dx, fs, e, a, t, q, r⟩ => ⟨p, dx, fs, e, a, k _ _ t (.inl a), q, RAs.keep k ds _ r⟩
  | .frz d, v, h => RA.keep k d v h
theorem RAs.keep (k : Keep A H H') : ∀ (ds : List D) (vs : List V), RAs K A H ds vs → RAs K A H' ds vs
  | [], _, h => h
  | d :: ds, _, ⟨w, ws, e, h, r⟩ => ⟨w, ws, e, RA.keep k d w h, RAs.keep k ds ws r⟩
end
mutual
theorem RA.mono (m : ∀ a, A a → B a) : ∀ (d : D) (v : V), RA K A H d v → RA K B H d v
  | .non, _, h => h
  | .bl _, _, h => h
  | .int _, _, h => h
  | .str _, _, h => h
  | .fn _, _, h => h
  | .ad _, _, h => h
  | .key _, _, h => h
  | .tpx _, _, h => h
  | .exn _, _, h => h
  | .dcL _, _, h => h
  | .dcN _, _, ⟨p, as, e, a, z⟩ => ⟨p, as, e, m _ a, z⟩
  | .lkT _, _, h => h
  | .any, _, h => h
  | .tup ds, _, ⟨p, vs, e, t, r⟩ => ⟨p, vs, e, t, RAs.mono m ds vs r⟩
  | .lst ds, _, ⟨p, vs, e, a, t, r⟩ => ⟨p, vs, e, m _ a, t, RAs.mono m ds vs r⟩
  | .lsA _ ds, _, ⟨e, a, vs, t, r⟩ => ⟨e, m _ a, vs, t, RAs.mono m ds vs r⟩
  | .kst ds, _, ⟨p, vs, e, t, r⟩ => ⟨p, vs, e, t, RAs.mono m ds vs r⟩
  | .dcT ks ds, _, ⟨p, vs, e, a, t, q, r⟩ => ⟨p, vs, e, m _ a, t, q, RAs.mono m ds _ r⟩
  | .dcK ks ds, _, ⟨p, vs, e, a, t, q, r⟩ => ⟨p, vs, e, m _ a, t, q, RAs.mono m ds _ r⟩
  | .obj C ns ds, _, ⟨p, dx, fs, e, a, t, q, r⟩ => ⟨p, dx, fs, e, m _ a, t, q, RAs.mono m ds _ r⟩
  | .frz d, v, h => RA.mono m d v h
theorem RAs.mono (m : ∀ a, A a → B a) : ∀ (ds : List D) (vs : List V), RAs K A H ds vs → RAs K B H ds vs
  | [], _, h => h
  | d :: ds, _, ⟨w, ws, e, h, r⟩ => ⟨w, ws, e, RA.mono m d w h, RAs.mono m ds ws r⟩
end
end

def Mu : HO → Prop
  | .lst _ => True
  | .dT _ => True
  | .dK _ => True
  | .ins _ _ _ => True
  | .ext _ => True
  | _ => False
theorem Mu.notImm : ∀ {o : HO}, Mu o → ¬ Imm o := by
  intro o h1 h2; cases o <;> first | exact h1 | exact h2
abbrev No : Addr → Prop := fun _ => False
section
variable {K : Frg} {A B : Addr → Prop} {H H' : Hp}
theorem RA.same (s : Same H H') {d : D} {v : V} (h : RA K A H d v) : RA K A H' d v := RA.keep (Keep.of_same s) d v h
theorem RA.no {d : D} {v : V} (h : RA K No H d v) : RA K A H d v := RA.mono (fun _ z => z.elim) d v h
theorem RAs.no {ds : List D} {vs : List V} (h : RAs K No H ds vs) : RAs K A H ds vs := RAs.mono (fun _ z => z.elim) ds vs h
theorem RAs.same (s : Same H H') {d : List D} {v : List V} (h : RAs K A H d v) : RAs K A H' d v := RAs.keep (Keep.of_same s) d v h
theorem RAs.nil : RAs K A H [] [] := rfl
theorem RAs.cons {d : D} {v : V} {ds : List D} {vs : List V} (h : RA K A H d v) (t : RAs K A H ds vs) : RAs K A H (d :: ds) (v :: vs) := ⟨v, vs, rfl, h, t⟩
theorem RAs.len : ∀ {ds : List D} {vs : List V}, RAs K A H ds vs → vs.length = ds.length
  | [], _, h => by rw [show _ = [] from h]; rfl
  | d :: ds, _, ⟨w, ws, e, _, t⟩ => by rw [e, List.length_cons, List.length_cons, RAs.len t]
theorem RAs.get : ∀ {ds : List D} {vs : List V} {j : Nat} {d : D}, RAs K A H ds vs → ds[j]? = some d → ∃ w, vs[j]? = some w ∧ RA K A H d w
  | [], _, _, _, _, e => by simp at e
  | d :: ds, _, 0, x, ⟨w, ws, e, h, t⟩, q => by
    have : d = x := Option.some.inj q
    subst this e
    exact ⟨w, rfl, h⟩
  | d :: ds, _, j + 1, x, ⟨w, ws, e, h, t⟩, q => by
    subst e
    exact RAs.get (j := j) t q
theorem RAs.append : ∀ {ds es : List D} {vs ws : List V}, RAs K A H ds vs → RAs K A H es ws → RAs K A H (ds ++ es) (vs ++ ws)
  | [], _, _, _, h, t => by rw [show _ = [] from h]; exact t
  | d :: ds, _, _, _, ⟨w, ws, e, h, t⟩, q => by subst e; exact .cons h (RAs.append t q)
theorem RAs.one {d : D} {v : V} (h : RA K A H d v) : RAs K A H [d] [v] := .cons h .nil
theorem RAs.set : ∀ {ds : List D} {vs : List V} {j : Nat} {d : D} {w : V}, RAs K A H ds vs → RA K A H d w → RAs K A H (ds.set j d) (vs.set j w)
  | [], _, _, _, _, h, _ => by rw [show _ = [] from h]; exact .nil
  | d :: ds, _, 0, x, _, ⟨w, ws, e, h, t⟩, q => by subst e; exact .cons q t
  | d :: ds, _, j + 1, x, _, ⟨w, ws, e, h, t⟩, q => by subst e; exact .cons h (RAs.set t q)
theorem RAs.take : ∀ {ds : List D} {vs : List V} (n : Nat), RAs K A H ds vs → RAs K A H (ds.take n) (vs.take n)
  | _, _, 0, _ => by simp; exact .nil
  | [], _, n + 1, h => by rw [show _ = [] from h]; exact .nil
  | d :: ds, _, n + 1, ⟨w, ws, e, h, t⟩ => by subst e; exact .cons h (RAs.take n t)
theorem RAs.drop : ∀ {ds : List D} {vs : List V} (n : Nat), RAs K A H ds vs → RAs K A H (ds.drop n) (vs.drop n)
  | _, _, 0, h => h
  | [], _, n + 1, h => by rw [show _ = [] from h]; exact .nil
  | d :: ds, _, n + 1, ⟨w, ws, e, h, t⟩ => by subst e; exact RAs.drop n t
theorem RAs.eraseIdx {ds : List D} {vs : List V} (n : Nat) (h : RAs K A H ds vs) : RAs K A H (ds.eraseIdx n) (vs.eraseIdx n) := by
  rw [List.eraseIdx_eq_take_drop_succ, List.eraseIdx_eq_take_drop_succ]
  exact (h.take n).append (h.drop (n + 1))
theorem RAs.dropLast {ds : List D} {vs : List V} (h : RAs K A H ds vs) : RAs K A H ds.dropLast vs.dropLast := by
  rw [List.dropLast_eq_take, List.dropLast_eq_take, h.len]
  exact h.take _
theorem RA.int {i : Int} : RA K A H (.int i) (.int i) := rfl
theorem RA.bl {i : Bool} : RA K A H (.bl i) (.bl i) := rfl
theorem RA.str {i : Str} : RA K A H (.str i) (.str i) := rfl
theorem RA.non : RA K A H .non .non := rfl

def KeepF (A : Addr → Prop) (fp : List Addr) (H H' : Hp) : Prop := ∀ a o, H a = some o → (a ∈ fp ∨ A a ∨ Imm o) → H' a = some o
theorem KeepF.keep {fp : List Addr} (k : KeepF A fp H H') : Keep A H H' := fun a o e h => k a o e (.inr h)
theorem KeepF.of_same {fp : List Addr} (s : Same H H') : KeepF A fp H H' := fun a o e _ => s a o e
theorem KeepF.no {fp : List Addr} (k : KeepF A fp H H') : KeepF No fp H H' := fun a o e h => k a o e (by rcases h with h | h | h; exact .inl h; exact h.elim; exact .inr (.inr h))
theorem KeepF.sub {f g : List Addr} (k : KeepF A f H H') (s : ∀ a ∈ g, a ∈ f) : KeepF A g H H' := fun a o e h => k a o e (h.imp (s a) id)
theorem Keep.no (k : Keep A H H') : Keep No H H' := fun a o e h => k a o e (h.imp (fun z => z.elim) id)
mutual
theorem R.keep : ∀ (d : D) (v : V) (fp : List Addr), KeepF A fp H H' → R K A H d v fp → R K A H' d v fp
  | .non, _, _, _, h => h
  | .bl _, _, _, _, h => h
  | .int _, _, _, _, h => h
  | .str _, _, _, _, h => h
  | .fn _, _, _, _, h => h
  | .ad _, _, _, _, h => h
  | .key ns, v, _, k, ⟨e, h⟩ => ⟨e, RA.keep k.keep.no (.key ns) v h⟩
  | .tpx ns, v, _, k, ⟨e, h⟩ => ⟨e, RA.keep k.keep.no (.tpx ns) v h⟩
  | .exn C, v, _, k, ⟨e, h⟩ => ⟨e, RA.keep k.keep.no (.exn C) v h⟩
  | .dcL C, v, _, k, ⟨e, h⟩ => ⟨e, RA.keep k.keep.no (.dcL C) v h⟩
  | .dcN _, _, fp, k, ⟨p, as, e, e2, t, z⟩ => ⟨p, as, e, e2, k _ _ t (.inl (by rw [e2]; exact List.mem_cons_self)), NkA.keep k.keep _ _ z⟩
  | .lkT ns, v, _, k, ⟨e, h⟩ => ⟨e, RA.keep k.keep.no (.lkT ns) v h⟩
  | .any, _, _, _, h => h
  | .kst ds, v, _, k, ⟨e, h⟩ => ⟨e, RA.keep k.keep.no (.kst ds) v h⟩
  | .tup ds, _, fp, k, ⟨p, vs, e, t, r⟩ => ⟨p, vs, e, SqT.keep k.keep t, Rs.keep ds vs fp k r⟩
  | .lst ds, _, fp, k, ⟨p, vs, fps, e, e2, t, r⟩ => ⟨p, vs, fps, e, e2, k _ _ t (.inl (by rw [e2]; exact List.mem_cons_self)), Rs.keep ds vs fps (k.sub fun a h => by rw [e2]; exact List.mem_cons_of_mem _ h) r⟩
  | .lsA _ _, _, _, _, ⟨_, h⟩ => h.2.1.elim
  | .dcT ks ds, _, fp, k, ⟨p, vs, fps, e, e2, t, q, r⟩ => ⟨p, vs, fps, e, e2, k _ _ t (.inl (by rw [e2]; exact List.mem_cons_self)), q, Rs.keep ds _ fps (k.sub fun a h => by rw [e2]; exact List.mem_cons_of_mem _ h) r⟩
  | .dcK ks ds, _, fp, k, ⟨p, vs, fps, e, e2, t, q, r⟩ => ⟨p, vs, fps, e, e2, k _ _ t (.inl (by rw [e2]; exact List.mem_cons_self)), q, Rs.keep ds _ fps (k.sub fun a h => by rw [e2]; exact List.mem_cons_of_mem _ h) r⟩
  | .obj C ns ds, _, fp, k, ⟨p, dx, fs, fps, e, e2, t, q, r⟩ => ⟨p, dx, fs, fps, e, e2, k _ _ t (.inl (by rw [e2]; exact List.mem_cons_self)), q, Rs.keep ds _ fps (k.sub fun a h => by rw [e2]; exact List.mem_cons_of_mem _ h) r⟩
  | .frz d, v, fp, k, ⟨e, h⟩ => ⟨e, RA.keep k.keep d v h⟩
theorem Rs.keep : ∀ (ds : List D) (vs : List V) (fp : List Addr), KeepF A fp H H' → Rs K A H ds vs fp → Rs K A H' ds vs fp
  | [], _, _, _, h => h
  | d :: ds, _, fp, k, ⟨w, ws, f1, f2, e, e2, h, r⟩ => ⟨w, ws, f1, f2, e, e2, R.keep d w f1 (k.sub fun a h => by rw [e2]; exact List.mem_append_left _ h) h, Rs.keep ds ws f2 (k.sub fun a h => by rw [e2]; exact List.mem_append_right _ h) r⟩
end
mutual
theorem R.mono (m : ∀ a, A a → B a) : ∀ (d : D) (v : V) (fp : List Addr), R K A H d v fp → R K B H d v fp
  | .non, _, _, h => h
  | .bl _, _, _, h => h
  | .int _, _, _, h => h
  | .str _, _, _, h => h
  | .fn _, _, _, h => h
  | .ad _, _, _, h => h
  | .key _, _, _, h => h
  | .tpx _, _, _, h => h
  | .exn _, _, _, h => h
  | .dcL _, _, _, h => h
  | .dcN _, _, _, h => h
  | .lkT _, _, _, h => h
  | .any, _, _, h => h
  | .kst ds, v, _, h => h
  | .tup ds, _, fp, ⟨p, vs, e, t, r⟩ => ⟨p, vs, e, t, Rs.mono m ds vs fp r⟩
  | .lst ds, _, fp, ⟨p, vs, fps, e, e2, t, r⟩ => ⟨p, vs, fps, e, e2, t, Rs.mono m ds vs fps r⟩
  | .lsA _ _, _, _, ⟨_, h⟩ => h.2.1.elim
  | .dcT ks ds, _, fp, ⟨p, vs, fps, e, e2, t, q, r⟩ => ⟨p, vs, fps, e, e2, t, q, Rs.mono m ds _ fps r⟩
  | .dcK ks ds, _, fp, ⟨p, vs, fps, e, e2, t, q, r⟩ => ⟨p, vs, fps, e, e2, t, q, Rs.mono m ds _ fps r⟩
  | .obj C ns ds, _, fp, ⟨p, dx, fs, fps, e, e2, t, q, r⟩ => ⟨p, dx, fs, fps, e, e2, t, q, Rs.mono m ds _ fps r⟩
  | .frz d, v, fp, ⟨e, h⟩ => ⟨e, RA.mono m d v h⟩
theorem Rs.mono (m : ∀ a, A a → B a) : ∀ (ds : List D) (vs : List V) (fp : List Addr), Rs K A H ds vs fp → Rs K B H ds vs fp
  | [], _, _, h => h
  | d :: ds, _, fp, ⟨w, ws, f1, f2, e, e2, h, r⟩ => ⟨w, ws, f1, f2, e, e2, R.mono m d w f1 h, Rs.mono m ds ws f2 r⟩
end
mutual
theorem R.ra (m : ∀ a, A a → B a) : ∀ (d : D) (v : V) (fp : List Addr), (∀ a ∈ fp, B a) → R K A H d v fp → RA K B H d v
  | .non, _, _, _, h => h.2
  | .bl _, _, _, _, h => h.2
  | .int _, _, _, _, h => h.2
  | .str _, _, _, _, h => h.2
  | .fn _, _, _, _, h => h.2
  | .ad _, _, _, _, h => h.2
  | .key _, _, _, _, h => h.2
  | .tpx _, _, _, _, h => h.2
  | .exn _, _, _, _, h => h.2
  | .dcL _, _, _, _, h => h.2
  | .dcN _, _, fp, k, ⟨p, as, e, e2, t, z⟩ => ⟨p, as, e, k _ (by rw [e2]; exact List.mem_cons_self), t, z⟩
  | .lkT _, _, _, _, h => h.2
  | .any, _, _, _, h => h.2
  | .kst ds, v, _, _, h => RA.no h.2
  | .tup ds, _, fp, k, ⟨p, vs, e, t, r⟩ => ⟨p, vs, e, t, Rs.ra m ds vs fp k r⟩
  | .lst ds, _, fp, k, ⟨p, vs, fps, e, e2, t, r⟩ => ⟨p, vs, e, k _ (by rw [e2]; exact List.mem_cons_self), t, Rs.ra m ds vs fps (fun a h => k a (by rw [e2]; exact List.mem_cons_of_mem _ h)) r⟩
  | .lsA _ _, _, _, _, ⟨_, h⟩ => h.2.1.elim
  | .dcT ks ds, _, fp, k, ⟨p, vs, fps, e, e2, t, q, r⟩ => ⟨p, vs, e, k _ (by rw [e2]; exact List.mem_cons_self), .inl t, q, Rs.ra m ds _ fps (fun a h => k a (by rw [e2]; exact List.mem_cons_of_mem _ h)) r⟩
  | .dcK ks ds, _, fp, k, ⟨p, vs, fps, e, e2, t, q, r⟩ => ⟨p, vs, e, k _ (by rw [e2]; exact List.mem_cons_self), .inl t, q, Rs.ra m ds _ fps (fun a h => k a (by rw [e2]; exact List.mem_cons_of_mem _ h)) r⟩
  | .obj C ns ds, _, fp, k, ⟨p, dx, fs, fps, e, e2, t, q, r⟩ => ⟨p, dx, fs, e, k _ (by rw [e2]; exact List.mem_cons_self), t, q, Rs.ra m ds _ fps (fun a h => k a (by rw [e2]; exact List.mem_cons_of_mem _ h)) r⟩
  | .frz d, v, fp, _, ⟨e, h⟩ => RA.mono m d v h
theorem Rs.ra (m : ∀ a, A a → B a) : ∀ (ds : List D) (vs : List V) (fp : List Addr), (∀ a ∈ fp, B a) → Rs K A H ds vs fp → RAs K B H ds vs
  | [], _, _, _, h => h.1
  | d :: ds, _, fp, k, ⟨w, ws, f1, f2, e, e2, h, r⟩ => ⟨w, ws, e, R.ra m d w f1 (fun a h => k a (by rw [e2]; exact List.mem_append_left _ h)) h, Rs.ra m ds ws f2 (fun a h => k a (by rw [e2]; exact List.mem_append_right _ h)) r⟩
end
mutual
theorem R.of0 : ∀ (d : D) (v : V), RA K No H d v → R K A H d v []
  | .non, _, h => ⟨rfl, h⟩
  | .bl _, _, h => ⟨rfl, h⟩
  | .int _, _, h => ⟨rfl, h⟩
  | .str _, _, h => ⟨rfl, h⟩
  | .fn _, _, h => ⟨rfl, h⟩
  | .ad _, _, h => ⟨rfl, h⟩
  | .key _, _, h => ⟨rfl, h⟩
  | .tpx _, _, h => ⟨rfl, h⟩
  | .exn _, _, h => ⟨rfl, h⟩
  | .dcL _, _, h => ⟨rfl, h⟩
  | .dcN _, _, ⟨_, _, _, a, _⟩ => a.elim
  | .lkT _, _, h => ⟨rfl, h⟩
  | .any, _, h => ⟨rfl, h⟩
  | .kst ds, v, h => ⟨rfl, h⟩
  | .tup ds, _, ⟨p, vs, e, t, r⟩ => ⟨p, vs, e, t, Rs.of0 ds vs r⟩
  | .lst ds, _, ⟨_, _, _, a, _⟩ => a.elim
  | .lsA _ _, _, ⟨_, a, _⟩ => a.elim
  | .dcT ks ds, _, ⟨_, _, _, a, _⟩ => a.elim
  | .dcK ks ds, _, ⟨_, _, _, a, _⟩ => a.elim
  | .obj C ns ds, _, ⟨_, _, _, _, a, _⟩ => a.elim
  | .frz d, v, h => ⟨rfl, RA.no h⟩
theorem Rs.of0 : ∀ (ds : List D) (vs : List V), RAs K No H ds vs → Rs K A H ds vs []
  | [], _, h => ⟨h, rfl⟩
  | d :: ds, _, ⟨w, ws, e, h, r⟩ => ⟨w, ws, [], [], e, rfl, R.of0 d w h, Rs.of0 ds ws r⟩
end
mutual
theorem R.nil0 : ∀ (d : D) (v : V) (fp : List Addr), RA K No H d v → R K A H' d v fp → fp = []
  | .non, _, _, _, h => h.1
  | .bl _, _, _, _, h => h.1
  | .int _, _, _, _, h => h.1
  | .str _, _, _, _, h => h.1
  | .fn _, _, _, _, h => h.1
  | .ad _, _, _, _, h => h.1
  | .key _, _, _, _, h => h.1
  | .tpx _, _, _, _, h => h.1
  | .exn _, _, _, _, h => h.1
  | .dcL _, _, _, _, h => h.1
  | .dcN _, _, _, ⟨_, _, _, a, _⟩, _ => a.elim
  | .lkT _, _, _, _, h => h.1
  | .any, _, _, _, h => h.1
  | .kst ds, v, _, _, h => h.1
  | .tup ds, _, fp, ⟨p, vs, e, t, r⟩, ⟨p', vs', e', t', r'⟩ => Rs.nil0 ds fp ⟨vs, r⟩ ⟨vs', r'⟩
  | .lst ds, _, _, ⟨_, _, _, a, _⟩, _ => a.elim
  | .lsA _ _, _, _, ⟨_, a, _⟩, _ => a.elim
  | .dcT ks ds, _, _, ⟨_, _, _, a, _⟩, _ => a.elim
  | .dcK ks ds, _, _, ⟨_, _, _, a, _⟩, _ => a.elim
  | .obj C ns ds, _, _, ⟨_, _, _, _, a, _⟩, _ => a.elim
  | .frz d, v, _, _, h => h.1
theorem Rs.nil0 : ∀ (ds : List D) (fp : List Addr), (∃ vs, RAs K No H ds vs) → (∃ vs, Rs K A H' ds vs fp) → fp = []
  | [], _, _, ⟨_, h⟩ => h.2
  | d :: ds, fp, ⟨_, w, ws, e, h, r⟩, ⟨_, w', ws', f1, f2, e', e2, h', r'⟩ => by
    rw [e2, R.nil1 d f1 ⟨w, h⟩ ⟨w', h'⟩, Rs.nil0 ds f2 ⟨ws, r⟩ ⟨ws', r'⟩]; rfl
theorem R.nil1 : ∀ (d : D) (fp : List Addr), (∃ v, RA K No H d v) → (∃ v, R K A H' d v fp) → fp = []
  | .non, _, _, ⟨_, h⟩ => h.1
  | .bl _, _, _, ⟨_, h⟩ => h.1
  | .int _, _, _, ⟨_, h⟩ => h.1
  | .str _, _, _, ⟨_, h⟩ => h.1
  | .fn _, _, _, ⟨_, h⟩ => h.1
  | .ad _, _, _, ⟨_, h⟩ => h.1
  | .key _, _, _, ⟨_, h⟩ => h.1
  | .tpx _, _, _, ⟨_, h⟩ => h.1
  | .exn _, _, _, ⟨_, h⟩ => h.1
  | .dcL _, _, _, ⟨_, h⟩ => h.1
  | .dcN _, _, ⟨_, _, _, _, a, _⟩, _ => a.elim
  | .lkT _, _, _, ⟨_, h⟩ => h.1
  | .any, _, _, ⟨_, h⟩ => h.1
  | .kst ds, _, _, ⟨_, h⟩ => h.1
  | .tup ds, fp, ⟨_, p, vs, e, t, r⟩, ⟨_, p', vs', e', t', r'⟩ => Rs.nil0 ds fp ⟨vs, r⟩ ⟨vs', r'⟩
  | .lst ds, _, ⟨_, _, _, _, a, _⟩, _ => a.elim
  | .lsA _ _, _, ⟨_, _, a, _⟩, _ => a.elim
  | .dcT ks ds, _, ⟨_, _, _, _, a, _⟩, _ => a.elim
  | .dcK ks ds, _, ⟨_, _, _, _, a, _⟩, _ => a.elim
  | .obj C ns ds, _, ⟨_, _, _, _, _, a, _⟩, _ => a.elim
  | .frz d, _, _, ⟨_, h⟩ => h.1
end
mutual
theorem R.mu : ∀ (d : D) (v : V) (fp : List Addr), R K A H d v fp → ∀ a ∈ fp, ∃ o, H a = some o ∧ Mu o
  | .non, _, _, h => fun a q => by rw [h.1] at q; cases q
  | .bl _, _, _, h => fun a q => by rw [h.1] at q; cases q
  | .int _, _, _, h => fun a q => by rw [h.1] at q; cases q
  | .str _, _, _, h => fun a q => by rw [h.1] at q; cases q
  | .fn _, _, _, h => fun a q => by rw [h.1] at q; cases q
  | .ad _, _, _, h => fun a q => by rw [h.1] at q; cases q
  | .key _, _, _, h => fun a q => by rw [h.1] at q; cases q
  | .tpx _, _, _, h => fun a q => by rw [h.1] at q; cases q
  | .exn _, _, _, h => fun a q => by rw [h.1] at q; cases q
  | .dcL _, _, _, h => fun a q => by rw [h.1] at q; cases q
  | .dcN _, _, _, ⟨p, as, e, e2, t, z⟩ => fun a q => by rw [e2] at q; rw [List.mem_singleton.mp q]; exact ⟨_, t, trivial⟩
  | .lkT _, _, _, h => fun a q => by rw [h.1] at q; cases q
  | .any, _, _, h => fun a q => by rw [h.1] at q; cases q
  | .kst ds, v, _, h => fun a q => by rw [h.1] at q; cases q
  | .tup ds, _, fp, ⟨p, vs, e, t, r⟩ => Rs.mu ds vs fp r
  | .lsA _ _, _, _, ⟨_, h⟩ => h.2.1.elim
  | .lst ds, _, fp, ⟨p, vs, fps, e, e2, t, r⟩ => fun a q => by
    rw [e2] at q
    rcases List.mem_cons.mp q with rfl | q
    · exact ⟨_, t, trivial⟩
    · exact Rs.mu ds vs fps r a q
  | .dcT ks ds, _, fp, ⟨p, vs, fps, e, e2, t, _, r⟩ => fun a q => by
    rw [e2] at q
    rcases List.mem_cons.mp q with rfl | q
    · exact ⟨_, t, trivial⟩
    · exact Rs.mu ds _ fps r a q
  | .dcK ks ds, _, fp, ⟨p, vs, fps, e, e2, t, _, r⟩ => fun a q => by
    rw [e2] at q
    rcases List.mem_cons.mp q with rfl | q
    · exact ⟨_, t, trivial⟩
    · exact Rs.mu ds _ fps r a q
  | .obj C ns ds, _, fp, ⟨p, dx, fs, fps, e, e2, t, _, r⟩ => fun a q => by
    rw [e2] at q
    rcases List.mem_cons.mp q with rfl | q
    · exact ⟨_, t, trivial⟩
    · exact Rs.mu ds _ fps r a q
  | .frz d, v, _, h => fun a q => by rw [h.1] at q; cases q
theorem Rs.mu : ∀ (ds : List D) (vs : List V) (fp : List Addr), Rs K A H ds vs fp → ∀ a ∈ fp, ∃ o, H a = some o ∧ Mu o
  | [], _, _, h => fun a q => by rw [h.2] at q; cases q
  | d :: ds, _, fp, ⟨w, ws, f1, f2, e, e2, h, r⟩ => fun a q => by
    rw [e2] at q
    rcases List.mem_append.mp q with q | q
    · exact R.mu d w f1 h a q
    · exact Rs.mu ds ws f2 r a q
end
theorem Rs.nil : Rs K A H [] [] [] := ⟨rfl, rfl⟩
theorem Rs.cons {d : D} {v : V} {ds : List D} {vs : List V} {f g : List Addr} (h : R K A H d v f) (t : Rs K A H ds vs g) : Rs K A H (d :: ds) (v :: vs) (f ++ g) := ⟨v, vs, f, g, rfl, rfl, h, t⟩
theorem Rs.len : ∀ {ds : List D} {vs : List V} {fp : List Addr}, Rs K A H ds vs fp → vs.length = ds.length
  | [], _, _, h => by rw [h.1]; rfl
  | d :: ds, _, _, ⟨w, ws, _, _, e, _, _, t⟩ => by rw [e, List.length_cons, List.length_cons, Rs.len t]
theorem Rs.append : ∀ {ds es : List D} {vs ws : List V} {f g : List Addr}, Rs K A H ds vs f → Rs K A H es ws g → Rs K A H (ds ++ es) (vs ++ ws) (f ++ g)
  | [], _, _, _, _, _, h, t => by rw [h.1, h.2]; exact t
  | d :: ds, _, _, _, _, _, ⟨w, ws, f1, f2, e, e2, h, t⟩, q => by subst e e2; rw [List.append_assoc]; exact .cons h (Rs.append t q)
theorem Rs.one {d : D} {v : V} {f : List Addr} (h : R K A H d v f) : Rs K A H [d] [v] f := ⟨v, [], f, [], rfl, (List.append_nil f).symm, h, .nil⟩
theorem Rs.split : ∀ {ds : List D} {vs : List V} {fp : List Addr} {j : Nat} {d : D}, Rs K A H ds vs fp → ds[j]? = some d →
    ∃ w f1 f2 f3, vs[j]? = some w ∧ fp = f1 ++ (f2 ++ f3) ∧ Rs K A H (ds.take j) (vs.take j) f1 ∧ R K A H d w f2 ∧ Rs K A H (ds.drop (j + 1)) (vs.drop (j + 1)) f3
  | [], _, _, _, _, _, e => by simp at e
  | d :: ds, _, _, 0, x, ⟨w, ws, f1, f2, e, e2, h, t⟩, q => by
    have : d = x := Option.some.inj q
    subst this e e2
    exact ⟨w, [], f1, f2, rfl, rfl, .nil, h, t⟩
  | d :: ds, _, _, j + 1, x, ⟨w, ws, f1, f2, e, e2, h, t⟩, q => by
    subst e e2
    obtain ⟨y, g1, g2, g3, a, b, c, d', e'⟩ := Rs.split (j := j) t q
    exact ⟨y, f1 ++ g1, g2, g3, a, by rw [b, List.append_assoc], .cons h c, d', e'⟩
theorem set_split {α : Type} {l : List α} {j : Nat} {x y : α} (h : l[j]? = some x) : l.set j y = l.take j ++ y :: l.drop (j + 1) := by
  have hl : j < l.length := (List.getElem?_eq_some_iff.mp h).1
  rw [List.set_eq_take_append_cons_drop, if_pos hl]
theorem Rs.put {ds : List D} {vs : List V} {j : Nat} {d d' : D} {w w' : V} {f1 f2 f3 : List Addr} (hd : ds[j]? = some d) (hv : vs[j]? = some w)
    (h1 : Rs K A H (ds.take j) (vs.take j) f1) (h2 : R K A H d' w' f2) (h3 : Rs K A H (ds.drop (j + 1)) (vs.drop (j + 1)) f3) : Rs K A H (ds.set j d') (vs.set j w') (f1 ++ (f2 ++ f3)) := by
  rw [set_split hd, set_split hv]
  exact h1.append (.cons h2 h3)
theorem Rs.take : ∀ {ds : List D} {vs : List V} {fp : List Addr} (n : Nat), Rs K A H ds vs fp → ∃ f1 f2, fp = f1 ++ f2 ∧ Rs K A H (ds.take n) (vs.take n) f1 ∧ Rs K A H (ds.drop n) (vs.drop n) f2
  | _, _, fp, 0, h => ⟨[], fp, rfl, by simp; exact .nil, h⟩
  | [], _, fp, n + 1, h => by obtain ⟨e1, e2⟩ := h; subst e1 e2; exact ⟨[], [], rfl, .nil, .nil⟩
  | d :: ds, _, _, n + 1, ⟨w, ws, f1, f2, e, e2, h, t⟩ => by
    subst e e2
    obtain ⟨g1, g2, a, b, c⟩ := Rs.take n t
    exact ⟨f1 ++ g1, g2, by rw [a, List.append_assoc], .cons h b, c⟩
theorem set_same {α : Type} {l : List α} {j : Nat} {x : α} (h : l[j]? = some x) : l.set j x = l := by
  apply List.ext_getElem?
  intro i
  by_cases hi : j = i
  · subst hi
    rw [List.getElem?_set_self (List.getElem?_eq_some_iff.mp h).1, h]
  · rw [List.getElem?_set_ne hi]
end

section
variable {K : Frg} {A : Addr → Prop} {H H1 : Hp}
def Zip (K : Frg) (A : Addr → Prop) (H : Hp) (d : D) (v : V) (fp : List Addr) (rb : D → D) (e : D) (w : V) (fe : List Addr) : Prop :=
  ∃ f1 f2, fp = f1 ++ (fe ++ f2) ∧ R K A H e w fe ∧ ∀ (H' : Hp) (A' : Addr → Prop) (e' : D) (fe' : List Addr), (∀ a, A a → A' a) → KeepF A (f1 ++ f2) H H' → R K A' H' e' w fe' → R K A' H' (rb e') v (f1 ++ (fe' ++ f2))
theorem Zip.root {d : D} {v : V} {fp : List Addr} (h : R K A H d v fp) : Zip K A H d v fp id d v fp :=
  ⟨[], [], by simp, h, fun H' A' e' fe' _ _ r => by simpa using r⟩
theorem keepF_trans {fp : List Addr} {H2 : Hp} (k : KeepF A fp H H1) (k2 : KeepF A fp H1 H2) : KeepF A fp H H2 := fun a o e h => k2 a o (k a o e h) h
theorem Zip.keep {d : D} {v : V} {fp : List Addr} {rb : D → D} {e : D} {w : V} {fe : List Addr} (z : Zip K A H d v fp rb e w fe) (k : KeepF A fp H H1) : Zip K A H1 d v fp rb e w fe := by
  obtain ⟨f1, f2, e1, r, g⟩ := z
  subst e1
  have k1 : KeepF A fe H H1 := k.sub fun a h => by simp [h]
  have k2 : KeepF A (f1 ++ f2) H H1 := k.sub fun a h => by
    rcases List.mem_append.mp h with h | h <;> simp [h]
  exact ⟨f1, f2, rfl, R.keep _ _ _ k1 r, fun H' A' e' fe' m k' r' => g H' A' e' fe' m (keepF_trans k2 k') r'⟩
theorem mem3 {a : Addr} {f1 f2 g1 g2 : List Addr} {p : Addr} : a ∈ f1 ++ f2 → a ∈ (f1 ++ p :: g1) ++ (g2 ++ f2) := fun h => by
  rcases List.mem_append.mp h with h | h <;> simp [h]
theorem Zip.step_tup {d : D} {v : V} {fp : List Addr} {rb : D → D} {ds : List D} {w : V} {fe : List Addr} {j : Nat} {c : D} (z : Zip K A H d v fp rb (.tup ds) w fe) (hj : ds[j]? = some c) :
    ∃ p vs w' fc, w = .ref p ∧ SqT K H p vs ∧ vs.length = ds.length ∧ vs[j]? = some w' ∧ Zip K A H d v fp (fun c' => rb (.tup (ds.set j c'))) c w' fc := by
  obtain ⟨f1, f2, e1, ⟨p, vs, rfl, t, r⟩, g⟩ := z
  obtain ⟨w', g1, fc, g3, hw, e2, r1, r2, r3⟩ := Rs.split r hj
  subst e1 e2
  refine ⟨p, vs, w', fc, rfl, t, r.len, hw, f1 ++ g1, g3 ++ f2, by simp [List.append_assoc], r2, fun H' A' e' fe' m k r' => ?_⟩
  have q := g H' A' (.tup (ds.set j e')) (g1 ++ (fe' ++ g3)) m (k.sub fun a h => by rcases List.mem_append.mp h with h | h <;> simp [h])
    ⟨p, vs.set j w', rfl, by rw [set_same hw]; exact SqT.keep k.keep t, Rs.put hj hw (Rs.mono m _ _ _ (Rs.keep _ _ _ (k.sub fun a h => by simp [h]) r1)) r' (Rs.mono m _ _ _ (Rs.keep _ _ _ (k.sub fun a h => by simp [h]) r3))⟩
  simpa [List.append_assoc] using q
theorem Zip.step_lst {d : D} {v : V} {fp : List Addr} {rb : D → D} {ds : List D} {w : V} {fe : List Addr} {j : Nat} {c : D} (z : Zip K A H d v fp rb (.lst ds) w fe) (hj : ds[j]? = some c) :
    ∃ p vs w' fc, w = .ref p ∧ H p = some (.lst vs) ∧ vs.length = ds.length ∧ vs[j]? = some w' ∧ Zip K A H d v fp (fun c' => rb (.lst (ds.set j c'))) c w' fc := by
  obtain ⟨f1, f2, e1, ⟨p, vs, fps, rfl, e2, t, r⟩, g⟩ := z
  obtain ⟨w', g1, fc, g3, hw, e3, r1, r2, r3⟩ := Rs.split r hj
  subst e1 e2 e3
  refine ⟨p, vs, w', fc, rfl, t, r.len, hw, f1 ++ p :: g1, g3 ++ f2, by simp [List.append_assoc], r2, fun H' A' e' fe' m k r' => ?_⟩
  have q := g H' A' (.lst (ds.set j e')) (p :: (g1 ++ (fe' ++ g3))) m (k.sub fun a h => mem3 h)
    ⟨p, vs.set j w', _, rfl, rfl, by rw [set_same hw]; exact k _ _ t (.inl (by simp)), Rs.put hj hw (Rs.mono m _ _ _ (Rs.keep _ _ _ (k.sub fun a h => by simp [h]) r1)) r' (Rs.mono m _ _ _ (Rs.keep _ _ _ (k.sub fun a h => by simp [h]) r3))⟩
  simpa [List.append_assoc] using q
end

def Shal (K : Frg) (H : Hp) : D → V → Prop
  | .lst ds, v => ∃ p vs, v = .ref p ∧ H p = some (.lst vs) ∧ RAs K No H ds vs
  | .kst ds, v => ∃ p vs, v = .ref p ∧ SqL K (lockd H) p vs ∧ RAs K No H ds vs
  | .dcT ks ds, v => ∃ p kvs, v = .ref p ∧ Rd H p (.dT kvs) ∧ kvs.map (·.1) = ks ∧ RAs K No H ds (kvs.map (·.2))
  | .dcK ks ds, v => ∃ p kvs, v = .ref p ∧ Rd H p (.dK kvs) ∧ kvs.map (·.1) = ks ∧ RAs K No H ds (kvs.map (·.2))
  | _, _ => False
def VR (K : Frg) (A : Addr → Prop) (H : Hp) : KD → V → List Addr → Prop
  | (.fl, d), v, f => f = [] ∧ RA K No H d v
  | (.sa, d), v, f => f = [] ∧ RA K A H d v ∧ Shal K H d v
  | (.rd, d), v, f => f = [] ∧ RA K A H d v
  | (.sh, d), v, f => R K No H d v f ∧ Shal K H d v
  | (.ow, d), v, f => R K No H d v f
def Slot (K : Frg) (A : Addr → Prop) (H : Hp) : Sl → Option V → List Addr → Prop
  | none, _, f => f = []
  | some kd, x, f => ∃ v, x = some v ∧ VR K A H kd v f
def RepS (K : Frg) (A : Addr → Prop) (H : Hp) : List Sl → L2.St → List Addr → Prop
  | [], σ, ow => σ = [] ∧ ow = []
  | s :: ρ, σ, ow => ∃ x σ' f g, σ = x :: σ' ∧ ow = f ++ g ∧ Slot K A H s x f ∧ RepS K A H ρ σ' g
structure Good (K : Frg) (A : Addr → Prop) (H : Hp) (ρ : List Sl) (σ : L2.St) (ow : List Addr) : Prop where
  rep : RepS K A H ρ σ ow
  nd : ow.Nodup
  dis : ∀ a ∈ ow, ¬ A a
  tr : ∀ a, A a → ∃ o, H a = some o
structure Stp (H : Hp) (ow : List Addr) (A : Addr → Prop) (H' : Hp) (ow' : List Addr) (A' : Addr → Prop) : Prop where
  same : ∀ a o, H a = some o → a ∉ ow → H' a = some o
  own : ∀ a ∈ ow', a ∈ ow ∨ H a = none
  up : ∀ a, A a → A' a
  fr : ∀ a, A' a → A a ∨ a ∈ ow ∨ H a = none
section
variable {K : Frg} {A A' A1 A2 : Addr → Prop} {H H' H1 H2 : Hp} {ow ow' ow1 ow2 : List Addr}
theorem Shal.keep {d : D} {v : V} (k : ∀ p u, v = .ref p → H p = some u → H' p = some u) (k2 : Keep No H H') (h : Shal K H d v) : Shal K H' d v := by
  have k' : ∀ p u, v = .ref p → Rd H p u → Rd H' p u := fun p u e r => by
    rcases r with r | ⟨o, r⟩
    · exact .inl (k p _ e r)
    · exact .inr ⟨o, k p _ e r⟩
  cases d <;> first
    | exact h.elim
    | (obtain ⟨p, vs, e, t, r⟩ := h; exact ⟨p, vs, e, k p _ e t, RAs.keep k2 _ _ r⟩)
    | (obtain ⟨p, vs, e, t, r⟩ := h; exact ⟨p, vs, e, kst_keep k2 t, RAs.keep k2 _ _ r⟩)
    | (obtain ⟨p, vs, e, t, q, r⟩ := h; exact ⟨p, vs, e, k' p _ e t, q, RAs.keep k2 _ _ r⟩)
theorem Rd.same {p : Addr} {u : HO} (s : Same H H') (r : Rd H p u) : Rd H' p u := by
  rcases r with r | ⟨o, r⟩
  · exact .inl (s _ _ r)
  · exact .inr ⟨o, s _ _ r⟩
theorem Shal.same {d : D} {v : V} (s : Same H H') (h : Shal K H d v) : Shal K H' d v := h.keep (fun _ _ _ r => s _ _ r) (Keep.of_same s)
theorem VR.keep {kd : KD} {v : V} {f : List Addr} (k : KeepF A f H H') (h : VR K A H kd v f) : VR K A H' kd v f := by
  obtain ⟨c, d⟩ := kd
  cases c with
  | fl => exact ⟨h.1, RA.keep k.keep.no _ _ h.2⟩
  | rd => exact ⟨h.1, RA.keep k.keep _ _ h.2⟩
  | ow => exact R.keep _ _ _ k.no h
  | sa =>
    refine ⟨h.1, RA.keep k.keep _ _ h.2.1, ?_⟩
    have h1 := h.2.1
    have h2 := h.2.2
    cases d <;> first
      | exact h2.elim
      | (obtain ⟨p, vs, e, a, t, r⟩ := h1; refine h2.keep (fun p' u e' q => ?_) k.keep.no; rw [e] at e'; cases e'; exact k.keep _ _ q (.inl a))
      | (obtain ⟨p, vs, e, t, r⟩ := h2; exact ⟨p, vs, e, kst_keep k.keep.no t, RAs.keep k.keep.no _ _ r⟩)
      | (obtain ⟨p, vs, e, a, t, q', r⟩ := h1; refine h2.keep (fun p' u e' q => ?_) k.keep.no; rw [e] at e'; cases e'; exact k.keep _ _ q (.inl a))
  | sh =>
    refine ⟨R.keep _ _ _ k.no h.1, ?_⟩
    have h1 := h.1
    have h2 := h.2
    have q0 : ∀ p, p ∈ f → ∀ u, H p = some u → H' p = some u := fun p hp u r => k _ _ r (.inl hp)
    cases d <;> first
      | exact h2.elim
      | (obtain ⟨p, vs, fps, e, e2, t, r⟩ := h1; refine h2.keep (fun p' u e' q => ?_) k.keep.no; rw [e] at e'; cases e'; exact q0 p (by rw [e2]; exact List.mem_cons_self) u q)
      | (obtain ⟨p, vs, e, t, r⟩ := h2; exact ⟨p, vs, e, kst_keep k.keep.no t, RAs.keep k.keep.no _ _ r⟩)
      | (obtain ⟨p, vs, fps, e, e2, t, q', r⟩ := h1; refine h2.keep (fun p' u e' q => ?_) k.keep.no; rw [e] at e'; cases e'; exact q0 p (by rw [e2]; exact List.mem_cons_self) u q)
theorem VR.mono {kd : KD} {v : V} {f : List Addr} (m : ∀ a, A a → A' a) (h : VR K A H kd v f) : VR K A' H kd v f := by
  obtain ⟨c, d⟩ := kd
  cases c with
  | fl => exact h
  | rd => exact ⟨h.1, RA.mono m _ _ h.2⟩
  | ow => exact h
  | sa => exact ⟨h.1, RA.mono m _ _ h.2.1, h.2.2⟩
  | sh => exact h
theorem Slot.keep {s : Sl} {x : Option V} {f : List Addr} (k : KeepF A f H H') (h : Slot K A H s x f) : Slot K A H' s x f := by
  cases s with
  | none => exact h
  | some kd => obtain ⟨v, e, h⟩ := h; exact ⟨v, e, h.keep k⟩
theorem Slot.mono {s : Sl} {x : Option V} {f : List Addr} (m : ∀ a, A a → A' a) (h : Slot K A H s x f) : Slot K A' H s x f := by
  cases s with
  | none => exact h
  | some kd => obtain ⟨v, e, h⟩ := h; exact ⟨v, e, h.mono m⟩
theorem RepS.keep : ∀ {ρ : List Sl} {σ : L2.St} {ow : List Addr}, KeepF A ow H H' → RepS K A H ρ σ ow → RepS K A H' ρ σ ow
  | [], _, _, _, h => h
  | s :: ρ, _, _, k, ⟨x, σ', f, g, e, e2, h, r⟩ => ⟨x, σ', f, g, e, e2, h.keep (k.sub fun a q => by rw [e2]; exact List.mem_append_left _ q), RepS.keep (k.sub fun a q => by rw [e2]; exact List.mem_append_right _ q) r⟩
theorem RepS.mono (m : ∀ a, A a → A' a) : ∀ {ρ : List Sl} {σ : L2.St} {ow : List Addr}, RepS K A H ρ σ ow → RepS K A' H ρ σ ow
  | [], _, _, h => h
  | s :: ρ, _, _, ⟨x, σ', f, g, e, e2, h, r⟩ => ⟨x, σ', f, g, e, e2, h.mono m, RepS.mono m r⟩
theorem RepS.len : ∀ {ρ : List Sl} {σ : L2.St} {ow : List Addr}, RepS K A H ρ σ ow → σ.length = ρ.length
  | [], _, _, h => by rw [h.1]; rfl
  | s :: ρ, _, _, ⟨x, σ', f, g, e, e2, h, r⟩ => by rw [e, List.length_cons, List.length_cons, RepS.len r]
theorem RepS.split : ∀ {ρ : List Sl} {σ : L2.St} {ow : List Addr} {i : Nat} {s : Sl}, RepS K A H ρ σ ow → ρ[i]? = some s →
    ∃ x f1 f2 f3, σ[i]? = some x ∧ ow = f1 ++ (f2 ++ f3) ∧ Slot K A H s x f2 ∧
      ∀ (H' : Hp) (A' : Addr → Prop) (s' : Sl) (x' : Option V) (f2' : List Addr), (∀ a, A a → A' a) → KeepF A (f1 ++ f3) H H' → Slot K A' H' s' x' f2' → RepS K A' H' (ρ.set i s') (σ.set i x') (f1 ++ (f2' ++ f3))
  | [], _, _, _, _, _, e => by simp at e
  | t :: ρ, _, _, 0, s, ⟨x, σ', f, g, e, e2, h, r⟩, q => by
    have : t = s := Option.some.inj q
    subst this e e2
    exact ⟨x, [], f, g, rfl, rfl, h, fun H' A' s' x' f2' m k h' => ⟨x', σ', f2', g, rfl, rfl, h', RepS.mono m (RepS.keep (k.sub fun a z => by simpa using z) r)⟩⟩
  | t :: ρ, _, _, i + 1, s, ⟨x, σ', f, g, e, e2, h, r⟩, q => by
    subst e e2
    obtain ⟨y, f1, f2, f3, a, b, c, d⟩ := RepS.split (i := i) r q
    subst b
    refine ⟨y, f ++ f1, f2, f3, a, by rw [List.append_assoc], c, fun H' A' s' x' f2' m k h' => ?_⟩
    refine ⟨x, σ'.set i x', f, f1 ++ (f2' ++ f3), rfl, by rw [List.append_assoc], (h.keep (k.sub fun a z => by simp [z])).mono m, d H' A' s' x' f2' m (k.sub fun a z => ?_) h'⟩
    rcases List.mem_append.mp z with z | z <;> simp [z]
theorem RepS.mu : ∀ {ρ : List Sl} {σ : L2.St} {ow : List Addr}, RepS K A H ρ σ ow → ∀ a ∈ ow, ∃ o, H a = some o ∧ Mu o
  | [], _, _, h => fun a q => by rw [h.2] at q; cases q
  | s :: ρ, _, _, ⟨x, σ', f, g, e, e2, h, r⟩ => fun a q => by
    rw [e2] at q
    rcases List.mem_append.mp q with q | q
    · cases s with
      | none => rw [show f = [] from h] at q; cases q
      | some kd =>
        obtain ⟨v, _, h⟩ := h
        obtain ⟨c, d⟩ := kd
        cases c with
        | fl => rw [h.1] at q; cases q
        | rd => rw [h.1] at q; cases q
        | sa => rw [h.1] at q; cases q
        | ow => exact R.mu _ _ _ h a q
        | sh => exact R.mu _ _ _ h.1 a q
    · exact RepS.mu r a q
theorem Stp.refl : Stp H ow A H ow A := ⟨fun _ _ e _ => e, fun _ h => .inl h, fun _ h => h, fun _ h => .inl h⟩
theorem Stp.of_same (s : Same H H') : Stp H ow A H' ow A := ⟨fun a o e _ => s a o e, fun _ h => .inl h, fun _ h => h, fun _ h => .inl h⟩
theorem Stp.none (s : Stp H ow A H1 ow1 A1) {a : Addr} (h : H1 a = none) : a ∈ ow ∨ H a = none := by
  cases e : H a with
  | none => exact .inr rfl
  | some o =>
    refine .inl (Classical.byContradiction fun z => ?_)
    rw [s.same a o e z] at h; cases h
theorem Stp.trans (s : Stp H ow A H1 ow1 A1) (t : Stp H1 ow1 A1 H2 ow2 A2) : Stp H ow A H2 ow2 A2 where
  same := fun a o e n => t.same a o (s.same a o e n) fun z => by
    rcases s.own a z with z | z
    · exact n z
    · rw [e] at z; cases z
  own := fun a h => by
    rcases t.own a h with z | z
    · exact s.own a z
    · exact s.none z
  up := fun a h => t.up a (s.up a h)
  fr := fun a h => by
    rcases t.fr a h with z | z | z
    · exact s.fr a z
    · exact .inr (s.own a z)
    · exact .inr (s.none z)
theorem Stp.sub {ow0 : List Addr} (s : Stp H ow A H' ow' A') (h : ∀ a ∈ ow0, a ∈ ow') : Stp H ow A H' ow0 A' := ⟨s.same, fun a z => s.own a (h a z), s.up, s.fr⟩
theorem Good.keepA {ρ : List Sl} {σ : L2.St} (g : Good K A H ρ σ ow) (s : Stp H ow A H' ow' A') : Keep A H H' := fun a o e h => s.same a o e fun z => by
  rcases h with h | h
  · exact g.dis a z h
  · obtain ⟨u, e', m⟩ := g.rep.mu a z
    rw [e] at e'; cases e'
    exact m.notImm h
theorem Good.same {ρ : List Sl} {σ : L2.St} (g : Good K A H ρ σ ow) (s : Same H H') : Good K A H' ρ σ ow :=
  ⟨g.rep.keep (KeepF.of_same s), g.nd, g.dis, fun a h => let ⟨o, e⟩ := g.tr a h; ⟨o, s a o e⟩⟩
end
end DL

namespace DL
open PySem PySem.Spec PyProof.Rows L2

abbrev Ro := List Sl
abbrev PF := Ro → (KD → Prop) → Prop
abbrev PTF := Ro → (Bool → Prop) → Prop
abbrev PAF := Ro → (List KD → Prop) → Prop
abbrev BB (A : Addr → Prop) (ow : List Addr) : Addr → Prop := fun a => A a ∨ a ∈ ow
abbrev Fre (H : Hp) : Addr → Prop := fun a => H a = none
abbrev Or2 (B F : Addr → Prop) : Addr → Prop := fun a => B a ∨ F a
def PR (K : Frg) (B F : Addr → Prop) (H : Hp) (v : V) (z : KD) : Prop := ∃ fp, VR K (Or2 B F) H z v fp ∧ fp.Nodup ∧ ∀ a ∈ fp, F a
def VRs (K : Frg) (A : Addr → Prop) (H : Hp) : List KD → List V → List Addr → Prop
  | [], vs, fp => vs = [] ∧ fp = []
  | z :: zs, vs, fp => ∃ w ws f1 f2, vs = w :: ws ∧ fp = f1 ++ f2 ∧ VR K A H z w f1 ∧ VRs K A H zs ws f2
def PRs (K : Frg) (B F : Addr → Prop) (H : Hp) (vs : List V) (zs : List KD) : Prop := ∃ fp, VRs K (Or2 B F) H zs vs fp ∧ fp.Nodup ∧ ∀ a ∈ fp, F a

def PSound (K : Frg) (t : TE) (f : PF) : Prop := ∀ (σ : L2.St) (H : Hp) (A : Addr → Prop) (ρ : Ro) (ow : List Addr) (Q : VK) (P : KD → Prop), Good K A H ρ σ ow → f ρ P →
  (∀ z v H', P z → Same H H' → PR K (BB A ow) (Fre H) H' v z → Q v H') → t σ H Q
def TSound (K : Frg) (t : TT) (f : PTF) : Prop := ∀ (σ : L2.St) (H : Hp) (A : Addr → Prop) (ρ : Ro) (ow : List Addr) (Q : Bool → Hp → Prop) (P : Bool → Prop), Good K A H ρ σ ow → f ρ P →
  (∀ b H', P b → Same H H' → Q b H') → t σ H Q
def ASound (K : Frg) (n : Nat) (t : TA) (f : PAF) : Prop := ∀ (σ : L2.St) (H : Hp) (A : Addr → Prop) (ρ : Ro) (ow : List Addr) (Q : List V → Hp → Prop) (P : List KD → Prop), Good K A H ρ σ ow → f ρ P →
  (∀ zs vs H', zs.length = n → P zs → Same H H' → PRs K (BB A ow) (Fre H) H' vs zs → Q vs H') → t σ H Q
structure DP (X : Cx) (e : Expr) (f : PF) : Prop where
  run : ∃ t, PE X e t ∧ PSound X.K t f
structure DT (X : Cx) (e : Expr) (f : PTF) : Prop where
  run : ∃ t, PT X e t ∧ TSound X.K t f
structure DA (X : Cx) (es : List Expr) (n : Nat) (f : PAF) : Prop where
  run : ∃ t, PA X es t ∧ ASound X.K n t f

section
variable {K : Frg} {A B B' F F' : Addr → Prop} {H H' H1 : Hp}
theorem VR.same {z : KD} {v : V} {f : List Addr} (s : Same H H') (h : VR K A H z v f) : VR K A H' z v f := h.keep (KeepF.of_same s)
theorem VRs.same (s : Same H H') : ∀ {zs : List KD} {vs : List V} {f : List Addr}, VRs K A H zs vs f → VRs K A H' zs vs f
  | [], _, _, h => h
  | z :: zs, _, _, ⟨w, ws, f1, f2, e, e2, h, t⟩ => ⟨w, ws, f1, f2, e, e2, h.same s, VRs.same s t⟩
theorem VRs.mono (m : ∀ a, A a → B a) : ∀ {zs : List KD} {vs : List V} {f : List Addr}, VRs K A H zs vs f → VRs K B H zs vs f
  | [], _, _, h => h
  | z :: zs, _, _, ⟨w, ws, f1, f2, e, e2, h, t⟩ => ⟨w, ws, f1, f2, e, e2, h.mono m, VRs.mono m t⟩
theorem _root_.L2.Same.fre (s : Same H H') : ∀ a, Fre H' a → Fre H a := fun a h => s.free h
theorem PR.same {v : V} {z : KD} (s : Same H H') (h : PR K B F H v z) : PR K B F H' v z := let ⟨fp, a, b, c⟩ := h; ⟨fp, a.same s, b, c⟩
theorem PR.mono {v : V} {z : KD} (m : ∀ a, B a → B' a) (n : ∀ a, F a → F' a) (h : PR K B F H v z) : PR K B' F' H v z :=
  let ⟨fp, a, b, c⟩ := h; ⟨fp, a.mono (fun x h => h.imp (m x) (n x)), b, fun x h => n x (c x h)⟩
theorem PRs.same {v : List V} {z : List KD} (s : Same H H') (h : PRs K B F H v z) : PRs K B F H' v z := let ⟨fp, a, b, c⟩ := h; ⟨fp, a.same s, b, c⟩
theorem PRs.mono {v : List V} {z : List KD} (m : ∀ a, B a → B' a) (n : ∀ a, F a → F' a) (h : PRs K B F H v z) : PRs K B' F' H v z :=
  let ⟨fp, a, b, c⟩ := h; ⟨fp, a.mono (fun x h => h.imp (m x) (n x)), b, fun x h => n x (c x h)⟩
theorem VR.mu {z : KD} {v : V} {f : List Addr} (h : VR K A H z v f) : ∀ a ∈ f, ∃ o, H a = some o ∧ Mu o := by
  obtain ⟨k, d⟩ := z
  cases k with
  | fl => intro a q; rw [h.1] at q; cases q
  | rd => intro a q; rw [h.1] at q; cases q
  | sa => intro a q; rw [h.1] at q; cases q
  | sh => exact R.mu _ _ _ h.1
  | ow => exact R.mu _ _ _ h
theorem VRs.mu : ∀ {zs : List KD} {vs : List V} {f : List Addr}, VRs K A H zs vs f → ∀ a ∈ f, ∃ o, H a = some o ∧ Mu o
  | [], _, _, h => fun a q => by rw [h.2] at q; cases q
  | z :: zs, _, _, ⟨w, ws, f1, f2, e, e2, h, t⟩ => fun a q => by
    rw [e2] at q
    rcases List.mem_append.mp q with q | q
    · exact h.mu a q
    · exact VRs.mu t a q
theorem VR.ra {z : KD} {v : V} {f : List Addr} (h : VR K A H z v f) (m : ∀ a, A a → B a) (n : ∀ a ∈ f, B a) : RA K B H z.2 v := by
  obtain ⟨k, d⟩ := z
  cases k with
  | fl => exact RA.no h.2
  | rd => exact RA.mono m _ _ h.2
  | sa => exact RA.mono m _ _ h.2.1
  | sh => exact R.ra (fun _ z => z.elim) _ _ _ n h.1
  | ow => exact R.ra (fun _ z => z.elim) _ _ _ n h
theorem PR.ra {v : V} {z : KD} (h : PR K B F H v z) : RA K (Or2 B F) H z.2 v := let ⟨_, a, _, c⟩ := h; a.ra (fun _ h => h) fun x h => .inr (c x h)
theorem PR.fl {v : V} {d : D} (h : RA K No H d v) : PR K B F H v (.fl, d) := ⟨[], ⟨rfl, h⟩, List.nodup_nil, fun _ z => nomatch z⟩
theorem PR.rd {v : V} {d : D} (h : RA K (Or2 B F) H d v) : PR K B F H v (.rd, d) := ⟨[], ⟨rfl, h⟩, List.nodup_nil, fun _ z => nomatch z⟩
theorem PR.bl {b : Bool} : PR K B F H (.bl b) (.fl, .bl b) := .fl rfl
theorem PR.int {b : Int} : PR K B F H (.int b) (.fl, .int b) := .fl rfl
theorem PR.str {b : Str} : PR K B F H (.str b) (.fl, .str b) := .fl rfl
theorem PRs.nil : PRs K B F H [] [] := ⟨[], ⟨rfl, rfl⟩, List.nodup_nil, fun _ z => nomatch z⟩

def D.seq : D → Option (List D)
  | .tup ds => some ds
  | .lst ds => some ds
  | .kst ds => some ds
  | _ => none
def Kd.el : Kd → Kd
  | .fl => .fl
  | .sh => .fl
  | .sa => .fl
  | .rd => .rd
  | .ow => .rd
def Kd.elA (k : Kd) (B F : Addr → Prop) : Addr → Prop := match k with
  | .fl => No
  | .sh => No
  | .sa => No
  | .rd => Or2 B F
  | .ow => Or2 B F
def kel (k : Kd) (d : D) : KD := match d with
  | .non => (.fl, d)
  | .bl _ => (.fl, d)
  | .int _ => (.fl, d)
  | .str _ => (.fl, d)
  | _ => (k.el, d)
theorem kel_snd (k : Kd) (d : D) : (kel k d).2 = d := by cases d <;> rfl
theorem pr_kel {k : Kd} {d : D} {w : V} (h : RA K (k.elA B F) H d w) : PR K B F H w (kel k d) := by
  have g : PR K B F H w (k.el, d) := by
    cases k with
    | fl => exact .fl h
    | sh => exact .fl h
    | sa => exact .fl h
    | rd => exact .rd h
    | ow => exact .rd h
  cases d <;> first | exact g | exact .fl h
theorem RA.seq {d : D} {ds : List D} {v : V} (h : RA K A H d v) (e : d.seq = some ds) : ∃ p vs, v = .ref p ∧ (SqL K H p vs ∨ SqT K H p vs) ∧ RAs K A H ds vs := by
  cases d <;> first
    | (cases e; done)
    | (cases e; obtain ⟨p, vs, e, t, r⟩ := h; exact ⟨p, vs, e, .inr t, r⟩)
    | (cases e; obtain ⟨p, vs, e, _, t, r⟩ := h; exact ⟨p, vs, e, .inl (.of t), r⟩)
    | (cases e; obtain ⟨p, vs, e, t, r⟩ := h; exact ⟨p, vs, e, .inl (kst_seq t), r⟩)
theorem Shal.seq {d : D} {ds : List D} {v : V} (h : Shal K H d v) (e : d.seq = some ds) : ∃ p vs, v = .ref p ∧ (SqL K H p vs ∨ SqT K H p vs) ∧ RAs K No H ds vs := by
  cases d <;> first
    | (cases e; done)
    | exact h.elim
    | (cases e; obtain ⟨p, vs, e, t, r⟩ := h; exact ⟨p, vs, e, .inl (.of t), r⟩)
    | (cases e; obtain ⟨p, vs, e, t, r⟩ := h; exact ⟨p, vs, e, .inl (kst_seq t), r⟩)
theorem PR.seq {k : Kd} {d : D} {ds : List D} {v : V} (h : PR K B F H v (k, d)) (e : d.seq = some ds) :
    ∃ p vs, v = .ref p ∧ (SqL K H p vs ∨ SqT K H p vs) ∧ RAs K (k.elA B F) H ds vs := by
  cases k with
  | fl => obtain ⟨_, a, _⟩ := h; exact a.2.seq e
  | rd => exact h.ra.seq e
  | ow => exact h.ra.seq e
  | sh => obtain ⟨_, a, _⟩ := h; exact a.2.seq e
  | sa => obtain ⟨_, a, _⟩ := h; exact a.2.2.seq e
theorem PR.lstT {k : Kd} {ds : List D} {v : V} (h : PR K B F H v (k, .lst ds)) : ∃ p vs, v = .ref p ∧ H p = some (.lst vs) ∧ RAs K (k.elA B F) H ds vs := by
  have q : ∃ p vs, v = .ref p ∧ H p = some (.lst vs) ∧ RAs K (Or2 B F) H ds vs := by
    obtain ⟨p, vs, e, _, t, r⟩ := h.ra
    exact ⟨p, vs, e, t, r⟩
  cases k with
  | fl => obtain ⟨_, a, _⟩ := h; obtain ⟨p, vs, e, z, _⟩ := a.2; exact z.elim
  | rd => exact q
  | ow => exact q
  | sh => obtain ⟨_, a, _⟩ := h; obtain ⟨p, vs, e, t, r⟩ := a.2; exact ⟨p, vs, e, t, r⟩
  | sa => obtain ⟨_, a, _⟩ := h; obtain ⟨p, vs, e, t, r⟩ := a.2.2; exact ⟨p, vs, e, t, r⟩
theorem PR.tupT {k : Kd} {ds : List D} {v : V} (h : PR K B F H v (k, .tup ds)) : ∃ p vs, v = .ref p ∧ SqT K H p vs ∧ RAs K (k.elA B F) H ds vs := by
  have q : ∃ p vs, v = .ref p ∧ SqT K H p vs ∧ RAs K (Or2 B F) H ds vs := h.ra
  cases k with
  | fl => obtain ⟨_, a, _⟩ := h; exact a.2
  | rd => exact q
  | ow => exact q
  | sh => obtain ⟨_, a, _⟩ := h; exact a.2.elim
  | sa => obtain ⟨_, a, _⟩ := h; exact a.2.2.elim
theorem RAs.elno {k : Kd} {ds : List D} {vs : List V} (h : RAs K (k.elA B F) H ds vs) (e : k.el = .fl) : RAs K No H ds vs := by
  cases k <;> first | exact h | cases e
theorem RAs.elor {k : Kd} {ds : List D} {vs : List V} (h : RAs K (k.elA B F) H ds vs) : RAs K (Or2 B F) H ds vs := by
  cases k <;> first | exact h | exact RAs.no h
def kT (k : Kd) : Kd := k.el
def kL (k : Kd) : Kd := match k.el with
  | .fl => .sh
  | _ => .rd
theorem kL_fl {k : Kd} (h : k.el = .fl) : kL k = .sh := by unfold kL; rw [h]
theorem kL_rd {k : Kd} (h : k.el ≠ .fl) : kL k = .rd := by cases k <;> first | rfl | exact absurd rfl h
theorem el_cases (k : Kd) : k.el = .fl ∨ k.el = .rd := by cases k <;> first | exact .inl rfl | exact .inr rfl
theorem pr_tup {k : Kd} {ds : List D} {vs : List V} {p : Addr} (hr : RAs K (k.elA B F) H ds vs) (hp : H p = none) : PR K B F (upd H p (.tup vs)) (.ref p) (k.el, .tup ds) := by
  have s : Same H (upd H p (.tup vs)) := fun b o e => by rw [upd_ne (ne_of_none e hp)]; exact e
  rcases el_cases k with e | e
  · rw [e]
    exact .fl ⟨p, vs, rfl, .of upd_same, (hr.elno e).same s⟩
  · rw [e]
    exact .rd ⟨p, vs, rfl, .of upd_same, hr.elor.same s⟩
theorem pr_lst {k : Kd} {ds : List D} {vs : List V} {p : Addr} (hr : RAs K (k.elA B F) H ds vs) (hp : H p = none) (hF : F p) : PR K B F (upd H p (.lst vs)) (.ref p) (kL k, .lst ds) := by
  have s : Same H (upd H p (.lst vs)) := fun b o e => by rw [upd_ne (ne_of_none e hp)]; exact e
  rcases el_cases k with e | e
  · rw [kL_fl e]
    exact ⟨[p], ⟨⟨p, vs, [], rfl, rfl, upd_same, Rs.of0 _ _ ((hr.elno e).same s)⟩, ⟨p, vs, rfl, upd_same, (hr.elno e).same s⟩⟩, by simp, fun a h => by rw [List.mem_singleton.mp h]; exact hF⟩
  · rw [kL_rd (by rw [e]; decide)]
    exact .rd ⟨p, vs, rfl, .inr hF, upd_same, hr.elor.same s⟩
theorem same_upd {p : Addr} {o : HO} (h : H p = none) : Same H (upd H p o) := fun b x e => by
  rw [upd_ne (ne_of_none e h)]
  exact e
end

def Kd.rdk : Kd → Kd
  | .fl => .fl
  | .sh => .sa
  | .sa => .sa
  | .rd => .rd
  | .ow => .rd
section
variable {K : Frg} {A : Addr → Prop} {H : Hp} {σ : L2.St} {ρ : Ro} {ow : List Addr}
theorem Good.slot {i : Nat} {kd : KD} (g : Good K A H ρ σ ow) (e : ρ[i]? = some (some kd)) : ∃ v f, σ[i]? = some (some v) ∧ VR K A H kd v f ∧ f.Nodup ∧ ∀ a ∈ f, a ∈ ow := by
  obtain ⟨x, f1, f2, f3, hx, e2, ⟨v, rfl, h⟩, _⟩ := g.rep.split e
  have nd := g.nd
  rw [e2] at nd
  exact ⟨v, f2, hx, h, (List.nodup_append.mp (List.nodup_append.mp nd).2.1).1, fun a q => by rw [e2]; simp [q]⟩
theorem VR.rdk {k : Kd} {d : D} {v : V} {f : List Addr} {F : Addr → Prop} (h : VR K A H (k, d) v f) (s : ∀ a ∈ f, a ∈ ow) : PR K (BB A ow) F H v (k.rdk, d) := by
  have m : ∀ a, A a → Or2 (BB A ow) F a := fun a h => .inl (.inl h)
  have n : ∀ a ∈ f, Or2 (BB A ow) F a := fun a h => .inl (.inr (s a h))
  have r := h.ra m n
  cases k with
  | fl => exact .fl h.2
  | rd => exact .rd r
  | ow => exact .rd r
  | sh => exact ⟨[], ⟨rfl, r, h.2⟩, List.nodup_nil, fun _ z => nomatch z⟩
  | sa => exact ⟨[], ⟨rfl, r, h.2.2⟩, List.nodup_nil, fun _ z => nomatch z⟩
end

def pVar (i : Nat) : PF := fun ρ P => match ρ[i]? with
  | some (some (k, d)) => P (k.rdk, d)
  | _ => False
def pC (d : D) : PF := fun _ P => P (.fl, d)
section
variable {X : Cx} {pos : Pos}
theorem dp_var (i : Nat) {x : Str} (hN : X.N[i]? = some x := by rfl) (hv : Vis X.env.scope x := by first | exact Or.inl rfl | exact Or.inr (Or.inl rfl) | exact Or.inr (Or.inr rfl)) (hd : (x == ("__debug__" : Str)) = false := by decide)
    (hcd : (x == ("__classdict__" : Str)) = false := by decide) : DP X (.Name x pos) (pVar i) := by
  refine ⟨tVar i, pe_var hN hv hd hcd, fun σ H A ρ ow Q P g h q => ?_⟩
  unfold pVar at h
  cases e : ρ[i]? with
  | none => rw [e] at h; exact h.elim
  | some s =>
    rw [e] at h
    cases s with
    | none => exact h.elim
    | some kd =>
      obtain ⟨k, d⟩ := kd
      obtain ⟨v, f, hv, r, _, s⟩ := g.slot e
      exact ⟨v, hv, q _ v H h (Same.refl H) (r.rdk s)⟩
theorem dp_c {e : Expr} {v : V} {d : D} (h : PE X e (tC v)) (r : ∀ (A : Addr → Prop) (H : Hp), RA X.K A H d v) : DP X e (pC d) :=
  ⟨_, h, fun σ H A ρ ow Q P g h q => q _ v H h (Same.refl H) (.fl (r _ H))⟩
theorem dp_int {i : Int} {j} : DP X (.Constant (.int i) j pos) (pC (.int i)) := dp_c pe_int fun _ _ => rfl
theorem dp_bl {i : Bool} {j} : DP X (.Constant (.bool i) j pos) (pC (.bl i)) := dp_c pe_bl fun _ _ => rfl
def OpS (K : Frg) (r : R2) (o : KD → KD → (KD → Prop) → Prop) : Prop := ∀ (B F : Addr → Prop) (H : Hp) (v w : V) (x y : KD) (P : KD → Prop) (Q : VK), PR K B F H v x → PR K B F H w y → (∀ a, H a = none → F a) → o x y P →
  (∀ z u H', P z → Same H H' → PR K B F H' u z → Q u H') → r v w H Q
def CallS (K : Frg) (r : List V → Hp → VK → Prop) (o : List KD → (KD → Prop) → Prop) : Prop := ∀ (B F : Addr → Prop) (H : Hp) (vs : List V) (xs : List KD) (P : KD → Prop) (Q : VK), PRs K B F H vs xs → (∀ a, H a = none → F a) → o xs P →
  (∀ z u H', P z → Same H H' → PR K B F H' u z → Q u H') → r vs H Q
def pOp (o : KD → KD → (KD → Prop) → Prop) (fa fb : PF) : PF := fun ρ P => fa ρ fun x => fb ρ fun y => o x y P
def pUn (o : KD → (KD → Prop) → Prop) (fa : PF) : PF := fun ρ P => fa ρ fun x => o x P
variable {a b c : Expr} {fa fb fc : PF}
theorem sound_op {K : Frg} {r : R2} {o : KD → KD → (KD → Prop) → Prop} {ta tb : TE} (hr : OpS K r o) (sa : PSound K ta fa) (sb : PSound K tb fb) : PSound K (tOp r ta tb) (pOp o fa fb) := by
  intro σ H A ρ ow Q P g h q
  refine sa σ H A ρ ow _ _ g h fun x v H1 hx s1 p1 => ?_
  refine sb σ H1 A ρ ow _ _ (g.same s1) hx fun y w H2 hy s2 p2 => ?_
  refine hr (BB A ow) (Fre H) H2 v w x y P Q (p1.same s2) (p2.mono (fun _ h => h) (s1.fre)) (s1.trans s2).fre hy fun z u H' hz s3 p3 => ?_
  exact q z u H' hz ((s1.trans s2).trans s3) p3
theorem dp_op {op : Operator} {r : R2} {o : KD → KD → (KD → Prop) → Prop} (ho : OpR X (binaryOp op) r) (hr : OpS X.K r o) (ha : DP X a fa) (hb : DP X b fb) : DP X (.BinOp a op b pos) (pOp o fa fb) := by
  obtain ⟨ta, ea, sa⟩ := ha.run
  obtain ⟨tb, eb, sb⟩ := hb.run
  exact ⟨_, pe_op ho ea eb, sound_op hr sa sb⟩
theorem dp_cmp {op : CmpOp} {r : R2} {o : KD → KD → (KD → Prop) → Prop} (ho : OpR X (compareOp op) r) (hr : OpS X.K r o) (ha : DP X a fa) (hb : DP X b fb) (hm : behindInMarks op b = false) : DP X (.Compare a [op] [b] pos) (pOp o fa fb) := by
  obtain ⟨ta, ea, sa⟩ := ha.run
  obtain ⟨tb, eb, sb⟩ := hb.run
  exact ⟨_, pe_cmpR ho ea eb hm, sound_op hr sa sb⟩
def pTest (f : PF) : PTF := fun ρ P => f ρ fun z => match z.2 with
  | .bl b => P b
  | _ => False
theorem sound_test {K : Frg} {t : TE} {f : PF} (s : PSound K t f) : TSound K (tTest t) (pTest f) := by
  intro σ H A ρ ow Q P g h q
  refine s σ H A ρ ow _ _ g h fun z v H1 hz s1 p1 => ?_
  obtain ⟨k, d⟩ := z
  have r := p1.ra
  cases d <;> first
    | exact hz.elim
    | exact ⟨_, r, q _ H1 hz s1⟩
theorem dt_cmp {op : CmpOp} {r : R2} {o : KD → KD → (KD → Prop) → Prop} (ho : OpR X (compareOp op) r) (hr : OpS X.K r o) (ha : DP X a fa) (hb : DP X b fb) (hm : behindInMarks op b = false) : DT X (.Compare a [op] [b] pos) (pTest (pOp o fa fb)) := by
  obtain ⟨ta, ea, sa⟩ := ha.run
  obtain ⟨tb, eb, sb⟩ := hb.run
  exact ⟨_, pt_cmpR ho ea eb hm, sound_test (sound_op hr sa sb)⟩
theorem dt_val {e : Expr} {f : PF} (h : DP X e f) (he : ∀ whole, isTrue e X.env whole = (do let v ← whole; standAt e.pos; holding [v] (truthy v)) := by intro _; rfl) : DT X e (pTest f) := by
  obtain ⟨t, pe, s⟩ := h.run
  exact ⟨_, pt_val pe he, fun σ H A ρ ow Q P g h q => sound_test s σ H A ρ ow Q P g h q⟩
end
end DL

namespace DL
open PySem PySem.Spec PyProof.Rows L2

theorem OpR.or {X : Cx} {f : Value → Value → Sem Value} {r r' : R2} (h : OpR X f r) (h' : OpR X f r') : OpR X f (fun x y H Q => r x y H Q ∨ r' x y H Q) := by
  intro pins s σ H x y v u Q I r1 r2 q
  rcases q with q | q
  · exact h pins s σ H x y v u Q I r1 r2 q
  · exact h' pins s σ H x y v u Q I r1 r2 q
theorem tup_one (l : Addr) (its : Array Value) (n : Nat) (dd : Option Addr) (sl : Array (Option Value)) (u : Tok) :
    Meets (Builtin.«tuple.__mul__» ⟨[.ref l, .int 1 u], []⟩) (fun _ R s => s.heap.get? l = some { cls := .type "tuple", dict := dd, data := .seq its n, slots := sl } ∧ R (.ok (.ret (.ref l))) s) := by
  refine Meets.of_wp fun prog w A R st h => ?_
  obtain ⟨hp, g, d, tk, os⟩ := st
  obtain ⟨hl, h⟩ := h
  have f1 := AutoSeq1.idx_int
  wp_walk using wpAny_loadPart' hl
  exact ⟨_, rfl, h⟩
def rRep1 (K : Frg) : R2 := fun x y H Q => ∃ l xs, x = .ref l ∧ y = .int 1 ∧ SqT K H l xs ∧ Q x H
theorem op_rep1 {X : Cx} : OpR X (binaryOp .Mult) (rRep1 X.K) := by
  intro pins s σ H x y v u Q I rx ry h
  obtain ⟨l, xs, rfl, rfl, hT, q⟩ := h
  cases rx
  obtain ⟨t, rfl⟩ := ry
  obtain ⟨its, r, ⟨⟨cls, dd, data, sl⟩, ho, hc, n, hd⟩, hs⟩ := I.tuple hT
  simp only at hc hd
  subst hc hd
  refine wpAny_binaryOp_repeat_ref (T := "tuple") (U := "int") (by decide) ⟨_, ho, rfl⟩ (fun s' => typeIs_int s' 1 t) noFill_tuple_mul
    F.fills_int_mul F.slot_int_rmul repeat_tuple F.slot_int_index.lookup (call_meets F.slot_int_rmul (typeIs_int s 1 t) F.entry_int_rmul (F.args_int_rmul_2 _ _)
      (int_rmul_tuple 1 t l its.toArray n dd sl) ⟨ho, rfl, ⟨_, ho, rfl⟩, ?_⟩)
  refine call_meets F.slot_tuple_mul ⟨_, ho, rfl⟩ F.entry_tuple_mul (F.args_tuple_mul_2 _ _) (tup_one l its.toArray n dd sl t) ⟨ho, ?_⟩
  exact ⟨V.ref l, H, I, rfl, q⟩
def kT2 (k k' : Kd) : Kd := match k.el, k'.el with
  | .fl, .fl => .fl
  | _, _ => .rd
def kL2 (k k' : Kd) : Kd := match k.el, k'.el with
  | .fl, .fl => .sh
  | _, _ => .rd
section
variable {K : Frg} {A B F : Addr → Prop} {H : Hp}
theorem pr_cat {k k' : Kd} {ds es : List D} {vs ws : List V} (h : RAs K (k.elA B F) H ds vs) (h' : RAs K (k'.elA B F) H es ws) :
    RAs K ((kT2 k k').elA B F) H (ds ++ es) (vs ++ ws) := by
  unfold kT2
  rcases el_cases k with e | e <;> rcases el_cases k' with e' | e' <;> rw [e, e']
  · exact (h.elno e).append (h'.elno e')
  · exact h.elor.append h'.elor
  · exact h.elor.append h'.elor
  · exact h.elor.append h'.elor
theorem kT2_el (k k' : Kd) : (kT2 k k').el = kT2 k k' := by cases k <;> cases k' <;> rfl
theorem kL_kT2 (k k' : Kd) : kL (kT2 k k') = kL2 k k' := by cases k <;> cases k' <;> rfl

def oAdd : KD → KD → (KD → Prop) → Prop := fun x y P => match x, y with
  | (_, .int i), (_, .int j) => P (.fl, .int (i + j))
  | (_, .str a), (_, .str b) => a.length + b.length ≤ 10000000 ∧ P (.fl, .str (a ++ b))
  | (k, .lst a), (k', .lst b) => a.length + b.length ≤ 10000000 ∧ P (kL2 k k', .lst (a ++ b))
  | (k, .tup a), (k', .tup b) => a.length + b.length ≤ 10000000 ∧ P (kT2 k k', .tup (a ++ b))
  | _, _ => False
abbrev rAddAll (K : Frg) : R2 := fun x y H Q => (rI0 (fun i j => .int (i + j)) x y H Q) ∨ (∃ i j, x = .str i ∧ y = .str j ∧ i.length + j.length ≤ sizeLine ∧ Q (.str (i ++ j)) H) ∨ rCat x y H Q ∨ rCatA K x y H Q
theorem op_addAll {X : Cx} : OpR X (binaryOp .Add) (rAddAll X.K) := OpR.or op_add (OpR.or op_add_str (OpR.or op_cat op_catA))
theorem sz7 {n : Nat} (h : n ≤ 10000000) : n ≤ sizeLine := by rw [sizeLine_eq]; omega
theorem os_add : OpS K (rAddAll K) oAdd := by
  intro B F H v w x y P Q px py hF h q
  obtain ⟨k, d⟩ := x
  obtain ⟨k', d'⟩ := y
  unfold oAdd at h
  split at h
  · rename_i i _ j e1 e2
    cases e1; cases e2
    obtain rfl : v = .int i := px.ra
    obtain rfl : w = .int j := py.ra
    exact .inl ⟨i, j, rfl, rfl, q _ _ H h (Same.refl H) .int⟩
  · rename_i i _ j e1 e2
    cases e1; cases e2
    obtain rfl : v = .str i := px.ra
    obtain rfl : w = .str j := py.ra
    exact .inr (.inl ⟨i, j, rfl, rfl, sz7 h.1, q _ _ H h.2 (Same.refl H) .str⟩)
  · rename_i k1 a k2 b e1 e2
    cases e1; cases e2
    obtain ⟨p, vs, rfl, t, r⟩ := px.lstT
    obtain ⟨p', vs', rfl, t', r'⟩ := py.lstT
    refine .inr (.inr (.inl ⟨p, p', vs, vs', rfl, rfl, t, t', by rw [r.len, r'.len]; exact sz7 h.1, fun l hl => ?_⟩))
    have z := pr_lst (pr_cat r r') hl (hF l hl)
    rw [kL_kT2] at z
    exact q _ _ _ h.2 (same_upd hl) z
  · rename_i k1 a k2 b e1 e2
    cases e1; cases e2
    obtain ⟨p, vs, rfl, t, r⟩ := px.tupT
    obtain ⟨p', vs', rfl, t', r'⟩ := py.tupT
    have rr := pr_cat r r'
    have z : ∀ (H' : Hp) (pp : Addr) (ws : List V), Same H H' → SqT K H' pp ws → RAs K ((kT2 k k').elA B F) H (a ++ b) ws → PR K B F H' (.ref pp) (kT2 k k', .tup (a ++ b)) := fun H' pp ws s tt rq => by
      rcases el_cases (kT2 k k') with e | e
      · have e' : kT2 k k' = .fl := by rw [← kT2_el]; exact e
        rw [e']
        exact .fl ⟨pp, ws, rfl, tt, (rq.elno e).same s⟩
      · have e' : kT2 k k' = .rd := by rw [← kT2_el]; exact e
        rw [e']
        exact .rd ⟨pp, ws, rfl, tt, rq.elor.same s⟩
    refine .inr (.inr (.inr ⟨p, p', vs, vs', rfl, rfl, t, t', by rw [r.len, r'.len]; exact sz7 h.1, fun e => ?_, fun _ e => ?_, fun _ _ l hl => ?_⟩))
    · subst e
      exact q _ _ H h.2 (Same.refl H) (z H p' _ (Same.refl H) t' (by simpa using rr))
    · subst e
      exact q _ _ H h.2 (Same.refl H) (z H p _ (Same.refl H) t (by simpa using rr))
    · exact q _ _ _ h.2 (same_upd hl) (z _ l _ (same_upd hl) (.of upd_same) rr)
  · exact h.elim
def oI (C : Int → Int → Prop) (g : Int → Int → D) : KD → KD → (KD → Prop) → Prop := fun x y P => match x.2, y.2 with
  | .int i, .int j => C i j ∧ P (.fl, g i j)
  | _, _ => False
def oI0 (g : Int → Int → D) : KD → KD → (KD → Prop) → Prop := fun x y P => match x.2, y.2 with
  | .int i, .int j => P (.fl, g i j)
  | _, _ => False
theorem os_I {C : Int → Int → Prop} {g : Int → Int → V} {g' : Int → Int → D} (hg : ∀ i j, RA K No H (g' i j) (g i j) ∧ (∀ H', RA K No H' (g' i j) (g i j))) : OpS K (rI C g) (oI C g') := by
  intro B F H v w x y P Q px py hF h q
  obtain ⟨k, d⟩ := x
  obtain ⟨k', d'⟩ := y
  unfold oI at h
  split at h
  · rename_i i j e1 e2
    dsimp only at e1 e2
    subst e1; subst e2
    obtain rfl : v = .int i := px.ra
    obtain rfl : w = .int j := py.ra
    exact ⟨i, j, rfl, rfl, h.1, q _ _ H h.2 (Same.refl H) (.fl ((hg i j).2 H))⟩
  · exact h.elim
theorem os_I0 {g : Int → Int → V} {g' : Int → Int → D} (hg : ∀ i j H', RA K No H' (g' i j) (g i j)) : OpS K (rI0 g) (oI0 g') := by
  intro B F H v w x y P Q px py hF h q
  obtain ⟨k, d⟩ := x
  obtain ⟨k', d'⟩ := y
  unfold oI0 at h
  split at h
  · rename_i i j e1 e2
    dsimp only at e1 e2
    subst e1; subst e2
    obtain rfl : v = .int i := px.ra
    obtain rfl : w = .int j := py.ra
    exact ⟨i, j, rfl, rfl, q _ _ H h (Same.refl H) (.fl (hg i j H))⟩
  · exact h.elim
abbrev oSub : KD → KD → (KD → Prop) → Prop := oI0 fun i j => .int (i - j)
def CDivA (_ j : Int) : Prop := 0 < j ∧ j ≤ 1000000000000000000000000000000000000000000000000000000000000
theorem CDivA.w {i j : Int} (h : CDivA i j) : CDivW i j := by
  refine ⟨h.1, ?_⟩
  have h2 : j.natAbs ≤ 1000000000000000000000000000000000000000000000000000000000000 := by
    have h1 := h.1
    have := h.2
    omega
  by_cases e : j.natAbs = 0
  · rw [e]; decide
  · rw [Nat.log2_lt e]
    exact Nat.lt_of_le_of_lt h2 (Nat.lt_of_lt_of_le (by decide : 1000000000000000000000000000000000000000000000000000000000000 < 2 ^ 200) (Nat.pow_le_pow_right (by decide) (by decide)))
theorem op_fdivA {X : Cx} : OpR X (binaryOp .FloorDiv) (rI CDivA fun i j => .int (i / j)) := fun pins s σ H x y v u Q I rx ry h => by
  obtain ⟨i, j, e1, e2, c, q⟩ := h
  exact op_fdivW pins s σ H x y v u Q I rx ry ⟨i, j, e1, e2, c.w, q⟩
abbrev oFdiv : KD → KD → (KD → Prop) → Prop := oI CDivA fun i j => .int (i / j)
abbrev oMod : KD → KD → (KD → Prop) → Prop := oI (fun _ j => 0 < j) fun i j => .int (i % j)
abbrev oPow : KD → KD → (KD → Prop) → Prop := oI CPow fun i j => .int (i ^ j.toNat)
theorem os_sub : OpS K (rI0 fun i j => .int (i - j)) oSub := os_I0 fun _ _ _ => rfl
theorem os_fdiv : OpS K (rI CDivA fun i j => .int (i / j)) oFdiv := os_I (H := fun _ => none) fun _ _ => ⟨rfl, fun _ => rfl⟩
theorem os_mod : OpS K (rI (fun _ j => 0 < j) fun i j => .int (i % j)) oMod := os_I (H := fun _ => none) fun _ _ => ⟨rfl, fun _ => rfl⟩
theorem os_pow : OpS K (rI CPow fun i j => .int (i ^ j.toNat)) oPow := os_I (H := fun _ => none) fun _ _ => ⟨rfl, fun _ => rfl⟩
def oMul : KD → KD → (KD → Prop) → Prop := fun x y P => match x, y with
  | (_, .int i), (_, .int j) => CMul i j ∧ P (.fl, .int (i * j))
  | (k, .lst a), (_, .int j) => -100000 ≤ j ∧ j ≤ 100000 ∧ a.length * j.toNat ≤ 10000000 ∧ P (kL k, .lst (List.replicate j.toNat a).flatten)
  | (k, .tup a), (_, .int j) => a ≠ [] ∧ 1 ≤ j ∧ j ≤ 1000 ∧ a.length ≤ 1000 ∧ P (kT k, .tup (List.replicate j.toNat a).flatten)
  | _, _ => False
theorem RAs.rep {ds : List D} {vs : List V} (h : RAs K A H ds vs) : ∀ n : Nat, RAs K A H (List.replicate n ds).flatten (List.replicate n vs).flatten
  | 0 => .nil
  | n + 1 => by
    rw [List.replicate_succ, List.replicate_succ, List.flatten_cons, List.flatten_cons]
    exact h.append (RAs.rep h n)
abbrev rMulAll (K : Frg) : R2 := fun x y H Q => (rI CMul (fun i j => .int (i * j)) x y H Q) ∨ rRep x y H Q ∨ rRepT K x y H Q ∨ rRep1 K x y H Q
theorem op_mulAll {X : Cx} : OpR X (binaryOp .Mult) (rMulAll X.K) := OpR.or op_mul (OpR.or op_rep (OpR.or op_repT op_rep1))
theorem os_mul : OpS K (rMulAll K) oMul := by
  intro B F H v w x y P Q px py hF h q
  obtain ⟨k, d⟩ := x
  obtain ⟨k', d'⟩ := y
  unfold oMul at h
  split at h
  · rename_i i _ j e1 e2
    cases e1; cases e2
    obtain rfl : v = .int i := px.ra
    obtain rfl : w = .int j := py.ra
    exact .inl ⟨i, j, rfl, rfl, h.1, q _ _ H h.2 (Same.refl H) .int⟩
  · rename_i _ a _ j e1 e2
    cases e1; cases e2
    obtain ⟨p, vs, rfl, t, r⟩ := px.lstT
    obtain rfl : w = .int j := py.ra
    obtain ⟨h1, h2, h3, h4⟩ := h
    refine .inr (.inl ⟨p, j, vs, rfl, rfl, t, by omega, by omega, by rw [r.len]; exact sz7 h3, fun l hl => ?_⟩)
    exact q _ _ _ h4 (same_upd hl) (pr_lst (r.rep _) hl (hF l hl))
  · rename_i _ a _ j e1 e2
    cases e1; cases e2
    obtain ⟨p, vs, rfl, t, r⟩ := px.tupT
    obtain rfl : w = .int j := py.ra
    obtain ⟨h0, h1, h2, h3, h4⟩ := h
    by_cases e1 : j = 1
    · subst e1
      refine .inr (.inr (.inr ⟨p, vs, rfl, rfl, t, q _ _ H h4 (Same.refl H) ?_⟩))
      rw [show (List.replicate (1 : Int).toNat a).flatten = a by
        show a ++ [] = a
        exact List.append_nil a]
      rcases el_cases k with e | e
      · rw [show kT k = .fl from e]
        exact .fl ⟨p, vs, rfl, t, r.elno e⟩
      · rw [show kT k = .rd from e]
        exact .rd ⟨p, vs, rfl, t, r.elor⟩
    refine .inr (.inr (.inl ⟨p, j, vs, rfl, rfl, t, fun e => h0 ?_, by omega, h2, by rw [r.len]; exact h3, fun l hl => ?_⟩))
    · have z := r.len
      rw [e] at z
      exact List.eq_nil_of_length_eq_zero z.symm
    · exact q _ _ _ h4 (same_upd hl) (pr_tup (r.rep _) hl)
  · exact h.elim

def imP : Option Int → PyData
  | none => .none
  | some i => .int i
mutual
def D.toP : D → PyData
  | .non => .none
  | .bl b => .bool b
  | .int i => .int i
  | .str x => .str x
  | .tup ds => .tuple (D.toPs ds)
  | .lst ds => .list (D.toPs ds)
  | .kst ds => .list (D.toPs ds)
  | .frz d => D.toP d
  | .dcT _ _ => .dict []
  | .dcK _ _ => .dict []
  | .obj _ _ _ => .dict []
  | .fn _ => .dict []
  | .ad _ => .dict []
  | .lsA _ _ => .dict []
  | .key ns => .tuple (ns.map .int)
  | .tpx ns => .tuple (ns.map .int)
  | .exn _ => .dict []
  | .dcL kvs => .dict (kvs.map fun x => (imP x.1, imP x.2))
  | .dcN _ => .dict []
  | .lkT _ => .dict []
  | .any => .dict []
def D.toPs : List D → List PyData
  | [] => []
  | d :: ds => D.toP d :: D.toPs ds
end
theorem dpAll_ints : ∀ ns : List Int, DpAll K H (ns.map V.int) (ns.map PyData.int)
  | [] => .nil
  | i :: ns => .cons (.int i) (dpAll_ints ns)
mutual
theorem RA.dp : ∀ (d : D) (v : V), RA K A H d v → d.toP.canLay0 = true → Dp K H v d.toP
  | .non, _, h, _ => by rw [show _ = V.non from h]; exact .non
  | .bl b, _, h, _ => by rw [show _ = V.bl b from h]; exact .bl b
  | .int b, _, h, _ => by rw [show _ = V.int b from h]; exact .int b
  | .str b, _, h, _ => by rw [show _ = V.str b from h]; exact .str b
  | .tup ds, _, ⟨p, vs, e, t, r⟩, c => by subst e; exact .tup t (RAs.dp ds vs r c)
  | .lst ds, _, ⟨p, vs, e, _, t, r⟩, c => by subst e; exact .lst (.of t) (RAs.dp ds vs r c)
  | .kst ds, _, ⟨p, vs, e, t, r⟩, c => by subst e; exact .lst (kst_seq t) (RAs.dp ds vs r c)
  | .frz d, v, h, c => RA.dp d v h c
  | .dcT _ _, _, _, c => by cases c
  | .dcK _ _, _, _, c => by cases c
  | .obj _ _ _, _, _, c => by cases c
  | .fn _, _, _, c => by cases c
  | .ad _, _, _, c => by cases c
  | .lsA _ _, _, _, c => by cases c
  | .key ns, _, ⟨p, e, t⟩, _ => by subst e; exact .tup (.inl (.inl t)) (dpAll_ints ns)
  | .tpx ns, _, ⟨p, o, e, t, _⟩, _ => by subst e; exact .tup (.inl (.inr ⟨o, t⟩)) (dpAll_ints ns)
  | .exn _, _, _, c => by cases c
  | .dcL _, _, _, c => by cases c
  | .dcN _, _, _, c => by cases c
  | .lkT _, _, _, c => by cases c
  | .any, _, _, c => by cases c
theorem RAs.dp : ∀ (ds : List D) (vs : List V), RAs K A H ds vs → PyData.canLayAll0 (D.toPs ds) = true → DpAll K H vs (D.toPs ds)
  | [], _, h, _ => by rw [show _ = [] from h]; exact .nil
  | d :: ds, _, ⟨w, ws, e, h, t⟩, c => by
    subst e
    have c' := Bool.and_eq_true_iff.mp (show (d.toP.canLay0 && PyData.canLayAll0 (D.toPs ds)) = true from c)
    exact .cons (RA.dp d w h c'.1) (RAs.dp ds ws t c'.2)
end
def D.okE (d : D) : Prop := SeqAt.shaped d.toP = true
theorem PR.dp {v : V} {z : KD} (h : PR K B F H v z) (c : z.2.okE) : Dp K H v z.2.toP := RA.dp _ _ h.ra (SeqAt.canLay_of_shaped c)
def oEq : KD → KD → (KD → Prop) → Prop := fun x y P => match x.2, y.2 with
  | .int i, .int j => P (.fl, .bl (decide (i = j)))
  | .str i, .str j => P (.fl, .bl (decide (i = j)))
  | .bl i, .bl j => P (.fl, .bl (decide (i = j)))
  | a, b => a.okE ∧ b.okE ∧ P (.fl, .bl (PyData.eqv a.toP b.toP))
def oNe : KD → KD → (KD → Prop) → Prop := fun x y P => match x.2, y.2 with
  | .int i, .int j => P (.fl, .bl (!decide (i = j)))
  | .str i, .str j => P (.fl, .bl (!decide (i = j)))
  | .bl i, .bl j => P (.fl, .bl (!decide (i = j)))
  | a, b => a.okE ∧ b.okE ∧ P (.fl, .bl (!PyData.eqv a.toP b.toP))
abbrev rEqAll (K : Frg) : R2 := fun x y H Q => rEq x y H Q ∨ rEqD K x y H Q
abbrev rNeAll (K : Frg) : R2 := fun x y H Q => rNe x y H Q ∨ rNeD K x y H Q
theorem op_eqAll {X : Cx} (hu : X.A.units + 64 < cLine) : OpR X (compareOp .Eq) (rEqAll X.K) := OpR.or op_eq (op_eqD hu)
theorem op_neAll {X : Cx} (hu : X.A.units + 64 < cLine) : OpR X (compareOp .NotEq) (rNeAll X.K) := OpR.or op_ne (op_neD hu)
theorem dec_V {a b : Int} : decide (V.int a = V.int b) = decide (a = b) := by
  rw [Bool.eq_iff_iff]; simp
theorem dec_Vs {a b : Str} : decide (V.str a = V.str b) = decide (a = b) := by
  rw [Bool.eq_iff_iff]; simp
theorem dec_Vb {a b : Bool} : decide (V.bl a = V.bl b) = decide (a = b) := by
  rw [Bool.eq_iff_iff]; simp
theorem os_eq : OpS K (rEqAll K) oEq := by
  intro B F H v w x y P Q px py hF h q
  obtain ⟨k, d⟩ := x
  obtain ⟨k', d'⟩ := y
  unfold oEq at h
  split at h
  · rename_i i j e1 e2
    dsimp only at e1 e2
    subst e1; subst e2
    obtain rfl : v = .int i := px.ra
    obtain rfl : w = .int j := py.ra
    exact .inl ⟨rfl, by rw [dec_V]; exact q _ _ H h (Same.refl H) .bl⟩
  · rename_i i j e1 e2
    dsimp only at e1 e2
    subst e1; subst e2
    obtain rfl : v = .str i := px.ra
    obtain rfl : w = .str j := py.ra
    exact .inl ⟨rfl, by rw [dec_Vs]; exact q _ _ H h (Same.refl H) .bl⟩
  · rename_i i j e1 e2
    dsimp only at e1 e2
    subst e1; subst e2
    obtain rfl : v = .bl i := px.ra
    obtain rfl : w = .bl j := py.ra
    exact .inl ⟨rfl, by rw [dec_Vb]; exact q _ _ H h (Same.refl H) .bl⟩
  · obtain ⟨h1, h2, h3⟩ := h
    exact .inr ⟨_, _, px.dp h1, py.dp h2, h1, h2, q _ _ H h3 (Same.refl H) .bl⟩
theorem os_ne : OpS K (rNeAll K) oNe := by
  intro B F H v w x y P Q px py hF h q
  obtain ⟨k, d⟩ := x
  obtain ⟨k', d'⟩ := y
  unfold oNe at h
  split at h
  · rename_i i j e1 e2
    dsimp only at e1 e2
    subst e1; subst e2
    obtain rfl : v = .int i := px.ra
    obtain rfl : w = .int j := py.ra
    exact .inl ⟨rfl, by rw [dec_V]; exact q _ _ H h (Same.refl H) .bl⟩
  · rename_i i j e1 e2
    dsimp only at e1 e2
    subst e1; subst e2
    obtain rfl : v = .str i := px.ra
    obtain rfl : w = .str j := py.ra
    exact .inl ⟨rfl, by rw [dec_Vs]; exact q _ _ H h (Same.refl H) .bl⟩
  · rename_i i j e1 e2
    dsimp only at e1 e2
    subst e1; subst e2
    obtain rfl : v = .bl i := px.ra
    obtain rfl : w = .bl j := py.ra
    exact .inl ⟨rfl, by rw [dec_Vb]; exact q _ _ H h (Same.refl H) .bl⟩
  · obtain ⟨h1, h2, h3⟩ := h
    exact .inr ⟨_, _, px.dp h1, py.dp h2, h1, h2, q _ _ H h3 (Same.refl H) .bl⟩
abbrev oLt : KD → KD → (KD → Prop) → Prop := oI0 fun i j => .bl (decide (i < j))
abbrev oGt : KD → KD → (KD → Prop) → Prop := oI0 fun i j => .bl (decide (j < i))
theorem os_lt : OpS K (rI0 fun i j => .bl (decide (i < j))) oLt := os_I0 fun _ _ _ => rfl
theorem os_gt : OpS K (rI0 fun i j => .bl (decide (j < i))) oGt := os_I0 fun _ _ _ => rfl
def D.isNon : D → Bool
  | .non => true
  | .frz d => D.isNon d
  | _ => false
def oIsN : KD → KD → (KD → Prop) → Prop := fun x y P => y.2 = .non ∧ P (.fl, .bl x.2.isNon)
def oNotN : KD → KD → (KD → Prop) → Prop := fun x y P => y.2 = .non ∧ P (.fl, .bl (!x.2.isNon))
theorem RA.isNon : ∀ {d : D} {v : V}, RA K A H d v → decide (v = .non) = d.isNon
  | .non, _, h => by rw [show _ = V.non from h]; rfl
  | .bl _, _, h => by rw [show _ = V.bl _ from h]; rfl
  | .int _, _, h => by rw [show _ = V.int _ from h]; rfl
  | .str _, _, h => by rw [show _ = V.str _ from h]; rfl
  | .tup _, _, ⟨_, _, e, _⟩ => by rw [e]; rfl
  | .lst _, _, ⟨_, _, e, _⟩ => by rw [e]; rfl
  | .kst _, _, ⟨_, _, e, _⟩ => by rw [e]; rfl
  | .dcT _ _, _, ⟨_, _, e, _⟩ => by rw [e]; rfl
  | .dcK _ _, _, ⟨_, _, e, _⟩ => by rw [e]; rfl
  | .obj _ _ _, _, ⟨_, _, _, e, _⟩ => by rw [e]; rfl
  | .fn _, _, e => by rw [show _ = V.ref _ from e]; rfl
  | .ad _, _, e => by rw [show _ = V.ref _ from e]; rfl
  | .lsA _ _, _, ⟨e, _⟩ => by rw [show _ = V.ref _ from e]; rfl
  | .key _, _, ⟨_, e, _⟩ => by rw [e]; rfl
  | .tpx _, _, ⟨_, _, e, _⟩ => by rw [e]; rfl
  | .exn _, _, ⟨_, _, e, _⟩ => by rw [e]; rfl
  | .dcL _, _, ⟨_, _, e, _⟩ => by rw [e]; rfl
  | .dcN _, _, ⟨_, _, e, _⟩ => by rw [e]; rfl
  | .lkT _, _, ⟨_, _, e, _⟩ => by rw [e]; rfl
  | .any, _, e => decide_eq_false e
  | .frz d, v, h => RA.isNon (d := d) h
def D.flat1 : D → Bool
  | .non => true
  | .bl _ => true
  | .int _ => true
  | .str _ => true
  | _ => false
def eqD1 : D → D → Bool
  | .non, .non => true
  | .bl a, .bl b => a == b
  | .bl a, .int b => (if a then 1 else 0) == b
  | .int a, .bl b => a == (if b then 1 else 0)
  | .int a, .int b => a == b
  | .str a, .str b => a == b
  | _, _ => false
def inD (x : D) (ds : List D) : Bool := ds.any fun y => eqD1 y x
theorem RA.flat1 {d : D} {v : V} (h : RA K A H d v) (e : d.flat1 = true) : flatV v = true := by
  cases d <;> first
    | (cases e; done)
    | (rw [show v = _ from h]; rfl)
theorem RA.eq1 {d e : D} {v w : V} (h : RA K A H d v) (h' : RA K A H e w) (c : d.flat1 = true) (c' : e.flat1 = true) : eqV v w = eqD1 d e := by
  cases d <;> first
    | (cases c; done)
    | (rw [show v = _ from h]
       cases e <;> first
        | (cases c'; done)
        | (rw [show w = _ from h']; rfl))
theorem RAs.flat1 : ∀ {ds : List D} {vs : List V}, RAs K A H ds vs → ds.all D.flat1 = true → vs.all flatV = true
  | [], _, h, _ => by rw [show _ = [] from h]; rfl
  | d :: ds, _, ⟨w, ws, e, h, t⟩, c => by
    subst e
    rw [List.all_cons, Bool.and_eq_true] at c
    rw [List.all_cons, RA.flat1 h c.1, RAs.flat1 t c.2]; rfl
theorem RAs.in1 {x : D} {v : V} (hx : RA K A H x v) (cx : x.flat1 = true) : ∀ {ds : List D} {vs : List V}, RAs K A H ds vs → ds.all D.flat1 = true → inV v vs = inD x ds
  | [], _, h, _ => by rw [show _ = [] from h]; rfl
  | d :: ds, _, ⟨w, ws, e, h, t⟩, c => by
    subst e
    rw [List.all_cons, Bool.and_eq_true] at c
    show (eqV w v || inV v ws) = (eqD1 d x || inD x ds)
    rw [RA.eq1 h hx c.1 cx, RAs.in1 hx cx t c.2]
def oIn (neg : Bool) : KD → KD → (KD → Prop) → Prop := fun x y P => match y.2.seq with
  | some ds => x.2.flat1 = true ∧ ds.all D.flat1 = true ∧ P (.fl, .bl (if neg then !inD x.2 ds else inD x.2 ds))
  | none => False
theorem os_in {neg : Bool} : OpS K (rIn K neg) (oIn neg) := by
  intro B F H v w x y P Q px py hF h q
  unfold oIn at h
  cases e : y.2.seq with
  | none => rw [e] at h; exact h.elim
  | some ds =>
    rw [e] at h
    obtain ⟨h1, h2, h3⟩ := h
    obtain ⟨p, vs, rfl, t, r⟩ := py.ra.seq e
    refine ⟨p, vs, rfl, t, RA.flat1 px.ra h1, RAs.flat1 r h2, ?_⟩
    rw [RAs.in1 px.ra h1 r h2]
    exact q _ _ H h3 (Same.refl H) .bl
end
end DL

namespace DL
open PySem PySem.Spec PyProof.Rows L2

section
variable {K : Frg} {A B F : Addr → Prop} {H H' : Hp}
theorem VRs.len : ∀ {zs : List KD} {vs : List V} {f : List Addr}, VRs K A H zs vs f → vs.length = zs.length
  | [], _, _, h => by rw [h.1]; rfl
  | z :: zs, _, _, ⟨w, ws, f1, f2, e, e2, h, t⟩ => by rw [e, List.length_cons, List.length_cons, VRs.len t]
theorem VRs.append : ∀ {zs ys : List KD} {vs ws : List V} {f g : List Addr}, VRs K A H zs vs f → VRs K A H ys ws g → VRs K A H (zs ++ ys) (vs ++ ws) (f ++ g)
  | [], _, _, _, _, _, h, t => by rw [h.1, h.2]; exact t
  | z :: zs, _, _, _, _, _, ⟨w, ws, f1, f2, e, e2, h, t⟩, q => by subst e e2; rw [List.append_assoc]; exact ⟨w, _, f1, _, rfl, rfl, h, VRs.append t q⟩
theorem VRs.one {z : KD} {v : V} {f : List Addr} (h : VR K A H z v f) : VRs K A H [z] [v] f := ⟨v, [], f, [], rfl, (List.append_nil f).symm, h, rfl, rfl⟩
def jn (a b : Kd) : Kd := match a, b with
  | .fl, .fl => .fl
  | .fl, .ow => .ow
  | .sh, .fl => .ow
  | .sh, .ow => .ow
  | .ow, .fl => .ow
  | .ow, .ow => .ow
  | _, _ => .rd
def jT : List KD → Kd
  | [] => .fl
  | z :: zs => jn z.1 (jT zs)
def jL (zs : List KD) : Kd := match jT zs with
  | .fl => .sh
  | .ow => .ow
  | _ => .rd
theorem jT_cases : ∀ zs : List KD, jT zs = .fl ∨ jT zs = .ow ∨ jT zs = .rd
  | [] => .inl rfl
  | z :: zs => by
    show jn z.1 (jT zs) = _ ∨ jn z.1 (jT zs) = _ ∨ jn z.1 (jT zs) = _
    rcases jT_cases zs with e | e | e <;> rw [e] <;> cases z.1 <;> first | exact .inl rfl | exact .inr (.inl rfl) | exact .inr (.inr rfl)
theorem VRs.fl : ∀ {zs : List KD} {vs : List V} {f : List Addr}, VRs K A H zs vs f → jT zs = .fl → f = [] ∧ RAs K No H (zs.map (·.2)) vs
  | [], _, _, h, _ => ⟨h.2, h.1⟩
  | (k, d) :: zs, _, _, ⟨w, ws, f1, f2, e, e2, h, t⟩, j => by
    have j' : jn k (jT zs) = .fl := j
    have e3 : k = .fl ∧ jT zs = .fl := by
      revert j'
      cases k <;> cases jT zs <;> intro j' <;> first | exact ⟨rfl, rfl⟩ | cases j'
    obtain ⟨rfl, e4⟩ := e3
    obtain ⟨q1, q2⟩ := VRs.fl t e4
    subst e e2
    exact ⟨by rw [q1, h.1]; rfl, w, ws, rfl, h.2, q2⟩
theorem VR.r {k : Kd} {d : D} {v : V} {f : List Addr} (h : VR K A H (k, d) v f) (hk : k = .fl ∨ k = .sh ∨ k = .ow) : R K No H d v f := by
  rcases hk with rfl | rfl | rfl
  · obtain ⟨e, h⟩ := h
    subst e
    exact R.of0 _ _ h
  · exact h.1
  · exact h
theorem VRs.ow : ∀ {zs : List KD} {vs : List V} {f : List Addr}, VRs K A H zs vs f → jT zs ≠ .rd → Rs K No H (zs.map (·.2)) vs f
  | [], _, _, h, _ => h
  | (k, d) :: zs, _, _, ⟨w, ws, f1, f2, e, e2, h, t⟩, j => by
    have j' : jn k (jT zs) ≠ .rd := j
    have e3 : (k = .fl ∨ k = .sh ∨ k = .ow) ∧ jT zs ≠ .rd := by
      revert j'
      cases k <;> cases jT zs <;> intro j' <;> first | exact ⟨.inl rfl, by decide⟩ | exact ⟨.inr (.inl rfl), by decide⟩ | exact ⟨.inr (.inr rfl), by decide⟩ | exact absurd rfl j'
    exact ⟨w, ws, f1, f2, e, e2, h.r e3.1, VRs.ow t e3.2⟩
theorem VRs.ra (m : ∀ a, A a → B a) : ∀ {zs : List KD} {vs : List V} {f : List Addr}, VRs K A H zs vs f → (∀ a ∈ f, B a) → RAs K B H (zs.map (·.2)) vs
  | [], _, _, h, _ => h.1
  | z :: zs, _, _, ⟨w, ws, f1, f2, e, e2, h, t⟩, n => ⟨w, ws, e, h.ra m fun a q => n a (by rw [e2]; exact List.mem_append_left _ q), VRs.ra m t fun a q => n a (by rw [e2]; exact List.mem_append_right _ q)⟩
theorem pr_tupJ {zs : List KD} {vs : List V} {p : Addr} (h : PRs K B F H vs zs) (hp : H p = none) : PR K B F (upd H p (.tup vs)) (.ref p) (jT zs, .tup (zs.map (·.2))) := by
  obtain ⟨fp, r, nd, hF⟩ := h
  have s : Same H (upd H p (.tup vs)) := same_upd hp
  rcases jT_cases zs with e | e | e
  · rw [e]; exact .fl ⟨p, vs, rfl, .of upd_same, (r.fl e).2.same s⟩
  · rw [e]; exact ⟨fp, ⟨p, vs, rfl, .of upd_same, Rs.keep _ _ _ (KeepF.of_same s) (r.ow (by rw [e]; decide))⟩, nd, hF⟩
  · rw [e]; exact .rd ⟨p, vs, rfl, .of upd_same, (r.ra (fun _ h => h) fun a q => .inr (hF a q)).same s⟩
theorem pr_lstJ {zs : List KD} {vs : List V} {p : Addr} (h : PRs K B F H vs zs) (hp : H p = none) (hF0 : F p) : PR K B F (upd H p (.lst vs)) (.ref p) (jL zs, .lst (zs.map (·.2))) := by
  obtain ⟨fp, r, nd, hF⟩ := h
  have s : Same H (upd H p (.lst vs)) := same_upd hp
  have np : p ∉ fp := fun q => by
    obtain ⟨o, e, _⟩ := r.mu p q
    rw [hp] at e; cases e
  rcases jT_cases zs with e | e | e
  · have e' : jL zs = .sh := by unfold jL; rw [e]
    rw [e']
    exact ⟨[p], ⟨⟨p, vs, [], rfl, rfl, upd_same, Rs.of0 _ _ ((r.fl e).2.same s)⟩, p, vs, rfl, upd_same, (r.fl e).2.same s⟩, by simp, fun a q => by rw [List.mem_singleton.mp q]; exact hF0⟩
  · have e' : jL zs = .ow := by unfold jL; rw [e]
    rw [e']
    exact ⟨p :: fp, ⟨p, vs, fp, rfl, rfl, upd_same, Rs.keep _ _ _ (KeepF.of_same s) (r.ow (by rw [e]; decide))⟩, List.nodup_cons.mpr ⟨np, nd⟩, fun a q => by
      rcases List.mem_cons.mp q with rfl | q
      · exact hF0
      · exact hF a q⟩
  · have e' : jL zs = .rd := by unfold jL; rw [e]
    rw [e']
    exact .rd ⟨p, vs, rfl, .inr hF0, upd_same, (r.ra (fun _ h => h) fun a q => .inr (hF a q)).same s⟩
theorem PRs.one {z : KD} {v : V} (h : PR K B F H v z) : PRs K B F H [v] [z] := let ⟨fp, a, b, c⟩ := h; ⟨fp, .one a, b, c⟩
theorem PRs.get1 {z : KD} {vs : List V} (h : PRs K B F H vs [z]) : ∃ v, vs = [v] ∧ PR K B F H v z := by
  obtain ⟨fp, ⟨w, ws, f1, f2, e, e2, a, e3, e4⟩, b, c⟩ := h
  subst e e2 e3 e4
  rw [List.append_nil] at b c
  exact ⟨w, rfl, f1, a, b, c⟩
theorem PRs.get2 {z y : KD} {vs : List V} (h : PRs K B F H vs [z, y]) : ∃ v w, vs = [v, w] ∧ PR K B F H v z ∧ PR K B F H w y := by
  obtain ⟨fp, ⟨w, ws, f1, f2, e, e2, a, w', ws', f1', f2', e', e2', a', e3, e4⟩, b, c⟩ := h
  subst e e2 e' e2' e3 e4
  rw [List.append_nil] at b c
  obtain ⟨b1, b2, _⟩ := List.nodup_append.mp b
  exact ⟨w, w', rfl, ⟨f1, a, b1, fun x q => c x (List.mem_append_left _ q)⟩, ⟨f1', a', b2, fun x q => c x (List.mem_append_right _ q)⟩⟩
end
section
variable {X : Cx} {pos : Pos}
theorem da_nil : DA X [] 0 (fun _ P => P []) :=
  ⟨_, pa_nil, fun σ H A ρ ow Q P g h q => q [] [] H rfl h (Same.refl H) .nil⟩
theorem da_cons {e : Expr} {es : List Expr} {n : Nat} {f : PF} {g : PAF} (h : DP X e f) (t : DA X es n g) (hs : starEach (e :: es) X.env = (false, eval e X.env) :: starEach es X.env := by rfl) :
    DA X (e :: es) (n + 1) (fun ρ P => f ρ fun z => g ρ fun zs => P (z :: zs)) := by
  obtain ⟨ta, ea, sa⟩ := h.run
  obtain ⟨tb, eb, sb⟩ := t.run
  refine ⟨_, pa_cons ea eb hs, fun σ H A ρ ow Q P g h q => ?_⟩
  refine sa σ H A ρ ow _ _ g h fun x v H1 hx s1 p1 => ?_
  refine sb σ H1 A ρ ow _ _ (g.same s1) hx fun zs vs H2 hn hy s2 p2 => ?_
  refine q _ _ H2 (by rw [List.length_cons, hn]) hy (s1.trans s2) ?_
  obtain ⟨f1, a1, b1, c1⟩ := p1
  obtain ⟨f2, a2, b2, c2⟩ := p2
  refine ⟨f1 ++ f2, ⟨v, vs, f1, f2, rfl, rfl, a1.same s2, a2.mono fun a z => z.imp id (s1.fre a)⟩, List.nodup_append.mpr ⟨b1, b2, fun a ha b hb e => ?_⟩, fun a z => ?_⟩
  · subst e
    obtain ⟨o, e, _⟩ := a1.mu a ha
    rw [show H1 a = none from c2 a hb] at e; cases e
  · rcases List.mem_append.mp z with z | z
    · exact c1 a z
    · exact s1.fre a (c2 a z)
def pTup (g : PAF) : PF := fun ρ P => g ρ fun zs => P (jT zs, .tup (zs.map (·.2)))
def pLst (g : PAF) : PF := fun ρ P => g ρ fun zs => P (jL zs, .lst (zs.map (·.2)))
theorem dp_tup {es : List Expr} {n : Nat} {g : PAF} {k} (h : DA X es n g) (hn : n ≤ 1000 := by decide) : DP X (.Tuple es k pos) (pTup g) := by
  obtain ⟨ta, ea, sa⟩ := h.run
  refine ⟨_, pe_tup ea, fun σ H A ρ ow Q P g h q => ?_⟩
  refine sa σ H A ρ ow _ _ g h fun zs vs H1 hz hx s1 p1 => ⟨?_, fun p hp => ?_⟩
  · obtain ⟨_, r, _⟩ := p1
    rw [r.len, hz, sizeLine_eq]; omega
  · exact q _ _ _ hx (s1.trans (same_upd hp)) (pr_tupJ p1 hp)
theorem dp_lst {es : List Expr} {n : Nat} {g : PAF} (h : DA X es n g) (hn : n ≤ 1000 := by decide) : DP X (.List es pos) (pLst g) := by
  obtain ⟨ta, ea, sa⟩ := h.run
  refine ⟨_, pe_lst ea, fun σ H A ρ ow Q P g h q => ?_⟩
  refine sa σ H A ρ ow _ _ g h fun zs vs H1 hz hx s1 p1 => ⟨?_, fun p hp => ?_⟩
  · obtain ⟨_, r, _⟩ := p1
    rw [r.len, hz, sizeLine_eq]; omega
  · exact q _ _ _ hx (s1.trans (same_upd hp)) (pr_lstJ p1 hp (s1.fre p hp))
def pCall (o : List KD → (KD → Prop) → Prop) (g : PAF) : PF := fun ρ P => g ρ fun zs => o zs P
theorem sound_call {K : Frg} {n : Nat} {r : List V → Hp → VK → Prop} {o : List KD → (KD → Prop) → Prop} {t : TA} {g : PAF} (hr : CallS K r o) (s : ASound K n t g) : PSound K (tCB r t) (pCall o g) := by
  intro σ H A ρ ow Q P gd h q
  refine s σ H A ρ ow _ _ gd h fun zs vs H1 _ hx s1 p1 => ?_
  exact hr (BB A ow) (Fre H) H1 vs zs P Q p1 s1.fre hx fun z u H' hz s3 p3 => q z u H' hz (s1.trans s3) p3
variable {e : Expr} {es : List Expr} {n : Nat} {g : PAF} {r : List V → Hp → VK → Prop} {o : List KD → (KD → Prop) → Prop} {x : Str} {p : Pos}
theorem dp_callB {id : String} (hc : CallR X (.builtin id) r) (hr : CallS X.K r o) (hg : Gl X x) (hm : X.mg x = none) (hv : bootBuiltins x = some (.builtin id)) (ha : DA X (e :: es) n g) (hn : x ≠ "__name__" := by decide) (hdb : (x == ("__debug__" : Str)) = false := by decide)
    (he : starEach (e :: es) X.env = (false, eval e X.env) :: starEach es X.env := by rfl) (hpl : (backTo pos (starEach es X.env)).any (·.1) = false := by rfl) : DP X (.Call (.Name x p) (e :: es) [] pos) (pCall o g) := by
  obtain ⟨t, ea, sa⟩ := ha.run
  exact ⟨_, pe_callB hc hg hm hv ea hn hdb he hpl, sound_call hr sa⟩
theorem dp_callTy {T : String} (hc : CallR X (.type T) r) (hr : CallS X.K r o) (hg : Gl X x) (hm : X.mg x = none) (hv : bootBuiltins x = some (.type T)) (ha : DA X (e :: es) n g) (hn : x ≠ "__name__" := by decide) (hdb : (x == ("__debug__" : Str)) = false := by decide)
    (he : starEach (e :: es) X.env = (false, eval e X.env) :: starEach es X.env := by rfl) (hpl : (backTo pos (starEach es X.env)).any (·.1) = false := by rfl) : DP X (.Call (.Name x p) (e :: es) [] pos) (pCall o g) := by
  obtain ⟨t, ea, sa⟩ := ha.run
  exact ⟨_, pe_callTy hc hg hm hv ea hn hdb he hpl, sound_call hr sa⟩
end
end DL

namespace DL
open PySem PySem.Spec PyProof.Rows L2

section
variable {K : Frg} {A B F : Addr → Prop} {H H' : Hp}
theorem RAs.atI {ds : List D} {vs : List V} {i : Int} {d : D} (h : RAs K A H ds vs) (e : atI ds i = some d) : ∃ w, L2.atI vs i = some w ∧ RA K A H d w := by
  unfold L2.atI at e ⊢
  rw [h.len]
  cases q : ixN ds.length i with
  | none => rw [q] at e; cases e
  | some j =>
    rw [q] at e
    exact h.get e
def oIx : KD → KD → (KD → Prop) → Prop := fun x y P => match x, y.2 with
  | (k, .tup ds), .int i => (match atI ds i with | some d => P (kel k d) | none => False)
  | (k, .lst ds), .int i => (match atI ds i with | some d => P (kel k d) | none => False)
  | (k, .kst ds), .int i => (match atI ds i with | some d => P (kel k d) | none => False)
  | (_, .str z), .int i => z.length ≤ 10000000 ∧ (match atI z.cps.toList i with | some c => P (.fl, .str ⟨#[c]⟩) | none => False)
  | _, _ => False
theorem os_ix : OpS K (rIx K) oIx := by
  intro B F H v w x y P Q px py hF h q
  obtain ⟨k, d⟩ := x
  obtain ⟨k', d'⟩ := y
  have go : ∀ (ds : List D) (i : Int), d.seq = some ds → d' = .int i → (match atI ds i with | some d => P (kel k d) | none => False) → rIx K v w H Q := fun ds i e1 e2 hh => by
    clear h
    subst e2
    obtain ⟨p, vs, rfl, t, r⟩ := px.seq e1
    obtain rfl : w = .int i := py.ra
    cases e : atI ds i with
    | none => rw [e] at hh; exact hh.elim
    | some c =>
      rw [e] at hh
      obtain ⟨u, hu, ru⟩ := r.atI e
      rcases t with t | t
      · exact .inl ⟨p, vs, i, u, rfl, rfl, t, hu, q _ _ H hh (Same.refl H) (pr_kel ru)⟩
      · exact .inr (.inl ⟨p, vs, i, u, rfl, rfl, t, hu, q _ _ H hh (Same.refl H) (pr_kel ru)⟩)
  unfold oIx at h
  split at h
  · rename_i ds i e1 e2
    cases e1
    exact go ds i rfl e2 h
  · rename_i ds i e1 e2
    cases e1
    exact go ds i rfl e2 h
  · rename_i ds i e1 e2
    cases e1
    exact go ds i rfl e2 h
  · rename_i z i e1 e2
    cases e1
    dsimp only at e2
    subst e2
    obtain rfl : v = .str z := px.ra
    obtain rfl : w = .int i := py.ra
    obtain ⟨h1, h2⟩ := h
    cases e : atI z.cps.toList i with
    | none => rw [e] at h2; exact h2.elim
    | some c =>
      rw [e] at h2
      exact .inr (.inr ⟨z, i, c, rfl, rfl, sz7 h1, e, q _ _ H h2 (Same.refl H) .str⟩)
  · exact h.elim
end
section
variable {X : Cx} {pos : Pos} {a b c : Expr} {fa fb fc : PF}
theorem dp_ix (ha : DP X a fa) (hb : DP X b fb) (hs : PlainIx b := by exact fun _ _ => rfl) : DP X (.Subscript a b pos) (pOp oIx fa fb) := by
  obtain ⟨ta, ea, sa⟩ := ha.run
  obtain ⟨tb, eb, sb⟩ := hb.run
  exact ⟨_, pe_ix ix_seq ea eb hs, sound_op os_ix sa sb⟩

def cutD (xs : List D) (lo hi : Option Int) : List D := (xs.drop (HT.sIx xs.length 0 lo)).take (HT.sIx xs.length xs.length hi - HT.sIx xs.length 0 lo)
theorem RAs.cut {K : Frg} {A : Addr → Prop} {H : Hp} {ds : List D} {vs : List V} (h : RAs K A H ds vs) (lo hi : Option Int) : RAs K A H (cutD ds lo hi) (cutV vs lo hi) := by
  unfold cutD cutV
  rw [h.len]
  exact (h.drop _).take _
abbrev POF := Ro → (Option Int → Prop) → Prop
structure DO (X : Cx) (e : Option Expr) (f : POF) : Prop where
  run : ∃ t, PO X e t ∧ ∀ (σ : L2.St) (H : Hp) (A : Addr → Prop) (ρ : Ro) (ow : List Addr) (Q : Option Int → Hp → Prop) (P : Option Int → Prop), Good X.K A H ρ σ ow → f ρ P →
    (∀ b H', P b → Same H H' → Q b H') → t σ H Q
def oNoP : POF := fun _ P => P none
def oP (f : PF) : POF := fun ρ P => f ρ fun z => match z.2 with
  | .int i => P (some i)
  | _ => False
theorem do_none : DO X none oNoP := ⟨_, po_none, fun σ H A ρ ow Q P g h q => q _ H h (Same.refl H)⟩
theorem do_some (ha : DP X a fa) : DO X (some a) (oP fa) := by
  obtain ⟨ta, ea, sa⟩ := ha.run
  refine ⟨_, po_some ea, fun σ H A ρ ow Q P g h q => ?_⟩
  refine sa σ H A ρ ow _ _ g h fun z v H1 hz s1 p1 => ?_
  obtain ⟨k, d⟩ := z
  have r := p1.ra
  cases d <;> first
    | exact hz.elim
    | exact ⟨_, r, q _ H1 hz s1⟩
def pSl (f : PF) (g h : POF) : PF := fun ρ P => f ρ fun z => g ρ fun lo => h ρ fun hi => match z with
  | (k, .lst ds) => P (kL k, .lst (cutD ds lo hi))
  | (k, .kst ds) => P (kL k, .lst (cutD ds lo hi))
  | (k, .tup ds) => P (kT k, .tup (cutD ds lo hi))
  | _ => False
abbrev rSlAll (K : Frg) : V → Option Int → Option Int → Hp → VK → Prop := fun x lo hi H Q => rSlL K x lo hi H Q ∨ rSlA K x lo hi H Q
theorem dp_sl {lo hi : Option Expr} {g h : POF} {p2 : Pos} (ha : DP X a fa) (hl : DO X lo g) (hh : DO X hi h) : DP X (.Subscript a (.Slice lo hi none p2) pos) (pSl fa g h) := by
  obtain ⟨ta, ea, sa⟩ := ha.run
  obtain ⟨tl, el, sl⟩ := hl.run
  obtain ⟨th, eh, sh⟩ := hh.run
  refine ⟨_, pe_slice (r := rSlAll X.K) (SlR.or sl_list sl_tupA) ea el eh, fun σ H A ρ ow Q P gd hf q => ?_⟩
  refine sa σ H A ρ ow _ _ gd hf fun z v H1 hz s1 p1 => ?_
  refine sl σ H1 A ρ ow _ _ (gd.same s1) hz fun l H2 hl s2 => ?_
  refine sh σ H2 A ρ ow _ _ (gd.same (s1.trans s2)) hl fun u H3 hu s3 => ?_
  obtain ⟨k, d⟩ := z
  have p3 := (p1.same s2).same s3
  have s : Same H H3 := (s1.trans s2).trans s3
  have lst : ∀ (ds : List D) (p : Addr) (vs : List V), v = .ref p → SqL X.K H3 p vs → RAs X.K (k.elA (BB A ow) (Fre H)) H3 ds vs → P (kL k, .lst (cutD ds l u)) → rSlAll X.K v l u H3 Q := fun ds p vs e t r hu => by
    refine .inl ⟨p, vs, e, t, fun pp hp => ?_⟩
    exact q _ _ _ hu (s.trans (same_upd hp)) (pr_lst (r.cut l u) hp (s.fre pp hp))
  cases d with
  | lst ds =>
    obtain ⟨p, vs, e, t, r⟩ := p3.lstT
    exact lst _ p vs e (.of t) r hu
  | tup ds =>
    obtain ⟨p, vs, e, t, r⟩ := p3.tupT
    have rr := r.cut l u
    refine .inr ⟨p, vs, e, t, fun hw => ?_, fun hw pp hp => ?_⟩
    · have ew : cutV vs l u = vs := by
        unfold cutV
        rw [hw.1, hw.2]
        simp
      rw [ew] at rr
      refine q _ _ H3 hu s ?_
      unfold kT
      rcases el_cases k with e' | e'
      · rw [e']; exact .fl ⟨p, vs, rfl, t, rr.elno e'⟩
      · rw [e']; exact .rd ⟨p, vs, rfl, t, rr.elor⟩
    · exact q _ _ _ hu (s.trans (same_upd hp)) (pr_tup rr hp)
  | kst ds =>
    have z : ∃ p vs, v = .ref p ∧ SqL X.K H3 p vs ∧ RAs X.K (k.elA (BB A ow) (Fre H)) H3 ds vs := by
      have p4 : ∃ p vs, v = .ref p ∧ SqL X.K (lockd H3) p vs ∧ RAs X.K (Or2 (BB A ow) (Fre H)) H3 ds vs := p3.ra
      obtain ⟨p', vs', e', t', r'⟩ := p4
      cases k with
      | fl => obtain ⟨_, a, _⟩ := p3; obtain ⟨p, vs, e, t, r⟩ := a.2; exact ⟨p, vs, e, kst_seq t, r⟩
      | rd => exact ⟨p', vs', e', kst_seq t', r'⟩
      | ow => exact ⟨p', vs', e', kst_seq t', r'⟩
      | sh => obtain ⟨_, a, _⟩ := p3; obtain ⟨p, vs, e, t, r⟩ := a.2; exact ⟨p, vs, e, kst_seq t, r⟩
      | sa => obtain ⟨_, a, _⟩ := p3; obtain ⟨p, vs, e, t, r⟩ := a.2.2; exact ⟨p, vs, e, kst_seq t, r⟩
    obtain ⟨p, vs, e, t, r⟩ := z
    exact lst _ p vs e t r hu
  | _ => exact hu.elim

structure DW (X : Cx) (e : Expr) (f : PTF) : Prop where
  run : ∃ t, PW X e t ∧ TSound X.K t f
theorem DW.dt {e : Expr} {f : PTF} (h : DW X e f) : DT X e f := let ⟨t, a, b⟩ := h.run; ⟨t, a.pt, b⟩
variable {ta tb : PTF} {rest : List Expr}
def tAnd (f g : PTF) : PTF := fun ρ P => f ρ fun b => if b = true then g ρ P else P false
def tOr (f g : PTF) : PTF := fun ρ P => f ρ fun b => if b = true then P true else g ρ P
def tNot (f : PTF) : PTF := fun ρ P => f ρ fun b => P (!b)
theorem ts_and {K : Frg} {t u : TT} {f g : PTF} (s : TSound K t f) (s' : TSound K u g) : TSound K (L2.tAnd t u) (tAnd f g) := by
  intro σ H A ρ ow Q P gd h q
  refine s σ H A ρ ow _ _ gd h fun b H1 hb s1 => ?_
  cases b with
  | true => exact s' σ H1 A ρ ow _ _ (gd.same s1) hb fun b H2 hb s2 => q b H2 hb (s1.trans s2)
  | false => exact q false H1 hb s1
theorem ts_or {K : Frg} {t u : TT} {f g : PTF} (s : TSound K t f) (s' : TSound K u g) : TSound K (L2.tOr t u) (tOr f g) := by
  intro σ H A ρ ow Q P gd h q
  refine s σ H A ρ ow _ _ gd h fun b H1 hb s1 => ?_
  cases b with
  | false => exact s' σ H1 A ρ ow _ _ (gd.same s1) hb fun b H2 hb s2 => q b H2 hb (s1.trans s2)
  | true => exact q true H1 hb s1
theorem dw_and1 (h : DT X a ta) : DW X (.BoolOp .And [a] pos) ta := let ⟨_, e, s⟩ := h.run; ⟨_, pw_and1 e, s⟩
theorem dw_or1 (h : DT X a ta) : DW X (.BoolOp .Or [a] pos) ta := let ⟨_, e, s⟩ := h.run; ⟨_, pw_or1 e, s⟩
theorem dw_and (h : DT X a ta) (h' : DW X (.BoolOp .And (b :: rest) pos) tb) : DW X (.BoolOp .And (a :: b :: rest) pos) (tAnd ta tb) := let ⟨_, e, s⟩ := h.run; let ⟨_, e', s'⟩ := h'.run; ⟨_, pw_and e e', ts_and s s'⟩
theorem dw_or (h : DT X a ta) (h' : DW X (.BoolOp .Or (b :: rest) pos) tb) : DW X (.BoolOp .Or (a :: b :: rest) pos) (tOr ta tb) := let ⟨_, e, s⟩ := h.run; let ⟨_, e', s'⟩ := h'.run; ⟨_, pw_or e e', ts_or s s'⟩
def pAndV (f g : PF) : PF := fun ρ P => f ρ fun z => match z.2 with
  | .bl b => if b = true then g ρ P else P (.fl, .bl false)
  | _ => False
def uNot : KD → (KD → Prop) → Prop := fun z P => match z.2 with
  | .bl b => P (.fl, .bl (!b))
  | _ => False
theorem dp_one {op} (h : DP X a fa) : DP X (.BoolOp op [a] pos) fa := let ⟨_, e, s⟩ := h.run; ⟨_, pe_one e, s⟩
theorem dp_and (h : DP X a fa) (h' : DP X (.BoolOp .And (b :: rest) pos) fb) : DP X (.BoolOp .And (a :: b :: rest) pos) (pAndV fa fb) := by
  obtain ⟨_, e, s⟩ := h.run
  obtain ⟨_, e', s'⟩ := h'.run
  refine ⟨_, pe_and e e', fun σ H A ρ ow Q P gd h q => ?_⟩
  refine s σ H A ρ ow _ _ gd h fun z v H1 hz s1 p1 => ?_
  obtain ⟨k, d⟩ := z
  have r := p1.ra
  cases d <;> first
    | exact hz.elim
    | skip
  rename_i b
  refine ⟨b, r, ?_⟩
  cases b with
  | true => exact s' σ H1 A ρ ow _ _ (gd.same s1) hz fun z v H2 hz s2 p2 => q z v H2 hz (s1.trans s2) (p2.mono (fun _ h => h) s1.fre)
  | false => exact q _ _ H1 hz s1 .bl
end
end DL

namespace DL
open PySem PySem.Spec PyProof.Rows L2

structure Own (K : Frg) (A : Addr → Prop) (H : Hp) (kd : KD) (v : V) (fp ow : List Addr) : Prop where
  rep : VR K A H kd v fp
  nd : (fp ++ ow).Nodup
  dis : ∀ a ∈ fp, ¬ A a
abbrev GF := KD → Ro → (Ro → Prop) → Prop
def GSound (K : Frg) (is : List Nat) (t : TG) (g : GF) : Prop := ∀ (v : V) (kd : KD) (fp : List Addr) (σ : L2.St) (H : Hp) (A : Addr → Prop) (ρ : Ro) (ow : List Addr) (Q : L2.St → Hp → Prop) (P : Ro → Prop), Good K A H ρ σ ow → Own K A H kd v fp ow → g kd ρ P →
  (∀ ρ' σ' ow', P ρ' → Good K A H ρ' σ' ow' → (∀ a ∈ ow', a ∈ ow ∨ a ∈ fp) → wipe σ' is = wipe σ is → Q σ' H) → t v σ H Q
abbrev GsF := List KD → Ro → (Ro → Prop) → Prop
def GsSound (K : Frg) (is : List Nat) (t : TGs) (g : GsF) : Prop := ∀ (vs : List V) (zs : List KD) (fp : List Addr) (σ : L2.St) (H : Hp) (A : Addr → Prop) (ρ : Ro) (ow : List Addr) (Q : L2.St → Hp → Prop) (P : Ro → Prop), Good K A H ρ σ ow →
  VRs K A H zs vs fp → (fp ++ ow).Nodup → (∀ a ∈ fp, ¬ A a) → g zs ρ P →
  (∀ ρ' σ' ow', P ρ' → Good K A H ρ' σ' ow' → (∀ a ∈ ow', a ∈ ow ∨ a ∈ fp) → wipe σ' is = wipe σ is → Q σ' H) → t vs σ H Q
structure DG (X : Cx) (e : Expr) (is : List Nat) (g : GF) : Prop where
  run : ∃ t, PG X e t ∧ GSound X.K is t g
structure DGs (X : Cx) (es : List Expr) (is : List Nat) (n : Nat) (g : GsF) : Prop where
  run : ∃ t, PGs X es t ∧ GsSound X.K is t g
section
variable {K : Frg} {A : Addr → Prop} {H : Hp} {ρ : Ro} {σ : L2.St} {ow : List Addr}
theorem Good.put {i : Nat} {kd : KD} {v : V} {fp : List Addr} (g : Good K A H ρ σ ow) (o : Own K A H kd v fp ow) :
    ∃ ow', Good K A H (ρ.set i (some kd)) (σ.set i (some v)) ow' ∧ ∀ a ∈ ow', a ∈ ow ∨ a ∈ fp := by
  cases e : ρ[i]? with
  | none =>
    have h1 : ρ.length ≤ i := List.getElem?_eq_none_iff.mp e
    have h2 : σ.length ≤ i := by rw [g.rep.len]; exact h1
    rw [List.set_eq_of_length_le h1, List.set_eq_of_length_le h2]
    exact ⟨ow, g, fun a h => .inl h⟩
  | some s =>
    obtain ⟨x, f1, f2, f3, hx, e2, _, put⟩ := g.rep.split e
    have nd := o.nd
    subst e2
    refine ⟨f1 ++ (fp ++ f3), ⟨put H A (some kd) (some v) fp (fun _ h => h) (fun a o e _ => e) ⟨v, rfl, o.rep⟩, ?_, fun a h => ?_, g.tr⟩, fun a h => ?_⟩
    · obtain ⟨n1, n2, n3⟩ := List.nodup_append.mp nd
      obtain ⟨m1, m2, m3⟩ := List.nodup_append.mp n2
      obtain ⟨_, m5, m6⟩ := List.nodup_append.mp m2
      refine List.nodup_append.mpr ⟨m1, List.nodup_append.mpr ⟨n1, m5, fun a ha b hb => n3 a ha b (by simp [hb])⟩, fun a ha b hb => ?_⟩
      rcases List.mem_append.mp hb with hb | hb
      · exact fun e => n3 b hb a (by simp [ha]) e.symm
      · exact m3 a ha b (by simp [hb])
    · rcases List.mem_append.mp h with h | h
      · exact g.dis a (by simp [h])
      · rcases List.mem_append.mp h with h | h
        · exact o.dis a h
        · exact g.dis a (by simp [h])
    · rcases List.mem_append.mp h with h | h
      · exact .inl (by simp [h])
      · rcases List.mem_append.mp h with h | h
        · exact .inr h
        · exact .inl (by simp [h])
end
theorem wipe_get (σ : L2.St) (j : Nat) : ∀ vs : List Nat, (wipe σ vs)[j]? = if j ∈ vs ∧ j < σ.length then some none else σ[j]?
  | [] => by simp [wipe]
  | v :: vs => by
    show ((wipe σ vs).set v none)[j]? = _
    by_cases hv : v = j
    · subst hv
      by_cases hl : v < σ.length
      · rw [List.getElem?_set_self (by rw [wipe_length]; exact hl), if_pos ⟨List.mem_cons_self, hl⟩]
      · rw [List.set_eq_of_length_le (by rw [wipe_length]; omega), wipe_get σ v vs, if_neg (fun z => hl z.2), if_neg (fun z => hl z.2)]
    · rw [List.getElem?_set_ne hv, wipe_get σ j vs]
      have : j ∈ v :: vs ↔ j ∈ vs := by simp [Ne.symm hv]
      simp only [this]
theorem wipe_set {σ : L2.St} {i : Nat} {x : Option V} {vs : List Nat} (h : i ∈ vs) : wipe (σ.set i x) vs = wipe σ vs := by
  apply List.ext_getElem?
  intro j
  rw [wipe_get, wipe_get, List.length_set]
  by_cases hj : j ∈ vs ∧ j < σ.length
  · rw [if_pos hj, if_pos hj]
  · rw [if_neg hj, if_neg hj]
    by_cases hi : i = j
    · subst hi
      have hl : σ.length ≤ i := by
        by_cases q : i < σ.length
        · exact absurd ⟨h, q⟩ hj
        · omega
      rw [List.set_eq_of_length_le hl]
    · rw [List.getElem?_set_ne hi]
theorem wipe_idem (σ : L2.St) (vs : List Nat) : wipe (wipe σ vs) vs = wipe σ vs := by
  apply List.ext_getElem?
  intro j
  rw [wipe_get, wipe_get, wipe_length]
  by_cases hj : j ∈ vs ∧ j < σ.length
  · rw [if_pos hj, if_pos hj]
  · rw [if_neg hj]
theorem wipe_sub {σ τ : L2.St} {vs ws : List Nat} (h : wipe σ vs = wipe τ vs) (s : ∀ i ∈ vs, i ∈ ws) (hl : σ.length = τ.length) : wipe σ ws = wipe τ ws := by
  apply List.ext_getElem?
  intro j
  have e : (wipe σ vs)[j]? = (wipe τ vs)[j]? := by rw [h]
  rw [wipe_get, wipe_get] at e ⊢
  rw [hl] at e ⊢
  by_cases hj : j ∈ ws ∧ j < τ.length
  · rw [if_pos hj, if_pos hj]
  · rw [if_neg hj, if_neg hj]
    rwa [if_neg (fun z => hj ⟨s j z.1, z.2⟩), if_neg (fun z => hj ⟨s j z.1, z.2⟩)] at e
def gNm (i : Nat) : GF := fun kd ρ P => P (ρ.set i (some kd))
def kmv (k : Kd) (d : D) : KD := match d with
  | .non => (.fl, d)
  | .bl _ => (.fl, d)
  | .int _ => (.fl, d)
  | .str _ => (.fl, d)
  | .frz d => (match k with
    | .fl => (.fl, d)
    | .ow => (.fl, d)
    | _ => (.rd, d))
  | _ => (match k with
    | .fl => (.fl, d)
    | .ow => (.ow, d)
    | _ => (.rd, d))
def gTu (n : Nat) (gs : GsF) : GF := fun kd ρ P => match kd.2 with
  | .tup ds => ds.length = n ∧ gs (ds.map (kmv kd.1)) ρ P
  | _ => False
section
variable {K : Frg} {A : Addr → Prop} {H : Hp}
theorem RA.kmv {k : Kd} {d : D} {v : V} (h : RA K A H d v) (hk : k ≠ .fl) (hk2 : k ≠ .ow) : VR K A H (kmv k d) v [] := by
  cases k <;> first
    | exact absurd rfl hk
    | exact absurd rfl hk2
    | (cases d <;> first | exact ⟨rfl, h⟩)
theorem RA.kmv0 {d : D} {v : V} (h : RA K No H d v) : VR K A H (DL.kmv .fl d) v [] := by
  cases d <;> exact ⟨rfl, h⟩
theorem R.kmv {d : D} {v : V} {f : List Addr} (h : R K No H d v f) : VR K A H (DL.kmv .ow d) v f := by
  cases d <;> exact h
theorem VRs.kmv0 : ∀ {ds : List D} {vs : List V}, RAs K No H ds vs → VRs K A H (ds.map (kmv .fl)) vs []
  | [], _, h => ⟨h, rfl⟩
  | d :: ds, _, ⟨w, ws, e, h, t⟩ => ⟨w, ws, [], [], e, rfl, h.kmv0, VRs.kmv0 t⟩
theorem VRs.kmvR {k : Kd} (hk : k ≠ .fl) (hk2 : k ≠ .ow) : ∀ {ds : List D} {vs : List V}, RAs K A H ds vs → VRs K A H (ds.map (kmv k)) vs []
  | [], _, h => ⟨h, rfl⟩
  | d :: ds, _, ⟨w, ws, e, h, t⟩ => ⟨w, ws, [], [], e, rfl, h.kmv hk hk2, VRs.kmvR hk hk2 t⟩
theorem VRs.kmvO : ∀ {ds : List D} {vs : List V} {f : List Addr}, Rs K No H ds vs f → VRs K A H (ds.map (kmv .ow)) vs f
  | [], _, _, h => h
  | d :: ds, _, _, ⟨w, ws, f1, f2, e, e2, h, t⟩ => ⟨w, ws, f1, f2, e, e2, h.kmv, VRs.kmvO t⟩
theorem VR.tupT {k : Kd} {ds : List D} {v : V} {f : List Addr} (h : VR K A H (k, .tup ds) v f) : ∃ p vs, v = .ref p ∧ SqT K H p vs ∧ VRs K A H (ds.map (kmv k)) vs f := by
  cases k with
  | fl => obtain ⟨e, p, vs, e1, t, r⟩ := h; subst e; exact ⟨p, vs, e1, t, .kmv0 r⟩
  | rd => obtain ⟨e, p, vs, e1, t, r⟩ := h; subst e; exact ⟨p, vs, e1, t, .kmvR (by decide) (by decide) r⟩
  | ow => obtain ⟨p, vs, e1, t, r⟩ := h; exact ⟨p, vs, e1, t, .kmvO r⟩
  | sh => exact h.2.elim
  | sa => exact h.2.2.elim
end
section
variable {X : Cx} {pos : Pos}
theorem dg_name (i : Nat) {x : Str} (hN : X.N.Nodup) (hi : X.N[i]? = some x := by rfl) (hx : Loc X.env.scope x := by first | exact Or.inl rfl | exact Or.inr rfl) (hf : X.fn x = true ∨ X.env.scope.names.lookup x = some .local := by first | exact .inl rfl | exact .inr rfl) : DG X (.Name x pos) [i] (gNm i) := by
  refine ⟨_, pg_name hN hi hx hf, fun v kd fp σ H A ρ ow Q P g o h q => ?_⟩
  obtain ⟨ow', g', s⟩ := g.put (i := i) o
  exact q _ _ ow' h g' s (wipe_set (by simp))
theorem dgs_nil : DGs X [] [] 0 (fun zs ρ P => zs = [] ∧ P ρ) := by
  refine ⟨_, pgs_nil, fun vs zs fp σ H A ρ ow Q P g r nd dis h q => ?_⟩
  obtain ⟨e, h⟩ := h
  subst e
  exact ⟨r.1, q ρ σ ow h g (fun a h => .inl h) rfl⟩
theorem dgs_cons {e : Expr} {es : List Expr} {is js : List Nat} {n : Nat} {g : GF} {gs : GsF} (h1 : DG X e is g) (h2 : DGs X es js n gs)
    (hs : (assignEach (e :: es) X.env).map (·.2) = assign e X.env :: (assignEach es X.env).map (·.2) := by rfl) : DGs X (e :: es) (is ++ js) (n + 1) (fun zs ρ P => match zs with
      | z :: r => g z ρ fun ρ1 => gs r ρ1 P
      | [] => False) := by
  obtain ⟨t, e1, s1⟩ := h1.run
  obtain ⟨u, e2, s2⟩ := h2.run
  refine ⟨_, pgs_cons e1 e2 hs, fun vs zs fp σ H A ρ ow Q P gd r nd dis h q => ?_⟩
  · cases zs with
    | nil => exact h.elim
    | cons z r' =>
      obtain ⟨w, ws, f1, f2, ev, ef, r1, r2⟩ := r
      subst ev ef
      refine ⟨w, ws, rfl, ?_⟩
      obtain ⟨n1, n2, n3⟩ := List.nodup_append.mp nd
      obtain ⟨m1, m2, m3⟩ := List.nodup_append.mp n1
      refine s1 w z f1 σ H A ρ ow _ _ gd ⟨r1, List.nodup_append.mpr ⟨m1, n2, fun a ha b hb => n3 a (by simp [ha]) b hb⟩, fun a ha => dis a (by simp [ha])⟩ h fun ρ1 σ1 ow1 hp gd1 sub1 w1 => ?_
      refine s2 ws r' f2 σ1 H A ρ1 ow1 _ _ gd1 r2 (List.nodup_append.mpr ⟨m2, gd1.nd, fun a ha b hb e => ?_⟩) (fun a ha => dis a (by simp [ha])) hp fun ρ2 σ2 ow2 hp2 gd2 sub2 w2 => ?_
      · subst e
        rcases sub1 a hb with z | z
        · exact n3 a (by simp [ha]) a z rfl
        · exact m3 a z a ha rfl
      · refine q ρ2 σ2 ow2 hp2 gd2 (fun a ha => ?_) ?_
        · rcases sub2 a ha with z | z
          · rcases sub1 a z with z | z
            · exact .inl z
            · exact .inr (by simp [z])
          · exact .inr (by simp [z])
        · have l1 : σ1.length = σ.length := by rw [← wipe_length σ1 is, w1, wipe_length]
          have l2 : σ2.length = σ1.length := by rw [← wipe_length σ2 js, w2, wipe_length]
          exact (wipe_sub w2 (fun i h => by simp [h]) l2).trans (wipe_sub w1 (fun i h => by simp [h]) l1)
theorem dg_tup {es : List Expr} {is : List Nat} {n : Nat} {gs : GsF} {k : Nat} (hc : X.calm = true) (h : DGs X es is n gs) (hn : (assignEach es X.env).length = n := by rfl) (hst : (assignEach es X.env).findIdx? (·.1) = none := by rfl) :
    DG X (.Tuple es k pos) is (gTu n gs) := by
  obtain ⟨t, e, s⟩ := h.run
  refine ⟨_, pg_tup hc e hn hst, fun v kd fp σ H A ρ ow Q P g o h q => ?_⟩
  obtain ⟨k, d⟩ := kd
  cases d with
  | tup ds =>
    obtain ⟨h1, h2⟩ := h
    obtain ⟨p, vs, ev, t, r⟩ := o.rep.tupT
    exact ⟨p, vs, ev, t, by rw [r.len, List.length_map]; exact h1, s vs _ fp σ H A ρ ow Q P g r o.nd o.dis h2 q⟩
  | _ => exact h.elim
end

def OkZ (Z : Addr → Prop) (H' H'' : Hp) : Prop := ∀ a o, H' a = some o → ¬ Z a → H'' a = some o
def Walks (K : Frg) (J : It) (Ok : Hp → Prop) (A : Addr → Prop) (zs : List KD) : Prop :=
  ∃ (G : Hp → Prop) (Y : Nat → Hp → V → Hp → Prop), Walk J zs.length G Y ∧ (∀ H, Ok H → G H) ∧ ∀ i H x H2 z, zs[i]? = some z → Ok H → Y i H x H2 → Same H H2 ∧ VR K A H2 z x []
abbrev Fre2 (H H' : Hp) : Addr → Prop := fun a => H a = none ∧ ∃ o, H' a = some o
abbrev IF := Ro → (List KD → Prop) → Prop
def ISound (K : Frg) (t : TI) (src : IF) : Prop := ∀ (σ : L2.St) (H : Hp) (A : Addr → Prop) (ρ : Ro) (ow : List Addr) (R : It → Hp → Prop) (P : List KD → Prop) (Z : Addr → Prop), Good K A H ρ σ ow →
  (∀ a, Z a → ¬ BB A ow a ∧ ∃ o, H a = some o ∧ Mu o) → src ρ P →
  (∀ zs J H', P zs → Same H H' → Walks K J (OkZ Z H') (Or2 (BB A ow) (Fre2 H H')) zs → R J H') → t σ H R
structure DI (X : Cx) (tg iter : Expr) (src : IF) : Prop where
  run : ∃ t, PI X tg iter t ∧ ISound X.K t src
section
variable {K : Frg} {A B : Addr → Prop} {H H' H2 : Hp} {ow : List Addr} {Z : Addr → Prop}
theorem Rd.tr {p : Addr} {u : HO} (h : Rd H p u) : ∃ o, H p = some o := by
  rcases h with h | ⟨o, h⟩
  · exact ⟨_, h⟩
  · exact ⟨_, h⟩
mutual
theorem RA.monoT (m : ∀ a o, H a = some o → A a → B a) : ∀ (d : D) (v : V), RA K A H d v → RA K B H d v
  | .non, _, h => h
  | .bl _, _, h => h
  | .int _, _, h => h
  | .str _, _, h => h
  | .fn _, _, h => h
  | .ad _, _, h => h
  | .key _, _, h => h
  | .tpx _, _, h => h
  | .exn _, _, h => h
  | .dcL _, _, h => h
  | .dcN _, _, ⟨p, as, e, a, t, z⟩ => ⟨p, as, e, m _ _ t a, t, z⟩
  | .lkT _, _, h => h
  | .any, _, h => h
  | .tup ds, _, ⟨p, vs, e, t, r⟩ => ⟨p, vs, e, t, RAs.monoT m ds vs r⟩
  | .lst ds, _, ⟨p, vs, e, a, t, r⟩ => ⟨p, vs, e, m _ _ t a, t, RAs.monoT m ds vs r⟩
  | .lsA _ ds, _, ⟨e, a, vs, t, r⟩ => ⟨e, m _ _ t a, vs, t, RAs.monoT m ds vs r⟩
  | .kst ds, _, ⟨p, vs, e, t, r⟩ => ⟨p, vs, e, t, RAs.monoT m ds vs r⟩
  | .dcT ks ds, _, ⟨p, vs, e, a, t, q, r⟩ => ⟨p, vs, e, (let ⟨_, z⟩ := Rd.tr t; m _ _ z a), t, q, RAs.monoT m ds _ r⟩
  | .dcK ks ds, _, ⟨p, vs, e, a, t, q, r⟩ => ⟨p, vs, e, (let ⟨_, z⟩ := Rd.tr t; m _ _ z a), t, q, RAs.monoT m ds _ r⟩
  | .obj C ns ds, _, ⟨p, dx, fs, e, a, t, q, r⟩ => ⟨p, dx, fs, e, m _ _ t a, t, q, RAs.monoT m ds _ r⟩
  | .frz d, v, h => RA.monoT m d v h
theorem RAs.monoT (m : ∀ a o, H a = some o → A a → B a) : ∀ (ds : List D) (vs : List V), RAs K A H ds vs → RAs K B H ds vs
  | [], _, h => h
  | d :: ds, _, ⟨w, ws, e, h, r⟩ => ⟨w, ws, e, RA.monoT m d w h, RAs.monoT m ds ws r⟩
end
mutual
theorem R.monoT (m : ∀ a o, H a = some o → A a → B a) : ∀ (d : D) (v : V) (fp : List Addr), R K A H d v fp → R K B H d v fp
  | .non, _, _, h => h
  | .bl _, _, _, h => h
  | .int _, _, _, h => h
  | .str _, _, _, h => h
  | .fn _, _, _, h => h
  | .ad _, _, _, h => h
  | .key _, _, _, h => h
  | .tpx _, _, _, h => h
  | .exn _, _, _, h => h
  | .dcL _, _, _, h => h
  | .dcN _, _, _, h => h
  | .lkT _, _, _, h => h
  | .any, _, _, h => h
  | .kst ds, v, _, h => h
  | .tup ds, _, fp, ⟨p, vs, e, t, r⟩ => ⟨p, vs, e, t, Rs.monoT m ds vs fp r⟩
  | .lst ds, _, fp, ⟨p, vs, fps, e, e2, t, r⟩ => ⟨p, vs, fps, e, e2, t, Rs.monoT m ds vs fps r⟩
  | .lsA _ _, _, _, ⟨_, h⟩ => h.2.1.elim
  | .dcT ks ds, _, fp, ⟨p, vs, fps, e, e2, t, q, r⟩ => ⟨p, vs, fps, e, e2, t, q, Rs.monoT m ds _ fps r⟩
  | .dcK ks ds, _, fp, ⟨p, vs, fps, e, e2, t, q, r⟩ => ⟨p, vs, fps, e, e2, t, q, Rs.monoT m ds _ fps r⟩
  | .obj C ns ds, _, fp, ⟨p, dx, fs, fps, e, e2, t, q, r⟩ => ⟨p, dx, fs, fps, e, e2, t, q, Rs.monoT m ds _ fps r⟩
  | .frz d, v, fp, ⟨e, h⟩ => ⟨e, RA.monoT m d v h⟩
theorem Rs.monoT (m : ∀ a o, H a = some o → A a → B a) : ∀ (ds : List D) (vs : List V) (fp : List Addr), Rs K A H ds vs fp → Rs K B H ds vs fp
  | [], _, _, h => h
  | d :: ds, _, fp, ⟨w, ws, f1, f2, e, e2, h, r⟩ => ⟨w, ws, f1, f2, e, e2, R.monoT m d w f1 h, Rs.monoT m ds ws f2 r⟩
end
theorem VR.monoT {kd : KD} {v : V} {f : List Addr} (m : ∀ a o, H a = some o → A a → B a) (h : VR K A H kd v f) : VR K B H kd v f := by
  obtain ⟨c, d⟩ := kd
  cases c with
  | fl => exact h
  | rd => exact ⟨h.1, RA.monoT m _ _ h.2⟩
  | ow => exact h
  | sa => exact ⟨h.1, RA.monoT m _ _ h.2.1, h.2.2⟩
  | sh => exact h
theorem PR.tr {H0 : Hp} {v : V} {z : KD} (h : PR K B (Fre H0) H v z) : PR K B (Fre2 H0 H) H v z := by
  obtain ⟨fp, r, nd, hF⟩ := h
  exact ⟨fp, r.monoT fun a o e x => x.imp id fun y => ⟨y, o, e⟩, nd, fun a q => ⟨hF a q, let ⟨o, e, _⟩ := r.mu a q; ⟨o, e⟩⟩⟩
theorem fre2 {H0 : Hp} : ∀ a, Fre2 H0 H a → H0 a = none := fun _ h => h.1
theorem zFre {F : Addr → Prop} (hF : ∀ a, F a → H a = none) (hz : ∀ a, Z a → ¬ B a ∧ ∃ o, H a = some o ∧ Mu o) (s : Same H H') : ∀ a o, H' a = some o → (Or2 B F a ∨ Imm o) → ¬ Z a := fun a o e h z => by
  obtain ⟨h1, u, h2, m⟩ := hz a z
  rcases h with (h | h) | h
  · exact h1 h
  · rw [hF a h] at h2; cases h2
  · have e2 := s a u h2
    rw [e] at e2; cases e2
    exact m.notImm h
theorem OkZ.keep {F : Addr → Prop} (hF : ∀ a, F a → H a = none) (hz : ∀ a, Z a → ¬ B a ∧ ∃ o, H a = some o ∧ Mu o) (s : Same H H') (ok : OkZ Z H' H2) : Keep (Or2 B F) H' H2 := fun a o e h => ok a o e (zFre hF hz s a o e h)
def rangeD (lo : Int) (n : Nat) : List KD := (List.range n).map fun (i : Nat) => (.fl, .int (lo + i))
theorem rangeD_get {lo : Int} {n i : Nat} {z : KD} (h : (rangeD lo n)[i]? = some z) : z = (.fl, .int (lo + i)) := by
  unfold rangeD at h
  rw [List.getElem?_map] at h
  cases e : (List.range n)[i]? with
  | none => rw [e] at h; cases h
  | some j =>
    rw [e] at h
    have hj := List.getElem?_eq_some_iff.mp e
    obtain ⟨_, hj⟩ := hj
    rw [List.getElem_range] at hj
    subst hj
    exact (Option.some.inj h).symm
theorem walks_range {lo : Int} {n : Nat} {Ok : Hp → Prop} : Walks K (Itr lo n) Ok A (rangeD lo n) := by
  have hl : (rangeD lo n).length = n := by unfold rangeD; simp
  refine ⟨_, _, by rw [hl]; exact walk_range, fun _ _ => trivial, fun i H x H2 z hz _ y => ?_⟩
  obtain ⟨e, ex⟩ := y
  subst e ex
  rw [rangeD_get hz]
  exact ⟨Same.refl _, rfl, rfl⟩
theorem kel_VR {k : Kd} {F : Addr → Prop} {d : D} {w : V} (h : RA K (k.elA B F) H d w) : VR K (Or2 B F) H (kel k d) w [] := by
  have g : VR K (Or2 B F) H (k.el, d) w [] := by cases k <;> exact ⟨rfl, h⟩
  cases d <;> first | exact g | exact ⟨rfl, h⟩
theorem elA_keeps {k : Kd} {F : Addr → Prop} {d : List D} {w : List V} (kp : Keep (Or2 B F) H H2) (h : RAs K (k.elA B F) H d w) : RAs K (k.elA B F) H2 d w := by
  cases k <;> first
    | exact RAs.keep kp.no _ _ h
    | exact RAs.keep kp _ _ h
theorem walks_lst {F : Addr → Prop} (hF : ∀ a, F a → H a = none) {p : Addr} {vs : List V} {ds : List D} {k : Kd} (hz : ∀ a, Z a → ¬ B a ∧ ∃ o, H a = some o ∧ Mu o) (s : Same H H') (ht : ∀ H2, OkZ Z H' H2 → SqL K H2 p vs) (r : RAs K (k.elA B F) H' ds vs) :
    Walks K (Itl K p) (OkZ Z H') (Or2 B F) (ds.map (kel k)) := by
  have hl : (ds.map (kel k)).length = vs.length := by rw [List.length_map, r.len]
  refine ⟨_, _, by rw [hl]; exact walk_list, ht, fun i H2 x H3 z hzz ok y => ?_⟩
  · obtain ⟨e, ex⟩ := y
    subst e
    rw [List.getElem?_map] at hzz
    cases e : ds[i]? with
    | none => rw [e] at hzz; cases hzz
    | some d =>
      rw [e] at hzz
      obtain ⟨w, hw, rw'⟩ := (elA_keeps (ok.keep hF hz s) r).get e
      rw [ex] at hw
      cases hw
      cases hzz
      exact ⟨Same.refl _, kel_VR rw'⟩
theorem walks_tup {F : Addr → Prop} (hF : ∀ a, F a → H a = none) {p : Addr} {vs : List V} {ds : List D} {k : Kd} (hz : ∀ a, Z a → ¬ B a ∧ ∃ o, H a = some o ∧ Mu o) (s : Same H H') (t : SqT K H' p vs) (r : RAs K (k.elA B F) H' ds vs) :
    Walks K (Itt K p) (OkZ Z H') (Or2 B F) (ds.map (kel k)) := by
  have hl : (ds.map (kel k)).length = vs.length := by rw [List.length_map, r.len]
  refine ⟨_, _, by rw [hl]; exact walk_tup, fun H2 ok => SqT.keep (ok.keep hF hz s) t, fun i H2 x H3 z hzz ok y => ?_⟩
  obtain ⟨e, ex⟩ := y
  subst e
  rw [List.getElem?_map] at hzz
  cases e : ds[i]? with
  | none => rw [e] at hzz; cases hzz
  | some d =>
    rw [e] at hzz
    obtain ⟨w, hw, rw'⟩ := (elA_keeps (ok.keep hF hz s) r).get e
    rw [ex] at hw
    cases hw
    cases hzz
    exact ⟨Same.refl _, kel_VR rw'⟩
end

def iSeq (K : Frg) (tl : TE) : TI := fun σ H R => tl σ H fun x H1 => ∃ a, x = .ref a ∧ (((∃ xs, SqL K H1 a xs) ∧ R (Itl K a) H1) ∨ ((∃ xs, SqT K H1 a xs) ∧ R (Itt K a) H1))
section
variable {X : Cx} {tg : Expr}
theorem pi_seq {l : Expr} {tl : TE} (hl : PE X l tl) : PI X tg l (iSeq X.K tl) := by
  refine ⟨fun pins s σ H R I h => ?_⟩
  refine thn (hl.run pins s σ H _ I h) fun v s1 ⟨x, H1, I1, r1, q1⟩ => ?_
  obtain ⟨a, e, q1⟩ := q1
  subst e
  cases r1
  rcases q1 with ⟨⟨xs, hq⟩, q⟩ | ⟨⟨xs, hq⟩, q⟩
  · obtain ⟨its, rv, p, hz⟩ := I1.list hq
    refine wpAny_pyIter_list p.isList ?_
    refine ⟨s1.heap.objs.size, [s1.heap.objs.size], _, _, H1, rfl, I1.kept (t' := s1.toks) fun b o e => Heap.get?_push_of_some _ e, turn_list a _, ⟨_, Heap.get?_push_size _ rfl, rfl, rfl⟩, fun b hb => ?_, q⟩
    have e : b = s1.heap.objs.size := by simpa using hb
    subst e
    exact I1.fpOk (Nat.le_refl _) (I1.hok.fresh (Nat.le_refl _))
  · obtain ⟨its, rv, p, hz⟩ := I1.tuple hq
    refine wpAny_pyIter_tuple (show s1.heap.IsTuple a its.toArray from p) ?_
    refine ⟨s1.heap.objs.size, [s1.heap.objs.size], _, _, H1, rfl, I1.kept (t' := s1.toks) fun b o e => Heap.get?_push_of_some _ e, turn_tuple a _, ⟨_, Heap.get?_push_size _ rfl, rfl, rfl⟩, fun b hb => ?_, q⟩
    have e : b = s1.heap.objs.size := by simpa using hb
    subst e
    exact I1.fpOk (Nat.le_refl _) (I1.hok.fresh (Nat.le_refl _))
def iSq (f : PF) : IF := fun ρ P => f ρ fun z => match z.2.seq with
  | some ds => P (ds.map (kel z.1))
  | none => False
theorem PR.lp {K : Frg} {B F : Addr → Prop} {H : Hp} {k : Kd} {ds : List D} {v : V} (h : PR K B F H v (k, .lst ds)) : ∃ p vs, v = .ref p ∧ H p = some (.lst vs) ∧ Or2 B F p ∧ RAs K (k.elA B F) H ds vs := by
  obtain ⟨p, vs, e, a, t, r⟩ := h.ra
  obtain ⟨p', vs', e', t', r'⟩ := h.lstT
  rw [e] at e'; cases e'
  exact ⟨p, vs', e, t', a, r'⟩
theorem PR.kstT {K : Frg} {B F : Addr → Prop} {H : Hp} {k : Kd} {ds : List D} {v : V} (h : PR K B F H v (k, .kst ds)) : ∃ p vs, v = .ref p ∧ SqL K (lockd H) p vs ∧ RAs K (k.elA B F) H ds vs := by
  have p4 : ∃ p vs, v = .ref p ∧ SqL K (lockd H) p vs ∧ RAs K (Or2 B F) H ds vs := h.ra
  cases k with
  | fl => obtain ⟨_, a, _⟩ := h; exact a.2
  | rd => exact p4
  | ow => exact p4
  | sh => obtain ⟨_, a, _⟩ := h; exact a.2
  | sa => obtain ⟨_, a, _⟩ := h; exact a.2.2
theorem di_seq {l : Expr} {f : PF} (h : DP X l f) : DI X tg l (iSq f) := by
  obtain ⟨t, e, s⟩ := h.run
  refine ⟨_, pi_seq e, fun σ H A ρ ow R P Z g hz h q => ?_⟩
  refine s σ H A ρ ow _ _ g h fun z v H1 hh s1 p1 => ?_
  obtain ⟨k, d⟩ := z
  have p1 := p1.tr
  cases d with
  | lst ds =>
    obtain ⟨p, vs, ev, t, a, r⟩ := p1.lp
    refine ⟨p, ev, .inl ⟨⟨vs, .of t⟩, q _ _ H1 hh s1 (walks_lst fre2 hz s1 (fun H2 ok => .of (ok p _ t ?_)) r)⟩⟩
    exact zFre fre2 hz s1 p _ t (.inl a)
  | tup ds =>
    obtain ⟨p, vs, ev, t, r⟩ := p1.tupT
    exact ⟨p, ev, .inr ⟨⟨vs, t⟩, q _ _ H1 hh s1 (walks_tup fre2 hz s1 t r)⟩⟩
  | kst ds =>
    obtain ⟨p, vs, ev, t, r⟩ := p1.kstT
    exact ⟨p, ev, .inl ⟨⟨vs, kst_seq t⟩, q _ _ H1 hh s1 (walks_lst fre2 hz s1 (fun H2 ok => kst_seq (kst_keep (ok.keep (fre2 (H := H1)) hz s1) t)) r)⟩⟩
  | _ => exact hh.elim
def iR1 (f : PAF) : IF := fun ρ P => f ρ fun zs => match zs with
  | [(_, .int j)] => -1000000000000 ≤ j ∧ j ≤ 1000000000000 ∧ P (rangeD 0 j.toNat)
  | _ => False
def iR2 (f : PAF) : IF := fun ρ P => f ρ fun zs => match zs with
  | [(_, .int i), (_, .int j)] => (-1000000000000 ≤ i ∧ i ≤ 1000000000000 ∧ -1000000000000 ≤ j ∧ j ≤ 1000000000000) ∧ P (rangeD i (j - i).toNat)
  | _ => False
theorem di_range1 {a : Expr} {f : PAF} {p pos : Pos} (hg : Gl X "range") (hm : X.mg "range" = none) (ha : DA X [a] 1 f) (hs : starEach [a] X.env = [(false, eval a X.env)] := by rfl) : DI X tg (.Call (.Name "range" p) [a] [] pos) (iR1 f) := by
  obtain ⟨t, e, s⟩ := ha.run
  refine ⟨_, pi_range1 hg hm e hs, fun σ H A ρ ow R P Z g hz h q => ?_⟩
  refine s σ H A ρ ow _ _ g h fun zs vs H1 _ hh s1 p1 => ?_
  split at hh
  · obtain ⟨h1, h2, h3⟩ := hh
    obtain ⟨v, ev, p2⟩ := p1.get1
    obtain rfl : v = .int _ := p2.ra
    exact ⟨_, ev, by omega, by omega, q _ _ H1 h3 s1 walks_range⟩
  · exact hh.elim
theorem di_range2 {a b : Expr} {f : PAF} {p pos : Pos} (hg : Gl X "range") (hm : X.mg "range" = none) (ha : DA X [a, b] 2 f) (hs : starEach [a, b] X.env = [(false, eval a X.env), (false, eval b X.env)] := by rfl)
    (hs2 : starEach [b] X.env = [(false, eval b X.env)] := by rfl) : DI X tg (.Call (.Name "range" p) [a, b] [] pos) (iR2 f) := by
  obtain ⟨t, e, s⟩ := ha.run
  refine ⟨_, pi_range2 hg hm e hs hs2, fun σ H A ρ ow R P Z g hz h q => ?_⟩
  refine s σ H A ρ ow _ _ g h fun zs vs H1 _ hh s1 p1 => ?_
  split at hh
  · obtain ⟨⟨h1, h2, h3, h4⟩, h5⟩ := hh
    obtain ⟨v, w, ev, p2, p3⟩ := p1.get2
    obtain rfl : v = .int _ := p2.ra
    obtain rfl : w = .int _ := p3.ra
    exact ⟨_, _, ev, ⟨by omega, by omega, by omega, by omega⟩, q _ _ H1 h5 s1 walks_range⟩
  · exact hh.elim
end

theorem VRs.keepF {K : Frg} {A : Addr → Prop} {H H' : Hp} : ∀ {zs : List KD} {vs : List V} {f : List Addr}, KeepF A f H H' → VRs K A H zs vs f → VRs K A H' zs vs f
  | [], _, _, _, h => h
  | z :: zs, _, _, k, ⟨w, ws, f1, f2, e, e2, h, t⟩ => ⟨w, ws, f1, f2, e, e2, h.keep (k.sub fun a q => by rw [e2]; exact List.mem_append_left _ q), VRs.keepF (k.sub fun a q => by rw [e2]; exact List.mem_append_right _ q) t⟩
def tP (K : Frg) (f : PF) : TE := fun σ H Q => ∃ A ρ ow P, Good K A H ρ σ ow ∧ f ρ P ∧ ∀ z v H', P z → Same H H' → PR K (BB A ow) (Fre H) H' v z → Q v H'
def tT (K : Frg) (f : PTF) : TT := fun σ H Q => ∃ A ρ ow P, Good K A H ρ σ ow ∧ f ρ P ∧ ∀ b H', P b → Same H H' → Q b H'
def tG (K : Frg) (is : List Nat) (g : GF) : TG := fun v σ H Q => ∃ kd fp A ρ ow P, Good K A H ρ σ ow ∧ Own K A H kd v fp ow ∧ g kd ρ P ∧ ∀ ρ' σ' ow', P ρ' → Good K A H ρ' σ' ow' → (∀ a ∈ ow', a ∈ ow ∨ a ∈ fp) → wipe σ' is = wipe σ is → Q σ' H
section
variable {X : Cx}
theorem DP.can {e : Expr} {f : PF} (h : DP X e f) : PE X e (tP X.K f) := by
  obtain ⟨t, pe, s⟩ := h.run
  refine ⟨fun pins st σ H Q I hq => ?_⟩
  obtain ⟨A, ρ, ow, P, g, hf, q⟩ := hq
  exact pe.run pins st σ H Q I (s σ H A ρ ow Q P g hf q)
theorem DT.can {e : Expr} {f : PTF} (h : DT X e f) : PT X e (tT X.K f) := by
  obtain ⟨t, pe, s⟩ := h.run
  refine ⟨fun pins st σ H Q I hq => ?_⟩
  obtain ⟨A, ρ, ow, P, g, hf, q⟩ := hq
  exact pe.run pins st σ H Q I (s σ H A ρ ow Q P g hf q)
theorem DG.can {e : Expr} {is : List Nat} {f : GF} (h : DG X e is f) : PG X e (tG X.K is f) := by
  obtain ⟨t, pe, s⟩ := h.run
  refine ⟨fun pins st σ H v u Q I r hq => ?_⟩
  obtain ⟨kd, fp, A, ρ, ow, P, g, o, hf, q⟩ := hq
  exact pe.run pins st σ H v u Q I r (s v kd fp σ H A ρ ow Q P g o hf q)
structure DTs (X : Cx) (es : List Expr) (f : PTF) : Prop where
  run : PTs X es (tT X.K f)
theorem dts_nil : DTs X [] (fun _ P => P true) := by
  refine ⟨⟨fun pins s σ H Q I h => ?_⟩⟩
  obtain ⟨A, ρ, ow, P, g, hf, q⟩ := h
  exact pts_nil.run pins s σ H Q I (q true H hf (Same.refl H))
theorem dts_one {c : Expr} {f : PTF} (h : DT X c f) : DTs X [c] f := ⟨pts_one h.can⟩
end
def compL (step : KD → (Option KD → Prop) → Prop) : List KD → List KD → (List KD → Prop) → Prop
  | [], acc, P => P acc
  | z :: zs, acc, P => step z fun r => match r with
    | some y => compL step zs (acc ++ [y]) P
    | none => compL step zs acc P
def rdAll (ρ : Ro) : Ro := ρ.map fun s => match s with
  | some (k, d) => some (k.rdk, d)
  | none => none
def wipeR (ρ : Ro) : List Nat → Ro
  | [] => ρ
  | i :: is => (wipeR ρ is).set i none
def pLc (src : IF) (is : List Nat) (g : GF) (tt : PTF) (fe : PF) : PF := fun ρ P => src ρ fun zs => zs.length ≤ 10000000 ∧
  compL (fun z Q => g z (wipeR (rdAll ρ) is) fun ρ1 => tt ρ1 fun b => if b = true then fe ρ1 fun y => Q (some y) else Q none) zs [] fun ys => P (jL ys, .lst (ys.map (·.2)))
section
variable {K : Frg} {A B : Addr → Prop} {H H' : Hp} {ow : List Addr}
theorem VR.rdk2 {kd : KD} {v : V} {f : List Addr} (h : VR K A H kd v f) (s : ∀ a ∈ f, a ∈ ow) : VR K (BB A ow) H (kd.1.rdk, kd.2) v [] := by
  obtain ⟨k, d⟩ := kd
  have r : RA K (BB A ow) H d v := h.ra (fun a x => .inl x) (fun a x => .inr (s a x))
  cases k with
  | fl => exact ⟨rfl, h.2⟩
  | rd => exact ⟨rfl, r⟩
  | ow => exact ⟨rfl, r⟩
  | sh => exact ⟨rfl, r, h.2⟩
  | sa => exact ⟨rfl, r, h.2.2⟩
theorem RepS.rdAll : ∀ {ρ : Ro} {σ : L2.St} {f : List Addr}, RepS K A H ρ σ f → (∀ a ∈ f, a ∈ ow) → RepS K (BB A ow) H (rdAll ρ) σ []
  | [], _, _, h, _ => ⟨h.1, rfl⟩
  | s :: ρ, _, _, ⟨x, σ', f, g, e, e2, h, r⟩, i => by
    refine ⟨x, σ', [], [], e, rfl, ?_, RepS.rdAll r fun a q => i a (by rw [e2]; exact List.mem_append_right _ q)⟩
    cases s with
    | none => rfl
    | some kd => obtain ⟨v, ev, h⟩ := h; exact ⟨v, ev, h.rdk2 fun a q => i a (by rw [e2]; exact List.mem_append_left _ q)⟩
theorem RepS.set0 {ρ : Ro} {σ : L2.St} {i : Nat} (h : RepS K A H ρ σ []) : RepS K A H (ρ.set i none) (σ.set i none) [] := by
  cases e : ρ[i]? with
  | none =>
    have h1 : ρ.length ≤ i := List.getElem?_eq_none_iff.mp e
    have h2 : σ.length ≤ i := by rw [h.len]; exact h1
    rw [List.set_eq_of_length_le h1, List.set_eq_of_length_le h2]
    exact h
  | some s =>
    obtain ⟨x, f1, f2, f3, hx, e2, _, put⟩ := h.split e
    have e3 := List.append_eq_nil_iff.mp e2.symm
    have e4 := List.append_eq_nil_iff.mp e3.2
    have := put H A none none [] (fun _ h => h) (fun a o e _ => e) rfl
    rw [e3.1, e4.2] at this
    exact this
theorem RepS.wipe {ρ : Ro} {σ : L2.St} (h : RepS K A H ρ σ []) : ∀ is : List Nat, RepS K A H (wipeR ρ is) (wipe σ is) []
  | [] => h
  | i :: is => (RepS.wipe h is).set0
end
section
variable {X : Cx}
theorem sound_lc {K : Frg} {wi : TI} {src : IF} {is : List Nat} {g : GF} {tt : PTF} {fe : PF} (hs : ISound K wi src) : PSound K (tLc wi (tG K is g) (tT K tt) (tP K fe) is) (pLc src is g tt fe) := by
  intro σ H A ρ ow Q P gd h q
  refine hs σ H A ρ ow _ _ (fun _ => False) gd (fun _ z => z.elim) h fun zs J H1 hz s1 wk => ?_
  obtain ⟨hlen, hc⟩ := hz
  obtain ⟨G, Y, walk, hG, hY⟩ := wk
  intro D hD
  have hD0 : H D = none := s1.free hD
  let Acc : Addr → Prop := fun a => Or2 (BB A ow) (Fre H) a ∧ a ≠ D
  let P' : List KD → Prop := fun ys => P (jL ys, .lst (ys.map (·.2)))
  let step : KD → (Option KD → Prop) → Prop := fun z Q => g z (wipeR (rdAll ρ) is) fun ρ1 => tt ρ1 fun b => if b = true then fe ρ1 fun y => Q (some y) else Q none
  refine lc_it walk (fun i Hc => Same H1 Hc ∧ ∃ acc accV fp, Hc D = some (.lst accV) ∧ VRs K Acc Hc acc accV fp ∧ fp.Nodup ∧ (∀ a ∈ fp, Fre H a ∧ a ≠ D) ∧ compL step (zs.drop i) acc P' ∧ acc.length ≤ i) ?_ ?_ ?_ ?_
  · exact ⟨same_upd hD, [], [], [], upd_same, ⟨rfl, rfl⟩, List.nodup_nil, fun a h => (nomatch h), hc, Nat.le_refl _⟩
  · exact fun i H2 _ p => hG H2 fun a o e _ => p.1 a o e
  · rintro i x H2 H3 hi ⟨sm, acc, accV, fp, hDv, r, nd, hF, hcomp, hl⟩ y
    have hzi : zs[i]? = some zs[i] := List.getElem?_eq_getElem hi
    obtain ⟨s3, vz⟩ := hY i H2 x H3 zs[i] hzi (fun a o e _ => sm a o e) y
    rw [List.drop_eq_getElem_cons hi] at hcomp
    have hstep : step zs[i] fun r => match r with
      | some y => compL step (zs.drop (i + 1)) (acc ++ [y]) P'
      | none => compL step (zs.drop (i + 1)) acc P' := hcomp
    have hD3 : H3 D = some (.lst accV) := s3 _ _ hDv
    have s03 : Same H H3 := (s1.trans sm).trans s3
    -- the block's own knowledge
    let Ab : Addr → Prop := fun a => Acc a ∧ ∃ o, H3 a = some o
    have bAb : ∀ a, BB A ow a → Ab a := fun a h => by
      have tr : ∃ o, H a = some o := by
        rcases h with h | h
        · exact gd.tr a h
        · obtain ⟨o, e, _⟩ := gd.rep.mu a h; exact ⟨o, e⟩
      obtain ⟨o, e⟩ := tr
      exact ⟨⟨.inl h, fun z => by rw [z, hD0] at e; cases e⟩, o, s03 a o e⟩
    have gb : Good K Ab H3 (wipeR (rdAll ρ) is) (wipe σ is) [] :=
      ⟨(RepS.mono bAb (RepS.keep (KeepF.of_same s03) (gd.rep.rdAll fun _ h => h))).wipe is, List.nodup_nil, fun a h => (nomatch h), fun a h => h.2⟩
    have vb : VR K Ab H3 zs[i] x [] := vz.monoT fun a o e h => by
      rcases h with h | ⟨h1, u, h2⟩
      · exact bAb a h
      · exact ⟨⟨.inr h1, fun z => by rw [z, hD] at h2; cases h2⟩, o, e⟩
    have noD : ∀ a u, a ≠ D → ∀ (Hx : Hp) w, Hx a = some u → (upd Hx D w) a = some u := fun a u n Hx w e => by rw [upd_ne n]; exact e
    refine ⟨zs[i], [], Ab, _, [], _, gb, ⟨vb, by simp, fun a h => (nomatch h)⟩, hstep, fun ρ1 σ1 ow1 h1 g1 sub1 w1 => ⟨w1.trans (wipe_idem σ is), ?_⟩⟩
    have ow1n : ow1 = [] := by
      cases ow1 with
      | nil => rfl
      | cons a r => rcases sub1 a List.mem_cons_self with z | z <;> cases z
    subst ow1n
    refine ⟨Ab, ρ1, [], _, g1, h1, fun b H4 h2 s4 => ?_⟩
    cases b with
    | false =>
      rw [if_neg Bool.false_ne_true] at h2 ⊢
      exact ⟨(sm.trans s3).trans s4, acc, accV, fp, s4 _ _ hD3, (r.same s3).same s4, nd, hF, h2, by omega⟩
    | true =>
      rw [if_pos rfl] at h2 ⊢
      refine ⟨Ab, ρ1, [], _, g1.same s4, h2, fun z v H5 h3 s5 p5 => ?_⟩
      have hD5 : H5 D = some (.lst accV) := s5 _ _ (s4 _ _ hD3)
      have s05 : Same H H5 := (s03.trans s4).trans s5
      have r5 := ((r.same s3).same s4).same s5
      obtain ⟨f5, a5, n5, fr5⟩ := p5
      have fr5' : ∀ a ∈ f5, Fre H a ∧ a ≠ D := fun a h => by
        have e4 : H4 a = none := fr5 a h
        have e3 : H3 a = none := s4.free e4
        exact ⟨s03.free e3, fun z => by rw [z, hD3] at e3; cases e3⟩
      have a5' : VR K Acc H5 z v f5 := a5.mono fun a h => by
        rcases h with (h | h) | h
        · exact h.1
        · cases h
        · have e4 : H4 a = none := h
          have e3 : H3 a = none := s4.free e4
          exact ⟨.inr (s03.free e3), fun z => by rw [z, hD3] at e3; cases e3⟩
      have all := r5.append (VRs.one a5')
      refine ⟨accV, hD5, ?_, fun b u e => ?_, acc ++ [z], accV ++ [v], fp ++ f5, upd_same, ?_, ?_, ?_, h3, ?_⟩
      · rw [r.len, sizeLine_eq]
        have := hi
        omega
      · have e5 : H5 b = some u := ((sm.trans s3).trans s4).trans s5 b u e
        rw [upd_ne (fun z => by rw [z, hD] at e; cases e)]
        exact e5
      · have kp : KeepF Acc (fp ++ f5) H5 (upd H5 D (.lst (accV ++ [v]))) := fun a u e h => by
          refine noD a u (fun z => ?_) H5 _ e
          rcases h with h | h | h
          · rcases List.mem_append.mp h with h | h
            · exact (hF a h).2 z
            · exact (fr5' a h).2 z
          · exact h.2 z
          · rw [z, hD5] at e; cases e; exact h
        exact VRs.keepF kp all
      · refine List.nodup_append.mpr ⟨nd, n5, fun a ha b hb e => ?_⟩
        subst e
        obtain ⟨o, e, _⟩ := ((r.same s3).same s4).mu a ha
        rw [show H4 a = none from fr5 a hb] at e; cases e
      · intro a h
        rcases List.mem_append.mp h with h | h
        · exact hF a h
        · exact fr5' a h
      · rw [List.length_append]
        show acc.length + 1 ≤ i + 1
        omega
  · rintro H2 ⟨sm, acc, accV, fp, hDv, r, nd, hF, hcomp, hl⟩
    rw [List.drop_eq_nil_of_le (Nat.le_refl _)] at hcomp
    have hP : P (jL acc, .lst (acc.map (·.2))) := hcomp
    refine q _ _ H2 hP (s1.trans sm) ?_
    have np : D ∉ fp := fun z => (hF D z).2 rfl
    have rO : VRs K (Or2 (BB A ow) (Fre H)) H2 acc accV fp := r.mono fun a h => h.1
    rcases jT_cases acc with e | e | e
    · have e' : jL acc = .sh := by unfold jL; rw [e]
      rw [e']
      exact ⟨[D], ⟨⟨D, accV, [], rfl, rfl, hDv, Rs.of0 _ _ (rO.fl e).2⟩, D, accV, rfl, hDv, (rO.fl e).2⟩, by simp, fun a q => by rw [List.mem_singleton.mp q]; exact hD0⟩
    · have e' : jL acc = .ow := by unfold jL; rw [e]
      rw [e']
      exact ⟨D :: fp, ⟨D, accV, fp, rfl, rfl, hDv, rO.ow (by rw [e]; decide)⟩, List.nodup_cons.mpr ⟨np, nd⟩, fun a q => by
        rcases List.mem_cons.mp q with rfl | q
        · exact hD0
        · exact (hF a q).1⟩
    · have e' : jL acc = .rd := by unfold jL; rw [e]
      rw [e']
      exact .rd ⟨D, accV, rfl, .inr hD0, hDv, rO.ra (fun _ h => h) fun a q => .inr (hF a q).1⟩
end
end DL

namespace DL
open PySem PySem.Spec PyProof.Rows L2

section
variable {X : Cx} {pos : Pos}
theorem dp_lc {elt tg iter : Expr} {ifs : List Expr} {scope : Scope} {own : List (Str × Nat)} {is : List Nat} {src : IF} {g : GF} {tt : PTF} {fe : PF} (hc : X.calm = true) (hN : X.N.Nodup) (hi : DI X tg iter src) (ok : BlkOk X.N X.env.scope scope own)
    (hg : ∀ (s : Shared) (H : Hp) (C : Addr) (cl : List (Str × Addr)) (fp : List Addr), DG (X.blk s H scope (compEnvC scope cl C X.env) fp) tg is g) (ht : ∀ (s : Shared) (H : Hp) (C : Addr) (cl : List (Str × Addr)) (fp : List Addr), DTs (X.blk s H scope (compEnvC scope cl C X.env) fp) ifs tt)
    (he : ∀ (s : Shared) (H : Hp) (C : Addr) (cl : List (Str × Addr)) (fp : List Addr), DP (X.blk s H scope (compEnvC scope cl C X.env) fp) elt fe) (his : own.map (·.2) = is := by rfl) (hs : ∀ x, foldedSetIterable iter X.env x = pure x := by intro _; rfl) :
    DP X (.ListComp elt [⟨tg, iter, ifs, 0⟩] scope pos) (pLc src is g tt fe) := by
  obtain ⟨t, e, s⟩ := hi.run
  subst his
  exact ⟨_, pe_lc hc hN e ok (fun s H C cl fp => (hg s H C cl fp).can) (fun s H C cl fp => (ht s H C cl fp).run) (fun s H C cl fp => (he s H C cl fp).can) hs, sound_lc s⟩
end

abbrev EF := Ro → (KD → Ro → Prop) → (Str → Ro → Prop) → Prop
abbrev TEF := Ro → (Bool → Ro → Prop) → (Str → Ro → Prop) → Prop
def ESound (K : Frg) (E : XK) (t : TE) (f : EF) : Prop := ∀ (σ : L2.St) (H : Hp) (A : Addr → Prop) (ρ : Ro) (ow : List Addr) (Q : VK) (P : KD → Ro → Prop) (PX : Str → Ro → Prop), Good K A H ρ σ ow → f ρ P PX →
  (∀ z ρ' v H' fp ow' A', P z ρ' → Stp H ow A H' (fp ++ ow') A' → Good K A' H' ρ' σ ow' → Own K A' H' z v fp ow' → Q v H') →
  (∀ C ρ' H' ow' A', PX C ρ' → Stp H ow A H' ow' A' → Good K A' H' ρ' σ ow' → E (.ref (He.ga K C)) none H') → t σ H Q
def TESound (K : Frg) (E : XK) (t : TT) (f : TEF) : Prop := ∀ (σ : L2.St) (H : Hp) (A : Addr → Prop) (ρ : Ro) (ow : List Addr) (Q : Bool → Hp → Prop) (P : Bool → Ro → Prop) (PX : Str → Ro → Prop), Good K A H ρ σ ow → f ρ P PX →
  (∀ b ρ' H' ow' A', P b ρ' → Stp H ow A H' ow' A' → Good K A' H' ρ' σ ow' → Q b H') →
  (∀ C ρ' H' ow' A', PX C ρ' → Stp H ow A H' ow' A' → Good K A' H' ρ' σ ow' → E (.ref (He.ga K C)) none H') → t σ H Q
structure DE (X : Cx) (E : XK) (e : Expr) (f : EF) : Prop where
  run : ∃ t, PE X e t ∧ ESound X.K E t f
structure DTE (X : Cx) (E : XK) (e : Expr) (f : TEF) : Prop where
  run : ∃ t, PT X e t ∧ TESound X.K E t f
def rdOnly (ρ : Ro) : Ro := ρ.map fun s => match s with
  | some (.sh, _) => none
  | some (.ow, _) => none
  | s => s
def eP (f : PF) : EF := fun ρ P _ => f ρ fun z => match z.1 with
  | .fl => P z ρ
  | .sh => P z ρ
  | .ow => P z ρ
  | _ => False
def eMv (i : Nat) : EF := fun ρ P _ => match ρ[i]? with
  | some (some (k, d)) => (match k with
    | .sh => P (k, d) (ρ.set i none)
    | .ow => P (k, d) (ρ.set i none)
    | _ => P (k, d) ρ)
  | _ => False
def teP (f : PTF) : TEF := fun ρ P _ => f ρ fun b => P b ρ
section
variable {K : Frg} {A A' : Addr → Prop} {H H' : Hp} {ρ : Ro} {σ : L2.St} {ow : List Addr}
theorem PR.own {v : V} {z : KD} (g : Good K A H ρ σ ow) (s : Same H H') (p : PR K (BB A ow) (Fre H) H' v z) (hk : z.1 = .fl ∨ z.1 = .sh ∨ z.1 = .ow) :
    ∃ fp, Stp H ow A H' (fp ++ ow) A ∧ Own K A H' z v fp ow := by
  obtain ⟨fp, r, nd, hF⟩ := p
  refine ⟨fp, ⟨fun a o e _ => s a o e, fun a h => ?_, fun _ h => h, fun _ h => .inl h⟩, ⟨?_, List.nodup_append.mpr ⟨nd, g.nd, fun a ha b hb e => ?_⟩, fun a h z => ?_⟩⟩
  · rcases List.mem_append.mp h with h | h
    · exact .inr (hF a h)
    · exact .inl h
  · obtain ⟨k, d⟩ := z
    rcases hk with rfl | rfl | rfl <;> exact r
  · subst e
    obtain ⟨o, e, _⟩ := g.rep.mu a hb
    rw [show H a = none from hF a ha] at e; cases e
  · obtain ⟨o, e⟩ := g.tr a z
    rw [show H a = none from hF a h] at e; cases e
theorem RepS.rdOnly : ∀ {ρ : Ro} {σ : L2.St} {f : List Addr}, RepS K A H ρ σ f → RepS K A H (rdOnly ρ) σ []
  | [], _, _, h => ⟨h.1, rfl⟩
  | s :: ρ, _, _, ⟨x, σ', f, g, e, e2, h, r⟩ => by
    refine ⟨x, σ', [], [], e, rfl, ?_, RepS.rdOnly r⟩
    cases s with
    | none => rfl
    | some kd =>
      obtain ⟨k, d⟩ := kd
      obtain ⟨v, ev, h⟩ := h
      cases k with
      | fl => exact ⟨v, ev, rfl, h.2⟩
      | rd => exact ⟨v, ev, rfl, h.2⟩
      | sa => exact ⟨v, ev, rfl, h.2⟩
      | sh => rfl
      | ow => rfl
theorem Good.rdOnly (g : Good K A H ρ σ ow) : Good K A H (rdOnly ρ) σ [] := ⟨g.rep.rdOnly, List.nodup_nil, fun _ h => (nomatch h), g.tr⟩
theorem Good.freeze (g : Good K A H ρ σ ow) (s : Same H H') : Good K (fun a => A a ∨ Fre2 H H' a) H' ρ σ ow :=
  ⟨(g.rep.keep (KeepF.of_same s)).mono fun _ h => .inl h, g.nd, (fun a h z => by
    rcases z with z | ⟨z, _⟩
    · exact g.dis a h z
    · obtain ⟨o, e, _⟩ := g.rep.mu a h
      rw [z] at e; cases e), (fun a h => by
    rcases h with h | ⟨_, h⟩
    · obtain ⟨o, e⟩ := g.tr a h; exact ⟨o, s a o e⟩
    · exact h)⟩
theorem Stp.freeze (s : Same H H') : Stp H ow A H' ow (fun a => A a ∨ Fre2 H H' a) :=
  ⟨fun a o e _ => s a o e, fun _ h => .inl h, fun _ h => .inl h, fun _ h => h.elim .inl fun z => .inr (.inr z.1)⟩
theorem Good.move {i : Nat} {kd : KD} (g : Good K A H ρ σ ow) (e : ρ[i]? = some (some kd)) : ∃ v fp ow', σ[i]? = some (some v) ∧ Good K A H (ρ.set i none) σ ow' ∧ Own K A H kd v fp ow' ∧ ∀ a ∈ fp ++ ow', a ∈ ow := by
  obtain ⟨x, f1, f2, f3, hx, e2, ⟨v, ev, h⟩, put⟩ := g.rep.split e
  subst ev e2
  have nd := g.nd
  obtain ⟨n1, n2, n3⟩ := List.nodup_append.mp nd
  obtain ⟨m1, m2, m3⟩ := List.nodup_append.mp n2
  have r : RepS K A H (ρ.set i none) σ (f1 ++ f3) := by
    have := put H A none (some v) [] (fun _ h => h) (fun a o e _ => e) rfl
    rwa [set_same hx] at this
  refine ⟨v, f2, f1 ++ f3, hx, ⟨r, List.nodup_append.mpr ⟨n1, m2, fun a ha b hb => n3 a ha b (by simp [hb])⟩, fun a h => g.dis a (by rcases List.mem_append.mp h with h | h <;> simp [h]), g.tr⟩,
    ⟨h, List.nodup_append.mpr ⟨m1, List.nodup_append.mpr ⟨n1, m2, fun a ha b hb => n3 a ha b (by simp [hb])⟩, fun a ha b hb e => ?_⟩, fun a h => g.dis a (by simp [h])⟩, fun a h => ?_⟩
  · subst e
    rcases List.mem_append.mp hb with hb | hb
    · exact n3 a hb a (by simp [ha]) rfl
    · exact m3 a ha a hb rfl
  · rcases List.mem_append.mp h with h | h
    · simp [h]
    · rcases List.mem_append.mp h with h | h <;> simp [h]
theorem VR.own0 {k : Kd} {d : D} {v : V} {f : List Addr} (h : VR K A H (k, d) v f) (hk : k = .fl ∨ k = .sa ∨ k = .rd) : f = [] := by
  rcases hk with rfl | rfl | rfl <;> exact h.1
end
section
variable {X : Cx} {E : XK} {pos : Pos} {e : Expr} {f : PF}
theorem de_p (h : DP X e f) : DE X E e (eP f) := by
  obtain ⟨t, pe, s⟩ := h.run
  refine ⟨t, pe, fun σ H A ρ ow Q P PX g hf q _ => ?_⟩
  refine s σ H A ρ ow _ _ g hf fun z v H' hz s1 p1 => ?_
  have hk : (z.1 = .fl ∨ z.1 = .sh ∨ z.1 = .ow) ∧ P z ρ := by
    obtain ⟨k, d⟩ := z
    cases k <;> first
      | exact ⟨.inl rfl, hz⟩
      | exact ⟨.inr (.inl rfl), hz⟩
      | exact ⟨.inr (.inr rfl), hz⟩
      | exact hz.elim
  obtain ⟨fp, s2, o2⟩ := p1.own g s1 hk.1
  exact q z ρ v H' fp ow A hk.2 s2 (g.same s1) o2
theorem de_mv (i : Nat) {x : Str} (hN : X.N[i]? = some x := by rfl) (hv : Vis X.env.scope x := by first | exact Or.inl rfl | exact Or.inr (Or.inl rfl) | exact Or.inr (Or.inr rfl)) (hd : (x == ("__debug__" : Str)) = false := by decide)
    (hcd : (x == ("__classdict__" : Str)) = false := by decide) : DE X E (.Name x pos) (eMv i) := by
  refine ⟨tVar i, pe_var hN hv hd hcd, fun σ H A ρ ow Q P PX g h q _ => ?_⟩
  unfold eMv at h
  cases e : ρ[i]? with
  | none => rw [e] at h; exact h.elim
  | some s =>
    rw [e] at h
    cases s with
    | none => exact h.elim
    | some kd =>
      obtain ⟨k, d⟩ := kd
      obtain ⟨v, fp, ow', hv, g', o, sub⟩ := g.move e
      refine ⟨v, hv, ?_⟩
      have stp : Stp H ow A H (fp ++ ow') A := ⟨fun _ _ e _ => e, fun a h => .inl (sub a h), fun _ h => h, fun _ h => .inl h⟩
      have keep : ∀ (hk : k = .fl ∨ k = .sa ∨ k = .rd) (hp : P (k, d) ρ), Q v H := fun hk hp => by
        have e0 := o.rep.own0 hk
        subst e0
        exact q (k, d) ρ v H [] ow A hp Stp.refl g ⟨o.rep, g.nd, fun a h => (nomatch h)⟩
      cases k with
      | fl => exact keep (.inl rfl) h
      | sa => exact keep (.inr (.inl rfl)) h
      | rd => exact keep (.inr (.inr rfl)) h
      | sh => exact q _ _ v H fp ow' A h stp g' o
      | ow => exact q _ _ v H fp ow' A h stp g' o
theorem dte_p {f : PTF} (h : DT X e f) : DTE X E e (teP f) := by
  obtain ⟨t, pe, s⟩ := h.run
  refine ⟨t, pe, fun σ H A ρ ow Q P PX g hf q _ => ?_⟩
  exact s σ H A ρ ow _ _ g hf fun b H' hb s1 => q b ρ H' ow A hb (Stp.of_same s1) (g.same s1)
end

structure DEnds where
  nx : Ro → Prop
  rt : KD → Ro → Prop
  ex : Str → Ro → Prop
abbrev SF := DEnds → Ro → Prop
def SSound (K : Frg) (E : XK) (pr : List Nat) (t : TS) (f : SF) : Prop := ∀ (σ : L2.St) (H : Hp) (A : Addr → Prop) (ρ : Ro) (ow : List Addr) (T : Ends) (D : DEnds), Good K A H ρ σ ow → f D ρ →
  (∀ ρ' σ' H' ow' A', D.nx ρ' → Stp H ow A H' ow' A' → Good K A' H' ρ' σ' ow' → (∀ i ∈ pr, σ'[i]? = σ[i]?) → T.nx σ' H') →
  (∀ z ρ' v σ' H' fp ow' A', D.rt z ρ' → Stp H ow A H' (fp ++ ow') A' → Good K A' H' ρ' σ' ow' → Own K A' H' z v fp ow' → (∀ i ∈ pr, σ'[i]? = σ[i]?) → T.rt v H') →
  (∀ C ρ' σ' H' ow' A', D.ex C ρ' → Stp H ow A H' ow' A' → Good K A' H' ρ' σ' ow' → (∀ i ∈ pr, σ'[i]? = σ[i]?) → E (.ref (He.ga K C)) none H') → t T σ H
structure DS (X : Cx) (E : XK) (pr : List Nat) (st : Stmt) (f : SF) : Prop where
  run : ∃ t, PS X st t ∧ SSound X.K E pr t f
structure DSs (X : Cx) (E : XK) (pr : List Nat) (st : List Stmt) (f : SF) : Prop where
  run : ∃ t, PSs X st t ∧ SSound X.K E pr t f
def sNil : SF := fun D ρ => D.nx ρ
def sSeq (f g : SF) : SF := fun D ρ => f { D with nx := fun ρ' => g D ρ' } ρ
def sSet (i : Nat) (f : EF) : SF := fun D ρ => f ρ (fun z ρ' => D.nx (ρ'.set i (some z))) D.ex
def sAsg (f : EF) (g : GF) : SF := fun D ρ => f ρ (fun z ρ' => g z ρ' D.nx) D.ex
def sExpr (f : EF) : SF := fun D ρ => f ρ (fun _ ρ' => D.nx ρ') D.ex
def sRet (f : EF) : SF := fun D ρ => f ρ D.rt D.ex
def sIf (t : TEF) (f g : SF) : SF := fun D ρ => t ρ (fun b ρ' => if b = true then f D ρ' else g D ρ') D.ex
def forD (g : GF) (body : SF) (D : DEnds) : List KD → Ro → Prop
  | [], ρ => D.nx ρ
  | z :: zs, ρ => g z ρ fun ρ1 => body { D with nx := fun ρ' => forD g body D zs ρ' } ρ1
def sFor (src : IF) (g : GF) (body : SF) : SF := fun D ρ => src (rdOnly ρ) fun zs => forD g body D zs ρ
def whileD (t : TEF) (body : SF) (D : DEnds) : Nat → Ro → Prop
  | 0, _ => False
  | n + 1, ρ => t ρ (fun b ρ' => if b = true then body { D with nx := fun ρ'' => whileD t body D n ρ'' } ρ' else D.nx ρ') D.ex
def sWhile (t : TEF) (body : SF) : SF := fun D ρ => ∃ n, whileD t body D n ρ
def sFrz (i : Nat) (f : SF) : SF := fun D ρ => match ρ[i]? with
  | some (some (k, d)) => f D (ρ.set i (some (k.rdk, d)))
  | _ => False
section
variable {X : Cx} {E : XK} {pr : List Nat} {pos : Pos} {e : Expr} {ef : EF}
theorem ss_nil {K : Frg} : SSound K E pr tNext sNil := fun σ H A ρ ow T D g h nx rt ex => nx ρ σ H ow A h Stp.refl g fun _ _ => rfl
theorem dss_nil : DSs X E pr [] sNil := ⟨_, pss_nil, ss_nil⟩
theorem ss_seq {K : Frg} {t u : TS} {f g : SF} (s : SSound K E pr t f) (s' : SSound K E pr u g) : SSound K E pr (tSeq t u) (sSeq f g) := by
  intro σ H A ρ ow T D gd h nx rt ex
  refine s σ H A ρ ow _ _ gd h (fun ρ1 σ1 H1 ow1 A1 h1 st1 g1 p1 => ?_) rt ex
  refine s' σ1 H1 A1 ρ1 ow1 T D g1 h1 (fun ρ2 σ2 H2 ow2 A2 h2 st2 g2 p2 => nx ρ2 σ2 H2 ow2 A2 h2 (st1.trans st2) g2 fun i hi => (p2 i hi).trans (p1 i hi)) (fun z ρ2 v σ2 H2 fp ow2 A2 h2 st2 g2 o2 p2 => ?_) (fun C ρ2 σ2 H2 ow2 A2 h2 st2 g2 p2 => ?_)
  · exact rt z ρ2 v σ2 H2 fp ow2 A2 h2 (st1.trans st2) g2 o2 fun i hi => (p2 i hi).trans (p1 i hi)
  · exact ex C ρ2 σ2 H2 ow2 A2 h2 (st1.trans st2) g2 fun i hi => (p2 i hi).trans (p1 i hi)
theorem dss_cons {st : Stmt} {rest : List Stmt} {f g : SF} (h : DS X E pr st f) (h' : DSs X E pr rest g) : DSs X E pr (st :: rest) (sSeq f g) := by
  obtain ⟨t, a, s⟩ := h.run
  obtain ⟨u, b, s'⟩ := h'.run
  exact ⟨_, pss_cons a b, ss_seq s s'⟩
theorem dss_one {st : Stmt} {f : SF} (h : DS X E pr st f) : DSs X E pr [st] f := by
  obtain ⟨t, a, s⟩ := h.run
  exact ⟨_, pss_one a, s⟩
theorem Own.sub {K : Frg} {A : Addr → Prop} {H : Hp} {z : KD} {v : V} {fp ow ow' : List Addr} (o : Own K A H z v fp ow) (s : ∀ a ∈ ow', a ∈ ow) (n : ow'.Nodup) : Own K A H z v fp ow' := by
  obtain ⟨n1, n2, n3⟩ := List.nodup_append.mp o.nd
  exact ⟨o.rep, List.nodup_append.mpr ⟨n1, n, fun a ha b hb => n3 a ha b (s b hb)⟩, o.dis⟩
theorem set_ne_pr {σ : L2.St} {i : Nat} {x : Option V} (hp : i ∉ pr) : ∀ j ∈ pr, (σ.set i x)[j]? = σ[j]? := fun j hj => List.getElem?_set_ne fun e => hp (by rw [e]; exact hj)
theorem ss_set {K : Frg} {i : Nat} {te : TE} (hp : i ∉ pr) (s : ESound K E te ef) : SSound K E pr (tAsg te (gName i)) (sSet i ef) := by
  intro σ H A ρ ow T D gd h nx rt ex
  refine s σ H A ρ ow _ _ _ gd h (fun z ρ1 v H1 fp ow1 A1 h1 st1 g1 o1 => ?_) fun C ρ1 H1 ow1 A1 h1 st1 g1 => ex C ρ1 σ H1 ow1 A1 h1 st1 g1 fun _ _ => rfl
  obtain ⟨ow2, g2, sub⟩ := g1.put (i := i) o1
  exact nx _ _ H1 ow2 A1 h1 (st1.sub fun a h => by rcases sub a h with h | h <;> simp [h]) g2 (set_ne_pr hp)
theorem ds_set (i : Nat) {x : Str} {pos' : Pos} (hN : X.N.Nodup) (he : DE X E e ef) (hp : i ∉ pr := by decide) (hi : X.N[i]? = some x := by rfl) (hx : Loc X.env.scope x := by first | exact Or.inl rfl | exact Or.inr rfl)
    (hs : swapsWith e (some (.Name x pos')) pos.line X.env = pure false := by rfl) (hf : X.fn x = true ∨ X.env.scope.names.lookup x = some .local := by first | exact .inl rfl | exact .inr rfl) : DS X E pr (.Assign [.Name x pos'] e pos) (sSet i ef) := by
  obtain ⟨t, a, s⟩ := he.run
  exact ⟨_, ps_set hN hi hx a hs hf, ss_set hp s⟩
theorem ds_setLc (i : Nat) {y : Str} {py spos : Pos} {elt tg iter : Expr} {ifs : List Expr} {scope : Scope} {own : List (Str × Nat)} {is : List Nat} {src : IF} {g : GF} {tt : PTF} {fe : PF} (hc : X.calm = true) (hN : X.N.Nodup) (hp : i ∉ pr) (hy : X.N[i]? = some y) (hyl : X.env.scope.names.lookup y = some .local)
    (hsw : swapsWith (.ListComp elt [⟨tg, iter, ifs, 0⟩] scope pos) (some (.Name y py)) spos.line X.env = pure true) (hi : DI X tg iter src) (ok : BlkOk X.N X.env.scope scope own)
    (hg : ∀ (s : Shared) (H : Hp) (C : Addr) (cl : List (Str × Addr)) (fp : List Addr), DG (X.blk s H scope (compEnvC scope cl C X.env) fp) tg is g) (ht : ∀ (s : Shared) (H : Hp) (C : Addr) (cl : List (Str × Addr)) (fp : List Addr), DTs (X.blk s H scope (compEnvC scope cl C X.env) fp) ifs tt)
    (he : ∀ (s : Shared) (H : Hp) (C : Addr) (cl : List (Str × Addr)) (fp : List Addr), DP (X.blk s H scope (compEnvC scope cl C X.env) fp) elt fe) (his : own.map (·.2) = is := by rfl) (hs : ∀ x, foldedSetIterable iter X.env x = pure x := by intro _; rfl) :
    DS X E pr (.Assign [.Name y py] (.ListComp elt [⟨tg, iter, ifs, 0⟩] scope pos) spos) (sSet i (eP (pLc src is g tt fe))) := by
  obtain ⟨t, e, s⟩ := hi.run
  subst his
  refine ⟨_, ps_setLc (te := tP X.K fe) (g := tG X.K (own.map (·.2)) g) (tt := tT X.K tt) hc hN hy hyl hsw e ok (fun s H C cl fp => (hg s H C cl fp).can) (fun s H C cl fp => (ht s H C cl fp).run) (fun s H C cl fp => (he s H C cl fp).can) hs, ss_set hp ?_⟩
  have z : DE X E (.ListComp elt [⟨tg, iter, ifs, 0⟩] scope pos) (eP (pLc src (own.map (·.2)) g tt fe)) := de_p ⟨_, pe_lc (te := tP X.K fe) (g := tG X.K (own.map (·.2)) g) (tt := tT X.K tt) hc hN e ok (fun s H C cl fp => (hg s H C cl fp).can) (fun s H C cl fp => (ht s H C cl fp).run) (fun s H C cl fp => (he s H C cl fp).can) hs, sound_lc s⟩
  intro σ H A ρ ow Q P PX gd hf q qx
  refine sound_lc s σ H A ρ ow _ _ gd hf fun z v H' hz s1 p1 => ?_
  have hk : (z.1 = .fl ∨ z.1 = .sh ∨ z.1 = .ow) ∧ P z ρ := by
    obtain ⟨k, d⟩ := z
    cases k <;> first
      | exact ⟨.inl rfl, hz⟩
      | exact ⟨.inr (.inl rfl), hz⟩
      | exact ⟨.inr (.inr rfl), hz⟩
      | exact hz.elim
  obtain ⟨fp, s2, o2⟩ := p1.own gd s1 hk.1
  exact q z ρ v H' fp ow A hk.2 s2 (gd.same s1) o2
theorem ds_expr (he : DE X E e ef) (hs : swapsWith e none pos.line X.env = pure false := by rfl) : DS X E pr (.Expr e pos) (sExpr ef) := by
  obtain ⟨t, a, s⟩ := he.run
  refine ⟨_, ps_expr a hs, fun σ H A ρ ow T D gd h nx rt ex => ?_⟩
  exact s σ H A ρ ow _ _ _ gd h (fun z ρ1 v H1 fp ow1 A1 h1 st1 g1 o1 => nx ρ1 σ H1 ow1 A1 h1 (st1.sub fun a h => by simp [h]) g1 fun _ _ => rfl) fun C ρ1 H1 ow1 A1 h1 st1 g1 => ex C ρ1 σ H1 ow1 A1 h1 st1 g1 fun _ _ => rfl
theorem ds_ret (he : DE X E e ef) : DS X E pr (.Return (some e) pos) (sRet ef) := by
  obtain ⟨t, a, s⟩ := he.run
  refine ⟨_, ps_ret a, fun σ H A ρ ow T D gd h nx rt ex => ?_⟩
  exact s σ H A ρ ow _ _ _ gd h (fun z ρ1 v H1 fp ow1 A1 h1 st1 g1 o1 => rt z ρ1 v σ H1 fp ow1 A1 h1 st1 g1 o1 fun _ _ => rfl) fun C ρ1 H1 ow1 A1 h1 st1 g1 => ex C ρ1 σ H1 ow1 A1 h1 st1 g1 fun _ _ => rfl
theorem ds_if {c : Expr} {a b : List Stmt} {tc : TEF} {f g : SF} (hc : DTE X E c tc) (ha : DSs X E pr a f) (hb : DSs X E pr b g) : DS X E pr (.If c a b pos) (sIf tc f g) := by
  obtain ⟨t, pt, s⟩ := hc.run
  obtain ⟨ta, pa, sa⟩ := ha.run
  obtain ⟨tb, pb, sb⟩ := hb.run
  refine ⟨_, ps_if pt pa pb, fun σ H A ρ ow T D gd h nx rt ex => ?_⟩
  refine s σ H A ρ ow _ _ _ gd h (fun b ρ1 H1 ow1 A1 h1 st1 g1 => ?_) fun C ρ1 H1 ow1 A1 h1 st1 g1 => ex C ρ1 σ H1 ow1 A1 h1 st1 g1 fun _ _ => rfl
  cases b with
  | true => exact sa σ H1 A1 ρ1 ow1 T D g1 h1 (fun ρ2 σ2 H2 ow2 A2 h2 st2 => nx ρ2 σ2 H2 ow2 A2 h2 (st1.trans st2)) (fun z ρ2 v σ2 H2 fp ow2 A2 h2 st2 => rt z ρ2 v σ2 H2 fp ow2 A2 h2 (st1.trans st2)) (fun C ρ2 σ2 H2 ow2 A2 h2 st2 => ex C ρ2 σ2 H2 ow2 A2 h2 (st1.trans st2))
  | false => exact sb σ H1 A1 ρ1 ow1 T D g1 h1 (fun ρ2 σ2 H2 ow2 A2 h2 st2 => nx ρ2 σ2 H2 ow2 A2 h2 (st1.trans st2)) (fun z ρ2 v σ2 H2 fp ow2 A2 h2 st2 => rt z ρ2 v σ2 H2 fp ow2 A2 h2 (st1.trans st2)) (fun C ρ2 σ2 H2 ow2 A2 h2 st2 => ex C ρ2 σ2 H2 ow2 A2 h2 (st1.trans st2))
theorem ds_frz (i : Nat) {st : List Stmt} {f : SF} (h : DSs X E pr st f) : DSs X E pr st (sFrz i f) := by
  obtain ⟨t, a, s⟩ := h.run
  refine ⟨_, a, fun σ H A ρ ow T D gd h nx rt ex => ?_⟩
  unfold sFrz at h
  cases e : ρ[i]? with
  | none => rw [e] at h; exact h.elim
  | some sl =>
    rw [e] at h
    cases sl with
    | none => exact h.elim
    | some kd =>
      obtain ⟨k, d⟩ := kd
      obtain ⟨v, fp, ow', hv, g', o, sub⟩ := gd.move e
      -- the part given away is frozen
      have gA : Good X.K (fun a => A a ∨ a ∈ fp) H (ρ.set i none) σ ow' := ⟨g'.rep.mono fun _ h => .inl h, g'.nd, (fun a h z => by
          rcases z with z | z
          · exact g'.dis a h z
          · exact (List.nodup_append.mp o.nd).2.2 a z a h rfl), (fun a h => by
          rcases h with h | h
          · exact g'.tr a h
          · obtain ⟨o', e', _⟩ := o.rep.mu a h; exact ⟨o', e'⟩)⟩
      have vA : VR X.K (fun a => A a ∨ a ∈ fp) H (k.rdk, d) v [] := o.rep.rdk2 fun _ h => h
      obtain ⟨ow2, g2, sub2⟩ := gA.put (i := i) ⟨vA, by simpa using g'.nd, fun a h => (nomatch h)⟩
      rw [List.set_set, set_same hv] at g2
      have st1 : Stp H ow A H ow2 (fun a => A a ∨ a ∈ fp) := ⟨fun _ _ e _ => e, (fun a h => by
        rcases sub2 a h with z | z
        · exact .inl (sub a (by simp [z]))
        · cases z), fun _ h => .inl h, (fun a h => by
        rcases h with h | h
        · exact .inl h
        · exact .inr (.inl (sub a (by simp [h]))))⟩
      exact s σ H _ _ ow2 T D g2 h (fun ρ2 σ2 H2 ow2 A2 h2 st2 => nx ρ2 σ2 H2 ow2 A2 h2 (st1.trans st2)) (fun z ρ2 v σ2 H2 fp ow2 A2 h2 st2 => rt z ρ2 v σ2 H2 fp ow2 A2 h2 (st1.trans st2)) (fun C ρ2 σ2 H2 ow2 A2 h2 st2 => ex C ρ2 σ2 H2 ow2 A2 h2 (st1.trans st2))
theorem ds_for {tg iter : Expr} {body : List Stmt} {src : IF} {is : List Nat} {g : GF} {f : SF} (hp : PassesOwn (model X.prog X.w) X.A X.env X.xe) (hc : X.calm = true) (hi : DI X tg iter src) (hg : DG X tg is g) (hb : DSs X E pr body f) (hpr : (is.all fun i => !pr.contains i) = true := by rfl)
    (hs : ∀ x, foldedSetIterable iter X.env x = pure x := by intro _; rfl) : DS X E pr (.For tg iter body [] pos) (sFor src g f) := by
  obtain ⟨ti, pi, si⟩ := hi.run
  obtain ⟨tg', pg, sg⟩ := hg.run
  obtain ⟨tb, pb, sb⟩ := hb.run
  refine ⟨_, ps_for hp hc pi pg pb hs, fun σ H A ρ ow T D gd h nx rt ex => ?_⟩
  refine si σ H A (rdOnly ρ) [] _ _ (fun a => a ∈ ow) gd.rdOnly (fun a z => ⟨fun h => ?_, gd.rep.mu a z⟩) h fun zs J H1 hz s1 wk => ?_
  · rcases h with h | h
    · exact gd.dis a z h
    · cases h
  obtain ⟨G, Y, walk, hG, hY⟩ := wk
  have g1 := gd.freeze s1
  have st0 : Stp H ow A H1 ow (fun a => A a ∨ Fre2 H H1 a) := Stp.freeze s1
  refine for_it walk (fun i σ' H' => ∃ ρ' ow' A', Good X.K A' H' ρ' σ' ow' ∧ Stp H1 ow (fun a => A a ∨ Fre2 H H1 a) H' ow' A' ∧ forD g f D (zs.drop i) ρ' ∧ ∀ j ∈ pr, σ'[j]? = σ[j]?) ⟨ρ, ow, _, g1, Stp.refl, hz, fun _ _ => rfl⟩ ?_ ?_ ?_
  · rintro i σ' H' _ ⟨ρ', ow', A', _, st, _⟩
    exact hG H' fun a o e n => st.same a o e n
  · rintro i x σ' H' H2 hi ⟨ρ', ow', A', g', st, hf, hpr'⟩ y
    have hzi : zs[i]? = some zs[i] := List.getElem?_eq_getElem hi
    obtain ⟨s2, vz⟩ := hY i H' x H2 zs[i] hzi (fun a o e n => st.same a o e n) y
    rw [List.drop_eq_getElem_cons hi] at hf
    have hstep : g zs[i] ρ' fun ρ1 => f { D with nx := fun ρ' => forD g f D (zs.drop (i + 1)) ρ' } ρ1 := hf
    have vA : VR X.K A' H2 zs[i] x [] := vz.mono fun a h => by
      rcases h with (h | h) | h
      · exact st.up a (.inl h)
      · cases h
      · exact st.up a (.inr h)
    refine sg x zs[i] [] σ' H2 A' ρ' ow' _ _ (g'.same s2) ⟨vA, by simpa using g'.nd, fun a h => (nomatch h)⟩ hstep fun ρ1 σ1 ow1 h1 g1' sub1 w1 => ?_
    have st1 : Stp H1 ow (fun a => A a ∨ Fre2 H H1 a) H2 ow1 A' := (st.trans (Stp.of_same s2)).sub fun a h => by
      rcases sub1 a h with h | h
      · exact h
      · cases h
    have pr1 : ∀ j ∈ pr, σ1[j]? = σ[j]? := fun j hj => by
      have hl : σ1.length = σ'.length := by rw [← wipe_length σ1 is, w1, wipe_length]
      have e : (wipe σ1 is)[j]? = (wipe σ' is)[j]? := by rw [w1]
      have nj : j ∉ is := fun z => by
        have := List.all_eq_true.mp hpr j z
        simp [hj] at this
      rw [wipe_get, wipe_get, if_neg (fun z => nj z.1), if_neg (fun z => nj z.1)] at e
      exact e.trans (hpr' j hj)
    refine sb σ1 H2 A' ρ1 ow1 _ _ g1' h1 (fun ρ3 σ3 H3 ow3 A3 h3 st3 g3 p3 => ⟨ρ3, ow3, A3, g3, st1.trans st3, h3, fun j hj => (p3 j hj).trans (pr1 j hj)⟩) (fun z ρ3 v σ3 H3 fp ow3 A3 h3 st3 g3 o3 p3 => ?_) (fun C ρ3 σ3 H3 ow3 A3 h3 st3 g3 p3 => ?_)
    · exact rt z ρ3 v σ3 H3 fp ow3 A3 h3 (st0.trans (st1.trans st3)) g3 o3 fun j hj => (p3 j hj).trans (pr1 j hj)
    · exact ex C ρ3 σ3 H3 ow3 A3 h3 (st0.trans (st1.trans st3)) g3 fun j hj => (p3 j hj).trans (pr1 j hj)
  · rintro σ' H' ⟨ρ', ow', A', g', st, hf, hpr'⟩
    rw [List.drop_eq_nil_of_le (Nat.le_refl _)] at hf
    exact nx ρ' σ' H' ow' A' hf (st0.trans st) g' hpr'
end
end DL

namespace DL
open PySem PySem.Spec PyProof.Rows L2

abbrev CF := List KD → (KD → List KD → Prop) → (Str → List KD → Prop) → Prop
def sel {α : Type} : List Bool → List α → List α
  | true :: ms, x :: xs => x :: sel ms xs
  | false :: ms, _ :: xs => sel ms xs
  | _, _ => []
structure Ret (K : Frg) (H : Hp) (M : List Addr) (A : Addr → Prop) (ms : List Bool) (vs : List V) (H' : Hp) (A' : Addr → Prop) (M' : List Addr) (ys : List KD) (fp : List Addr) : Prop where
  stp : Stp H M A H' (fp ++ M') A'
  muts : VRs K A' H' ys (sel ms vs) M'
  nd : (fp ++ M').Nodup
  dis : ∀ a ∈ fp ++ M', ¬ A' a
  tr : ∀ a, A' a → ∃ o, H' a = some o
def spOf (K : Frg) (n : Nat) (ms : List Bool) (c : CF) : Sp := fun vs H Q E => vs.length = n ∧ ∃ zs A M Q0 X0, VRs K A H zs vs M ∧ M.Nodup ∧ (∀ a ∈ M, ¬ A a) ∧ (∀ a, A a → ∃ o, H a = some o) ∧ c zs Q0 X0 ∧
  (∀ z ys v H' fp M' A', Q0 z ys → Ret K H M A ms vs H' A' M' ys fp → VR K A' H' z v fp → Q v H') ∧
  (∀ C ys H' M' A', X0 C ys → Ret K H M A ms vs H' A' M' ys [] → E (.ref (He.ga K C)) none H')
def mutsOf : List Bool → Ro → Option (List KD)
  | [], _ => some []
  | true :: ms, some kd :: ρ => (mutsOf ms ρ).map (kd :: ·)
  | true :: _, _ => none
  | false :: ms, _ :: ρ => mutsOf ms ρ
  | false :: _, [] => none
def prOf (ms : List Bool) : List Nat := (List.range ms.length).filter fun i => ms[i]? == some true
def cfOf (n : Nat) (ms : List Bool) (f : SF) : CF := fun zs Q X => f
  { nx := fun ρ => match mutsOf ms ρ with | some ys => Q (.fl, .non) ys | none => False
    rt := fun z ρ => match mutsOf ms ρ with | some ys => Q z ys | none => False
    ex := fun C ρ => match mutsOf ms ρ with | some ys => X C ys | none => False } (zs.map some ++ List.replicate n none)
section
variable {K : Frg} {A : Addr → Prop} {H : Hp}
theorem RepS.start : ∀ {zs : List KD} {vs : List V} {M : List Addr} (n : Nat), VRs K A H zs vs M → RepS K A H (zs.map some ++ List.replicate n none) (vs.map some ++ List.replicate n none) M
  | [], _, _, n, h => by
    obtain ⟨e1, e2⟩ := h
    subst e1 e2
    show RepS K A H (List.replicate n none) (List.replicate n none) []
    induction n with
    | zero => exact ⟨rfl, rfl⟩
    | succ n ih => exact ⟨none, _, [], [], rfl, rfl, rfl, ih⟩
  | z :: zs, _, _, n, ⟨w, ws, f1, f2, e, e2, h, t⟩ => by
    subst e e2
    exact ⟨some w, _, f1, f2, rfl, rfl, ⟨w, rfl, h⟩, RepS.start n t⟩
theorem RepS.muts : ∀ {ms : List Bool} {ρ : Ro} {σ : L2.St} {ow : List Addr} {vs : List V} {ys : List KD}, RepS K A H ρ σ ow → mutsOf ms ρ = some ys → ms.length = vs.length →
    (∀ i : Nat, ms[i]? = some true → ∃ v, vs[i]? = some v ∧ σ[i]? = some (some v)) → ∃ M', VRs K A H ys (sel ms vs) M' ∧ M'.Sublist ow
  | [], _, _, _, vs, ys, _, h, hl, _ => by
    have : ys = [] := (Option.some.inj h).symm
    subst this
    exact ⟨[], ⟨by cases vs <;> rfl, rfl⟩, List.nil_sublist _⟩
  | true :: ms, [], _, _, _, _, _, h, _, _ => by cases h
  | true :: ms, none :: ρ, _, _, _, _, _, h, _, _ => by cases h
  | false :: ms, [], _, _, _, _, _, h, _, _ => by cases h
  | true :: ms, some kd :: ρ, _, _, [], _, _, _, hl, _ => by cases hl
  | true :: ms, some kd :: ρ, _, _, v :: vs, ys, ⟨x, σ', f, g, e, e2, ⟨w, ew, hw⟩, r⟩, h, hl, hs => by
    subst e e2 ew
    have h' : (mutsOf ms ρ).map (kd :: ·) = some ys := h
    cases q : mutsOf ms ρ with
    | none => rw [q] at h'; cases h'
    | some ys' =>
      rw [q] at h'
      have e3 : kd :: ys' = ys := Option.some.inj h'
      subst e3
      obtain ⟨v', ev, es⟩ := hs 0 rfl
      have e4 : v = v' := Option.some.inj ev
      have e5 : w = v' := Option.some.inj (Option.some.inj es)
      subst e4 e5
      obtain ⟨M', rM, sub⟩ := RepS.muts r q (by simpa using hl) fun i hi => by
        obtain ⟨u, e1, e2⟩ := hs (i + 1) (by simpa using hi)
        exact ⟨u, by simpa using e1, by simpa using e2⟩
      exact ⟨f ++ M', ⟨w, _, f, M', rfl, rfl, hw, rM⟩, (List.Sublist.refl f).append sub⟩
  | false :: ms, s :: ρ, _, _, [], _, _, _, hl, _ => by cases hl
  | false :: ms, s :: ρ, _, _, v :: vs, ys, ⟨x, σ', f, g, e, e2, hs0, r⟩, h, hl, hs => by
    subst e e2
    obtain ⟨M', rM, sub⟩ := RepS.muts (ms := ms) r h (by simpa using hl) fun i hi => by
      obtain ⟨u, e1, e2⟩ := hs (i + 1) (by simpa using hi)
      exact ⟨u, by simpa using e1, by simpa using e2⟩
    exact ⟨M', rM, sub.trans (List.sublist_append_right f g)⟩
theorem mem_prOf {ms : List Bool} {i : Nat} (h : ms[i]? = some true) : i ∈ prOf ms := by
  unfold prOf
  refine List.mem_filter.mpr ⟨List.mem_range.mpr (List.getElem?_eq_some_iff.mp h).1, ?_⟩
  rw [h]; rfl
theorem body_ok {t : TS} {f : SF} {N : List Str} {ms : List Bool} {E : XK} {vs : List V} {Q : VK} {n : Nat} (s : SSound K E (prOf ms) t f) (hn : N.length - vs.length = n) (hm : ms.length = vs.length) (hsp : spOf K vs.length ms (cfOf n ms f) vs H Q E) :
    t { nx := fun _ H' => Q .non H', rt := Q } (start N vs) H := by
  obtain ⟨_, zs, A, M, Q0, X0, r, nd, dis, tr, hc, hq, hx⟩ := hsp
  have rs : RepS K A H (zs.map some ++ List.replicate n none) (start N vs) M := by
    unfold L2.start
    rw [hn]
    exact RepS.start n r
  have good : Good K A H (zs.map some ++ List.replicate n none) (start N vs) M := ⟨rs, nd, dis, tr⟩
  have slot : ∀ i : Nat, ms[i]? = some true → ∃ v, vs[i]? = some v ∧ (start N vs)[i]? = some (some v) := fun i hi => by
    have hl : i < vs.length := by rw [← hm]; exact (List.getElem?_eq_some_iff.mp hi).1
    refine ⟨vs[i], List.getElem?_eq_getElem hl, ?_⟩
    unfold L2.start
    rw [List.getElem?_append_left (by rw [List.length_map]; exact hl), List.getElem?_map, List.getElem?_eq_getElem hl]
    rfl
  have fin : ∀ {ρ' : Ro} {σ' : L2.St} {H' : Hp} {fp ow' : List Addr} {A' : Addr → Prop} {ys : List KD}, mutsOf ms ρ' = some ys → Stp H M A H' (fp ++ ow') A' → Good K A' H' ρ' σ' ow' → (fp ++ ow').Nodup → (∀ a ∈ fp, ¬ A' a) →
      (∀ i ∈ prOf ms, σ'[i]? = (start N vs)[i]?) → ∃ M', Ret K H M A ms vs H' A' M' ys fp := fun {ρ' σ' H' fp ow' A' ys} e st g nd' dis' p => by
    obtain ⟨M', rM, sub⟩ := g.rep.muts e hm fun i hi => by
      obtain ⟨v, e1, e2⟩ := slot i hi
      exact ⟨v, e1, (p i (mem_prOf hi)).trans e2⟩
    have sub2 : (fp ++ M').Sublist (fp ++ ow') := (List.Sublist.refl fp).append sub
    refine ⟨M', st.sub fun a h => sub2.subset h, rM, List.Nodup.sublist sub2 nd', fun a h => ?_, g.tr⟩
    rcases List.mem_append.mp h with h | h
    · exact dis' a h
    · exact g.dis a (sub.subset h)
  refine s (start N vs) H A _ M _ _ good hc (fun ρ' σ' H' ow' A' h st g p => ?_) (fun z ρ' v σ' H' fp ow' A' h st g o p => ?_) (fun C ρ' σ' H' ow' A' h st g p => ?_)
  · dsimp only at h
    split at h
    · rename_i ys e
      obtain ⟨M', rt⟩ := fin (fp := []) e st g g.nd (fun a h => (nomatch h)) p
      exact hq _ _ .non H' [] M' A' h rt ⟨rfl, rfl⟩
    · exact h.elim
  · dsimp only at h
    split at h
    · rename_i ys e
      obtain ⟨M', rt⟩ := fin e st g o.nd o.dis p
      exact hq _ _ v H' fp M' A' h rt o.rep
    · exact h.elim
  · dsimp only at h
    split at h
    · rename_i ys e
      obtain ⟨M', rt⟩ := fin (fp := []) e st g g.nd (fun a h => (nomatch h)) p
      exact hx C _ H' M' A' h rt
    · exact h.elim
end
section
variable {P : Program} {w : World} {K : Frg} {mg : Str → Option Value} {base : Heap}
end

def pFn (c : CF) (g : PAF) : PF := fun ρ P => g ρ fun zs => c (zs.map fun z => (z.1.rdk, z.2)) (fun z _ => P z) (fun _ _ => False)
section
variable {K : Frg} {A B F : Addr → Prop} {H H' : Hp}
theorem VR.view {z : KD} {v : V} {f : List Addr} (h : VR K A H z v f) (m : ∀ a, A a → B a) (s : ∀ a ∈ f, B a) : VR K B H (z.1.rdk, z.2) v [] := by
  obtain ⟨k, d⟩ := z
  have r : RA K B H d v := h.ra m s
  cases k with
  | fl => exact ⟨rfl, h.2⟩
  | rd => exact ⟨rfl, r⟩
  | ow => exact ⟨rfl, r⟩
  | sh => exact ⟨rfl, r, h.2⟩
  | sa => exact ⟨rfl, r, h.2.2⟩
theorem VRs.view (m : ∀ a, A a → B a) : ∀ {zs : List KD} {vs : List V} {f : List Addr}, VRs K A H zs vs f → (∀ a ∈ f, B a) → VRs K B H (zs.map fun z => (z.1.rdk, z.2)) vs []
  | [], _, _, h, _ => ⟨h.1, rfl⟩
  | z :: zs, _, _, ⟨w, ws, f1, f2, e, e2, h, t⟩, s => ⟨w, ws, [], [], e, rfl, h.view m fun a q => s a (by rw [e2]; exact List.mem_append_left _ q), VRs.view m t fun a q => s a (by rw [e2]; exact List.mem_append_right _ q)⟩
theorem VRs.monoT (m : ∀ a o, H a = some o → A a → B a) : ∀ {zs : List KD} {vs : List V} {f : List Addr}, VRs K A H zs vs f → VRs K B H zs vs f
  | [], _, _, h => h
  | z :: zs, _, _, ⟨w, ws, f1, f2, e, e2, h, t⟩ => ⟨w, ws, f1, f2, e, e2, h.monoT m, VRs.monoT m t⟩
theorem fn_core {c : CF} {zs : List KD} {vs : List V} {n : Nat} {ms : List Bool} {H0 : Hp} {ow : List Addr} {Q : VK} {P : KD → Prop} {E : XK} {ρ : Ro} {σ : L2.St} (g : Good K A H0 ρ σ ow) (s : Same H0 H) (pr : PRs K (BB A ow) (Fre H0) H vs zs) (hl : vs.length = n)
    (hc : c (zs.map fun z => (z.1.rdk, z.2)) (fun z _ => P z) (fun _ _ => False)) (q : ∀ z v H', P z → Same H0 H' → PR K (BB A ow) (Fre H0) H' v z → Q v H') : spOf K n ms c vs H Q E := by
  obtain ⟨fp, r, nd, hF⟩ := pr
  refine ⟨hl, _, fun a => Or2 (BB A ow) (Fre H0) a ∧ ∃ o, H a = some o, [], _, _, (r.monoT fun a o e h => ⟨h, o, e⟩).view (fun a h => h) (fun a h => ⟨.inr (hF a h), let ⟨o, e, _⟩ := r.mu a h; ⟨o, e⟩⟩), List.nodup_nil, fun a h => (nomatch h), fun a h => h.2, hc, fun z ys v H' fp' M' A' hz rt rv => ?_, fun C ys H' M' A' hx _ => hx.elim⟩
  have s' : Same H H' := fun a o e => rt.stp.same a o e (by simp)
  refine q z v H' hz (s.trans s') ⟨fp', rv.mono fun a h => ?_, (List.nodup_append.mp rt.nd).1, fun a h => ?_⟩
  · rcases rt.stp.fr a h with h | h | h
    · exact h.1
    · cases h
    · exact .inr (s.free h)
  · rcases rt.stp.own a (by simp [h]) with h | h
    · cases h
    · exact s.free h
end
section
variable {X : Cx} {CX : CXT} {k n m : Nat} {f C : Addr} {fd : FuncData} {ps : List Str} {c : CF} {ms : List Bool} {E : XK} {x : Str} {p pos : Pos} {e : Expr} {es : List Expr} {g : PAF}
end

inductive AV where
  | v (z : KD) | pl (i : Nat)
def AVs (K : Frg) (A : Addr → Prop) (H : Hp) (σ : L2.St) : List AV → List V → List Addr → Prop
  | [], vs, f => vs = [] ∧ f = []
  | .v z :: r, vs, f => ∃ w ws f1 f2, vs = w :: ws ∧ f = f1 ++ f2 ∧ VR K A H z w f1 ∧ AVs K A H σ r ws f2
  | .pl i :: r, vs, f => ∃ w ws, vs = w :: ws ∧ σ[i]? = some (some w) ∧ AVs K A H σ r ws f
abbrev AEF := Ro → (List AV → Ro → Prop) → (Str → Ro → Prop) → Prop
def AESound (K : Frg) (E : XK) (n : Nat) (t : TA) (f : AEF) : Prop := ∀ (σ : L2.St) (H : Hp) (A : Addr → Prop) (ρ : Ro) (ow : List Addr) (Q : List V → Hp → Prop) (P : List AV → Ro → Prop) (PX : Str → Ro → Prop), Good K A H ρ σ ow → f ρ P PX →
  (∀ avs ρ' vs H' fp ow' A', avs.length = n → P avs ρ' → Stp H ow A H' (fp ++ ow') A' → Good K A' H' ρ' σ ow' → AVs K A' H' σ avs vs fp → (fp ++ ow').Nodup → (∀ a ∈ fp, ¬ A' a) → Q vs H') →
  (∀ C ρ' H' ow' A', PX C ρ' → Stp H ow A H' ow' A' → Good K A' H' ρ' σ ow' → E (.ref (He.ga K C)) none H') → t σ H Q
structure DAE (X : Cx) (E : XK) (es : List Expr) (n : Nat) (f : AEF) : Prop where
  run : ∃ t, PA X es t ∧ AESound X.K E n t f
section
variable {K : Frg} {A B : Addr → Prop} {H H' : Hp} {σ : L2.St}
theorem AVs.len : ∀ {avs : List AV} {vs : List V} {f : List Addr}, AVs K A H σ avs vs f → vs.length = avs.length
  | [], _, _, h => by rw [h.1]; rfl
  | .v z :: r, _, _, ⟨w, ws, f1, f2, e, _, _, t⟩ => by rw [e, List.length_cons, List.length_cons, AVs.len t]
  | .pl i :: r, _, _, ⟨w, ws, e, _, t⟩ => by rw [e, List.length_cons, List.length_cons, AVs.len t]
theorem AVs.mono (m : ∀ a, A a → B a) : ∀ {avs : List AV} {vs : List V} {f : List Addr}, AVs K A H σ avs vs f → AVs K B H σ avs vs f
  | [], _, _, h => h
  | .v z :: r, _, _, ⟨w, ws, f1, f2, e, e2, h, t⟩ => ⟨w, ws, f1, f2, e, e2, h.mono m, AVs.mono m t⟩
  | .pl i :: r, _, _, ⟨w, ws, e, h, t⟩ => ⟨w, ws, e, h, AVs.mono m t⟩
def grab : List AV → Ro → Option (List KD × Ro)
  | [], ρ => some ([], ρ)
  | .v z :: r, ρ => (grab r ρ).map fun q => (z :: q.1, q.2)
  | .pl i :: r, ρ => match ρ[i]? with
    | some (some kd) => (grab r (ρ.set i none)).map fun q => (kd :: q.1, q.2)
    | _ => none
def putB : List Bool → List AV → List KD → Ro → Option Ro
  | true :: ms, .v _ :: r, _ :: ys, ρ => putB ms r ys ρ
  | true :: ms, .pl i :: r, y :: ys, ρ => putB ms r ys (ρ.set i (some y))
  | false :: ms, .v _ :: r, ys, ρ => putB ms r ys ρ
  | [], [], [], ρ => some ρ
  | _, _, _, _ => none
theorem grab_ok : ∀ {avs : List AV} {ρ ρ2 : Ro} {zs : List KD} {vs : List V} {fp ow : List Addr}, grab avs ρ = some (zs, ρ2) → Good K A H ρ σ ow → AVs K A H σ avs vs fp → (fp ++ ow).Nodup → (∀ a ∈ fp, ¬ A a) →
    ∃ M ow2, VRs K A H zs vs M ∧ Good K A H ρ2 σ ow2 ∧ (M ++ ow2).Nodup ∧ (∀ a ∈ M, ¬ A a) ∧ ∀ a ∈ M ++ ow2, a ∈ fp ++ ow
  | [], ρ, ρ2, zs, vs, fp, ow, h, g, r, nd, dis => by
    obtain ⟨e1, e2⟩ := r
    cases h
    subst e1 e2
    exact ⟨[], ow, ⟨rfl, rfl⟩, g, by simpa using nd, fun a h => (nomatch h), fun a h => by simpa using h⟩
  | .v z :: r', ρ, ρ2, zs, vs, fp, ow, h, g, ⟨w, ws, f1, f2, e, e2, hv, t⟩, nd, dis => by
    subst e e2
    have h' : (grab r' ρ).map (fun q => (z :: q.1, q.2)) = some (zs, ρ2) := h
    cases q : grab r' ρ with
    | none => rw [q] at h'; cases h'
    | some p =>
      obtain ⟨zs', ρ2'⟩ := p
      rw [q] at h'
      cases h'
      obtain ⟨n1, n2, n3⟩ := List.nodup_append.mp nd
      obtain ⟨m1, m2, m3⟩ := List.nodup_append.mp n1
      obtain ⟨M, ow2, r1, g2, nd2, dis2, sub⟩ := grab_ok q g t (List.nodup_append.mpr ⟨m2, n2, fun a ha b hb => n3 a (by simp [ha]) b hb⟩) fun a h => dis a (by simp [h])
      refine ⟨f1 ++ M, ow2, ⟨w, ws, f1, M, rfl, rfl, hv, r1⟩, g2, ?_, fun a h => ?_, fun a h => ?_⟩
      · rw [List.append_assoc]
        refine List.nodup_append.mpr ⟨m1, nd2, fun a ha b hb e => ?_⟩
        subst e
        rcases List.mem_append.mp (sub a hb) with z | z
        · exact m3 a ha a z rfl
        · exact n3 a (by simp [ha]) a z rfl
      · rcases List.mem_append.mp h with h | h
        · exact dis a (by simp [h])
        · exact dis2 a h
      · rw [List.append_assoc] at h
        rcases List.mem_append.mp h with h | h
        · simp [h]
        · rcases List.mem_append.mp (sub a h) with z | z <;> simp [z]
  | .pl i :: r', ρ, ρ2, zs, vs, fp, ow, h, g, ⟨w, ws, e, hs, t⟩, nd, dis => by
    subst e
    unfold grab at h
    cases q0 : ρ[i]? with
    | none => rw [q0] at h; cases h
    | some sl =>
      rw [q0] at h
      cases sl with
      | none => cases h
      | some kd =>
        dsimp only at h
        cases q : grab r' (ρ.set i none) with
        | none => rw [q] at h; cases h
        | some p =>
          obtain ⟨zs', ρ2'⟩ := p
          rw [q] at h
          cases h
          obtain ⟨v, fi, ow', hv, g', o, subi⟩ := g.move q0
          rw [hs] at hv
          have ev : w = v := Option.some.inj (Option.some.inj hv)
          subst ev
          obtain ⟨n1, n2, n3⟩ := List.nodup_append.mp nd
          have g'nd := g'.nd
          obtain ⟨M, ow2, r1, g2, nd2, dis2, sub⟩ := grab_ok q g' t (List.nodup_append.mpr ⟨n1, g'nd, fun a ha b hb => n3 a ha b (subi b (by simp [hb]))⟩) dis
          obtain ⟨k1, k2, k3⟩ := List.nodup_append.mp o.nd
          refine ⟨fi ++ M, ow2, ⟨w, ws, fi, M, rfl, rfl, o.rep, r1⟩, g2, ?_, fun a h => ?_, fun a h => ?_⟩
          · rw [List.append_assoc]
            refine List.nodup_append.mpr ⟨k1, nd2, fun a ha b hb e => ?_⟩
            subst e
            rcases List.mem_append.mp (sub a hb) with z | z
            · exact n3 a z a (subi a (by simp [ha])) rfl
            · exact k3 a ha a z rfl
          · rcases List.mem_append.mp h with h | h
            · exact o.dis a h
            · exact dis2 a h
          · rw [List.append_assoc] at h
            rcases List.mem_append.mp h with h | h
            · simp [subi a (by simp [h])]
            · rcases List.mem_append.mp (sub a h) with z | z
              · simp [z]
              · simp [subi a (by simp [z])]
theorem putB_ok {A' : Addr → Prop} {H1 : Hp} : ∀ {ms : List Bool} {avs : List AV} {ys : List KD} {ρ ρ3 : Ro} {vs : List V} {fp M ow : List Addr}, putB ms avs ys ρ = some ρ3 → AVs K A H1 σ avs vs fp → VRs K A' H' ys (sel ms vs) M → Good K A' H' ρ σ ow →
    (M ++ ow).Nodup → (∀ a ∈ M, ¬ A' a) → ∃ ow3, Good K A' H' ρ3 σ ow3 ∧ ∀ a ∈ ow3, a ∈ M ++ ow
  | [], [], [], ρ, ρ3, vs, fp, M, ow, h, _, _, g, _, _ => by cases h; exact ⟨ow, g, fun a h => by simp [h]⟩
  | [], [], _ :: _, _, _, _, _, _, _, h, _, _, _, _, _ => by cases h
  | [], _ :: _, _, _, _, _, _, _, _, h, _, _, _, _, _ => by cases h
  | true :: _, [], _, _, _, _, _, _, _, h, _, _, _, _, _ => by cases h
  | false :: _, [], _, _, _, _, _, _, _, h, _, _, _, _, _ => by cases h
  | false :: _, .pl _ :: _, _, _, _, _, _, _, _, h, _, _, _, _, _ => by cases h
  | true :: _, .v _ :: _, [], _, _, _, _, _, _, h, _, _, _, _, _ => by cases h
  | true :: _, .pl _ :: _, [], _, _, _, _, _, _, h, _, _, _, _, _ => by cases h
  | false :: ms, .v z :: r, ys, ρ, ρ3, vs, fp, M, ow, h, ⟨w, ws, f1, f2, e, e2, hv, t⟩, rM, g, nd, dis => by
    subst e e2
    exact putB_ok (ms := ms) h t rM g nd dis
  | true :: ms, .v z :: r, y :: ys, ρ, ρ3, vs, fp, M, ow, h, ⟨w, ws, f1, f2, e, e2, hv, t⟩, rM, g, nd, dis => by
    subst e e2
    obtain ⟨w', ws', g1, g2, e3, e4, hy, rM'⟩ := rM
    cases e3
    subst e4
    rw [List.append_assoc] at nd
    obtain ⟨_, n2, _⟩ := List.nodup_append.mp nd
    obtain ⟨ow3, g3, sub⟩ := putB_ok (ms := ms) h t rM' g n2 fun a h => dis a (by simp [h])
    exact ⟨ow3, g3, fun a h => by have := sub a h; simp at this ⊢; rcases this with z | z <;> simp [z]⟩
  | true :: ms, .pl i :: r, y :: ys, ρ, ρ3, vs, fp, M, ow, h, ⟨w, ws, e, hs, t⟩, rM, g, nd, dis => by
    subst e
    obtain ⟨w', ws', g1, g2, e3, e4, hy, rM'⟩ := rM
    cases e3
    subst e4
    rw [List.append_assoc] at nd
    obtain ⟨n1, n2, n3⟩ := List.nodup_append.mp nd
    obtain ⟨m1, m2, m3⟩ := List.nodup_append.mp n2
    obtain ⟨ow1, gp, sub1⟩ := g.put (i := i) (kd := y) (v := w) (fp := g1) ⟨hy, List.nodup_append.mpr ⟨n1, m2, fun a ha b hb => n3 a ha b (by simp [hb])⟩, fun a h => dis a (by simp [h])⟩
    rw [set_same hs] at gp
    obtain ⟨ow3, g3, sub⟩ := putB_ok (ms := ms) (ρ := ρ.set i (some y)) h t rM' gp (List.nodup_append.mpr ⟨m1, gp.nd, fun a ha b hb e => by
      subst e
      rcases sub1 a hb with z | z
      · exact m3 a ha a z rfl
      · exact n3 a z a (by simp [ha]) rfl⟩) fun a h => dis a (by simp [h])
    refine ⟨ow3, g3, fun a h => ?_⟩
    rcases List.mem_append.mp (sub a h) with z | z
    · simp [z]
    · rcases sub1 a z with z | z <;> simp [z]
def eFn (ms : List Bool) (c : CF) (f : AEF) : EF := fun ρ P PX => f ρ (fun avs ρ1 => match grab avs ρ1 with
  | some (zs, ρ2) => c zs (fun z ys => match putB ms avs ys ρ2 with | some ρ3 => P z ρ3 | none => False) (fun C ys => match putB ms avs ys ρ2 with | some ρ3 => PX C ρ3 | none => False)
  | none => False) PX
theorem efn_core {E : XK} {n : Nat} {ms : List Bool} {c : CF} {avs : List AV} {ρ ρ2 : Ro} {zs : List KD} {vs : List V} {fp ow ow0 : List Addr} {H0 : Hp} {A0 : Addr → Prop} {Q : VK} {P : KD → Ro → Prop} {PX : Str → Ro → Prop}
    (hg : grab avs ρ = some (zs, ρ2)) (st : Stp H0 ow0 A0 H (fp ++ ow) A) (g : Good K A H ρ σ ow) (r : AVs K A H σ avs vs fp) (nd : (fp ++ ow).Nodup) (dis : ∀ a ∈ fp, ¬ A a) (hl : vs.length = n)
    (hc : c zs (fun z ys => match putB ms avs ys ρ2 with | some ρ3 => P z ρ3 | none => False) (fun C ys => match putB ms avs ys ρ2 with | some ρ3 => PX C ρ3 | none => False))
    (q : ∀ z ρ' v H' fp ow' A', P z ρ' → Stp H0 ow0 A0 H' (fp ++ ow') A' → Good K A' H' ρ' σ ow' → Own K A' H' z v fp ow' → Q v H')
    (qx : ∀ C ρ' H' ow' A', PX C ρ' → Stp H0 ow0 A0 H' ow' A' → Good K A' H' ρ' σ ow' → E (.ref (He.ga K C)) none H') : spOf K n ms c vs H Q E := by
  obtain ⟨M, ow2, rz, g2, nd2, disM, sub⟩ := grab_ok hg g r nd dis
  obtain ⟨k1, k2, k3⟩ := List.nodup_append.mp nd2
  have back : ∀ {ys : List KD} {ρ3 : Ro} {H' : Hp} {fp' M' : List Addr} {A' : Addr → Prop}, putB ms avs ys ρ2 = some ρ3 → Ret K H M A ms vs H' A' M' ys fp' → ∃ ow3, Good K A' H' ρ3 σ ow3 ∧ (∀ a ∈ ow3, a ∈ M' ++ ow2) ∧ Stp H0 ow0 A0 H' (fp' ++ ow3) A' ∧ (∀ a ∈ fp', a ∉ ow3) := fun {ys ρ3 H' fp' M' A'} e rt => by
    have keep : KeepF A ow2 H H' := fun a o e h => rt.stp.same a o e fun z => by
      rcases h with h | h | h
      · exact k3 a z a h rfl
      · exact disM a z h
      · obtain ⟨u, e', m⟩ := rz.mu a z
        rw [e] at e'; cases e'
        exact m.notImm h
    have trk : ∀ a, a ∈ ow2 → ∃ o, H a = some o := fun a h => let ⟨o, e, _⟩ := g2.rep.mu a h; ⟨o, e⟩
    have disA : ∀ a, a ∈ ow2 → ¬ A' a := fun a h z => by
      rcases rt.stp.fr a z with z | z | z
      · exact g2.dis a h z
      · exact k3 a z a h rfl
      · obtain ⟨o, e⟩ := trk a h
        rw [z] at e; cases e
    have g2' : Good K A' H' ρ2 σ ow2 := ⟨(g2.rep.keep keep).mono rt.stp.up, g2.nd, disA, rt.tr⟩
    obtain ⟨f1, f2, f3⟩ := List.nodup_append.mp rt.nd
    have notow2 : ∀ a, a ∈ fp' ++ M' → a ∉ ow2 := fun a h z => by
      rcases rt.stp.own a h with y | y
      · exact k3 a y a z rfl
      · obtain ⟨o, e⟩ := trk a z
        rw [y] at e; cases e
    obtain ⟨ow3, g3, sub3⟩ := putB_ok e r rt.muts g2' (List.nodup_append.mpr ⟨f2, g2.nd, fun a ha b hb e => notow2 a (by simp [ha]) (by rw [e]; exact hb)⟩) fun a h => rt.dis a (by simp [h])
    refine ⟨ow3, g3, sub3, ⟨fun a o e n => ?_, fun a h => ?_, fun a h => rt.stp.up a (st.up a h), fun a h => ?_⟩, fun a ha z => ?_⟩
    · have e1 := st.same a o e n
      refine rt.stp.same a o e1 fun z => ?_
      rcases st.own a (sub a (by simp [z])) with y | y
      · exact n y
      · rw [e] at y; cases y
    · have : a ∈ M ∨ H a = none ∨ a ∈ ow2 := by
        rcases List.mem_append.mp h with h | h
        · rcases rt.stp.own a (by simp [h]) with y | y
          · exact .inl y
          · exact .inr (.inl y)
        · rcases List.mem_append.mp (sub3 a h) with h | h
          · rcases rt.stp.own a (by simp [h]) with y | y
            · exact .inl y
            · exact .inr (.inl y)
          · exact .inr (.inr h)
      rcases this with y | y | y
      · exact st.own a (sub a (by simp [y]))
      · exact st.none y
      · exact st.own a (sub a (by simp [y]))
    · rcases rt.stp.fr a h with y | y | y
      · exact st.fr a y
      · exact .inr (st.own a (sub a (by simp [y])))
      · exact .inr (st.none y)
    · rcases List.mem_append.mp (sub3 a z) with y | y
      · exact f3 a ha a y rfl
      · exact notow2 a (by simp [ha]) y
  refine ⟨hl, zs, A, M, _, _, rz, k1, disM, g.tr, hc, fun z ys v H' fp' M' A' hz rt rv => ?_, fun C ys H' M' A' hz rt => ?_⟩
  · split at hz
    · rename_i ρ3 e
      obtain ⟨ow3, g3, sub3, st3, nin⟩ := back e rt
      obtain ⟨f1, f2, f3⟩ := List.nodup_append.mp rt.nd
      exact q z ρ3 v H' fp' ow3 A' hz st3 g3 ⟨rv, List.nodup_append.mpr ⟨f1, g3.nd, fun a ha b hb e => nin a ha (by rw [e]; exact hb)⟩, fun a h => rt.dis a (by simp [h])⟩
    · exact hz.elim
  · split at hz
    · rename_i ρ3 e
      obtain ⟨ow3, g3, sub3, st3, nin⟩ := back e rt
      exact qx C ρ3 H' ow3 A' hz st3 g3
    · exact hz.elim
end
section
variable {X : Cx} {E : XK} {pos : Pos} {e : Expr} {es : List Expr} {n : Nat} {g : AEF}
theorem dae_nil : DAE X E [] 0 (fun ρ P _ => P [] ρ) :=
  ⟨_, pa_nil, fun σ H A ρ ow Q P PX g h q _ => q [] ρ [] H [] ow A rfl h Stp.refl g ⟨rfl, rfl⟩ g.nd fun a h => (nomatch h)⟩
theorem dae_pl (i : Nat) {x : Str} (t : DAE X E es n g) (hN : X.N[i]? = some x := by rfl) (hv : Vis X.env.scope x := by first | exact Or.inl rfl | exact Or.inr (Or.inl rfl) | exact Or.inr (Or.inr rfl)) (hd : (x == ("__debug__" : Str)) = false := by decide)
    (hcd : (x == ("__classdict__" : Str)) = false := by decide) (hs : starEach (.Name x pos :: es) X.env = (false, eval (.Name x pos) X.env) :: starEach es X.env := by rfl) :
    DAE X E (.Name x pos :: es) (n + 1) (fun ρ P PX => (∃ kd, ρ[i]? = some (some kd)) ∧ g ρ (fun avs ρ' => P (.pl i :: avs) ρ') PX) := by
  obtain ⟨tb, eb, sb⟩ := t.run
  refine ⟨_, pa_cons (pe_var hN hv hd hcd) eb hs, fun σ H A ρ ow Q P PX gd h q qx => ?_⟩
  obtain ⟨⟨kd, e⟩, h⟩ := h
  obtain ⟨v, f, hv, _⟩ := gd.slot e
  refine ⟨v, hv, ?_⟩
  exact sb σ H A ρ ow _ _ _ gd h (fun avs ρ' vs H' fp ow' A' hn hp st g' r nd dis => q _ ρ' _ H' fp ow' A' (by rw [List.length_cons, hn]) hp st g' ⟨v, vs, rfl, hv, r⟩ nd dis) qx
theorem dae_e {f : EF} (h : DE X E e f) (t : DAE X E es n g) (hs : starEach (e :: es) X.env = (false, eval e X.env) :: starEach es X.env := by rfl) :
    DAE X E (e :: es) (n + 1) (fun ρ P PX => f ρ (fun z ρ1 => g ρ1 (fun avs ρ2 => P (.v z :: avs) ρ2) PX) PX) := by
  obtain ⟨ta, ea, sa⟩ := h.run
  obtain ⟨tb, eb, sb⟩ := t.run
  refine ⟨_, pa_cons ea eb hs, fun σ H A ρ ow Q P PX gd h q qx => ?_⟩
  refine sa σ H A ρ ow _ _ _ gd h (fun z ρ1 v H1 fp ow1 A1 h1 st1 g1 o1 => ?_) qx
  have st1' : Stp H ow A H1 ow1 A1 := st1.sub fun a h => by simp [h]
  obtain ⟨n1, n2, n3⟩ := List.nodup_append.mp o1.nd
  refine sb σ H1 A1 ρ1 ow1 _ _ _ g1 h1 (fun avs ρ2 vs H2 fp2 ow2 A2 hn hp st2 g2 r nd dis => ?_) (fun C ρ2 H2 ow2 A2 hx st2 g2 => qx C ρ2 H2 ow2 A2 hx (st1'.trans st2) g2)
  have trk : ∀ a ∈ fp, ∃ o, H1 a = some o := fun a h => let ⟨o, e, _⟩ := o1.rep.mu a h; ⟨o, e⟩
  have kp : KeepF A1 fp H1 H2 := fun a o e h => by
    rcases h with h | h
    · exact st2.same a o e fun z => n3 a h a z rfl
    · exact g1.keepA st2 a o e h
  have notin : ∀ a ∈ fp, a ∉ fp2 ++ ow2 := fun a h z => by
    rcases st2.own a z with y | y
    · exact n3 a h a y rfl
    · obtain ⟨o, e⟩ := trk a h
      rw [y] at e; cases e
  refine q _ ρ2 (v :: vs) H2 (fp ++ fp2) ow2 A2 (by rw [List.length_cons, hn]) hp ?_ g2 ⟨v, vs, fp, fp2, rfl, rfl, (o1.rep.keep kp).mono st2.up, r⟩ ?_ fun a h => ?_
  · have st := st1'.trans st2
    refine ⟨st.same, fun a h => ?_, st.up, st.fr⟩
    rw [List.append_assoc] at h
    rcases List.mem_append.mp h with h | h
    · exact st1.own a (by simp [h])
    · exact st.own a h
  · rw [List.append_assoc]
    exact List.nodup_append.mpr ⟨n1, nd, fun a ha b hb e => notin a ha (by rw [e]; exact hb)⟩
  · rcases List.mem_append.mp h with h | h
    · intro z
      rcases st2.fr a z with y | y | y
      · exact o1.dis a h y
      · exact n3 a h a y rfl
      · obtain ⟨o, e⟩ := trk a h
        rw [y] at e; cases e
    · exact dis a h
variable {CX : CXT} {k m : Nat} {f : Addr} {fd : FuncData} {ps : List Str} {c : CF} {ms : List Bool} {x : Str} {p : Pos}
end
end DL

namespace DL
open PySem PySem.Spec PyProof.Rows L2

section
variable {K : Frg} {A A0 : Addr → Prop} {H H' H0 : Hp} {ρ : Ro} {σ : L2.St} {ow ow0 fp : List Addr}
theorem PR.fin {u : V} {z : KD} (st : Stp H0 ow0 A0 H (fp ++ ow) A) (g : Good K A H ρ σ ow) (nd : (fp ++ ow).Nodup) (dis : ∀ a ∈ fp, ¬ A a) (s : Same H H') (p : PR K A (fun a => a ∈ fp ∨ H a = none) H' u z) :
    ∃ f A', Stp H0 ow0 A0 H' (f ++ ow) A' ∧ Good K A' H' ρ σ ow ∧ Own K A' H' z u f ow := by
  obtain ⟨f, r, n, hF⟩ := p
  obtain ⟨n1, n2, n3⟩ := List.nodup_append.mp nd
  have trk : ∀ a ∈ ow, ∃ o, H a = some o := fun a h => let ⟨o, e, _⟩ := g.rep.mu a h; ⟨o, e⟩
  have nin : ∀ a, (a ∈ fp ∨ H a = none) → a ∉ ow := fun a h z => by
    rcases h with h | h
    · exact n3 a h a z rfl
    · obtain ⟨o, e⟩ := trk a z
      rw [h] at e; cases e
  have nA : ∀ a, (a ∈ fp ∨ H a = none) → ¬ A a := fun a h z => by
    rcases h with h | h
    · exact dis a h z
    · obtain ⟨o, e⟩ := g.tr a z
      rw [h] at e; cases e
  have org : ∀ a, (a ∈ fp ∨ H a = none) → a ∈ ow0 ∨ H0 a = none := fun a h => by
    rcases h with h | h
    · exact st.own a (by simp [h])
    · exact st.none h
  by_cases hk : z.1 = .fl ∨ z.1 = .sh ∨ z.1 = .ow
  · refine ⟨f, A, ⟨fun a o e m => s a o (st.same a o e m), fun a h => ?_, st.up, st.fr⟩, g.same s, ⟨?_, List.nodup_append.mpr ⟨n, n2, fun a ha b hb e => nin a (hF a ha) (by rw [e]; exact hb)⟩, fun a h => nA a (hF a h)⟩⟩
    · rcases List.mem_append.mp h with h | h
      · exact org a (hF a h)
      · exact st.own a (by simp [h])
    · obtain ⟨k, d⟩ := z
      rcases hk with rfl | rfl | rfl <;> exact r
  · have e : f = [] := by
      obtain ⟨k, d⟩ := z
      cases k with
      | fl => exact r.1
      | rd => exact r.1
      | sa => exact r.1
      | sh => exact absurd (.inr (.inl rfl)) hk
      | ow => exact absurd (.inr (.inr rfl)) hk
    subst e
    refine ⟨[], fun a => A a ∨ ((a ∈ fp ∨ H a = none) ∧ ∃ o, H' a = some o), ⟨fun a o e m => s a o (st.same a o e m), fun a h => st.own a (by simp at h; simp [h]), fun a h => .inl (st.up a h), fun a h => ?_⟩, ?_, ⟨r.monoT fun a o e h => ?_, by simpa using n2, fun a h => (nomatch h)⟩⟩
    · rcases h with h | h
      · exact st.fr a h
      · exact .inr (org a h.1)
    · refine ⟨(g.rep.keep (KeepF.of_same s)).mono fun _ h => .inl h, n2, fun a h z => ?_, fun a h => ?_⟩
      · rcases z with z | z
        · exact g.dis a h z
        · exact nin a z.1 h
      · rcases h with h | h
        · obtain ⟨o, e⟩ := g.tr a h; exact ⟨o, s a o e⟩
        · exact h.2
    · rcases h with h | h
      · exact .inl h
      · exact .inr ⟨h, o, e⟩
def valsOf : List AV → Option (List KD)
  | [] => some []
  | .v z :: r => (valsOf r).map (z :: ·)
  | .pl _ :: _ => none
theorem AVs.vals : ∀ {avs : List AV} {vs : List V} {f : List Addr} {zs : List KD}, AVs K A H σ avs vs f → valsOf avs = some zs → VRs K A H zs vs f
  | [], _, _, _, h, e => by cases e; exact h
  | .v z :: r, _, _, zs, ⟨w, ws, f1, f2, e, e2, h, t⟩, q => by
    have q' : (valsOf r).map (z :: ·) = some zs := q
    cases q0 : valsOf r with
    | none => rw [q0] at q'; cases q'
    | some zs' =>
      rw [q0] at q'
      cases q'
      exact ⟨w, ws, f1, f2, e, e2, h, AVs.vals t q0⟩
  | .pl i :: r, _, _, _, _, q => by cases q
theorem VRs.prs {zs : List KD} {vs : List V} (r : VRs K A H zs vs fp) (nd : fp.Nodup) : PRs K A (fun a => a ∈ fp ∨ H a = none) H vs zs := ⟨fp, r.mono fun _ h => .inl h, nd, fun _ h => .inl h⟩
end

theorem ae_nil {K : Frg} {E : XK} : AESound K E 0 tNil (fun ρ P _ => P [] ρ) := fun σ H A ρ ow Q P PX g h q _ => q [] ρ [] H [] ow A rfl h Stp.refl g ⟨rfl, rfl⟩ g.nd fun a h => (nomatch h)
theorem ae_cons {K : Frg} {E : XK} {n : Nat} {ta : TE} {tb : TA} {f : EF} {g : AEF} (sa : ESound K E ta f) (sb : AESound K E n tb g) :
    AESound K E (n + 1) (tCons ta tb) (fun ρ P PX => f ρ (fun z ρ1 => g ρ1 (fun avs ρ2 => P (.v z :: avs) ρ2) PX) PX) := by
  intro σ H A ρ ow Q P PX gd h q qx
  refine sa σ H A ρ ow _ _ _ gd h (fun z ρ1 v H1 fp ow1 A1 h1 st1 g1 o1 => ?_) qx
  have st1' : Stp H ow A H1 ow1 A1 := st1.sub fun a h => by simp [h]
  obtain ⟨n1, n2, n3⟩ := List.nodup_append.mp o1.nd
  refine sb σ H1 A1 ρ1 ow1 _ _ _ g1 h1 (fun avs ρ2 vs H2 fp2 ow2 A2 hn hp st2 g2 r nd dis => ?_) (fun C ρ2 H2 ow2 A2 hx st2 g2 => qx C ρ2 H2 ow2 A2 hx (st1'.trans st2) g2)
  have trk : ∀ a ∈ fp, ∃ o, H1 a = some o := fun a h => let ⟨o, e, _⟩ := o1.rep.mu a h; ⟨o, e⟩
  have kp : KeepF A1 fp H1 H2 := fun a o e h => by
    rcases h with h | h
    · exact st2.same a o e fun z => n3 a h a z rfl
    · exact g1.keepA st2 a o e h
  have notin : ∀ a ∈ fp, a ∉ fp2 ++ ow2 := fun a h z => by
    rcases st2.own a z with y | y
    · exact n3 a h a y rfl
    · obtain ⟨o, e⟩ := trk a h
      rw [y] at e; cases e
  refine q _ ρ2 (v :: vs) H2 (fp ++ fp2) ow2 A2 (by rw [List.length_cons, hn]) hp ?_ g2 ⟨v, vs, fp, fp2, rfl, rfl, (o1.rep.keep kp).mono st2.up, r⟩ ?_ fun a h => ?_
  · have st := st1'.trans st2
    refine ⟨st.same, fun a h => ?_, st.up, st.fr⟩
    rw [List.append_assoc] at h
    rcases List.mem_append.mp h with h | h
    · exact st1.own a (by simp [h])
    · exact st.own a h
  · rw [List.append_assoc]
    exact List.nodup_append.mpr ⟨n1, nd, fun a ha b hb e => notin a ha (by rw [e]; exact hb)⟩
  · rcases List.mem_append.mp h with h | h
    · intro z
      rcases st2.fr a z with y | y | y
      · exact o1.dis a h y
      · exact n3 a h a y rfl
      · obtain ⟨o, e⟩ := trk a h
        rw [y] at e; cases e
    · exact dis a h

def eOp (o : KD → KD → (KD → Prop) → Prop) (fa fb : EF) : EF := fun ρ P PX => fa ρ (fun x ρ1 => fb ρ1 (fun y ρ2 => o x y fun z => P z ρ2) PX) PX
def eCallB (o : List KD → (KD → Prop) → Prop) (g : AEF) : EF := fun ρ P PX => g ρ (fun avs ρ1 => match valsOf avs with | some zs => o zs fun z => P z ρ1 | none => False) PX
def eTup (g : AEF) : EF := fun ρ P PX => g ρ (fun avs ρ1 => match valsOf avs with | some zs => P (jT zs, .tup (zs.map (·.2))) ρ1 | none => False) PX
def eLst (g : AEF) : EF := fun ρ P PX => g ρ (fun avs ρ1 => match valsOf avs with | some zs => P (jL zs, .lst (zs.map (·.2))) ρ1 | none => False) PX
def eTest (f : EF) : TEF := fun ρ P PX => f ρ (fun z ρ1 => match z.2 with | .bl b => P b ρ1 | _ => False) PX
section
variable {K : Frg} {E : XK} {fa fb : EF} {ta tb : TE}
theorem es_op {r : R2} {o : KD → KD → (KD → Prop) → Prop} (hr : OpS K r o) (sa : ESound K E ta fa) (sb : ESound K E tb fb) : ESound K E (tOp r ta tb) (eOp o fa fb) := by
  intro σ H A ρ ow Q P PX gd h q qx
  have s2 := ae_cons sa (ae_cons sb ae_nil)
  have := s2 σ H A ρ ow (fun vs H2 => match vs with | [x, y] => r x y H2 Q | _ => False) (fun avs ρ2 => match avs with | [.v x, .v y] => o x y fun z => P z ρ2 | _ => False) PX gd h (fun avs ρ2 vs H2 fp ow2 A2 hn hp st g2 rr nd dis => ?_) qx
  · exact this
  · split at hp
    · rename_i x y
      have rz : VRs K A2 H2 [x, y] vs fp := rr.vals rfl
      obtain ⟨v, w, ev, px, py⟩ := (rz.prs (List.nodup_append.mp nd).1).get2
      subst ev
      refine hr A2 _ H2 v w x y _ Q px py (fun a h => .inr h) hp fun z u H3 hz s3 p3 => ?_
      obtain ⟨f, A3, st3, g3, o3⟩ := p3.fin st g2 nd dis s3
      exact q z ρ2 u H3 f ow2 A3 hz st3 g3 o3
    · exact hp.elim
theorem es_test {f : EF} (s : ESound K E ta f) : TESound K E (tTest ta) (eTest f) := by
  intro σ H A ρ ow Q P PX gd h q qx
  refine s σ H A ρ ow _ _ _ gd h (fun z ρ1 v H1 fp ow1 A1 h1 st1 g1 o1 => ?_) qx
  obtain ⟨k, d⟩ := z
  have r : RA K (fun _ => True) H1 d v := o1.rep.ra (fun _ _ => trivial) (fun _ _ => trivial)
  cases d <;> first
    | exact h1.elim
    | exact ⟨_, r, q _ ρ1 H1 ow1 A1 h1 (st1.sub fun a h => by simp [h]) g1⟩
variable {t u : TT} {f g : TEF}
end
section
variable {X : Cx} {E : XK} {pos : Pos} {a b c e : Expr} {es : List Expr} {fa fb : EF} {n : Nat} {g : AEF}
theorem de_op {op : Operator} {r : R2} {o : KD → KD → (KD → Prop) → Prop} (ho : OpR X (binaryOp op) r) (hr : OpS X.K r o) (ha : DE X E a fa) (hb : DE X E b fb) : DE X E (.BinOp a op b pos) (eOp o fa fb) := by
  obtain ⟨ta, ea, sa⟩ := ha.run
  obtain ⟨tb, eb, sb⟩ := hb.run
  exact ⟨_, pe_op ho ea eb, es_op hr sa sb⟩
theorem de_cmp {op : CmpOp} {r : R2} {o : KD → KD → (KD → Prop) → Prop} (ho : OpR X (compareOp op) r) (hr : OpS X.K r o) (ha : DE X E a fa) (hb : DE X E b fb) (hm : behindInMarks op b = false) : DE X E (.Compare a [op] [b] pos) (eOp o fa fb) := by
  obtain ⟨ta, ea, sa⟩ := ha.run
  obtain ⟨tb, eb, sb⟩ := hb.run
  exact ⟨_, pe_cmpR ho ea eb hm, es_op hr sa sb⟩
theorem dte_cmp {op : CmpOp} {r : R2} {o : KD → KD → (KD → Prop) → Prop} (ho : OpR X (compareOp op) r) (hr : OpS X.K r o) (ha : DE X E a fa) (hb : DE X E b fb) (hm : behindInMarks op b = false) : DTE X E (.Compare a [op] [b] pos) (eTest (eOp o fa fb)) := by
  obtain ⟨ta, ea, sa⟩ := ha.run
  obtain ⟨tb, eb, sb⟩ := hb.run
  exact ⟨_, pt_cmpR ho ea eb hm, es_test (es_op hr sa sb)⟩
structure DWE (X : Cx) (E : XK) (e : Expr) (f : TEF) : Prop where
  run : ∃ t, PW X e t ∧ TESound X.K E t f
variable {ta tb : TEF} {rest : List Expr}
theorem DWE.dt (h : DWE X E e ta) : DTE X E e ta := let ⟨t, a, b⟩ := h.run; ⟨t, a.pt, b⟩
theorem de_lst (h : DAE X E es n g) (hn : n ≤ 1000 := by decide) : DE X E (.List es pos) (eLst g) := by
  obtain ⟨ta, ea, sa⟩ := h.run
  refine ⟨_, pe_lst ea, fun σ H A ρ ow Q P PX gd h q qx => ?_⟩
  refine sa σ H A ρ ow _ _ _ gd h (fun avs ρ2 vs H2 fp ow2 A2 hz hp st g2 rr nd dis => ⟨by rw [rr.len, hz, sizeLine_eq]; omega, fun p hp' => ?_⟩) qx
  split at hp
  · rename_i zs e
    have rz := (rr.vals e).prs (List.nodup_append.mp nd).1
    obtain ⟨f, A3, st3, g3, o3⟩ := (pr_lstJ rz hp' (.inr hp')).fin st g2 nd dis (same_upd hp')
    exact q _ ρ2 _ _ f ow2 A3 hp st3 g3 o3
  · exact hp.elim
variable {r : List V → Hp → VK → Prop} {o : List KD → (KD → Prop) → Prop} {x : Str} {p : Pos}
end
end DL

namespace DL
open PySem PySem.Spec PyProof.Rows L2

def PlAt (K : Frg) (A : Addr → Prop) (H : Hp) (ρ : Ro) (σ : L2.St) (ow : List Addr) (i : Nat) (k : Kd) (e : D) (rb : D → D) (w : V) : Prop :=
  ∃ d v0 g1 fs g2 fe, ow = g1 ++ (fs ++ g2) ∧ σ[i]? = some (some v0) ∧ Zip K No H d v0 fs rb e w fe ∧ (k = .sh → Shal K H e w ∧ rb = id ∧ w = v0) ∧
    ∀ (H' : Hp) (A' : Addr → Prop) (kd' : KD) (fs' : List Addr), (∀ a, A a → A' a) → KeepF A (g1 ++ g2) H H' → VR K A' H' kd' v0 fs' → RepS K A' H' (ρ.set i (some kd')) σ (g1 ++ (fs' ++ g2))
abbrev PLF := Ro → (Nat → Kd → D → (D → D) → Prop) → Prop
def PLSound (K : Frg) (t : TE) (pl : PLF) : Prop := ∀ (σ : L2.St) (H : Hp) (A : Addr → Prop) (ρ : Ro) (ow : List Addr) (Q : VK) (P : Nat → Kd → D → (D → D) → Prop), Good K A H ρ σ ow → pl ρ P →
  (∀ i k e rb v H', P i k e rb → Same H H' → PlAt K A H' ρ σ ow i k e rb v → Q v H') → t σ H Q
structure DPl (X : Cx) (e : Expr) (pl : PLF) : Prop where
  run : ∃ t, PE X e t ∧ PLSound X.K t pl
section
variable {K : Frg} {A : Addr → Prop} {H H' : Hp} {ρ : Ro} {σ : L2.St} {ow : List Addr} {i : Nat} {k : Kd} {e : D} {rb : D → D} {w : V}
theorem PlAt.same (s : Same H H') (p : PlAt K A H ρ σ ow i k e rb w) : PlAt K A H' ρ σ ow i k e rb w := by
  obtain ⟨d, v0, g1, fs, g2, fe, e1, e2, z, hs, put⟩ := p
  exact ⟨d, v0, g1, fs, g2, fe, e1, e2, z.keep (KeepF.of_same s), fun h => let ⟨a, b⟩ := hs h; ⟨a.same s, b⟩, fun H'' A' kd' fs' m kp r => put H'' A' kd' fs' m (keepF_trans (KeepF.of_same s) kp) r⟩
theorem PlAt.root {d : D} {kd : KD} (g : Good K A H ρ σ ow) (h : ρ[i]? = some (some kd)) (hk : kd.1 = .sh ∨ kd.1 = .ow) : ∃ v, σ[i]? = some (some v) ∧ PlAt K A H ρ σ ow i kd.1 kd.2 id v := by
  obtain ⟨x, f1, f2, f3, hx, e2, ⟨v, ev, r⟩, put⟩ := g.rep.split h
  subst ev
  refine ⟨v, hx, kd.2, v, f1, f2, f3, f2, e2, hx, ?_, fun e => ?_, fun H' A' kd' fs' m kp r' => ?_⟩
  · obtain ⟨k, d⟩ := kd
    rcases hk with rfl | rfl
    · exact Zip.root r.1
    · exact Zip.root r
  · obtain ⟨k, d⟩ := kd
    dsimp only at e
    subst e
    exact ⟨r.2, rfl, rfl⟩
  · have := put H' A' (some kd') (some v) fs' m kp ⟨v, rfl, r'⟩
    rwa [set_same hx] at this
theorem PlAt.mut {fa : List Addr} (g : Good K A H ρ σ ow) (p : PlAt K A H ρ σ ow i k e rb w) (hnd : (fa ++ ow).Nodup) (hda : ∀ a ∈ fa, ¬ A a) :
    ∃ fe, R K No H e w fe ∧ (fa ++ fe).Nodup ∧ (∀ a ∈ fe, a ∈ ow) ∧ (k = .sh → Shal K H e w) ∧ ∀ (e' : D) (k' : Kd) (fz : List Addr) (z : KD) (zv : V) (H' : Hp) (fe' : List Addr), (∀ a o, H a = some o → a ∉ fe → H' a = some o) → R K No H' e' w fe' → (k' = .ow ∨ (k' = .sh ∧ k = .sh ∧ Shal K H' e' w)) → VR K A H' z zv fz → (fz ++ fe').Nodup →
      (∀ a ∈ fz ++ fe', a ∈ fe ∨ a ∈ fa ∨ H a = none) → ∃ ow', Stp H (fa ++ ow) A H' (fz ++ ow') A ∧ Good K A H' (ρ.set i (some (k', rb e'))) σ ow' ∧ Own K A H' z zv fz ow' := by
  obtain ⟨d, v0, g1, fs, g2, fe, e1, e2, ⟨f1, f2, ef, r, reb⟩, hs, put⟩ := p
  subst e1 ef
  have gnd := g.nd
  obtain ⟨n1, n2, n3⟩ := List.nodup_append.mp hnd
  refine ⟨fe, r, List.nodup_append.mpr ⟨n1, ?_, fun a ha b hb => n3 a ha b (by simp [hb])⟩, fun a h => by simp [h], fun h => (hs h).1, fun e' k' fz z zv H' fe' hk r' hk' rz nd' hsub => ?_⟩
  · have a1 := (List.nodup_append.mp (List.nodup_append.mp gnd).2.1).1
    exact (List.nodup_append.mp (List.nodup_append.mp a1).2.1).1
  -- the addresses beside fe
  have side : ∀ a, a ∈ g1 ∨ a ∈ f1 ∨ a ∈ f2 ∨ a ∈ g2 → a ∉ fe ∧ a ∉ fa ∧ ∃ o, H a = some o := fun a h => by
    have inow : a ∈ g1 ++ (f1 ++ (fe ++ f2) ++ g2) := by simp only [List.mem_append]; rcases h with h | h | h | h <;> simp [h]
    refine ⟨fun z => ?_, fun z => n3 a z a inow rfl, let ⟨o, e, _⟩ := g.rep.mu a inow; ⟨o, e⟩⟩
    have b1 := List.nodup_append.mp gnd
    have b2 := List.nodup_append.mp b1.2.1
    have b3 := List.nodup_append.mp b2.1
    have b4 := List.nodup_append.mp b3.2.1
    rcases h with h | h | h | h
    · exact b1.2.2 a h a (by simp [z]) rfl
    · exact b3.2.2 a h a (by simp [z]) rfl
    · exact b4.2.2 a z a h rfl
    · exact b2.2.2 a (by simp [z]) a h rfl
  have keepO : ∀ a o, H a = some o → (a ∈ g1 ∨ a ∈ f1 ∨ a ∈ f2 ∨ a ∈ g2 ∨ A a ∨ Imm o) → H' a = some o := fun a o e h => hk a o e fun z => by
    rcases h with h | h | h | h | h | h
    · exact (side a (.inl h)).1 z
    · exact (side a (.inr (.inl h))).1 z
    · exact (side a (.inr (.inr (.inl h)))).1 z
    · exact (side a (.inr (.inr (.inr h)))).1 z
    · exact g.dis a (by simp [z]) h
    · obtain ⟨u, e', m⟩ := R.mu _ _ _ r a z
      rw [e] at e'; cases e'
      exact m.notImm h
  have whole : R K No H' (rb e') v0 (f1 ++ (fe' ++ f2)) := reb H' No e' fe' (fun _ h => h) (fun a o e h => keepO a o e (by
    rcases h with h | h | h
    · rcases List.mem_append.mp h with h | h <;> simp [h]
    · exact h.elim
    · simp [h])) r'
  have vr : VR K A H' (k', rb e') v0 (f1 ++ (fe' ++ f2)) := by
    rcases hk' with rfl | ⟨rfl, hk1, hsh⟩
    · exact whole
    · obtain ⟨_, hrb, hw⟩ := hs hk1
      refine ⟨whole, ?_⟩
      rw [hrb, ← hw]
      exact hsh
  have rep := put H' A (k', rb e') _ (fun _ h => h) (fun a o e h => keepO a o e (by
    rcases h with h | h | h
    · rcases List.mem_append.mp h with h | h <;> simp [h]
    · simp [h]
    · simp [h])) vr
  have news : ∀ a, a ∈ fz ++ fe' → a ∉ g1 ∧ a ∉ f1 ∧ a ∉ f2 ∧ a ∉ g2 := fun a h => by
    have key : ¬ (a ∈ g1 ∨ a ∈ f1 ∨ a ∈ f2 ∨ a ∈ g2) := fun z => by
      obtain ⟨s1, s2, o, s3⟩ := side a z
      rcases hsub a h with y | y | y
      · exact s1 y
      · exact s2 y
      · rw [s3] at y; cases y
    exact ⟨fun z => key (.inl z), fun z => key (.inr (.inl z)), fun z => key (.inr (.inr (.inl z))), fun z => key (.inr (.inr (.inr z)))⟩
  have nA : ∀ a, a ∈ fz ++ fe' → ¬ A a := fun a h z => by
    rcases hsub a h with y | y | y
    · exact g.dis a (by simp [y]) z
    · exact hda a y z
    · obtain ⟨o, e⟩ := g.tr a z
      rw [y] at e; cases e
  have ndow : (g1 ++ (f1 ++ (fe' ++ f2) ++ g2)).Nodup := by
    have b1 := List.nodup_append.mp gnd
    have b2 := List.nodup_append.mp b1.2.1
    have b3 := List.nodup_append.mp b2.1
    have b4 := List.nodup_append.mp b3.2.1
    have c := List.nodup_append.mp nd'
    refine List.nodup_append.mpr ⟨b1.1, List.nodup_append.mpr ⟨List.nodup_append.mpr ⟨b3.1, List.nodup_append.mpr ⟨c.2.1, b4.2.1, fun a ha b hb e => ?_⟩, fun a ha b hb e => ?_⟩, b2.2.1, fun a ha b hb e => ?_⟩, fun a ha b hb e => ?_⟩
    · subst e; exact (news a (by simp [ha])).2.2.1 hb
    · subst e
      rcases List.mem_append.mp hb with hb | hb
      · exact (news a (by simp [hb])).2.1 ha
      · exact b3.2.2 a ha a (by simp [hb]) rfl
    · subst e
      rcases List.mem_append.mp ha with ha | ha
      · exact b2.2.2 a (by simp [ha]) a hb rfl
      · rcases List.mem_append.mp ha with ha | ha
        · exact (news a (by simp [ha])).2.2.2 hb
        · exact b2.2.2 a (by simp [ha]) a hb rfl
    · subst e
      rcases List.mem_append.mp hb with hb | hb
      · rcases List.mem_append.mp hb with hb | hb
        · exact b1.2.2 a ha a (by simp [hb]) rfl
        · rcases List.mem_append.mp hb with hb | hb
          · exact (news a (by simp [hb])).1 ha
          · exact b1.2.2 a ha a (by simp [hb]) rfl
      · exact b1.2.2 a ha a (by simp [hb]) rfl
  have mem : ∀ a, a ∈ g1 ++ (f1 ++ (fe' ++ f2) ++ g2) → a ∈ fe' ∨ (a ∈ g1 ∨ a ∈ f1 ∨ a ∈ f2 ∨ a ∈ g2) := fun a h => by
    simp only [List.mem_append] at h
    rcases h with h | (h | h | h) | h <;> simp [h]
  refine ⟨g1 ++ (f1 ++ (fe' ++ f2) ++ g2), ⟨fun a o e n => hk a o e fun z => n (by simp [z]), fun a h => ?_, fun _ h => h, fun _ h => .inl h⟩, ⟨rep, ndow, fun a h z => ?_, fun a h => ?_⟩, ⟨rz, List.nodup_append.mpr ⟨(List.nodup_append.mp nd').1, ndow, fun a ha b hb e => ?_⟩, fun a h => nA a (by simp [h])⟩⟩
  · have : a ∈ fz ++ fe' ∨ (a ∈ g1 ∨ a ∈ f1 ∨ a ∈ f2 ∨ a ∈ g2) := by
      rcases List.mem_append.mp h with h | h
      · exact .inl (by simp [h])
      · rcases mem a h with h | h
        · exact .inl (by simp [h])
        · exact .inr h
    rcases this with h | h
    · rcases hsub a h with y | y | y
      · exact .inl (by simp [y])
      · exact .inl (by simp [y])
      · exact .inr y
    · exact .inl (by simp only [List.mem_append]; rcases h with h | h | h | h <;> simp [h])
  · rcases mem a h with h | h
    · exact nA a (by simp [h]) z
    · exact g.dis a (by simp only [List.mem_append]; rcases h with h | h | h | h <;> simp [h]) z
  · obtain ⟨o, e⟩ := g.tr a h
    exact ⟨o, keepO a o e (by simp [h])⟩
  · subst e
    rcases mem a hb with y | y
    · exact (List.nodup_append.mp nd').2.2 a ha a y rfl
    · obtain ⟨s1, s2, s3, s4⟩ := news a (by simp [ha])
      rcases y with y | y | y | y
      · exact s1 y
      · exact s2 y
      · exact s3 y
      · exact s4 y
end
def plVar (i : Nat) : PLF := fun ρ P => match ρ[i]? with
  | some (some (k, d)) => (match k with
    | .sh => P i .sh d id
    | .ow => P i .ow d id
    | _ => False)
  | _ => False
def plIx (pl : PLF) (f : PF) : PLF := fun ρ P => pl ρ fun i k e rb => f ρ fun y => match e, y.2 with
  | .lst ds, .int j => (match ixN ds.length j with
    | some n => (match ds[n]? with | some c => P i .ow c (fun c' => rb (.lst (ds.set n c'))) | none => False)
    | none => False)
  | .tup ds, .int j => (match ixN ds.length j with
    | some n => (match ds[n]? with | some c => P i .ow c (fun c' => rb (.tup (ds.set n c'))) | none => False)
    | none => False)
  | _, _ => False
section
variable {X : Cx} {pos : Pos}
theorem dpl_var (i : Nat) {x : Str} (hN : X.N[i]? = some x := by rfl) (hv : Vis X.env.scope x := by first | exact Or.inl rfl | exact Or.inr (Or.inl rfl) | exact Or.inr (Or.inr rfl)) (hd : (x == ("__debug__" : Str)) = false := by decide)
    (hcd : (x == ("__classdict__" : Str)) = false := by decide) : DPl X (.Name x pos) (plVar i) := by
  refine ⟨_, pe_var hN hv hd hcd, fun σ H A ρ ow Q P g h q => ?_⟩
  unfold plVar at h
  cases e : ρ[i]? with
  | none => rw [e] at h; exact h.elim
  | some s =>
    rw [e] at h
    cases s with
    | none => exact h.elim
    | some kd =>
      obtain ⟨k, d⟩ := kd
      cases k with
      | sh =>
        obtain ⟨v, hv, p⟩ := PlAt.root (d := d) g e (.inl rfl)
        exact ⟨v, hv, q _ _ _ _ v H h (Same.refl H) p⟩
      | ow =>
        obtain ⟨v, hv, p⟩ := PlAt.root (d := d) g e (.inr rfl)
        exact ⟨v, hv, q _ _ _ _ v H h (Same.refl H) p⟩
      | _ => exact h.elim
theorem dpl_ix {a b : Expr} {pl : PLF} {f : PF} (ha : DPl X a pl) (hb : DP X b f) (hs : PlainIx b := by exact fun _ _ => rfl) : DPl X (.Subscript a b pos) (plIx pl f) := by
  obtain ⟨ta, ea, sa⟩ := ha.run
  obtain ⟨tb, eb, sb⟩ := hb.run
  refine ⟨_, pe_ix ix_seq ea eb hs, fun σ H A ρ ow Q P g h q => ?_⟩
  refine sa σ H A ρ ow _ _ g h fun i k e rb v H1 h1 s1 p1 => ?_
  refine sb σ H1 A ρ ow _ _ (g.same s1) h1 fun y w H2 h2 s2 p2 => ?_
  have p3 := p1.same s2
  obtain ⟨ky, dy⟩ := y
  have ry := p2.ra
  obtain ⟨d, v0, g1, fs, g2, fe, e1, e2, z, hsh, put⟩ := p3
  split at h2
  · rename_i ds j q1
    dsimp only at q1
    subst q1
    obtain rfl : w = .int j := ry
    split at h2
    · rename_i n hn
      split at h2
      · rename_i c hc
        obtain ⟨p, vs, w', fc, ev, hp, hl, hw, z'⟩ := z.step_lst hc
        subst ev
        refine .inl ⟨p, vs, j, w', rfl, rfl, .of hp, ?_, q i .ow c _ w' H2 h2 (s1.trans s2) ⟨d, v0, g1, fs, g2, fc, e1, e2, z', (fun h => nomatch h), put⟩⟩
        unfold L2.atI
        rw [hl, hn]
        exact hw
      · exact h2.elim
    · exact h2.elim
  · rename_i ds j q1
    dsimp only at q1
    subst q1
    obtain rfl : w = .int j := ry
    split at h2
    · rename_i n hn
      split at h2
      · rename_i c hc
        obtain ⟨p, vs, w', fc, ev, hp, hl, hw, z'⟩ := z.step_tup hc
        subst ev
        refine .inr (.inl ⟨p, vs, j, w', rfl, rfl, hp, ?_, q i .ow c _ w' H2 h2 (s1.trans s2) ⟨d, v0, g1, fs, g2, fc, e1, e2, z', (fun h => nomatch h), put⟩⟩)
        unfold L2.atI
        rw [hl, hn]
        exact hw
      · exact h2.elim
    · exact h2.elim
  · exact h2.elim
end
def nk (k z : Kd) : Kd := match k, z with
  | .sh, .fl => .sh
  | _, _ => .ow
def ownK : Kd → Bool
  | .fl => true
  | .sh => true
  | .ow => true
  | _ => false
def stIx (e : D) (y z : KD) (k : Kd) (P : Kd → D → Prop) : Prop := ownK z.1 = true ∧ match e, y.2 with
  | .lst ds, .int j => (match ixN ds.length j with
    | some n => P (nk k z.1) (.lst (ds.set n z.2))
    | none => False)
  | _, _ => False
def sStIx (fe : EF) (pl : PLF) (fi : PF) : SF := fun D ρ => fe ρ (fun z ρ1 => pl ρ1 fun i k e rb => fi ρ1 fun y => stIx e y z k fun k' e' => D.nx (ρ1.set i (some (k', rb e')))) D.ex
section
variable {K : Frg} {A : Addr → Prop} {H : Hp}
theorem VR.rown {z : KD} {v : V} {f : List Addr} (h : VR K A H z v f) (hk : ownK z.1 = true) : R K No H z.2 v f := by
  obtain ⟨k, d⟩ := z
  cases k with
  | fl => exact h.r (.inl rfl)
  | sh => exact h.r (.inr (.inl rfl))
  | ow => exact h.r (.inr (.inr rfl))
  | _ => cases hk
theorem KeepF.upd {p : Addr} {o : HO} {fp : List Addr} {B : Addr → Prop} (hp : p ∉ fp) (hB : ¬ B p) (hi : ∀ u, H p = some u → ¬ Imm u) : KeepF B fp H (upd H p o) := fun a u e h => by
  rw [upd_ne]
  · exact e
  · intro z
    subst z
    rcases h with h | h | h
    · exact hp h
    · exact hB h
    · exact hi u e h
theorem ixN_lt {n : Nat} {j : Int} {m : Nat} (h : ixN n j = some m) : m < n := (ixN_seq h).2.1
theorem list_set {ds : List D} {w : V} {fe fa : List Addr} {n : Nat} {z : D} {zv : V} (r : R K No H (.lst ds) w fe) (rz : R K No H z zv fa) (nd : (fa ++ fe).Nodup) (hn : n < ds.length) :
    ∃ p vs fe', w = .ref p ∧ H p = some (.lst vs) ∧ vs.length = ds.length ∧ p ∈ fe ∧ R K No (upd H p (.lst (vs.set n zv))) (.lst (ds.set n z)) w fe' ∧ fe'.Nodup ∧ (∀ a ∈ fe', a ∈ fe ∨ a ∈ fa) := by
  obtain ⟨p, vs, fps, rfl, rfl, hp, rs⟩ := r
  have hd : ds[n]? = some ds[n] := List.getElem?_eq_getElem hn
  obtain ⟨w0, h1, ho, h3, hw, e3, r1, r2, r3⟩ := Rs.split rs hd
  subst e3
  obtain ⟨n1, n2, n3⟩ := List.nodup_append.mp nd
  obtain ⟨m1, m2⟩ := List.nodup_cons.mp n2
  have nf : p ∉ fa := fun q => n3 p q p (by simp) rfl
  have mu : ∀ u, H p = some u → ¬ Imm u := fun u e => by rw [hp] at e; cases e; exact fun z => z
  have np : p ∉ h1 ∧ p ∉ ho ∧ p ∉ h3 := by
    simp only [List.mem_append, not_or] at m1
    exact m1
  refine ⟨p, vs, p :: (h1 ++ (fa ++ h3)), rfl, hp, rs.len, by simp, ⟨p, vs.set n zv, _, rfl, rfl, upd_same, Rs.put hd hw (Rs.keep _ _ _ (KeepF.upd np.1 (fun z => z) mu) r1) (R.keep _ _ _ (KeepF.upd nf (fun z => z) mu) rz) (Rs.keep _ _ _ (KeepF.upd np.2.2 (fun z => z) mu) r3)⟩, ?_, fun a h => ?_⟩
  · obtain ⟨k1, k2, k3⟩ := List.nodup_append.mp m2
    obtain ⟨l1, l2, l3⟩ := List.nodup_append.mp k2
    refine List.nodup_cons.mpr ⟨by simp [np.1, nf, np.2.2], List.nodup_append.mpr ⟨k1, List.nodup_append.mpr ⟨n1, l2, fun a ha b hb => n3 a ha b (by simp [hb])⟩, fun a ha b hb e => ?_⟩⟩
    subst e
    rcases List.mem_append.mp hb with hb | hb
    · exact n3 a hb a (by simp [ha]) rfl
    · exact k3 a ha a (by simp [hb]) rfl
  · simp only [List.mem_cons, List.mem_append] at h ⊢
    rcases h with h | h | h | h <;> simp [h]
theorem shal_set {ds : List D} {p : Addr} {vs : List V} {n : Nat} {z : D} {zv : V} (h : Shal K H (.lst ds) (.ref p)) (hp : H p = some (.lst vs)) (rz : RA K No H z zv) : Shal K (upd H p (.lst (vs.set n zv))) (.lst (ds.set n z)) (.ref p) := by
  obtain ⟨p', vs', e, hp', r⟩ := h
  cases e
  rw [hp] at hp'; cases hp'
  refine ⟨p, _, rfl, upd_same, RAs.keep (fun a u e h => ?_) _ _ (r.set rz)⟩
  rw [upd_ne]
  · exact e
  · intro z
    subst z
    rcases h with h | h
    · exact h
    · rw [hp] at e; cases e; exact h
end
section
variable {X : Cx} {E : XK} {pr : List Nat} {pos : Pos}
theorem ds_stIx {o ix e : Expr} {p2 : Pos} {fe : EF} {pl : PLF} {fi : PF} (he : DE X E e fe) (ho : DPl X o pl) (hi : DP X ix fi) (hs : swapsWithSole [.Subscript o ix p2] e pos.line X.env = pure false := by rfl) (hw : swappedStores [.Subscript o ix p2] e X.env = pure none := by rfl)
    (h1 : (assignEach [.Subscript o ix p2] X.env).map (·.2) = [assign (.Subscript o ix p2) X.env] := by rfl) (hg : ∀ v, assign (.Subscript o ix p2) X.env v = (do
      let ov ← holding [v] (eval o X.env)
      let iv ← holding [v, ov] (eval ix X.env)
      standAt p2
      holding [v, ov, iv] (setItem ov iv v)
      release [v, ov, iv] []) := by intro _; rfl) : DS X E pr (.Assign [.Subscript o ix p2] e pos) (sStIx fe pl fi) := by
  obtain ⟨te, ee, se⟩ := he.run
  obtain ⟨to, eo, so⟩ := ho.run
  obtain ⟨ti, ei, si⟩ := hi.run
  refine ⟨_, ps_asg ee (pg_sub eo ei set_list hg) hs hw h1, fun σ H A ρ ow T D gd h nx rt ex => ?_⟩
  refine se σ H A ρ ow _ _ _ gd h (fun z ρ1 v H1 fp ow1 A1 h1 st1 g1 o1 => ?_) fun C ρ1 H1 ow1 A1 h1 st1 g1 => ex C ρ1 σ H1 ow1 A1 h1 st1 g1 fun _ _ => rfl
  refine so σ H1 A1 ρ1 ow1 _ _ g1 h1 fun i k e rb w H2 h2 s2 p2 => ?_
  refine si σ H2 A1 ρ1 ow1 _ _ (g1.same s2) h2 fun y yv H3 h3 s3 p3 => ?_
  have s := s2.trans s3
  obtain ⟨hk, h3⟩ := h3
  split at h3
  · rename_i ds j q1
    obtain ⟨ky, dy⟩ := y
    dsimp only at q1
    subst q1
    obtain rfl : yv = .int j := p3.ra
    split at h3
    · rename_i n hn
      have o3 : VR X.K A1 H3 z v fp := o1.rep.same s
      obtain ⟨fe0, r, nd, _, hsh, mtt⟩ := (p2.same s3).mut (g1.same s) o1.nd o1.dis
      obtain ⟨p, vs, fe', ew, hp, hl, hpf, r', nd', sub⟩ := list_set r (o3.rown hk) nd (ixN_lt hn)
      subst ew
      have hk' : nk k z.1 = .ow ∨ (nk k z.1 = .sh ∧ k = .sh ∧ Shal X.K (upd H3 p (.lst (vs.set n v))) (.lst (ds.set n z.2)) (.ref p)) := by
        obtain ⟨kz, dz⟩ := z
        cases k <;> cases kz <;> first
          | exact .inl rfl
          | exact .inr ⟨rfl, rfl, shal_set (hsh rfl) hp o3.2⟩
      obtain ⟨ow', st', g', _⟩ := mtt (.lst (ds.set n z.2)) (nk k z.1) [] (.fl, .non) .non _ fe' (fun a o e n => by rw [upd_ne (fun z => n (by rw [z]; exact hpf))]; exact e) r' hk' ⟨rfl, rfl⟩ nd' fun a h => (sub a (by simpa using h)).elim .inl fun z => .inr (.inl z)
      refine ⟨p, vs, j, n, rfl, rfl, hp, by rw [hl]; exact hn, ?_⟩
      refine nx _ σ _ ow' A1 h3 ?_ g' fun _ _ => rfl
      have stA : Stp H ow A H3 (fp ++ ow1) A1 := (st1.trans (Stp.of_same s))
      exact stA.trans (st'.sub fun a h => by simp [h])
    · exact h3.elim
  · exact h3.elim
end

abbrev MOF := Kd → D → List KD → (KD → Kd → D → Prop) → Prop
def MSound (K : Frg) (r : V → List V → Hp → VK → Prop) (op : MOF) : Prop := ∀ (H : Hp) (A : Addr → Prop) (w : V) (vs : List V) (zs : List KD) (k : Kd) (e : D) (fe fa : List Addr) (P : KD → Kd → D → Prop) (Q : VK), R K No H e w fe → (k = .sh → Shal K H e w) → VRs K A H zs vs fa → (fa ++ fe).Nodup → op k e zs P →
  (∀ z k' e' v H' fz fe', P z k' e' → ownK z.1 = true → (∀ a o, H a = some o → a ∉ fe → H' a = some o) → R K No H' e' w fe' → (k' = .ow ∨ (k' = .sh ∧ k = .sh ∧ Shal K H' e' w)) → VR K A H' z v fz → (fz ++ fe').Nodup → (∀ a ∈ fz ++ fe', a ∈ fe ∨ a ∈ fa ∨ H a = none) → Q v H') → r w vs H Q
def mAppend : MOF := fun k e zs P => match e, zs with
  | .lst ds, [z] => ownK z.1 = true ∧ ds.length < 10000000 ∧ P (.fl, .non) (nk k z.1) (.lst (ds ++ [z.2]))
  | _, _ => False
def mPop : MOF := fun k e zs P => match e, zs with
  | .lst ds, [] => (match ds.getLast? with
    | some d => P (kmv (if k = .sh then .fl else .ow) d) (nk k .fl) (.lst ds.dropLast)
    | none => False)
  | _, _ => False
def mPopAt : MOF := fun k e zs P => match e, zs with
  | .lst ds, [(_, .int j)] => (match ixN ds.length j with
    | some n => (match ds[n]? with
      | some d => P (kmv (if k = .sh then .fl else .ow) d) (nk k .fl) (.lst (ds.eraseIdx n))
      | none => False)
    | none => False)
  | _, _ => False
def mExtend : MOF := fun k e zs P => match e, zs with
  | .lst ds, [(kz, .lst es)] => (kz = .sh ∨ kz = .sa ∨ kz = .ow) ∧ ds.length + es.length ≤ 10000000 ∧ P (.fl, .non) (nk k (if kz = .ow then .ow else .fl)) (.lst (ds ++ es))
  | _, _ => False
end DL

namespace DL
open PySem PySem.Spec PyProof.Rows L2
section
variable {K : Frg} {A : Addr → Prop} {H : Hp}
theorem lst_mu {p : Addr} {vs : List V} (hp : H p = some (.lst vs)) : ∀ u, H p = some u → ¬ Imm u := fun u e => by rw [hp] at e; cases e; exact fun z => z
theorem upd_out {p : Addr} {o : HO} {fe : List Addr} (hp : p ∈ fe) : ∀ a u, H a = some u → a ∉ fe → (upd H p o) a = some u := fun a u e n => by
  rw [upd_ne (fun z => n (by rw [z]; exact hp))]
  exact e
theorem keep_upd {p : Addr} {vs : List V} {o : HO} (hp : H p = some (.lst vs)) : Keep No H (upd H p o) := fun a u e h => by
  rw [upd_ne]
  · exact e
  · intro z
    subst z
    rcases h with h | h
    · exact h
    · rw [hp] at e; cases e; exact h
theorem shal_upd {p : Addr} {vs ws : List V} {ds : List D} (hp : H p = some (.lst vs)) (r : RAs K No H ds ws) : Shal K (upd H p (.lst ws)) (.lst ds) (.ref p) := ⟨p, ws, rfl, upd_same, RAs.keep (keep_upd hp) _ _ r⟩
theorem shal_at {p : Addr} {vs : List V} {ds : List D} (h : Shal K H (.lst ds) (.ref p)) (hp : H p = some (.lst vs)) : RAs K No H ds vs := by
  obtain ⟨p', vs', e, hp', r⟩ := h
  cases e
  rw [hp] at hp'; cases hp'
  exact r
theorem nk_cases (k z : Kd) : nk k z = .ow ∨ (nk k z = .sh ∧ k = .sh ∧ z = .fl) := by cases k <;> cases z <;> first | exact .inl rfl | exact .inr ⟨rfl, rfl, rfl⟩
theorem kmv_own (k : Kd) (d : D) : ownK (kmv (if k = .sh then .fl else .ow) d).1 = true := by
  by_cases h : k = .sh
  · rw [if_pos h]; cases d <;> rfl
  · rw [if_neg h]; cases d <;> rfl
theorem ms_append : MSound K rAppend mAppend := by
  intro H A w vs zs k e fe fa P Q r hsh rz nd h q
  unfold mAppend at h
  split at h
  · rename_i ds z
    obtain ⟨hk, hl, hP⟩ := h
    obtain ⟨p, xs, fps, rfl, rfl, hp, rs⟩ := r
    obtain ⟨y, ws, f1, f2, rfl, rfl, hz, e3, e4⟩ := rz
    subst e3 e4
    rw [List.append_nil] at nd
    obtain ⟨n1, n2, n3⟩ := List.nodup_append.mp nd
    obtain ⟨m1, m2⟩ := List.nodup_cons.mp n2
    have nf : p ∉ f1 := fun z => n3 p z p (by simp) rfl
    refine ⟨p, xs, y, rfl, rfl, hp, by rw [rs.len, sizeLine_eq]; omega, ?_⟩
    refine q _ _ _ .non _ [] (p :: (fps ++ f1)) hP rfl (upd_out (by simp)) ⟨p, _, _, rfl, rfl, upd_same, (Rs.keep _ _ _ (KeepF.upd m1 (fun z => z) (lst_mu hp)) rs).append (.one (R.keep _ _ _ (KeepF.upd nf (fun z => z) (lst_mu hp)) (hz.rown hk)))⟩ ?_ ⟨rfl, rfl⟩ ?_ fun a h => ?_
    · rcases nk_cases k z.1 with e | ⟨e1, e2, e3⟩
      · exact .inl e
      · obtain ⟨kz, dz⟩ := z
        dsimp only at e3
        subst e3
        exact .inr ⟨e1, e2, shal_upd hp ((shal_at (hsh e2) hp).append (.one hz.2))⟩
    · refine List.nodup_cons.mpr ⟨by simp [m1, nf], List.nodup_append.mpr ⟨m2, n1, fun a ha b hb e => n3 b hb a (by simp [ha]) e.symm⟩⟩
    · simp only [List.nil_append, List.append_nil, List.mem_cons, List.mem_append] at h ⊢
      rcases h with h | h | h <;> simp [h]
  · exact h.elim
theorem take_out {ds : List D} {p : Addr} {xs : List V} {fps : List Addr} {k : Kd} {n : Nat} {d : D} (hp : H p = some (.lst xs)) (rs : Rs K No H ds xs fps) (nd : (p :: fps).Nodup) (hsh : k = .sh → Shal K H (.lst ds) (.ref p)) (hk : k = .sh ∨ k = .ow) (hd : ds[n]? = some d) :
    ∃ y fz fps', xs[n]? = some y ∧ VR K A (upd H p (.lst (xs.eraseIdx n))) (kmv (if k = .sh then .fl else .ow) d) y fz ∧ R K No (upd H p (.lst (xs.eraseIdx n))) (.lst (ds.eraseIdx n)) (.ref p) (p :: fps') ∧
      (nk k .fl = .ow ∨ (nk k .fl = .sh ∧ k = .sh ∧ Shal K (upd H p (.lst (xs.eraseIdx n))) (.lst (ds.eraseIdx n)) (.ref p))) ∧ (fz ++ (p :: fps')).Nodup ∧ ∀ a ∈ fz ++ (p :: fps'), a ∈ p :: fps := by
  obtain ⟨y, f1, f2, f3, hy, e, r1, r2, r3⟩ := Rs.split rs hd
  subst e
  obtain ⟨m1, m2⟩ := List.nodup_cons.mp nd
  simp only [List.mem_append, not_or] at m1
  have kp : ∀ {f : List Addr}, p ∉ f → KeepF No f H (upd H p (.lst (xs.eraseIdx n))) := fun h => KeepF.upd h (fun z => z) (lst_mu hp)
  obtain ⟨k1, k2, k3⟩ := List.nodup_append.mp m2
  obtain ⟨l1, l2, l3⟩ := List.nodup_append.mp k2
  refine ⟨y, f2, f1 ++ f3, hy, ?_, ⟨p, _, _, rfl, rfl, upd_same, ?_⟩, ?_, ?_, fun a h => ?_⟩
  · rcases hk with rfl | rfl
    · obtain ⟨y', hy', ry⟩ := (shal_at (hsh rfl) hp).get hd
      rw [hy] at hy'; cases hy'
      have e2 : f2 = [] := R.nil0 _ _ _ ry r2
      subst e2
      exact (RA.keep (keep_upd hp) _ _ ry).kmv0
    · exact (R.keep _ _ _ (kp m1.2.1) r2).kmv
  · rw [List.eraseIdx_eq_take_drop_succ, List.eraseIdx_eq_take_drop_succ]
    have q1 := Rs.keep _ _ _ (kp m1.1) r1
    have q3 := Rs.keep _ _ _ (kp m1.2.2) r3
    rw [List.eraseIdx_eq_take_drop_succ] at q1 q3
    exact q1.append q3
  · rcases nk_cases k .fl with e | ⟨e1, e2, e3⟩
    · exact .inl e
    · exact .inr ⟨e1, e2, shal_upd hp ((shal_at (hsh e2) hp).eraseIdx n)⟩
  · refine List.nodup_append.mpr ⟨l1, List.nodup_cons.mpr ⟨by simp [m1.1, m1.2.2], List.nodup_append.mpr ⟨k1, l2, fun a ha b hb => k3 a ha b (by simp [hb])⟩⟩, fun a ha b hb e => ?_⟩
    subst e
    rcases List.mem_cons.mp hb with hb | hb
    · rw [hb] at ha; exact m1.2.1 ha
    · rcases List.mem_append.mp hb with hb | hb
      · exact k3 a hb a (by simp [ha]) rfl
      · exact l3 a ha a hb rfl
  · simp only [List.mem_append, List.mem_cons] at h ⊢
    rcases h with h | h | h | h <;> simp [h]
theorem ms_popAt : MSound K rPopAt (fun k e zs P => (k = .sh ∨ k = .ow) ∧ (match e with | .lst ds => ds.length ≤ 10000000 | _ => False) ∧ mPopAt k e zs P) := by
  intro H A w vs zs k e fe fa P Q r hsh rz nd h q
  obtain ⟨hk, hl, h⟩ := h
  unfold mPopAt at h
  split at h
  · rename_i ds _ j
    split at h
    · rename_i n hn
      split at h
      · rename_i d hd
        obtain ⟨p, xs, fps, rfl, rfl, hp, rs⟩ := r
        obtain ⟨y, ws, f1, f2, rfl, rfl, hz, e3, e4⟩ := rz
        subst e3 e4
        have hy : y = .int j := hz.ra (B := fun _ => True) (fun _ _ => trivial) (fun _ _ => trivial)
        subst hy
        obtain ⟨n1, n2, n3⟩ := List.nodup_append.mp nd
        obtain ⟨y, fz, fps', hy, v1, r1, s1, nd1, sub⟩ := take_out (A := A) hp rs n2 hsh hk hd
        obtain ⟨q1, q2, q3, q4⟩ := ixN_seq hn
        have hl' : ds.length ≤ 10000000 := hl
        refine ⟨p, xs, j, n, y, rfl, rfl, hp, by omega, by omega, by rw [rs.len]; exact q1, hy, ?_⟩
        exact q _ _ _ y _ fz _ h (kmv_own k d) (upd_out (by simp)) r1 s1 v1 nd1 fun a h => .inl (sub a h)
      · exact h.elim
    · exact h.elim
  · exact h.elim
theorem ms_extend : MSound K rExtend mExtend := by
  intro H A w vs zs k e fe fa P Q r hsh rz nd h q
  unfold mExtend at h
  split at h
  · rename_i ds kz es
    obtain ⟨hk, hl, hP⟩ := h
    obtain ⟨p, xs, fps, rfl, rfl, hp, rs⟩ := r
    obtain ⟨y, ws, f1, f2, rfl, rfl, hz, e3, e4⟩ := rz
    subst e3 e4
    rw [List.append_nil] at nd
    obtain ⟨n1, n2, n3⟩ := List.nodup_append.mp nd
    obtain ⟨m1, m2⟩ := List.nodup_cons.mp n2
    have nf : p ∉ f1 := fun z => n3 p z p (by simp) rfl
    -- the other list
    have other : ∃ b us fbs, y = .ref b ∧ H b = some (.lst us) ∧ Rs K No H es us fbs ∧ (∀ a ∈ fbs, a ∈ f1) ∧ fbs.Nodup ∧ (kz ≠ .ow → RAs K No H es us) := by
      rcases hk with rfl | rfl | rfl
      · obtain ⟨b, us, e, hb, ru⟩ := hz.2
        exact ⟨b, us, [], e, hb, Rs.of0 _ _ ru, fun a h => (nomatch h), List.nodup_nil, fun _ => ru⟩
      · obtain ⟨b, us, e, hb, ru⟩ := hz.2.2
        exact ⟨b, us, [], e, hb, Rs.of0 _ _ ru, fun a h => (nomatch h), List.nodup_nil, fun _ => ru⟩
      · obtain ⟨b, us, fbs, e, e2, hb, ru⟩ := (hz : R K No H (.lst es) y f1)
        subst e2
        exact ⟨b, us, fbs, e, hb, ru, fun a h => by simp [h], (List.nodup_cons.mp n1).2, fun z => absurd rfl z⟩
    obtain ⟨b, us, fbs, rfl, hb, ru, sub, ndb, fl⟩ := other
    have nfb : p ∉ fbs := fun z => nf (sub p z)
    refine ⟨p, b, xs, us, rfl, rfl, hp, hb, by rw [rs.len, ru.len]; exact sz7 hl, ?_⟩
    refine q _ _ _ .non _ [] (p :: (fps ++ fbs)) hP rfl (upd_out (by simp)) ⟨p, _, _, rfl, rfl, upd_same, (Rs.keep _ _ _ (KeepF.upd m1 (fun z => z) (lst_mu hp)) rs).append (Rs.keep _ _ _ (KeepF.upd nfb (fun z => z) (lst_mu hp)) ru)⟩ ?_ ⟨rfl, rfl⟩ ?_ fun a h => ?_
    · rcases nk_cases k (if kz = .ow then .ow else .fl) with e | ⟨e1, e2, e3⟩
      · exact .inl e
      · have hne : kz ≠ .ow := fun z => by rw [if_pos z] at e3; cases e3
        exact .inr ⟨e1, e2, shal_upd hp ((shal_at (hsh e2) hp).append (fl hne))⟩
    · refine List.nodup_cons.mpr ⟨by simp [m1, nfb], List.nodup_append.mpr ⟨m2, ndb, fun a ha b hb e => n3 b (sub b hb) a (by simp [ha]) e.symm⟩⟩
    · simp only [List.nil_append, List.append_nil, List.mem_cons, List.mem_append] at h ⊢
      rcases h with h | h | h
      · simp [h]
      · simp [h]
      · exact .inr (.inl (sub a h))
  · exact h.elim
def mRemove : MOF := fun k e zs P => match e, zs with
  | .lst ds, [(_, .int x)] => ∃ (ns : List Int) (j : Nat), ds = ns.map .int ∧ ns[j]? = some x ∧ (∀ m : Nat, m < j → ns[m]? ≠ some x) ∧ P (.fl, .non) (nk k .fl) (.lst ((ns.eraseIdx j).map .int))
  | _, _ => False
theorem RAs.ints : ∀ {ns : List Int} {vs : List V}, RAs K A H (ns.map .int) vs → vs = ns.map V.int
  | [], _, h => h
  | n :: ns, _, ⟨w, ws, e, h, t⟩ => by
    subst e
    rw [show w = V.int n from h, RAs.ints t]
    rfl
theorem Rs.ints : ∀ {ns : List Int} {vs : List V} {f : List Addr}, Rs K A H (ns.map .int) vs f → vs = ns.map V.int ∧ f = []
  | [], _, _, h => h
  | n :: ns, _, _, ⟨w, ws, f1, f2, e, e2, h, t⟩ => by
    obtain ⟨a, b⟩ := Rs.ints t
    subst e e2 a b
    rw [h.1, show w = V.int n from h.2]
    exact ⟨rfl, rfl⟩
theorem RAs.of_ints : ∀ (ns : List Int), RAs K A H (ns.map .int) (ns.map V.int)
  | [] => .nil
  | n :: ns => .cons rfl (RAs.of_ints ns)
end
def isL : D → Bool
  | .lst _ => true
  | _ => false
def eMthR (op : MOF) (i : Nat) (g : AEF) : EF := fun ρ P PX => (match ρ[i]? with | some (some (_, .lst _)) => True | _ => False) ∧ g ρ (fun avs ρ1 => match valsOf avs with
  | some zs => (match ρ1[i]? with
    | some (some (.sh, d)) => op .sh d zs fun z k' e' => P z (ρ1.set i (some (k', e')))
    | some (some (.ow, d)) => op .ow d zs fun z k' e' => P z (ρ1.set i (some (k', e')))
    | _ => False)
  | none => False) PX
def eMthP (op : MOF) (pl : PLF) (g : PAF) : EF := fun ρ P _ => pl ρ fun i k e rb => isL e = true ∧ g ρ fun zs => op k e zs fun z k' e' => P z (ρ.set i (some (k', rb e')))
section
variable {X : Cx} {E : XK} {o e : Expr} {es : List Expr} {n : Nat} {name : Str} {apos cpos : Pos} {id : String} {r : V → List V → Hp → VK → Prop} {op : MOF}
theorem tyL {K : Frg} {H : Hp} {d : D} {v : V} {f : List Addr} (h : R K No H d v f) (e : isL d = true) : tyV K "list" v H := by
  cases d <;> first
    | (cases e; done)
    | (obtain ⟨p, vs, _, e1, _, hp, _⟩ := h; rw [e1]; exact .inl ⟨rfl, _, .of hp⟩)
theorem VR.own_any {K : Frg} {A B : Addr → Prop} {H : Hp} {z : KD} {v : V} {f : List Addr} (h : VR K A H z v f) (e : ownK z.1 = true) : VR K B H z v f := by
  obtain ⟨k, d⟩ := z
  cases k <;> first
    | exact h
    | cases e
theorem mth_fin {K : Frg} {A A0 B : Addr → Prop} {H H0 : Hp} {ρ : Ro} {σ : L2.St} {ow ow0 fp : List Addr} {i : Nat} {k : Kd} {d : D} {rb : D → D} {w : V} {vs : List V} {zs : List KD} {P : KD → Ro → Prop} {Q : VK} (hm : MSound K r op) (st : Stp H0 ow0 A0 H (fp ++ ow) A) (g : Good K A H ρ σ ow) (pl : PlAt K A H ρ σ ow i k d rb w)
    (rz : VRs K B H zs vs fp) (nd : (fp ++ ow).Nodup) (dis : ∀ a ∈ fp, ¬ A a) (h : op k d zs fun z k' e' => P z (ρ.set i (some (k', rb e'))))
    (q : ∀ z ρ' v H' fp ow' A', P z ρ' → Stp H0 ow0 A0 H' (fp ++ ow') A' → Good K A' H' ρ' σ ow' → Own K A' H' z v fp ow' → Q v H') : r w vs H Q := by
  obtain ⟨fe, re, nde, _, hsh, mtt⟩ := pl.mut g nd dis
  refine hm H B w vs zs k d fe fp _ Q re hsh rz nde h fun z k' e' v H' fz fe' hP ho hk r' hk' vz ndz sub => ?_
  obtain ⟨ow', st', g', o'⟩ := mtt e' k' fz z v H' fe' hk r' hk' (vz.own_any ho) ndz sub
  exact q z _ v H' fz ow' A hP (st.trans st') g' o'
variable {g : AEF}
theorem es_mthR {K : Frg} {i : Nat} {t : TA} (hm : MSound K r op) (s : AESound K E n t g) : ESound K E (tBM K "list" r (tVar i) t) (eMthR op i g) := by
  intro σ H A ρ ow Q P PX gd h q qx
  obtain ⟨h0, h⟩ := h
  split at h0
  · rename_i k ds e0
    obtain ⟨v, f, hv, rv, _, sub⟩ := gd.slot e0
    refine ⟨v, hv, ?_, ?_⟩
    · have ra : RA K (fun _ => True) H (.lst ds) v := rv.ra (fun _ _ => trivial) (fun _ _ => trivial)
      obtain ⟨p, vs, ev, _, hp, _⟩ := ra
      rw [ev]
      exact .inl ⟨rfl, _, .of hp⟩
    · refine s σ H A ρ ow _ _ _ gd h (fun avs ρ1 vs H1 fp ow1 A1 hn h1 st1 g1 rr nd dis => ?_) qx
      split at h1
      · rename_i zs ez
        split at h1
        · rename_i d e1
          obtain ⟨v', hv', pl⟩ := PlAt.root (d := d) g1 e1 (.inl rfl)
          rw [hv] at hv'
          cases hv'
          exact mth_fin hm st1 g1 pl (rr.vals ez) nd dis h1 q
        · rename_i d e1
          obtain ⟨v', hv', pl⟩ := PlAt.root (d := d) g1 e1 (.inr rfl)
          rw [hv] at hv'
          cases hv'
          exact mth_fin hm st1 g1 pl (rr.vals ez) nd dis h1 q
        · exact h1.elim
      · exact h1.elim
  · exact h0.elim
theorem es_mthP {K : Frg} {to : TE} {t : TA} {pl : PLF} {gp : PAF} (hm : MSound K r op) (so : PLSound K to pl) (s : ASound K n t gp) : ESound K E (tBM K "list" r to t) (eMthP op pl gp) := by
  intro σ H A ρ ow Q P PX gd h q qx
  refine so σ H A ρ ow _ _ gd h fun i k e rb w H1 h1 s1 p1 => ?_
  obtain ⟨hl, h1⟩ := h1
  refine ⟨?_, ?_⟩
  · obtain ⟨d, v0, g1, fs, g2, fe, _, _, ⟨_, _, _, re, _⟩, _⟩ := p1
    exact tyL re hl
  · refine s σ H1 A ρ ow _ _ (gd.same s1) h1 fun zs vs H2 hn h2 s2 pr => ?_
    obtain ⟨fp, rz, nd, hF⟩ := pr
    have s12 := s1.trans s2
    refine mth_fin hm (ow0 := ow) (A0 := A) (H0 := H) ⟨fun a o e _ => s12 a o e, fun a h => ?_, fun _ h => h, fun _ h => .inl h⟩ (gd.same s12) (p1.same s2) rz (List.nodup_append.mpr ⟨nd, gd.nd, fun a ha b hb e => ?_⟩) (fun a h z => ?_) h2 q
    · rcases List.mem_append.mp h with h | h
      · exact .inr (s1.free (hF a h))
      · exact .inl h
    · subst e
      obtain ⟨o, e, _⟩ := gd.rep.mu a hb
      rw [s1.free (hF a ha)] at e; cases e
    · obtain ⟨o, e⟩ := gd.tr a z
      rw [s1.free (hF a h)] at e; cases e
section
variable {g : AEF} {gp : PAF} {pl : PLF}
theorem de_mthR (pa : PlainAttrs "list") (slot : PySem.Slot "list" name id) (hty : typeOf (.builtin id) = pure (.type "method_descriptor")) (hm : MtM X id r) (hs : MSound X.K r op) (i : Nat) {x : Str} {px : Pos} (ha : DAE X E (e :: es) n g)
    (hN : X.N[i]? = some x := by rfl) (hv : Vis X.env.scope x := by first | exact Or.inl rfl | exact Or.inr (Or.inl rfl) | exact Or.inr (Or.inr rfl)) (hd : (x == ("__debug__" : Str)) = false := by decide) (hcd : (x == ("__classdict__" : Str)) = false := by decide)
    (hbase : attributeBase (.Name x px) name X.env (eval (.Name x px) X.env) = eval (.Name x px) X.env := by rfl)
    (hfew : ((backTo cpos (starEach (e :: es) X.env)).all (fun x => !x.1) && (backToKw cpos (keywordEach [] X.env)).all (fun x => x.1.isSome)
      && decide ((e :: es).length + ([] : List Keyword).length + (if ([] : List Keyword).isEmpty then 0 else 1) < 30)) = true := by rfl)
    (hline : (apos.endLine == cpos.line) = true := by rfl) (hst : starEach (e :: es) X.env = (false, eval e X.env) :: starEach es X.env := by rfl) (hplain : (backTo cpos (starEach es X.env)).any (·.1) = false := by rfl) :
    DE X E (.Call (.Attribute (.Name x px) name apos) (e :: es) [] cpos) (eMthR op i g) := by
  obtain ⟨t, ea, sa⟩ := ha.run
  exact ⟨_, pe_bm pa slot hty hm (pe_var hN hv hd hcd) ea hbase hfew hline hst hplain, es_mthR hs sa⟩
theorem de_mthP (pa : PlainAttrs "list") (slot : PySem.Slot "list" name id) (hty : typeOf (.builtin id) = pure (.type "method_descriptor")) (hm : MtM X id r) (hs : MSound X.K r op) (ho : DPl X o pl) (ha : DA X (e :: es) n gp)
    (hbase : attributeBase o name X.env (eval o X.env) = eval o X.env := by rfl)
    (hfew : ((backTo cpos (starEach (e :: es) X.env)).all (fun x => !x.1) && (backToKw cpos (keywordEach [] X.env)).all (fun x => x.1.isSome)
      && decide ((e :: es).length + ([] : List Keyword).length + (if ([] : List Keyword).isEmpty then 0 else 1) < 30)) = true := by rfl)
    (hline : (apos.endLine == cpos.line) = true := by rfl) (hst : starEach (e :: es) X.env = (false, eval e X.env) :: starEach es X.env := by rfl) (hplain : (backTo cpos (starEach es X.env)).any (·.1) = false := by rfl) :
    DE X E (.Call (.Attribute o name apos) (e :: es) [] cpos) (eMthP op pl gp) := by
  obtain ⟨t, ea, sa⟩ := ha.run
  obtain ⟨to, eo, so⟩ := ho.run
  exact ⟨_, pe_bm pa slot hty hm eo ea hbase hfew hline hst hplain, es_mthP hs so sa⟩
end
end
end DL

namespace DL
open PySem PySem.Spec PyProof.Rows L2
def tE (K : Frg) (f : EF) : TE := fun σ H Q => ∃ A ρ ow P, Good K A H ρ σ ow ∧ f ρ P (fun _ _ => False) ∧ ∀ z ρ' v H' fp ow' A', P z ρ' → Stp H ow A H' (fp ++ ow') A' → Good K A' H' ρ' σ ow' → Own K A' H' z v fp ow' → Q v H'
theorem DE.can {X : Cx} {E : XK} {e : Expr} {f : EF} (h : DE X E e f) : PE X e (tE X.K f) := by
  obtain ⟨t, pe, s⟩ := h.run
  refine ⟨fun pins st σ H Q I hq => ?_⟩
  obtain ⟨A, ρ, ow, P, g, hf, q⟩ := hq
  exact pe.run pins st σ H Q I (s σ H A ρ ow Q P _ g hf q fun _ _ _ _ _ h => h.elim)
def compE (step : KD → Ro → (Option KD → Ro → Prop) → Prop) : List KD → Ro → List KD → (List KD → Ro → Prop) → Prop
  | [], ρ, acc, P => P acc ρ
  | z :: zs, ρ, acc, P => step z ρ fun r ρ' => match r with
    | some y => compE step zs ρ' (acc ++ [y]) P
    | none => compE step zs ρ' acc P
def stepE (is : List Nat) (g : GF) (tt : PTF) (fe : EF) : KD → Ro → (Option KD → Ro → Prop) → Prop := fun z ρ Q => g z ρ fun ρ1 => tt ρ1 fun b => if b = true then fe ρ1 (fun y ρ2 => Q (some y) (wipeR ρ2 is)) (fun _ _ => False) else Q none (wipeR ρ1 is)
def eLc (src : IF) (is : List Nat) (g : GF) (tt : PTF) (fe : EF) : EF := fun ρ P _ => src (rdOnly ρ) fun zs => zs.length ≤ 10000000 ∧ compE (stepE is g tt fe) zs (wipeR ρ is) [] fun ys ρ' => P (jL ys, .lst (ys.map (·.2))) ρ'
section
variable {K : Frg} {A : Addr → Prop} {H : Hp} {σ τ : L2.St}
theorem RepS.congr : ∀ {ρ : Ro} {σ τ : L2.St} {ow : List Addr}, RepS K A H ρ τ ow → σ.length = τ.length → (∀ (i : Nat) kd, ρ[i]? = some (some kd) → σ[i]? = τ[i]?) → RepS K A H ρ σ ow
  | [], σ, τ, ow, h, hl, _ => by
    obtain ⟨e1, e2⟩ := h
    subst e1
    exact ⟨List.eq_nil_of_length_eq_zero hl, e2⟩
  | s :: ρ, [], τ, ow, ⟨x, τ', f, g, e, e2, h, r⟩, hl, hs => by subst e; cases hl
  | s :: ρ, y :: σ, τ, ow, ⟨x, τ', f, g, e, e2, h, r⟩, hl, hs => by
    subst e e2
    refine ⟨y, σ, f, g, rfl, rfl, ?_, RepS.congr r (by simpa using hl) fun i kd hi => by simpa using hs (i + 1) kd (by simpa using hi)⟩
    cases s with
    | none => exact h
    | some kd =>
      have : y = x := by simpa using hs 0 kd rfl
      rw [this]; exact h
theorem wipeR_get (ρ : Ro) (j : Nat) : ∀ vs : List Nat, (wipeR ρ vs)[j]? = if j ∈ vs ∧ j < ρ.length then some none else ρ[j]?
  | [] => by simp [wipeR]
  | v :: vs => by
    have hl : (wipeR ρ vs).length = ρ.length := by
      have : ∀ is : List Nat, (wipeR ρ is).length = ρ.length := by
        intro is
        induction is with
        | nil => rfl
        | cons a r ih => show ((wipeR ρ r).set a none).length = _; rw [List.length_set, ih]
      exact this vs
    show ((wipeR ρ vs).set v none)[j]? = _
    by_cases hv : v = j
    · subst hv
      by_cases hl' : v < ρ.length
      · rw [List.getElem?_set_self (by rw [hl]; exact hl'), if_pos ⟨List.mem_cons_self, hl'⟩]
      · rw [List.set_eq_of_length_le (by rw [hl]; omega), wipeR_get ρ v vs, if_neg (fun z => hl' z.2), if_neg (fun z => hl' z.2)]
    · rw [List.getElem?_set_ne hv, wipeR_get ρ j vs]
      have : j ∈ v :: vs ↔ j ∈ vs := by simp [Ne.symm hv]
      simp only [this]
theorem wipeR_len (ρ : Ro) : ∀ is : List Nat, (wipeR ρ is).length = ρ.length
  | [] => rfl
  | a :: r => by show ((wipeR ρ r).set a none).length = _; rw [List.length_set, wipeR_len ρ r]
theorem wipeR_idem (ρ : Ro) (vs : List Nat) : wipeR (wipeR ρ vs) vs = wipeR ρ vs := by
  apply List.ext_getElem?
  intro j
  rw [wipeR_get, wipeR_get, wipeR_len]
  by_cases hj : j ∈ vs ∧ j < ρ.length
  · rw [if_pos hj, if_pos hj]
  · rw [if_neg hj]
theorem Good.set0 {ρ : Ro} {ow : List Addr} {i : Nat} (g : Good K A H ρ σ ow) : ∃ ow', Good K A H (ρ.set i none) σ ow' ∧ ∀ a ∈ ow', a ∈ ow := by
  cases e : ρ[i]? with
  | none =>
    rw [List.set_eq_of_length_le (List.getElem?_eq_none_iff.mp e)]
    exact ⟨ow, g, fun _ h => h⟩
  | some s =>
    cases s with
    | none => rw [set_same e]; exact ⟨ow, g, fun _ h => h⟩
    | some kd =>
      obtain ⟨v, fp, ow', _, g', _, sub⟩ := g.move e
      exact ⟨ow', g', fun a h => sub a (by simp [h])⟩
theorem Good.wipeR {ρ : Ro} {ow : List Addr} (g : Good K A H ρ σ ow) : ∀ is : List Nat, ∃ ow', Good K A H (wipeR ρ is) σ ow' ∧ ∀ a ∈ ow', a ∈ ow
  | [] => ⟨ow, g, fun _ h => h⟩
  | i :: is => by
    obtain ⟨ow1, g1, s1⟩ := Good.wipeR g is
    obtain ⟨ow2, g2, s2⟩ := g1.set0 (i := i)
    exact ⟨ow2, g2, fun a h => s1 a (s2 a h)⟩
theorem Good.congr {ρ : Ro} {ow : List Addr} (g : Good K A H ρ τ ow) (hl : σ.length = τ.length) (hs : ∀ (i : Nat) kd, ρ[i]? = some (some kd) → σ[i]? = τ[i]?) : Good K A H ρ σ ow := ⟨g.rep.congr hl hs, g.nd, g.dis, g.tr⟩
theorem es_lc {E : XK} {wi : TI} {src : IF} {is : List Nat} {g : GF} {tt : PTF} {fe : EF} (hs : ISound K wi src) : ESound K E (tLc wi (tG K is g) (tT K tt) (tE K fe) is) (eLc src is g tt fe) := by
  intro σ H A ρ ow Q P PX gd h q _
  refine hs σ H A (rdOnly ρ) [] _ _ (fun a => a ∈ ow) gd.rdOnly (fun a z => ⟨fun h => ?_, gd.rep.mu a z⟩) h fun zs J H1 hz s1 wk => ?_
  · rcases h with h | h
    · exact gd.dis a z h
    · cases h
  obtain ⟨hlen, hc⟩ := hz
  obtain ⟨G, Y, walk, hG, hY⟩ := wk
  intro D hD
  have hD0 : H D = none := s1.free hD
  -- what was read for the source is frozen
  let A1 : Addr → Prop := fun a => A a ∨ Fre2 H H1 a
  have g1 : Good K A1 H1 ρ σ ow := gd.freeze s1
  have nA1 : ¬ A1 D := fun z => by
    rcases z with z | z
    · obtain ⟨o, e⟩ := gd.tr D z; rw [hD0] at e; cases e
    · obtain ⟨_, o, e⟩ := z; rw [hD] at e; cases e
  have nowD : D ∉ ow := fun z => by
    obtain ⟨o, e, _⟩ := gd.rep.mu D z; rw [hD0] at e; cases e
  obtain ⟨ow1, g1w, sub1⟩ := g1.wipeR is
  have g1w' : Good K A1 H1 (DL.wipeR ρ is) (wipe σ is) ow1 := g1w.congr (wipe_length σ is) fun i kd hi => by
    rw [wipeR_get] at hi
    rw [wipe_get]
    by_cases hj : i ∈ is ∧ i < ρ.length
    · rw [if_pos hj] at hi; cases hi
    · have : ¬ (i ∈ is ∧ i < σ.length) := fun z => hj ⟨z.1, by rw [← gd.rep.len]; exact z.2⟩
      rw [if_neg this]
  let P' : List KD → Ro → Prop := fun ys ρ' => P (jL ys, .lst (ys.map (·.2))) ρ'
  let step := stepE is g tt fe
  -- the new list is beside all that
  have updD : ∀ {Hx : Hp} {o : HO} {a : Addr} {u : HO}, a ≠ D → Hx a = some u → (upd Hx D o) a = some u := fun n e => by rw [upd_ne n]; exact e
  refine lc_it walk (fun i Hc => ∃ ρ' ow' A' acc accV fp, Good K A' Hc ρ' (wipe σ is) ow' ∧ Hc D = some (.lst accV) ∧ VRs K A' Hc acc accV fp ∧ (fp ++ ow').Nodup ∧ (∀ a ∈ fp, ¬ A' a) ∧ D ∉ fp ∧ D ∉ ow' ∧ ¬ A' D ∧
    Stp H1 ow A1 Hc (fp ++ ow') A' ∧ compE step (zs.drop i) ρ' acc P' ∧ acc.length ≤ i ∧ DL.wipeR ρ' is = ρ') ?_ ?_ ?_ ?_
  · refine ⟨_, ow1, A1, [], [], [], g1w'.same (same_upd hD), upd_same, ⟨rfl, rfl⟩, g1w'.nd, fun a h => (nomatch h), by simp, fun z => nowD (sub1 D z), nA1, ⟨fun a o e _ => same_upd hD a o e, fun a h => .inl (sub1 a (by simpa using h)), fun _ h => h, fun _ h => .inl h⟩, hc, Nat.le_refl _, wipeR_idem ρ is⟩
  · rintro i H2 _ ⟨ρ', ow', A', acc, accV, fp, g', _, _, _, _, _, _, _, st, _⟩
    exact hG H2 fun a o e n => st.same a o e n
  · rintro i x H2 H3 hi ⟨ρ', ow', A', acc, accV, fp, g', hDv, r, nd, dis, nf, no, nA, st, hcomp, hl, hw⟩ y
    have hzi : zs[i]? = some zs[i] := List.getElem?_eq_getElem hi
    obtain ⟨s3, vz⟩ := hY i H2 x H3 zs[i] hzi (fun a o e n => st.same a o e n) y
    rw [List.drop_eq_getElem_cons hi] at hcomp
    have hstep : step zs[i] ρ' fun r ρ2 => match r with
      | some y => compE step (zs.drop (i + 1)) ρ2 (acc ++ [y]) P'
      | none => compE step (zs.drop (i + 1)) ρ2 acc P' := hcomp
    have hD3 : H3 D = some (.lst accV) := s3 _ _ hDv
    have vb : VR K A' H3 zs[i] x [] := vz.mono fun a h => by
      rcases h with (h | h) | h
      · exact st.up a (.inl h)
      · cases h
      · exact st.up a (.inr h)
    have ndow := (List.nodup_append.mp nd).2.1
    refine ⟨zs[i], [], A', ρ', ow', _, g'.same s3, ⟨vb, by simpa using ndow, fun a h => (nomatch h)⟩, hstep, fun ρ1 σ1 owA h1 gA subA w1 => ⟨w1.trans (wipe_idem σ is), ?_⟩⟩
    have subA' : ∀ a ∈ owA, a ∈ ow' := fun a h => (subA a h).elim id fun z => nomatch z
    have hl1 : σ1.length = σ.length := by rw [← wipe_length σ1 is, w1, wipe_length, wipe_length]
    -- back from the block's slots
    have back : ∀ {ρ2 : Ro} {Hx : Hp} {Ax : Addr → Prop} {owx : List Addr}, Good K Ax Hx ρ2 σ1 owx → ∃ owy, Good K Ax Hx (DL.wipeR ρ2 is) (wipe σ is) owy ∧ ∀ a ∈ owy, a ∈ owx := fun {ρ2 Hx Ax owx} gx => by
      obtain ⟨owy, gy, suby⟩ := gx.wipeR is
      refine ⟨owy, gy.congr (by rw [wipe_length]; exact hl1.symm) fun j kd hj => ?_, suby⟩
      rw [wipeR_get] at hj
      have hn : ¬ (j ∈ is ∧ j < ρ2.length) := fun z => by rw [if_pos z] at hj; cases hj
      have e : (wipe σ1 is)[j]? = (wipe (wipe σ is) is)[j]? := by rw [w1]
      rw [wipe_idem, wipe_get, wipe_get] at e
      have l2 : ρ2.length = σ1.length := gx.rep.len.symm
      rw [wipe_get]
      rw [if_neg (fun z => hn ⟨z.1, by rw [l2]; exact z.2⟩)] at e
      exact e.symm
    refine ⟨A', ρ1, owA, _, gA, h1, fun b H4 h2 s4 => ?_⟩
    have st4 : Stp H1 ow A1 H4 (fp ++ ow') A' := (st.trans (Stp.of_same (s3.trans s4)))
    have r4 := (r.same s3).same s4
    have hD4 : H4 D = some (.lst accV) := s4 _ _ hD3
    cases b with
    | false =>
      rw [if_neg Bool.false_ne_true] at h2
      refine iteF ?_
      obtain ⟨owy, gy, suby⟩ := back (gA.same s4)
      have sb : ∀ a ∈ owy, a ∈ ow' := fun a h => subA' a (suby a h)
      exact ⟨_, owy, A', acc, accV, fp, gy, hD4, r4, List.nodup_append.mpr ⟨(List.nodup_append.mp nd).1, gy.nd, fun a ha b hb => (List.nodup_append.mp nd).2.2 a ha b (sb b hb)⟩, dis, nf, fun z => no (sb D z), nA, st4.sub fun a h => by rcases List.mem_append.mp h with h | h <;> simp [h, sb], h2, by omega, wipeR_idem _ is⟩
    | true =>
      rw [if_pos rfl] at h2
      refine iteT ?_
      refine ⟨A', ρ1, owA, _, gA.same s4, h2, fun z ρ2 v H5 f5 ow5 A5 h3 st5 g5 o5 => ?_⟩
      have nowA : D ∉ owA := fun z => no (subA' D z)
      have hD5 : H5 D = some (.lst accV) := st5.same _ _ hD4 nowA
      obtain ⟨owy, gy, suby⟩ := back g5
      obtain ⟨d1, d2, d3⟩ := List.nodup_append.mp nd
      -- the items made so far stay
      have trk : ∀ a ∈ fp, ∃ o, H4 a = some o := fun a h => let ⟨o, e, _⟩ := r4.mu a h; ⟨o, e⟩
      have nfA : ∀ a ∈ fp, a ∉ owA := fun a h z => d3 a h a (subA' a z) rfl
      have r5 : VRs K A5 H5 acc accV fp := (VRs.keepF (fun a o e h => by
        rcases h with h | h
        · exact st5.same a o e (nfA a h)
        · exact (gA.same s4).keepA st5 a o e h) r4).mono st5.up
      have nfp5 : ∀ a ∈ fp, a ∉ f5 ++ ow5 := fun a h z => by
        rcases st5.own a z with y | y
        · exact nfA a h y
        · obtain ⟨o, e⟩ := trk a h; rw [y] at e; cases e
      have nA5 : ∀ a, (∃ o, H4 a = some o) → a ∉ owA → ¬ A' a → ¬ A5 a := fun a t n1 n2 z => by
        rcases st5.fr a z with y | y | y
        · exact n2 y
        · exact n1 y
        · obtain ⟨o, e⟩ := t; rw [y] at e; cases e
      have nD5 : D ∉ f5 ++ ow5 := fun z => by
        rcases st5.own D z with y | y
        · exact nowA y
        · rw [hD4] at y; cases y
      have nAD5 : ¬ A5 D := nA5 D ⟨_, hD4⟩ nowA nA
      have all := r5.append (VRs.one o5.rep)
      have stAll : Stp H1 ow A1 H5 ((fp ++ f5) ++ ow5) A5 := by
        have stA : Stp H1 ow A1 H4 owA A' := st4.sub fun a h => by simp [subA' a h]
        have stT := stA.trans st5
        refine ⟨stT.same, fun a h => ?_, stT.up, stT.fr⟩
        rw [List.append_assoc] at h
        rcases List.mem_append.mp h with h | h
        · exact st4.own a (by simp [h])
        · exact stT.own a h
      have hkeep : ∀ a u, H5 a = some u → a ≠ D → (upd H5 D (.lst (accV ++ [v]))) a = some u := fun a u e n => updD n e
      refine ⟨accV, hD5, ?_, _, owy, A5, acc ++ [z], accV ++ [v], fp ++ f5, ?_, upd_same, ?_, ?_, fun a h => ?_, ?_, fun z => nD5 (by simp [suby D z]), nAD5, ?_, h3, ?_, wipeR_idem _ is⟩
      · rw [r.len, sizeLine_eq]
        have := hi
        omega
      · exact ⟨gy.rep.keep fun a u e h => hkeep a u e fun z => by
          subst z
          rcases h with h | h | h
          · exact nD5 (by simp [suby _ h])
          · exact nAD5 h
          · rw [hD5] at e; cases e; exact h, gy.nd, gy.dis, fun a h => by
          obtain ⟨o, e⟩ := gy.tr a h
          exact ⟨o, hkeep a o e fun z => nAD5 (by rw [← z]; exact h)⟩⟩
      · exact VRs.keepF (fun a u e h => hkeep a u e fun z => by
          subst z
          rcases h with h | h | h
          · rcases List.mem_append.mp h with h | h
            · exact nf h
            · exact nD5 (by simp [h])
          · exact nAD5 h
          · rw [hD5] at e; cases e; exact h) all
      · rw [List.append_assoc]
        obtain ⟨e1, e2, e3⟩ := List.nodup_append.mp o5.nd
        refine List.nodup_append.mpr ⟨d1, List.nodup_append.mpr ⟨e1, gy.nd, fun a ha b hb => e3 a ha b (suby b hb)⟩, fun a ha b hb e => ?_⟩
        subst e
        refine nfp5 a ha ?_
        rcases List.mem_append.mp hb with hb | hb
        · simp [hb]
        · simp [suby a hb]
      · rcases List.mem_append.mp h with h | h
        · exact nA5 a (trk a h) (nfA a h) (dis a h)
        · exact o5.dis a h
      · intro z
        rcases List.mem_append.mp z with z | z
        · exact nf z
        · exact nD5 (by simp [z])
      · refine ⟨fun a o e n => hkeep a o (stAll.same a o e n) (fun z => by rw [z, hD] at e; cases e), fun a h => stAll.own a (by rcases List.mem_append.mp h with h | h <;> simp only [List.mem_append] at h ⊢ <;> first | exact .inl h | exact .inr (suby a h)), stAll.up, stAll.fr⟩
      · rw [List.length_append]
        show acc.length + 1 ≤ i + 1
        omega
  · rintro H2 ⟨ρ', ow', A', acc, accV, fp, g', hDv, r, nd, dis, nf, no, nA, st, hcomp, hl, hw⟩
    rw [List.drop_eq_nil_of_le (Nat.le_refl _)] at hcomp
    have hP : P (jL acc, .lst (acc.map (·.2))) ρ' := hcomp
    have gσ : Good K A' H2 ρ' σ ow' := g'.congr (wipe_length σ is).symm fun j kd hj => by
      rw [← hw, wipeR_get] at hj
      have hn : ¬ (j ∈ is ∧ j < ρ'.length) := fun z => by rw [if_pos z] at hj; cases hj
      have l2 : ρ'.length = σ.length := by rw [← g'.rep.len, wipe_length]
      rw [wipe_get, if_neg fun z => hn ⟨z.1, by rw [l2]; exact z.2⟩]
    have stH : Stp H ow A H2 ((D :: fp) ++ ow') A' := by
      have s0 : Stp H ow A H1 ow A1 := Stp.freeze s1
      have sT := s0.trans st
      refine ⟨sT.same, fun a h => ?_, sT.up, sT.fr⟩
      rcases List.mem_cons.mp h with h | h
      · rw [h]; exact .inr hD0
      · exact sT.own a h
    have ndD : ((D :: fp) ++ ow').Nodup := List.nodup_cons.mpr ⟨by simp [nf, no], nd⟩
    have disD : ∀ a ∈ D :: fp, ¬ A' a := fun a h => by
      rcases List.mem_cons.mp h with h | h
      · rw [h]; exact nA
      · exact dis a h
    have pr : PR K A' (fun a => a ∈ D :: fp ∨ H2 a = none) H2 (.ref D) (jL acc, .lst (acc.map (·.2))) := by
      have rO : VRs K (Or2 A' (fun a => a ∈ D :: fp ∨ H2 a = none)) H2 acc accV fp := r.mono fun a h => .inl h
      have d1 := (List.nodup_append.mp nd).1
      rcases jT_cases acc with e | e | e
      · have e' : jL acc = .sh := by unfold jL; rw [e]
        rw [e']
        exact ⟨[D], ⟨⟨D, accV, [], rfl, rfl, hDv, Rs.of0 _ _ (rO.fl e).2⟩, D, accV, rfl, hDv, (rO.fl e).2⟩, by simp, fun a q => by rw [List.mem_singleton.mp q]; exact .inl (by simp)⟩
      · have e' : jL acc = .ow := by unfold jL; rw [e]
        rw [e']
        exact ⟨D :: fp, ⟨D, accV, fp, rfl, rfl, hDv, rO.ow (by rw [e]; decide)⟩, List.nodup_cons.mpr ⟨nf, d1⟩, fun a q => .inl q⟩
      · have e' : jL acc = .rd := by unfold jL; rw [e]
        rw [e']
        exact .rd ⟨D, accV, rfl, .inr (.inl (by simp)), hDv, rO.ra (fun _ h => h) fun a q => .inr (.inl (by simp [q]))⟩
    obtain ⟨f, A3, st3, g3, o3⟩ := pr.fin stH gσ ndD disD (Same.refl H2)
    exact q _ ρ' _ H2 f ow' A3 hP st3 g3 o3
end
section
variable {X : Cx} {E : XK} {pos : Pos} {pr : List Nat}
theorem de_lc {elt tg iter : Expr} {ifs : List Expr} {scope : Scope} {own : List (Str × Nat)} {is : List Nat} {src : IF} {g : GF} {tt : PTF} {fe : EF} {E' : XK} (hc : X.calm = true) (hN : X.N.Nodup) (hi : DI X tg iter src) (ok : BlkOk X.N X.env.scope scope own)
    (hg : ∀ (s : Shared) (H : Hp) (C : Addr) (cl : List (Str × Addr)) (fp : List Addr), DG (X.blk s H scope (compEnvC scope cl C X.env) fp) tg is g) (ht : ∀ (s : Shared) (H : Hp) (C : Addr) (cl : List (Str × Addr)) (fp : List Addr), DTs (X.blk s H scope (compEnvC scope cl C X.env) fp) ifs tt)
    (he : ∀ (s : Shared) (H : Hp) (C : Addr) (cl : List (Str × Addr)) (fp : List Addr), DE (X.blk s H scope (compEnvC scope cl C X.env) fp) E' elt fe) (his : own.map (·.2) = is := by rfl) (hs : ∀ x, foldedSetIterable iter X.env x = pure x := by intro _; rfl) :
    DE X E (.ListComp elt [⟨tg, iter, ifs, 0⟩] scope pos) (eLc src is g tt fe) := by
  obtain ⟨t, e, s⟩ := hi.run
  subst his
  exact ⟨_, pe_lc (te := tE X.K fe) (g := tG X.K (own.map (·.2)) g) (tt := tT X.K tt) hc hN e ok (fun s H C cl fp => (hg s H C cl fp).can) (fun s H C cl fp => (ht s H C cl fp).run) (fun s H C cl fp => (he s H C cl fp).can) hs, es_lc s⟩
theorem ds_setLcE (i : Nat) {y : Str} {py spos : Pos} {elt tg iter : Expr} {ifs : List Expr} {scope : Scope} {own : List (Str × Nat)} {is : List Nat} {src : IF} {g : GF} {tt : PTF} {fe : EF} {E' : XK} (hc : X.calm = true) (hN : X.N.Nodup) (hp : i ∉ pr) (hy : X.N[i]? = some y) (hyl : X.env.scope.names.lookup y = some .local)
    (hsw : swapsWith (.ListComp elt [⟨tg, iter, ifs, 0⟩] scope pos) (some (.Name y py)) spos.line X.env = pure true) (hi : DI X tg iter src) (ok : BlkOk X.N X.env.scope scope own)
    (hg : ∀ (s : Shared) (H : Hp) (C : Addr) (cl : List (Str × Addr)) (fp : List Addr), DG (X.blk s H scope (compEnvC scope cl C X.env) fp) tg is g) (ht : ∀ (s : Shared) (H : Hp) (C : Addr) (cl : List (Str × Addr)) (fp : List Addr), DTs (X.blk s H scope (compEnvC scope cl C X.env) fp) ifs tt)
    (he : ∀ (s : Shared) (H : Hp) (C : Addr) (cl : List (Str × Addr)) (fp : List Addr), DE (X.blk s H scope (compEnvC scope cl C X.env) fp) E' elt fe) (his : own.map (·.2) = is := by rfl) (hs : ∀ x, foldedSetIterable iter X.env x = pure x := by intro _; rfl) :
    DS X E pr (.Assign [.Name y py] (.ListComp elt [⟨tg, iter, ifs, 0⟩] scope pos) spos) (sSet i (eLc src is g tt fe)) := by
  obtain ⟨t, e, s⟩ := hi.run
  subst his
  exact ⟨_, ps_setLc (te := tE X.K fe) (g := tG X.K (own.map (·.2)) g) (tt := tT X.K tt) hc hN hy hyl hsw e ok (fun s H C cl fp => (hg s H C cl fp).can) (fun s H C cl fp => (ht s H C cl fp).run) (fun s H C cl fp => (he s H C cl fp).can) hs, ss_set hp (es_lc s)⟩
end
end DL

namespace DL
open PySem PySem.Spec PyProof.Rows L2
section
variable {K : Frg} {A B F : Addr → Prop} {H : Hp}
def oLen : List KD → (KD → Prop) → Prop := fun zs P => match zs with
  | [(_, .tup ds)] => P (.fl, .int ds.length)
  | [(_, .lst ds)] => P (.fl, .int ds.length)
  | [(_, .kst ds)] => P (.fl, .int ds.length)
  | [(_, .str z)] => z.length ≤ 10000000 ∧ P (.fl, .int z.length)
  | _ => False
theorem cs_len : CallS K (fun xs H Q => ∃ x n, xs = [x] ∧ LenV K x H n ∧ Q (.int n) H) oLen := by
  intro B F H vs xs P Q pr hF h q
  have go : ∀ (k : Kd) (d : D) (ds : List D), xs = [(k, d)] → d.seq = some ds → P (.fl, .int ds.length) → ∃ x n, vs = [x] ∧ LenV K x H n ∧ Q (.int n) H := fun k d ds e e2 hP => by
    subst e
    obtain ⟨v, ev, p⟩ := pr.get1
    obtain ⟨a, us, ea, t, r⟩ := p.ra.seq e2
    subst ev ea
    refine ⟨_, ds.length, rfl, ?_, q _ _ H hP (Same.refl H) .int⟩
    rcases t with t | t
    · exact .inl ⟨us, t, r.len.symm⟩
    · exact .inr ⟨us, t, r.len.symm⟩
  unfold oLen at h
  split at h
  · exact go _ _ _ rfl rfl h
  · exact go _ _ _ rfl rfl h
  · exact go _ _ _ rfl rfl h
  · rename_i k z
    obtain ⟨v, ev, p⟩ := pr.get1
    have e : v = .str z := p.ra
    subst ev e
    exact ⟨_, z.length, rfl, ⟨sz7 h.1, rfl⟩, q _ _ H h.2 (Same.refl H) .int⟩
  · exact h.elim
def oList : List KD → (KD → Prop) → Prop := fun zs P => match zs with
  | [(k, .tup ds)] => P (kL k, .lst ds)
  | [(k, .lst ds)] => P (kL k, .lst ds)
  | [(k, .kst ds)] => P (kL k, .lst ds)
  | _ => False
theorem cs_list : CallS K (fun xs H Q => ∃ p ys, xs = [.ref p] ∧ (SqL K H p ys ∨ SqT K H p ys) ∧ ∀ l, H l = none → Q (.ref l) (upd H l (.lst ys))) oList := by
  intro B F H vs xs P Q pr hF h q
  have go : ∀ (k : Kd) (d : D) (ds : List D), xs = [(k, d)] → d.seq = some ds → P (kL k, .lst ds) → ∃ p ys, vs = [.ref p] ∧ (SqL K H p ys ∨ SqT K H p ys) ∧ ∀ l, H l = none → Q (.ref l) (upd H l (.lst ys)) := fun k d ds e e2 hP => by
    subst e
    obtain ⟨v, ev, p⟩ := pr.get1
    obtain ⟨a, us, ea, t, r⟩ := p.seq e2
    subst ev ea
    exact ⟨a, us, rfl, t, fun l hl => q _ _ _ hP (same_upd hl) (pr_lst r hl (hF l hl))⟩
  unfold oList at h
  split at h
  · exact go _ _ _ rfl rfl h
  · exact go _ _ _ rfl rfl h
  · exact go _ _ _ rfl rfl h
  · exact h.elim
def oTuple : List KD → (KD → Prop) → Prop := fun zs P => match zs with
  | [(k, .tup ds)] => P (kT k, .tup ds)
  | [(k, .lst ds)] => P (kT k, .tup ds)
  | [(k, .kst ds)] => P (kT k, .tup ds)
  | _ => False
theorem cs_tuple : CallS K (fun xs H Q => ∃ p ys, xs = [.ref p] ∧ ((SqL K H p ys ∧ ∀ l, H l = none → Q (.ref l) (upd H l (.tup ys))) ∨ (SqT K H p ys ∧ Q (.ref p) H))) oTuple := by
  intro B F H vs xs P Q pr hF h q
  have go : ∀ (k : Kd) (d : D) (ds : List D), xs = [(k, d)] → d.seq = some ds → P (kT k, .tup ds) → ∃ p ys, vs = [.ref p] ∧ ((SqL K H p ys ∧ ∀ l, H l = none → Q (.ref l) (upd H l (.tup ys))) ∨ (SqT K H p ys ∧ Q (.ref p) H)) := fun k d ds e e2 hP => by
    subst e
    obtain ⟨v, ev, p⟩ := pr.get1
    obtain ⟨a, us, ea, t, r⟩ := p.seq e2
    subst ev ea
    refine ⟨a, us, rfl, ?_⟩
    rcases t with t | t
    · exact .inl ⟨t, fun l hl => q _ _ _ hP (same_upd hl) (pr_tup r hl)⟩
    · refine .inr ⟨t, q _ _ H hP (Same.refl H) ?_⟩
      unfold kT
      rcases el_cases k with e' | e'
      · rw [e']; exact .fl ⟨a, us, rfl, t, r.elno e'⟩
      · rw [e']; exact .rd ⟨a, us, rfl, t, r.elor⟩
  unfold oTuple at h
  split at h
  · exact go _ _ _ rfl rfl h
  · exact go _ _ _ rfl rfl h
  · exact go _ _ _ rfl rfl h
  · exact h.elim
def oInt : List KD → (KD → Prop) → Prop := fun zs P => match zs with
  | [(_, .int i)] => P (.fl, .int i)
  | [(_, .bl b)] => P (.fl, .int (if b = true then 1 else 0))
  | _ => False
theorem cs_int : CallS K (fun xs H Q => (∃ i, xs = [.int i] ∧ Q (.int i) H) ∨ ∃ k, xs = [.bl k] ∧ Q (.int (if k then 1 else 0)) H) oInt := by
  intro B F H vs xs P Q pr hF h q
  unfold oInt at h
  split at h
  · rename_i k i
    obtain ⟨v, ev, p⟩ := pr.get1
    have e : v = .int i := p.ra
    subst ev e
    exact .inl ⟨i, rfl, q _ _ H h (Same.refl H) .int⟩
  · rename_i k i
    obtain ⟨v, ev, p⟩ := pr.get1
    have e : v = .bl i := p.ra
    subst ev e
    exact .inr ⟨i, rfl, q _ _ H h (Same.refl H) .int⟩
  · exact h.elim
def oAbs : List KD → (KD → Prop) → Prop := fun zs P => match zs with
  | [(_, .int i)] => P (.fl, .int (if i < 0 then -i else i))
  | _ => False
theorem cs_abs : CallS K (fun xs H Q => ∃ i, xs = [.int i] ∧ Q (.int (if i < 0 then -i else i)) H) oAbs := by
  intro B F H vs xs P Q pr hF h q
  unfold oAbs at h
  split at h
  · rename_i k i
    obtain ⟨v, ev, p⟩ := pr.get1
    have e : v = .int i := p.ra
    subst ev e
    exact ⟨i, rfl, q _ _ H h (Same.refl H) .int⟩
  · exact h.elim
def oMax2 : List KD → (KD → Prop) → Prop := fun zs P => match zs with
  | [(_, .int i), (_, .int j)] => P (.fl, .int (if j > i then j else i))
  | _ => False
def oMin2 : List KD → (KD → Prop) → Prop := fun zs P => match zs with
  | [(_, .int i), (_, .int j)] => P (.fl, .int (if j < i then j else i))
  | _ => False
theorem cs_max2 : CallS K (fun xs H Q => ∃ i j, xs = [.int i, .int j] ∧ Q (.int (if j > i then j else i)) H) oMax2 := by
  intro B F H vs xs P Q pr hF h q
  unfold oMax2 at h
  split at h
  · rename_i k i k' j
    obtain ⟨v, w, ev, p, p'⟩ := pr.get2
    have e : v = .int i := p.ra
    have e' : w = .int j := p'.ra
    subst ev e e'
    exact ⟨i, j, rfl, q _ _ H h (Same.refl H) .int⟩
  · exact h.elim
theorem cs_min2 : CallS K (fun xs H Q => ∃ i j, xs = [.int i, .int j] ∧ Q (.int (if j < i then j else i)) H) oMin2 := by
  intro B F H vs xs P Q pr hF h q
  unfold oMin2 at h
  split at h
  · rename_i k i k' j
    obtain ⟨v, w, ev, p, p'⟩ := pr.get2
    have e : v = .int i := p.ra
    have e' : w = .int j := p'.ra
    subst ev e e'
    exact ⟨i, j, rfl, q _ _ H h (Same.refl H) .int⟩
  · exact h.elim
def oSum : List KD → (KD → Prop) → Prop := fun zs P => match zs with
  | [(_, .lst ds)] => ∃ ns : List Int, ds = ns.map .int ∧ P (.fl, .int ns.sum)
  | _ => False
theorem pr_ints {k : Kd} {ns : List Int} {v : V} (p : PR K B F H v (k, .lst (ns.map .int))) : ∃ a, v = .ref a ∧ SqL K H a (ns.map V.int) := by
  obtain ⟨a, us, ea, t, r⟩ := p.lstT
  rw [RAs.ints r.elor] at t
  exact ⟨a, ea, .of t⟩
theorem cs_sum : CallS K (rSum K) oSum := by
  intro B F H vs xs P Q pr hF h q
  unfold oSum at h
  split at h
  · rename_i k ds
    obtain ⟨ns, rfl, hP⟩ := h
    obtain ⟨v, ev, p⟩ := pr.get1
    obtain ⟨a, ea, t⟩ := pr_ints p
    subst ev ea
    exact ⟨a, ns, rfl, t, q _ _ H hP (Same.refl H) .int⟩
  · exact h.elim
def oAll : List KD → (KD → Prop) → Prop := fun zs P => match zs with
  | [(_, .lst ds)] => ∃ bs : List Bool, ds = bs.map .bl ∧ P (.fl, .bl (bs.all id))
  | _ => False
theorem RAs.bools : ∀ {ns : List Bool} {vs : List V}, RAs K A H (ns.map .bl) vs → vs = ns.map V.bl
  | [], _, h => h
  | n :: ns, _, ⟨w, ws, e, h, t⟩ => by
    subst e
    rw [show w = V.bl n from h, RAs.bools t]
    rfl
theorem pr_bools {k : Kd} {ns : List Bool} {v : V} (p : PR K B F H v (k, .lst (ns.map .bl))) : ∃ a, v = .ref a ∧ SqL K H a (ns.map V.bl) := by
  obtain ⟨a, us, ea, t, r⟩ := p.lstT
  rw [RAs.bools r.elor] at t
  exact ⟨a, ea, .of t⟩
theorem cs_all : CallS K (rAll K) oAll := by
  intro B F H vs xs P Q pr hF h q
  unfold oAll at h
  split at h
  · rename_i k ds
    obtain ⟨ns, rfl, hP⟩ := h
    obtain ⟨v, ev, p⟩ := pr.get1
    obtain ⟨a, ea, t⟩ := pr_bools p
    subst ev ea
    exact ⟨a, ns, rfl, t, q _ _ H hP (Same.refl H) .bl⟩
  · exact h.elim
end
inductive Bt where
  | int | bool | str | tup | lst | dct
def isBt : Bt → D → Option Bool
  | .int, .int _ => some true
  | .int, .bl _ => some true
  | .int, .str _ => some false
  | .int, .non => some false
  | .int, .tup _ => some false
  | .int, .lst _ => some false
  | .bool, .int _ => some false
  | .bool, .bl _ => some true
  | .bool, .str _ => some false
  | .bool, .non => some false
  | .bool, .tup _ => some false
  | .bool, .lst _ => some false
  | .str, .int _ => some false
  | .str, .bl _ => some false
  | .str, .str _ => some true
  | .str, .non => some false
  | .str, .tup _ => some false
  | .str, .lst _ => some false
  | .tup, .int _ => some false
  | .tup, .bl _ => some false
  | .tup, .str _ => some false
  | .tup, .non => some false
  | .tup, .tup _ => some true
  | .tup, .lst _ => some false
  | .lst, .int _ => some false
  | .lst, .bl _ => some false
  | .lst, .str _ => some false
  | .lst, .non => some false
  | .lst, .tup _ => some false
  | .lst, .lst _ => some true
  | .int, .kst _ => some false
  | .int, .dcL _ => some false
  | .bool, .kst _ => some false
  | .bool, .dcL _ => some false
  | .str, .kst _ => some false
  | .str, .dcL _ => some false
  | .tup, .kst _ => some false
  | .tup, .dcL _ => some false
  | .lst, .kst _ => some true
  | .lst, .dcL _ => some false
  | .dct, .kst _ => some false
  | .dct, .dcL _ => some true
  | .dct, .int _ => some false
  | .dct, .bl _ => some false
  | .dct, .str _ => some false
  | .dct, .non => some false
  | .dct, .tup _ => some false
  | .dct, .lst _ => some false
  | _, _ => none
def pIsI (b : Bt) (f : PF) : PF := fun ρ P => f ρ fun z => match isBt b z.2 with
  | some r => P (.fl, .bl r)
  | none => False
section
variable {X : Cx} {pos : Pos} {e : Expr} {f : PF} {E : XK}
def pLR1 (f : PF) : PF := fun ρ P => f ρ fun z => match z.2 with
  | .int n => n ≤ 1000000 ∧ -1000000 ≤ n ∧ P (.sh, .lst ((List.range n.toNat).map fun i : Nat => .int i))
  | _ => False
theorem rg_map (n : Int) : rgV 0 n = ((List.range n.toNat).map fun i : Nat => (i : Int)).map V.int := by
  unfold rgV
  rw [List.map_map]
  simp
theorem rg_D (n : Nat) : ((List.range n).map fun i : Nat => D.int i) = ((List.range n).map fun i : Nat => (i : Int)).map D.int := by
  rw [List.map_map]; rfl
theorem dp_listRg1 {p p2 pos2 : Pos} (h : DP X e f) (hc : X.calm = true) (hg : Gl X "list") (hm : X.mg "list" = none) (hg2 : Gl X "range") (hm2 : X.mg "range" = none) (na : starEach [e] X.env = (false, eval e X.env) :: starEach [] X.env := by rfl)
    (na2 : starEach [.Call (.Name "range" p2) [e] [] pos2] X.env = (false, eval (.Call (.Name "range" p2) [e] [] pos2) X.env) :: starEach [] X.env := by rfl) : DP X (.Call (.Name "list" p) [.Call (.Name "range" p2) [e] [] pos2] [] pos) (pLR1 f) := by
  obtain ⟨t, pe, s⟩ := h.run
  refine ⟨_, pe_listRg hc hg hm (prg_1 hg2 hm2 pe na) na2, fun σ H A ρ ow Q P g hf q => ?_⟩
  refine s σ H A ρ ow _ _ g hf fun z v H1 h1 s1 p1 => ?_
  obtain ⟨k, d⟩ := z
  cases d with
  | int n =>
    obtain ⟨h2, h3, h4⟩ := h1
    obtain rfl : v = .int n := p1.ra
    refine ⟨n, rfl, ⟨by omega, by omega, by omega, by omega, by omega⟩, fun l hl => ?_⟩
    refine q _ _ _ h4 (s1.trans (same_upd hl)) ?_
    have r : RAs X.K (Kd.sh.elA (BB A ow) (Fre H)) H1 ((List.range n.toNat).map fun i : Nat => D.int i) (rgV 0 n) := by
      rw [rg_map, rg_D]
      exact RAs.of_ints _
    exact pr_lst r hl (s1.free hl)
  | _ => exact h1.elim
end
end DL

namespace DL
open PySem PySem.Spec PyProof.Rows L2
abbrev gNil : PAF := fun _ P => P []
abbrev gCons (f : PF) (g : PAF) : PAF := fun ρ P => f ρ fun z => g ρ fun zs => P (z :: zs)
abbrev aNil : AEF := fun ρ P _ => P [] ρ
abbrev aPl (i : Nat) (g : AEF) : AEF := fun ρ P PX => (∃ kd, ρ[i]? = some (some kd)) ∧ g ρ (fun avs ρ' => P (.pl i :: avs) ρ') PX
abbrev aE (f : EF) (g : AEF) : AEF := fun ρ P PX => f ρ (fun z ρ1 => g ρ1 (fun avs ρ2 => P (.v z :: avs) ρ2) PX) PX
abbrev tNilP : PTF := fun _ P => P true
abbrev tNilG : GsF := fun zs ρ P => zs = [] ∧ P ρ
abbrev tConsG (g : GF) (gs : GsF) : GsF := fun zs ρ P => match zs with
  | z :: r => g z ρ fun ρ1 => gs r ρ1 P
  | [] => False
abbrev qPopAt : MOF := fun k e zs P => (k = .sh ∨ k = .ow) ∧ (match e with | .lst ds => ds.length ≤ 10000000 | _ => False) ∧ mPopAt k e zs P
abbrev qPop : MOF := fun k e zs P => (k = .sh ∨ k = .ow) ∧ mPop k e zs P
theorem bt_len : bootBuiltins "len" = some (.builtin "len") := by decide +kernel
theorem bt_list : bootBuiltins "list" = some (.type "list") := by decide +kernel
theorem bt_tuple : bootBuiltins "tuple" = some (.type "tuple") := by decide +kernel
theorem bt_int : bootBuiltins "int" = some (.type "int") := by decide +kernel
theorem bt_abs : bootBuiltins "abs" = some (.builtin "abs") := by decide +kernel
theorem bt_sum : bootBuiltins "sum" = some (.builtin "sum") := by decide +kernel
theorem bt_max : bootBuiltins "max" = some (.builtin "max") := by decide +kernel
theorem bt_min : bootBuiltins "min" = some (.builtin "min") := by decide +kernel
theorem bt_all : bootBuiltins "all" = some (.builtin "all") := by decide +kernel
theorem bt_sorted : bootBuiltins "sorted" = some (.builtin "sorted") := by decide +kernel
end DL

namespace DL
open PySem PySem.Spec PyProof.Rows L2
theorem ifb {p q : Prop} {b : Bool} (h1 : b = true → p) (h2 : b = false → q) : if b = true then p else q := by
  cases b
  · exact h2 rfl
  · exact h1 rfl
theorem ifd {c : Prop} [Decidable c] {p q : Prop} (h1 : c → p) (h2 : ¬c → q) : if decide c = true then p else q :=
  ifb (fun h => h1 (of_decide_eq_true h)) fun h => h2 (of_decide_eq_false h)
theorem ifdn {c : Prop} [Decidable c] {p q : Prop} (h1 : ¬c → p) (h2 : c → q) : if (!decide c) = true then p else q :=
  ifb (fun h => h1 (of_decide_eq_false (by cases e : decide c with | true => rw [e] at h; cases h | false => rfl))) fun h => h2 (of_decide_eq_true (by cases e : decide c with | false => rw [e] at h; cases h | true => rfl))
theorem forD_at {g : GF} {body : SF} {D : DEnds} (I : Nat → Ro → Prop) : ∀ (zs : List KD) (i0 : Nat) (ρ : Ro), I i0 ρ →
    (∀ (i : Nat) z ρ (N : Ro → Prop), zs[i]? = some z → I (i0 + i) ρ → (∀ ρ', I (i0 + i + 1) ρ' → N ρ') → g z ρ fun ρ1 => body { D with nx := N } ρ1) →
    (∀ ρ, I (i0 + zs.length) ρ → D.nx ρ) → forD g body D zs ρ
  | [], i0, ρ, h, _, e => e ρ h
  | z :: zs, i0, ρ, h, s, e => s 0 z ρ _ rfl h fun ρ' h' => forD_at I zs (i0 + 1) ρ' h' (fun i z ρ N hz hi hn => by
      have e1 : i0 + 1 + i = i0 + (i + 1) := by omega
      rw [e1] at hi hn
      exact s (i + 1) z ρ N hz hi hn) fun ρ hi => by
      have e1 : i0 + 1 + zs.length = i0 + (zs.length + 1) := by omega
      rw [e1] at hi
      exact e ρ hi
theorem for_ind {g : GF} {body : SF} {D : DEnds} {zs : List KD} {ρ : Ro} (I : Nat → Ro → Prop) (h0 : I 0 ρ)
    (hs : ∀ (i : Nat) z ρ (N : Ro → Prop), zs[i]? = some z → I i ρ → (∀ ρ', I (i + 1) ρ' → N ρ') → g z ρ fun ρ1 => body { D with nx := N } ρ1) (he : ∀ ρ, I zs.length ρ → D.nx ρ) : forD g body D zs ρ :=
  forD_at I zs 0 ρ h0 (fun i z ρ N hz hi hn => hs i z ρ N hz (by rw [Nat.zero_add] at hi; exact hi) (by rw [Nat.zero_add] at hn; exact hn)) fun ρ h => he ρ (by rw [Nat.zero_add] at h; exact h)
theorem range_get {lo : Int} {n i : Nat} {z : KD} (h : (rangeD lo n)[i]? = some z) : i < n ∧ z = (.fl, .int (lo + i)) := by
  refine ⟨?_, rangeD_get h⟩
  have := (List.getElem?_eq_some_iff.mp h).1
  unfold rangeD at this
  rw [List.length_map, List.length_range] at this
  exact this
theorem range_len {lo : Int} {n : Nat} : (rangeD lo n).length = n := by unfold rangeD; rw [List.length_map, List.length_range]
theorem for_range {g : GF} {body : SF} {D : DEnds} {lo : Int} {n : Nat} {ρ : Ro} (I : Nat → Ro → Prop) (h0 : I 0 ρ)
    (hs : ∀ (i : Nat) ρ (N : Ro → Prop), i < n → I i ρ → (∀ ρ', I (i + 1) ρ' → N ρ') → g (.fl, .int (lo + i)) ρ fun ρ1 => body { D with nx := N } ρ1) (he : ∀ ρ, I n ρ → D.nx ρ) : forD g body D (rangeD lo n) ρ :=
  for_ind I h0 (fun i z ρ N hz hi hn => by obtain ⟨a, rfl⟩ := range_get hz; exact hs i ρ N a hi hn) fun ρ h => he ρ (by rw [range_len] at h; exact h)
theorem for_range0 {g : GF} {body : SF} {D : DEnds} {n : Nat} {ρ : Ro} (I : Nat → Ro → Prop) (h0 : I 0 ρ)
    (hs : ∀ (i : Nat) ρ (N : Ro → Prop), i < n → I i ρ → (∀ ρ', I (i + 1) ρ' → N ρ') → g (.fl, .int i) ρ fun ρ1 => body { D with nx := N } ρ1) (he : ∀ ρ, I n ρ → D.nx ρ) : forD g body D (rangeD 0 n) ρ :=
  for_range I h0 (fun i ρ N hi h hn => by rw [Int.zero_add]; exact hs i ρ N hi h hn) he
theorem compL_at {step : KD → (Option KD → Prop) → Prop} {P : List KD → Prop} (I : Nat → List KD → Prop) : ∀ (zs : List KD) (i0 : Nat) (acc : List KD), I i0 acc →
    (∀ (i : Nat) z acc (N : Option KD → Prop), zs[i]? = some z → I (i0 + i) acc → (∀ y, I (i0 + i + 1) (acc ++ [y]) → N (some y)) → (I (i0 + i + 1) acc → N none) → step z N) →
    (∀ acc, I (i0 + zs.length) acc → P acc) → compL step zs acc P
  | [], i0, acc, h, _, e => e acc h
  | z :: zs, i0, acc, h, s, e => by
    have rec_ : ∀ acc', I (i0 + 0 + 1) acc' → compL step zs acc' P := fun acc' h' => compL_at I zs (i0 + 1) acc' h' (fun i z acc N hz hi hn h0 => by
      have e1 : i0 + 1 + i = i0 + (i + 1) := by omega
      rw [e1] at hi hn h0
      exact s (i + 1) z acc N hz hi hn h0) fun acc hi => by
      have e1 : i0 + 1 + zs.length = i0 + (zs.length + 1) := by omega
      rw [e1] at hi
      exact e acc hi
    exact s 0 z acc _ rfl h (fun y hy => rec_ _ hy) fun hy => rec_ _ hy
theorem comp_ind {step : KD → (Option KD → Prop) → Prop} {P : List KD → Prop} {zs : List KD} (I : Nat → List KD → Prop) (h0 : I 0 [])
    (hs : ∀ (i : Nat) z acc (N : Option KD → Prop), zs[i]? = some z → I i acc → (∀ y, I (i + 1) (acc ++ [y]) → N (some y)) → (I (i + 1) acc → N none) → step z N) (he : ∀ acc, I zs.length acc → P acc) : compL step zs [] P :=
  compL_at I zs 0 [] h0 (fun i z acc N hz hi hn h => hs i z acc N hz (by rw [Nat.zero_add] at hi; exact hi) (by rw [Nat.zero_add] at hn; exact hn) (by rw [Nat.zero_add] at h; exact h)) fun ρ h => he ρ (by rw [Nat.zero_add] at h; exact h)
theorem take_succ_map {α β : Type} {zs : List α} {f : α → β} {i : Nat} {z : α} (h : zs[i]? = some z) : (zs.take (i + 1)).map f = (zs.take i).map f ++ [f z] := by
  rw [List.take_add_one, h, List.map_append]; rfl
theorem comp_map {step : KD → (Option KD → Prop) → Prop} {P : List KD → Prop} {zs : List KD} (f : KD → KD) (hs : ∀ (i : Nat) z (N : Option KD → Prop), zs[i]? = some z → N (some (f z)) → step z N) (he : P (zs.map f)) : compL step zs [] P := by
  refine comp_ind (fun i acc => acc = (zs.take i).map f) rfl (fun i z acc N hz hi hn _ => ?_) fun acc h => ?_
  · refine hs i z N hz (hn _ ?_)
    rw [hi, take_succ_map hz]
  · rw [h, List.take_length]; exact he
theorem comp_range {step : KD → (Option KD → Prop) → Prop} {P : List KD → Prop} {lo : Int} {n : Nat} (f : Nat → KD) (hs : ∀ (i : Nat) (N : Option KD → Prop), i < n → N (some (f i)) → step (.fl, .int (lo + i)) N) (he : P ((List.range n).map f)) : compL step (rangeD lo n) [] P := by
  refine comp_ind (fun i acc => acc = (List.range i).map f) rfl (fun i z acc N hz hi hn _ => ?_) fun acc h => ?_
  · obtain ⟨a, rfl⟩ := range_get hz
    refine hs i N a (hn _ ?_)
    rw [hi, List.range_succ, List.map_append]; rfl
  · rw [h, range_len]; exact he
theorem comp_range0 {step : KD → (Option KD → Prop) → Prop} {P : List KD → Prop} {n : Nat} (f : Nat → KD) (hs : ∀ (i : Nat) (N : Option KD → Prop), i < n → N (some (f i)) → step (.fl, .int i) N) (he : P ((List.range n).map f)) : compL step (rangeD 0 n) [] P :=
  comp_range f (fun i N hi h => by rw [Int.zero_add]; exact hs i N hi h) he
theorem compE_at {step : KD → Ro → (Option KD → Ro → Prop) → Prop} {P : List KD → Ro → Prop} (I : Nat → Ro → List KD → Prop) : ∀ (zs : List KD) (i0 : Nat) (ρ : Ro) (acc : List KD), I i0 ρ acc →
    (∀ (i : Nat) z ρ acc (N : Option KD → Ro → Prop), zs[i]? = some z → I (i0 + i) ρ acc → (∀ y ρ', I (i0 + i + 1) ρ' (acc ++ [y]) → N (some y) ρ') → (∀ ρ', I (i0 + i + 1) ρ' acc → N none ρ') → step z ρ N) →
    (∀ ρ acc, I (i0 + zs.length) ρ acc → P acc ρ) → compE step zs ρ acc P
  | [], i0, ρ, acc, h, _, e => e ρ acc h
  | z :: zs, i0, ρ, acc, h, s, e => by
    have rec_ : ∀ ρ' acc', I (i0 + 0 + 1) ρ' acc' → compE step zs ρ' acc' P := fun ρ' acc' h' => compE_at I zs (i0 + 1) ρ' acc' h' (fun i z ρ acc N hz hi hn h0 => by
      have e1 : i0 + 1 + i = i0 + (i + 1) := by omega
      rw [e1] at hi hn h0
      exact s (i + 1) z ρ acc N hz hi hn h0) fun ρ acc hi => by
      have e1 : i0 + 1 + zs.length = i0 + (zs.length + 1) := by omega
      rw [e1] at hi
      exact e ρ acc hi
    exact s 0 z ρ acc _ rfl h (fun y ρ' hy => rec_ ρ' _ hy) fun ρ' hy => rec_ ρ' _ hy
theorem compE_ind {step : KD → Ro → (Option KD → Ro → Prop) → Prop} {P : List KD → Ro → Prop} {zs : List KD} {ρ : Ro} (I : Nat → Ro → List KD → Prop) (h0 : I 0 ρ [])
    (hs : ∀ (i : Nat) z ρ acc (N : Option KD → Ro → Prop), zs[i]? = some z → I i ρ acc → (∀ y ρ', I (i + 1) ρ' (acc ++ [y]) → N (some y) ρ') → (∀ ρ', I (i + 1) ρ' acc → N none ρ') → step z ρ N) (he : ∀ ρ acc, I zs.length ρ acc → P acc ρ) : compE step zs ρ [] P :=
  compE_at I zs 0 ρ [] h0 (fun i z ρ acc N hz hi hn h => hs i z ρ acc N hz (by rw [Nat.zero_add] at hi; exact hi) (by rw [Nat.zero_add] at hn; exact hn) (by rw [Nat.zero_add] at h; exact h)) fun ρ acc h => he ρ acc (by rw [Nat.zero_add] at h; exact h)
theorem ix_tup {k k' : Kd} {ds : List D} {i : Int} {d : D} {P : KD → Prop} (h : atI ds i = some d) (p : P (kel k d)) : oIx (k, .tup ds) (k', .int i) P := by
  show (match atI ds i with | some d => P (kel k d) | none => False)
  rw [h]; exact p
theorem ix_lst {k k' : Kd} {ds : List D} {i : Int} {d : D} {P : KD → Prop} (h : atI ds i = some d) (p : P (kel k d)) : oIx (k, .lst ds) (k', .int i) P := by
  show (match atI ds i with | some d => P (kel k d) | none => False)
  rw [h]; exact p
theorem ix_kst {k k' : Kd} {ds : List D} {i : Int} {d : D} {P : KD → Prop} (h : atI ds i = some d) (p : P (kel k d)) : oIx (k, .kst ds) (k', .int i) P := by
  show (match atI ds i with | some d => P (kel k d) | none => False)
  rw [h]; exact p
abbrev tabl {α : Type} (n : Nat) (f : Nat → α) : List α := (List.range n).map f
theorem tabl_get {α : Type} {n : Nat} {f : Nat → α} {i : Nat} (h : i < n) : (tabl n f)[i]? = some (f i) := by
  rw [List.getElem?_map, List.getElem?_range h]; rfl
theorem tabl_at {α : Type} {n : Nat} {f : Nat → α} {i : Nat} (h : i < n) : L2.atI (tabl n f) (i : Int) = some (f i) := atI_nat (tabl_get h)
theorem tabl_len {α : Type} {n : Nat} {f : Nat → α} : (tabl n f).length = n := by rw [List.length_map, List.length_range]
theorem ixN_ok {n : Nat} {i : Nat} (h : i < n) : ixN n (i : Int) = some i := by
  unfold ixN
  rw [if_pos (by omega), if_pos (by omega)]; simp
def sumR (n : Nat) (f : Nat → Int) : Int := (tabl n f).sum
theorem sumR_succ (n : Nat) (f : Nat → Int) : sumR (n + 1) f = sumR n f + f n := by
  unfold sumR tabl
  rw [List.range_succ, List.map_append, List.sum_append]
  simp
theorem sumR_congr {n : Nat} {f g : Nat → Int} (h : ∀ i, i < n → f i = g i) : sumR n f = sumR n g := by
  induction n with
  | zero => rfl
  | succ n ih => rw [sumR_succ, sumR_succ, ih fun i hi => h i (Nat.lt_succ_of_lt hi), h n (Nat.lt_succ_self n)]
theorem sumR_add {n : Nat} {f g : Nat → Int} : sumR n (fun i => f i + g i) = sumR n f + sumR n g := by
  induction n with
  | zero => rfl
  | succ n ih => rw [sumR_succ, sumR_succ, sumR_succ, ih]; omega
theorem law_in {K : PySem.W.Frag} {c : CF} {H : Hp} {a : Addr} {ns : List Int} (hO : Only H) (hS : SqL K H a (ns.map V.int)) (h : c [(.fl, .kst (ns.map .int))] (fun z _ => z = (.fl, .bl true)) (fun _ _ => False)) :
    spOf K 1 [false] c [.ref a] H (fun v _ => v = .bl true) fun _ _ _ => False := by
  refine ⟨rfl, [(.fl, .kst (ns.map .int))], No, [], _, _, ?_, List.nodup_nil, fun a h => (nomatch h), fun _ h => h.elim, h, fun z ys v H' fp M' A' hz _ r => ?_, fun C ys H' M' A' hx _ => hx⟩
  · refine VRs.one ⟨rfl, a, ns.map V.int, rfl, ?_, RAs.of_ints ns⟩
    rcases hS with hS | hS
    · rcases hS with hS | ⟨o, hS⟩
      · rcases hO a with z | ⟨o, xs, z⟩
        · rw [z] at hS; cases hS
        · rw [z] at hS; cases hS
      · exact .inl (.inr ⟨o, lockd_mk hS⟩)
    · exact .inr hS
  · subst hz
    exact r.2
end DL

namespace DL
open PySem PySem.Spec PyProof.Rows L2
theorem hidE {α : Type _} (a : α) : ∃ b, b = a := ⟨a, rfl⟩
@[irreducible] noncomputable def hid {α : Type _} (a : α) : α := Classical.choose (hidE a)
theorem hid_eq {α : Type _} (a : α) : hid a = a := by unfold hid; exact Classical.choose_spec (hidE a)
noncomputable section
@[irreducible] def xIx : KD → KD → (KD → Prop) → Prop := hid oIx
@[irreducible] def kR1 (j : Int) (P : List KD → Prop) : Prop := hid (-1000000000000 ≤ j ∧ j ≤ 1000000000000 ∧ P (rangeD 0 j.toNat))
@[irreducible] def kR2 (i j : Int) (P : List KD → Prop) : Prop := hid ((-1000000000000 ≤ i ∧ i ≤ 1000000000000 ∧ -1000000000000 ≤ j ∧ j ≤ 1000000000000) ∧ P (rangeD i (j - i).toNat))
@[irreducible] def kLc (step : KD → (Option KD → Prop) → Prop) (zs : List KD) (P : KD → Prop) : Prop := hid (zs.length ≤ 10000000 ∧ compL step zs [] fun ys => P (jL ys, .lst (ys.map (·.2))))
@[irreducible] def kLcE (step : KD → Ro → (Option KD → Ro → Prop) → Prop) (zs : List KD) (ρ : Ro) (P : KD → Ro → Prop) : Prop := hid (zs.length ≤ 10000000 ∧ compE step zs ρ [] fun ys ρ' => P (jL ys, .lst (ys.map (·.2))) ρ')
@[irreducible] def kFor (g : GF) (body : SF) (D : DEnds) (zs : List KD) (ρ : Ro) : Prop := hid (forD g body D zs ρ)
@[irreducible] def sWhileX (t : TEF) (body : SF) : SF := hid (sWhile t body)
@[irreducible] def kPl (e j : D) (P : D → (D → D) → Prop) : Prop := hid (match e, j with
  | .lst ds, .int j => (match ixN ds.length j with
    | some n => (match ds[n]? with | some c => P c (fun c' => .lst (ds.set n c')) | none => False)
    | none => False)
  | .tup ds, .int j => (match ixN ds.length j with
    | some n => (match ds[n]? with | some c => P c (fun c' => .tup (ds.set n c')) | none => False)
    | none => False)
  | _, _ => False)
@[irreducible] def kSt : D → KD → KD → Kd → (Kd → D → Prop) → Prop := hid stIx
@[irreducible] def xPopAt : MOF := hid qPopAt
@[irreducible] def xPop : MOF := hid qPop
@[irreducible] def xExtend : MOF := hid mExtend
@[irreducible] def xRemove : MOF := hid mRemove
@[irreducible] def kLR (n : Int) (P : KD → Prop) : Prop := hid (n ≤ 1000000 ∧ -1000000 ≤ n ∧ P (.sh, .lst ((List.range n.toNat).map fun i : Nat => .int i)))
@[irreducible] def kTR (n : Int) (P : KD → Prop) : Prop := hid (n ≤ 1000000 ∧ -1000000 ≤ n ∧ P (.fl, .tup ((List.range n.toNat).map fun i : Nat => .int i)))
theorem xIx_eq : xIx = oIx := by unfold xIx; simp only [hid_eq]; try rfl
def jR1 (f : PAF) : IF := fun ρ P => f ρ fun zs => match zs with
  | [(_, .int j)] => kR1 j P
  | _ => False
theorem jR1_eq : jR1 = iR1 := by unfold jR1 kR1; simp only [hid_eq]; try rfl
def jR2 (f : PAF) : IF := fun ρ P => f ρ fun zs => match zs with
  | [(_, .int i), (_, .int j)] => kR2 i j P
  | _ => False
theorem jR2_eq : jR2 = iR2 := by unfold jR2 kR2; simp only [hid_eq]; try rfl
def pLcX (src : IF) (is : List Nat) (g : GF) (tt : PTF) (fe : PF) : PF := fun ρ P => src ρ fun zs =>
  kLc (fun z Q => g z (wipeR (rdAll ρ) is) fun ρ1 => tt ρ1 fun b => if b = true then fe ρ1 fun y => Q (some y) else Q none) zs P
theorem pLcX_eq : pLcX = pLc := by unfold pLcX kLc; simp only [hid_eq]; try rfl
def eLcX (src : IF) (is : List Nat) (g : GF) (tt : PTF) (fe : EF) : EF := fun ρ P _ => src (rdOnly ρ) fun zs => kLcE (stepE is g tt fe) zs (wipeR ρ is) P
theorem eLcX_eq : eLcX = eLc := by unfold eLcX kLcE; simp only [hid_eq]; try rfl
def sForX (src : IF) (g : GF) (body : SF) : SF := fun D ρ => src (rdOnly ρ) fun zs => kFor g body D zs ρ
theorem sForX_eq : sForX = sFor := by unfold sForX kFor; simp only [hid_eq]; try rfl
def plIxX (pl : PLF) (f : PF) : PLF := fun ρ P => pl ρ fun i k e rb => f ρ fun y => kPl e y.2 fun c r => P i .ow c fun c' => rb (r c')
theorem plIxX_eq : plIxX = plIx := by
  unfold plIxX kPl plIx
  funext pl f ρ P
  simp only [hid_eq]
  all_goals (
    refine congrArg _ (funext fun i => funext fun k => funext fun e => funext fun rb => congrArg _ (funext fun y => ?_))
    obtain ⟨ky, dy⟩ := y
    cases e <;> cases dy <;> rfl)
def sStIxX (fe : EF) (pl : PLF) (fi : PF) : SF := fun D ρ => fe ρ (fun z ρ1 => pl ρ1 fun i k e rb => fi ρ1 fun y => kSt e y z k fun k' e' => D.nx (ρ1.set i (some (k', rb e')))) D.ex
theorem sStIxX_eq : sStIxX = sStIx := by unfold sStIxX kSt; simp only [hid_eq]; try rfl
def pLR1X (f : PF) : PF := fun ρ P => f ρ fun z => match z.2 with
  | .int n => kLR n P
  | _ => False
theorem pLR1X_eq : pLR1X = pLR1 := by unfold pLR1X kLR; simp only [hid_eq]; try rfl
theorem xPopAt_eq : xPopAt = qPopAt := by unfold xPopAt; simp only [hid_eq]; try rfl
theorem xExtend_eq : xExtend = mExtend := by unfold xExtend; simp only [hid_eq]; try rfl
section
variable {K : Frg}
theorem xs_popAt : MSound K rPopAt xPopAt := xPopAt_eq ▸ ms_popAt
theorem xs_extend : MSound K rExtend xExtend := xExtend_eq ▸ ms_extend
end
theorem DP.as {X : Cx} {e : Expr} {f g : PF} (e2 : g = f) (h : DP X e f) : DP X e g := e2 ▸ h
theorem DE.as {X : Cx} {E : XK} {e : Expr} {f g : EF} (e2 : g = f) (h : DE X E e f) : DE X E e g := e2 ▸ h
theorem DS.as {X : Cx} {E : XK} {pr : List Nat} {e : Stmt} {f g : SF} (e2 : g = f) (h : DS X E pr e f) : DS X E pr e g := e2 ▸ h
theorem DI.as {X : Cx} {tg e : Expr} {f g : IF} (e2 : g = f) (h : DI X tg e f) : DI X tg e g := e2 ▸ h
theorem DPl.as {X : Cx} {e : Expr} {f g : PLF} (e2 : g = f) (h : DPl X e f) : DPl X e g := e2 ▸ h
theorem eqIx (a b : PF) : pOp xIx a b = pOp oIx a b := by rw [xIx_eq]
theorem eqSetLc (i : Nat) (src : IF) (is : List Nat) (g : GF) (tt : PTF) (fe : PF) : sSet i (eP (pLcX src is g tt fe)) = sSet i (eP (pLc src is g tt fe)) := by rw [pLcX_eq]
theorem eqSetLcE (i : Nat) (src : IF) (is : List Nat) (g : GF) (tt : PTF) (fe : EF) : sSet i (eLcX src is g tt fe) = sSet i (eLc src is g tt fe) := by rw [eLcX_eq]
theorem eq1 {α β : Type _} {f g : α → β} (h : f = g) (a : α) : f a = g a := by rw [h]
theorem eq2 {α β γ : Type _} {f g : α → β → γ} (h : f = g) (a : α) (b : β) : f a b = g a b := by rw [h]
theorem eq3 {α β γ δ : Type _} {f g : α → β → γ → δ} (h : f = g) (a : α) (b : β) (c : γ) : f a b c = g a b c := by rw [h]
theorem eq5 {α β γ δ ε ζ : Type _} {f g : α → β → γ → δ → ε → ζ} (h : f = g) (a : α) (b : β) (c : γ) (d : δ) (e : ε) : f a b c d e = g a b c d e := by rw [h]
theorem go_ix {k k' : Kd} {d0 : D} {ds : List D} {i : Int} {d : D} {P : KD → Prop} (hs : d0.seq = some ds) (h : atI ds i = some d) (p : P (kel k d)) : xIx (k, d0) (k', .int i) P := by
  rw [xIx_eq]
  cases d0 <;> cases hs
  · exact ix_tup h p
  · exact ix_lst h p
  · exact ix_kst h p
theorem go_tab {k k' : Kd} {n i : Nat} {f : Nat → D} {P : KD → Prop} (h : i < n) (p : P (kel k (f i))) : xIx (k, .tup (tabl n f)) (k', .int i) P := go_ix rfl (tabl_at h) p
theorem go_tabl {k k' : Kd} {n i : Nat} {f : Nat → D} {P : KD → Prop} (h : i < n) (p : P (kel k (f i))) : xIx (k, .lst (tabl n f)) (k', .int i) P := go_ix rfl (tabl_at h) p
theorem go_R1 {j : Int} {n : Nat} {P : List KD → Prop} (hj : j = n) (hn : n ≤ 1000000000) (p : P (rangeD 0 n)) : kR1 j P := by
  unfold kR1; rw [hid_eq]
  subst hj
  refine ⟨by omega, by omega, ?_⟩
  rw [Int.toNat_natCast]; exact p
theorem go_R2 {i j : Int} {n : Nat} {P : List KD → Prop} (hj : j - i = n) (h0 : -1000000000000 ≤ i ∧ i ≤ 1000000000000 ∧ -1000000000000 ≤ j ∧ j ≤ 1000000000000) (p : P (rangeD i n)) : kR2 i j P := by
  unfold kR2; rw [hid_eq]
  refine ⟨h0, ?_⟩
  rw [hj, Int.toNat_natCast]; exact p
theorem jT_fl : ∀ {zs : List KD}, (∀ z ∈ zs, z.1 = .fl) → jT zs = .fl
  | [], _ => rfl
  | z :: zs, h => by
    show jn z.1 (jT zs) = .fl
    rw [h z (List.mem_cons_self ..), jT_fl fun y hy => h y (List.mem_cons_of_mem _ hy)]; rfl
theorem jL_fl {zs : List KD} (h : ∀ z ∈ zs, z.1 = .fl) : jL zs = .sh := by unfold jL; rw [jT_fl h]
theorem jL_flm {α : Type} {zs : List α} {f : α → D} : jL (zs.map fun z => ((.fl, f z) : KD)) = .sh := jL_fl fun z hz => by
  obtain ⟨a, _, rfl⟩ := List.mem_map.mp hz; rfl
theorem snd_flm {α : Type} {k : Kd} {zs : List α} {f : α → D} : (zs.map fun z => ((k, f z) : KD)).map (·.2) = zs.map f := by rw [List.map_map]; rfl
theorem go_Lc0 {step : KD → (Option KD → Prop) → Prop} {n : Nat} {P : KD → Prop} (f : Nat → D) (hn : n ≤ 10000000) (hs : ∀ (i : Nat) (N : Option KD → Prop), i < n → N (some (.fl, f i)) → step (.fl, .int i) N) (h : P (.sh, .lst (tabl n f))) : kLc step (rangeD 0 n) P := by
  unfold kLc; rw [hid_eq]
  refine ⟨by rw [range_len]; exact hn, comp_range0 (fun i => (.fl, f i)) hs ?_⟩
  rw [jL_flm, snd_flm]; exact h
theorem go_Lc {step : KD → (Option KD → Prop) → Prop} {zs : List KD} {P : KD → Prop} (f : KD → D) (hn : zs.length ≤ 10000000) (hs : ∀ (i : Nat) z (N : Option KD → Prop), zs[i]? = some z → N (some (.fl, f z)) → step z N) (h : P (.sh, .lst (zs.map f))) : kLc step zs P := by
  unfold kLc; rw [hid_eq]
  refine ⟨hn, comp_map (fun z => (.fl, f z)) hs ?_⟩
  rw [jL_flm, snd_flm]; exact h
theorem go_LcT {step : KD → (Option KD → Prop) → Prop} {n : Nat} {k : Kd} {g : Nat → D} {P : KD → Prop} (f : Nat → D) (hn : n ≤ 10000000) (hs : ∀ (i : Nat) (N : Option KD → Prop), i < n → N (some (.fl, f i)) → step (kel k (g i)) N) (h : P (.sh, .lst (tabl n f))) : kLc step ((tabl n g).map (kel k)) P := by
  unfold kLc; rw [hid_eq]
  rw [List.map_map]
  refine ⟨by rw [List.length_map, List.length_range]; exact hn, comp_ind (fun i acc => acc = (List.range i).map fun j => (.fl, f j)) rfl (fun i z acc N hz hi hN _ => ?_) fun acc h2 => ?_⟩
  · have hi' : i < n := by
      have := (List.getElem?_eq_some_iff.mp hz).1
      rw [List.length_map, List.length_range] at this; exact this
    rw [List.getElem?_map, List.getElem?_range hi'] at hz
    have e : kel k (g i) = z := Option.some.inj hz
    subst e
    refine hs i N hi' (hN _ ?_)
    rw [hi, List.range_succ, List.map_append]; rfl
  · rw [List.length_map, List.length_range] at h2
    rw [h2, jL_flm, snd_flm]; exact h
theorem go_For {g : GF} {body : SF} {D : DEnds} {zs : List KD} {ρ : Ro} (I : Nat → Ro → Prop) (h0 : I 0 ρ)
    (hs : ∀ (i : Nat) z ρ (N : Ro → Prop), zs[i]? = some z → I i ρ → (∀ ρ', I (i + 1) ρ' → N ρ') → g z ρ fun ρ1 => body { D with nx := N } ρ1) (he : ∀ ρ, I zs.length ρ → D.nx ρ) : kFor g body D zs ρ := by
  unfold kFor; rw [hid_eq]; exact for_ind I h0 hs he
theorem go_For0 {g : GF} {body : SF} {D : DEnds} {n : Nat} {ρ : Ro} (I : Nat → Ro → Prop) (h0 : I 0 ρ)
    (hs : ∀ (i : Nat) ρ (N : Ro → Prop), i < n → I i ρ → (∀ ρ', I (i + 1) ρ' → N ρ') → g (.fl, .int i) ρ fun ρ1 => body { D with nx := N } ρ1) (he : ∀ ρ, I n ρ → D.nx ρ) : kFor g body D (rangeD 0 n) ρ := by
  unfold kFor; rw [hid_eq]; exact for_range0 I h0 hs he
theorem go_LcE {step : KD → Ro → (Option KD → Ro → Prop) → Prop} {zs : List KD} {ρ : Ro} {P : KD → Ro → Prop} (I : Nat → Ro → List KD → Prop) (hn : zs.length ≤ 10000000) (h0 : I 0 ρ [])
    (hs : ∀ (i : Nat) z ρ acc (N : Option KD → Ro → Prop), zs[i]? = some z → I i ρ acc → (∀ y ρ', I (i + 1) ρ' (acc ++ [y]) → N (some y) ρ') → (∀ ρ', I (i + 1) ρ' acc → N none ρ') → step z ρ N) (he : ∀ ρ acc, I zs.length ρ acc → P (jL acc, .lst (acc.map (·.2))) ρ) : kLcE step zs ρ P := by
  unfold kLcE; rw [hid_eq]; exact ⟨hn, compE_ind I h0 hs fun ρ acc h => he ρ acc h⟩
theorem tabl_congr {α : Type} {n : Nat} {f g : Nat → α} (h : ∀ i, i < n → f i = g i) : tabl n f = tabl n g := List.map_congr_left fun i hi => h i (List.mem_range.mp hi)
theorem go_LcEA {α : Type} [Inhabited α] (F : α → D) {step : KD → Ro → (Option KD → Ro → Prop) → Prop} {n : Nat} {ρ : Ro} {P : KD → Ro → Prop} (I : Nat → Ro → Prop) (C : Nat → α → Prop) (hn : n ≤ 10000000) (h0 : I 0 ρ)
    (hs : ∀ (i : Nat) ρ (N : Option KD → Ro → Prop), i < n → I i ρ → (∀ c ρ', C i c → I (i + 1) ρ' → N (some (.fl, F c)) ρ') → step (.fl, .int i) ρ N)
    (he : ∀ (g : Nat → α) ρ, (∀ i, i < n → C i (g i)) → I n ρ → P (.sh, .lst (tabl n fun i => F (g i))) ρ) : kLcE step (rangeD 0 n) ρ P := by
  refine go_LcE (fun i ρ acc => I i ρ ∧ ∃ g : Nat → α, (∀ j, j < i → C j (g j)) ∧ acc = (List.range i).map fun j => (.fl, F (g j))) (by rw [range_len]; exact hn) ⟨h0, fun _ => default, fun j h => absurd h (Nat.not_lt_zero _), rfl⟩ (fun i z ρ acc N hz hi hN _ => ?_) fun ρ acc h => ?_
  · obtain ⟨hi', rfl⟩ := range_get hz
    rw [Int.zero_add]
    obtain ⟨hI, g, hg, rfl⟩ := hi
    refine hs i ρ N hi' hI fun c ρ' h1 h2 => hN _ ρ' ⟨h2, fun j => if j = i then c else g j, fun j hj => ?_, ?_⟩
    · show C j (if j = i then c else g j)
      by_cases e : j = i
      · rw [if_pos e, e]; exact h1
      · rw [if_neg e]; exact hg j (by omega)
    · rw [List.range_succ, List.map_append]
      refine congr (congrArg _ (List.map_congr_left fun j hj => ?_)) ?_
      · have := List.mem_range.mp hj
        show ((Kd.fl, F (g j)) : KD) = (.fl, F (if j = i then c else g j))
        rw [if_neg (by omega)]
      · show [((Kd.fl, F c) : KD)] = [(.fl, F (if i = i then c else g i))]
        rw [if_pos rfl]
  · obtain ⟨hI, g, hg, rfl⟩ := h
    rw [range_len] at hI hg ⊢
    rw [jL_flm, snd_flm]
    exact he g ρ hg hI
theorem getD_lt {α : Type} {l : List α} {i : Nat} {d : α} (h : i < l.length) : l.getD i d = l[i] := by
  rw [List.getD_eq_getElem?_getD, List.getElem?_eq_getElem h]; rfl
theorem list_tabl {α β : Type} {ps : List α} {n : Nat} (d : α) (f : α → β) (h : ps.length = n) : ps.map f = tabl n fun i => f (ps.getD i d) := by
  refine List.ext_getElem? fun i => ?_
  by_cases hi : i < n
  · rw [tabl_get hi, List.getElem?_map, List.getElem?_eq_getElem (by omega), getD_lt (by omega)]; rfl
  · rw [List.getElem?_eq_none (by rw [List.length_map]; omega), List.getElem?_eq_none (by rw [tabl_len]; omega)]
theorem go_pl {d0 : D} {i : Int} {j : Nat} {ds : List D} {c : D} {P : D → (D → D) → Prop} (hd : d0 = .lst ds) (hj : ixN ds.length i = some j) (hc : ds[j]? = some c) (p : P c fun c' => .lst (ds.set j c')) : kPl d0 (.int i) P := by
  subst hd
  unfold kPl; rw [hid_eq]
  show (match ixN ds.length i with
    | some n => (match ds[n]? with | some c => P c (fun c' => .lst (ds.set n c')) | none => False)
    | none => False)
  rw [hj]
  show (match ds[j]? with | some c => P c (fun c' => .lst (ds.set j c')) | none => False)
  rw [hc]; exact p
theorem go_st {ds : List D} {k' : Kd} {i : Int} {j : Nat} {z : KD} {k : Kd} {P : Kd → D → Prop} (hz : ownK z.1 = true) (hj : ixN ds.length i = some j) (p : P (nk k z.1) (.lst (ds.set j z.2))) : kSt (.lst ds) (k', .int i) z k P := by
  unfold kSt; rw [hid_eq]
  refine ⟨hz, ?_⟩
  show (match ixN ds.length i with
    | some n => P (nk k z.1) (.lst (ds.set n z.2))
    | none => False)
  rw [hj]; exact p
theorem set_tabl {α : Type} {n j : Nat} {f : Nat → α} {x : α} : (tabl n f).set j x = tabl n fun i => if i = j then x else f i := by
  refine List.ext_getElem? fun i => ?_
  by_cases hi : i < n
  · rw [tabl_get hi]
    by_cases e : i = j
    · subst e
      rw [List.getElem?_set_self (by rw [tabl_len]; exact hi), if_pos rfl]
    · rw [List.getElem?_set_ne (fun h => e h.symm), tabl_get hi, if_neg e]
  · rw [List.getElem?_eq_none (by rw [List.length_set, tabl_len]; omega), List.getElem?_eq_none (by rw [tabl_len]; omega)]
theorem go_stT {n : Nat} {f : Nat → D} {k' : Kd} {j : Nat} {z : KD} {k : Kd} {P : Kd → D → Prop} (hz : ownK z.1 = true) (hj : j < n) (p : P (nk k z.1) (.lst (tabl n fun i => if i = j then z.2 else f i))) : kSt (.lst (tabl n f)) (k', .int j) z k P :=
  go_st hz (by rw [tabl_len]; exact ixN_ok hj) (by rw [set_tabl]; exact p)
theorem go_popAt {k k' : Kd} {ds : List D} {i : Int} {j : Nat} {d : D} {P : KD → Kd → D → Prop} (hk : k = .sh ∨ k = .ow) (hn : ds.length ≤ 10000000) (hj : ixN ds.length i = some j) (hd : ds[j]? = some d) (p : P (kmv (if k = .sh then .fl else .ow) d) (nk k .fl) (.lst (ds.eraseIdx j))) : xPopAt k (.lst ds) [(k', .int i)] P := by
  unfold xPopAt; rw [hid_eq]
  refine ⟨hk, hn, ?_⟩
  show (match ixN ds.length i with
    | some n => (match ds[n]? with
      | some d => P (kmv (if k = .sh then .fl else .ow) d) (nk k .fl) (.lst (ds.eraseIdx n))
      | none => False)
    | none => False)
  rw [hj]
  show (match ds[j]? with
      | some d => P (kmv (if k = .sh then .fl else .ow) d) (nk k .fl) (.lst (ds.eraseIdx j))
      | none => False)
  rw [hd]; exact p
theorem go_extend {k kz : Kd} {ds es : List D} {P : KD → Kd → D → Prop} (hk : kz = .sh ∨ kz = .sa ∨ kz = .ow) (hn : ds.length + es.length ≤ 10000000) (p : P (.fl, .non) (nk k (if kz = .ow then .ow else .fl)) (.lst (ds ++ es))) : xExtend k (.lst ds) [(kz, .lst es)] P := by
  unfold xExtend; rw [hid_eq]; exact ⟨hk, hn, p⟩
theorem go_LR {n : Nat} {i : Int} {P : KD → Prop} (hi : i = n) (hn : n ≤ 1000000) (p : P (.sh, .lst (tabl n fun i : Nat => .int i))) : kLR i P := by
  subst hi
  unfold kLR; rw [hid_eq]
  refine ⟨by omega, by omega, ?_⟩
  rw [Int.toNat_natCast]; exact p
end
end DL

namespace DL
open PySem PySem.Spec PyProof.Rows L2
noncomputable section
section
variable {X : Cx} {E : XK} {pos : Pos} {a b : Expr} {fa fb : EF}
end
theorem go_ForL {α : Type} {L : List α} {F : α → DL.D} {k : Kd} {g : GF} {body : SF} {D : DEnds} {ρ : Ro} (I : Nat → Ro → Prop) (h0 : I 0 ρ)
    (hs : ∀ (i : Nat) a ρ (N : Ro → Prop), L[i]? = some a → I i ρ → (∀ ρ', I (i + 1) ρ' → N ρ') → g (kel k (F a)) ρ fun ρ1 => body { D with nx := N } ρ1) (he : ∀ ρ, I L.length ρ → D.nx ρ) : kFor g body D ((L.map F).map (kel k)) ρ := by
  refine go_For I h0 (fun i z ρ N hz hi hN => ?_) fun ρ h => he ρ (by rw [List.length_map, List.length_map] at h; exact h)
  rw [List.map_map, List.getElem?_map] at hz
  cases e : L[i]? with
  | none => rw [e] at hz; cases hz
  | some a =>
    rw [e] at hz
    have e2 : kel k (F a) = z := Option.some.inj hz
    subst e2
    exact hs i a ρ N e hi hN
theorem go_LcL {α : Type} {L : List α} {G : α → D} {k : Kd} {step : KD → (Option KD → Prop) → Prop} {P : KD → Prop} (f : α → D) (hn : L.length ≤ 10000000)
    (hs : ∀ (i : Nat) a (N : Option KD → Prop), L[i]? = some a → N (some (.fl, f a)) → step (kel k (G a)) N) (h : P (.sh, .lst (L.map f))) : kLc step ((L.map G).map (kel k)) P := by
  unfold kLc; rw [hid_eq]
  refine ⟨by rw [List.length_map, List.length_map]; exact hn, comp_ind (fun i acc => acc = (L.take i).map fun a => (.fl, f a)) rfl (fun i z acc N hz hi hN _ => ?_) fun acc h2 => ?_⟩
  · rw [List.map_map, List.getElem?_map] at hz
    cases e : L[i]? with
    | none => rw [e] at hz; cases hz
    | some a =>
      rw [e] at hz
      have e2 : kel k (G a) = z := Option.some.inj hz
      subst e2
      refine hs i a N e (hN _ ?_)
      rw [hi, take_succ_map e]
  · rw [List.length_map, List.length_map, List.take_length] at h2
    rw [h2, jL_flm, snd_flm]; exact h
theorem go_LcF0 {step : KD → (Option KD → Prop) → Prop} {n : Nat} {P : KD → Prop} (s : Nat → Bool) (f : Nat → D) (hn : n ≤ 10000000)
    (hs : ∀ (i : Nat) (N : Option KD → Prop), i < n → (s i = true → N (some (.fl, f i))) → (s i = false → N none) → step (.fl, .int i) N) (h : P (.sh, .lst (((List.range n).filter s).map f))) : kLc step (rangeD 0 n) P := by
  unfold kLc; rw [hid_eq]
  refine ⟨by rw [range_len]; exact hn, comp_ind (fun i acc => acc = ((List.range i).filter s).map fun j => (.fl, f j)) rfl (fun i z acc N hz hi hN hN0 => ?_) fun acc h2 => ?_⟩
  · obtain ⟨hi', rfl⟩ := range_get hz
    rw [Int.zero_add]
    refine hs i N hi' (fun e => hN _ ?_) fun e => hN0 ?_
    · rw [hi, List.range_succ, List.filter_append, List.map_append]
      show _ = _ ++ List.map _ (List.filter s [i])
      rw [List.filter_cons_of_pos e]; rfl
    · rw [hi, List.range_succ, List.filter_append, List.map_append]
      show _ = _ ++ List.map _ (List.filter s [i])
      rw [List.filter_cons_of_neg (by rw [e]; decide)]; exact (List.append_nil _).symm
  · rw [range_len] at h2
    rw [h2, jL_flm, snd_flm]; exact h
end
end DL

namespace DL
open PySem PySem.Spec PyProof.Rows L2
open AutoSeq1 (wpAny_loadPart')
section
variable {prog : Program} {w : World} {A : Around} {E : Value → Shared → Prop} {s : Shared}
end
section
variable {K : Frg} {B : Addr → Prop} {H H' : Hp} {Z : Addr → Prop}
theorem OkZ.refl : OkZ Z H H := fun _ _ h _ => h
def enumD (k : Kd) (ds : List D) : List KD := ds.mapIdx fun i d => (k.el, .tup [.int i, d])
end
def iEn (f : PAF) : IF := fun ρ P => f ρ fun zs => match zs with
  | [(k, d)] => (match d.seq with
    | some ds => P (enumD k ds)
    | none => False)
  | _ => False
section
variable {X : Cx}
end
end DL

namespace DL
open PySem PySem.Spec PyProof.Rows L2
noncomputable section
def sPar (i j : Nat) (g : AEF) : SF := fun D ρ => g ρ (fun avs ρ1 => match avs with
  | [.v a, .v b] => D.nx ((ρ1.set i (some a)).set j (some b))
  | _ => False) D.ex
section
variable {X : Cx} {E : XK} {pr : List Nat} {pos : Pos}
theorem ds_par (i j : Nat) {x y : Str} {a b : Expr} {g : AEF} {px py pt : Pos} {kt k2 pt2} (hc : X.calm = true) (hN : X.N.Nodup) (ha : DAE X E [a, b] 2 g) (hpi : i ∉ pr := by decide) (hpj : j ∉ pr := by decide) (hij : i ≠ j := by decide) (hi : X.N[i]? = some x := by rfl) (hj : X.N[j]? = some y := by rfl)
    (hx : X.env.scope.names.lookup x = some .local := by rfl) (hy : X.env.scope.names.lookup y = some .local := by rfl)
    (hw : swappedStores [.Tuple [.Name x px, .Name y py] kt pt] (.Tuple [a, b] k2 pt2) X.env = pure (some [x, y]) := by rfl)
    (hs : swapsWithSole [.Tuple [.Name x px, .Name y py] kt pt] (.Tuple [a, b] k2 pt2) pos.line X.env = pure false := by rfl) : DS X E pr (.Assign [.Tuple [.Name x px, .Name y py] kt pt] (.Tuple [a, b] k2 pt2) pos) (sPar i j g) := by
  obtain ⟨ta, ea, sa⟩ := ha.run
  refine ⟨_, ps_par hc hN hi hj hij hx hy ea hw hs, fun σ H A ρ ow T D gd h nx rt ex => ?_⟩
  refine sa σ H A ρ ow _ _ _ gd h (fun avs ρ1 vs H1 fp ow1 A1 hl h1 st1 g1 r nd dis => ?_) fun C ρ1 H1 ow1 A1 h1 st1 g1 => ex C ρ1 σ H1 ow1 A1 h1 st1 g1 fun _ _ => rfl
  split at h1
  · rename_i za zb
    obtain ⟨v, ws, f1, f2, rfl, rfl, r1, w, ws', f3, f4, rfl, rfl, r2, rfl, rfl⟩ := r
    rw [List.append_nil] at nd dis st1
    have nd2 := nd
    rw [List.append_assoc] at nd2
    obtain ⟨n1, n2, n3⟩ := List.nodup_append.mp nd2
    obtain ⟨ow2, g2, s2⟩ := g1.put (i := i) ⟨r1, (List.nodup_append.mpr ⟨n1, (List.nodup_append.mp n2).2.1, fun a ha b hb => n3 a ha b (List.mem_append_right _ hb)⟩), fun a ha => dis a (List.mem_append_left _ ha)⟩
    have hnd : (f3 ++ ow2).Nodup := List.nodup_append.mpr ⟨(List.nodup_append.mp n2).1, g2.nd, fun a ha b hb => by
      rcases s2 b hb with z | z
      · exact (List.nodup_append.mp n2).2.2 a ha b z
      · exact fun e => n3 b z a (List.mem_append_left _ ha) e.symm⟩
    obtain ⟨ow3, g3, s3⟩ := g2.put (i := j) ⟨r2, hnd, fun a ha => dis a (List.mem_append_right _ ha)⟩
    refine ⟨v, w, rfl, nx _ _ H1 ow3 A1 h1 (st1.sub fun a ha => ?_) g3 fun k hk => ?_⟩
    · rcases s3 a ha with z | z
      · rcases s2 a z with z | z
        · exact List.mem_append_right _ z
        · exact List.mem_append_left _ (List.mem_append_left _ z)
      · exact List.mem_append_left _ (List.mem_append_right _ z)
    · rw [set_ne_pr hpj k hk, set_ne_pr hpi k hk]
  · exact h1.elim
end
def kO : Nat → Kd
  | 0 => .sh
  | _ + 1 => .ow
theorem kO_cases (n : Nat) : kO n = .sh ∨ kO n = .ow := by cases n <;> first | exact .inl rfl | exact .inr rfl
theorem jT_ow : ∀ {zs : List KD}, (∀ z ∈ zs, z.1 = .sh ∨ z.1 = .ow) → zs ≠ [] → jT zs = .ow
  | [], _, h => absurd rfl h
  | [z], h, _ => by
    show jn z.1 .fl = .ow
    rcases h z (List.mem_singleton.mpr rfl) with e | e <;> rw [e] <;> rfl
  | z :: y :: zs, h, _ => by
    show jn z.1 (jT (y :: zs)) = .ow
    rw [jT_ow (zs := y :: zs) (fun w hw => h w (List.mem_cons_of_mem _ hw)) (by simp)]
    rcases h z (List.mem_cons_self ..) with e | e <;> rw [e] <;> rfl
theorem jL_sh {n : Nat} {f : Nat → D} : jL ((List.range n).map fun i => ((.sh, f i) : KD)) = kO n := by
  cases n with
  | zero => rfl
  | succ n =>
    unfold jL
    rw [jT_ow (fun z hz => by obtain ⟨a, _, rfl⟩ := List.mem_map.mp hz; exact .inl rfl) (by rw [List.range_succ]; simp)]
    rfl
theorem go_LcST {step : KD → (Option KD → Prop) → Prop} {n : Nat} {k : Kd} {g : Nat → D} {P : KD → Prop} (f : Nat → D) (hn : n ≤ 10000000) (hs : ∀ (i : Nat) (N : Option KD → Prop), i < n → N (some (.sh, f i)) → step (kel k (g i)) N) (h : P (kO n, .lst (tabl n f))) : kLc step ((tabl n g).map (kel k)) P := by
  unfold kLc; rw [hid_eq]
  rw [List.map_map]
  refine ⟨by rw [List.length_map, List.length_range]; exact hn, comp_ind (fun i acc => acc = (List.range i).map fun j => (.sh, f j)) rfl (fun i z acc N hz hi hN _ => ?_) fun acc h2 => ?_⟩
  · have hi' : i < n := by
      have := (List.getElem?_eq_some_iff.mp hz).1
      rw [List.length_map, List.length_range] at this; exact this
    rw [List.getElem?_map, List.getElem?_range hi'] at hz
    have e : kel k (g i) = z := Option.some.inj hz
    subst e
    refine hs i N hi' (hN _ ?_)
    rw [hi, List.range_succ, List.map_append]; rfl
  · rw [List.length_map, List.length_range] at h2
    rw [h2, jL_sh, snd_flm]; exact h
theorem RA.no_flat {K : Frg} {A : Addr → Prop} {H : Hp} {d : D} {v : V} (h : RA K A H d v) (e : d.flat1 = true) : RA K No H d v := by
  cases d <;> first | exact h | cases e
theorem RAs.no_flat {K : Frg} {A : Addr → Prop} {H : Hp} : ∀ {ds : List D} {vs : List V}, RAs K A H ds vs → ds.all D.flat1 = true → RAs K No H ds vs
  | [], _, h, _ => h
  | d :: ds, _, ⟨w, ws, e, h, t⟩, c => by
    rw [List.all_cons, Bool.and_eq_true] at c
    exact ⟨w, ws, e, h.no_flat c.1, RAs.no_flat t c.2⟩
def oTupleF : List KD → (KD → Prop) → Prop := fun zs P => match zs with
  | [(_, d)] => (match d.seq with
    | some ds => ds.all D.flat1 = true ∧ P (.fl, .tup ds)
    | none => False)
  | _ => False
section
variable {K : Frg}
theorem cs_tupleF : CallS K (fun xs H Q => ∃ p ys, xs = [.ref p] ∧ ((SqL K H p ys ∧ ∀ l, H l = none → Q (.ref l) (upd H l (.tup ys))) ∨ (SqT K H p ys ∧ Q (.ref p) H))) oTupleF := by
  intro B F H vs xs P Q pr hF h q
  unfold oTupleF at h
  split at h
  · rename_i k d
    obtain ⟨v, ev, p⟩ := pr.get1
    cases e : d.seq with
    | none => rw [e] at h; exact h.elim
    | some ds =>
      rw [e] at h
      obtain ⟨c, hP⟩ := h
      obtain ⟨a, us, ea, t, r⟩ := p.seq e
      subst ev ea
      refine ⟨a, us, rfl, ?_⟩
      have r0 : RAs K No H ds us := RAs.no_flat (RAs.elor (B := B) (F := F) r) c
      rcases t with t | t
      · exact .inl ⟨t, fun l hl => q _ _ _ hP (same_upd hl) (pr_tup (k := .fl) r0 hl)⟩
      · exact .inr ⟨t, q _ _ H hP (Same.refl H) (.fl ⟨a, us, rfl, t, r0⟩)⟩
  · exact h.elim
end
end
end DL

namespace DL
open PySem PySem.Spec PyProof.Rows L2
noncomputable section
@[irreducible] def kNext (f : SF) (D : DEnds) (ρ : Ro) : Prop := hid (f D ρ)
def sBar (f : SF) : SF := fun D ρ => kNext f D ρ
theorem sBar_eq (f : SF) : sBar f = f := by
  unfold sBar kNext
  simp only [hid_eq]
theorem ds_bar {X : Cx} {E : XK} {pr : List Nat} {st : List Stmt} {f : SF} (h : DSs X E pr st f) : DSs X E pr st (sBar f) := (sBar_eq f).symm ▸ h
theorem go_next {f : SF} {D : DEnds} {ρ : Ro} (h : f D ρ) : kNext f D ρ := by
  unfold kNext; rw [hid_eq]; exact h
end
end DL

namespace DL
open PySem PySem.Spec PyProof.Rows L2
noncomputable section
section
variable {X : Cx} {E : XK} {pr : List Nat} {pos : Pos}
def tForJ (g : TG) (tb : TS) (T : Ends) (J : It) (σ : L2.St) (H1 : Hp) : Prop :=
  ∃ W : Nat → Nat → L2.St → Hp → Prop, (∃ m, W 0 m σ H1) ∧ ∀ (i m : Nat) (σ : L2.St) (H : Hp), W i m σ H → J.stop i H ∧ T.nx σ H ∨ J.go i H ∧ ∃ N : L2.St → Hp → Prop, (∀ (σ' : L2.St) (H' : Hp), N σ' H' → ∃ m', m' < m ∧ W (i + 1) m' σ' H') ∧
    ∀ (x : V) (H' : Hp), J.yld i H x H' → g x σ H' fun σ2 H2 => tb { nx := N, rt := T.rt, bk := T.nx, ct := N } σ2 H2
theorem kFor_eq (g : GF) (f : SF) (D : DEnds) (zs : List KD) (ρ : Ro) : kFor g f D zs ρ = forD g f D zs ρ := by unfold kFor; rw [hid_eq]
theorem for_core {K : Frg} {tgT : TG} {is : List Nat} {g : GF} {tb : TS} {f : SF} {A B : Addr → Prop} {H0 H1 : Hp} {σ : L2.St} {ρ : Ro} {ow ow0 : List Addr} {T : Ends} {D : DEnds} {zs : List KD} {J : It} {A0 : Addr → Prop}
    (sg : GSound K is tgT g) (sb : SSound K E pr tb f) (hpr : (is.all fun i => !pr.contains i) = true) (gd : Good K A H1 ρ σ ow) (st0 : Stp H0 ow0 A0 H1 ow A)
    (wk : Walks K J (OkZ (fun a => a ∈ ow) H1) B zs) (hB : ∀ a, B a → A a) (hz : forD g f D zs ρ)
    (nx : ∀ ρ' σ' H' ow' A', D.nx ρ' → Stp H0 ow0 A0 H' ow' A' → Good K A' H' ρ' σ' ow' → (∀ i ∈ pr, σ'[i]? = σ[i]?) → T.nx σ' H')
    (rt : ∀ z ρ' v σ' H' fp ow' A', D.rt z ρ' → Stp H0 ow0 A0 H' (fp ++ ow') A' → Good K A' H' ρ' σ' ow' → Own K A' H' z v fp ow' → (∀ i ∈ pr, σ'[i]? = σ[i]?) → T.rt v H')
    (ex : ∀ C ρ' σ' H' ow' A', D.ex C ρ' → Stp H0 ow0 A0 H' ow' A' → Good K A' H' ρ' σ' ow' → (∀ i ∈ pr, σ'[i]? = σ[i]?) → E (.ref (He.ga K C)) none H') :
    tForJ tgT tb T J σ H1 := by
  obtain ⟨G, Y, walk, hG, hY⟩ := wk
  refine for_it walk (fun i σ' H' => ∃ ρ' ow' A', Good K A' H' ρ' σ' ow' ∧ Stp H1 ow A H' ow' A' ∧ forD g f D (zs.drop i) ρ' ∧ ∀ j ∈ pr, σ'[j]? = σ[j]?) ⟨ρ, ow, _, gd, Stp.refl, hz, fun _ _ => rfl⟩ ?_ ?_ ?_
  · rintro i σ' H' _ ⟨ρ', ow', A', _, st, _⟩
    exact hG H' fun a o e n => st.same a o e n
  · rintro i x σ' H' H2 hi ⟨ρ', ow', A', g', st, hf, hpr'⟩ y
    have hzi : zs[i]? = some zs[i] := List.getElem?_eq_getElem hi
    obtain ⟨s2, vz⟩ := hY i H' x H2 zs[i] hzi (fun a o e n => st.same a o e n) y
    rw [List.drop_eq_getElem_cons hi] at hf
    have hstep : g zs[i] ρ' fun ρ1 => f { D with nx := fun ρ' => forD g f D (zs.drop (i + 1)) ρ' } ρ1 := hf
    have vA : VR K A' H2 zs[i] x [] := vz.mono fun a h => st.up a (hB a h)
    refine sg x zs[i] [] σ' H2 A' ρ' ow' _ _ (g'.same s2) ⟨vA, by simpa using g'.nd, fun a h => (nomatch h)⟩ hstep fun ρ1 σ1 ow1 h1 g1' sub1 w1 => ?_
    have st1 : Stp H1 ow A H2 ow1 A' := (st.trans (Stp.of_same s2)).sub fun a h => by
      rcases sub1 a h with h | h
      · exact h
      · cases h
    have pr1 : ∀ j ∈ pr, σ1[j]? = σ[j]? := fun j hj => by
      have hl : σ1.length = σ'.length := by rw [← wipe_length σ1 is, w1, wipe_length]
      have e : (wipe σ1 is)[j]? = (wipe σ' is)[j]? := by rw [w1]
      have nj : j ∉ is := fun z => by
        have := List.all_eq_true.mp hpr j z
        simp [hj] at this
      rw [wipe_get, wipe_get, if_neg (fun z => nj z.1), if_neg (fun z => nj z.1)] at e
      exact e.trans (hpr' j hj)
    refine sb σ1 H2 A' ρ1 ow1 _ _ g1' h1 (fun ρ3 σ3 H3 ow3 A3 h3 st3 g3 p3 => ⟨ρ3, ow3, A3, g3, st1.trans st3, h3, fun j hj => (p3 j hj).trans (pr1 j hj)⟩) (fun z ρ3 v σ3 H3 fp ow3 A3 h3 st3 g3 o3 p3 => ?_) (fun C ρ3 σ3 H3 ow3 A3 h3 st3 g3 p3 => ?_)
    · exact rt z ρ3 v σ3 H3 fp ow3 A3 h3 (st0.trans (st1.trans st3)) g3 o3 fun j hj => (p3 j hj).trans (pr1 j hj)
    · exact ex C ρ3 σ3 H3 ow3 A3 h3 (st0.trans (st1.trans st3)) g3 fun j hj => (p3 j hj).trans (pr1 j hj)
  · rintro σ' H' ⟨ρ', ow', A', g', st, hf, hpr'⟩
    rw [List.drop_eq_nil_of_le (Nat.le_refl _)] at hf
    exact nx ρ' σ' H' ow' A' hf (st0.trans st) g' hpr'
end
end
end DL

namespace DL
open PySem PySem.Spec PyProof PyProof.Rows L2
structure RoomG (k : Nat) (A : Around) : Prop where
  room : Room k A
  free : A.guards = some []
theorem RoomG.mono {j k : Nat} {A : Around} (h : RoomG k A) (l : j ≤ k) : RoomG j A := ⟨h.room.mono l, h.free⟩
theorem RoomG.units {k : Nat} {A : Around} (h : RoomG k A) : A.units + 64 < cLine := h.room.units
theorem RoomG.deeper {k : Nat} {A : Around} (h : RoomG (k + 1) A) (env : Env) : RoomG k (A.deeper env) := ⟨h.room.deeper env, h.free⟩
structure GOk (P : Program) (w : World) (K : PySem.W.Frag) (mg : Str → Option Value) (base : Heap) (CX : CXT) (k : Nat) (f : Addr) (ps : List Str) (sp : Sp) : Prop where
  len : ∀ (vs : List V) (H : Hp) (Q : VK) (E : XK), sp vs H Q E → vs.length = ps.length
  run : ∀ (A : Around) (outer : List Env) (s : Shared) (H : Hp) (us : List Value) (vs : List V) (Q : VK) (E : XK), RoomG k A → Env0 P w K mg base A outer s H → Vals vs us → sp vs H Q E →
    codeAny (model P w) A (.call (.ref f) { pos := us }) (CR CX outer P w H s Q E) s
theorem GOk.mono {P : Program} {w : World} {K : PySem.W.Frag} {mg : Str → Option Value} {base : Heap} {CX : CXT} {j k : Nat} {f : Addr} {ps : List Str} {sp : Sp} (h : GOk P w K mg base CX j f ps sp) (l : j ≤ k) : GOk P w K mg base CX k f ps sp :=
  ⟨h.len, fun A outer s H us vs Q E hr => h.run A outer s H us vs Q E (hr.mono l)⟩
abbrev BndG (x qual : Str) (params : Arguments) (body : List Stmt) (scope : Scope) (ps : List Str) : Prop := ∀ (kV doc pm : Value) (an : Option Addr) (cdv ct : Value) (us : List Value), us.length = ps.length →
  bindArgs (PySem.W.fnOf x qual params body scope .none kV doc pm an cdv ct) ⟨us, []⟩ = pure (ps.zip us)
theorem gok_of {P : Program} {w : World} {K : PySem.W.Frag} {mg : Str → Option Value} {base : Heap} {x qual : Str} {params : Arguments} {body : List Stmt} {scope : Scope} {f : Addr} {fd : FuncData} {CX : CXT} {N ps : List Str} {k : Nat} {sp : Sp}
    (F : FunD K x qual params body scope [] [] f fd) (B : BndG x qual params body scope ps) (S : FnScope N ps scope) (hl : ∀ (vs : List V) (H : Hp) (Q : VK) (E : XK), sp vs H Q E → vs.length = ps.length)
    (hb : ∀ (cdv : Value) (A : Around) (outer : List Env) (s : Shared) (H : Hp) (vs : List V) (Q : VK) (E : XK), RoomG k (A.deeper (envOfC qual scope s.heap.objs.size f cdv)) → sp vs H Q E →
      ∃ t, PSs (cxOf CX P w K mg base N qual scope f cdv A outer s H E) body t ∧ t { nx := fun _ H' => Q V.non H', rt := Q } (L2.start N vs) H) :
    GOk P w K mg base CX (k + 1) f ps sp := by
  refine ⟨hl, fun A outer s H us vs Q E hr E0 hv h => ?_⟩
  obtain ⟨oc, od, dV, kV, doc, pm, an, cdv, ct, osl, efd, hlk, hcd, hdv, _⟩ := F.ex
  have edv : dV = .none := by
    rcases hdv with ⟨_, e⟩ | ⟨e, _⟩
    · exact e
    · exact absurd rfl e
  subst edv efd
  have keep : ∀ b o, base.get? b = some o → s.heap.get? b = some o := fun b o e => (E0.bs b o e).1
  have kin : K.In s.heap := E0.mod.kin.keeps keep
  have lenV : us.length = ps.length := by rw [← hl vs H Q E h, hv.length]
  obtain ⟨t, pt, st⟩ := hb cdv A outer s H vs Q E (hr.deeper _) h
  refine codeAny_call_cells (o := ⟨oc, od, _, osl⟩) (fd := PySem.W.fnOf x qual params body scope .none kV doc pm an cdv ct) (body := body) (binds := ps.zip us) hr.room.depth (kin f _ hlk) rfl (E0.mod.nolimit.keeps keep) (PySem.W.codeRec_of kin hcd) rfl
    (B kV doc pm an cdv ct us lenV) rfl (fun y hy => ?_) (fun s1 hin => ?_) S.co S.gen S.kind
  · have hp := List.of_mem_zip (a := y.1) (b := y.2) hy
    rcases S.par y.1 hp.1 with e | e
    · exact .inl e
    · exact .inr ⟨e, PySem.W.cellsFrom_some _ _ _ (.inl e)⟩
  · have I : L2.Inv (cxOf CX P w K mg base N qual scope f cdv A outer s H E) [] (L2.start N vs) H s1 := inv_start S hr.room.hd E0 (hl vs H Q E h) hv hin
    refine wpAny_mono (pt.run [] s1 _ H _ I st) (fun fl s' hq => ?_) fun e s' hq => hq
    match fl, hq with
    | .next, ⟨σ', H', I', q⟩ => exact ⟨.non, H', I'.os, I'.bare, I'.base, I'.hok, rfl, q⟩
    | .brk, ⟨σ', H', I', q⟩ => exact q.elim
    | .cont, ⟨σ', H', I', q⟩ => exact q.elim
    | .ret u, ⟨v, σ', H', I', r, q⟩ => exact ⟨v, H', I'.os, I'.bare, I'.base, I'.hok, r, q⟩
theorem run_gok {X : Cx} {CX : CXT} {k : Nat} {f : Addr} {ps : List Str} {sp : Sp} {E : XK} {pins : List (Addr × Obj)} {σ : L2.St} {H : Hp} {s : Shared} {Q : VK} {us : List Value} {vs : List V}
    (F : GOk X.prog X.w X.K X.mg X.base CX k f ps sp) (hr : RoomG k X.A) (hx : Passes CX X E) (I : L2.Inv X pins σ H s) (r : Vals vs us) (h : sp vs H Q E) : wpAny (model X.prog X.w) X.A (call (.ref f) us) (EP X pins σ Q) X.xe s := by
  refine wpAny_call (codeAny_mono (F.run X.A X.stack s H us vs Q E hr I.env0 r h) fun rs s' hq => ?_)
  match rs, hq with
  | .error e, hq => exact hx pins σ H s e s' I hq
  | .ok .next, hq => exact hq.elim
  | .ok .brk, hq => exact hq.elim
  | .ok .cont, hq => exact hq.elim
  | .ok (.ret u), hq => exact I.after hq
theorem pe_gok {X : Cx} {CX : CXT} {k : Nat} {f : Addr} {ps : List Str} {sp : Sp} {E : XK} {x : Str} {p pos : Pos} {e : Expr} {es : List Expr} {t : TA}
    (F : GOk X.prog X.w X.K X.mg X.base CX k f ps sp) (hr : RoomG k X.A) (hg : Gl X x) (hm : X.mg x = some (.ref f)) (hk : PySem.W.keepIn X.K (.ref f) = true) (hx : Passes CX X E) (ha : PA X (e :: es) t)
    (hdb : (x == ("__debug__" : Str)) = false) (he : starEach (e :: es) X.env = (false, eval e X.env) :: starEach es X.env) (hpl : (backTo pos (starEach es X.env)).any (·.1) = false) :
    PE X (.Call (.Name x p) (e :: es) [] pos) (tCall sp [] E t) :=
  ⟨fun pins s σ H Q I h => wpAny_Call_Name_kw (ld_glob I hg hm (PySem.W.callWith_K I.ok.mod.kin hk (thn (ha.run pos pins s σ H (fun vs H1 => sp (vs ++ []) H1 Q E) I h) fun us s1 ⟨vs, H1, I1, r, q⟩ =>
    ⟨I1.kIn, run_gok F hr hx I1 r (by have q : sp (vs ++ []) H1 Q E := q; rw [List.append_nil] at q; exact q)⟩) he hpl) hdb)⟩
theorem cf_okG {P : Program} {w : World} {K : Frg} {mg : Str → Option Value} {base : Heap} {x qual : Str} {params : Arguments} {body : List Stmt} {scope : Scope} {f : Addr} {fd : FuncData} {N ps : List Str} {k n : Nat} {ms : List Bool} {sem : SF} (F : FunD K x qual params body scope [] [] f fd) (B : BndG x qual params body scope ps) (S : FnScope N ps scope) (hm : ms.length = ps.length) (hn : N.length - ps.length = n)
    (hb : ∀ (cdv : Value) (A : Around) (outer : List Env) (s : Shared) (H : Hp) (E : XK), RoomG k (A.deeper (envOfC qual scope s.heap.objs.size f cdv)) → DSs (cxOf CX0 P w K mg base N qual scope f cdv A outer s H E).nox E (prOf ms) body sem) :
    GOk P w K mg base CX0 (k + 1) f ps (spOf K ps.length ms (cfOf n ms sem)) := by
  refine gok_of F B S (fun vs H Q E h => h.1) (fun cdv A outer s H vs Q E hr h => ?_)
  obtain ⟨t, pt, st⟩ := (hb cdv A outer s H E hr).run
  have hl : vs.length = ps.length := h.1
  have st' : SSound K E (prOf ms) t sem := st
  rw [← hl] at h
  exact ⟨t, pt.nox, body_ok st' (by rw [hl]; exact hn) (by rw [hl]; exact hm) h⟩
section
variable {X : Cx} {CX : CXT} {k n m : Nat} {f C : Addr} {ps : List Str} {c : CF} {ms : List Bool} {E : XK} {x : Str} {p pos : Pos} {e : Expr} {es : List Expr}
theorem dp_callG {g : PAF} (F : GOk X.prog X.w X.K X.mg X.base CX k f ps (spOf X.K n ms c)) (hr : RoomG k X.A) (hg : Gl X x) (hm : X.mg x = some (.ref f)) (hk : PySem.W.keepIn X.K (.ref f) = true) (hx : Passes CX X E) (ha : DA X (e :: es) n g)
    (hdb : (x == ("__debug__" : Str)) = false := by decide) (he : starEach (e :: es) X.env = (false, eval e X.env) :: starEach es X.env := by rfl) (hpl : (backTo pos (starEach es X.env)).any (·.1) = false := by rfl) :
    DP X (.Call (.Name x p) (e :: es) [] pos) (pFn c g) := by
  obtain ⟨t, ea, sa⟩ := ha.run
  refine ⟨_, pe_gok F hr hg hm hk hx ea hdb he hpl, fun σ H A ρ ow Q P gd h q => ?_⟩
  refine sa σ H A ρ ow _ _ gd h fun zs vs H1 hn hz s1 p1 => ?_
  rw [List.append_nil]
  exact fn_core gd s1 p1 (by obtain ⟨_, r, _⟩ := p1; rw [r.len, hn]) hz q
theorem de_callG {g : AEF} (F : GOk X.prog X.w X.K X.mg X.base CX k f ps (spOf X.K n ms c)) (hr : RoomG k X.A) (hg : Gl X x) (hm : X.mg x = some (.ref f)) (hk : PySem.W.keepIn X.K (.ref f) = true) (hx : Passes CX X E) (ha : DAE X E (e :: es) n g)
    (hdb : (x == ("__debug__" : Str)) = false := by decide) (he : starEach (e :: es) X.env = (false, eval e X.env) :: starEach es X.env := by rfl) (hpl : (backTo pos (starEach es X.env)).any (·.1) = false := by rfl) :
    DE X E (.Call (.Name x p) (e :: es) [] pos) (eFn ms c g) := by
  obtain ⟨t, ea, sa⟩ := ha.run
  refine ⟨_, pe_gok F hr hg hm hk hx ea hdb he hpl, fun σ H A ρ ow Q P PX gd h q qx => ?_⟩
  refine sa σ H A ρ ow _ _ _ gd h (fun avs ρ1 vs H1 fp ow1 A1 hn hz st1 g1 r nd dis => ?_) qx
  split at hz
  · rename_i zs ρ2 e
    rw [List.append_nil]
    exact efn_core e st1 g1 r nd dis (by rw [r.len, hn]) hz q qx
  · exact hz.elim
end
theorem law_callG {P : Program} {w : World} {K : Frg} {mg mb : Str → Option Value} {CX : CXT} {k : Nat} {fa a : Addr} {x : Str} {sp : Sp} {s1 : Shared} {vs : List Value} {ns : List Int} (KX : K.In s1.heap) (hns : s1.heap.Ns mainGlobals mg) (hb : s1.heap.Ns builtinsNs mb)
    (hbb : ∀ (x : Str), x ≠ ("__name__" : Str) → mb x = bootBuiltins x) (hlim : s1.heap.NoLimit) (hg : s1.gens = #[]) (ha : s1.heap.get? a = some { cls := .type "list", data := .seq vs.toArray }) (hi : IntsAre vs ns) (hl : ns.length ≤ sizeLine) (hr : Room k callerA)
    (F : ∀ base : Heap, K.In base → base.Ns mainGlobals mg → GOk P w K mg base CX k fa [x] sp)
    (hsp : ∀ H : Hp, Only H → SqL K H a (ns.map V.int) → sp [.ref a] H (fun v _ => v = .bl true) fun _ _ _ => False) (hCX : ∀ (H : Hp) (e : Value) (s' : Shared), CX [] H s1 (fun _ _ _ => False) e s' → False) :
    codeAny (model P w) callerA (.call (.ref fa) { pos := [.ref a] }) (fun r s' => r = .ok (.ret (.bool true)) ∧ OldK s1.heap s'.heap ∧ s'.os = s1.os ∧ AllBare s'.gens) s1 := by
  have core : ∀ H : Hp, Only H → SqL K H a (ns.map V.int) → HOk P w H s1.heap → (∀ b, H b ≠ none → b = a) → (H a ≠ none → K.lookup a = none) →
      codeAny (model P w) callerA (.call (.ref fa) { pos := [.ref a] }) (fun r s' => r = .ok (.ret (.bool true)) ∧ OldK s1.heap s'.heap ∧ s'.os = s1.os ∧ AllBare s'.gens) s1 := fun H hO hS hok hA hK => by
    have isN : ∀ b, b ≠ a → H b = none := fun b h => by
      cases e : H b with
      | none => rfl
      | some u => exact absurd (hA b (by rw [e]; simp)) h
    have dictN : ∀ b o es ep, s1.heap.get? b = some o → o.data = .dict es ep → H b = none := fun b o es ep e d => isN b fun eb => by
      subst eb; rw [ha] at e; cases e; cases d
    have nsK : ∀ {b : Addr} {m : Str → Option Value}, s1.heap.Ns b m → (hidT s1.heap H).Ns b m := fun ⟨o, es, ep, e, d, r⟩ => ⟨o, es, ep, hidT_get e (dictN _ o es ep e d), d, r⟩
    have kb : K.In (hidT s1.heap H) := fun b o e => hidT_get (KX b o e) (by
      by_cases eb : b = a
      · subst eb
        cases e2 : H b with
        | none => rfl
        | some u => have := hK (by rw [e2]; simp); rw [this] at e; cases e
      · exact isN b eb)
    have hM : L2.Mod K mg (hidT s1.heap H) := ⟨kb, nsK hns, ⟨mb, nsK hb, hbb⟩, let ⟨mc, h1, h2⟩ := hlim; ⟨mc, nsK h1, h2⟩⟩
    have e0 : Env0 P w K mg (hidT s1.heap H) callerA [] s1 H := ⟨rfl, hM, fun b o e => of_hidT e, Nat.le_of_eq (hidT_size s1.heap H), trivial, fun b h => (nomatch h), hok, AllBare.of_eq hg⟩
    refine codeAny_mono ((F (hidT s1.heap H) kb (nsK hns)).run callerA [] s1 H [.ref a] [.ref a] _ _ ⟨hr, rfl⟩ e0 (Paired.cons rfl Paired.nil) (hsp H hO hS)) fun r s' h => ?_
    match r, h with
    | .error e, h => exact (hCX H e s' h).elim
    | .ok .next, h => exact h.elim
    | .ok .brk, h => exact h.elim
    | .ok .cont, h => exact h.elim
    | .ok (.ret u), ⟨v, H', os, bare, un, hok', r', q⟩ =>
      subst q
      have eu : u = .bool true := r'
      subst eu
      refine ⟨rfl, OldK.of_keep fun b o e => ?_, os, bare⟩
      by_cases eb : H b = none
      · exact un.keep b o e eb (fun z => nomatch z) (fun z => nomatch z)
      · rcases hO b with z | ⟨ob, xs, z⟩
        · exact absurd z eb
        · have o1 := hok b _ z
          have o2 := hok' b _ (un.frzs b ob _ z)
          have e1 : s1.heap.get? b = some ob := o1.1
          have e2 : s'.heap.get? b = some ob := o2.1
          rw [e1] at e; cases e
          exact e2
  have rv := vals_ints hi
  cases hk : K.lookup a with
  | none =>
    refine core (fun b => if b = a then some (.frz { cls := .type "list", data := .seq vs.toArray } (.lst (ns.map V.int))) else none) (fun b => ?_) (.inl (.inr ⟨_, if_pos rfl⟩)) (fun b u (z : (if b = a then some (.frz { cls := .type "list", data := .seq vs.toArray } (.lst (ns.map V.int))) else none) = some u) => ?_) (fun b z => ?_) fun _ => hk
    · by_cases eb : b = a
      · exact .inr ⟨_, _, if_pos eb⟩
      · exact .inl (if_neg eb)
    · by_cases eb : b = a
      · rw [if_pos eb] at z; cases z
        subst eb
        exact ⟨ha, by rw [List.length_map]; exact hl, vs, 0, rv, ha⟩
      · rw [if_neg eb] at z; cases z
    · by_cases eb : b = a
      · exact eb
      · exact absurd (if_neg eb) z
  | some o =>
    have e := KX a o hk
    rw [ha] at e; cases e
    exact core (fun _ => none) (fun _ => .inl rfl) (.inr ⟨_, vs.toArray, 0, hk, rfl, rfl, rfl, by rw [List.size_toArray, hi.length]; exact hl, rv⟩) (fun b u z => nomatch z) (fun b z => absurd rfl z) fun z => absurd rfl z
theorem walk_ofG {l : PySem.W.OpenLaw} {n k : Nat} {q : Program} {loose : List Str} {XP : (Str → Option Value) → Heap → Prop} {YP : World → Heap → Prop} {d : DefRec} {CX : World → CXT} {x : Str} (hn : l.most = some n) (hn2 : n ≤ sizeLine) (hdf : d.params.defaults = []) (hr : Room k callerA)
    (F : ∀ (w : World) (mg : Str → Option Value) (fa : Addr) (h : Heap), YP w h → h.Ns mainGlobals mg → mg d.name = some (.ref fa) →
      ∃ (K : Frg) (sp : Sp), K.In h ∧ (∀ (H : Hp) (a : Addr) (ns : List Int), ns.length ≤ n → Only H → SqL K H a (ns.map V.int) → sp [.ref a] H (fun v _ => v = .bl true) fun _ _ _ => False) ∧ ∀ base : Heap, K.In base → base.Ns mainGlobals mg → GOk l.prog w K mg base (CX w) k fa [x] sp)
    (hCX : ∀ (w : World) (H : Hp) (s : Shared) (e : Value) (s' : Shared), CX w [] H s (fun _ _ _ => False) e s' → False) :
    PySem.W.WalkO q loose XP YP l.row.toRowW d [] fun f vs => call f vs :=
  Att.attach_call hn hdf fun w s0 s1 mg mb fa o pm cd doc a vs ns G Y ho hd hcd hmg hobj hints hlen hg => by
    obtain ⟨K, sp, KX, hsp, hF⟩ := F w mg fa s1.heap Y G.T.g hmg
    exact law_callG KX G.T.g G.T.b G.T.builtins G.T.nolimit hg hobj hints (Nat.le_trans hlen hn2) hr hF (fun H hO hS => hsp H a ns hlen hO hS) fun H e s' => hCX w H s1 e s'
end DL

namespace DL
open PySem PySem.Spec PyProof PyProof.Rows L2
mutual
def D.wR : D → Bool
  | .non => true
  | .bl _ => true
  | .int i => decide (i.natAbs < 10 ^ 70)
  | .str x => decide (x = "cut") || decide (x = "lay")
  | .tup ds => D.wRs ds
  | .lst ds => D.wRs ds
  | .kst ds => D.wRs ds
  | _ => false
def D.wRs : List D → Bool
  | [] => true
  | d :: ds => d.wR && D.wRs ds
end
mutual
def D.sR : D → Nat
  | .non => 4
  | .bl _ => 5
  | .int _ => 71
  | .str _ => 8
  | .tup ds => D.sRs ds + 3
  | .lst ds => D.sRs ds + 3
  | .kst ds => D.sRs ds + 3
  | _ => 0
def D.sRs : List D → Nat
  | [] => 0
  | d :: ds => d.sR + 2 + D.sRs ds
end
mutual
def D.hR : D → Nat
  | .tup ds => D.hRs ds + 1
  | .lst ds => D.hRs ds + 1
  | .kst ds => D.hRs ds + 1
  | _ => 1
def D.hRs : List D → Nat
  | [] => 0
  | d :: ds => max d.hR (D.hRs ds)
end
theorem shown_int_len {i : Int} (h : i.natAbs < 10 ^ 70) : (PyData.int i).shown.length ≤ 71 := by
  rw [PyData.shown_int, PySem.ofString_length]
  cases i with
  | ofNat n =>
    show (Nat.repr n).length ≤ 71
    exact Nat.le_trans ((Nat.length_repr_le_iff (by decide)).mpr h) (by decide)
  | negSucc n =>
    show ("-" ++ Nat.repr (n + 1)).length ≤ 71
    rw [String.length_append]
    have := (Nat.length_repr_le_iff (n := n + 1) (k := 70) (by decide)).mpr h
    have e : ("-" : String).length = 1 := rfl
    omega
theorem log_ok {n : Nat} (h : n < 10 ^ 70) : n.log2 < 1920 := by
  by_cases e : n = 0
  · subst e; decide
  · exact (Nat.log2_lt e).mpr (Nat.lt_of_lt_of_le h (by decide +kernel))
mutual
theorem D.wR_ok : ∀ d : D, d.wR = true → d.toP.showable = true ∧ d.toP.hasDict = false ∧ d.toP.canLay0 = true ∧ d.toP.shown.length ≤ d.sR ∧ d.toP.depth ≤ d.hR
  | .non, _ => ⟨rfl, rfl, rfl, by decide, by decide⟩
  | .bl b, _ => ⟨rfl, rfl, rfl, by cases b <;> decide, by cases b <;> decide⟩
  | .int i, h => ⟨decide_eq_true (log_ok (of_decide_eq_true h)), rfl, rfl, shown_int_len (of_decide_eq_true h), Nat.le_of_lt (Nat.lt_succ_of_le (Nat.zero_le _))⟩
  | .tup ds, h => by
    obtain ⟨a, b, c, e, f⟩ := D.wRs_ok ds h
    exact ⟨a, b, c, Nat.le_trans (tupleText_len_le _) (Nat.add_le_add_right e 3), Nat.succ_le_succ f⟩
  | .lst ds, h => by
    obtain ⟨a, b, c, e, f⟩ := D.wRs_ok ds h
    exact ⟨a, b, c, Nat.le_trans (listText_len_le _) (Nat.add_le_add_right e 3), Nat.succ_le_succ f⟩
  | .str x, h => by
    have h' : x = "cut" ∨ x = "lay" := by
      rcases (Bool.or_eq_true _ _).mp (show (decide (x = "cut") || decide (x = "lay")) = true from h) with h | h
      · exact .inl (of_decide_eq_true h)
      · exact .inr (of_decide_eq_true h)
    rcases h' with rfl | rfl
    · exact ⟨rfl, rfl, by decide +kernel, by decide +kernel, by decide⟩
    · exact ⟨rfl, rfl, by decide +kernel, by decide +kernel, by decide⟩
  | .kst ds, h => by
    obtain ⟨a, b, c, e, f⟩ := D.wRs_ok ds h
    exact ⟨a, b, c, Nat.le_trans (listText_len_le _) (Nat.add_le_add_right e 3), Nat.succ_le_succ f⟩
  | .dcT _ _, h => by cases h
  | .dcK _ _, h => by cases h
  | .obj _ _ _, h => by cases h
  | .fn _, h => by cases h
  | .ad _, h => by cases h
  | .lsA _ _, h => by cases h
  | .key _, h => by cases h
  | .tpx _, h => by cases h
  | .exn _, h => by cases h
  | .dcL _, h => by cases h
  | .dcN _, h => by cases h
  | .lkT _, h => by cases h
  | .any, h => by cases h
  | .frz _, h => by cases h
theorem D.wRs_ok : ∀ ds : List D, D.wRs ds = true → PyData.showableAll (D.toPs ds) = true ∧ PyData.hasDictAll (D.toPs ds) = false ∧ PyData.canLayAll0 (D.toPs ds) = true ∧ ((PyData.shownAll (D.toPs ds)).map (·.length)).sum + 2 * (PyData.shownAll (D.toPs ds)).length ≤ D.sRs ds ∧ PyData.depthAll (D.toPs ds) ≤ D.hRs ds
  | [], _ => ⟨rfl, rfl, rfl, Nat.le_refl _, Nat.le_refl _⟩
  | d :: ds, h => by
    have h' := Bool.and_eq_true_iff.mp (show (d.wR && D.wRs ds) = true from h)
    obtain ⟨a, b, c, e, f⟩ := D.wR_ok d h'.1
    obtain ⟨a', b', c', e', f'⟩ := D.wRs_ok ds h'.2
    refine ⟨?_, ?_, ?_, ?_, ?_⟩
    · show (d.toP.showable && PyData.showableAll (D.toPs ds)) = true
      rw [a, a']; rfl
    · show (d.toP.hasDict || PyData.hasDictAll (D.toPs ds)) = false
      rw [b, b']; rfl
    · show (d.toP.canLay0 && PyData.canLayAll0 (D.toPs ds)) = true
      rw [c, c']; rfl
    · show (List.map (·.length) (d.toP.shown :: PyData.shownAll (D.toPs ds))).sum + 2 * (d.toP.shown :: PyData.shownAll (D.toPs ds)).length ≤ d.sR + 2 + D.sRs ds
      rw [List.map_cons, List.sum_cons, List.length_cons]
      omega
    · show max d.toP.depth (PyData.depthAll (D.toPs ds)) ≤ max d.hR (D.hRs ds)
      omega
end
noncomputable section
mutual
def _root_.DL.D.imm : D → Bool
  | .non => true
  | .bl _ => true
  | .int _ => true
  | .str _ => true
  | .tup ds => D.imms ds
  | .kst ds => D.imms ds
  | .fn _ => true
  | .ad _ => true
  | .key _ => true
  | .tpx _ => true
  | .exn _ => true
  | .dcL _ => true
  | .lkT _ => true
  | _ => false
def _root_.DL.D.imms : List D → Bool
  | [] => true
  | d :: ds => d.imm && D.imms ds
end
mutual
theorem RA.imm_no {K : Frg} {A : Addr → Prop} {H : Hp} : ∀ (d : D) (v : V), RA K A H d v → d.imm = true → RA K No H d v
  | .non, _, h, _ => h
  | .bl _, _, h, _ => h
  | .int _, _, h, _ => h
  | .str _, _, h, _ => h
  | .tup ds, _, ⟨p, vs, e, t, r⟩, c => ⟨p, vs, e, t, RAs.imm_no ds vs r c⟩
  | .kst ds, _, ⟨p, vs, e, t, r⟩, c => ⟨p, vs, e, t, RAs.imm_no ds vs r c⟩
  | .lst _, _, _, c => by cases c
  | .dcT _ _, _, _, c => by cases c
  | .dcK _ _, _, _, c => by cases c
  | .obj _ _ _, _, _, c => by cases c
  | .fn _, _, h, _ => h
  | .ad _, _, h, _ => h
  | .lsA _ _, _, _, c => by cases c
  | .key _, _, h, _ => h
  | .tpx _, _, h, _ => h
  | .exn _, _, h, _ => h
  | .dcL _, _, h, _ => h
  | .dcN _, _, _, c => by cases c
  | .lkT _, _, h, _ => h
  | .any, _, _, c => by cases c
  | .frz _, _, _, c => by cases c
theorem RAs.imm_no {K : Frg} {A : Addr → Prop} {H : Hp} : ∀ (ds : List D) (vs : List V), RAs K A H ds vs → D.imms ds = true → RAs K No H ds vs
  | [], _, h, _ => h
  | d :: ds, _, ⟨w, ws, e, h, t⟩, c => by
    have c' := Bool.and_eq_true_iff.mp (show (d.imm && D.imms ds) = true from c)
    exact ⟨w, ws, e, RA.imm_no d w h c'.1, RAs.imm_no ds ws t c'.2⟩
end
theorem bt_repr : bootBuiltins "repr" = some (.builtin "repr") := by decide +kernel
end
end DL

namespace DL
open PySem PySem.Spec PyProof PyProof.Rows L2
mutual
def D.cL : D → Bool
  | .non => true
  | .bl _ => true
  | .int _ => true
  | .tup ds => D.cLs ds
  | .lst ds => D.cLs ds
  | .kst ds => D.cLs ds
  | .tpx _ => true
  | .key _ => true
  | _ => false
def D.cLs : List D → Bool
  | [] => true
  | d :: ds => d.cL && D.cLs ds
end
mutual
def D.hL : D → Nat
  | .tup ds => D.hLs ds + 1
  | .lst ds => D.hLs ds + 1
  | .kst ds => D.hLs ds + 1
  | .tpx _ => 2
  | .key _ => 2
  | _ => 1
def D.hLs : List D → Nat
  | [] => 0
  | d :: ds => max d.hL (D.hLs ds)
end
theorem pints_ok : ∀ ns : List Int, PyData.canLayAll0 (ns.map PyData.int) = true ∧ PyData.depthAll (ns.map PyData.int) ≤ 1 ∧ PyData.eqvAll (ns.map PyData.int) (ns.map PyData.int) = true
  | [] => ⟨rfl, by decide, rfl⟩
  | i :: ns => by
    obtain ⟨a, b, c⟩ := pints_ok ns
    refine ⟨?_, ?_, ?_⟩
    · show ((PyData.int i).canLay0 && PyData.canLayAll0 (ns.map PyData.int)) = true
      rw [a]; rfl
    · have h1 : (PyData.int i).depth ≤ 1 := Nat.le_of_lt (Nat.lt_succ_of_le (Nat.zero_le _))
      show max (PyData.int i).depth (PyData.depthAll (ns.map PyData.int)) ≤ 1
      omega
    · show (PyData.eqv (.int i) (.int i) && PyData.eqvAll (ns.map PyData.int) (ns.map PyData.int)) = true
      have e : PyData.eqv (.int i) (.int i) = true := (PyData.eqv.eq_5 i i).trans (by simp)
      rw [c, e]; rfl
mutual
theorem D.cL_ok : ∀ d : D, d.cL = true → d.toP.canLay0 = true ∧ d.toP.depth ≤ d.hL ∧ PyData.eqv d.toP d.toP = true
  | .non, _ => ⟨rfl, by decide, rfl⟩
  | .bl b, _ => ⟨rfl, by cases b <;> decide, by cases b <;> rfl⟩
  | .int i, h => ⟨rfl, Nat.le_of_lt (Nat.lt_succ_of_le (Nat.zero_le _)), (PyData.eqv.eq_5 i i).trans (by simp)⟩
  | .tup ds, h => by
    obtain ⟨a, b, c⟩ := D.cLs_ok ds h
    exact ⟨a, Nat.succ_le_succ b, c⟩
  | .lst ds, h => by
    obtain ⟨a, b, c⟩ := D.cLs_ok ds h
    exact ⟨a, Nat.succ_le_succ b, c⟩
  | .kst ds, h => by
    obtain ⟨a, b, c⟩ := D.cLs_ok ds h
    exact ⟨a, Nat.succ_le_succ b, c⟩
  | .str _, h => by cases h
  | .dcT _ _, h => by cases h
  | .dcK _ _, h => by cases h
  | .obj _ _ _, h => by cases h
  | .fn _, h => by cases h
  | .ad _, h => by cases h
  | .lsA _ _, h => by cases h
  | .key ns, _ => by
    obtain ⟨a, b, c⟩ := pints_ok ns
    exact ⟨a, Nat.succ_le_succ b, c⟩
  | .exn _, h => by cases h
  | .dcL _, h => by cases h
  | .dcN _, h => by cases h
  | .tpx ns, _ => by
    obtain ⟨a, b, c⟩ := pints_ok ns
    exact ⟨a, Nat.succ_le_succ b, c⟩
  | .lkT _, h => by cases h
  | .any, h => by cases h
  | .frz _, h => by cases h
theorem D.cLs_ok : ∀ ds : List D, D.cLs ds = true → PyData.canLayAll0 (D.toPs ds) = true ∧ PyData.depthAll (D.toPs ds) ≤ D.hLs ds ∧ PyData.eqvAll (D.toPs ds) (D.toPs ds) = true
  | [], _ => ⟨rfl, Nat.le_refl _, rfl⟩
  | d :: ds, h => by
    have h' := Bool.and_eq_true_iff.mp (show (d.cL && D.cLs ds) = true from h)
    obtain ⟨a, b, c⟩ := D.cL_ok d h'.1
    obtain ⟨a', b', c'⟩ := D.cLs_ok ds h'.2
    refine ⟨?_, ?_, ?_⟩
    · show (d.toP.canLay0 && PyData.canLayAll0 (D.toPs ds)) = true
      rw [a, a']; rfl
    · show max d.toP.depth (PyData.depthAll (D.toPs ds)) ≤ max d.hL (D.hLs ds)
      omega
    · show (PyData.eqv d.toP d.toP && PyData.eqvAll (D.toPs ds) (D.toPs ds)) = true
      rw [c, c']; rfl
end
theorem cL_okE {d : D} (h : d.cL = true) (h2 : d.hL ≤ 60) : d.okE := by
  obtain ⟨a, b, _⟩ := D.cL_ok d h
  show (d.toP.canLay0 && decide (d.toP.depth ≤ 64)) = true
  rw [a, decide_eq_true (by omega)]; rfl
theorem cLs_all : ∀ {ds : List D}, (∀ d ∈ ds, d.cL = true) → D.cLs ds = true
  | [], _ => rfl
  | d :: ds, h => by
    show (d.cL && D.cLs ds) = true
    rw [h d (List.mem_cons_self ..), cLs_all fun e he => h e (List.mem_cons_of_mem _ he)]; rfl
theorem hLs_all {c : Nat} : ∀ {ds : List D}, (∀ d ∈ ds, d.hL ≤ c) → D.hLs ds ≤ c
  | [], _ => Nat.zero_le _
  | d :: ds, h => by
    show max d.hL (D.hLs ds) ≤ c
    have h1 := h d (List.mem_cons_self ..)
    have h2 := hLs_all (c := c) fun e he => h e (List.mem_cons_of_mem _ he)
    omega
theorem cLs_tabl {n : Nat} {f : Nat → D} (h : ∀ i, i < n → (f i).cL = true) : D.cLs (tabl n f) = true := cLs_all fun d hd => by
  obtain ⟨i, hi, rfl⟩ := List.mem_map.mp hd
  exact h i (List.mem_range.mp hi)
theorem hLs_tabl {n c : Nat} {f : Nat → D} (h : ∀ i, i < n → (f i).hL ≤ c) : D.hLs (tabl n f) ≤ c := hLs_all fun d hd => by
  obtain ⟨i, hi, rfl⟩ := List.mem_map.mp hd
  exact h i (List.mem_range.mp hi)
theorem eqvAll_ints : ∀ (as bs : List Int), PyData.eqvAll (as.map PyData.int) (bs.map PyData.int) = decide (as = bs)
  | [], [] => rfl
  | [], b :: bs => rfl
  | a :: as, [] => rfl
  | a :: as, b :: bs => by
    show (PyData.eqv (.int a) (.int b) && PyData.eqvAll (as.map PyData.int) (bs.map PyData.int)) = _
    rw [PyData.eqv.eq_5, eqvAll_ints as bs, Bool.eq_iff_iff]
    simp
theorem ints_okE {n : Nat} {f : Nat → Int} : (D.tup (tabl n fun i => .int (f i))).okE := cL_okE (cLs_tabl fun _ _ => rfl) (Nat.succ_le_succ (Nat.le_trans (hLs_tabl (c := 1) fun _ _ => Nat.le_refl _) (by decide)))
end DL

namespace DL
open PySem PySem.Spec PyProof PyProof.Rows L2
def sortU (ns : List Int) : List Int := ns.mergeSort fun a b => decide (a ≤ b)
theorem sortU_perm (ns : List Int) : (sortU ns).Perm ns := List.mergeSort_perm ns _
theorem sortU_up (ns : List Int) : (sortU ns).Pairwise (· ≤ ·) := (List.pairwise_mergeSort (le := fun a b : Int => decide (a ≤ b)) (fun a b c h1 h2 => decide_eq_true (Int.le_trans (of_decide_eq_true h1) (of_decide_eq_true h2))) (fun a b => by
  rw [Bool.or_eq_true]
  rcases Int.le_total a b with h | h
  · exact .inl (decide_eq_true h)
  · exact .inr (decide_eq_true h)) ns).imp fun h => of_decide_eq_true h
theorem sortU_uniq {ns ns' : List Int} (h : ns'.Perm ns) (s : ns'.Pairwise (· ≤ ·)) : ns' = sortU ns := List.Perm.eq_of_pairwise (fun _ _ _ _ h1 h2 => Int.le_antisymm h1 h2) s (sortU_up ns) (h.trans (sortU_perm ns).symm)
theorem sortU_len (ns : List Int) : (sortU ns).length = ns.length := (sortU_perm ns).length_eq
noncomputable section
end
end DL

namespace DL
open PySem PySem.Spec PyProof PyProof.Rows L2
noncomputable section
def oFld (C : Str) (NS : List Str) (j : Nat) (z : KD) (P : KD → Prop) : Prop := match z.2 with
  | .obj C' ns ds => C' = C ∧ ns = NS ∧ (match ds[j]? with | some d => P (kel .rd d) | none => False)
  | _ => False
@[irreducible] def xFld (C : Str) (NS : List Str) (j : Nat) (z : KD) (P : KD → Prop) : Prop := hid (oFld C NS j z P)
theorem go_fld {C : Str} {NS : List Str} {j : Nat} {z : KD} {ds : List D} {d : D} {P : KD → Prop} (hz : z.2 = .obj C NS ds) (hd : ds[j]? = some d) (p : P (kel .rd d)) : xFld C NS j z P := by
  unfold xFld; rw [hid_eq]
  unfold oFld
  rw [hz]
  dsimp only
  rw [hd]
  exact ⟨rfl, rfl, p⟩
def pFld (C : Str) (NS : List Str) (j : Nat) (fa : PF) : PF := fun ρ P => fa ρ fun z => xFld C NS j z P
section
variable {X : Cx} {pos : Pos}
def oFldP (C : Str) (NS : List Str) (j : Nat) (i : Nat) (e : D) (rb : D → D) (P : Nat → Kd → D → (D → D) → Prop) : Prop := match e with
  | .obj C' ns ds => C' = C ∧ ns = NS ∧ (match ds[j]? with | some d => P i .ow d (fun c' => rb (.obj C NS (ds.set j c'))) | none => False)
  | _ => False
@[irreducible] def xFldP (C : Str) (NS : List Str) (j : Nat) (i : Nat) (e : D) (rb : D → D) (P : Nat → Kd → D → (D → D) → Prop) : Prop := hid (oFldP C NS j i e rb P)
def plFld (C : Str) (NS : List Str) (j : Nat) (pl : PLF) : PLF := fun ρ P => pl ρ fun i _ e rb => xFldP C NS j i e rb P
theorem go_fldP {C : Str} {NS : List Str} {j i : Nat} {e : D} {rb : D → D} {ds : List D} {d : D} {P : Nat → Kd → D → (D → D) → Prop} (hz : e = .obj C NS ds) (hd : ds[j]? = some d) (p : P i .ow d (fun c' => rb (.obj C NS (ds.set j c')))) : xFldP C NS j i e rb P := by
  subst hz
  unfold xFldP; rw [hid_eq]
  unfold oFldP
  dsimp only
  rw [hd]
  exact ⟨rfl, rfl, p⟩
end
section
variable {K : Frg} {A : Addr → Prop} {H : Hp}
end
end
end DL

namespace DL
open PySem PySem.Spec PyProof PyProof.Rows L2
noncomputable section
def oFldS (C : Str) (NS : List Str) (j : Nat) (e : D) (z : KD) (P : D → Prop) : Prop := ownK z.1 = true ∧ match e with
  | .obj C' ns ds => C' = C ∧ ns = NS ∧ j < ds.length ∧ P (.obj C NS (ds.set j z.2))
  | _ => False
@[irreducible] def xFldS (C : Str) (NS : List Str) (j : Nat) (e : D) (z : KD) (P : D → Prop) : Prop := hid (oFldS C NS j e z P)
def oFldN (C : Str) (NS : List Str) (f : Str) (e : D) (z : KD) (P : D → Prop) : Prop := ownK z.1 = true ∧ match e with
  | .obj C' ns ds => C' = C ∧ ns = NS ∧ P (.obj C (NS ++ [f]) (ds ++ [z.2]))
  | _ => False
@[irreducible] def xFldN (C : Str) (NS : List Str) (f : Str) (e : D) (z : KD) (P : D → Prop) : Prop := hid (oFldN C NS f e z P)
def sFldN (C : Str) (NS : List Str) (f : Str) (fe : EF) (pl : PLF) : SF := fun D ρ => fe ρ (fun z ρ1 => pl ρ1 fun i _ e rb => xFldN C NS f e z fun e' => D.nx (ρ1.set i (some (.ow, rb e')))) D.ex
section
variable {X : Cx} {E : XK} {pr : List Nat} {pos pos' : Pos} {o value : Expr} {f : Str} {C : Str} {NS : List Str} {j : Nat} {fe : EF} {pl : PLF}
end
end
end DL

namespace DL
open PySem PySem.Spec PyProof PyProof.Rows L2
noncomputable section
def pMeth (C : Str) (NS : List Str) (c : CF) (fo : PF) (g : PAF) : PF := fun ρ P => fo ρ fun z => (∃ ds, z.2 = .obj C NS ds) ∧ g ρ fun zs => c ((z :: zs).map fun z => (z.1.rdk, z.2)) (fun z _ => P z) (fun _ _ => False)
def eMeth (i : Nat) (C : Str) (NS : List Str) (ms : List Bool) (c : CF) (g : AEF) : EF := fun ρ P PX => (∃ ds, ρ[i]? = some (some (.ow, .obj C NS ds))) ∧ eFn ms c (aPl i g) ρ P PX
section
variable {X : Cx} {CX : CXT} {E : XK} {k n : Nat} {f : Addr} {ps : List Str} {c : CF} {ms : List Bool} {m : Str} {pos apos : Pos} {o e : Expr} {es : List Expr} {C : Str} {NS : List Str} {pl : Sem Bool}
end
end
end DL

namespace DL
open PySem PySem.Spec PyProof PyProof.Rows L2
noncomputable section
def pMake (C : Str) (c : CF) (g : PAF) : PF := fun ρ P => g ρ fun zs => c ((.ow, .obj C [] []) :: zs.map fun z => (z.1.rdk, z.2)) (fun z ys => z = (.fl, .non) ∧ match ys with | [y] => P y | _ => False) (fun _ _ => False)
section
variable {X : Cx} {CX : CXT} {E : XK} {k n : Nat} {f : Addr} {ps : List Str} {c : CF} {ms : List Bool} {x : Str} {p pos : Pos} {e : Expr} {es : List Expr} {C : Str} {g : PAF}
end
end
end DL

namespace DL
open PySem PySem.Spec PyProof PyProof.Rows L2
noncomputable section
section
variable {X : Cx} {E : XK} {pr : List Nat} {pos : Pos}
def oTwo (z : KD) (P : D → D → Prop) : Prop := match z.2 with
  | .tup [a, b] => a.imm = true ∧ b.imm = true ∧ P a b
  | _ => False
@[irreducible] def xTwo (z : KD) (P : D → D → Prop) : Prop := hid (oTwo z P)
end
section
variable {X : Cx} {CX : CXT} {E : XK} {k n : Nat} {f : Addr} {ps : List Str} {c : CF} {ms : List Bool} {x : Str} {p pos : Pos} {e : Expr} {es : List Expr} {C : Str} {g : AEF}
end
end
end DL

namespace DL
open PySem PySem.Spec PyProof PyProof.Rows L2
noncomputable section
def sForR (src : IF) (g : GF) (body : SF) : SF := fun D ρ => src ρ fun zs => kFor g body D zs ρ
section
variable {X : Cx} {E : XK} {pr : List Nat} {pos : Pos} {tg : Expr} {body : List Stmt} {is : List Nat} {g : GF} {f : SF}
end
end
end DL

namespace DL
open PySem PySem.Spec PyProof PyProof.Rows L2
noncomputable section
structure ExF (K : Frg) (mg : Str → Option Value) (C : Str) : Prop where
  g : mg C = some (.ref (He.ga K C))
  e : PySem.W.excIn K (He.ga K C) He.veBase "ValueError.__new__" = true ∧ PySem.W.keepIn K (.ref (He.ga K C)) = true ∧ PySem.W.subIn K (.ref (He.ga K C)) (.type "BaseException") = some true ∧ PySem.W.typeIn K (.ref (He.ga K C)) = some (.type "type")
section
variable {X : Cx} {E : XK} {a b : Expr} {rest : List Expr} {pos : Pos} {fa fb : EF}
theorem Own.bl {K : Frg} {A : Addr → Prop} {H : Hp} {b : Bool} {ow : List Addr} (nd : ow.Nodup) : Own K A H (.fl, .bl b) (.bl b) [] ow := ⟨⟨rfl, rfl⟩, nd, fun _ h => nomatch h⟩
end
def sForRE (fe : EF) (g : GF) (body : SF) : SF := fun D ρ => fe ρ (fun z ρ1 => match z.2 with
  | .int j => kR1 j fun zs => kFor g body D zs ρ1
  | _ => False) D.ex
theorem ds_forRE {X : Cx} {E : XK} {pr : List Nat} {pos : Pos} {tg : Expr} {body : List Stmt} {is : List Nat} {g : GF} {f : SF} {a : Expr} {fe : EF} {p pos' : Pos} (hp : PassesOwn (model X.prog X.w) X.A X.env X.xe) (hc : X.calm = true) (hgl : Gl X "range") (hm : X.mg "range" = none) (ha : DE X E a fe) (hg : DG X tg is g) (hb : DSs X E pr body f) (hpr : (is.all fun i => !pr.contains i) = true := by rfl)
    (hs0 : starEach [a] X.env = (false, eval a X.env) :: starEach [] X.env := by rfl)    (hs1 : starEach [a] X.env = [(false, eval a X.env)] := by rfl) (hs : ∀ x, foldedSetIterable (.Call (.Name "range" p) [a] [] pos') X.env x = pure x := by intro _; rfl) : DS X E pr (.For tg (.Call (.Name "range" p) [a] [] pos') body [] pos) (sForRE fe g f) := by
  obtain ⟨t, e, s⟩ := ha.run
  obtain ⟨tg', pg, sg⟩ := hg.run
  obtain ⟨tb, pb, sb⟩ := hb.run
  refine ⟨_, ps_for hp hc (pi_range1 hgl hm (pa_cons e pa_nil hs0) hs1) pg pb hs, fun σ H A ρ ow T D gd h nx rt ex => ?_⟩
  refine s σ H A ρ ow _ _ _ gd h (fun z ρ1 v H1 fp ow1 A1 hh st1 g1 o1 => ?_) fun C ρ1 H1 ow1 A1 h1 st1 g1 => ex C ρ1 σ H1 ow1 A1 h1 st1 g1 fun _ _ => rfl
  have ra : RA X.K (fun _ => True) H1 z.2 v := o1.rep.ra (fun _ _ => trivial) fun _ _ => trivial
  split at hh
  · rename_i j ez
    unfold kR1 at hh
    rw [hid_eq] at hh
    obtain ⟨h1, h2, h3⟩ := hh
    rw [ez] at ra
    obtain rfl : v = .int _ := ra
    refine ⟨_, rfl, by omega, by omega, ?_⟩
    rw [kFor_eq] at h3
    exact for_core sg sb hpr g1 (st1.sub fun a h => by simp [h]) (B := A1) walks_range (fun _ h => h) h3 nx rt ex
  · exact hh.elim
end
end DL

namespace DL
open PySem PySem.Spec PyProof PyProof.Rows L2
noncomputable section
end
end DL

namespace DL
open PySem PySem.Spec PyProof PyProof.Rows L2
def HpB (b : Bool) (h : Heap) (a : Addr) (its : Array Value) : Prop := match b with | true => h.IsList a its | false => h.IsTuple a its
def ItB (b : Bool) (h : Heap) (it a : Addr) (i : Nat) : Prop := match b with | true => h.IsListIter it a i | false => h.IsTupleIter it a i
section
variable {b : Bool} {h h' : Heap} {it a : Addr} {i : Nat} {its : Array Value}
theorem ItB.obj (x : ItB b h it a i) : ∃ o, h.get? it = some o ∧ ∀ v, o.data ≠ .cell v := by
  cases b with
  | true => obtain ⟨o, e, _, d⟩ := x; exact ⟨o, e, fun v q => by rw [d] at q; cases q⟩
  | false => obtain ⟨o, e, _, d⟩ := x; exact ⟨o, e, fun v q => by rw [d] at q; cases q⟩
theorem HpB.ne (x : HpB b h a its) (y : ItB b h it a i) : a ≠ it := fun q => by
  cases b with
  | true =>
    obtain ⟨o, ho, hcl, _⟩ := x
    obtain ⟨o2, ho2, hc2, _⟩ := y
    rw [q, ho2] at ho
    cases ho
    rw [hc2] at hcl
    injection hcl with q2
    exact absurd q2 (by decide)
  | false =>
    obtain ⟨o, ho, hcl, _⟩ := x
    obtain ⟨o2, ho2, hc2, _⟩ := y
    rw [q, ho2] at ho
    cases ho
    rw [hc2] at hcl
    injection hcl with q2
    exact absurd q2 (by decide)
theorem HpB.lt (x : HpB b h a its) : a < h.objs.size := by
  cases b with
  | true => obtain ⟨o, ho, _⟩ := x; exact Heap.lt_size ho
  | false => obtain ⟨o, ho, _⟩ := x; exact Heap.lt_size ho
end
section
variable {X : Cx} {pins : List (Addr × Obj)} {σ : L2.St} {H : Hp} {s : Shared} {b : Bool} {a : Addr} {xs ys : List V}
end
noncomputable section
end
end DL

namespace DL
open PySem PySem.Spec PyProof PyProof.Rows L2
def lstB (K : PySem.W.Frag) (p : Str × List He.Dv) : Bool := match K.lookup (He.ga K p.1) with
  | some ⟨.type c, none, .seq its _, _⟩ => decide (c = "list") && (decide (its.size ≤ 100000) && He.relAll (p.2.map (He.Dv.v K)) its.toList)
  | _ => false
abbrev AlL : Type := He.AlD × Bool
def obsL (fa : List He.Fa) (fn : List He.DefD) (ls : List (Str × List He.Dv)) (K : PySem.W.Frag) : AlL := (He.obsD fa fn K, ls.all (lstB K))
def obsLG (n : Nat) (fa : List He.Fa) (fn : List He.DefD) (ls : List (Str × List He.Dv)) (g : Addr → Option Obj) : AlL := obsL fa fn ls (He.frG g (He.asD g n))
def hookL (n : Nat) (fa : List He.Fa) (fn : List He.DefD) (ls : List (Str × List He.Dv)) : PySem.W.Hook where
  α := AlL
  obs := fun s => obsLG n fa fn ls s.heap.get?
  val := fun _ => (He.valD fn, true)
  says := fun _ h => ∃ K : PySem.W.Frag, K.In h ∧ He.SaysD fa fn K ∧ ls.all (lstB K) = true
  of := fun _ _ e => ⟨_, He.frG_in, congrArg (fun z : AlL => z.1) e, congrArg (fun z : AlL => z.2) e⟩
  keeps := fun _ _ _ ⟨K, hK, c⟩ k => ⟨K, PySem.W.Frag.In.keeps hK k, c⟩
theorem obsLG_eq {n : Nat} {fa : List He.Fa} {fn : List He.DefD} {ls : List (Str × List He.Dv)} {g : Addr → Option Obj} {s : Shared} (h : ∀ a, g a = s.heap.get? a) : obsLG n fa fn ls g = (hookL n fa fn ls).obs s := by
  have e : g = s.heap.get? := funext h
  rw [e] <;> rfl
noncomputable section
end
end DL

namespace DL
open PySem PySem.Spec PyProof PyProof.Rows L2
noncomputable section
end
end DL

namespace DL
open PySem PySem.Spec PyProof PyProof.Rows L2
noncomputable section
theorem jL_ow {zs : List KD} (h : ∀ z ∈ zs, z.1 = .sh ∨ z.1 = .ow) (hn : zs ≠ []) : jL zs = .ow := by
  unfold jL
  rw [jT_ow h hn]
theorem go_LcO {step : KD → (Option KD → Prop) → Prop} {zs : List KD} {P : KD → Prop} (k : Kd) (f : KD → D) (hk : k = .sh ∨ k = .ow) (hn : zs.length ≤ 10000000) (h0 : zs ≠ []) (hs : ∀ (i : Nat) z (N : Option KD → Prop), zs[i]? = some z → N (some (k, f z)) → step z N) (h : P (.ow, .lst (zs.map f))) : kLc step zs P := by
  unfold kLc; rw [hid_eq]
  refine ⟨hn, comp_map (fun z => (k, f z)) hs ?_⟩
  rw [jL_ow (fun z hz => by obtain ⟨a, _, rfl⟩ := List.mem_map.mp hz; exact hk) (by simpa using h0), snd_flm]
  exact h
end
end DL

namespace DL
open PySem PySem.Spec PyProof PyProof.Rows L2
noncomputable section
def oKey (k : Key) (z : KD) (P : KD → Prop) : Prop := match z.2 with
  | .dcK ks ds => ∃ (j : Nat) (d : D), ks.Nodup ∧ ks[j]? = some k ∧ ds[j]? = some d ∧ P (kel .rd d)
  | _ => False
@[irreducible] def xKey (k : Key) (z : KD) (P : KD → Prop) : Prop := hid (oKey k z P)
section
variable {X : Cx} {pos ip : Pos}
def oKeyP (k : Key) (i : Nat) (e : D) (rb : D → D) (P : Nat → Kd → D → (D → D) → Prop) : Prop := match e with
  | .dcK ks ds => ∃ (j : Nat) (d : D), ks.Nodup ∧ ks[j]? = some k ∧ ds[j]? = some d ∧ P i .ow d (fun c' => rb (.dcK ks (ds.set j c')))
  | _ => False
@[irreducible] def xKeyP (k : Key) (i : Nat) (e : D) (rb : D → D) (P : Nat → Kd → D → (D → D) → Prop) : Prop := hid (oKeyP k i e rb P)
end
section
variable {K : Frg} {H : Hp}
end
def oKeyS (k : Key) (e : D) (z : D) (P : D → Prop) : Prop := match e with
  | .dcK ks ds => ∃ (j : Nat), ks.Nodup ∧ ks.length < 1000 ∧ ks[j]? = some k ∧ j < ds.length ∧ P (.dcK ks (ds.set j z))
  | _ => False
@[irreducible] def xKeyS (k : Key) (e : D) (z : D) (P : D → Prop) : Prop := hid (oKeyS k e z P)
def oTwoO (z : KD) (P : D → D → Prop) : Prop := ownK z.1 = true ∧ match z.2 with
  | .tup [a, b] => P a b
  | _ => False
@[irreducible] def xTwoO (z : KD) (P : D → D → Prop) : Prop := hid (oTwoO z P)
section
variable {X : Cx} {E : XK} {pr : List Nat} {pos : Pos}
end
end
end DL

namespace DL
open PySem PySem.Spec PyProof PyProof.Rows L2
noncomputable section
section
variable {K : Frg} {A : Addr → Prop} {H : Hp} {ρ : Ro} {σ : L2.St} {ow : List Addr} {i x : Nat} {k : Kd} {e : D} {rb : D → D} {w : V}
theorem R.full : ∀ {d : D} {v : V} {fp : List Addr}, R K No H d v fp → fp ≠ [] → v ≠ .non := fun {d v fp} h n => by
  cases d <;> first
    | exact absurd h.1 n
    | (obtain ⟨p, _, _, _, ev, _⟩ := h; rw [show v = _ from ev]; exact fun z => nomatch z)
    | (obtain ⟨p, _, _, ev, _⟩ := h; rw [show v = _ from ev]; exact fun z => nomatch z)
    | (obtain ⟨p, _, ev, _⟩ := h; rw [show v = _ from ev]; exact fun z => nomatch z)
theorem isL_full {e : D} {w : V} {fe : List Addr} (h : R K No H e w fe) (l : isL e = true) : fe ≠ [] := by
  cases e <;> first
    | (cases l; done)
    | (obtain ⟨p, vs, fps, _, e2, _⟩ := h; rw [e2]; exact fun z => nomatch z)
theorem bor_in (gd : Good K A H ρ σ ow) (p : PlAt K A H ρ σ ow i k e rb w) (l : isL e = true) (hix : i ≠ x) :
    ∃ ow1, Good K A H ((ρ.set i (some (.fl, .any))).set x (some (.ow, e))) (σ.set x (some w)) ow1 ∧ ∀ (σ' : L2.St) (H' : Hp) (fz ow' : List Addr) (A' : Addr → Prop) (ρ' : Ro) (e' : D) (z : KD) (zv : V), Stp H ow1 A H' (fz ++ ow') A' → Good K A' H' ρ' σ' ow' → Own K A' H' z zv fz ow' →
      ρ'[x]? = some (some (.ow, e')) → σ'[i]? = (σ.set x (some w))[i]? → σ'[x]? = (σ.set x (some w))[x]? → x < σ.length → ∃ ow2, Good K A' H' ((ρ'.set x none).set i (some (.ow, rb e'))) σ' ow2 ∧ Stp H ow A H' (fz ++ ow2) A' ∧ Own K A' H' z zv fz ow2 := by
  obtain ⟨d, v0, g1, fs, g2, fe, e1, e2, ⟨f1, f2, ef, r, reb⟩, hs, put⟩ := p
  subst e1 ef
  have gnd := gd.nd
  have r0 : R K No H (rb e) v0 (f1 ++ (fe ++ f2)) := reb H No e fe (fun _ h => h) (fun a o e _ => e) r
  have hv0 : v0 ≠ .non := r0.full fun z => by
    have := isL_full r l
    simp only [List.append_eq_nil_iff] at z
    exact this z.2.1
  have rep1 : RepS K A H (ρ.set i (some (.fl, .any))) σ (g1 ++ ([] ++ g2)) := put H A (.fl, .any) [] (fun _ h => h) (fun a o e _ => e) ⟨rfl, hv0⟩
  rw [List.nil_append] at rep1
  have b1 := List.nodup_append.mp gnd
  have b2 := List.nodup_append.mp b1.2.1
  have b3 := List.nodup_append.mp b2.1
  have b4 := List.nodup_append.mp b3.2.1
  have good1 : Good K A H (ρ.set i (some (.fl, .any))) σ (g1 ++ g2) := ⟨rep1, List.nodup_append.mpr ⟨b1.1, b2.2.1, fun a ha b hb => b1.2.2 a ha b (by simp [hb])⟩, fun a h => gd.dis a (by rcases List.mem_append.mp h with h | h <;> simp [h]), gd.tr⟩
  have own1 : Own K A H (.ow, e) w fe (g1 ++ g2) := ⟨r, List.nodup_append.mpr ⟨b4.1, good1.nd, fun a ha b hb e => by
    subst e
    rcases List.mem_append.mp hb with h | h
    · exact b1.2.2 a h a (by simp [ha]) rfl
    · exact b2.2.2 a (by simp [ha]) a h rfl⟩, fun a h => gd.dis a (by simp [h])⟩
  obtain ⟨ow1, good2, sub1⟩ := good1.put (i := x) own1
  refine ⟨ow1, good2, fun σ' H' fz ow' A' ρ' e' z zv st g' oz hx hi hw hlt => ?_⟩
  have inow : ∀ a ∈ ow1, a ∈ g1 ++ (f1 ++ (fe ++ f2) ++ g2) := fun a h => by
    rcases sub1 a h with h | h
    · rcases List.mem_append.mp h with h | h <;> simp [h]
    · simp [h]
  -- what stands beside the list
  have side : ∀ a, a ∈ f1 ++ f2 → a ∉ ow1 ∧ (∃ o, H a = some o) ∧ ¬ A a := fun a h => by
    have hin : a ∈ g1 ++ (f1 ++ (fe ++ f2) ++ g2) := by rcases List.mem_append.mp h with h | h <;> simp [h]
    refine ⟨fun z => ?_, let ⟨o, e, _⟩ := gd.rep.mu a hin; ⟨o, e⟩, gd.dis a hin⟩
    rcases sub1 a z with y | y
    · rcases List.mem_append.mp y with y | y
      · exact b1.2.2 a y a (by rcases List.mem_append.mp h with h | h <;> simp [h]) rfl
      · exact b2.2.2 a (by rcases List.mem_append.mp h with h | h <;> simp [h]) a y rfl
    · rcases List.mem_append.mp h with h | h
      · exact b3.2.2 a h a (by simp [y]) rfl
      · exact b4.2.2 a y a h rfl
  have kp : KeepF No (f1 ++ f2) H H' := fun a o ea h => st.same a o ea fun z => by
    rcases h with h | h | h
    · exact (side a h).1 z
    · exact h
    · obtain ⟨u, e', m⟩ := good2.rep.mu a z
      rw [ea] at e'; cases e'
      exact m.notImm h
  obtain ⟨w', fe', ow'', hw', g'', o'', sub''⟩ := g'.move hx
  rw [List.getElem?_set_self hlt] at hw
  rw [hw] at hw'
  cases hw'
  have whole : R K No H' (rb e') v0 (f1 ++ (fe' ++ f2)) := reb H' No e' fe' (fun _ h => h) kp o''.rep
  have org : ∀ a, a ∈ fz ++ ow' → a ∈ ow1 ∨ H a = none := st.own
  have far : ∀ a, a ∈ f1 ++ f2 → a ∉ fz ++ ow' := fun a h z => by
    obtain ⟨s1, ⟨o, s2⟩, _⟩ := side a h
    rcases org a z with y | y
    · exact s1 y
    · rw [s2] at y; cases y
  obtain ⟨k1, k2, k3⟩ := List.nodup_append.mp o''.nd
  have c1 : ∀ a ∈ fe', a ∈ fz ++ ow' := fun a h => by simp [sub'' a (by simp [h])]
  have c2 : ∀ a ∈ ow'', a ∈ fz ++ ow' := fun a h => by simp [sub'' a (by simp [h])]
  have own2 : Own K A' H' (.ow, rb e') v0 (f1 ++ (fe' ++ f2)) ow'' := by
    refine ⟨whole, ?_, fun a h z => ?_⟩
    · refine List.nodup_append.mpr ⟨List.nodup_append.mpr ⟨b3.1, List.nodup_append.mpr ⟨k1, b4.2.1, fun a ha b hb e => ?_⟩, fun a ha b hb e => ?_⟩, k2, fun a ha b hb e => ?_⟩
      · subst e; exact far a (by simp [hb]) (c1 a ha)
      · subst e
        rcases List.mem_append.mp hb with hb | hb
        · exact far a (by simp [ha]) (c1 a hb)
        · exact b3.2.2 a ha a (by simp [hb]) rfl
      · subst e
        simp only [List.mem_append] at ha
        rcases ha with ha | ha | ha
        · exact far a (by simp [ha]) (c2 a hb)
        · exact k3 a ha a hb rfl
        · exact far a (by simp [ha]) (c2 a hb)
    · simp only [List.mem_append] at h
      have aux : a ∈ f1 ++ f2 → False := fun h => by
        obtain ⟨s1, ⟨o, s2⟩, s3⟩ := side a h
        rcases st.fr a z with y | y | y
        · exact s3 y
        · exact s1 y
        · rw [s2] at y; cases y
      rcases h with h | h | h
      · exact aux (by simp [h])
      · exact o''.dis a h z
      · exact aux (by simp [h])
  obtain ⟨ow2, g2', sub2⟩ := g''.put (i := i) own2
  have es : σ'.set i (some v0) = σ' := set_same (by rw [hi, List.getElem?_set_ne (fun z => hix z.symm)]; exact e2)
  rw [es] at g2'
  obtain ⟨z1, z2, z3⟩ := List.nodup_append.mp oz.nd
  have c3 : ∀ a ∈ ow2, a ∉ fz := fun a h z => by
    rcases sub2 a h with h | h
    · exact z3 a z a (sub'' a (by simp [h])) rfl
    · simp only [List.mem_append] at h
      rcases h with h | h | h
      · exact far a (by simp [h]) (by simp [z])
      · exact z3 a z a (sub'' a (by simp [h])) rfl
      · exact far a (by simp [h]) (by simp [z])
  refine ⟨ow2, g2', ⟨fun a o ea h => st.same a o ea fun z => h (inow a z), fun a h => ?_, st.up, fun a h => ?_⟩, ⟨oz.rep, List.nodup_append.mpr ⟨z1, g2'.nd, fun a ha b hb e => c3 b hb (e ▸ ha)⟩, oz.dis⟩⟩
  · have up : a ∈ fz ++ ow' → a ∈ g1 ++ (f1 ++ (fe ++ f2) ++ g2) ∨ H a = none := fun h => (org a h).elim (fun z => .inl (inow a z)) .inr
    rcases List.mem_append.mp h with h | h
    · exact up (by simp [h])
    · rcases sub2 a h with h | h
      · exact up (c2 a h)
      · simp only [List.mem_append] at h
        rcases h with h | h | h
        · exact .inl (by simp [h])
        · exact up (c1 a h)
        · exact .inl (by simp [h])
  · rcases st.fr a h with y | y | y
    · exact .inl y
    · exact .inr (.inl (inow a y))
    · exact .inr (.inr y)
end
def borBack (i x : Nat) (rb : D → D) (ρ : Ro) (P : Ro → Prop) : Prop := match ρ[x]? with
  | some (some (.ow, e')) => P ((ρ.set x none).set i (some (.ow, rb e')))
  | _ => False
section
variable {X : Cx} {E : XK} {pr : List Nat} {pos : Pos}
theorem borBack_of {i x : Nat} {rb : D → D} {ρ : Ro} {P : Ro → Prop} (h : borBack i x rb ρ P) : ∃ e', ρ[x]? = some (some (.ow, e')) ∧ P ((ρ.set x none).set i (some (.ow, rb e'))) := by
  unfold borBack at h
  split at h
  · rename_i e' q; exact ⟨e', q, h⟩
  · exact h.elim
end
structure PKs (X : Cx) (pos : Pos) (keys : List (Option Expr)) (values : List Expr) (ks : List Str) (t : TA) : Prop where
  run : ∃ trs, PPs X pos keys values trs ∧ tPairs trs = fun σ H Q => t σ H fun vs H' => Q ((ks.map V.str).zip vs) H'
theorem VRs.rs {K : Frg} {A : Addr → Prop} {H : Hp} : ∀ {zs : List KD} {vs : List V} {fp : List Addr}, VRs K A H zs vs fp → zs.all (fun z => ownK z.1) = true → Rs K No H (zs.map (·.2)) vs fp
  | [], _, _, h, _ => h
  | z :: zs, _, _, ⟨w, ws, f1, f2, e, e2, h, t⟩, c => by
    have c' := Bool.and_eq_true_iff.mp (show (ownK z.1 && zs.all fun z => ownK z.1) = true from c)
    exact ⟨w, ws, f1, f2, e, e2, VR.rown h c'.1, VRs.rs t c'.2⟩
section
variable {X : Cx} {E : XK} {pos : Pos}
structure DPK (X : Cx) (E : XK) (pos : Pos) (keys : List (Option Expr)) (values : List Expr) (ks : List Str) (n : Nat) (g : AEF) : Prop where
  run : ∃ t, PKs X pos keys values ks t ∧ AESound X.K E n t g
end
section
variable {X : Cx} {E : XK} {pos cpos apos px tpos : Pos}
end
end
end DL

namespace DL
open PySem PySem.Spec PyProof PyProof.Rows L2
noncomputable section
def cln1 : Sl → Sl
  | some (.rd, _) => none
  | some (.sa, _) => none
  | s => s
def cln (ρ : Ro) : Ro := ρ.map cln1
section
variable {X : Cx} {E : XK} {pr : List Nat} {st : Stmt} {f : SF}
end
end
end DL

namespace DL
open PySem PySem.Spec PyProof PyProof.Rows L2
noncomputable section
section
variable {X : Cx} {E : XK} {CX : CXT} {k m : Nat} {f : Addr} {ps : List Str} {c : CF} {ms : List Bool} {x : Str} {p pos : Pos} {e : Expr} {es : List Expr} {g : PAF} {pl : PLF}
end
end
end DL

namespace DL
open PySem PySem.Spec PyProof PyProof.Rows L2
noncomputable section
def pSlF (f : PF) (g h : POF) : PF := fun ρ P => f ρ fun z => g ρ fun lo => h ρ fun hi => match z with
  | (_, .lst ds) => (cutD ds lo hi).all D.flat1 = true ∧ P (.sh, .lst (cutD ds lo hi))
  | _ => False
section
variable {X : Cx} {pos : Pos} {a : Expr} {fa : PF}
end
end
end DL

namespace DL
open PySem PySem.Spec PyProof PyProof.Rows L2
noncomputable section
def vsBack (i : Nat) (d : D) (ρ : Ro) (P : Ro → Prop) : Prop := P ((cln ρ).set i (some (.sh, d)))
def sVs (i : Nat) (f : SF) : SF := fun D ρ => match ρ[i]? with
  | some (some (.sh, d)) => f
    { nx := fun ρ' => vsBack i d ρ' D.nx
      rt := fun z ρ' => ownK z.1 = true ∧ vsBack i d ρ' (D.rt z)
      ex := fun C ρ' => vsBack i d ρ' (D.ex C) } (ρ.set i (some (.sa, d)))
  | _ => False
section
variable {X : Cx} {E : XK} {pr : List Nat} {st : Stmt} {f : SF}
end
end
end DL

namespace DL
open PySem PySem.Spec PyProof PyProof.Rows L2
noncomputable section
def D.wk : D → D
  | .key ns => .tup (ns.map .int)
  | .tpx ns => .tup (ns.map .int)
  | d => d
section
variable {K : Frg} {A B F : Addr → Prop} {H : Hp}
theorem RA.wk {d : D} {v : V} (h : RA K A H d v) : RA K A H d.wk v := by
  cases d with
  | key ns =>
    obtain ⟨p, e, t⟩ := h
    exact ⟨p, _, e, .inl (.inl t), RAs.of_ints _⟩
  | tpx ns =>
    obtain ⟨p, o, e, t, _⟩ := h
    exact ⟨p, _, e, .inl (.inr ⟨o, t⟩), RAs.of_ints _⟩
  | _ => exact h
theorem VR.wk {k : Kd} {d : D} {v : V} {f : List Addr} (h : VR K A H (k, d) v f) : VR K A H (k, d.wk) v f := by
  cases d with
  | key ns =>
    cases k with
    | fl => exact ⟨h.1, RA.wk h.2⟩
    | rd => exact ⟨h.1, RA.wk h.2⟩
    | sa => exact h.2.2.elim
    | sh => exact h.2.elim
    | ow => obtain ⟨e, h⟩ := h; subst e; exact R.of0 _ _ (RA.wk h)
  | tpx ns =>
    cases k with
    | fl => exact ⟨h.1, RA.wk h.2⟩
    | rd => exact ⟨h.1, RA.wk h.2⟩
    | sa => exact h.2.2.elim
    | sh => exact h.2.elim
    | ow => obtain ⟨e, h⟩ := h; subst e; exact R.of0 _ _ (RA.wk h)
  | _ => exact h
theorem PR.wk {z : KD} {v : V} (h : PR K B F H v z) : PR K B F H v (z.1, z.2.wk) := let ⟨fp, a, b, c⟩ := h; ⟨fp, VR.wk a, b, c⟩
end
def pWk (f : PF) : PF := fun ρ P => f ρ fun z => P (z.1, z.2.wk)
theorem dp_wk {X : Cx} {e : Expr} {f : PF} (h : DP X e f) : DP X e (pWk f) := by
  obtain ⟨t, a, s⟩ := h.run
  exact ⟨t, a, fun σ H A ρ ow Q P g h q => s σ H A ρ ow Q (fun z => P (z.1, z.2.wk)) g h fun z v H1 hz s1 p1 => q _ v H1 hz s1 p1.wk⟩

def oTupleK : List KD → (KD → Prop) → Prop := fun zs P => match zs with
  | [(_, .lst ds)] => ∃ ns : List Int, ds = ns.map .int ∧ P (.fl, .key ns)
  | _ => False
theorem cs_tupleK {K : Frg} : CallS K (fun xs H Q => ∃ p ys, xs = [.ref p] ∧ ((SqL K H p ys ∧ ∀ l, H l = none → Q (.ref l) (upd H l (.tup ys))) ∨ (SqT K H p ys ∧ Q (.ref p) H))) oTupleK := by
  intro B F H vs xs P Q pr hF h q
  unfold oTupleK at h
  split at h
  · rename_i k ds
    obtain ⟨ns, rfl, hP⟩ := h
    obtain ⟨v, ev, p⟩ := pr.get1
    obtain ⟨a, ea, t⟩ := pr_ints p
    subst ev ea
    exact ⟨a, _, rfl, .inl ⟨t, fun l hl => q _ _ _ hP (same_upd hl) (.fl ⟨l, rfl, upd_same⟩)⟩⟩
  · exact h.elim
section
variable {X : Cx} {o e : Expr} {es : List Expr} {to : TE} {t : TA} {name : Str} {apos cpos : Pos} {id : String} {r : V → List V → Hp → VK → Prop}
end

section
variable {prog : Program} {w : World} {A : Around} {E : Value → Shared → Prop} {s : Shared} {l : Addr} {xs : Array (Int × Tok)} {its : List Value} {ns : List Int} {Q : Value → Shared → Prop}
end
end
end DL

namespace DL
open PySem PySem.Spec PyProof PyProof.Rows L2
noncomputable section
abbrev TD := List (List Int × Int)
abbrev lowK (k : List Int) : List Key := k.map Sum.inl
def lowT (kvs : TD) : List (List Key × V) := kvs.map fun x => (lowK x.1, V.int x.2)
def dtD (kvs : TD) : D := .dcT (kvs.map fun x => lowK x.1) (kvs.map fun x => .int x.2)
def look (kvs : TD) (k : List Int) : Option Int := (kvs.find? fun x => decide (x.1 = k)).map (·.2)
def putI (kvs : TD) (k : List Int) (i : Int) : TD := if (kvs.any fun x => decide (x.1 = k)) = true then kvs.map (fun x => if x.1 = k then (x.1, i) else x) else kvs ++ [(k, i)]
theorem lowK_inj {a b : List Int} : (lowK a = lowK b) ↔ a = b := List.map_inj_right fun _ _ z => Sum.inl.inj z
theorem lowK_kV (a : List Int) : (lowK a).map kV = a.map V.int := by rw [List.map_map]; rfl
theorem valV_lowT (k : List Int) : ∀ kvs : TD, valV (lowT kvs) (lowK k) = (look kvs k).map V.int
  | [] => rfl
  | x :: kvs => by
    by_cases e : x.1 = k
    · have h1 : look (x :: kvs) k = some x.2 := by unfold look; rw [List.find?_cons, decide_eq_true e]; rfl
      rw [h1]
      exact valV_pos (p := (lowK x.1, V.int x.2)) (lowK_inj.mpr e)
    · have h1 : look (x :: kvs) k = look kvs k := by unfold look; rw [List.find?_cons, decide_eq_false e]
      rw [h1, ← valV_lowT k kvs]
      exact valV_neg (p := (lowK x.1, V.int x.2)) fun z => e (lowK_inj.mp z)
theorem putK_lowT (kvs : TD) (k : List Int) (i : Int) : putK (lowT kvs) (lowK k) (V.int i) = lowT (putI kvs k i) := by
  have e : ((lowT kvs).any fun kv => decide (kv.1 = lowK k)) = (kvs.any fun x => decide (x.1 = k)) := by
    unfold lowT
    rw [List.any_map]
    congr 1
    funext x
    exact decide_eq_decide.mpr lowK_inj
  unfold putK putI
  rw [e]
  by_cases c : (kvs.any fun x => decide (x.1 = k)) = true
  · rw [if_pos c, if_pos c]
    unfold lowT
    rw [List.map_map, List.map_map]
    refine List.map_congr_left fun x _ => ?_
    show (if lowK x.1 = lowK k then (lowK x.1, V.int i) else (lowK x.1, V.int x.2)) = (lowK (if x.1 = k then (x.1, i) else x).1, V.int (if x.1 = k then (x.1, i) else x).2)
    by_cases e : x.1 = k
    · rw [if_pos (lowK_inj.mpr e), if_pos e]
    · rw [if_neg (fun z => e (lowK_inj.mp z)), if_neg e]
  · rw [if_neg c, if_neg c]
    unfold lowT
    rw [List.map_append]; rfl
theorem low_eq {kvs : TD} : ∀ {kv2 : List (List Key × V)}, kv2.map (·.1) = (kvs.map fun x => lowK x.1) → kv2.map (·.2) = (kvs.map fun x => V.int x.2) → kv2 = lowT kvs := by
  induction kvs with
  | nil => intro kv2 h _; exact List.map_eq_nil_iff.mp h
  | cons x kvs ih =>
    intro kv2 h1 h2
    cases kv2 with
    | nil => cases h1
    | cons y r =>
      obtain ⟨a, b⟩ := y
      rw [List.map_cons, List.map_cons] at h1 h2
      have a1 := (List.cons.inj h1).1
      have a2 := (List.cons.inj h2).1
      dsimp only at a1 a2
      rw [ih (List.cons.inj h1).2 (List.cons.inj h2).2, a1, a2]; rfl
theorem low_keys {kvs : TD} : (lowT kvs).map (·.1) = (kvs.map fun x => lowK x.1) := by unfold lowT; rw [List.map_map]; rfl
theorem low_vals {kvs : TD} : (lowT kvs).map (·.2) = (kvs.map fun x => V.int x.2) := by unfold lowT; rw [List.map_map]; rfl
theorem low_len {kvs : TD} : (lowT kvs).length = kvs.length := List.length_map ..
section
variable {K : Frg} {A B F : Addr → Prop} {H : Hp} {kvs : TD} {v : V} {fp : List Addr}
theorem RAs.intv : ∀ {kvs : TD} {vs : List V}, RAs K A H (kvs.map fun x => .int x.2) vs → vs = kvs.map fun x => V.int x.2
  | [], _, h => h
  | x :: kvs, _, ⟨w, ws, e, h, t⟩ => by
    have e1 : w = V.int x.2 := h
    rw [e, e1, RAs.intv (kvs := kvs) t]; rfl
theorem RAs.of_intv : ∀ {kvs : TD}, RAs K A H (kvs.map fun x => .int x.2) (kvs.map fun x => V.int x.2)
  | [] => rfl
  | x :: kvs => ⟨_, _, rfl, rfl, RAs.of_intv (kvs := kvs)⟩
theorem RA.dt (h : RA K A H (dtD kvs) v) : ∃ p, v = .ref p ∧ A p ∧ Rd H p (.dT (lowT kvs)) := by
  obtain ⟨p, k2, e, a, t, e1, r⟩ := h
  refine ⟨p, e, a, ?_⟩
  rw [← low_eq e1 (RAs.intv r)]; exact t
theorem R.dt (h : R K A H (dtD kvs) v fp) : ∃ p, v = .ref p ∧ fp = [p] ∧ H p = some (.dT (lowT kvs)) := by
  obtain ⟨p, k2, fps, e, e2, t, e1, r⟩ := h
  have z : RAs K (fun _ => True) H (kvs.map fun x => .int x.2) (k2.map (·.2)) := Rs.ra (fun _ _ => trivial) _ _ _ (fun _ _ => trivial) r
  have e3 : fps = [] := Rs.nil0 (K := K) (A := A) (H := H) (H' := H) _ fps ⟨_, RAs.of_intv⟩ ⟨_, r⟩
  subst e3
  exact ⟨p, e, e2, by rw [← low_eq e1 (RAs.intv z)]; exact t⟩
theorem R.of_dt {p : Addr} (h : H p = some (.dT (lowT kvs))) : R K A H (dtD kvs) (.ref p) [p] :=
  ⟨p, lowT kvs, [], rfl, rfl, h, low_keys, by rw [low_vals]; exact Rs.of0 _ _ RAs.of_intv⟩
end
def isT (d : D) (kvs : TD) : Prop := d = dtD kvs ∨ d = .lkT kvs
theorem RA.isT {K : Frg} {A : Addr → Prop} {H : Hp} {d : D} {kvs : TD} {v : V} (e : isT d kvs) (h : RA K A H d v) : ∃ p, v = .ref p ∧ Rd H p (.dT (lowT kvs)) := by
  rcases e with e | e
  · subst e
    obtain ⟨p, e, _, t⟩ := RA.dt h
    exact ⟨p, e, t⟩
  · subst e
    obtain ⟨p, o, e, t⟩ := h
    exact ⟨p, e, .inr ⟨o, t⟩⟩
def oGetK (x y : KD) (P : KD → Prop) : Prop := ∃ kvs ns i, isT x.2 kvs ∧ y.2 = .key ns ∧ look kvs ns = some i ∧ P (.fl, .int i)
@[irreducible] def xGetK (x y : KD) (P : KD → Prop) : Prop := hid (oGetK x y P)
theorem go_getK {x y : KD} {P : KD → Prop} {kvs : TD} {ns : List Int} {i : Int} (hx : isT x.2 kvs) (hy : y.2 = .key ns) (hi : look kvs ns = some i) (p : P (.fl, .int i)) : xGetK x y P := by
  unfold xGetK; rw [hid_eq]; exact ⟨kvs, ns, i, hx, hy, hi, p⟩
def pGetK (fo fk : PF) : PF := fun ρ P => fo ρ fun x => fk ρ fun y => xGetK x y P
def oIsT (x : KD) (P : TD → Prop) : Prop := ∃ kvs, isT x.2 kvs ∧ P kvs
@[irreducible] def xIsT (x : KD) (P : TD → Prop) : Prop := hid (oIsT x P)
theorem go_isT {x : KD} {P : TD → Prop} {kvs : TD} (hx : isT x.2 kvs) (p : P kvs) : xIsT x P := by
  unfold xIsT; rw [hid_eq]; exact ⟨kvs, hx, p⟩
def oGet2K (kvs : TD) (y z : KD) (P : KD → Prop) : Prop := ∃ ns j, y.2 = .key ns ∧ z.2 = .int j ∧ P (.fl, .int ((look kvs ns).getD j))
@[irreducible] def xGet2K (kvs : TD) (y z : KD) (P : KD → Prop) : Prop := hid (oGet2K kvs y z P)
theorem go_get2K {kvs : TD} {y z : KD} {P : KD → Prop} {ns : List Int} {j : Int} (hy : y.2 = .key ns) (hz : z.2 = .int j) (p : P (.fl, .int ((look kvs ns).getD j))) : xGet2K kvs y z P := by
  unfold xGet2K; rw [hid_eq]; exact ⟨ns, j, hy, hz, p⟩
def pGet2K (fo fk fx : PF) : PF := fun ρ P => fo ρ fun x => xIsT x fun kvs => fk ρ fun y => fx ρ fun z => xGet2K kvs y z P
section
variable {X : Cx} {pos ip : Pos}
theorem dgetT {H : Hp} {p b : Addr} {kvs : TD} {ns : List Int} (h : Rd H p (.dT (lowT kvs))) (hb : H b = some (.tup (ns.map V.int))) : DGet H p (.ref b) ((look kvs ns).map V.int) :=
  .inr ⟨lowT kvs, lowK ns, b, h, rfl, by rw [lowK_kV]; exact hb, (valV_lowT ns kvs).symm⟩
theorem dp_getK {o k : Expr} {fo fk : PF} (hu : X.A.units + 64 < cLine) (ho : DP X o fo) (hk : DP X k fk) (hs : NoSl k := by exact fun _ _ => rfl) : DP X (.Subscript o k pos) (pGetK fo fk) := by
  obtain ⟨t, ea, sa⟩ := ho.run
  obtain ⟨u, eb, sb⟩ := hk.run
  refine ⟨_, pe_dget (by omega) ea eb hs, fun σ H A ρ ow Q P g h q => ?_⟩
  refine sa σ H A ρ ow _ _ g h fun x v H1 hx s1 p1 => ?_
  refine sb σ H1 A ρ ow _ _ (g.same s1) hx fun y w H2 hy s2 p2 => ?_
  unfold xGetK at hy
  rw [hid_eq] at hy
  obtain ⟨kvs, ns, i, ex, ey, hi, hP⟩ := hy
  obtain ⟨p, rfl, t1⟩ := RA.isT ex p1.ra
  have r2 := p2.ra
  rw [ey] at r2
  obtain ⟨b, rfl, hb⟩ := r2
  refine ⟨p, .int i, rfl, ?_, q _ _ H2 hP (s1.trans s2) .int⟩
  have := dgetT (Rd.same s2 t1) hb
  rwa [hi] at this
theorem dp_get2K {o k d : Expr} {fo fk fx : PF} {apos cpos : Pos} (hu : X.A.units + 64 < cLine) (ho : DP X o fo) (hk : DP X k fk) (hd : DP X d fx) (m : M2 X o "get" apos k d cpos) : DP X (.Call (.Attribute o "get" apos) [k, d] [] cpos) (pGet2K fo fk fx) := by
  obtain ⟨t, ea, sa⟩ := ho.run
  obtain ⟨u, eb, sb⟩ := hk.run
  obtain ⟨w, ec, sc⟩ := hd.run
  refine ⟨_, pe_dget2 (by omega) ea eb ec m, fun σ H A ρ ow Q P g h q => ?_⟩
  refine sa σ H A ρ ow _ _ g h fun x v H1 hx s1 p1 => ?_
  unfold xIsT at hx
  rw [hid_eq] at hx
  obtain ⟨kvs, ex, hx⟩ := hx
  obtain ⟨p, rfl, t1⟩ := RA.isT ex p1.ra
  refine ⟨p, rfl, .inr ⟨_, t1⟩, ?_⟩
  refine sb σ H1 A ρ ow _ _ (g.same s1) hx fun y w H2 hy s2 p2 => ?_
  refine sc σ H2 A ρ ow _ _ (g.same (s1.trans s2)) hy fun z w3 H3 hz s3 p3 => ?_
  unfold xGet2K at hz
  rw [hid_eq] at hz
  obtain ⟨ns, j, ey, ez, hP⟩ := hz
  have r2 := p2.ra
  rw [ey] at r2
  obtain ⟨b, rfl, hb⟩ := r2
  have r3 := p3.ra
  rw [ez] at r3
  obtain rfl : w3 = .int j := r3
  refine ⟨_, dgetT (Rd.same (s2.trans s3) t1) (s3 b _ hb), ?_⟩
  have e : ((look kvs ns).map V.int).getD (.int j) = .int ((look kvs ns).getD j) := by cases look kvs ns <;> rfl
  rw [e]
  exact q _ _ H3 hP ((s1.trans s2).trans s3) .int
def pDNewT : PF := fun _ P => P (.ow, dtD [])
theorem pr_dt {K : Frg} {B F : Addr → Prop} {H : Hp} {p : Addr} {kvs : TD} (h : H p = some (.dT (lowT kvs))) (hF : F p) : PR K B F H (.ref p) (.ow, dtD kvs) :=
  ⟨[p], R.of_dt h, by simp, fun a z => by rw [List.mem_singleton.mp z]; exact hF⟩
theorem dp_dnewT : DP X (.Dict [] [] pos) pDNewT :=
  ⟨_, pe_dnewT, fun σ H A ρ ow Q P g h q p hp => q _ _ _ h (same_upd hp) (pr_dt (kvs := []) upd_same hp)⟩
end
def oPutK (e : D) (y z : KD) (P : D → Prop) : Prop := ∃ kvs ns i, e = dtD kvs ∧ y.2 = .key ns ∧ z.2 = .int i ∧ kvs.length < 10000000 ∧ P (dtD (putI kvs ns i))
@[irreducible] def xPutK (e : D) (y z : KD) (P : D → Prop) : Prop := hid (oPutK e y z P)
theorem go_putK {e : D} {y z : KD} {P : D → Prop} {kvs : TD} {ns : List Int} {i : Int} (he : e = dtD kvs) (hy : y.2 = .key ns) (hz : z.2 = .int i) (hl : kvs.length < 10000000) (p : P (dtD (putI kvs ns i))) : xPutK e y z P := by
  unfold xPutK; rw [hid_eq]; exact ⟨kvs, ns, i, he, hy, hz, hl, p⟩
def sPutK (fe : EF) (pl : PLF) (fk : PF) : SF := fun D ρ => fe ρ (fun z ρ1 => pl ρ1 fun i _ e rb => fk ρ1 fun y => xPutK e y z fun e' => D.nx (ρ1.set i (some (.ow, rb e')))) D.ex
section
variable {X : Cx} {E : XK} {pr : List Nat} {pos : Pos}
theorem ds_putK {o ix e : Expr} {p2 : Pos} {fe : EF} {pl : PLF} {fi : PF} (hu : X.A.units + 64 < cLine) (he : DE X E e fe) (ho : DPl X o pl) (hi : DP X ix fi) (hs : swapsWithSole [.Subscript o ix p2] e pos.line X.env = pure false := by rfl) (hw : swappedStores [.Subscript o ix p2] e X.env = pure none := by rfl)
    (h1 : (assignEach [.Subscript o ix p2] X.env).map (·.2) = [assign (.Subscript o ix p2) X.env] := by rfl) (hg : ∀ v, assign (.Subscript o ix p2) X.env v = (do
      let ov ← holding [v] (eval o X.env)
      let iv ← holding [v, ov] (eval ix X.env)
      standAt p2
      holding [v, ov, iv] (setItem ov iv v)
      release [v, ov, iv] []) := by intro _; rfl) : DS X E pr (.Assign [.Subscript o ix p2] e pos) (sPutK fe pl fi) := by
  obtain ⟨te, ee, se⟩ := he.run
  obtain ⟨to, eo, so⟩ := ho.run
  obtain ⟨ti, ei, si⟩ := hi.run
  refine ⟨_, ps_asg ee (pg_sub eo ei (set_dict (by omega)) hg) hs hw h1, fun σ H A ρ ow T D gd h nx rt ex => ?_⟩
  refine se σ H A ρ ow _ _ _ gd h (fun z ρ1 v H1 fp ow1 A1 h1 st1 g1 o1 => ?_) fun C ρ1 H1 ow1 A1 h1 st1 g1 => ex C ρ1 σ H1 ow1 A1 h1 st1 g1 fun _ _ => rfl
  refine so σ H1 A1 ρ1 ow1 _ _ g1 h1 fun i k e rb w H2 h2 s2 p2 => ?_
  refine si σ H2 A1 ρ1 ow1 _ _ (g1.same s2) h2 fun y yv H3 h3 s3 p3 => ?_
  have s := s2.trans s3
  unfold xPutK at h3
  rw [hid_eq] at h3
  obtain ⟨kvs, ns, n, ek, ey, ez, hl, h3⟩ := h3
  subst ek
  have ry := p3.ra
  rw [ey] at ry
  obtain ⟨b, rfl, hb⟩ := ry
  have rz : RA X.K (fun _ => True) H3 z.2 v := (o1.rep.same s).ra (fun _ _ => trivial) fun _ _ => trivial
  rw [ez] at rz
  obtain rfl : v = .int n := rz
  obtain ⟨fe0, r, nd, _, hsh, mtt⟩ := (p2.same s3).mut (g1.same s) o1.nd o1.dis
  obtain ⟨p, ew, ef, hp⟩ := R.dt r
  subst ew ef
  obtain ⟨ow', st', g', _⟩ := mtt (dtD (putI kvs ns n)) .ow [] (.fl, .non) .non (upd H3 p (.dT (putK (lowT kvs) (lowK ns) (.int n)))) [p] (fun a o e n => by rw [upd_ne (fun z => n (by simp [z]))]; exact e)
    (by rw [putK_lowT]; exact R.of_dt upd_same) (.inl rfl) ⟨rfl, rfl⟩ (by simp) fun a h => .inl (by simpa using h)
  refine ⟨p, _, rfl, .inr ⟨lowT kvs, lowK ns, b, hp, rfl, by rw [lowK_kV]; exact hb, by rw [low_len, sizeLine_eq]; omega, rfl⟩, ?_⟩
  refine nx _ σ _ ow' A1 h3 ?_ g' fun _ _ => rfl
  have stA : Stp H ow A H3 (fp ++ ow1) A1 := (st1.trans (Stp.of_same s))
  exact stA.trans (st'.sub fun a h => by simp [h])
def oLck (sl : Option Sl) (P : TD → Prop) : Prop := match sl with
  | some (some (.ow, d)) => ∃ kvs, d = dtD kvs ∧ P kvs
  | _ => False
@[irreducible] def xLck (sl : Option Sl) (P : TD → Prop) : Prop := hid (oLck sl P)
theorem go_lck {sl : Option Sl} {P : TD → Prop} {kvs : TD} (e : sl = some (some (.ow, dtD kvs))) (p : P kvs) : xLck sl P := by
  unfold xLck; rw [hid_eq]; subst e; exact ⟨kvs, rfl, p⟩
def sLck (i : Nat) (f : SF) : SF := fun D ρ => xLck ρ[i]? fun kvs => f D (ρ.set i (some (.fl, .lkT kvs)))
def tLckP (t : TS) : TS := fun D σ H => ∃ d u, H d = some u ∧ Mut (some u) ∧ ∀ od, t D σ (upd H d (.frz od u))
theorem pss_lckP {st : List Stmt} {t : TS} (h : PSs X st t) : PSs X st (tLckP t) := by
  refine ⟨fun pins s σ H D I hw => ?_⟩
  obtain ⟨d, u, hd, mu, hw⟩ := hw
  obtain ⟨od, I1⟩ := I.lock hd mu
  exact h.run pins s σ _ _ I1 (hw od)
theorem ds_lck (i : Nat) {st : List Stmt} {f : SF} (h : DSs X E pr st f) : DSs X E pr st (sLck i f) := by
  obtain ⟨t, a, s⟩ := h.run
  refine ⟨_, pss_lckP a, fun σ H A ρ ow T D gd h nx rt ex => ?_⟩
  unfold sLck xLck at h
  rw [hid_eq] at h
  unfold oLck at h
  split at h
  · rename_i d e
    obtain ⟨kvs, ed, h⟩ := h
    subst ed
    obtain ⟨v, fp, ow', hv, g', o, sub⟩ := gd.move e
    obtain ⟨p, ev, ef, hp⟩ := R.dt (o.rep.rown rfl)
    subst ev ef
    refine ⟨p, _, hp, True.intro, fun od => ?_⟩
    have mu : ∀ u, H p = some u → ¬ Imm u := fun u e => by rw [hp] at e; cases e; exact fun z => z
    have npo : p ∉ ow' := fun z => (List.nodup_append.mp o.nd).2.2 p (by simp) p z rfl
    have npA : ¬ A p := o.dis p (by simp)
    have g1 : Good X.K A (upd H p (.frz od (.dT (lowT kvs)))) (ρ.set i none) σ ow' := ⟨g'.rep.keep (KeepF.upd npo npA mu), g'.nd, g'.dis, fun a h => by
      by_cases c : a = p
      · exact ⟨_, by rw [c]; exact upd_same⟩
      · rw [upd_ne c]; exact g'.tr a h⟩
    obtain ⟨ow2, g2, sub2⟩ := g1.put (i := i) (kd := (.fl, .lkT kvs)) (v := .ref p) (fp := []) ⟨⟨rfl, p, od, rfl, upd_same⟩, by simpa using g'.nd, fun a h => nomatch h⟩
    rw [List.set_set, set_same hv] at g2
    have st1 : Stp H ow A (upd H p (.frz od (.dT (lowT kvs)))) ow2 A := ⟨fun a o e n => by
        rw [upd_ne (fun z => n (by rw [z]; exact sub p (by simp)))]; exact e, (fun a h => by
        rcases sub2 a h with z | z
        · exact .inl (sub a (by simp [z]))
        · cases z), fun _ h => h, fun a h => .inl h⟩
    exact s σ _ _ _ ow2 T D g2 h (fun ρ2 σ2 H2 ow2 A2 h2 st2 => nx ρ2 σ2 H2 ow2 A2 h2 (st1.trans st2)) (fun z ρ2 v σ2 H2 fp ow2 A2 h2 st2 => rt z ρ2 v σ2 H2 fp ow2 A2 h2 (st1.trans st2)) (fun C ρ2 σ2 H2 ow2 A2 h2 st2 => ex C ρ2 σ2 H2 ow2 A2 h2 (st1.trans st2))
  · exact h.elim
def keysD (kvs : TD) : List KD := kvs.map fun x => (.fl, .key x.1)
def iLk (f : PF) : IF := fun ρ P => f ρ fun z => match z.2 with
  | .lkT kvs => P (keysD kvs)
  | _ => False
theorem walks_lk {K : Frg} {B : Addr → Prop} {H H' : Hp} {Z F : Addr → Prop} {p : Addr} {o : Obj} {kvs : TD} (hF : ∀ a, F a → H a = none) (hz : ∀ a, Z a → ¬ B a ∧ ∃ o, H a = some o ∧ Mu o) (s : Same H H') (t : H' p = some (.frz o (.dT (lowT kvs)))) :
    Walks K (Itkt p o (lowT kvs)) (OkZ Z H') (Or2 B F) (keysD kvs) := by
  have hl : (keysD kvs).length = (lowT kvs).length := by unfold keysD lowT; rw [List.length_map, List.length_map]
  refine ⟨_, _, by rw [hl]; exact walk_keysT, fun H2 ok => ok p _ t (zFre hF hz s p _ t (.inr trivial)), fun i H2 x H3 z hzz ok y => ?_⟩
  obtain ⟨e, k, v, q, hk, ex, hq⟩ := y
  subst e ex
  unfold keysD at hzz
  unfold lowT at hk
  rw [List.getElem?_map] at hzz hk
  cases e : kvs[i]? with
  | none => rw [e] at hzz; cases hzz
  | some kv =>
    rw [e] at hzz hk
    cases hzz
    cases hk
    exact ⟨Same.refl _, rfl, q, rfl, by rw [← lowK_kV]; exact hq⟩
theorem di_lk {tg e : Expr} {f : PF} (he : DP X e f) : DI X tg e (iLk f) := by
  obtain ⟨t, a, s⟩ := he.run
  refine ⟨_, pi_keys a, fun σ H A ρ ow R P Z g hz h q => ?_⟩
  refine s σ H A ρ ow _ _ g h fun z v H1 hh s1 p1 => ?_
  split at hh
  · rename_i kvs ez
    have ra := p1.ra
    rw [ez] at ra
    obtain ⟨p, o, rfl, t⟩ := ra
    exact ⟨p, o, rfl, .inr ⟨_, t, q _ _ H1 hh s1 (walks_lk fre2 hz s1 t)⟩⟩
  · exact hh.elim
end
end
end DL

namespace SrtO
open PySem PyProof.Rows Srt
section
variable {prog : Program} {w : World} {A : Around} {E : Value → Shared → Prop} {s : Shared}
end
end SrtO
namespace DL
open PySem PySem.Spec PyProof PyProof.Rows L2
noncomputable section
end
end DL
namespace DL
open PySem PySem.Spec PyProof PyProof.Rows L2
noncomputable section
section
variable {X : Cx} {e : Expr} {f : PF} {pos : Pos}
end
end
end DL

namespace DL
open PySem PySem.Spec PyProof PyProof.Rows L2
section
variable {X : Cx} {o : Expr} {p pos apos mpos : Pos} {td : TE}
end
noncomputable section
def oMinK (x : KD) (P : KD → Prop) : Prop := ∃ kvs, isT x.2 kvs ∧ kvs ≠ [] ∧ ∀ m, m ∈ kvs.map (·.2) → (∀ j ∈ kvs.map (·.2), m ≤ j) → P (.fl, .int m)
@[irreducible] def xMinK (x : KD) (P : KD → Prop) : Prop := hid (oMinK x P)
end
end DL

namespace DL
open PySem PySem.Spec PyProof PyProof.Rows L2

noncomputable section
def D.lsq : D → Option (List D)
  | .lst ds => some ds
  | .kst ds => some ds
  | _ => none
theorem PR.lsq {K : Frg} {B F : Addr → Prop} {H : Hp} {k : Kd} {d : D} {ds : List D} {v : V} (h : PR K B F H v (k, d)) (e : d.lsq = some ds) : ∃ p vs, v = .ref p ∧ SqL K H p vs ∧ RAs K (k.elA B F) H ds vs := by
  cases d with
  | lst ds' =>
    cases e
    obtain ⟨p, vs, ev, t, r⟩ := h.lstT
    exact ⟨p, vs, ev, .of t, r⟩
  | kst ds' =>
    cases e
    obtain ⟨p, vs, ev, t, r⟩ := h.kstT
    exact ⟨p, vs, ev, kst_seq t, r⟩
  | _ => cases e
section
variable {X : Cx} {pos : Pos} {a : Expr} {fa : PF}
end
def oLkL (sl : Option Sl) (P : List D → Prop) : Prop := match sl with
  | some (some (k, .lst ds)) => (k = .sh ∨ k = .ow) ∧ D.imms ds = true ∧ P ds
  | _ => False
@[irreducible] def xLkL (sl : Option Sl) (P : List D → Prop) : Prop := hid (oLkL sl P)
section
variable {X : Cx} {E : XK} {pr : List Nat}
end
end
end DL

namespace DL
open PySem PySem.Spec PyProof.Rows L2
noncomputable section
section
variable {X : Cx} {E : XK} {pr : List Nat} {pos : Pos}
end
end
end DL

namespace DL
open PySem PySem.Spec PyProof.Rows L2
open PySem.W (AlikeAll alike dataLt minD reads_keeps readsAll_len iter_listW iter_tupleW cmpIn_lt moved_old argBest_fold alikeAll dataLt_ints dataLt_tuple rowLt)
noncomputable section
section
variable {prog : Program} {w : World} {A : Around} {E : Value → Shared → Prop} {s : Shared}
end
abbrev tI (ns : List Int) : D := .tup (ns.map .int)
abbrev pI (ns : List Int) : PyData := .tuple (ns.map .int)
theorem lt_pI (xs ys : List Int) : dataLt (pI xs) (pI ys) = decide (xs < ys) := by
  rw [dataLt_tuple]; exact dataLt_ints xs ys
theorem alike_ints : ∀ xs ys : List Int, alikeAll (xs.map .int) (ys.map .int) = true
  | [], _ => by rw [List.map_nil, alikeAll]
  | _ :: _, [] => by rw [List.map_nil, List.map_cons, alikeAll]
  | x :: xs, y :: ys => by
    rw [List.map_cons, List.map_cons, alikeAll, alike_ints xs ys, alike]; rfl
theorem alike_pI (nss : List (List Int)) : AlikeAll (nss.map pI) := by
  constructor
  · intro x hx y hy
    obtain ⟨a, _, rfl⟩ := List.mem_map.mp hx
    obtain ⟨b, _, rfl⟩ := List.mem_map.mp hy
    rw [alike]; exact alike_ints a b
  · intro x hx e
    obtain ⟨a, _, rfl⟩ := List.mem_map.mp hx
    cases e
theorem depth_ints : ∀ xs : List Int, PyData.depthAll (xs.map .int) ≤ 1
  | [] => by rw [List.map_nil, PyData.depthAll]; decide
  | x :: xs => by
    have := depth_ints xs
    rw [List.map_cons, PyData.depthAll, PyData.depth]
    omega
theorem depth_pI : ∀ nss : List (List Int), PyData.depthAll (nss.map pI) ≤ 3
  | [] => by rw [List.map_nil, PyData.depthAll]; decide
  | x :: xs => by
    have := depth_pI xs
    have := depth_ints x
    rw [List.map_cons, PyData.depthAll, PyData.depth]
    omega
theorem dp_ints {K : Frg} {H : Hp} : ∀ ns : List Int, DpAll K H (ns.map V.int) (ns.map .int)
  | [] => .nil
  | n :: ns => .cons (.int n) (dp_ints ns)
theorem RA.dpI {K : Frg} {A : Addr → Prop} {H : Hp} {ns : List Int} {v : V} (h : RA K A H (tI ns) v) : Dp K H v (pI ns) ∧ RA K No H (tI ns) v := by
  obtain ⟨p, vs, e, t, r⟩ := h
  subst e
  have e := RAs.ints r
  subst e
  exact ⟨.tup t (dp_ints ns), p, _, rfl, t, RAs.of_ints ns⟩
theorem RAs.dpI {K : Frg} {A : Addr → Prop} {H : Hp} : ∀ {nss : List (List Int)} {vs : List V}, RAs K A H (nss.map tI) vs → DpAll K H vs (nss.map pI)
  | [], _, h => by rw [show _ = [] from h]; exact .nil
  | ns :: nss, _, ⟨w, ws, e, h, t⟩ => by subst e; exact .cons h.dpI.1 (RAs.dpI t)
end
end DL

namespace DL
open PySem PySem.Spec PyProof.Rows L2
noncomputable section
section
variable {K : Frg} {A : Addr → Prop} {H : Hp}
def RsF (K : Frg) (A : Addr → Prop) (H : Hp) (ds : List D) (vs : List V) (fs : List (List Addr)) : Prop := vs.length = ds.length ∧ fs.length = ds.length ∧ ∀ (i : Nat) d v f, ds[i]? = some d → vs[i]? = some v → fs[i]? = some f → R K A H d v f
def swpL {α : Type} (l : List α) (m k : Nat) (x y : α) : List α := (l.set m y).set k x
theorem swpL_get {α : Type} {l : List α} {m k i : Nat} {x y z : α} (hm : l[m]? = some x) (hk : l[k]? = some y) (h : (swpL l m k x y)[i]? = some z) : (i = k ∧ z = x) ∨ (i ≠ k ∧ i = m ∧ z = y) ∨ (i ≠ k ∧ i ≠ m ∧ l[i]? = some z) := by
  have lm := (List.getElem?_eq_some_iff.mp hm).1
  have lk := (List.getElem?_eq_some_iff.mp hk).1
  unfold swpL at h
  rw [List.getElem?_set] at h
  by_cases e : k = i
  · rw [if_pos e, if_pos (by rw [List.length_set]; omega)] at h
    exact .inl ⟨e.symm, (Option.some.inj h).symm⟩
  · rw [if_neg e, List.getElem?_set] at h
    by_cases e2 : m = i
    · rw [if_pos e2, if_pos (by omega)] at h
      exact .inr (.inl ⟨fun z => e z.symm, e2.symm, (Option.some.inj h).symm⟩)
    · rw [if_neg e2] at h
      exact .inr (.inr ⟨fun z => e z.symm, fun z => e2 z.symm, h⟩)
theorem swpL_len {α : Type} {l : List α} {m k : Nat} {x y : α} : (swpL l m k x y).length = l.length := by unfold swpL; rw [List.length_set, List.length_set]
theorem RsF.swap {ds : List D} {vs : List V} {fs : List (List Addr)} {m k : Nat} {dm dk : D} {vm vk : V} {fm fk : List Addr} (h : RsF K A H ds vs fs) (d1 : ds[m]? = some dm) (d2 : ds[k]? = some dk) (v1 : vs[m]? = some vm) (v2 : vs[k]? = some vk) (f1 : fs[m]? = some fm) (f2 : fs[k]? = some fk) :
    RsF K A H (swpL ds m k dm dk) (swpL vs m k vm vk) (swpL fs m k fm fk) := by
  obtain ⟨h1, h2, h3⟩ := h
  refine ⟨by rw [swpL_len, swpL_len, h1], by rw [swpL_len, swpL_len, h2], fun i d v f a b c => ?_⟩
  rcases swpL_get d1 d2 a with ⟨e, rfl⟩ | ⟨e, e', rfl⟩ | ⟨e, e', a⟩
  · rcases swpL_get v1 v2 b with ⟨_, rfl⟩ | ⟨n, _, _⟩ | ⟨n, _, _⟩
    · rcases swpL_get f1 f2 c with ⟨_, rfl⟩ | ⟨n, _, _⟩ | ⟨n, _, _⟩
      · exact h3 m _ _ _ d1 v1 f1
      · exact absurd e n
      · exact absurd e n
    · exact absurd e n
    · exact absurd e n
  · rcases swpL_get v1 v2 b with ⟨n, _⟩ | ⟨_, _, rfl⟩ | ⟨_, n, _⟩
    · exact absurd n e
    · rcases swpL_get f1 f2 c with ⟨n, _⟩ | ⟨_, _, rfl⟩ | ⟨_, n, _⟩
      · exact absurd n e
      · exact h3 k _ _ _ d2 v2 f2
      · exact absurd e' n
    · exact absurd e' n
  · rcases swpL_get v1 v2 b with ⟨n, _⟩ | ⟨_, n, _⟩ | ⟨_, _, b⟩
    · exact absurd n e
    · exact absurd n e'
    · rcases swpL_get f1 f2 c with ⟨n, _⟩ | ⟨_, n, _⟩ | ⟨_, _, c⟩
      · exact absurd n e
      · exact absurd n e'
      · exact h3 i _ _ _ a b c
end
def sSwR (x i j : Nat) : SF := fun D ρ => match ρ[x]?, ρ[i]?, ρ[j]? with
  | some (some (.ow, .lst ds)), some (some (_, .int a)), some (some (_, .int b)) => ∃ m k u w, ixN ds.length a = some m ∧ ixN ds.length b = some k ∧ ds[m]? = some u ∧ ds[k]? = some w ∧ D.nx (ρ.set x (some (.ow, .lst (swpL ds m k u w))))
  | _, _, _ => False
@[irreducible] def sSwRX (x i j : Nat) : SF := fun D ρ => hid (sSwR x i j D ρ)
section
variable {X : Cx} {E : XK} {pr : List Nat} {pos : Pos}
end
end
end DL

namespace DL
open PySem PySem.Spec PyProof.Rows L2
open PySem.W (AlikeAll minD)
theorem RoomG.units65 {k : Nat} {A : Around} (h : RoomG k A) : A.units + 65 < cLine := by have := h.room.un; omega
noncomputable section
def oInM (neg : Bool) : KD → KD → (KD → Prop) → Prop := fun x y P => match y.2.lsq with
  | some ds => x.2.okE ∧ (D.lst ds).okE ∧ P (.fl, .bl (if neg then !((D.toPs ds).any fun z => PyData.eqv z x.2.toP) else (D.toPs ds).any fun z => PyData.eqv z x.2.toP))
  | none => False
theorem lsq_toP {d : D} {ds : List D} (e : d.lsq = some ds) : d.toP = (D.lst ds).toP := by
  cases d with
  | lst a => cases e; rfl
  | kst a => cases e; rfl
  | _ => cases e
theorem os_inMn {K : Frg} : OpS K (rNotInD K) (oInM true) := by
  intro B F H v w x y P Q px py hF h q
  unfold oInM at h
  split at h
  · rename_i ds e
    obtain ⟨h1, h2, hP⟩ := h
    have hy : Dp K H w y.2.toP := py.dp (by unfold D.okE; rw [lsq_toP e]; exact h2)
    rw [lsq_toP e] at hy
    exact ⟨x.2.toP, D.toPs ds, px.dp h1, hy, h1, h2, q _ _ _ hP (Same.refl H) .bl⟩
  · exact h.elim
section
variable {X : Cx} {pos : Pos} {a : Expr} {fa : PF}
end
end
end DL

namespace HT
open PySem PySem.Spec PyProof.Rows
section
variable {prog : Program} {w : World} {A : Around} {E : Value → Shared → Prop} {s : Shared}
end
end HT
namespace DL
open PySem PySem.Spec PyProof.Rows L2
noncomputable section
section
variable {X : Cx} {pos : Pos} {a : Expr} {fa : PF}
end
end
end DL

namespace DL
open PySem PySem.Spec PyProof.Rows L2
noncomputable section
end
end DL

namespace DL
open PySem PySem.Spec PyProof PyProof.Rows L2
noncomputable section
def SSoundW (K : Frg) (W : WX) (pr : List Nat) (t : TS) (f : SF) : Prop := ∀ (σ : L2.St) (H : Hp) (A : Addr → Prop) (ρ : Ro) (ow : List Addr) (T : Ends) (D : DEnds), Good K A H ρ σ ow → f D ρ →
  (∀ ρ' σ' H' ow' A', D.nx ρ' → Stp H ow A H' ow' A' → Good K A' H' ρ' σ' ow' → (∀ i ∈ pr, σ'[i]? = σ[i]?) → T.nx σ' H') →
  (∀ z ρ' v σ' H' fp ow' A', D.rt z ρ' → Stp H ow A H' (fp ++ ow') A' → Good K A' H' ρ' σ' ow' → Own K A' H' z v fp ow' → (∀ i ∈ pr, σ'[i]? = σ[i]?) → T.rt v H') →
  (∀ C ρ' σ' H' ow' A', D.ex C ρ' → Stp H ow A H' ow' A' → Good K A' H' ρ' σ' ow' → (∀ i ∈ pr, σ'[i]? = σ[i]?) → W (.ref (He.ga K C)) none σ' H') → t T σ H
structure DB (X : Cx) (W : WX) (pr : List Nat) (st : List Stmt) (f : SF) : Prop where
  run : ∃ t, PSs X st t ∧ SSoundW X.K W pr t f
section
variable {X : Cx} {W : WX} {pr : List Nat}
end
theorem Good.non {K : Frg} {A : Addr → Prop} {H : Hp} {ρ : Ro} {σ : L2.St} {ow : List Addr} {i : Nat} {x : Option V} (g : Good K A H ρ σ ow) : ∃ ow', Good K A H (ρ.set i none) (σ.set i x) ow' ∧ ∀ a ∈ ow', a ∈ ow := by
  cases e : ρ[i]? with
  | none =>
    have h1 : ρ.length ≤ i := List.getElem?_eq_none_iff.mp e
    have h2 : σ.length ≤ i := by rw [g.rep.len]; exact h1
    rw [List.set_eq_of_length_le h1, List.set_eq_of_length_le h2]
    exact ⟨ow, g, fun a h => h⟩
  | some s =>
    obtain ⟨y, f1, f2, f3, hx, e2, _, put⟩ := g.rep.split e
    have nd := g.nd
    subst e2
    refine ⟨f1 ++ ([] ++ f3), ⟨put H A none x [] (fun _ h => h) (fun a o e _ => e) rfl, ?_, fun a h => ?_, g.tr⟩, fun a h => ?_⟩
    · obtain ⟨m1, m2, m3⟩ := List.nodup_append.mp nd
      obtain ⟨_, m5, m6⟩ := List.nodup_append.mp m2
      exact List.nodup_append.mpr ⟨m1, m5, fun a ha b hb => m3 a ha b (by simp at hb; simp [hb])⟩
    · refine g.dis a ?_
      rcases List.mem_append.mp h with h | h
      · simp [h]
      · simp at h; simp [h]
    · rcases List.mem_append.mp h with h | h
      · simp [h]
      · simp at h; simp [h]
section
variable {X : Cx} {e : Expr} {f : PF} {p p2 pos : Pos} {x : Str} {tab : List (Str × Bool)}
end
inductive XF where
  | exc (C : Str) | kit (C D : Str) (b : Bool) | kitT (C : Str) (T : String) (b : Bool)
def XF.ok (K : PySem.W.Frag) : XF → Bool
  | .exc C => decide (PySem.W.findIn K (.ref (He.ga K C)) "__getattribute__" = some (some (.builtin "BaseException.__getattribute__"))) && (decide (PySem.W.findIn K (.ref (He.ga K C)) "__getattr__" = some none) &&
      (decide (PySem.W.subIn K (.ref (He.ga K C)) (.type "BaseException") = some true) && (PySem.W.hasDictIn K (He.ga K C) && (decide (PySem.W.findIn K (.ref (He.ga K C)) "__class__" = some (some (.builtin "object.__class__"))) &&
      (decide (PySem.W.specialIn K (.builtin "object.__class__") "__get__" = some (some (.builtin "getset_descriptor.__get__"))) && (decide (PySem.W.takesIn K (.builtin "object.__class__") = some true) && decide (PySem.W.mroIn K (He.ga K C) (.type "object") = some true)))))))
  | .kit C D b => decide (PySem.W.kitOne K (.ref (He.ga K C)) (.ref (He.ga K D)) = some b)
  | .kitT C T b => decide (PySem.W.kitOne K (.ref (He.ga K C)) (.type T) = some b)
theorem dss_false {X : Cx} {E : XK} {pr : List Nat} {st : List Stmt} : DSs X E pr st fun _ _ => False := ⟨fun _ _ _ => False, ⟨fun _ _ _ _ _ _ h => h.elim⟩, fun _ _ _ _ _ _ _ _ h _ _ _ => h⟩
end
end DL

namespace DL
open PySem PySem.Spec PyProof PyProof.Rows L2
noncomputable section
end
end DL

namespace DL
open PySem PySem.Spec PyProof PyProof.Rows L2
noncomputable section
mutual
def D.cnt : D → Nat
  | .tup ds => D.cnts ds
  | .lst ds => D.cnts ds + 1
  | _ => 0
def D.cnts : List D → Nat
  | [] => 0
  | d :: ds => D.cnt d + D.cnts ds
end
mutual
def D.trkOk : D → Bool
  | .tup ds => D.trkOks ds
  | .lst ds => D.trkOks ds
  | .dcT _ _ => false
  | .dcN _ => false
  | .dcK _ _ => false
  | .obj _ _ _ => false
  | .lsA _ _ => false
  | .frz _ => false
  | _ => true
def D.trkOks : List D → Bool
  | [] => true
  | d :: ds => D.trkOk d && D.trkOks ds
end
mutual
def D.trk : D → List Addr → D
  | .tup ds, fp => .tup (D.trks ds fp)
  | .lst ds, fp => .lsA (fp.headD 0) (D.trks ds fp.tail)
  | d, _ => d
def D.trks : List D → List Addr → List D
  | [], _ => []
  | d :: ds, fp => D.trk d (fp.take (D.cnt d)) :: D.trks ds (fp.drop (D.cnt d))
end
section
variable {K : Frg} {A B : Addr → Prop} {H : Hp}
mutual
theorem R.cnt : ∀ (d : D) (v : V) (fp : List Addr), R K A H d v fp → D.trkOk d = true → fp.length = D.cnt d
  | .tup ds, _, fp, ⟨p, vs, e, t, r⟩, c => Rs.cnt ds vs fp r c
  | .lst ds, _, fp, ⟨p, vs, fps, e, e2, t, r⟩, c => by rw [e2]; exact congrArg (· + 1) (Rs.cnt ds vs fps r c)
  | .non, _, _, h, _ => by rw [h.1]; rfl
  | .bl _, _, _, h, _ => by rw [h.1]; rfl
  | .int _, _, _, h, _ => by rw [h.1]; rfl
  | .str _, _, _, h, _ => by rw [h.1]; rfl
  | .fn _, _, _, h, _ => by rw [h.1]; rfl
  | .ad _, _, _, h, _ => by rw [h.1]; rfl
  | .key _, _, _, h, _ => by rw [h.1]; rfl
  | .tpx _, _, _, h, _ => by rw [h.1]; rfl
  | .exn _, _, _, h, _ => by rw [h.1]; rfl
  | .dcL _, _, _, h, _ => by rw [h.1]; rfl
  | .lkT _, _, _, h, _ => by rw [h.1]; rfl
  | .any, _, _, h, _ => by rw [h.1]; rfl
  | .kst _, _, _, h, _ => by rw [h.1]; rfl
  | .dcT _ _, _, _, _, c => by cases c
  | .dcN _, _, _, _, c => by cases c
  | .dcK _ _, _, _, _, c => by cases c
  | .obj _ _ _, _, _, _, c => by cases c
  | .lsA _ _, _, _, _, c => by cases c
  | .frz _, _, _, _, c => by cases c
theorem Rs.cnt : ∀ (ds : List D) (vs : List V) (fp : List Addr), Rs K A H ds vs fp → D.trkOks ds = true → fp.length = D.cnts ds
  | [], _, _, h, _ => by rw [h.2]; rfl
  | d :: ds, _, _, ⟨w, ws, f1, f2, e, e2, h, t⟩, c => by
    have c' := Bool.and_eq_true_iff.mp (show (D.trkOk d && D.trkOks ds) = true from c)
    rw [e2, List.length_append, R.cnt d w f1 h c'.1, Rs.cnt ds ws f2 t c'.2]; rfl
end
mutual
theorem R.trk (m : ∀ a, A a → B a) : ∀ (d : D) (v : V) (fp : List Addr), R K A H d v fp → D.trkOk d = true → (∀ a ∈ fp, B a) → RA K B H (D.trk d fp) v
  | .tup ds, _, fp, ⟨p, vs, e, t, r⟩, c, hB => ⟨p, vs, e, t, Rs.trk m ds vs fp r c hB⟩
  | .lst ds, _, fp, ⟨p, vs, fps, e, e2, t, r⟩, c, hB => by
    subst e2
    exact ⟨e, hB p (by simp), vs, t, Rs.trk m ds vs fps r c fun a h => hB a (by simp [h])⟩
  | .non, _, _, h, _, _ => RA.no h.2
  | .bl _, _, _, h, _, _ => RA.no h.2
  | .int _, _, _, h, _, _ => RA.no h.2
  | .str _, _, _, h, _, _ => RA.no h.2
  | .fn _, _, _, h, _, _ => RA.no h.2
  | .ad _, _, _, h, _, _ => RA.no h.2
  | .key _, _, _, h, _, _ => RA.no h.2
  | .tpx _, _, _, h, _, _ => RA.no h.2
  | .exn _, _, _, h, _, _ => RA.no h.2
  | .dcL _, _, _, h, _, _ => RA.no h.2
  | .lkT _, _, _, h, _, _ => RA.no h.2
  | .any, _, _, h, _, _ => RA.no h.2
  | .kst _, _, _, h, _, _ => RA.no h.2
  | .dcT _ _, _, _, _, c, _ => by cases c
  | .dcN _, _, _, _, c, _ => by cases c
  | .dcK _ _, _, _, _, c, _ => by cases c
  | .obj _ _ _, _, _, _, c, _ => by cases c
  | .lsA _ _, _, _, _, c, _ => by cases c
  | .frz _, _, _, _, c, _ => by cases c
theorem Rs.trk (m : ∀ a, A a → B a) : ∀ (ds : List D) (vs : List V) (fp : List Addr), Rs K A H ds vs fp → D.trkOks ds = true → (∀ a ∈ fp, B a) → RAs K B H (D.trks ds fp) vs
  | [], _, _, h, _, _ => h.1
  | d :: ds, _, _, ⟨w, ws, f1, f2, e, e2, h, t⟩, c, hB => by
    have c' := Bool.and_eq_true_iff.mp (show (D.trkOk d && D.trkOks ds) = true from c)
    subst e e2
    have l1 := R.cnt d w f1 h c'.1
    refine ⟨w, ws, rfl, ?_, ?_⟩
    · rw [← l1, List.take_left' rfl]
      exact R.trk m d w f1 h c'.1 fun a h => hB a (by simp [h])
    · rw [← l1, List.drop_left' rfl]
      exact Rs.trk m ds ws f2 t c'.2 fun a h => hB a (by simp [h])
end
end
def pAd (f : PF) : PF := fun ρ P => f ρ fun z => match z.2 with
  | .lsA a _ => P (.fl, .ad a)
  | _ => False
def pUnA (f : PF) : PF := fun ρ P => f ρ fun z => match z.2 with
  | .lsA _ ds => P (.rd, .lst ds)
  | _ => False
section
variable {X : Cx} {e : Expr} {f : PF}
theorem dp_ad (h : DP X e f) : DP X e (pAd f) := by
  obtain ⟨t, pe, s⟩ := h.run
  refine ⟨t, pe, fun σ H A ρ ow Q P g hf q => ?_⟩
  refine s σ H A ρ ow _ _ g hf fun z v H1 hz s1 p1 => ?_
  split at hz
  · rename_i a ds ez
    have r := p1.ra
    rw [ez] at r
    exact q _ v H1 hz s1 (.fl r.1)
  · exact hz.elim
theorem dp_unA (h : DP X e f) : DP X e (pUnA f) := by
  obtain ⟨t, pe, s⟩ := h.run
  refine ⟨t, pe, fun σ H A ρ ow Q P g hf q => ?_⟩
  refine s σ H A ρ ow _ _ g hf fun z v H1 hz s1 p1 => ?_
  split at hz
  · rename_i a ds ez
    have r := p1.ra
    rw [ez] at r
    obtain ⟨r1, r2, vs, r3, r4⟩ := r
    exact q _ v H1 hz s1 (.rd ⟨a, vs, r1, r2, r3, r4⟩)
  · exact hz.elim
end
theorem RAs.ads {K : Frg} {A : Addr → Prop} {H : Hp} {g : Nat → Addr} : ∀ {ix : List Nat} {vs : List V}, RAs K A H (ix.map fun k => .ad (g k)) vs → vs = ix.map fun k => V.ref (g k)
  | [], _, h => h
  | k :: ix, _, ⟨w, ws, e, h, t⟩ => by
    have h : w = .ref (g k) := h
    rw [e, h, RAs.ads t]; rfl
section
variable {X : Cx} {E : XK} {pr : List Nat} {pos : Pos} {e : Expr} {f : PF}
end
def stB (i x : Nat) (body : SF) (D : DEnds) (N : Nat) : Nat → Ro → Prop
  | 0, ρ => D.nx ρ
  | m + 1, ρ => ∃ (ds : List DL.D) (e : DL.D), ρ[i]? = some (some (.ow, .lst ds)) ∧ ds.length = N ∧ ds[N - (m + 1)]? = some e ∧ x < ρ.length ∧
    body { nx := fun ρ' => ∃ e', ρ'[x]? = some (some (.ow, e')) ∧ stB i x body D N m ((ρ'.set x none).set i (some (.ow, .lst (ds.set (N - (m + 1)) e')))), rt := fun _ _ => False, ex := fun _ _ => False } ((ρ.set i none).set x (some (.ow, e)))
@[irreducible] def kForB (i x : Nat) (body : SF) (D : DEnds) (N : Nat) (ρ : Ro) : Prop := hid (stB i x body D N N ρ)
section
variable {X : Cx} {E : XK} {pr : List Nat} {pos : Pos}
end
end
end DL

namespace DL
open PySem PySem.Spec PyProof PyProof.Rows L2
noncomputable section
theorem Rs.imms {K : Frg} {A : Addr → Prop} {H : Hp} {ds : List D} {vs : List V} {fp : List Addr} (h : Rs K A H ds vs fp) (hi : D.imms ds = true) : fp = [] ∧ RAs K No H ds vs := by
  have r : RAs K (fun a => A a ∨ a ∈ fp) H ds vs := Rs.ra (B := fun a => A a ∨ a ∈ fp) (fun _ h => .inl h) ds vs fp (fun a h => .inr h) h
  have r0 := RAs.imm_no ds vs r hi
  exact ⟨Rs.nil0 ds fp ⟨vs, r0⟩ ⟨vs, h⟩, r0⟩
section
variable {X : Cx} {E : XK}
end
abbrev lsI (l : List Int) : D := .lst (l.map .int)
theorem RAs.intsV {K : Frg} {A : Addr → Prop} {H : Hp} : ∀ {l : List Int} {vs : List V}, RAs K A H (l.map .int) vs → vs = l.map V.int
  | [], _, h => h
  | x :: l, _, ⟨w, ws, e, h, t⟩ => by
    have h : w = .int x := h
    rw [e, h, RAs.intsV t]; rfl
theorem imms_ints : ∀ x : List Int, D.imms (x.map D.int) = true
  | [] => rfl
  | _ :: x => imms_ints x
theorem rs_ints {K : Frg} {A : Addr → Prop} {H : Hp} : ∀ x : List Int, Rs K A H (x.map D.int) (x.map V.int) []
  | [] => ⟨rfl, rfl⟩
  | y :: x => ⟨.int y, x.map V.int, [], [], rfl, rfl, ⟨rfl, rfl⟩, rs_ints x⟩
theorem lsI_split {K : Frg} {H : Hp} : ∀ {xs : List (List Int)} {vs : List V} {fps : List Addr}, Rs K No H (xs.map lsI) vs fps → vs = fps.map V.ref ∧ fps.length = xs.length ∧ ∀ (k : Nat) (l : List Int), xs[k]? = some l → ∃ a, fps[k]? = some a ∧ H a = some (.lst (l.map V.int))
  | [], _, _, h => by
    obtain ⟨e1, e2⟩ := h
    subst e1 e2
    exact ⟨rfl, rfl, fun k l e => by simp at e⟩
  | x :: xs, _, _, ⟨w, ws, f1, f2, e, e2, h, t⟩ => by
    subst e e2
    obtain ⟨p, us, fu, ew, ef, hp, ru⟩ := h
    have hi : D.imms (x.map D.int) = true := imms_ints x
    obtain ⟨z, ra⟩ := ru.imms hi
    subst z ef ew
    obtain ⟨q1, q2, q3⟩ := lsI_split t
    have hu := ra.intsV
    refine ⟨by rw [q1]; rfl, by show f2.length + 1 = xs.length + 1; rw [q2], fun k l e => ?_⟩
    cases k with
    | zero =>
      have : x = l := Option.some.inj e
      subst this
      exact ⟨p, rfl, by rw [hp, hu]⟩
    | succ k => exact q3 k l e
theorem lsI_join {K : Frg} {H : Hp} : ∀ {xs : List (List Int)} {fps : List Addr}, fps.length = xs.length → (∀ (k : Nat) (l : List Int), xs[k]? = some l → ∃ a, fps[k]? = some a ∧ H a = some (.lst (l.map V.int))) → Rs K No H (xs.map lsI) (fps.map V.ref) fps
  | [], [], _, _ => ⟨rfl, rfl⟩
  | [], _ :: _, h, _ => nomatch h
  | _ :: _, [], h, _ => nomatch h
  | x :: xs, a :: fps, h, hk => by
    obtain ⟨b, e, hb⟩ := hk 0 x rfl
    have : a = b := Option.some.inj e
    subst this
    refine ⟨.ref a, fps.map V.ref, [a], fps, rfl, rfl, ⟨a, x.map V.int, [], rfl, rfl, hb, rs_ints x⟩, lsI_join (Nat.succ.inj h) fun k l e => hk (k + 1) l e⟩
def trkI (p : Addr) (fps : List Addr) (xs : List (List Int)) : D := .lsA p ((List.range xs.length).map fun k => .lsA (fps.getD k 0) ((xs.getD k []).map .int))
theorem trkI_ok {K : Frg} {A : Addr → Prop} {H : Hp} {p : Addr} {fps : List Addr} {xs : List (List Int)} (hp : H p = some (.lst (fps.map V.ref))) (hA : A p) (hAs : ∀ a ∈ fps, A a) (hl : fps.length = xs.length) (hk : ∀ (k : Nat) (l : List Int), xs[k]? = some l → ∃ a, fps[k]? = some a ∧ H a = some (.lst (l.map V.int))) : RA K A H (trkI p fps xs) (.ref p) := by
  refine ⟨rfl, hA, _, hp, ?_⟩
  have e : fps.map V.ref = (List.range xs.length).map fun k => V.ref (fps.getD k 0) := list_tabl 0 V.ref hl
  rw [e]
  have aux : ∀ L : List Nat, (∀ k ∈ L, k < xs.length) → RAs K A H (L.map fun k => D.lsA (fps.getD k 0) ((xs.getD k []).map .int)) (L.map fun k => V.ref (fps.getD k 0)) := fun L => by
    induction L with
    | nil => intro _; exact .nil
    | cons k L ih =>
      intro h
      have hk' := h k (List.mem_cons_self ..)
      obtain ⟨a, e1, e2⟩ := hk k xs[k] (List.getElem?_eq_getElem hk')
      have ea : fps.getD k 0 = a := by rw [List.getD_eq_getElem?_getD, e1]; rfl
      have ex : xs.getD k [] = xs[k] := by rw [List.getD_eq_getElem?_getD, List.getElem?_eq_getElem hk']; rfl
      refine .cons ⟨rfl, hAs _ (by rw [ea]; exact List.mem_of_getElem? e1), xs[k].map V.int, by rw [ea]; exact e2, by rw [ex]; exact RAs.of_ints _⟩ (ih fun k h' => h k (List.mem_cons_of_mem _ h'))
  exact aux _ fun k h => List.mem_range.mp h
section
variable {X : Cx} {E : XK} {pr : List Nat} {epos apos cpos apos2 cpos2 : Pos} {o1 o2 : Expr} {g1 g2 : PF}
end
section
variable {X : Cx} {E : XK} {o e : Expr} {apos cpos : Pos}
end
end
end DL

namespace DL
open PySem PySem.Spec PyProof PyProof.Rows L2
noncomputable section
def spPut (K : Frg) : Sp := fun vs H Q _ => ∃ (p ph : Addr) (w : Int), vs = [.ref p, .ref ph, .int w] ∧
  ((H ph = some (.lst []) ∧ ∃ fs, H p = some (.lst fs) ∧ fs.length < 10000000 ∧ p ≠ ph ∧ ∀ H' a, Same H H' → H' a = none → Q .non (upd (upd H' a (.lst [.int w])) p (.lst (fs ++ [.ref a])))) ∨
   (∃ (as : List Addr) (ls : List (List Int)) (a : Addr) (l : List Int), as[0]? = some a ∧ ls[0]? = some l ∧ as.length = ls.length ∧ ls.length ≤ 10000000 ∧ H ph = some (.lst (as.map .ref)) ∧ (∀ (k : Nat) (x : List Int), ls[k]? = some x → ∃ b, as[k]? = some b ∧ H b = some (.lst (x.map .int))) ∧ (D.lst (ls.map lsI)).okE ∧ l.length < 10000000 ∧ ∀ H', Same H H' → Q .non (upd H' a (.lst (l.map .int ++ [.int w])))))
section
variable {X : Cx} {P : Program} {w : World} {K : Frg} {mg : Str → Option Value} {base : Heap}
theorem put_pss {a b c : Str} {p0 p1 p2 p3 p4 p5 ps1 ps2 ps3 ap1 ap2 cp1 cp2 ep1 ep2 ip : Pos} {j : Nat} (hu : X.A.units + 64 < cLine) (v0 : PE X (.Name a p0) (tVar 0)) (d1 : DP X (.Name b p1) (pVar 1)) (d1' : DP X (.Name b p4) (pVar 1)) (v2 : PE X (.Name c p2) (tVar 2)) (v2' : PE X (.Name c p5) (tVar 2))
    (hm : behindInMarks .Eq (.List [] ps1) = false)
    (h1 : attributeBase (.Name a p0) "append" X.env (eval (.Name a p0) X.env) = eval (.Name a p0) X.env) (h2 : attributeBase (.Subscript (.Name b p4) (.Constant (.int 0) j p3) ps2) "append" X.env (eval (.Subscript (.Name b p4) (.Constant (.int 0) j p3) ps2) X.env) = eval (.Subscript (.Name b p4) (.Constant (.int 0) j p3) ps2) X.env)
    (f1 : ((backTo cp1 (starEach [.List [.Name c p2] ps3] X.env)).all (fun x => !x.1) && (backToKw cp1 (keywordEach [] X.env)).all (fun x => x.1.isSome)
      && decide (([.List [.Name c p2] ps3] : List Expr).length + ([] : List Keyword).length + (if ([] : List Keyword).isEmpty then 0 else 1) < 30)) = true)
    (f2 : ((backTo cp2 (starEach [.Name c p5] X.env)).all (fun x => !x.1) && (backToKw cp2 (keywordEach [] X.env)).all (fun x => x.1.isSome)
      && decide (([.Name c p5] : List Expr).length + ([] : List Keyword).length + (if ([] : List Keyword).isEmpty then 0 else 1) < 30)) = true)
    (l1 : (ap1.endLine == cp1.line) = true) (l2 : (ap2.endLine == cp2.line) = true)
    (s1 : starEach [.List [.Name c p2] ps3] X.env = (false, eval (.List [.Name c p2] ps3) X.env) :: starEach [] X.env) (s2 : starEach [.Name c p5] X.env = (false, eval (.Name c p5) X.env) :: starEach [] X.env)
    (s3 : starEach [.Name c p2] X.env = (false, eval (.Name c p2) X.env) :: starEach [] X.env)
    (q1 : (backTo cp1 (starEach [] X.env)).any (·.1) = false) (q2 : (backTo cp2 (starEach [] X.env)).any (·.1) = false)
    (w1 : swapsWith (.Call (.Attribute (.Name a p0) "append" ap1) [.List [.Name c p2] ps3] [] cp1) none ep1.line X.env = pure false) (w2 : swapsWith (.Call (.Attribute (.Subscript (.Name b p4) (.Constant (.int 0) j p3) ps2) "append" ap2) [.Name c p5] [] cp2) none ep2.line X.env = pure false) :
    ∃ t, PSs X [.If (.Compare (.Name b p1) [.Eq] [.List [] ps1] cp3) [.Expr (.Call (.Attribute (.Name a p0) "append" ap1) [.List [.Name c p2] ps3] [] cp1) ep1] [.Expr (.Call (.Attribute (.Subscript (.Name b p4) (.Constant (.int 0) j p3) ps2) "append" ap2) [.Name c p5] [] cp2) ep2] ip] t ∧
      ∀ (vs : List V) (H : Hp) (Q : VK) (E : XK), spPut X.K vs H Q E → t { nx := fun _ H' => Q .non H', rt := Q } (vs.map some) H := by
  obtain ⟨tt, pt, st⟩ := (dt_cmp (op_eqAll hu) os_eq d1 (dp_lst da_nil) hm (pos := cp3)).run
  obtain ⟨tx, px, sx⟩ := (DP.as (eqIx _ _) (dp_ix (pos := ps2) (dp_unA d1') (dp_int (i := 0) (j := j) (pos := p3)))).run
  refine ⟨_, pss_one (ps_if pt (pss_one (ps_expr (pe_bm PySem.F.plainAttrs_list PySem.F.slot_list_append PySem.F.type_list_append mt_append v0 (pa_cons (pe_lst (pa_cons v2 pa_nil s3)) pa_nil s1) h1 f1 l1 s1 q1) w1)) (pss_one (ps_expr (pe_bm PySem.F.plainAttrs_list PySem.F.slot_list_append PySem.F.type_list_append mt_append px (pa_cons v2' pa_nil s2) h2 f2 l2 s2 q2) w2))), fun vs H Q E h => ?_⟩
  obtain ⟨p, ph, w, rfl, h | h⟩ := h
  · obtain ⟨hph, fs, hp, hl, hne, q⟩ := h
    have good : Good X.K (fun x => x = ph) H [none, some (.rd, .lst []), none] [some (.ref p), some (.ref ph), some (.int w)] [] := by
      refine ⟨⟨_, _, [], [], rfl, rfl, rfl, _, _, [], [], rfl, rfl, ⟨.ref ph, rfl, rfl, ph, [], rfl, rfl, hph, rfl⟩, _, _, [], [], rfl, rfl, rfl, rfl, rfl⟩, List.nodup_nil, fun a h => (nomatch h), fun a h => ⟨_, h ▸ hph⟩⟩
    refine st _ H _ _ [] _ (fun b => b = true) good ?_ (fun b H' hb sm => ?_)
    · exact ⟨cL_okE (d := .lst []) rfl (by decide), cL_okE (d := .lst []) rfl (by decide), rfl⟩
    · subst hb
      refine ⟨.ref p, rfl, .inl ⟨rfl, _, .of (sm _ _ hp)⟩, .int w, rfl, (by rw [sizeLine_eq]; exact (show 1 ≤ 16777216 by decide)), fun a ha => ⟨p, fs, .ref a, rfl, rfl, ?_, ?_, q H' a sm ha⟩⟩
      · rw [upd_ne (ne_of_none (sm _ _ hp) ha)]; exact sm _ _ hp
      · rw [sizeLine_eq]; omega
  · obtain ⟨as, ls, a, l, ha, hl0, hlen, hsz, hph, hk, hok, hl, q⟩ := h
    have ras : ∀ (ls : List (List Int)) (as : List Addr), as.length = ls.length → (∀ (k : Nat) (x : List Int), ls[k]? = some x → ∃ b, as[k]? = some b ∧ H b = some (.lst (x.map .int))) → RAs X.K (fun x => x = ph ∨ x ∈ as) H (ls.map lsI) (as.map .ref) := fun ls as hl hk => by
      have aux : ∀ (ls : List (List Int)) (bs : List Addr), (∀ b ∈ bs, b ∈ as) → bs.length = ls.length → (∀ (k : Nat) (x : List Int), ls[k]? = some x → ∃ b, bs[k]? = some b ∧ H b = some (.lst (x.map .int))) → RAs X.K (fun x => x = ph ∨ x ∈ as) H (ls.map lsI) (bs.map .ref) := fun ls => by
        induction ls with
        | nil =>
          intro bs _ hl _
          rw [List.length_eq_zero_iff.mp hl]; exact .nil
        | cons x ls ih =>
          intro bs hs hl hk
          cases bs with
          | nil => cases hl
          | cons b bs =>
            obtain ⟨b', e1, e2⟩ := hk 0 x rfl
            cases e1
            exact .cons ⟨b, _, rfl, .inr (hs b (by simp)), e2, RAs.of_ints _⟩ (ih bs (fun c hc => hs c (by simp [hc])) (Nat.succ.inj hl) fun k y e => hk (k + 1) y e)
      exact aux ls as (fun _ h => h) hl hk
    have rr := ras ls as hlen hk
    have good : Good X.K (fun x => x = ph ∨ x ∈ as) H [none, some (.rd, .lst (ls.map lsI)), none] [some (.ref p), some (.ref ph), some (.int w)] [] := by
      refine ⟨⟨_, _, [], [], rfl, rfl, rfl, _, _, [], [], rfl, rfl, ⟨.ref ph, rfl, rfl, ph, _, rfl, .inl rfl, hph, rr⟩, _, _, [], [], rfl, rfl, rfl, rfl, rfl⟩, List.nodup_nil, fun a h => (nomatch h), fun b h => ?_⟩
      rcases h with rfl | h
      · exact ⟨_, hph⟩
      · obtain ⟨k, hk1, e⟩ := List.mem_iff_getElem.mp h
        obtain ⟨b', e1, e2⟩ := hk k ls[k] (List.getElem?_eq_getElem (by omega))
        rw [List.getElem?_eq_getElem hk1, e] at e1
        cases e1
        exact ⟨_, e2⟩
    refine st _ H _ _ [] _ (fun b => b = false) good ?_ (fun b H' hb sm => ?_)
    · refine ⟨hok, cL_okE (d := .lst []) rfl (by decide), ?_⟩
      cases ls with
      | nil => cases hl0
      | cons x ls => rfl
    · subst hb
      have good2 : Good X.K (fun x => x = ph ∨ x ∈ as) H [none, some (.rd, trkI ph as ls), none] [some (.ref p), some (.ref ph), some (.int w)] [] :=
        ⟨⟨_, _, [], [], rfl, rfl, rfl, _, _, [], [], rfl, rfl, ⟨.ref ph, rfl, rfl, trkI_ok hph (.inl rfl) (fun _ h => .inr h) hlen hk⟩, _, _, [], [], rfl, rfl, rfl, rfl, rfl⟩, List.nodup_nil, fun a h => (nomatch h), good.tr⟩
      have hlp : 0 < ls.length := (List.getElem?_eq_some_iff.mp hl0).1
      refine sx _ H' _ _ [] _ (fun z => ∃ d, z.2 = .lsA a d) (good2.same sm) ?_ fun z v H2 hz s2 p2 => ?_
      · refine go_ix (i := ((0 : Nat) : Int)) rfl (atI_nat (by rw [List.getElem?_map, List.getElem?_range hlp]; rfl)) ⟨(ls.getD 0 []).map .int, ?_⟩
        rw [kel_snd]
        have e0 : as.getD 0 0 = a := by rw [List.getD_eq_getElem?_getD, ha]; rfl
        show D.lsA (as.getD 0 0) _ = _
        rw [e0]
      · obtain ⟨d, ez⟩ := hz
        have r := p2.ra
        rw [ez] at r
        have ev : v = .ref a := r.1
        subst ev
        obtain ⟨b', e1, e2⟩ := hk 0 l hl0
        rw [ha] at e1; cases e1
        have ea := s2 _ _ (sm _ _ e2)
        exact ⟨.inl ⟨rfl, _, .of ea⟩, .int w, rfl, a, _, .int w, rfl, rfl, ea, by rw [List.length_map, sizeLine_eq]; omega, q H2 (sm.trans s2)⟩
theorem put_ok {x qual : Str} {params : Arguments} {body : List Stmt} {scope : Scope} {f : Addr} {fd : FuncData} {N ps : List Str} {k : Nat} (F : FunD K x qual params body scope [] [] f fd) (B : BndG x qual params body scope ps) (S : FnScope N ps scope) (hn : N.length = 3) (hp : ps.length = 3)
    (hb : ∀ (cdv : Value) (A : Around) (outer : List Env) (s : Shared) (H : Hp) (E : XK), RoomG k (A.deeper (envOfC qual scope s.heap.objs.size f cdv)) → ∃ t, PSs (cxOf CX0 P w K mg base N qual scope f cdv A outer s H E) body t ∧
      ∀ (vs : List V) (H : Hp) (Q : VK) (E : XK), spPut K vs H Q E → t { nx := fun _ H' => Q .non H', rt := Q } (vs.map some) H) : GOk P w K mg base CX0 (k + 1) f ps (spPut K) := by
  refine gok_of F B S (fun vs H Q E h => ?_) (fun cdv A outer s H vs Q E hr h => ?_)
  · obtain ⟨_, _, _, rfl, _⟩ := h
    exact hp.symm
  · obtain ⟨t, pt, st⟩ := hb cdv A outer s H E hr
    refine ⟨t, pt, ?_⟩
    have := st vs H Q E h
    obtain ⟨_, _, _, rfl, _⟩ := h
    unfold L2.start
    rw [hn]
    exact this
end
def putAt (xs : List (List Int)) (w : Int) : List Nat → List (List Int)
  | [] => xs ++ [[w]]
  | j :: _ => xs.set j (xs.getD j [] ++ [w])
def sPutIn (i : Nat) (f g : PF) : SF := fun T ρ => ∃ (xs : List (List Int)) (js : List Nat) (w : Int), (∃ k, (k = Kd.ow ∨ k = Kd.sh) ∧ ρ[i]? = some (some (k, .lst (xs.map lsI)))) ∧ (∀ j ∈ js, j < xs.length) ∧ xs.length < 1000000 ∧ js.length ≤ 1000000 ∧ (∀ x ∈ xs, x.length < 10000000) ∧ (D.lst ((js.map fun j => xs.getD j []).map lsI)).okE ∧
  (∀ (p : Addr) (fps : List Addr), fps.length = xs.length → f (ρ.set i (some (.rd, trkI p fps xs))) fun z => z = (.sh, .lst (js.map fun j => .ad (fps.getD j 0))) ∧ g (ρ.set i (some (.rd, trkI p fps xs))) fun y => y.2 = .int w) ∧
  T.nx (ρ.set i (some (.ow, .lst ((putAt xs w js).map lsI))))
section
variable {X : Cx} {E : XK} {pr : List Nat}
theorem ds_putIn (i : Nat) {fn a : Str} {e1 e2 : Expr} {f g : PF} {k : Nat} {fa : Addr} {ps : List Str} {pf pa pos epos : Pos} (F : GOk X.prog X.w X.K X.mg X.base CX0 k fa ps (spPut X.K)) (hr : RoomG k X.A) (hg : Gl X fn) (hm : X.mg fn = some (.ref fa)) (hk : PySem.W.keepIn X.K (.ref fa) = true) (hx : Passes CX0 X E)
    (h1 : DP X e1 f) (h2 : DP X e2 g) (hN : X.N[i]? = some a := by rfl) (hv : Vis X.env.scope a := by first | exact Or.inl rfl | exact Or.inr (Or.inl rfl) | exact Or.inr (Or.inr rfl)) (hd : (a == ("__debug__" : Str)) = false := by decide) (hcd : (a == ("__classdict__" : Str)) = false := by decide)
    (hdb : (fn == ("__debug__" : Str)) = false := by decide) (he : starEach [.Name a pa, e1, e2] X.env = (false, eval (.Name a pa) X.env) :: starEach [e1, e2] X.env := by rfl) (he1 : starEach [e1, e2] X.env = (false, eval e1 X.env) :: starEach [e2] X.env := by rfl) (he2 : starEach [e2] X.env = (false, eval e2 X.env) :: starEach [] X.env := by rfl)
    (hpl : (backTo pos (starEach [e1, e2] X.env)).any (·.1) = false := by rfl)
    (hsw : swapsWith (.Call (.Name fn pf) [.Name a pa, e1, e2] [] pos) none epos.line X.env = pure false := by rfl) :
    DS X E pr (.Expr (.Call (.Name fn pf) [.Name a pa, e1, e2] [] pos) epos) (sPutIn i f g) := by
  obtain ⟨t1, p1, s1⟩ := h1.run
  obtain ⟨t2, p2, s2⟩ := h2.run
  refine ⟨_, ps_expr (pe_gok F hr hg hm hk hx (pa_cons (pe_var hN hv hd hcd) (pa_cons p1 (pa_cons p2 pa_nil he2) he1) he) hdb he hpl) hsw, fun σ H A ρ ow T DD gd h nx rt ex => ?_⟩
  obtain ⟨xs, js, w, ⟨kk, hkk, hi⟩, hjs, hxs, hjl, hxl, hok, hf, hN'⟩ := h
  obtain ⟨v, fp, ow', hv, g', o, sub⟩ := gd.move hi
  have r0 : R X.K No H (.lst (xs.map lsI)) v fp := by
    rcases hkk with rfl | rfl
    · exact o.rep
    · exact o.rep.1
  obtain ⟨p, vs, fps, rfl, rfl, hp, rs⟩ := r0
  obtain ⟨rfl, hfl, hk⟩ := lsI_split rs
  obtain ⟨n1, n2, n3⟩ := List.nodup_append.mp o.nd
  obtain ⟨m1, m2⟩ := List.nodup_cons.mp n1
  have gA : Good X.K (fun x => A x ∨ x ∈ p :: fps) H (ρ.set i none) σ ow' := ⟨g'.rep.mono fun _ h => .inl h, g'.nd, (fun a h z => by
      rcases z with z | z
      · exact g'.dis a h z
      · exact n3 a z a h rfl), (fun a h => by
      rcases h with h | h
      · exact g'.tr a h
      · obtain ⟨o', e', _⟩ := o.rep.mu a h; exact ⟨o', e'⟩)⟩
  have vA : VR X.K (fun x => A x ∨ x ∈ p :: fps) H (.rd, trkI p fps xs) (.ref p) [] := ⟨rfl, trkI_ok hp (.inr (by simp)) (fun a h => .inr (by simp [h])) hfl hk⟩
  obtain ⟨ow2, g2', sub2⟩ := gA.put (i := i) ⟨vA, by simpa using g'.nd, fun a h => nomatch h⟩
  rw [List.set_set, set_same hv] at g2'
  refine ⟨.ref p, hv, s1 σ H _ _ ow2 _ _ g2' (hf p fps hfl) fun z v1 H1 hz sm1 q1 => ?_⟩
  obtain ⟨rfl, hz⟩ := hz
  obtain ⟨fq, rq, ndq, hF⟩ := q1
  obtain ⟨ph, vs, fps2, rfl, efq, tp, _⟩ := rq.1
  obtain ⟨p', vs', ew', tp', ra⟩ := rq.2
  cases ew'
  have evs : vs' = vs := by rw [tp] at tp'; cases tp'; rfl
  subst evs
  have evs := ra.ads
  have pfree : H ph = none := hF ph (by rw [efq]; simp)
  refine s2 σ H1 _ _ ow2 _ _ (g2'.same sm1) hz fun y v2 H2 hy sm2 q2 => ?_
  have r2 := q2.ra
  rw [hy] at r2
  have ev2 : v2 = .int w := r2
  subst ev2
  have sm := sm1.trans sm2
  have hph2 : H2 ph = some (.lst (js.map fun k => V.ref (fps.getD k 0))) := by rw [← evs]; exact sm2 _ _ tp
  have hp2 := sm _ _ hp
  have pne : p ≠ ph := fun z => by rw [z, pfree] at hp; cases hp
  have low : ∀ x, x ∈ ow' ∨ x ∈ p :: fps → x ∈ ow := fun x h => sub x (by rcases h with h | h; exact List.mem_append_right _ h; exact List.mem_append_left _ h)
  have getk : ∀ (k : Nat) (l : List Int), xs[k]? = some l → fps[k]? = some (fps.getD k 0) ∧ H (fps.getD k 0) = some (.lst (l.map V.int)) := fun k l e => by
    obtain ⟨b, e1, e2⟩ := hk k l e
    have : fps.getD k 0 = b := by rw [List.getD_eq_getElem?_getD, e1]; rfl
    rw [this]; exact ⟨e1, e2⟩
  have mu : ∀ x ∈ p :: fps, x ∉ ow' ∧ ¬ A x ∧ ∀ H', Same H H' → ∀ u, H' x = some u → ¬ Imm u := fun x hx => ⟨fun z => n3 x hx x z rfl, o.dis x hx, fun H' s u eu z => by
    obtain ⟨o', e', m'⟩ := o.rep.mu x hx
    rw [s _ _ e'] at eu; cases eu
    exact m'.notImm z⟩
  have finish : ∀ (H' H4 : Hp) (xs' : List (List Int)) (fps' : List Addr), Same H H' → KeepF A ow' H' H4 → (∀ x u, H x = some u → x ∉ p :: fps → H4 x = some u) → H4 p = some (.lst (fps'.map V.ref)) → fps'.length = xs'.length → (∀ (k : Nat) (l : List Int), xs'[k]? = some l → ∃ a, fps'[k]? = some a ∧ H4 a = some (.lst (l.map V.int))) → (p :: fps' ++ ow').Nodup → (∀ a ∈ fps', a ∈ fps ∨ H a = none) → (∀ a ∈ p :: fps', ¬ A a) → DD.nx (ρ.set i (some (.ow, .lst (xs'.map lsI)))) → T.nx σ H4 := fun H' H4 xs' fps' s' kA k4 h4 hl4 hk4 nd4 or4 dis4 hN' => by
    have rs4 : Rs X.K No H4 (xs'.map lsI) (fps'.map V.ref) fps' := lsI_join hl4 hk4
    have g4 : Good X.K A H4 (ρ.set i none) σ ow' := by
      refine ⟨RepS.keep kA (g'.same s').rep, g'.nd, g'.dis, fun x hx => ?_⟩
      obtain ⟨u, eu⟩ := g'.tr x hx
      exact ⟨u, kA x u (s' _ _ eu) (.inr (.inl hx))⟩
    obtain ⟨ow5, g5, sub5⟩ := g4.put (i := i) (kd := (.ow, .lst (xs'.map lsI))) (v := .ref p) (fp := p :: fps') ⟨⟨p, _, fps', rfl, rfl, h4, rs4⟩, nd4, dis4⟩
    rw [List.set_set, set_same hv] at g5
    refine nx _ σ H4 ow5 A hN' ⟨fun x u eu hn => k4 x u eu fun z => hn (low x (.inr z)), fun x hx => ?_, fun _ h => h, fun _ h => .inl h⟩ g5 fun _ _ => rfl
    rcases sub5 x hx with h | h
    · exact .inl (low x (.inl h))
    · rcases List.mem_cons.mp h with h | h
      · exact .inl (low x (.inr (by simp [h])))
      · exact (or4 x h).imp (fun z => low x (.inr (by simp [z]))) id
  show spPut X.K [V.ref p, V.ref ph, V.int w] H2 (fun _ H1 => T.nx σ H1) E
  cases js with
  | nil =>
    refine ⟨p, ph, w, rfl, .inl ⟨hph2, fps.map V.ref, hp2, by rw [List.length_map]; omega, pne, fun H' a s' ha => ?_⟩⟩
    have sH := sm.trans s'
    have haH : H a = none := by
      cases e : H a with
      | none => rfl
      | some u => rw [sH _ _ e] at ha; cases ha
    have ap : a ≠ p := fun z => by rw [z, hp] at haH; cases haH
    obtain ⟨q1, q2, q3⟩ := mu p (by simp)
    have afps : a ∉ fps := fun z => by
      obtain ⟨o', e', _⟩ := o.rep.mu a (by simp [z])
      rw [haH] at e'; cases e'
    have aow : a ∉ ow' := fun z => by
      obtain ⟨o', e', _⟩ := g'.rep.mu a z
      rw [haH] at e'; cases e'
    have aA : ¬ A a := fun z => by
      obtain ⟨o', e'⟩ := g'.tr a z
      rw [haH] at e'; cases e'
    refine finish H' _ (xs ++ [[w]]) (fps ++ [a]) sH (keepF_trans (KeepF.upd aow aA fun u eu => by rw [ha] at eu; cases eu) (KeepF.upd q1 q2 fun u eu => by rw [upd_ne ap.symm] at eu; exact q3 H' sH u eu)) (fun x u eu hx => ?_) ?_ (by rw [List.length_append, List.length_append, hfl]; rfl) (fun k l e => ?_) ?_ (fun b hb => ?_) (fun b hb => ?_) hN'
    · rw [upd_ne (fun z => hx (by simp [z])), upd_ne (fun z => by rw [z, haH] at eu; cases eu)]
      exact sH _ _ eu
    · rw [upd_same, List.map_append]; rfl
    · by_cases kl : k < xs.length
      · rw [List.getElem?_append_left kl] at e
        obtain ⟨e1, e2⟩ := getk k l e
        have hm : fps.getD k 0 ∈ fps := List.mem_of_getElem? e1
        refine ⟨_, by rw [List.getElem?_append_left (by omega)]; exact e1, ?_⟩
        rw [upd_ne (fun z : fps.getD k 0 = p => m1 (z ▸ hm)), upd_ne (fun z : fps.getD k 0 = a => afps (z ▸ hm))]
        exact sH _ _ e2
      · have hk1 := (List.getElem?_eq_some_iff.mp e).1
        rw [List.length_append] at hk1
        have e9 : [[w]].length = 1 := rfl
        have : k = xs.length := by omega
        subst this
        rw [List.getElem?_append_right (Nat.le_refl _), Nat.sub_self] at e
        cases e
        exact ⟨a, by rw [List.getElem?_append_right (by omega), hfl, Nat.sub_self]; rfl, by rw [upd_ne ap, upd_same]; rfl⟩
    · have : (p :: fps ++ ow').Nodup := o.nd
      refine List.nodup_append.mpr ⟨List.nodup_cons.mpr ⟨fun z => ?_, List.nodup_append.mpr ⟨m2, by simp, fun x hx y hy z => ?_⟩⟩, n2, fun x hx y hy z => ?_⟩
      · rcases List.mem_append.mp z with z | z
        · exact m1 z
        · exact ap (List.mem_singleton.mp z).symm
      · rw [List.mem_singleton.mp hy] at z; exact afps (z ▸ hx)
      · subst z
        rcases List.mem_cons.mp hx with hx | hx
        · exact n3 x (by simp [hx]) x hy rfl
        · rcases List.mem_append.mp hx with hx | hx
          · exact n3 x (by simp [hx]) x hy rfl
          · rw [List.mem_singleton.mp hx] at hy; exact aow hy
    · rcases List.mem_append.mp hb with hb | hb
      · exact .inl hb
      · rw [List.mem_singleton.mp hb]; exact .inr haH
    · rcases List.mem_cons.mp hb with hb | hb
      · rw [hb]; exact q2
      · rcases List.mem_append.mp hb with hb | hb
        · exact o.dis b (by simp [hb])
        · rw [List.mem_singleton.mp hb]; exact aA
  | cons j r =>
    have hj := hjs j (by simp)
    have ej : xs[j]? = some (xs.getD j []) := by rw [List.getD_eq_getElem?_getD, List.getElem?_eq_getElem hj]; rfl
    obtain ⟨aj1, aj2⟩ := getk j _ ej
    have hmj : fps.getD j 0 ∈ fps := List.mem_of_getElem? aj1
    refine ⟨p, ph, w, rfl, .inr ⟨(j :: r).map fun k => fps.getD k 0, (j :: r).map fun k => xs.getD k [], fps.getD j 0, xs.getD j [], rfl, rfl, by rw [List.length_map, List.length_map], by rw [List.length_map]; omega, ?_, fun k x e => ?_, hok, hxl _ (by rw [List.getD_eq_getElem?_getD, List.getElem?_eq_getElem hj]; exact List.getElem_mem _), fun H' s' => ?_⟩⟩
    · rw [hph2, List.map_map]; rfl
    · rw [List.getElem?_map] at e
      cases ek : (j :: r)[k]? with
      | none => rw [ek] at e; cases e
      | some m =>
        rw [ek] at e
        cases e
        have hm := hjs m (List.mem_of_getElem? ek)
        have em : xs[m]? = some (xs.getD m []) := by rw [List.getD_eq_getElem?_getD, List.getElem?_eq_getElem hm]; rfl
        exact ⟨fps.getD m 0, by rw [List.getElem?_map, ek]; rfl, sm _ _ (getk m _ em).2⟩
    · have sH := sm.trans s'
      obtain ⟨q1, q2, q3⟩ := mu (fps.getD j 0) (List.mem_cons_of_mem _ hmj)
      refine finish H' _ (xs.set j (xs.getD j [] ++ [w])) fps sH (KeepF.upd q1 q2 (q3 H' sH)) (fun x u eu hx => ?_) ?_ (by rw [List.length_set]; exact hfl) (fun k l e => ?_) o.nd (fun b hb => .inl hb) (fun b hb => o.dis b hb) hN'
      · rw [upd_ne (fun z : x = fps.getD j 0 => hx (by rw [z]; exact List.mem_cons_of_mem _ hmj))]
        exact sH _ _ eu
      · rw [upd_ne (fun z : p = fps.getD j 0 => m1 (z ▸ hmj))]
        exact sH _ _ hp
      · by_cases kj : k = j
        · subst kj
          rw [List.getElem?_set_self hj] at e
          cases e
          exact ⟨_, aj1, by rw [upd_same, List.map_append]; rfl⟩
        · rw [List.getElem?_set_ne (Ne.symm kj)] at e
          obtain ⟨e1, e2⟩ := getk k l e
          refine ⟨_, e1, ?_⟩
          rw [upd_ne (fun z : fps.getD k 0 = fps.getD j 0 => kj ?_)]
          · exact sH _ _ e2
          · have l1 := (List.getElem?_eq_some_iff.mp e1).1
            have l2 := (List.getElem?_eq_some_iff.mp aj1).1
            rw [List.getElem?_eq_getElem l1] at e1
            rw [List.getElem?_eq_getElem l2] at aj1
            exact (List.getElem_inj m2).mp ((Option.some.inj e1).trans (z.trans (Option.some.inj aj1).symm))
end
end
end DL

namespace DL
open PySem PySem.Spec PyProof PyProof.Rows L2
noncomputable section
def sBorC (i0 i1 i2 x : Nat) (fe : EF) (f : SF) : SF := fun D ρ => x < ρ.length ∧ (∃ kd, ρ[i0]? = some (some kd)) ∧ (∃ kd, ρ[i1]? = some (some kd)) ∧ (∃ kd, ρ[i2]? = some (some kd)) ∧ fe ρ (fun z ρ1 => ∃ (n : Nat) (i : Nat) (e : DL.D), z.2 = .int n ∧ [i0, i1, i2][n]? = some i ∧ ρ1[i]? = some (some (.ow, e)) ∧ isL e = true ∧ x < ρ1.length ∧ f
  { nx := fun ρ' => borBack i x id ρ' D.nx
    rt := fun z ρ' => borBack i x id ρ' (D.rt z)
    ex := fun C ρ' => borBack i x id ρ' (D.ex C) } ((ρ1.set i (some (.fl, .any))).set x (some (.ow, e)))) D.ex
section
variable {X : Cx} {E : XK} {pr : List Nat} {pos : Pos}
theorem dss_borC (i0 i1 i2 x : Nat) {y n0 n1 n2 : Str} {pos' p0 p1 p2 lp ip : Pos} {e : Expr} {rest : List Stmt} {fe : EF} {f : SF} (hN : X.N.Nodup) (he : DE X E e fe) (hr : DSs X E (i0 :: i1 :: i2 :: x :: pr) rest f) (hp : x ∉ pr := by decide) (hix : x ∉ [i0, i1, i2] := by decide)
    (e0 : X.N[i0]? = some n0 := by rfl) (e1 : X.N[i1]? = some n1 := by rfl) (e2 : X.N[i2]? = some n2 := by rfl)
    (v0 : Vis X.env.scope n0 := by first | exact Or.inl rfl | exact Or.inr (Or.inl rfl) | exact Or.inr (Or.inr rfl)) (v1 : Vis X.env.scope n1 := by first | exact Or.inl rfl | exact Or.inr (Or.inl rfl) | exact Or.inr (Or.inr rfl)) (v2 : Vis X.env.scope n2 := by first | exact Or.inl rfl | exact Or.inr (Or.inl rfl) | exact Or.inr (Or.inr rfl))
    (d0 : (n0 == ("__debug__" : Str)) = false := by decide) (d1 : (n1 == ("__debug__" : Str)) = false := by decide) (d2 : (n2 == ("__debug__" : Str)) = false := by decide)
    (c0 : (n0 == ("__classdict__" : Str)) = false := by decide) (c1 : (n1 == ("__classdict__" : Str)) = false := by decide) (c2 : (n2 == ("__classdict__" : Str)) = false := by decide)
    (s0 : starEach [.Name n0 p0, .Name n1 p1, .Name n2 p2] X.env = (false, eval (.Name n0 p0) X.env) :: starEach [.Name n1 p1, .Name n2 p2] X.env := by rfl) (s1 : starEach [.Name n1 p1, .Name n2 p2] X.env = (false, eval (.Name n1 p1) X.env) :: starEach [.Name n2 p2] X.env := by rfl) (s2 : starEach [.Name n2 p2] X.env = (false, eval (.Name n2 p2) X.env) :: starEach [] X.env := by rfl)
    (hpi : PlainIx e := by exact fun _ _ => rfl) (hi : X.N[x]? = some y := by rfl) (hx : Loc X.env.scope y := by first | exact Or.inl rfl | exact Or.inr rfl)
    (hs : swapsWith (.Subscript (.List [.Name n0 p0, .Name n1 p1, .Name n2 p2] lp) e ip) (some (.Name y pos')) pos.line X.env = pure false := by rfl) (hf : X.fn y = true ∨ X.env.scope.names.lookup y = some .local := by first | exact .inl rfl | exact .inr rfl) :
    DSs X E pr (.Assign [.Name y pos'] (.Subscript (.List [.Name n0 p0, .Name n1 p1, .Name n2 p2] lp) e ip) pos :: rest) (sBorC i0 i1 i2 x fe f) := by
  obtain ⟨te, pe, se⟩ := he.run
  obtain ⟨t, a, s⟩ := hr.run
  refine ⟨_, pss_cons (ps_set hN hi hx (pe_ix ix_list (pe_lst (pa_cons (pe_var e0 v0 d0 c0) (pa_cons (pe_var e1 v1 d1 c1) (pa_cons (pe_var e2 v2 d2 c2) pa_nil s2) s1) s0)) pe hpi) hs hf) a, fun σ H A ρ ow T D gd h nx rt ex => ?_⟩
  obtain ⟨hlt, ⟨k0, hk0⟩, ⟨k1, hk1⟩, ⟨k2, hk2⟩, h⟩ := h
  have hlt' : x < σ.length := by rw [gd.rep.len]; exact hlt
  obtain ⟨w0, _, hw0, _⟩ := gd.slot hk0
  obtain ⟨w1, _, hw1, _⟩ := gd.slot hk1
  obtain ⟨w2, _, hw2, _⟩ := gd.slot hk2
  have pr0 : ∀ {i : Nat}, i ∈ [i0, i1, i2] → i ∈ i0 :: i1 :: i2 :: x :: pr := fun {i} h => by
    simp only [List.mem_cons, List.not_mem_nil, or_false] at h ⊢
    rcases h with h | h | h <;> simp [h]
  refine ⟨w0, hw0, w1, hw1, w2, hw2, (by rw [sizeLine_eq]; exact (show 3 ≤ 16777216 by decide)), fun q hq => ?_⟩
  have sq : Same H (upd H q (.lst [w0, w1, w2])) := same_upd hq
  refine se σ _ A ρ ow _ _ _ (gd.same sq) h (fun z ρ1 v H2 fp ow1 A1 hz st1 g1 o1 => ?_) fun C ρ1 H1 ow1 A1 h1 st1 g1 => ex C ρ1 σ H1 ow1 A1 h1 ((Stp.of_same sq).trans st1) g1 fun _ _ => rfl
  obtain ⟨n, i, d, ez, hn, hd, hl, hlt1, h1⟩ := hz
  have ra : RA X.K (fun _ => True) H2 z.2 v := o1.rep.ra (fun _ _ => trivial) fun _ _ => trivial
  rw [ez] at ra
  obtain rfl : v = .int n := ra
  obtain ⟨w, hw, plat⟩ := PlAt.root (d := d) g1 hd (.inr rfl)
  have hmem : i ∈ [i0, i1, i2] := List.mem_of_getElem? hn
  have hix' : i ≠ x := fun z => hix (z ▸ hmem)
  have hat : L2.atI [w0, w1, w2] (n : Int) = some w := by
    have : n = 0 ∨ n = 1 ∨ n = 2 := by
      have := (List.getElem?_eq_some_iff.mp hn).1
      have e3 : [i0, i1, i2].length = 3 := rfl
      omega
    rcases this with rfl | rfl | rfl
    · cases hn
      rw [hw0] at hw; cases hw; rfl
    · cases hn
      rw [hw1] at hw; cases hw; rfl
    · cases hn
      rw [hw2] at hw; cases hw; rfl
  have hq2 : H2 q = some (.lst [w0, w1, w2]) := st1.same q _ upd_same fun z => by
    obtain ⟨o', e', _⟩ := gd.rep.mu q z
    rw [hq] at e'; cases e'
  refine ⟨q, _, n, w, rfl, rfl, .of hq2, hat, ?_⟩
  have st0 : Stp H ow A H2 ow1 A1 := (Stp.of_same sq).trans (st1.sub fun a h => by simp [h])
  obtain ⟨ow2, g2, back⟩ := bor_in (x := x) g1 plat hl hix'
  have prs : ∀ {σ' : L2.St}, (∀ j ∈ i0 :: i1 :: i2 :: x :: pr, σ'[j]? = (σ.set x (some w))[j]?) → ∀ j ∈ pr, σ'[j]? = σ[j]? := fun {σ'} h j hj => by
    rw [h j (by simp [hj]), List.getElem?_set_ne fun z => hp (by rw [z]; exact hj)]
  refine s (σ.set x (some w)) H2 A1 _ ow2 { T with nx := T.nx } _ g2 h1 (fun ρ' σ' H' ow' A' hb st g p => ?_) (fun z ρ' v σ' H' fp ow' A' hb st g oz p => ?_) fun C ρ' σ' H' ow' A' hb st g p => ?_
  · obtain ⟨e', q, hb⟩ := borBack_of hb
    obtain ⟨ow2, g2, st2, _⟩ := back σ' H' [] ow' A' ρ' e' (.fl, .non) .non st g ⟨⟨rfl, rfl⟩, g.nd, fun a h => nomatch h⟩ q (p i (pr0 hmem)) (p x (by simp)) hlt'
    exact nx _ σ' H' ow2 A' hb (st0.trans st2) g2 (prs p)
  · obtain ⟨e', q, hb⟩ := borBack_of hb
    obtain ⟨ow2, g2, st2, oz2⟩ := back σ' H' fp ow' A' ρ' e' z v st g oz q (p i (pr0 hmem)) (p x (by simp)) hlt'
    exact rt z _ v σ' H' fp ow2 A' hb (st0.trans st2) g2 oz2 (prs p)
  · obtain ⟨e', q, hb⟩ := borBack_of hb
    obtain ⟨ow2, g2, st2, _⟩ := back σ' H' [] ow' A' ρ' e' (.fl, .non) .non st g ⟨⟨rfl, rfl⟩, g.nd, fun a h => nomatch h⟩ q (p i (pr0 hmem)) (p x (by simp)) hlt'
    exact ex C _ σ' H' ow2 A' hb (st0.trans st2) g2 (prs p)
end
def pNum (f : PF) (ρ : Ro) (P : Int → Prop) : Prop := f ρ fun z => match z.2 with
  | .int i => P i
  | _ => False
def pFlip (fa fb fc fd fk fx : PF) : PF := fun ρ P => pNum fa ρ fun a => pNum fb ρ fun b => pNum fc ρ fun c => pNum fd ρ fun d => pNum fk ρ fun k => pNum fx ρ fun x => P (.fl, .int (if k = c then d else if k = a then b else x))
theorem flip_val {a b c d k x : Int} : (valV (mergeK [] [((.inl a : Key), V.int b), (.inl c, V.int d)]) (.inl k)).getD (.int x) = .int (if k = c then d else if k = a then b else x) := by
  have e1 : mergeK [] [((.inl a : Key), V.int b), (.inl c, V.int d)] = if a = c then [(.inl a, V.int d)] else [(.inl a, V.int b), (.inl c, V.int d)] := by
    show putK (putK [] _ _) _ _ = _
    have e2 : putK ([] : List (Key × V)) (.inl a) (V.int b) = [(.inl a, V.int b)] := rfl
    rw [e2]
    unfold putK
    by_cases h : a = c
    · subst h; simp
    · rw [if_neg h, if_neg (by simp [h])]; rfl
  rw [e1]
  by_cases h : a = c
  · subst h
    rw [if_pos rfl]
    by_cases hk : k = a
    · subst hk; rw [if_pos rfl, valV_pos rfl]; rfl
    · rw [if_neg hk, if_neg hk, valV_neg (fun z => hk (Sum.inl.inj z).symm)]; rfl
  · rw [if_neg h]
    by_cases hk : k = c
    · subst hk
      rw [if_pos rfl, valV_neg (fun z => h (Sum.inl.inj z)), valV_pos rfl]; rfl
    · rw [if_neg hk]
      by_cases ha : k = a
      · subst ha; rw [if_pos rfl, valV_pos rfl]; rfl
      · rw [if_neg ha, valV_neg (fun z => ha (Sum.inl.inj z).symm), valV_neg (fun z => hk (Sum.inl.inj z).symm)]; rfl
section
variable {X : Cx} {a b c d k x : Expr} {fa fb fc fd fk fx : PF} {dp apos cpos : Pos}
theorem dp_flip (hu : X.A.units + 64 < cLine) (ha : DP X a fa) (hb : DP X b fb) (hc : DP X c fc) (hd : DP X d fd) (hk : DP X k fk) (hx : DP X x fx) (m : M2 X (.Dict [some a, some c] [b, d] dp) "get" apos k x cpos) :
    DP X (.Call (.Attribute (.Dict [some a, some c] [b, d] dp) "get" apos) [k, x] [] cpos) (pFlip fa fb fc fd fk fx) := by
  obtain ⟨ta, ea, sa⟩ := ha.run
  obtain ⟨tb, eb, sb⟩ := hb.run
  obtain ⟨tc, ec, sc⟩ := hc.run
  obtain ⟨td, ed, sd⟩ := hd.run
  obtain ⟨tk, ek, sk⟩ := hk.run
  obtain ⟨tx, ex, sx⟩ := hx.run
  refine ⟨_, pe_dget2 (by omega) (pe_disp (pps_cons ea eb (pps_cons ec ed pps_nil)) rfl rfl (by simp) (show 2 ≤ 15 by decide)) ek ex m, fun σ H A ρ ow Q P gd h q p hp => ?_⟩
  have s0 : Same H (upd H p (.dK [])) := same_upd hp
  have one : ∀ {z : KD} {v : V} {H0 H' : Hp} {R : Int → Prop}, PR X.K (BB A ow) (Fre H0) H' v z → (match z.2 with | .int i => R i | _ => False) → ∃ i : Int, v = .int i ∧ R i := fun {z v H0 H' R} pr h => by
    have r := pr.ra
    split at h
    · rename_i i e
      rw [e] at r
      exact ⟨i, r, h⟩
    · exact h.elim
  refine sa σ _ A ρ ow _ _ (gd.same s0) h fun za va H1 h s1 p1 => ?_
  obtain ⟨a, rfl, h⟩ := one p1 h
  refine sb σ _ A ρ ow _ _ (gd.same (s0.trans s1)) h fun zb vb H2 h s2 p2 => ?_
  obtain ⟨b, rfl, h⟩ := one p2 h
  refine sc σ _ A ρ ow _ _ (gd.same ((s0.trans s1).trans s2)) h fun zc vc H3 h s3 p3 => ?_
  obtain ⟨c, rfl, h⟩ := one p3 h
  refine sd σ _ A ρ ow _ _ (gd.same (((s0.trans s1).trans s2).trans s3)) h fun zd vd H4 h s4 p4 => ?_
  obtain ⟨d, rfl, h⟩ := one p4 h
  have s14 := ((s1.trans s2).trans s3).trans s4
  have hp4 : H4 p = some (.dK []) := s14 p _ upd_same
  have sH : ∀ o, Same H (upd H4 p o) := fun o y u e => by
    have ne : y ≠ p := fun z => by rw [z, hp] at e; cases e
    rw [upd_ne ne]
    exact (s0.trans s14) y u e
  refine ⟨hp4, [(.inl a, .int b), (.inl c, .int d)], rfl, by simp, p, rfl, .inl ⟨_, .inl upd_same⟩, ?_⟩
  refine sk σ _ A ρ ow _ _ (gd.same (sH _)) h fun zk vk H5 h s5 p5 => ?_
  obtain ⟨k, rfl, h⟩ := one p5 h
  refine sx σ _ A ρ ow _ _ (gd.same ((sH _).trans s5)) h fun zx vx H6 h s6 p6 => ?_
  obtain ⟨x, rfl, h⟩ := one p6 h
  refine ⟨_, .k (k := .inl k) ((s5.trans s6) p _ upd_same), ?_⟩
  rw [flip_val]
  exact q _ _ _ h ((sH _).trans (s5.trans s6)) .int
end
end
end DL

namespace DL
open PySem PySem.Spec PyProof PyProof.Rows L2
open PySem.W (EachIs)
noncomputable section
def rSortD (K : Frg) : List V → Hp → VK → Prop := fun vs H Q => ∃ (a : Addr) (β : Type) (bs : List β) (val : β → V) (enc : β → PyData), vs = [V.ref a] ∧ SqL K H a (bs.map val) ∧ DpAll K H (bs.map val) (bs.map enc) ∧ PySem.W.AllAlike (bs.map enc) ∧ PySem.W.Sortable (bs.map enc) ∧ (∀ b ∈ bs, (enc b).depth < 50) ∧
  ∀ p, H p = none → Q (.ref p) (upd H p (.lst ((bs.mergeSort (PySem.W.dataLe false enc)).map val)))
theorem each_vals {β : Type} {val : β → V} : ∀ {bs : List β} {its : List Value}, Vals (bs.map val) its → EachIs (fun v b => RelV (val b) v) its bs
  | [], _, h => by cases h; exact .nil
  | b :: bs, _, h => by
    cases h with
    | cons p q => exact .cons p (each_vals q)
theorem vals_each {β : Type} {val : β → V} {L : List β} {out : List Value} (h : EachIs (fun v b => RelV (val b) v) out L) : Vals (L.map val) out := by
  induction h with
  | nil => exact .nil
  | cons p q ih => exact .cons p ih
theorem cr_sortD {X : Cx} (hu : X.A.units + 64 < cLine) : CallR X (.builtin "sorted") (rSortD X.K) := by
  intro pins s σ H vs us' Q I r h
  obtain ⟨a, β, bs, val, enc, rfl, hs, hd, hal, hk, hdp, q⟩ := h
  obtain ⟨its, rv, hl, hz⟩ := I.list hs
  rw [Vals.ref1 r]
  obtain ⟨as, hr⟩ := Dp.readsAll I _ _ its hd rv
  refine PySem.W.sorted_data (β := β) (bs := bs) (enc := enc) (R := fun v b => RelV (val b) v) hl.isList (each_vals rv) (PySem.W.readsAll_each enc hr) hal hk (by rw [List.length_map] at hz; exact hz) (fun b hb => ?_) fun out ho hout => ?_
  · have := hdp b hb
    omega
  · obtain ⟨ep, he'⟩ := PyProof.Rows.sortedAll_at s.heap its out.toArray
    have hv := vals_each hout
    refine ⟨.ref _, upd H (s.heap.objs.size + 1) (.lst _), I.laid (t' := s.toks) (fun _ _ => PyProof.Rows.sortedAll_old) (Nat.le_succ _) ⟨?_, out, ep, hv, he'⟩, rfl, q _ (I.hok.fresh (Nat.le_succ _))⟩
    rw [List.length_map, List.length_mergeSort]
    rw [List.length_map] at hz
    exact hz
def oSortedI : List KD → (KD → Prop) → Prop := fun zs P => match zs with
  | [(_, .lst ds)] => ∃ nss : List (List Int), ds = nss.map tI ∧ (∀ ns ∈ nss, ns ≠ []) ∧ ∀ ms : List (List Int), ms.Perm nss → ms.Pairwise (fun x y => ¬ y < x) → P (.sh, .lst (ms.map tI))
  | _ => False
theorem depth_pI1 (ns : List Int) : (pI ns).depth ≤ 3 := by
  have h := depth_pI [ns]
  rw [List.map_cons, List.map_nil, PyData.depthAll] at h
  omega
theorem sort_pI (bs : List (V × List Int)) : (bs.mergeSort (PySem.W.dataLe false fun b : V × List Int => pI b.2)).Perm bs ∧ (bs.mergeSort (PySem.W.dataLe false fun b : V × List Int => pI b.2)).Pairwise fun x y => ¬ y.2 < x.2 := by
  have le : ∀ a b : V × List Int, PySem.W.dataLe false (fun b : V × List Int => pI b.2) a b = !decide (b.2 < a.2) := fun a b => by
    rw [PySem.W.dataLe_eq]
    show (!PySem.W.dataLt (pI b.2) (pI a.2)) = _
    rw [lt_pI]
  refine ⟨List.mergeSort_perm _ _, ?_⟩
  have := List.pairwise_mergeSort (le := PySem.W.dataLe false fun b : V × List Int => pI b.2) (fun a b c h1 h2 => ?_) (fun a b => ?_) bs
  · refine List.Pairwise.imp (fun {x y} h => ?_) this
    rw [le] at h
    simpa using h
  · rw [le] at h1 h2 ⊢
    simp only [Bool.not_eq_true', decide_eq_false_iff_not] at h1 h2 ⊢
    exact List.not_lt.mpr (List.le_trans (List.not_lt.mp h1) (List.not_lt.mp h2))
  · rw [le, le]
    simp only [Bool.or_eq_true, Bool.not_eq_true', decide_eq_false_iff_not]
    exact Classical.byContradiction fun z => by
      have z1 := Classical.not_not.mp fun y => z (.inl y)
      have z2 := Classical.not_not.mp fun y => z (.inr y)
      exact List.lt_irrefl _ (List.lt_trans z1 z2)
theorem RAs.zipI {K : Frg} {A : Addr → Prop} {H : Hp} : ∀ {nss : List (List Int)} {us : List V}, RAs K A H (nss.map tI) us → ∀ p ∈ us.zip nss, RA K No H (tI p.2) p.1
  | [], us, _, p, h => by rw [List.zip_nil_right] at h; cases h
  | ns :: nss, _, ⟨w, ws, e, h, t⟩, p, hp => by
    subst e
    rw [List.zip_cons_cons] at hp
    rcases List.mem_cons.mp hp with rfl | hp
    · exact h.dpI.2
    · exact RAs.zipI t p hp
theorem RAs.pairs {K : Frg} {H : Hp} : ∀ (L : List (V × List Int)), (∀ p ∈ L, RA K No H (tI p.2) p.1) → RAs K No H ((L.map (·.2)).map tI) (L.map (·.1))
  | [], _ => .nil
  | p :: L, h => .cons (h p (List.mem_cons_self ..)) (RAs.pairs L fun q hq => h q (List.mem_cons_of_mem _ hq))
theorem cs_sortedI {K : Frg} : CallS K (rSortD K) oSortedI := by
  intro B F H vs xs P Q pr hF h q
  unfold oSortedI at h
  split at h
  · rename_i k ds
    obtain ⟨nss, rfl, hne, hP⟩ := h
    obtain ⟨v, ev, p⟩ := pr.get1
    subst ev
    obtain ⟨a, us, ea, t, r⟩ := p.lstT
    subst ea
    have r := r.elor
    have hd := RAs.dpI r
    have hl : us.length = nss.length := by
      have := r.len
      rw [List.length_map] at this
      exact this.symm ▸ rfl
    have e1 : (us.zip nss).map (·.1) = us := List.map_fst_zip (by omega)
    have e2 : (us.zip nss).map (·.2) = nss := List.map_snd_zip (by omega)
    have e3 : (us.zip nss).map (fun b : V × List Int => pI b.2) = nss.map pI := by
      have := congrArg (List.map pI) e2
      rw [List.map_map] at this
      exact this
    obtain ⟨hp, hs⟩ := sort_pI (us.zip nss)
    refine ⟨a, V × List Int, us.zip nss, (·.1), fun b => pI b.2, rfl, by rw [e1]; exact .of t, by rw [e1, e3]; exact hd, by rw [e3]; exact (alike_pI nss).1, ?_, fun b _ => by show (pI b.2).depth < 50; have := depth_pI1 b.2; omega, fun l hl => ?_⟩
    · rw [e3]
      refine .inl fun d hd => ?_
      obtain ⟨ns, hn, rfl⟩ := List.mem_map.mp hd
      cases ns with
      | nil => exact absurd rfl (hne _ hn)
      | cons x r => exact ⟨.int x, r.map .int, rfl⟩
    · have key := hP (((us.zip nss).mergeSort (PySem.W.dataLe false fun b : V × List Int => pI b.2)).map (·.2)) (by have := hp.map (·.2); rw [e2] at this; exact this) (List.pairwise_map.mpr hs)
      refine q _ _ _ key (same_upd hl) (pr_lst (k := .fl) ?_ hl (hF l hl))
      exact RAs.pairs _ fun x hx => RAs.zipI r x (hp.mem_iff.mp hx)
  · exact h.elim
end
end DL

namespace DL
open PySem PySem.Spec PyProof PyProof.Rows L2
open PySem.W (iter_listW)
noncomputable section
section
variable {prog : Program} {w : World} {A : Around} {E : Value → Shared → Prop} {s : Shared}
end
section
variable {prog : Program} {w : World} {A : Around} {R : Result → Shared → Prop} {I : Addr} {fp wr : List Addr} {G : Array GenState → Array GenState → Prop} {n : Nat} {P : Nat → Value → Prop} {St : Nat → Shared → Prop}
end
section
variable {prog : Program} {w : World} {A : Around} {E : Value → Shared → Prop} {s : Shared}
end
end
end DL

namespace DL
open PySem PySem.Spec PyProof PyProof.Rows L2
noncomputable section
section
variable {K : Frg} {A A2 : Addr → Prop} {H H2 : Hp} {ρ : Ro} {σ : L2.St} {ow ow2 fp : List Addr} {d : D} {v : V}
theorem Own.frame (o : Own K A H (.ow, d) v fp ow) (mu : ∀ a ∈ ow, ∃ u, H a = some u ∧ ¬ Imm u) (ex : ∀ a ∈ fp, ∃ u, H a = some u) (st : Stp H ow A H2 ow2 A2) (nd2 : ow2.Nodup) : Own K A2 H2 (.ow, d) v fp ow2 ∧ KeepF No fp H H2 := by
  obtain ⟨n1, n2, n3⟩ := List.nodup_append.mp o.nd
  have kp : KeepF No fp H H2 := fun a u ea h => st.same a u ea fun z => by
    rcases h with h | h | h
    · exact n3 a h a z rfl
    · exact h
    · obtain ⟨u', e', m⟩ := mu a z
      rw [ea] at e'; cases e'
      exact m h
  refine ⟨⟨R.keep _ _ _ kp (show R K No H d v fp from o.rep), List.nodup_append.mpr ⟨n1, nd2, fun a ha b hb e => ?_⟩, fun a h z => ?_⟩, kp⟩
  · subst e
    rcases st.own a hb with y | y
    · exact n3 a ha a y rfl
    · obtain ⟨u, e⟩ := ex a ha
      rw [y] at e; cases e
  · rcases st.fr a z with y | y | y
    · exact o.dis a h y
    · exact n3 a h a y rfl
    · obtain ⟨u, e⟩ := ex a h
      rw [y] at e; cases e
end
def sStIxE (i : Nat) (f3 f1 f2 : EF) : SF := fun T ρ => f3 ρ (fun z ρ1 => ∃ (c : Int) (rows : List (List Int)), z.2 = .int c ∧ ρ1[i]? = some (some (.ow, .lst (rows.map lsI))) ∧
  f1 (ρ1.set i none) (fun y ρ2 => ∃ (n : Nat) (l : List Int), y.2 = .int n ∧ rows[n]? = some l ∧
    f2 ρ2 (fun w ρ3 => ∃ m : Nat, w.2 = .int m ∧ m < l.length ∧ T.nx (ρ3.set i (some (.ow, .lst ((rows.set n (l.set m c)).map lsI))))) fun _ _ => False) fun _ _ => False) fun _ _ => False
section
variable {X : Cx} {E : XK} {pr : List Nat} {pos : Pos}
theorem ds_stIxE (i : Nat) {x : Str} {e1 e2 e3 : Expr} {px p1 p2 : Pos} {f1 f2 f3 : EF} (h3 : DE X E e3 f3) (h1 : DE X E e1 f1) (h2 : DE X E e2 f2)
    (hN : X.N[i]? = some x := by rfl) (hv : Vis X.env.scope x := by first | exact Or.inl rfl | exact Or.inr (Or.inl rfl) | exact Or.inr (Or.inr rfl)) (hd : (x == ("__debug__" : Str)) = false := by decide) (hcd : (x == ("__classdict__" : Str)) = false := by decide)
    (hpi : PlainIx e1 := by exact fun _ _ => rfl)
    (hs : swapsWithSole [.Subscript (.Subscript (.Name x px) e1 p1) e2 p2] e3 pos.line X.env = pure false := by rfl) (hw : swappedStores [.Subscript (.Subscript (.Name x px) e1 p1) e2 p2] e3 X.env = pure none := by rfl)
    (ha : (assignEach [.Subscript (.Subscript (.Name x px) e1 p1) e2 p2] X.env).map (·.2) = [assign (.Subscript (.Subscript (.Name x px) e1 p1) e2 p2) X.env] := by rfl) (hg : ∀ v, assign (.Subscript (.Subscript (.Name x px) e1 p1) e2 p2) X.env v = (do
      let ov ← holding [v] (eval (.Subscript (.Name x px) e1 p1) X.env)
      let iv ← holding [v, ov] (eval e2 X.env)
      standAt p2
      holding [v, ov, iv] (setItem ov iv v)
      release [v, ov, iv] []) := by intro _; rfl) : DS X E pr (.Assign [.Subscript (.Subscript (.Name x px) e1 p1) e2 p2] e3 pos) (sStIxE i f3 f1 f2) := by
  obtain ⟨t3, ee3, s3⟩ := h3.run
  obtain ⟨t1, ee1, s1⟩ := h1.run
  obtain ⟨t2, ee2, s2⟩ := h2.run
  refine ⟨_, ps_asg ee3 (pg_sub (pe_ix ix_list (pe_var hN hv hd hcd) ee1 hpi) ee2 set_list hg) hs hw ha, fun σ H A ρ ow T D gd h nx rt ex => ?_⟩
  refine s3 σ H A ρ ow _ _ _ gd h (fun z ρ1 v H1 fp ow1 A1 h1 st1 g1 o1 => ?_) fun C ρ1 H1 ow1 A1 z _ _ => z.elim
  obtain ⟨c, rows, ez, hi, h1⟩ := h1
  have ra : RA X.K (fun _ => True) H1 z.2 v := o1.rep.ra (fun _ _ => trivial) fun _ _ => trivial
  rw [ez] at ra
  obtain rfl : v = .int c := ra
  obtain ⟨w, fq, ow1', hv1, g1', oq, sub1⟩ := g1.move hi
  have mu1 : ∀ a ∈ ow1', ∃ u, H1 a = some u ∧ ¬ Imm u := fun a h => let ⟨u, e, m⟩ := g1'.rep.mu a h; ⟨u, e, m.notImm⟩
  have ex1 : ∀ a ∈ fq, ∃ u, H1 a = some u := fun a h => let ⟨u, e, m⟩ := oq.rep.mu a h; ⟨u, e⟩
  refine ⟨w, hv1, ?_⟩
  refine s1 σ H1 A1 _ ow1' _ _ _ g1' h1 (fun y ρ2 v2 H2 fp2 ow2 A2 h2 st2 g2 o2 => ?_) fun C ρ1 H1 ow1 A1 z _ _ => z.elim
  obtain ⟨n, l, ey, hn, h2⟩ := h2
  have ra : RA X.K (fun _ => True) H2 y.2 v2 := o2.rep.ra (fun _ _ => trivial) fun _ _ => trivial
  rw [ey] at ra
  obtain rfl : v2 = .int n := ra
  have st2' : Stp H1 ow1' A1 H2 ow2 A2 := st2.sub fun a h => by simp [h]
  obtain ⟨oq2, kp2⟩ := oq.frame mu1 ex1 st2' g2.nd
  obtain ⟨p, vs, fps, rfl, rfl, hp, rs⟩ := (show R X.K No H2 (.lst (rows.map lsI)) w fq from oq2.rep)
  obtain ⟨rfl, hfl, hk⟩ := lsI_split rs
  obtain ⟨r, er, hr⟩ := hk n l hn
  have hrow : n < rows.length := (List.getElem?_eq_some_iff.mp hn).1
  refine ⟨p, _, n, .ref r, rfl, rfl, .of hp, atI_nat (by rw [List.getElem?_map, er]; rfl), ?_⟩
  have mu2 : ∀ a ∈ ow2, ∃ u, H2 a = some u ∧ ¬ Imm u := fun a h => let ⟨u, e, m⟩ := g2.rep.mu a h; ⟨u, e, m.notImm⟩
  have ex2 : ∀ a ∈ p :: fps, ∃ u, H2 a = some u := fun a h => let ⟨u, e, m⟩ := oq2.rep.mu a h; ⟨u, e⟩
  refine s2 σ H2 A2 ρ2 ow2 _ _ _ g2 h2 (fun w ρ3 v3 H3 fp3 ow3 A3 h3 st3 g3 o3 => ?_) fun C ρ1 H1 ow1 A1 z _ _ => z.elim
  obtain ⟨m, ew, hm, hN'⟩ := h3
  have ra : RA X.K (fun _ => True) H3 w.2 v3 := o3.rep.ra (fun _ _ => trivial) fun _ _ => trivial
  rw [ew] at ra
  obtain rfl : v3 = .int m := ra
  have st3' : Stp H2 ow2 A2 H3 ow3 A3 := st3.sub fun a h => by simp [h]
  obtain ⟨oq3, kp3⟩ := oq2.frame mu2 ex2 st3' g3.nd
  have hmem : r ∈ fps := List.mem_of_getElem? er
  have hr3 : H3 r = some (.lst (l.map V.int)) := kp3 r _ hr (.inl (by simp [hmem]))
  have hp3 : H3 p = some (.lst (fps.map V.ref)) := kp3 p _ hp (.inl (by simp))
  refine ⟨r, l.map V.int, m, m, rfl, rfl, hr3, by rw [List.length_map]; exact ixN_ok hm, ?_⟩
  obtain ⟨n1, n2, n3⟩ := List.nodup_append.mp oq3.nd
  obtain ⟨m1, m2⟩ := List.nodup_cons.mp n1
  have rq : r ∉ ow3 := fun z => n3 r (by simp [hmem]) r z rfl
  have rA : ¬ A3 r := oq3.dis r (by simp [hmem])
  have kA : KeepF A3 ow3 H3 (upd H3 r (.lst ((l.map V.int).set m (.int c)))) := KeepF.upd rq rA fun u eu z => by rw [hr3] at eu; cases eu; exact z
  have g4 : Good X.K A3 (upd H3 r (.lst ((l.map V.int).set m (.int c)))) ρ3 σ ow3 := ⟨RepS.keep kA g3.rep, g3.nd, g3.dis, fun a h => by
    obtain ⟨u, eu⟩ := g3.tr a h
    exact ⟨u, kA a u eu (.inr (.inl h))⟩⟩
  have rs4 : Rs X.K No (upd H3 r (.lst ((l.map V.int).set m (.int c)))) ((rows.set n (l.set m c)).map lsI) (fps.map V.ref) fps := lsI_join (by rw [List.length_set]; exact hfl) fun k x e => by
    by_cases kn : k = n
    · subst kn
      rw [List.getElem?_set_self hrow] at e
      cases e
      exact ⟨r, er, by rw [upd_same, List.map_set]⟩
    · rw [List.getElem?_set_ne (Ne.symm kn)] at e
      obtain ⟨b, e1, e2⟩ := hk k x e
      have hb : b ∈ fps := List.mem_of_getElem? e1
      have bne : b ≠ r := fun z => kn (by
        have l1 := (List.getElem?_eq_some_iff.mp e1).1
        have l2 := (List.getElem?_eq_some_iff.mp er).1
        rw [List.getElem?_eq_getElem l1] at e1
        rw [List.getElem?_eq_getElem l2] at er
        exact (List.getElem_inj m2).mp ((Option.some.inj e1).trans (z.trans (Option.some.inj er).symm)))
      exact ⟨b, e1, by rw [upd_ne bne]; exact kp3 b _ e2 (.inl (by simp [hb]))⟩
  obtain ⟨ow5, g5, sub5⟩ := g4.put (i := i) (kd := (.ow, .lst ((rows.set n (l.set m c)).map lsI))) (v := .ref p) (fp := p :: fps) ⟨⟨p, _, fps, rfl, rfl, by rw [upd_ne (fun z : p = r => m1 (z ▸ hmem))]; exact hp3, rs4⟩, oq3.nd, oq3.dis⟩
  rw [set_same hv1] at g5
  have st23 := st2'.trans st3'
  have rin : r ∈ ow1 := sub1 r (by simp [hmem])
  have stA : Stp H1 ow1 A1 (upd H3 r (.lst ((l.map V.int).set m (.int c)))) ow5 A3 := ⟨fun a u e hn => by
      rw [upd_ne (fun z : a = r => hn (z ▸ rin))]
      exact st23.same a u e fun z => hn (sub1 a (List.mem_append_right _ z)), fun a h => by
      rcases sub5 a h with h | h
      · exact (st23.own a h).imp (fun z => sub1 a (List.mem_append_right _ z)) id
      · exact .inl (sub1 a (List.mem_append_left _ h)), st23.up, fun a h => by
      rcases st23.fr a h with h | h | h
      · exact .inl h
      · exact .inr (.inl (sub1 a (List.mem_append_right _ h)))
      · exact .inr (.inr h)⟩
  exact nx _ σ _ ow5 A3 hN' ((st1.sub fun a h => by simp [h]).trans stA) g5 fun _ _ => rfl
end
end
end DL

namespace DL
open PySem PySem.Spec PyProof PyProof.Rows L2
noncomputable section
mutual
def _root_.DL.D.wkD : D → D
  | .tup ds => .tup (D.wkDs ds)
  | .key ns => .tup (ns.map .int)
  | .tpx ns => .tup (ns.map .int)
  | d => d
def _root_.DL.D.wkDs : List D → List D
  | [] => []
  | d :: ds => d.wkD :: D.wkDs ds
end
section
variable {K : Frg} {A B F : Addr → Prop} {H : Hp}
mutual
theorem RA.wkD : ∀ (d : D) (v : V), RA K A H d v → RA K A H d.wkD v
  | .tup ds, _, ⟨p, vs, e, t, r⟩ => ⟨p, vs, e, t, RAs.wkD ds vs r⟩
  | .key ns, _, ⟨p, e, t⟩ => ⟨p, _, e, .inl (.inl t), RAs.of_ints _⟩
  | .tpx ns, _, ⟨p, o, e, t, _⟩ => ⟨p, _, e, .inl (.inr ⟨o, t⟩), RAs.of_ints _⟩
  | .non, _, h => h
  | .bl _, _, h => h
  | .int _, _, h => h
  | .str _, _, h => h
  | .lst _, _, h => h
  | .kst _, _, h => h
  | .dcT _ _, _, h => h
  | .dcK _ _, _, h => h
  | .obj _ _ _, _, h => h
  | .frz _, _, h => h
  | .fn _, _, h => h
  | .ad _, _, h => h
  | .lsA _ _, _, h => h
  | .exn _, _, h => h
  | .dcL _, _, h => h
  | .dcN _, _, h => h
  | .lkT _, _, h => h
  | .any, _, h => h
theorem RAs.wkD : ∀ (ds : List D) (vs : List V), RAs K A H ds vs → RAs K A H (D.wkDs ds) vs
  | [], _, h => h
  | d :: ds, _, ⟨w, ws, e, h, t⟩ => ⟨w, ws, e, RA.wkD d w h, RAs.wkD ds ws t⟩
end
end
def pTupK (g : PAF) : PF := fun ρ P => g ρ fun zs => ∃ ns : List Int, zs.map (·.2) = ns.map .int ∧ P (.fl, .key ns)
section
variable {X : Cx} {pos : Pos}
theorem dp_tupK {es : List Expr} {n : Nat} {g : PAF} {k} (h : DA X es n g) (hn : n ≤ 1000 := by decide) : DP X (.Tuple es k pos) (pTupK g) := by
  obtain ⟨ta, ea, sa⟩ := h.run
  refine ⟨_, pe_tup ea, fun σ H A ρ ow Q P g h q => ?_⟩
  refine sa σ H A ρ ow _ _ g h fun zs vs H1 hz hx s1 p1 => ⟨?_, fun p hp => ?_⟩
  · obtain ⟨_, r, _⟩ := p1
    rw [r.len, hz, sizeLine_eq]; omega
  · obtain ⟨ns, e, hP⟩ := hx
    obtain ⟨fp, r, _, hF⟩ := p1
    have t := VRs.ra (fun _ h => h) r fun a z => .inr (hF a z)
    rw [e] at t
    have e2 := RAs.ints t
    subst e2
    exact q _ _ _ hP (s1.trans (same_upd hp)) (.fl ⟨p, rfl, upd_same⟩)
end
def oAddKey : KD → KD → (KD → Prop) → Prop := fun x y P => match x.2, y.2 with
  | .key a, .key b => a.length + b.length ≤ 10000000 ∧ P (.fl, .key (a ++ b))
  | _, _ => False
theorem os_addKey {K : Frg} : OpS K (rAddAll K) oAddKey := by
  intro B F H v w x y P Q px py hF h q
  obtain ⟨k, d⟩ := x
  obtain ⟨k', d'⟩ := y
  unfold oAddKey at h
  split at h
  · rename_i a b e1 e2
    dsimp only at e1 e2
    subst e1 e2
    obtain ⟨p, rfl, t⟩ := px.ra
    obtain ⟨p', rfl, t'⟩ := py.ra
    refine .inr (.inr (.inr ⟨p, p', _, _, rfl, rfl, .of t, .of t', by rw [List.length_map, List.length_map]; exact sz7 h.1, fun e => ?_, fun _ e => ?_, fun _ _ l hl => ?_⟩))
    · have e := List.map_eq_nil_iff.mp e
      subst e
      exact q _ _ H h.2 (Same.refl H) (.fl ⟨p', rfl, t'⟩)
    · have e := List.map_eq_nil_iff.mp e
      subst e
      rw [List.append_nil] at h
      exact q _ _ H h.2 (Same.refl H) (.fl ⟨p, rfl, t⟩)
    · exact q _ _ _ h.2 (same_upd hl) (.fl ⟨l, rfl, by rw [List.map_append]; exact upd_same⟩)
  · exact h.elim
abbrev NK := Int × List Int
abbrev nkD (x : NK) : D := .tup [.int x.1, .key x.2]
abbrev nkP (x : NK) : PyData := .tuple [.int x.1, pI x.2]
theorem RA.nk {K : Frg} {A : Addr → Prop} {H : Hp} {x : NK} {v : V} (h : RA K A H (nkD x) v) : Dp K H v (nkP x) ∧ RA K No H (nkD x) v := by
  have h2 : RA K No H (nkD x) v := RA.imm_no _ _ h rfl
  exact ⟨RA.dp (nkD x) v h (by
    show (PyData.canLay0 (.tuple [.int x.1, .tuple (x.2.map .int)])) = true
    have := (pints_ok x.2).1
    simp only [PyData.canLay0, PyData.canLayAll0, this]; rfl), h2⟩
theorem RAs.nk {K : Frg} {A : Addr → Prop} {H : Hp} : ∀ {ps : List NK} {us : List V}, RAs K A H (ps.map nkD) us → DpAll K H us (ps.map nkP) ∧ ∀ p ∈ us.zip ps, RA K No H (nkD p.2) p.1
  | [], _, h => by rw [show _ = [] from h]; exact ⟨.nil, fun p hp => nomatch hp⟩
  | x :: ps, _, ⟨w, ws, e, h, t⟩ => by
    subst e
    obtain ⟨t1, t2⟩ := RAs.nk t
    refine ⟨.cons h.nk.1 t1, fun p hp => ?_⟩
    rw [List.zip_cons_cons] at hp
    rcases List.mem_cons.mp hp with rfl | hp
    · exact h.nk.2
    · exact t2 p hp
def oInT (neg : Bool) (y x : KD) (P : KD → Prop) : Prop := ∃ kvs ns, isT x.2 kvs ∧ y.2 = .key ns ∧ P (.fl, .bl (if neg then !(look kvs ns).isSome else (look kvs ns).isSome))
@[irreducible] def xInT (neg : Bool) (y x : KD) (P : KD → Prop) : Prop := hid (oInT neg y x P)
section
variable {X : Cx} {pos : Pos} {o k : Expr} {fo fk : PF}
end
end
end DL

namespace DL
open PySem PySem.Spec PyProof PyProof.Rows L2
noncomputable section
def seT (ks : List (List Int)) : List (List Key × V) := ks.map fun k => (lowK k, V.bl true)
def seD (ks : List (List Int)) : D := .dcT (ks.map lowK) (ks.map fun _ => .bl true)
def putS (ks : List (List Int)) (k : List Int) : List (List Int) := if k ∈ ks then ks else ks ++ [k]
theorem se_eq {ks : List (List Int)} : ∀ {kv2 : List (List Key × V)}, kv2.map (·.1) = ks.map lowK → kv2.map (·.2) = (ks.map fun _ => V.bl true) → kv2 = seT ks := by
  induction ks with
  | nil => intro kv2 h _; exact List.map_eq_nil_iff.mp h
  | cons x ks ih =>
    intro kv2 h1 h2
    cases kv2 with
    | nil => cases h1
    | cons y r =>
      obtain ⟨a, b⟩ := y
      rw [List.map_cons, List.map_cons] at h1 h2
      have a1 := (List.cons.inj h1).1
      have a2 := (List.cons.inj h2).1
      dsimp only at a1 a2
      rw [ih (List.cons.inj h1).2 (List.cons.inj h2).2, a1, a2]; rfl
theorem se_keys {ks : List (List Int)} : (seT ks).map (·.1) = ks.map lowK := by unfold seT; rw [List.map_map]; rfl
theorem se_vals {ks : List (List Int)} : (seT ks).map (·.2) = (ks.map fun _ => V.bl true) := by unfold seT; rw [List.map_map]; rfl
section
variable {K : Frg} {A B F : Addr → Prop} {H : Hp} {ks : List (List Int)} {v : V} {fp : List Addr}
theorem RAs.truev : ∀ {ks : List (List Int)} {vs : List V}, RAs K A H (ks.map fun _ => .bl true) vs → vs = ks.map fun _ => V.bl true
  | [], _, h => h
  | x :: ks, _, ⟨w, ws, e, h, t⟩ => by
    have e1 : w = V.bl true := h
    rw [e, e1, RAs.truev (ks := ks) t]; rfl
theorem RAs.of_truev : ∀ {ks : List (List Int)}, RAs K A H (ks.map fun _ => .bl true) (ks.map fun _ => V.bl true)
  | [] => rfl
  | x :: ks => ⟨_, _, rfl, rfl, RAs.of_truev (ks := ks)⟩
theorem RA.se (h : RA K A H (seD ks) v) : ∃ p, v = .ref p ∧ A p ∧ Rd H p (.dT (seT ks)) := by
  obtain ⟨p, k2, e, a, t, e1, r⟩ := h
  refine ⟨p, e, a, ?_⟩
  rw [← se_eq e1 (RAs.truev r)]; exact t
theorem R.se (h : R K A H (seD ks) v fp) : ∃ p, v = .ref p ∧ fp = [p] ∧ H p = some (.dT (seT ks)) := by
  obtain ⟨p, k2, fps, e, e2, t, e1, r⟩ := h
  have z : RAs K (fun _ => True) H (ks.map fun _ => .bl true) (k2.map (·.2)) := Rs.ra (fun _ _ => trivial) _ _ _ (fun _ _ => trivial) r
  have e3 : fps = [] := Rs.nil0 (K := K) (A := A) (H := H) (H' := H) _ fps ⟨_, RAs.of_truev⟩ ⟨_, r⟩
  subst e3
  exact ⟨p, e, e2, by rw [← se_eq e1 (RAs.truev z)]; exact t⟩
theorem R.of_se {p : Addr} (h : H p = some (.dT (seT ks))) : R K A H (seD ks) (.ref p) [p] :=
  ⟨p, seT ks, [], rfl, rfl, h, se_keys, by rw [se_vals]; exact Rs.of0 _ _ RAs.of_truev⟩
end
theorem pr_se {K : Frg} {B F : Addr → Prop} {H : Hp} {p : Addr} {ks : List (List Int)} (h : H p = some (.dT (seT ks))) (hF : F p) : PR K B F H (.ref p) (.ow, seD ks) :=
  ⟨[p], R.of_se h, by simp, fun a z => by rw [List.mem_singleton.mp z]; exact hF⟩
def tDispT (tk tv : TE) : TE := fun σ H Q => ∀ p, H p = none → tk σ (upd H p (.dT [])) fun x H1 => tv σ H1 fun y H2 => ∃ b ks, x = .ref b ∧ H2 p = some (.dT []) ∧ H2 b = some (.tup (ks.map kV)) ∧ Q (.ref p) (upd H2 p (.dT [(ks, y)]))
section
variable {X : Cx} {pos : Pos}
theorem pe_dispT {k v : Expr} {tk tv : TE} (hu : X.A.units + 64 < cLine) (hk : PE X k tk) (hv : PE X v tv) : PE X (.Dict [some k] [v] pos) (tDispT tk tv) := by
  refine ⟨fun pins s σ H Q I q => ?_⟩
  have hroom : (tupleKind (mixKind X.prog X.w)).room X.A := by
    have : X.A.units < cLine := by omega
    exact this
  have hn := I.hok.fresh (Nat.le_refl s.heap.objs.size)
  have I1 := I.laid (a := s.heap.objs.size) (o := .dT []) (h' := s.heap.push { cls := .type "dict", data := .dict #[] }) (t' := s.toks) (fun _ _ q => Heap.get?_push_of_some _ q) (Nat.le_refl _) (dt_empty s.heap I.big)
  rw [arm_eval_Dict, show (evalEachOpt [some k] X.env).zip ((evalEach [v] X.env).map fun v => do let x ← v; standAt pos; pure x) = (pairTrees [some k] [v] X.env pos).map fun p => (some p.1, p.2) from zip_pairTrees _ _ _ _ rfl rfl,
    dictDisplay_pairs _ (fun z => by have := pairTrees_length [some k] [v] X.env pos rfl rfl; rw [z] at this; cases this) (by rw [pairTrees_length _ _ _ _ rfl rfl]; exact Nat.le_of_ble_eq_true rfl)]
  refine wpAny_bind (wpAny_standAt (wpAny_bind (wpAny_subDictH (knd := tupleKind (mixKind X.prog X.w)) hroom (by rw [pairTrees_length _ _ _ _ rfl rfl]; exact Nat.le_of_ble_eq_true rfl) ?_)))
  refine pairTrees_cons_walk (thn (hk.run pins _ σ _ _ I1 (q _ hn)) fun u s1 ⟨x, H1, I2, rx, q1⟩ => ?_)
  refine thn (hv.run pins s1 σ _ _ I2 q1) fun w s2 ⟨y, H2, I3, ry, b, ks, ex, e1, e2, q2⟩ => ?_
  subst ex
  have hu' : u = Value.ref b := rx
  subst hu'
  refine pairTrees_nil_walk ?_
  obtain ⟨z, hd, xs, rel, dd⟩ := dt_of I3.hok e1
  cases rel
  refine ⟨[(ks, b, w)], ⟨rfl, rfl, key_of (ks := ks) I3.hok e2, True.intro⟩, dd, fun h' tk dd' hs => ?_⟩
  have es : storedAllH [] [((ks : List Key), b, w)] = [(ks, b, w)] := rfl
  rw [es] at dd'
  obtain ⟨qq, es', ep, hq, h2, h3, h4, _, h5⟩ := dd'
  refine wpAny_pure ⟨.ref s.heap.objs.size, _, d_write (ob := .dT [(ks, y)]) I3 (by rw [e1]; exact True.intro) hs ⟨qq, hq⟩ ⟨by show 1 ≤ sizeLine; rw [sizeLine_eq]; omega, hd, [(ks, b, w)], .cons ⟨rfl, ?_, ry⟩ .nil, qq, es', ep, hq, h2, h3, h4, h5⟩, rfl, q2⟩
  rw [upd_ne (fun z : b = s.heap.objs.size => by rw [z] at e2; rw [e1] at e2; cases e2)]
  exact e2
def oDispT (y z : KD) (P : KD → Prop) : Prop := match y.2, z.2 with
  | .key ns, .int i => P (.ow, dtD [(ns, i)])
  | .key ns, .bl true => P (.ow, seD [ns])
  | _, _ => False
def pDispT (fk fv : PF) : PF := fun ρ P => fk ρ fun y => fv ρ fun z => oDispT y z P
theorem dp_dispT {k v : Expr} {fk fv : PF} (hu : X.A.units + 64 < cLine) (hk : DP X k fk) (hv : DP X v fv) : DP X (.Dict [some k] [v] pos) (pDispT fk fv) := by
  obtain ⟨tk, ek, sk⟩ := hk.run
  obtain ⟨tv, ev, sv⟩ := hv.run
  refine ⟨_, pe_dispT hu ek ev, fun σ H A ρ ow Q P g h q p hp => ?_⟩
  have s0 : Same H (upd H p (.dT [])) := same_upd hp
  refine sk σ _ A ρ ow _ _ (g.same s0) h fun y yv H1 hy s1 p1 => ?_
  refine sv σ H1 A ρ ow _ _ (g.same (s0.trans s1)) hy fun z w H2 hz s2 p2 => ?_
  have s : Same (upd H p (.dT [])) H2 := s1.trans s2
  have e1 : H2 p = some (.dT []) := s p _ upd_same
  have hkeep : ∀ o, Same H (upd H2 p o) := fun o a x e => by
    rw [upd_ne (fun z => by rw [z, hp] at e; cases e)]
    exact s a x (s0 a x e)
  unfold oDispT at hz
  split at hz
  · rename_i ns i ey ez
    have r1 := p1.ra
    rw [ey] at r1
    obtain ⟨b, rfl, hb⟩ := r1
    have r2 := p2.ra
    rw [ez] at r2
    obtain rfl : w = .int i := r2
    exact ⟨b, lowK ns, rfl, e1, by rw [lowK_kV]; exact s2 b _ hb, q _ _ _ hz (hkeep _) (pr_dt (kvs := [(ns, i)]) upd_same hp)⟩
  · rename_i ns ey ez
    have r1 := p1.ra
    rw [ey] at r1
    obtain ⟨b, rfl, hb⟩ := r1
    have r2 := p2.ra
    rw [ez] at r2
    obtain rfl : w = .bl true := r2
    exact ⟨b, lowK ns, rfl, e1, by rw [lowK_kV]; exact s2 b _ hb, q _ _ _ hz (hkeep _) (pr_se (ks := [ns]) upd_same hp)⟩
  · exact hz.elim
def oInSe (neg : Bool) (y x : KD) (P : KD → Prop) : Prop := ∃ ks ns, x.2 = seD ks ∧ y.2 = .key ns ∧ P (.fl, .bl (if neg then !decide (ns ∈ ks) else decide (ns ∈ ks)))
@[irreducible] def xInSe (neg : Bool) (y x : KD) (P : KD → Prop) : Prop := hid (oInSe neg y x P)
end
def oPutS (e : D) (y z : KD) (P : D → Prop) : Prop := ∃ ks ns, e = seD ks ∧ y.2 = .key ns ∧ z.2 = .bl true ∧ ks.length < 10000000 ∧ P (seD (putS ks ns))
@[irreducible] def xPutS (e : D) (y z : KD) (P : D → Prop) : Prop := hid (oPutS e y z P)
section
variable {X : Cx} {E : XK} {pr : List Nat} {pos : Pos}
end
end
end DL

namespace DL
open PySem PySem.Spec PyProof PyProof.Rows L2
noncomputable section
def flK (a b c d : Int) : List (Key × V) := mergeK [] [((.inl a : Key), V.int b), (.inl c, V.int d)]
def flD (a b c d : Int) : D := if a = c then .dcK [.inl a] [.int d] else .dcK [.inl a, .inl c] [.int b, .int d]
theorem flK_eq (a b c d : Int) : flK a b c d = if a = c then [(.inl a, V.int d)] else [(.inl a, V.int b), (.inl c, V.int d)] := by
  show putK (putK [] _ _) _ _ = _
  have e2 : putK ([] : List (Key × V)) (.inl a) (V.int b) = [(.inl a, V.int b)] := rfl
  rw [e2]
  unfold putK
  by_cases h : a = c
  · subst h; simp
  · rw [if_neg h, if_neg (by simp [h])]; rfl
section
variable {K : Frg} {A B F : Addr → Prop} {H : Hp}
theorem pair_ext {α β : Type} : ∀ {l m : List (α × β)}, l.map (·.1) = m.map (·.1) → l.map (·.2) = m.map (·.2) → l = m
  | [], [], _, _ => rfl
  | [], _ :: _, h, _ => nomatch h
  | _ :: _, [], h, _ => nomatch h
  | (a, b) :: l, (c, d) :: m, h, h' => by
    rw [List.map_cons, List.map_cons] at h h'
    have e1 := (List.cons.inj h).1
    have e2 := (List.cons.inj h').1
    dsimp only at e1 e2
    rw [e1, e2, pair_ext (List.cons.inj h).2 (List.cons.inj h').2]
theorem RA.fl {a b c d : Int} {v : V} (h : RA K A H (flD a b c d) v) : ∃ p, v = .ref p ∧ Rd H p (.dK (flK a b c d)) := by
  rw [flK_eq]
  unfold flD at h
  by_cases e : a = c
  · rw [if_pos e] at h ⊢
    obtain ⟨p, kvs, e1, _, t, e2, r⟩ := h
    have e3 := RAs.ints (ns := [d]) r
    have e4 : kvs = [((.inl a : Key), V.int d)] := pair_ext e2 e3
    exact ⟨p, e1, e4 ▸ t⟩
  · rw [if_neg e] at h ⊢
    obtain ⟨p, kvs, e1, _, t, e2, r⟩ := h
    have e3 := RAs.ints (ns := [b, d]) r
    have e4 : kvs = [((.inl a : Key), V.int b), (.inl c, V.int d)] := pair_ext e2 e3
    exact ⟨p, e1, e4 ▸ t⟩
end
def oGetFl (x : KD) (P : Int → Int → Int → Int → Prop) : Prop := ∃ a b c d, x.2 = flD a b c d ∧ P a b c d
@[irreducible] def xGetFl (x : KD) (P : Int → Int → Int → Int → Prop) : Prop := hid (oGetFl x P)
section
variable {X : Cx} {a b c d k x o : Expr} {fa fb fc fd fk fx fo : PF} {dp apos cpos : Pos}
end
end
end DL

namespace PySem.W
open PySem PySem.Calls PyProof.Rows PySem.Spec PyProof
section
variable {M : Model} {A : Around} {s : Shared}
end
section
variable {prog : Program} {w : World} {A : Around} {E : Value → Shared → Prop} {s : Shared}
end
end PySem.W

namespace PySem.W
open PySem PySem.Calls PyProof.Rows PyProof.V PySem.Spec
section
variable {prog : Program} {w : World} {K : Type} [DecidableEq K] {knd : HeapKind prog w K} {A : Around} {E : Value → Shared → Prop} {s : Shared}
inductive HitsH {K : Type} [DecidableEq K] (prog : Program) (w : World) (A : Around) (s : Shared) (kb : List (K × Addr × Value)) : List (K × Addr × Value) → Bool → Prop
  | nil : HitsH prog w A s kb [] true
  | miss {k : K} {v : Addr × Value} {r : List (K × Addr × Value)} : atKey kb k = none → HitsH prog w A s kb ((k, v) :: r) false
  | hit {k : K} {v y : Addr × Value} {r : List (K × Addr × Value)} {e b : Bool} : atKey kb k = some y → SeqAt.EqP prog w A s v.2 y.2 e → HitsH prog w A s kb r b → HitsH prog w A s kb ((k, v) :: r) (e && b)
theorem HitsH.inv {kb : List (K × Addr × Value)} {k : K} {v : Addr × Value} {r : List (K × Addr × Value)} {b : Bool} (h : HitsH prog w A s kb ((k, v) :: r) b) :
    (atKey kb k = none ∧ b = false) ∨ ∃ y e b', atKey kb k = some y ∧ SeqAt.EqP prog w A s v.2 y.2 e ∧ HitsH prog w A s kb r b' ∧ b = (e && b') := by
  cases h with
  | miss hn => exact .inl ⟨hn, rfl⟩
  | hit hy he hr => exact .inr ⟨_, _, _, hy, he, hr, rfl⟩
end
end PySem.W
namespace DL
open PySem PySem.Spec PyProof PyProof.Rows L2
section
variable {prog : Program} {w : World} {A : Around} {s : Shared} {H : Hp}
end
section
variable {X : Cx}
end
end DL

namespace PySem.W
open PySem PySem.Calls PyProof.Rows PySem.Spec PyProof
section
variable {prog : Program} {w : World} {A : Around} {E : Value → Shared → Prop} {s : Shared} {β : Type}
end
end PySem.W
namespace DL
open PySem PySem.Spec PyProof PyProof.Rows L2
open PySem.W (EachIs)
noncomputable section
end
end DL

namespace PySem.W
open PySem PySem.Calls PyProof.Rows PySem.Spec PyProof
section
variable {prog : Program} {w : World} {K : Type} [DecidableEq K] {knd : HeapKind prog w K} {A : Around} {E : Value → Shared → Prop} {s : Shared}
end
end PySem.W
namespace DL
open PySem PySem.Spec PyProof PyProof.Rows L2
open PySem.W (EachIs)
noncomputable section
section
variable {X : Cx}
end
end
end DL

namespace DL
open PySem PySem.Spec PyProof PyProof.Rows L2
noncomputable section
section
variable {X : Cx} {CX : CXT} {E : XK} {k n : Nat} {f : Addr} {ps : List Str} {c : CF} {ms : List Bool} {x : Str} {p pos : Pos} {e : Expr} {es : List Expr} {C : Str} {g : AEF}
end
end
end DL

namespace DL
open PySem PySem.Spec PyProof PyProof.Rows L2
noncomputable section
theorem VR.key {K : Frg} {A : Addr → Prop} {H : Hp} {kz : Kd} {ns : List Int} {v : V} {f : List Addr} (h : VR K A H (kz, .key ns) v f) : ∃ b, v = .ref b ∧ H b = some (.tup (ns.map V.int)) :=
  (h.ra (B := fun _ => True) (fun _ _ => trivial) (fun _ _ => trivial) : RA K (fun _ => True) H (.key ns) v)
section
variable {X : Cx} {E : XK} {o e : Expr} {es : List Expr} {n : Nat} {name : Str} {apos cpos : Pos} {id : String} {r : V → List V → Hp → VK → Prop} {op : MOF}
variable {pl : PLF} {gp : PAF}
end
end
end DL

namespace DL
open PySem PySem.Spec PyProof PyProof.Rows L2
noncomputable section
section
variable {X : Cx} {E : XK} {pos : Pos}
end
end
end DL

namespace DL
open PySem PySem.Spec PyProof PyProof.Rows L2
open PySem.W (EachIs)
noncomputable section
end
end DL

namespace DL
open PySem PySem.Spec PyProof PyProof.Rows L2
noncomputable section
section
variable {K : Frg} {A B : Addr → Prop} {H H' : Hp}
def preV (σ : L2.St) : List Nat → List V → Prop
  | [], vs => vs = []
  | j :: r, vs => ∃ v ws, vs = v :: ws ∧ σ[j]? = some (some v) ∧ preV σ r ws
theorem preV.avs {σ : L2.St} {avs : List AV} {ws : List V} {f : List Addr} (t : AVs K A H σ avs ws f) : ∀ {pre : List Nat} {vs : List V}, preV σ pre vs → AVs K A H σ (pre.map .pl ++ avs) (vs ++ ws) f
  | [], _, h => by subst h; exact t
  | j :: r, _, ⟨v, us, e, h, h'⟩ => by subst e; exact ⟨v, us ++ ws, rfl, h, preV.avs t h'⟩
end
section
variable {X : Cx} {E : XK} {CX : CXT} {k m n : Nat} {f : Addr} {ps : List Str} {c : CF} {ms : List Bool} {x : Str} {p pos apos : Pos} {e o : Expr} {es : List Expr} {post : AEF} {pl : PLF} {C : Str} {NS : List Str} {plA : Sem Bool} {mth : Str}
end
end
end DL

namespace DL
open PySem PySem.Spec PyProof PyProof.Rows L2
noncomputable section
def ESoundW (K : Frg) (W : WX) (t : TE) (f : EF) : Prop := ∀ (σ : L2.St) (H : Hp) (A : Addr → Prop) (ρ : Ro) (ow : List Addr) (Q : VK) (P : KD → Ro → Prop) (PX : Str → Ro → Prop), Good K A H ρ σ ow → f ρ P PX →
  (∀ z ρ' v H' fp ow' A', P z ρ' → Stp H ow A H' (fp ++ ow') A' → Good K A' H' ρ' σ ow' → Own K A' H' z v fp ow' → Q v H') →
  (∀ C ρ' H' ow' A', PX C ρ' → Stp H ow A H' ow' A' → Good K A' H' ρ' σ ow' → W (.ref (He.ga K C)) none σ H') → t σ H Q
structure DEW (X : Cx) (W : WX) (e : Expr) (f : EF) : Prop where
  run : ∃ t, PE X e t ∧ ESoundW X.K W t f
section
variable {X : Cx} {W : WX} {pr : List Nat} {k n : Nat} {f : Addr} {ps : List Str} {ms : List Bool} {c : CF} {g : AEF} {x m : Str} {p pos epos apos : Pos} {e : Expr} {es : List Expr} {C : Str} {NS : List Str} {pl : Sem Bool} {ef : EF}
end
section
variable {X : Cx} {CX : CXT} {E : XK} {k : Nat} {f : Addr} {ps : List Str} {c : CF} {x : Str} {p pos : Pos} {C : Str}
end
end
end DL

namespace DL
open PySem PySem.Spec PyProof PyProof.Rows L2
noncomputable section
structure TabK (K : PySem.W.Frag) (w : World) (x : Str) (kvs : List (Str × Int)) : Prop where
  d : ∃ es n, KDict K w (He.ga K x) es n
  no : ∀ z, kvs.lookup z = none → PySem.W.nsIn K (He.ga K x) z = some none
  yes : ∀ z i, kvs.lookup z = some i → ∃ t, PySem.W.nsIn K (He.ga K x) z = some (some (.int i t))
section
variable {X : Cx} {x : Str} {kvs : List (Str × Int)}
end
section
variable {X : Cx} {o e f : Expr} {td ty tx : TE} {apos cpos : Pos} {d : Addr} {es : Array DictEntry} {n : Nat}
end
section
variable {X : Cx} {a b k x : Expr} {fa fb fk fx : PF} {dp apos cpos : Pos}
end
end
end DL

namespace DL
open PySem PySem.Spec PyProof PyProof.Rows L2
noncomputable section
end
end DL

namespace DL
open PySem PySem.Spec PyProof PyProof.Rows L2
noncomputable section
section
variable {X : Cx} {E : XK} {pr : List Nat} {pos : Pos}
end
end
end DL

namespace DL
open PySem PySem.Spec PyProof PyProof.Rows L2
section
variable {prog : Program} {w : World} {A : Around} {E : Value → Shared → Prop} {s : Shared}
end
noncomputable section
section
variable {X : Cx} {pos : Pos}
end
end
end DL

namespace DL
open PySem PySem.Spec PyProof PyProof.Rows L2 HT
noncomputable section
section
variable {K : Frg} {B F : Addr → Prop} {H : Hp}
end
section
variable {X : Cx} {pos : Pos} {es : List Expr}
end
end
end DL

namespace DL
open PySem PySem.Spec PyProof PyProof.Rows L2
noncomputable section
end
end DL

namespace DL
open PySem PySem.Spec PyProof PyProof.Rows L2
section
variable {X : Cx} {tg e : Expr} {td : TE} {apos cpos : Pos}
end
end DL
namespace DL
open PySem PySem.Spec PyProof PyProof.Rows L2
def nonR (ρ : Ro) : Ro := ρ.map fun _ => none
theorem RepS.non {K : Frg} {A : Addr → Prop} {H : Hp} : ∀ {ρ : Ro} {σ : L2.St}, σ.length = ρ.length → RepS K A H (nonR ρ) σ []
  | [], [], _ => ⟨rfl, rfl⟩
  | [], _ :: _, h => by cases h
  | _ :: _, [], h => by cases h
  | s :: ρ, x :: σ, h => ⟨x, σ, [], [], rfl, rfl, rfl, RepS.non (Nat.succ.inj h)⟩
noncomputable section
end
section
variable {X : Cx}
end
end DL

namespace DL
open PySem PySem.W PySem.Calls PySem.Spec PyProof PyProof.Rows L2 HandSHeadRun
noncomputable section
end
end DL

namespace DL
open PySem PySem.Spec PyProof PyProof.Rows L2
noncomputable section
def gaV (K : PySem.W.Frag) (cs : List Str) : List V := cs.map fun C => V.ref (He.ga K C)
structure PCls (X : Cx) (es : List Expr) (cs : List Str) : Prop where
  run : ∃ t, PA X es t ∧ ∀ σ H Q, Q (gaV X.K cs) H → t σ H Q
end
end DL

namespace DL
open PySem PySem.Spec PyProof PyProof.Rows L2
noncomputable section
end
end DL

namespace DL
open PySem PySem.Spec PyProof PyProof.Rows L2
noncomputable section
end
end DL

namespace DL
open PySem PySem.Spec PyProof PyProof.Rows L2
noncomputable section
abbrev XD : Type := List (Str × Int)
section
variable {K : Frg} {A : Addr → Prop} {H : Hp} {kvs : XD} {v : V} {fp : List Addr}
end
section
variable {X : Cx}
end
section
variable {X : Cx} {E : XK} {pr : List Nat} {pos : Pos}
end
end
end DL

namespace DL
open PySem PySem.Spec PyProof PyProof.Rows L2
noncomputable section
end
end DL

namespace DL
open PySem PySem.Spec PyProof PyProof.Rows L2
noncomputable section
end
end DL

namespace DL
open PySem PySem.Spec PyProof PyProof.Rows L2
noncomputable section
end
end DL

namespace PySem.SeqAt
open PySem PySem.Spec PyProof PyProof.Rows
open MeetsSeq
end PySem.SeqAt
namespace DL
open PySem PySem.Spec PyProof PyProof.Rows L2
noncomputable section
section
variable {X : Cx} {pos : Pos}
end
end
end DL

namespace DL
open PySem PySem.Spec PyProof PyProof.Rows L2
noncomputable section
section
variable {K : Frg} {A : Addr → Prop} {H : Hp} {ρ : Ro} {σ : L2.St} {ow : List Addr} {i : Nat} {k : Kd} {rb : D → D} {w : V} {ds : List D} {n : Nat} {c : D}
theorem PlAt.step (p : PlAt K A H ρ σ ow i k (.lst ds) rb w) (hc : ds[n]? = some c) :
    ∃ q vs w', w = .ref q ∧ H q = some (.lst vs) ∧ vs.length = ds.length ∧ vs[n]? = some w' ∧ PlAt K A H ρ σ ow i .ow c (fun c' => rb (.lst (ds.set n c'))) w' := by
  obtain ⟨d, v0, g1, fs, g2, fe, e1, e2, z, hsh, put⟩ := p
  obtain ⟨p, vs, w', fc, ev, hp, hl, hw, z'⟩ := z.step_lst hc
  exact ⟨p, vs, w', ev, hp, hl, hw, d, v0, g1, fs, g2, fc, e1, e2, z', (fun h => nomatch h), put⟩
end
section
variable {X : Cx} {E : XK} {pr : List Nat} {pos : Pos}
end
end
end DL

namespace DL
open PySem PySem.Spec PyProof PyProof.Rows L2
noncomputable section
section
variable {X : Cx} {pos : Pos}
end
end
end DL

namespace DL
open PySem PySem.Spec PyProof PyProof.Rows L2
noncomputable section
def smallO : Option Int → Bool
  | none => true
  | some i => decide (i.natAbs < 10 ^ 70)
mutual
def D.wM : D → Bool
  | .non => true
  | .bl _ => true
  | .int i => decide (i.natAbs < 10 ^ 70)
  | .str x => decide (x = "1") || decide (x = "0") || decide (x = "job") || decide (x = "")
  | .tup ds => D.wMs ds
  | .kst ds => D.wMs ds
  | .dcL kvs => kvs.all fun x => smallO x.1 && smallO x.2
  | _ => false
def D.wMs : List D → Bool
  | [] => true
  | d :: ds => d.wM && D.wMs ds
end
mutual
def D.sM : D → Nat
  | .non => 4
  | .bl _ => 5
  | .int _ => 71
  | .str _ => 8
  | .tup ds => D.sMs ds + 3
  | .kst ds => D.sMs ds + 3
  | .dcL kvs => 200 * kvs.length + 3
  | _ => 0
def D.sMs : List D → Nat
  | [] => 0
  | d :: ds => d.sM + 2 + D.sMs ds
end
mutual
def D.hM : D → Nat
  | .tup ds => D.hMs ds + 1
  | .kst ds => D.hMs ds + 1
  | .dcL _ => 2
  | _ => 1
def D.hMs : List D → Nat
  | [] => 0
  | d :: ds => max d.hM (D.hMs ds)
end
theorem imP_len {o : Option Int} (h : smallO o = true) : (imP o).shown.length ≤ 71 := by
  cases o with
  | none => decide
  | some i => exact shown_int_len (of_decide_eq_true h)
theorem imP_show {o : Option Int} (h : smallO o = true) : (imP o).showable = true := by
  cases o with
  | none => rfl
  | some i => exact decide_eq_true (log_ok (of_decide_eq_true h))
theorem imP_depth {o : Option Int} : (imP o).depth = 0 := by cases o <;> rfl
theorem kv_ok : ∀ kvs : List (Option Int × Option Int), (kvs.all fun x => smallO x.1 && smallO x.2) = true →
    PyData.showableKv (kvs.map fun x => (imP x.1, imP x.2)) = true ∧ ((PyData.shownKv (kvs.map fun x => (imP x.1, imP x.2))).map (·.length)).sum + 2 * (PyData.shownKv (kvs.map fun x => (imP x.1, imP x.2))).length ≤ 200 * kvs.length ∧ PyData.depthKv (kvs.map fun x => (imP x.1, imP x.2)) = 0
  | [], _ => ⟨rfl, Nat.le_refl _, rfl⟩
  | x :: kvs, h => by
    have h' := Bool.and_eq_true_iff.mp (show ((smallO x.1 && smallO x.2) && kvs.all fun x => smallO x.1 && smallO x.2) = true from h)
    obtain ⟨a1, a2⟩ := Bool.and_eq_true_iff.mp h'.1
    obtain ⟨b1, b2, b3⟩ := kv_ok kvs h'.2
    have l1 := imP_len a1
    have l2 := imP_len a2
    refine ⟨?_, ?_, ?_⟩
    · show ((imP x.1).showable && (imP x.2).showable && PyData.showableKv (kvs.map fun x => (imP x.1, imP x.2))) = true
      rw [imP_show a1, imP_show a2, b1]; rfl
    · show (List.map (·.length) (((imP x.1).shown ++ ": " ++ (imP x.2).shown) :: PyData.shownKv (kvs.map fun x => (imP x.1, imP x.2)))).sum + 2 * (((imP x.1).shown ++ ": " ++ (imP x.2).shown) :: PyData.shownKv (kvs.map fun x => (imP x.1, imP x.2))).length ≤ 200 * (x :: kvs).length
      rw [List.map_cons, List.sum_cons, List.length_cons, List.length_cons, strLen_append, strLen_append]
      have e : (": " : Str).length = 2 := by decide
      omega
    · show max (max (imP x.1).depth (imP x.2).depth) (PyData.depthKv (kvs.map fun x => (imP x.1, imP x.2))) = 0
      rw [imP_depth, imP_depth, b3]; rfl
mutual
theorem D.wM_ok : ∀ d : D, d.wM = true → d.toP.showable = true ∧ d.toP.shown.length ≤ d.sM ∧ d.toP.depth ≤ d.hM
  | .non, _ => ⟨rfl, by decide, by decide⟩
  | .bl b, _ => ⟨rfl, by cases b <;> decide, by cases b <;> decide⟩
  | .int i, h => ⟨decide_eq_true (log_ok (of_decide_eq_true h)), shown_int_len (of_decide_eq_true h), Nat.zero_le _⟩
  | .str x, h => by
    have h' : ((x = "1" ∨ x = "0") ∨ x = "job") ∨ x = "" := by
      have h : (decide (x = "1") || decide (x = "0") || decide (x = "job") || decide (x = "")) = true := h
      rw [Bool.or_eq_true, Bool.or_eq_true, Bool.or_eq_true, decide_eq_true_iff, decide_eq_true_iff, decide_eq_true_iff, decide_eq_true_iff] at h
      exact h
    refine ⟨rfl, ?_, Nat.zero_le _⟩
    rcases h' with ((rfl | rfl) | rfl) | rfl <;> decide +kernel
  | .tup ds, h => by
    obtain ⟨a, b, c⟩ := D.wMs_ok ds h
    exact ⟨a, Nat.le_trans (tupleText_len_le _) (Nat.add_le_add_right b 3), Nat.succ_le_succ c⟩
  | .kst ds, h => by
    obtain ⟨a, b, c⟩ := D.wMs_ok ds h
    exact ⟨a, Nat.le_trans (listText_len_le _) (Nat.add_le_add_right b 3), Nat.succ_le_succ c⟩
  | .dcL kvs, h => by
    obtain ⟨a, b, c⟩ := kv_ok kvs h
    refine ⟨a, Nat.le_trans (dictText_len_le _) (Nat.add_le_add_right b 3), ?_⟩
    show PyData.depthKv (kvs.map fun x => (imP x.1, imP x.2)) + 1 ≤ 2
    rw [c]; decide
  | .lst _, h => by cases h
  | .dcT _ _, h => by cases h
  | .dcK _ _, h => by cases h
  | .obj _ _ _, h => by cases h
  | .frz _, h => by cases h
  | .fn _, h => by cases h
  | .ad _, h => by cases h
  | .lsA _ _, h => by cases h
  | .key _, h => by cases h
  | .tpx _, h => by cases h
  | .exn _, h => by cases h
  | .lkT _, h => by cases h
  | .any, h => by cases h
  | .dcN _, h => by cases h
theorem D.wMs_ok : ∀ ds : List D, D.wMs ds = true → PyData.showableAll (D.toPs ds) = true ∧ ((PyData.shownAll (D.toPs ds)).map (·.length)).sum + 2 * (PyData.shownAll (D.toPs ds)).length ≤ D.sMs ds ∧ PyData.depthAll (D.toPs ds) ≤ D.hMs ds
  | [], _ => ⟨rfl, Nat.le_refl _, Nat.le_refl _⟩
  | d :: ds, h => by
    have h' := Bool.and_eq_true_iff.mp (show (d.wM && D.wMs ds) = true from h)
    obtain ⟨a, b, c⟩ := D.wM_ok d h'.1
    obtain ⟨a', b', c'⟩ := D.wMs_ok ds h'.2
    refine ⟨?_, ?_, ?_⟩
    · show (d.toP.showable && PyData.showableAll (D.toPs ds)) = true
      rw [a, a']; rfl
    · show (List.map (·.length) (d.toP.shown :: PyData.shownAll (D.toPs ds))).sum + 2 * (d.toP.shown :: PyData.shownAll (D.toPs ds)).length ≤ d.sM + 2 + D.sMs ds
      rw [List.map_cons, List.sum_cons, List.length_cons]
      omega
    · show max d.toP.depth (PyData.depthAll (D.toPs ds)) ≤ max d.hM (D.hMs ds)
      omega
end
section
variable {X : Cx} {pins : List (Addr × Obj)} {σ : L2.St} {H : Hp} {s : Shared}
theorem imv_reads {h : Heap} {o : Option Int} {u : Value} (e : ImV o u) : Reads h u (imP o) [] := by
  cases o with
  | none => rw [show u = .none from e]; exact Reads.none
  | some i => obtain ⟨t, rfl⟩ := e; exact Reads.int i t
theorem dce_reads {h : Heap} : ∀ {kvs : List (Option Int × Option Int)} {es : List DictEntry}, DcE kvs es → ReadsAll h (es.map (·.key)) ((kvs.map fun x => (imP x.1, imP x.2)).map (·.1)) [] ∧ ReadsAll h (es.map (·.val)) ((kvs.map fun x => (imP x.1, imP x.2)).map (·.2)) []
  | [], es, e => by rw [show es = [] from e]; exact ⟨.nil, .nil⟩
  | kv :: kvs, _, ⟨e, r, rfl, hk, hv, t⟩ => ⟨ReadsAll.cons (imv_reads hk) (dce_reads t).1, ReadsAll.cons (imv_reads hv) (dce_reads t).2⟩
theorem dict_pieces {prog : Program} {w : World} {h₀ : Heap} {a : Addr} {o : Obj} {es : Array DictEntry} {n : Nat} (L : List (PyData × PyData)) (h1 : h₀.get? a = some o) (h2 : o.cls = .type "dict") (h3 : o.data = .dict es n) (hs : (a == sysModules) = false)
    (h4 : ReadsAll h₀ (es.toList.map (·.key)) (L.map (·.1)) []) (h5 : ReadsAll h₀ (es.toList.map (·.val)) (L.map (·.2)) []) (w1 : PyData.showableKv L = true) (z : (dictText (PyData.shownKv L)).length ≤ sizeLine) :
    (∃ as, Reads h₀ (.ref a) (.dict L) as) ∧ ∃ bs, ReadAtMost h₀ (PyData.depthKv L + 1) (a :: bs) ∧ a ∉ bs ∧ ReprEntriesK prog w bs h₀ (PyData.depthKv L) es.toList (PyData.shownKv L) := by
  obtain ⟨hs1, hs2⟩ := PyData.showableKv_split L w1
  obtain ⟨b1, hb1, k1⟩ := ReprAllK.of_readsAll (prog := prog) (w := w) h4 hs1 (fun _ => List.not_mem_nil) (fun t ht => let ⟨p, hp, hl⟩ := PyData.shownKv_key_le L t ht; Nat.le_trans hl (Nat.le_trans (dictText_mem_le hp) z))
  obtain ⟨b2, hb2, k2⟩ := ReprAllK.of_readsAll (prog := prog) (w := w) h5 hs2 (fun _ => List.not_mem_nil) (fun t ht => let ⟨p, hp, hl⟩ := PyData.shownKv_val_le L t ht; Nat.le_trans hl (Nat.le_trans (dictText_mem_le hp) z))
  have r : Reads h₀ (.ref a) (.dict L) _ := .dict h1 h2 h3 h4 h5
  have hb : ReadAtMost h₀ (PyData.depthKv L) (b1 ++ b2) := (hb1.mono (PyData.depthAll_keys_le L)).append (hb2.mono (PyData.depthAll_vals_le L))
  have hd : (PyData.dict L).depth = PyData.depthKv L + 1 := by simp only [PyData.depth]
  have hna : a ∉ b1 ++ b2 := not_mem_of_deeper r (by rw [hd]; omega) hb
  refine ⟨⟨_, r⟩, b1 ++ b2, ?_, hna, ?_⟩
  · rw [← hd]
    exact ReadAtMost.cons r (by rw [hd]; omega) hb
  · rw [PyData.shownKv_eq]
    exact ReprEntriesK.of_two es.toList _ _ (k1.more_le (fun b hb => List.mem_append_left _ hb) (PyData.depthAll_keys_le L)) (k2.more_le (fun b hb => List.mem_append_right _ hb) (PyData.depthAll_vals_le L))
mutual
theorem RA.repM {A : Addr → Prop} (I : Inv X pins σ H s) : ∀ (d : D) (v : V) (u : Value), RA X.K A H d v → RelV v u → d.wM = true → d.toP.shown.length ≤ sizeLine → (∃ as, Reads s.heap u d.toP as) ∧ ∃ bs, ReadAtMost s.heap d.toP.depth bs ∧ ReprK X.prog X.w bs s.heap d.toP.depth u d.toP.shown
  | .non, _, _, h, r, _, _ => by
    rw [show _ = V.non from h] at r
    cases (show _ = Value.none from r)
    exact ⟨⟨_, Reads.none⟩, [], (fun _ h => nomatch h), .of_is ReprIs.none _ _ _⟩
  | .bl b, _, _, h, r, _, _ => by
    rw [show _ = V.bl b from h] at r
    cases (show _ = Value.bool b from r)
    exact ⟨⟨_, Reads.bool b⟩, [], (fun _ h => nomatch h), .of_is (ReprIs.bool b) _ _ _⟩
  | .int i, _, _, h, r, w, _ => by
    rw [show _ = V.int i from h] at r
    obtain ⟨t, rfl⟩ := r
    exact ⟨⟨_, Reads.int i t⟩, [], (fun _ h => nomatch h), .of_is (ReprIs.int t (log_ok (of_decide_eq_true w))) _ _ _⟩
  | .str x, _, _, h, r, _, z => by
    rw [show _ = V.str x from h] at r
    obtain ⟨t, rfl⟩ := r
    exact ⟨⟨_, Reads.str x t⟩, [], (fun _ h => nomatch h), .of_is (ReprIs.str x t z) _ _ _⟩
  | .tup ds, _, _, ⟨p, vs, e, t, ra⟩, r, w, z => by
    subst e
    cases (show _ = Value.ref p from r)
    obtain ⟨its, rv, ⟨o, ho, hc, n, hd⟩, _⟩ := I.tuple t
    obtain ⟨⟨as, hr⟩, bs, hb, hk⟩ := RAs.repM I ds vs its ra rv w (fun t ht => Nat.le_trans (tupleText_mem_le ht) z)
    have rd : Reads s.heap (.ref p) (.tuple (D.toPs ds)) as := Reads.tuple ho hc hd hr
    have hna : p ∉ bs := not_mem_of_deeper rd (Nat.lt_succ_self _) hb
    exact ⟨⟨_, rd⟩, p :: bs, ReadAtMost.cons rd (Nat.le_succ _) hb, ReprK.tuple ho hc hd hna hk⟩
  | .kst ds, _, _, ⟨p, vs, e, t, ra⟩, r, w, z => by
    subst e
    cases (show _ = Value.ref p from r)
    obtain ⟨its, rv, ⟨o, n, ho, hc, _, hd⟩, _⟩ := I.list (kst_seq t)
    obtain ⟨⟨as, hr⟩, bs, hb, hk⟩ := RAs.repM I ds vs its ra rv w (fun t ht => Nat.le_trans (listText_mem_le ht) z)
    have rd : Reads s.heap (.ref p) (.list (D.toPs ds)) (p :: as) := Reads.list ho hc hd hr
    have hna : p ∉ bs := not_mem_of_deeper rd (Nat.lt_succ_self _) hb
    refine ⟨⟨_, rd⟩, p :: bs, ReadAtMost.cons rd (Nat.le_succ _) hb, ?_⟩
    cases its with
    | nil =>
      cases hr' : D.toPs ds with
      | nil =>
        show ReprK _ _ _ _ (PyData.depthAll (D.toPs ds) + 1) _ (listText (PyData.shownAll (D.toPs ds)))
        rw [hr']
        show ReprK _ _ _ _ _ _ (listText [])
        rw [listText_nil]
        exact ReprK.listEmpty ho hc hd
      | cons x xs => rw [hr'] at hr; exact nomatch hr
    | cons x l => exact ReprK.list ho hc hd hna (by simpa using hk.length_eq) (fun i y e => hk.item i y (by simpa using e))
  | .dcL kvs, _, _, ⟨p, o, e, ⟨v, t⟩, hs, hx, es, ep, hd, he⟩, r, w, z => by
    subst e
    cases (show _ = Value.ref p from r)
    have ho : s.heap.get? p = some o := (I.hok p _ t).1
    obtain ⟨r1, r2⟩ := dce_reads (h := s.heap) he
    obtain ⟨rd, bs, hb, hna, hk⟩ := dict_pieces (prog := X.prog) (w := X.w) _ ho hx.1 hd hs r1 r2 (kv_ok kvs w).1 z
    exact ⟨rd, p :: bs, hb, ReprK.dict ho hx.1 hd hs hna hk⟩
  | .lst _, _, _, _, _, h, _ => by cases h
  | .dcT _ _, _, _, _, _, h, _ => by cases h
  | .dcK _ _, _, _, _, _, h, _ => by cases h
  | .obj _ _ _, _, _, _, _, h, _ => by cases h
  | .frz _, _, _, _, _, h, _ => by cases h
  | .fn _, _, _, _, _, h, _ => by cases h
  | .ad _, _, _, _, _, h, _ => by cases h
  | .lsA _ _, _, _, _, _, h, _ => by cases h
  | .key _, _, _, _, _, h, _ => by cases h
  | .tpx _, _, _, _, _, h, _ => by cases h
  | .exn _, _, _, _, _, h, _ => by cases h
  | .lkT _, _, _, _, _, h, _ => by cases h
  | .any, _, _, _, _, h, _ => by cases h
  | .dcN _, _, _, _, _, h, _ => by cases h
theorem RAs.repM {A : Addr → Prop} (I : Inv X pins σ H s) : ∀ (ds : List D) (vs : List V) (us : List Value), RAs X.K A H ds vs → Vals vs us → D.wMs ds = true → (∀ t ∈ PyData.shownAll (D.toPs ds), t.length ≤ sizeLine) → (∃ as, ReadsAll s.heap us (D.toPs ds) as) ∧ ∃ bs, ReadAtMost s.heap (PyData.depthAll (D.toPs ds)) bs ∧ ReprAllK X.prog X.w bs s.heap (PyData.depthAll (D.toPs ds)) us (PyData.shownAll (D.toPs ds))
  | [], _, _, h, r, _, _ => by
    rw [show _ = [] from h] at r
    cases r
    exact ⟨⟨_, ReadsAll.nil⟩, [], (fun _ h => nomatch h), .nil⟩
  | d :: ds, _, _, ⟨w, ws, e, h, t⟩, r, c, z => by
    subst e
    cases r with
    | cons r1 r2 =>
      have c' := Bool.and_eq_true_iff.mp (show (d.wM && D.wMs ds) = true from c)
      obtain ⟨⟨as1, q1⟩, b1, hb1, k1⟩ := RA.repM I d _ _ h r1 c'.1 (z _ (List.mem_cons_self ..))
      obtain ⟨⟨as2, q2⟩, b2, hb2, k2⟩ := RAs.repM I ds _ _ t r2 c'.2 (fun t ht => z t (List.mem_cons_of_mem _ ht))
      refine ⟨⟨_, ReadsAll.cons q1 q2⟩, b1 ++ b2, ?_, ?_⟩
      · intro b hm
        show ∃ d' as, Reads s.heap (.ref b) d' as ∧ d'.depth ≤ max d.toP.depth (PyData.depthAll (D.toPs ds))
        rcases List.mem_append.mp hm with hm | hm
        · obtain ⟨d', as', r', hd'⟩ := hb1 b hm
          exact ⟨d', as', r', Nat.le_trans hd' (Nat.le_max_left _ _)⟩
        · obtain ⟨d', as', r', hd'⟩ := hb2 b hm
          exact ⟨d', as', r', Nat.le_trans hd' (Nat.le_max_right _ _)⟩
      · exact .cons ((k1.more fun b hb => List.mem_append_left _ hb).level_le (Nat.le_max_left _ _)) (k2.more_le (fun b hb => List.mem_append_right _ hb) (Nat.le_max_right _ _))
theorem RA.showsM {A : Addr → Prop} (I : Inv X pins σ H s) {a : Addr} : ∀ (d : D), RA X.K A H d (.ref a) → d.wM = true → d.toP.shown.length ≤ sizeLine → ∃ T idr, ShowsBy X.prog X.w s.heap a d.toP T idr
  | .non, h, _, _ => nomatch (show V.ref a = V.non from h)
  | .bl b, h, _, _ => nomatch (show V.ref a = V.bl b from h)
  | .int i, h, _, _ => nomatch (show V.ref a = V.int i from h)
  | .str x, h, _, _ => nomatch (show V.ref a = V.str x from h)
  | .tup ds, ⟨p, vs, e, t, ra⟩, w, z => by
    cases e
    obtain ⟨its, rv, ⟨o, ho, hc, n, hd⟩, _⟩ := I.tuple t
    obtain ⟨⟨as, hr⟩, bs, hb, hk⟩ := RAs.repM I ds vs its ra rv w (fun t ht => Nat.le_trans (tupleText_mem_le ht) z)
    have rd : Reads s.heap (.ref a) (.tuple (D.toPs ds)) as := Reads.tuple ho hc hd hr
    have hna : a ∉ bs := not_mem_of_deeper rd (Nat.lt_succ_self _) hb
    exact ⟨"tuple", "tuple.__repr__", F.slot_tuple_repr, F.slot_tuple_str, F.slot_tuple_format, fun s' hk0 => ⟨o, hk0 _ _ ho, hc⟩, fun A' E s' Q hg hu hk0 hQ => call_tuple_reprK ho hc hd hna hk hg (fun b _ => Clear.nil b) hu hk0 hQ z⟩
  | .kst ds, ⟨p, vs, e, t, ra⟩, w, z => by
    cases e
    obtain ⟨its, rv, ⟨o, n, ho, hc, _, hd⟩, _⟩ := I.list (kst_seq t)
    obtain ⟨⟨as, hr⟩, bs, hb, hk⟩ := RAs.repM I ds vs its ra rv w (fun t ht => Nat.le_trans (listText_mem_le ht) z)
    have rd : Reads s.heap (.ref a) (.list (D.toPs ds)) (a :: as) := Reads.list ho hc hd hr
    have hna : a ∉ bs := not_mem_of_deeper rd (Nat.lt_succ_self _) hb
    refine ⟨"list", "list.__repr__", F.slot_list_repr.toG, F.slot_list_str, F.slot_list_format, fun s' hk0 => ⟨o, hk0 _ _ ho, hc⟩, fun A' E s' Q hg hu hk0 hQ => ?_⟩
    have hQ : ∀ h' u tk, (∀ b o, s'.heap.get? b = some o → h'.get? b = some o) → Q (.str (listText (PyData.shownAll (D.toPs ds))) u) { s' with heap := h', toks := tk } := hQ
    cases its with
    | nil =>
      have e : D.toPs ds = [] := by
        cases h0 : D.toPs ds with
        | nil => rfl
        | cons x xs => rw [h0] at hr; exact nomatch hr
      rw [e] at hQ
      simp only [PyData.shownAll, listText_nil] at hQ
      exact call_list_repr_empty ⟨o, hk0 _ _ ho, hc⟩ (hk0 _ _ ho) hd (hQ s'.heap _ _ fun _ _ e => e)
    | cons x l => exact call_list_reprK ho hc hd hna (by simpa using hk.length_eq) (fun i y e => hk.item i y (by simpa using e)) hg (fun b _ => Clear.nil b) hu hk0 hQ z
  | .dcL kvs, ⟨p, o, e, ⟨v, t⟩, hs, hx, es, ep, hd, he⟩, w, z => by
    cases e
    have ho : s.heap.get? a = some o := (I.hok a _ t).1
    obtain ⟨r1, r2⟩ := dce_reads (h := s.heap) he
    obtain ⟨rd, bs, hb, hna, hk⟩ := dict_pieces (prog := X.prog) (w := X.w) _ ho hx.1 hd hs r1 r2 (kv_ok kvs w).1 z
    exact ⟨"dict", "dict.__repr__", F.slot_dict_repr, F.slot_dict_str, F.slot_dict_format, fun s' hk0 => ⟨o, hk0 _ _ ho, hx.1⟩, fun A' E s' Q hg hu hk0 hQ => call_dict_reprK ho hx.1 hd hs hna hk hg (fun b _ => Clear.nil b) hu hk0 hQ z⟩
  | .lst _, _, h, _ => by cases h
  | .dcT _ _, _, h, _ => by cases h
  | .dcK _ _, _, h, _ => by cases h
  | .obj _ _ _, _, h, _ => by cases h
  | .frz _, _, h, _ => by cases h
  | .fn _, _, h, _ => by cases h
  | .ad _, _, h, _ => by cases h
  | .lsA _ _, _, h, _ => by cases h
  | .key _, _, h, _ => by cases h
  | .tpx _, _, h, _ => by cases h
  | .exn _, _, h, _ => by cases h
  | .lkT _, _, h, _ => by cases h
  | .any, _, h, _ => by cases h
  | .dcN _, _, h, _ => by cases h
end
end
def rReprM (K : Frg) : List V → Hp → VK → Prop := fun xs H Q => ∃ (A : Addr → Prop) (d : D) (v : V), xs = [v] ∧ RA K A H d v ∧ d.wM = true ∧ d.hM ≤ 50 ∧ d.sM ≤ 10000000 ∧ Q (.str d.toP.shown) H
theorem RA.kindsM {K : Frg} {A : Addr → Prop} {H : Hp} : ∀ (d : D) (v : V), RA K A H d v → d.wM = true → (∃ a, v = .ref a) ∨ (d = .non ∧ v = .non) ∨ (∃ b, d = .bl b ∧ v = .bl b) ∨ (∃ i, d = .int i ∧ v = .int i) ∨ (∃ x, d = .str x ∧ v = .str x)
  | .non, _, h, _ => .inr (.inl ⟨rfl, h⟩)
  | .bl b, _, h, _ => .inr (.inr (.inl ⟨b, rfl, h⟩))
  | .int i, _, h, _ => .inr (.inr (.inr (.inl ⟨i, rfl, h⟩)))
  | .str x, _, h, _ => .inr (.inr (.inr (.inr ⟨x, rfl, h⟩)))
  | .tup ds, _, ⟨p, vs, e, _⟩, _ => .inl ⟨p, e⟩
  | .kst ds, _, ⟨p, vs, e, _⟩, _ => .inl ⟨p, e⟩
  | .dcL kvs, _, ⟨p, o, e, _⟩, _ => .inl ⟨p, e⟩
  | .lst _, _, _, h => by cases h
  | .dcT _ _, _, _, h => by cases h
  | .dcK _ _, _, _, h => by cases h
  | .obj _ _ _, _, _, h => by cases h
  | .frz _, _, _, h => by cases h
  | .fn _, _, _, h => by cases h
  | .ad _, _, _, h => by cases h
  | .lsA _ _, _, _, h => by cases h
  | .key _, _, _, h => by cases h
  | .tpx _, _, _, h => by cases h
  | .exn _, _, _, h => by cases h
  | .lkT _, _, _, h => by cases h
  | .any, _, _, h => by cases h
  | .dcN _, _, _, h => by cases h
theorem call_reprM {X : Cx} {k : Nat} (hr : RoomG k X.A) : CallR X (.builtin "repr") (rReprM X.K) := by
  intro pins s σ H xs us Q I hv h
  obtain ⟨A, d, v, rfl, ra, w, hh, hs, q⟩ := h
  obtain ⟨u, rfl, hu⟩ : ∃ u, us = [u] ∧ L2.RelV v u := by
    cases hv with
    | cons r t => cases t; exact ⟨_, rfl, r⟩
  obtain ⟨w1, w2, w3⟩ := D.wM_ok d w
  have z : d.toP.shown.length ≤ sizeLine := sz7 (Nat.le_trans w2 hs)
  have un := hr.units
  rcases RA.kindsM d v ra w with ⟨a, rfl⟩ | ⟨rfl, rfl⟩ | ⟨b, rfl, rfl⟩ | ⟨i, rfl, rfl⟩ | ⟨x, rfl, rfl⟩
  · have hu : u = .ref a := hu
    subst hu
    obtain ⟨T, idr, S⟩ := RA.showsM I d ra w z
    exact call_repr_slot (by omega) (S.typeIs s fun _ _ e => e) S.slotRepr (S.call X.A.in1 _ s _ hr.free (by show X.A.units + 1 + d.toP.depth < cLine; omega) (fun _ _ e => e) fun h' u tk ext => ⟨_, _, rfl, ⟨.str d.toP.shown, H, I.kept ext, ⟨u, rfl⟩, q⟩⟩)
  · have hu : u = .none := hu
    subst hu
    exact P.repr_of_none ⟨.str "None", H, I.tok _, ⟨_, rfl⟩, q⟩
  · have hu : u = .bool b := hu
    subst hu
    exact P.repr_of_bool ⟨.str _, H, I.tok _, ⟨_, rfl⟩, q⟩
  · obtain ⟨t, rfl⟩ := hu
    exact P.repr_of_int (log_ok (of_decide_eq_true w)) ⟨.str _, H, I.tok _, ⟨_, rfl⟩, q⟩
  · obtain ⟨t, rfl⟩ := hu
    exact P.repr_of_str ⟨.str _, H, I.tok _, ⟨_, rfl⟩, q⟩ z
def D.okM (d : D) : Prop := d.wM = true ∧ d.sM ≤ 10000000 ∧ d.hM ≤ 50
def oReprM : List KD → (KD → Prop) → Prop := fun zs P => match zs with
  | [(_, d)] => d.okM ∧ P (.fl, .str d.toP.shown)
  | _ => False
theorem cs_reprM {K : Frg} : CallS K (rReprM K) oReprM := by
  intro B F H vs xs P Q pr hF h q
  unfold oReprM at h
  split at h
  · rename_i k d
    obtain ⟨⟨hw, hz, hh⟩, hP⟩ := h
    obtain ⟨v, ev, p⟩ := pr.get1
    subst ev
    exact ⟨_, d, v, rfl, p.ra, hw, hh, hz, q _ _ H hP (Same.refl H) .str⟩
  · exact h.elim
end
end DL

namespace PySem
open Sem (wp)
open SeqAt
end PySem
namespace DL
open PySem PySem.Spec PyProof PyProof.Rows L2
noncomputable section
end
end DL

namespace DL
open PySem PySem.Spec PyProof PyProof.Rows L2
noncomputable section
section
variable {X : Cx} {pins : List (Addr × Obj)} {σ : L2.St} {H : Hp} {s : Shared}
mutual
theorem nk_is (I : Inv X pins σ H s) : ∀ (k : NestedKey) (v : V) (u : Value), NkV X.K H k v → RelV v u → NestedIs s.heap k u
  | .num i, _, _, h, r => by
    rw [show _ = V.int i from h] at r
    obtain ⟨t, rfl⟩ := r
    exact .int i t
  | .tup ks, _, _, ⟨a, vs, e, t, hk⟩, r => by
    subst e
    cases (show _ = Value.ref a from r)
    obtain ⟨its, rv, ⟨o, ho, hc, n, hd⟩, _⟩ := I.tuple t
    exact .tup ho hc hd (nks_is I ks vs its hk rv)
  | .none, _, _, h, _ => h.elim
  | .text _, _, _, h, _ => h.elim
theorem nks_is (I : Inv X pins σ H s) : ∀ (ks : List NestedKey) (vs : List V) (us : List Value), NkVs X.K H ks vs → Vals vs us → NestedAll s.heap ks us
  | [], _, _, h, r => by
    rw [show _ = [] from h] at r
    cases r
    exact .nil
  | k :: ks, _, _, ⟨w, ws, e, h, t⟩, r => by
    subst e
    cases r with
    | cons r1 r2 => exact .cons (nk_is I k _ _ h r1) (nks_is I ks _ _ t r2)
end
def RelX : List (NestedKey × V) → List Addr → List (NestedKey × Addr × Value) → Prop
  | [], as, xs => as = [] ∧ xs = []
  | kv :: kvs, as, xs => ∃ a r x q, as = a :: r ∧ xs = (kv.1, a, x) :: q ∧ RelV kv.2 x ∧ RelX kvs r q
theorem ent_x {prog : Program} {w : World} : ∀ {kvs : List (NestedKey × V)} {as : List Addr} {es : List DictEntry}, EntN kvs as es → ∃ xs, RelX kvs as xs ∧ es = xs.map (entryOfKey (nestedKind prog w))
  | [], _, _, ⟨e, e2⟩ => ⟨[], ⟨e, rfl⟩, e2⟩
  | kv :: kvs, _, _, ⟨a, r, e, q, ea, ee, hh, hk, hv, t⟩ => by
    obtain ⟨xs, h1, h2⟩ := ent_x (prog := prog) (w := w) t
    refine ⟨(kv.1, a, e.val) :: xs, ⟨a, r, _, xs, ea, rfl, hv, h1⟩, ?_⟩
    rw [ee, h2, List.map_cons]
    congr 1
    obtain ⟨h0, k0, v0⟩ := e
    have hh' : h0 = kv.1.hash w := hh w
    have hk' : k0 = .ref a := hk
    rw [hh', hk']
    rfl
theorem relX_keys : ∀ {kvs : List (NestedKey × V)} {as : List Addr} {xs : List (NestedKey × Addr × Value)}, RelX kvs as xs → xs.map (·.1) = kvs.map (·.1) ∧ xs.length = kvs.length
  | [], _, _, ⟨_, e⟩ => by rw [e]; exact ⟨rfl, rfl⟩
  | kv :: kvs, _, _, ⟨a, r, x, q, _, e, _, t⟩ => by
    obtain ⟨h1, h2⟩ := relX_keys t
    rw [e]
    exact ⟨by rw [List.map_cons, List.map_cons, h1], by rw [List.length_cons, List.length_cons, h2]⟩
theorem relX_is (I : Inv X pins σ H s) : ∀ {kvs : List (NestedKey × V)} {as : List Addr} {xs : List (NestedKey × Addr × Value)}, RelX kvs as xs → NkA X.K H kvs as → ∀ x ∈ xs, (nestedKind X.prog X.w).is s.heap x.1 x.2.1
  | [], _, _, ⟨_, e⟩, _, x, hx => by rw [e] at hx; exact nomatch hx
  | kv :: kvs, _, _, ⟨a, r, y, q, ea, e, _, t⟩, ⟨a', r', ea', ⟨hk, hd⟩, hA⟩, x, hx => by
    rw [ea] at ea'
    obtain ⟨rfl, rfl⟩ := List.cons.inj ea'
    rw [e] at hx
    rcases List.mem_cons.mp hx with rfl | hx
    · exact ⟨nk_is I _ _ _ hk rfl, hd⟩
    · exact relX_is I t hA x hx
theorem raw_of (I : Inv X pins σ H s) {p : Addr} {kvs : List (NestedKey × V)} {as : List Addr} (hp : H p = some (.ext (RawN p kvs as))) (ha : NkA X.K H kvs as) :
    ∃ xs, RelX kvs as xs ∧ s.heap.DictOfH (nestedKind X.prog X.w) p xs ∧ (p == sysModules) = false := by
  obtain ⟨⟨o, es, ep, ho, hs, hx, hd, he, hn⟩, _⟩ := I.hok p _ hp
  obtain ⟨xs, h1, h2⟩ := ent_x (prog := X.prog) (w := X.w) he
  exact ⟨xs, h1, ⟨o, es, ep, ho, hx, hd, h2, relX_is I h1 ha, by rw [(relX_keys h1).1]; exact hn⟩, hs⟩
mutual
theorem nk_hash {K : Frg} {H : Hp} {w w' : World} : ∀ (k : NestedKey) (v : V), NkV K H k v → k.hash w = k.hash w'
  | .num i, _, _ => rfl
  | .tup ks, _, ⟨a, vs, e, t, hk⟩ => by
    show reduceHash (Builtin.Tuple.tupleHashOf (NestedKey.hashes w ks)) = reduceHash (Builtin.Tuple.tupleHashOf (NestedKey.hashes w' ks))
    rw [nks_hash (w := w) (w' := w') ks vs hk]
  | .none, _, h => h.elim
  | .text _, _, h => h.elim
theorem nks_hash {K : Frg} {H : Hp} {w w' : World} : ∀ (ks : List NestedKey) (vs : List V), NkVs K H ks vs → NestedKey.hashes w ks = NestedKey.hashes w' ks
  | [], _, _ => rfl
  | k :: ks, _, ⟨x, xs, e, h, t⟩ => by
    show k.hash w :: NestedKey.hashes w ks = k.hash w' :: NestedKey.hashes w' ks
    rw [nk_hash (w := w) (w' := w') k x h, nks_hash (w := w) (w' := w') ks xs t]
end
theorem x_ent {K : Frg} {prog : Program} {w : World} : ∀ {kvs : List (NestedKey × V)} {as : List Addr} {xs : List (NestedKey × Addr × Value)}, RelX kvs as xs → NkA K H kvs as → EntN kvs as (xs.map (entryOfKey (nestedKind prog w)))
  | [], _, _, ⟨e1, e2⟩, _ => by rw [e2]; exact ⟨e1, rfl⟩
  | kv :: kvs, _, _, ⟨a, r, x, q, ea, e, hv, t⟩, ⟨a', r', ea', ⟨hk, _⟩, hA⟩ => by
    rw [ea] at ea'
    obtain ⟨rfl, rfl⟩ := List.cons.inj ea'
    rw [e]
    exact ⟨a, r, _, _, ea, rfl, fun w' => nk_hash kv.1 _ hk, rfl, hv, x_ent t hA⟩
def hasN (kvs : List (NestedKey × V)) (k : NestedKey) : Bool := kvs.any fun y => decide (y.1 = k)
def lookN (kvs : List (NestedKey × V)) (k : NestedKey) : Option V := (kvs.find? fun y => decide (y.1 = k)).map (·.2)
def putN (kvs : List (NestedKey × V)) (k : NestedKey) (x : V) : List (NestedKey × V) := if hasN kvs k = true then kvs.map (fun y => if y.1 = k then (y.1, x) else y) else kvs ++ [(k, x)]
def asN (kvs : List (NestedKey × V)) (as : List Addr) (k : NestedKey) (a : Addr) : List Addr := if hasN kvs k = true then as else as ++ [a]
theorem relX_at {k : NestedKey} : ∀ {kvs : List (NestedKey × V)} {as : List Addr} {xs : List (NestedKey × Addr × Value)}, RelX kvs as xs → (atKey xs k).isSome = hasN kvs k ∧ ∀ x, lookN kvs k = some x → ∃ p, atKey xs k = some p ∧ RelV x p.2
  | [], _, _, ⟨_, e⟩ => by rw [e]; exact ⟨rfl, fun _ h => nomatch h⟩
  | kv :: kvs, _, _, ⟨a, r, y, q, _, e, hv, t⟩ => by
    obtain ⟨h1, h2⟩ := relX_at (k := k) t
    rw [e]
    by_cases c : kv.1 = k
    · refine ⟨?_, fun x hx => ⟨(a, y), ?_, ?_⟩⟩
      · simp [atKey, hasN, c]
      · simp [atKey, c]
      · have : lookN (kv :: kvs) k = some kv.2 := by simp [lookN, c]
        rw [this] at hx
        cases hx
        exact hv
    · have e1 : atKey ((kv.1, a, y) :: q) k = atKey q k := by simp [atKey, c]
      have e2 : hasN (kv :: kvs) k = hasN kvs k := by simp [hasN, c]
      have e3 : lookN (kv :: kvs) k = lookN kvs k := by simp [lookN, c]
      rw [e1, e2, e3]
      exact ⟨h1, h2⟩
theorem relX_app {k : NestedKey} {a : Addr} {x : V} {u : Value} (hx : RelV x u) : ∀ {kvs : List (NestedKey × V)} {as : List Addr} {xs : List (NestedKey × Addr × Value)}, RelX kvs as xs → RelX (kvs ++ [(k, x)]) (as ++ [a]) (xs ++ [(k, a, u)])
  | [], _, _, ⟨e1, e2⟩ => by rw [e1, e2]; exact ⟨a, [], u, [], rfl, rfl, hx, rfl, rfl⟩
  | kv :: kvs, _, _, ⟨b, r, y, q, e1, e2, hv, t⟩ => by rw [e1, e2]; exact ⟨b, _, y, _, rfl, rfl, hv, relX_app hx t⟩
theorem relX_map {k : NestedKey} {x : V} {u : Value} (hx : RelV x u) : ∀ {kvs : List (NestedKey × V)} {as : List Addr} {xs : List (NestedKey × Addr × Value)}, RelX kvs as xs → RelX (kvs.map fun y => if y.1 = k then (y.1, x) else y) as (xs.map (PySem.putAt k u))
  | [], _, _, ⟨e1, e2⟩ => by rw [e2]; exact ⟨e1, rfl⟩
  | kv :: kvs, _, _, ⟨b, r, y, q, e1, e2, hv, t⟩ => by
    rw [e2]
    by_cases c : kv.1 = k
    · refine ⟨b, r, u, _, e1, ?_, ?_, relX_map hx t⟩
      · simp [PySem.putAt, c]
      · simp only [if_pos c]; exact hx
    · refine ⟨b, r, y, _, e1, ?_, ?_, relX_map hx t⟩
      · simp [PySem.putAt, c]
      · simp only [if_neg c]; exact hv
theorem relX_put {kvs : List (NestedKey × V)} {as : List Addr} {xs : List (NestedKey × Addr × Value)} {k : NestedKey} {a : Addr} {x : V} {u : Value} (h : RelX kvs as xs) (hx : RelV x u) : RelX (putN kvs k x) (asN kvs as k a) (storedH xs k a u) := by
  have h1 := (relX_at (k := k) h).1
  unfold putN asN storedH
  rw [h1]
  split
  · exact relX_map hx h
  · exact relX_app hx h
def KeyN (K : Frg) (H : Hp) (k : NestedKey) (v : V) : Prop := (∃ a, v = .ref a) ∧ NkV K H k v ∧ k.depth ≤ 8
def DicN (K : Frg) (H : Hp) (v : V) (kvs : List (NestedKey × V)) : Prop := ∃ p as, v = .ref p ∧ H p = some (.ext (RawN p kvs as)) ∧ NkA K H kvs as
end
def rInN (K : Frg) (neg : Bool) : R2 := fun x y H Q => ∃ k kvs, KeyN K H k x ∧ DicN K H y kvs ∧ Q (.bl (if neg then !hasN kvs k else hasN kvs k)) H
section
variable {X : Cx}
theorem op_notInN (hu : X.A.units + 64 < cLine) : OpR X (compareOp .NotIn) (rInN X.K true) := by
  intro pins s σ H x y u v Q I rx ry h
  obtain ⟨k, kvs, ⟨⟨a, rfl⟩, hk, hd⟩, ⟨p, as, rfl, hp, ha⟩, q⟩ := h
  cases (show u = Value.ref a from rx)
  cases (show v = Value.ref p from ry)
  obtain ⟨xs, h1, h2, h3⟩ := raw_of I hp ha
  refine notIn_keyed (knd := nestedKind X.prog X.w) (show X.A.in1.units + 8 < cLine by show X.A.units + 1 + 8 < cLine; omega) ⟨nk_is I k _ _ hk rfl, hd⟩ h3 ⟨xs, h2, rfl⟩ ?_
  rw [valueAt_pairsH, Option.isSome_map, (relX_at h1).1]
  exact ⟨.bl (!hasN kvs k), H, I.tok _, rfl, q⟩
def rGetN (K : Frg) : R2 := fun x y H Q => ∃ k kvs z, DicN K H x kvs ∧ KeyN K H k y ∧ lookN kvs k = some z ∧ Q z H
theorem op_getN (hu : X.A.units + 64 < cLine) : OpR X getItem (rGetN X.K) := by
  intro pins s σ H x y u v Q I rx ry h
  obtain ⟨k, kvs, z, ⟨p, as, rfl, hp, ha⟩, ⟨⟨a, rfl⟩, hk, hd⟩, hz, q⟩ := h
  cases (show u = Value.ref p from rx)
  cases (show v = Value.ref a from ry)
  obtain ⟨xs, h1, h2, h3⟩ := raw_of I hp ha
  obtain ⟨pr, e1, e2⟩ := (relX_at h1).2 z hz
  exact wpAny_getItem_heap (knd := nestedKind X.prog X.w) (show X.A.in1.units + 8 < cLine by show X.A.units + 1 + 8 < cLine; omega) ⟨nk_is I k _ _ hk rfl, hd⟩ h2 e1 ⟨z, H, I.tok _, e2, q⟩
theorem nkA_put {K : Frg} {H : Hp} {k : NestedKey} {a : Addr} {x : V} (hk : NkV K H k (.ref a)) (hd : k.depth ≤ 8) : ∀ {kvs : List (NestedKey × V)} {as : List Addr}, NkA K H kvs as → NkA K H (putN kvs k x) (asN kvs as k a) := by
  have app : ∀ {kvs : List (NestedKey × V)} {as : List Addr}, NkA K H kvs as → NkA K H (kvs ++ [(k, x)]) (as ++ [a]) := by
    intro kvs
    induction kvs with
    | nil => intro as h; rw [show as = [] from h]; exact ⟨a, [], rfl, ⟨hk, hd⟩, rfl⟩
    | cons kv kvs ih => intro as ⟨b, r, e, h, t⟩; rw [e]; exact ⟨b, _, rfl, h, ih t⟩
  have map : ∀ {kvs : List (NestedKey × V)} {as : List Addr}, NkA K H kvs as → NkA K H (kvs.map fun y => if y.1 = k then (y.1, x) else y) as := by
    intro kvs
    induction kvs with
    | nil => intro as h; exact h
    | cons kv kvs ih =>
      intro as ⟨b, r, e, h, t⟩
      refine ⟨b, r, e, ?_, ih t⟩
      by_cases c : kv.1 = k
      · simp only [if_pos c]; exact h
      · simp only [if_neg c]; exact h
  intro kvs as h
  unfold putN asN
  split
  · exact map h
  · exact app h
theorem putN_len {kvs : List (NestedKey × V)} {k : NestedKey} {x : V} : (putN kvs k x).length ≤ kvs.length + 1 := by
  unfold putN
  split
  · rw [List.length_map]; omega
  · rw [List.length_append]; exact Nat.le_refl _
theorem nkA_keep {K : Frg} {H H' : Hp} (h : ∀ a o, H a = some o → Imm o → H' a = some o) {kvs : List (NestedKey × V)} {as : List Addr} (n : NkA K H kvs as) : NkA K H' kvs as :=
  NkA.keep (A := No) (fun a o e z => h a o e (z.resolve_left fun f => f)) _ _ n
def rSetN (K : Frg) (o i v : V) (H : Hp) (Q : Hp → Prop) : Prop := ∃ k kvs p as a, o = .ref p ∧ H p = some (.ext (RawN p kvs as)) ∧ NkA K H kvs as ∧ i = .ref a ∧ NkV K H k i ∧ k.depth ≤ 8 ∧ kvs.length < 10000000 ∧
  Q (upd H p (.ext (RawN p (putN kvs k v) (asN kvs as k a))))
theorem set_N (hu : X.A.units + 64 < cLine) : PSet X (rSetN X.K) := by
  intro pins s σ H o i v ov iv u Q I ro ri rv h
  obtain ⟨k, kvs, p, as, a, rfl, hp, ha, rfl, hk, hd, hl, q⟩ := h
  cases (show ov = Value.ref p from ro)
  cases (show iv = Value.ref a from ri)
  obtain ⟨xs, h1, h2, h3⟩ := raw_of I hp ha
  refine wpAny_setItem_heap (knd := nestedKind X.prog X.w) (show X.A.in1.units + 8 < cLine by show X.A.units + 1 + 8 < cLine; omega) ⟨nk_is I k _ _ hk rfl, hd⟩ h2 (fun h' hm hs => ?_) (by rw [(relX_keys h1).2]; exact sz7 (by omega))
  obtain ⟨ob, es, ep, g1, g2, g3, g4, _, g5⟩ := hm
  have r2 := relX_put (k := k) (a := a) h1 rv
  have nA : NkA X.K H (putN kvs k v) (asN kvs as k a) := nkA_put hk hd ha
  refine ⟨_, L2.d_write (ob := .ext (RawN p (putN kvs k v) (asN kvs as k a))) I (by rw [hp]; exact True.intro) hs ⟨ob, g1⟩ ⟨⟨ob, es, ep, g1, h3, g2, g3, ?_, ?_⟩, ⟨ob, g1⟩, fun ha hb ⟨o1, es1, ep1, f1, f2⟩ f => ⟨o1, es1, ep1, f o1 f1, f2⟩⟩, q⟩
  · rw [g4]; exact x_ent r2 nA
  · rw [← (relX_keys r2).1]; exact g5
end
mutual
def keyN : D → Option NestedKey
  | .int i => some (.num i)
  | .tup ds => (keysN ds).map .tup
  | _ => none
def keysN : List D → Option (List NestedKey)
  | [] => some []
  | d :: ds => (keyN d).bind fun k => (keysN ds).map fun ks => k :: ks
end
section
variable {K : Frg} {A : Addr → Prop} {H : Hp}
mutual
theorem RA.toNk : ∀ (d : D) (v : V) (k : NestedKey), RA K A H d v → keyN d = some k → NkV K H k v
  | .int i, _, _, h, e => by
    cases (show some (NestedKey.num i) = some _ from e)
    exact h
  | .tup ds, _, k, ⟨p, vs, e1, t, r⟩, e => by
    have e : (keysN ds).map NestedKey.tup = some k := e
    cases q : keysN ds with
    | none => rw [q] at e; cases e
    | some ks =>
      rw [q] at e
      cases (show some (NestedKey.tup ks) = some k from e)
      exact ⟨p, vs, e1, t, RAs.toNk ds vs ks r q⟩
  | .non, _, _, _, e => by cases e
  | .bl _, _, _, _, e => by cases e
  | .str _, _, _, _, e => by cases e
  | .lst _, _, _, _, e => by cases e
  | .kst _, _, _, _, e => by cases e
  | .dcT _ _, _, _, _, e => by cases e
  | .dcK _ _, _, _, _, e => by cases e
  | .obj _ _ _, _, _, _, e => by cases e
  | .frz _, _, _, _, e => by cases e
  | .fn _, _, _, _, e => by cases e
  | .ad _, _, _, _, e => by cases e
  | .lsA _ _, _, _, _, e => by cases e
  | .key _, _, _, _, e => by cases e
  | .tpx _, _, _, _, e => by cases e
  | .exn _, _, _, _, e => by cases e
  | .lkT _, _, _, _, e => by cases e
  | .any, _, _, _, e => by cases e
  | .dcL _, _, _, _, e => by cases e
  | .dcN _, _, _, _, e => by cases e
theorem RAs.toNk : ∀ (ds : List D) (vs : List V) (ks : List NestedKey), RAs K A H ds vs → keysN ds = some ks → NkVs K H ks vs
  | [], _, _, h, e => by
    cases (show some [] = some _ from e)
    exact h
  | d :: ds, _, ks, ⟨w, ws, e1, h, t⟩, e => by
    have e : ((keyN d).bind fun k => (keysN ds).map fun ks => k :: ks) = some ks := e
    cases q1 : keyN d with
    | none => rw [q1] at e; cases e
    | some k =>
      cases q2 : keysN ds with
      | none => rw [q1, q2] at e; cases e
      | some ks' =>
        rw [q1, q2] at e
        cases (show some (k :: ks') = some ks from e)
        exact ⟨w, ws, e1, RA.toNk d w k h q1, RAs.toNk ds ws ks' t q2⟩
end
def isKey (d : D) (k : NestedKey) : Prop := (∃ ds, d = .tup ds) ∧ keyN d = some k ∧ k.depth ≤ 8
theorem isKey.of {d : D} {k : NestedKey} {v : V} (e : isKey d k) (h : RA K A H d v) : KeyN K H k v := by
  obtain ⟨⟨ds, rfl⟩, e1, e2⟩ := e
  have n := RA.toNk _ _ _ h e1
  obtain ⟨p, vs, rfl, _⟩ := h
  exact ⟨⟨p, rfl⟩, n, e2⟩
theorem RA.dicN {kvs : List (NestedKey × V)} {v : V} (h : RA K A H (.dcN kvs) v) : DicN K H v kvs := by
  obtain ⟨p, as, e, _, t, n⟩ := h
  exact ⟨p, as, e, t, n⟩
def oInN (neg : Bool) : KD → KD → (KD → Prop) → Prop := fun x y P => ∃ k kvs, isKey x.2 k ∧ y.2 = .dcN kvs ∧ P (.fl, .bl (if neg then !hasN kvs k else hasN kvs k))
@[irreducible] def xInN (neg : Bool) (x y : KD) (P : KD → Prop) : Prop := hid (oInN neg x y P)
theorem go_inN {neg : Bool} {x y : KD} {P : KD → Prop} {k : NestedKey} {kvs : List (NestedKey × V)} (hx : isKey x.2 k) (hy : y.2 = .dcN kvs) (p : P (.fl, .bl (if neg then !hasN kvs k else hasN kvs k))) : xInN neg x y P := by
  unfold xInN; rw [hid_eq]; exact ⟨k, kvs, hx, hy, p⟩
theorem os_inN {neg : Bool} : OpS K (rInN K neg) (xInN neg) := by
  intro B F H v w x y P Q px py hF h q
  unfold xInN at h
  rw [hid_eq] at h
  obtain ⟨k, kvs, hx, hy, hP⟩ := h
  have r2 := py.ra
  rw [hy] at r2
  exact ⟨k, kvs, hx.of px.ra, RA.dicN r2, q _ _ H hP (Same.refl H) .bl⟩
def oGetN : KD → KD → (KD → Prop) → Prop := fun x y P => ∃ k kvs i, x.2 = .dcN kvs ∧ isKey y.2 k ∧ lookN kvs k = some (.int i) ∧ P (.fl, .int i)
@[irreducible] def xGetN (x y : KD) (P : KD → Prop) : Prop := hid (oGetN x y P)
theorem go_getN {x y : KD} {P : KD → Prop} {k : NestedKey} {kvs : List (NestedKey × V)} {i : Int} (hx : x.2 = .dcN kvs) (hy : isKey y.2 k) (hl : lookN kvs k = some (.int i)) (p : P (.fl, .int i)) : xGetN x y P := by
  unfold xGetN; rw [hid_eq]; exact ⟨k, kvs, i, hx, hy, hl, p⟩
theorem os_getN : OpS K (rGetN K) xGetN := by
  intro B F H v w x y P Q px py hF h q
  unfold xGetN at h
  rw [hid_eq] at h
  obtain ⟨k, kvs, i, hx, hy, hl, hP⟩ := h
  have r2 := px.ra
  rw [hx] at r2
  exact ⟨k, kvs, _, RA.dicN r2, hy.of py.ra, hl, q _ _ H hP (Same.refl H) .int⟩
end
section
variable {X : Cx} {pos : Pos}
theorem pe_getN {o i : Expr} {td ty : TE} (hu : X.A.units + 64 < cLine) (ho : PE X o td) (hi : PE X i ty) (hs : NoSl i) : PE X (.Subscript o i pos) (tOp (rGetN X.K) td ty) := by
  refine ⟨fun pins s σ H Q I h => ?_⟩
  refine subD_of PySem.F.slot_dict_getitem.lookup hs (thn (ho.run pins s σ H _ I h) fun u s1 ⟨x, H1, I1, rx, q1⟩ => thn (hi.run pins s1 σ H1 _ I1 q1) fun iv s2 ⟨y, H2, I2, ry, h2⟩ => ?_)
  refine ⟨?_, op_getN hu pins s2 σ H2 x y u iv _ I2 rx ry h2⟩
  obtain ⟨k, kvs, z, ⟨p, as, rfl, hp, ha⟩, _⟩ := h2
  cases (show u = Value.ref p from rx)
  obtain ⟨xs, _, hm, _⟩ := raw_of I2 hp ha
  exact hm.typeIs
theorem dp_getN {o k : Expr} {fo fk : PF} (hu : X.A.units + 64 < cLine) (ho : DP X o fo) (hk : DP X k fk) (hs : NoSl k := by exact fun _ _ => rfl) : DP X (.Subscript o k pos) (pOp xGetN fo fk) := by
  obtain ⟨ta, ea, sa⟩ := ho.run
  obtain ⟨tb, eb, sb⟩ := hk.run
  exact ⟨_, pe_getN hu ea eb hs, sound_op os_getN sa sb⟩
end
def valN : D → Option V
  | .int i => some (.int i)
  | .bl b => some (.bl b)
  | _ => none
theorem valN_ra {K : Frg} {A : Addr → Prop} {H : Hp} {d : D} {x v : V} (e : valN d = some x) (h : RA K A H d v) : v = x := by
  cases d <;> first
    | (cases e; done)
    | (cases (show some _ = some x from e); exact h)
def oSetN (e : D) (y z : KD) (P : D → Prop) : Prop := ∃ kvs k x, e = .dcN kvs ∧ isKey y.2 k ∧ valN z.2 = some x ∧ kvs.length < 10000000 ∧ P (.dcN (putN kvs k x))
@[irreducible] def xSetN (e : D) (y z : KD) (P : D → Prop) : Prop := hid (oSetN e y z P)
theorem go_setN {e : D} {y z : KD} {P : D → Prop} {kvs : List (NestedKey × V)} {k : NestedKey} {x : V} (he : e = .dcN kvs) (hy : isKey y.2 k) (hz : valN z.2 = some x) (hl : kvs.length < 10000000) (p : P (.dcN (putN kvs k x))) : xSetN e y z P := by
  unfold xSetN; rw [hid_eq]; exact ⟨kvs, k, x, he, hy, hz, hl, p⟩
def sSetN (fe : EF) (pl : PLF) (fk : PF) : SF := fun D ρ => fe ρ (fun z ρ1 => pl ρ1 fun i _ e rb => fk ρ1 fun y => xSetN e y z fun e' => D.nx (ρ1.set i (some (.ow, rb e')))) D.ex
section
variable {X : Cx} {E : XK} {pr : List Nat} {pos : Pos}
theorem ds_setN {o ix e : Expr} {p2 : Pos} {fe : EF} {pl : PLF} {fi : PF} (hu : X.A.units + 64 < cLine) (he : DE X E e fe) (ho : DPl X o pl) (hi : DP X ix fi) (hs : swapsWithSole [.Subscript o ix p2] e pos.line X.env = pure false := by rfl) (hw : swappedStores [.Subscript o ix p2] e X.env = pure none := by rfl)
    (h1 : (assignEach [.Subscript o ix p2] X.env).map (·.2) = [assign (.Subscript o ix p2) X.env] := by rfl) (hg : ∀ v, assign (.Subscript o ix p2) X.env v = (do
      let ov ← holding [v] (eval o X.env)
      let iv ← holding [v, ov] (eval ix X.env)
      standAt p2
      holding [v, ov, iv] (setItem ov iv v)
      release [v, ov, iv] []) := by intro _; rfl) : DS X E pr (.Assign [.Subscript o ix p2] e pos) (sSetN fe pl fi) := by
  obtain ⟨te, ee, se⟩ := he.run
  obtain ⟨to, eo, so⟩ := ho.run
  obtain ⟨ti, ei, si⟩ := hi.run
  refine ⟨_, ps_asg ee (pg_sub eo ei (set_N hu) hg) hs hw h1, fun σ H A ρ ow T D gd h nx rt ex => ?_⟩
  refine se σ H A ρ ow _ _ _ gd h (fun z ρ1 v H1 fp ow1 A1 h1 st1 g1 o1 => ?_) fun C ρ1 H1 ow1 A1 h1 st1 g1 => ex C ρ1 σ H1 ow1 A1 h1 st1 g1 fun _ _ => rfl
  refine so σ H1 A1 ρ1 ow1 _ _ g1 h1 fun i k e rb w H2 h2 s2 p2 => ?_
  refine si σ H2 A1 ρ1 ow1 _ _ (g1.same s2) h2 fun y yv H3 h3 s3 p3 => ?_
  have s := s2.trans s3
  unfold xSetN at h3
  rw [hid_eq] at h3
  obtain ⟨kvs, kk, x, ek, ey, ez, hl, h3⟩ := h3
  subst ek
  obtain ⟨⟨a, rfl⟩, hk, hd⟩ := ey.of p3.ra
  have rz : RA X.K (fun _ => True) H3 z.2 v := (o1.rep.same s).ra (fun _ _ => trivial) fun _ _ => trivial
  obtain rfl := valN_ra ez rz
  obtain ⟨fe0, r, nd, _, hsh, mtt⟩ := (p2.same s3).mut (g1.same s) o1.nd o1.dis
  obtain ⟨p, as, ew, ef, hp, na⟩ := r
  subst ew ef
  have nA : NkA X.K (upd H3 p (.ext (RawN p (putN kvs kk v) (asN kvs as kk a)))) (putN kvs kk v) (asN kvs as kk a) := nkA_keep (fun b ob e im => by
    rw [upd_ne (fun z => by rw [z, hp] at e; cases e; exact im)]; exact e) (nkA_put hk hd na)
  obtain ⟨ow', st', g', _⟩ := mtt (.dcN (putN kvs kk v)) .ow [] (.fl, .non) .non (upd H3 p (.ext (RawN p (putN kvs kk v) (asN kvs as kk a)))) [p] (fun a o e n => by rw [upd_ne (fun z => n (by simp [z]))]; exact e)
    ⟨p, _, rfl, rfl, upd_same, nA⟩ (.inl rfl) ⟨rfl, rfl⟩ (by simp) fun a h => .inl (by simpa using h)
  refine ⟨kk, kvs, p, as, a, rfl, hp, na, rfl, hk, hd, hl, ?_⟩
  refine nx _ σ _ ow' A1 h3 ?_ g' fun _ _ => rfl
  have stA : Stp H ow A H3 (fp ++ ow1) A1 := (st1.trans (Stp.of_same s))
  exact stA.trans (st'.sub fun a h => by simp [h])
theorem pe_newN : PE X (.Dict [] [] pos) (fun σ H Q => ∀ p, H p = none → Q (.ref p) (upd H p (.ext (RawN p [] [])))) := by
  refine ⟨fun pins s σ H Q I h => thn (pe_dnewT.run pins s σ H (fun x H1 => ∃ p, x = .ref p ∧ H p = none ∧ H1 = upd H p (.dT [])) I (fun p hp => ⟨p, rfl, hp, rfl⟩)) fun u s1 ⟨x, H1, I1, r, p, ex, hp, e1⟩ => ?_⟩
  subst ex e1
  obtain ⟨_, hs, xs, rel, o, es, ep, h1, h2, h3, h4, _⟩ := I1.hok p _ upd_same
  cases rel
  have e0 : es.toList = [] := h4
  have I2 := I1.write (x := p) (e := p) (o := .ext (RawN p [] [])) (t' := s1.toks) (h' := s1.heap) (by rw [upd_same]; exact True.intro) (.inl rfl) (fun b u _ z => z) ⟨o, h1⟩ ⟨⟨o, es, ep, h1, hs, h2, h3, ⟨rfl, e0⟩, List.Pairwise.nil⟩, ⟨o, h1⟩, fun ha hb ⟨o1, es1, ep1, f1, f2⟩ f => ⟨o1, es1, ep1, f o1 f1, f2⟩⟩
  rw [upd_upd] at I2
  exact ⟨_, _, I2, r, h p hp⟩
def pNewN : PF := fun _ P => P (.ow, .dcN [])
theorem dp_newN : DP X (.Dict [] [] pos) pNewN :=
  ⟨_, pe_newN, fun σ H A ρ ow Q P g h q p hp => q _ _ _ h (same_upd hp) ⟨[p], ⟨p, [], rfl, rfl, upd_same, rfl⟩, by simp, fun a z => by rw [List.mem_singleton.mp z]; exact hp⟩⟩
end
def rLenN (K : Frg) : List V → Hp → VK → Prop := fun xs H Q => ∃ v kvs, xs = [v] ∧ DicN K H v kvs ∧ kvs.length ≤ 10000000 ∧ Q (.int ((kvs.length : Nat) : Int)) H
theorem call_lenN {X : Cx} : CallR X (.builtin "len") (rLenN X.K) := by
  intro pins s σ H xs us Q I r h
  obtain ⟨v, kvs, rfl, ⟨p, as, rfl, hp, ha⟩, hl, q⟩ := h
  obtain ⟨u, rfl, rx⟩ := vals1 r
  obtain rfl : u = .ref p := rx
  obtain ⟨ys, h1, h2, h3⟩ := raw_of I hp ha
  have e : ys.length = kvs.length := (relX_keys h1).2
  refine call_len_dictH (knd := nestedKind X.prog X.w) h3 h2 (by rw [e]; omega) ?_
  rw [e]
  exact ⟨.int ((kvs.length : Nat) : Int), H, I.tok _, ⟨_, rfl⟩, q⟩
def oLenN : List KD → (KD → Prop) → Prop := fun zs P => match zs with
  | [(_, .dcN kvs)] => kvs.length ≤ 10000000 ∧ P (.fl, .int ((kvs.length : Nat) : Int))
  | _ => False
theorem cs_lenN {K : Frg} : CallS K (rLenN K) oLenN := by
  intro B F H vs xs P Q pr hF h q
  unfold oLenN at h
  split at h
  · rename_i k kvs
    obtain ⟨hl, hP⟩ := h
    obtain ⟨v, ev, p⟩ := pr.get1
    subst ev
    exact ⟨v, kvs, rfl, RA.dicN p.ra, hl, q _ _ H hP (Same.refl H) .int⟩
  · exact h.elim
section
variable {X : Cx}
end
end
end DL

namespace PA
open DL
theorem sumR_sub {n : Nat} {f g : Nat → Int} : sumR n (fun i => f i - g i) = sumR n f - sumR n g := by
  induction n with
  | zero => rfl
  | succ n ih => rw [sumR_succ, sumR_succ, sumR_succ, ih]; omega
theorem sumR_zero' {n : Nat} {f : Nat → Int} (h : ∀ i, i < n → f i = 0) : sumR n f = 0 := by
  induction n with
  | zero => rfl
  | succ n ih => rw [sumR_succ, ih fun i hi => h i (by omega), h n (by omega)]; rfl
theorem sumR_out {n a : Nat} (ha : a < n) (f : Nat → Int) : sumR n f = f a + sumR n fun i => if i = a then 0 else f i := by
  induction n with
  | zero => omega
  | succ n ih =>
    rw [sumR_succ, sumR_succ]
    by_cases e : a = n
    · subst e
      rw [if_pos rfl, sumR_congr (f := f) (g := fun i => if i = a then 0 else f i) fun i hi => by rw [if_neg (by omega)]]
      omega
    · rw [ih (by omega), if_neg (show ¬ n = a from fun h => e h.symm)]
      omega
def rest (n a b : Nat) (f : Nat → Int) : Int := sumR n fun i => if i ≠ a ∧ i ≠ b then f i else 0
theorem pigeon : ∀ (B : Nat) (l : List Nat), l.Nodup → (∀ x ∈ l, x < B) → l.length ≤ B
  | 0, [], _, _ => Nat.le_refl _
  | 0, x :: l, _, h => absurd (h x (List.mem_cons_self ..)) (Nat.not_lt_zero _)
  | B + 1, l, hn, h => by
    have h1 := pigeon B (l.erase B) (hn.erase B) fun x hx => by
      have hm := (hn.mem_erase_iff).mp hx
      have := h x hm.2
      omega
    have h2 : l.length ≤ (l.erase B).length + 1 := by
      by_cases c : B ∈ l
      · rw [List.length_erase_of_mem c]; omega
      · rw [List.erase_of_not_mem c]; omega
    omega
theorem nodup_tabl {n : Nat} {p : Nat → Nat} (hi : ∀ i j, i < n → j < n → p i = p j → i = j) : (tabl n p).Nodup := by
  refine List.pairwise_map.mpr ?_
  refine (List.nodup_range (n := n)).imp_of_mem fun {a b} ha hb hab e => hab (hi a b (List.mem_range.mp ha) (List.mem_range.mp hb) e)
theorem sumR_nonneg {n : Nat} {f : Nat → Int} (h : ∀ i, i < n → 0 ≤ f i) : 0 ≤ sumR n f := by
  induction n with
  | zero => exact Int.le_refl _
  | succ n ih =>
    rw [sumR_succ]
    have := ih fun i hi => h i (by omega)
    have := h n (by omega)
    omega
end PA

namespace DCA
open PySem PySem.Spec PyProof.Rows L2 DL
noncomputable section
def sem__law_bag : SF :=
  (sSeq (sSet 1 (eP (pC (.int 314159265))))
    (sSeq (sForX (iSq (pVar 0)) (gNm 2) (sSet 1 (eP (pOp oMod (pOp oAdd (pOp oMul (pVar 1) (pC (.int 40014))) (pVar 2)) (pC (.int 2147483563))))))
    (sRet (eP (pLst (gCons (pCall oList (gCons (pVar 0) gNil)) (gCons (pC (.int 0)) (gCons (pVar 1) gNil))))))))
@[irreducible] def cf__law_bag : CF := hid (cfOf 2 [false] sem__law_bag)
theorem cf__law_bag_eq : cf__law_bag = cfOf 2 [false] sem__law_bag := by unfold cf__law_bag; rw [hid_eq]
def sem__law_dip : SF :=
  (sSeq (sIf (teP (tAnd (pTest (pOp oEq (pOp xIx (pVar 0) (pC (.int 1))) (pC (.int 0)))) (pTest (pOp oGt (pCall oLen (gCons (pOp xIx (pVar 0) (pC (.int 0))) gNil)) (pC (.int 0)))))) (sSeq (sSet 2 (eMthP xPopAt (plIxX (plVar 0) (pC (.int 0))) (gCons (pC (.int 0)) gNil)))
    (sSeq (sIf (teP (pTest (pOp oLt (pCall oAbs (gCons (pVar 2) gNil)) (pOp oPow (pC (.int 10)) (pC (.int 18)))))) (sRet (eP (pOp oMod (pVar 2) (pVar 1)))) sNil)
    (sStIxX (eP (pCall oAbs (gCons (pVar 2) gNil))) (plVar 0) (pC (.int 1))))) sNil)
    (sSeq (sIf (teP (pTest (pOp oGt (pOp xIx (pVar 0) (pC (.int 1))) (pC (.int 0))))) (sSeq (sSet 3 (eP (pOp oMod (pOp xIx (pVar 0) (pC (.int 1))) (pVar 1))))
    (sSeq (sStIxX (eP (pOp oFdiv (pOp xIx (pVar 0) (pC (.int 1))) (pVar 1))) (plVar 0) (pC (.int 1)))
    (sRet (eMv 3)))) sNil)
    (sSeq (sStIxX (eP (pOp oMod (pOp oAdd (pOp oMul (pOp xIx (pVar 0) (pC (.int 2))) (pOp xIx (pVar 0) (pC (.int 2)))) (pC (.int 40692))) (pC (.int 2147483563)))) (plVar 0) (pC (.int 2)))
    (sRet (eP (pOp oMod (pOp oFdiv (pOp xIx (pVar 0) (pC (.int 2))) (pC (.int 32))) (pVar 1)))))))
@[irreducible] def cf__law_dip : CF := hid (cfOf 2 [true, false] sem__law_dip)
theorem cf__law_dip_eq : cf__law_dip = cfOf 2 [true, false] sem__law_dip := by unfold cf__law_dip; rw [hid_eq]
def sem__law_entry : SF :=
  (sSeq (sIf (teP (pTest (pOp oEq (pVar 1) (pC (.int 0))))) (sRet (eFn [true, false] cf__law_dip (aPl 0 (aE (eP (pOp oAdd (pVar 2) (pC (.int 1)))) aNil)))) sNil)
    (sSeq (sIf (teP (pTest (pOp oEq (pVar 1) (pC (.int 1))))) (sRet (eFn [true, false] cf__law_dip (aPl 0 (aE (eP (pC (.int 4))) aNil)))) sNil)
    (sSeq (sIf (teP (pTest (pOp oEq (pVar 1) (pC (.int 2))))) (sRet (eOp oMul (eMv 2) (eFn [true, false] cf__law_dip (aPl 0 (aE (eP (pC (.int 2))) aNil))))) sNil)
    (sRet (eOp oMul (eFn [true, false] cf__law_dip (aPl 0 (aE (eP (pC (.int 40))) aNil))) (eCallB oInt (aE (eOp oEq (eFn [true, false] cf__law_dip (aPl 0 (aE (eP (pC (.int 3))) aNil))) (eP (pC (.int 0)))) aNil)))))))
@[irreducible] def cf__law_entry : CF := hid (cfOf 0 [true, false, false] sem__law_entry)
def sem__law_square : SF :=
  (sSeq (sSet 4 (eFn [true, false] cf__law_dip (aPl 0 (aE (eP (pC (.int 4))) aNil))))
    (sSeq (sSet 5 (eP (pLst gNil)))
    (sSeq (sForX (jR1 (gCons (pVar 1) gNil)) (gNm 6) (sSeq (sSet 7 (eLcX (jR1 (gCons (pVar 1) gNil)) [8] (gNm 8) tNilP (eFn [true, false, false] cf__law_entry (aPl 0 (aE (eMv 4) (aE (eMv 2) aNil))))))
    (sSeq (sStIxX (eP (pOp oMul (pOp xIx (pVar 7) (pVar 6)) (pCall oInt (gCons (pUn uNot (pVar 3)) gNil)))) (plVar 7) (pVar 6))
    (sExpr (eMthR mAppend 5 (aE (eP (pCall oTuple (gCons (pVar 7) gNil))) aNil))))))
    (sRet (eP (pCall oTuple (gCons (pVar 5) gNil)))))))
@[irreducible] def cf__law_square : CF := hid (cfOf 5 [true, false, false, false] sem__law_square)
def sem__law_job : SF :=
  (sSeq (sSet 2 (eOp oAdd (eP (pC (.int 1))) (eFn [true, false] cf__law_dip (aPl 0 (aE (eMv 1) aNil)))))
    (sSeq (sSet 3 (eFn [true, false, false, false] cf__law_square (aPl 0 (aE (eMv 2) (aE (eP (pC (.int 999))) (aE (eP (pC (.bl true))) aNil))))))
    (sSeq (sSet 4 (eFn [true, false, false, false] cf__law_square (aPl 0 (aE (eMv 2) (aE (eP (pC (.int 999))) (aE (eP (pC (.bl true))) aNil))))))
    (sRet (eTup (aE (eMv 3) (aE (eMv 4) (aE (eFn [true, false, false, false] cf__law_square (aPl 0 (aE (eMv 2) (aE (eP (pC (.int 1000000))) (aE (eP (pC (.bl false))) aNil))))) aNil))))))))
@[irreducible] def cf__law_job : CF := hid (cfOf 3 [true, false] sem__law_job)
def sem__law_other_job : SF :=
  (sSeq (sSet 2 (eP (pCall oList (gCons (pVar 1) gNil))))
    (sSeq (sForX (jR1 (gCons (pC (.int 2)) gNil)) (gNm 3) (sSeq (sSet 4 (eFn [true, false] cf__law_dip (aPl 0 (aE (eP (pC (.int 3))) aNil))))
    (sStIxX (eFn [true, false, false, false] cf__law_square (aPl 0 (aE (eP (pCall oLen (gCons (pOp xIx (pVar 1) (pC (.int 0))) gNil))) (aE (eP (pOp xIx (pLst (gCons (pC (.int 999)) (gCons (pC (.int 999)) (gCons (pC (.int 1000000)) gNil)))) (pVar 4))) (aE (eP (pOp oLt (pVar 4) (pC (.int 2)))) aNil))))) (plVar 2) (pVar 4))))
    (sRet (eP (pCall oTuple (gCons (pVar 2) gNil))))))
@[irreducible] def cf__law_other_job : CF := hid (cfOf 3 [true, false] sem__law_other_job)
theorem cf__law_other_job_eq : cf__law_other_job = cfOf 3 [true, false] sem__law_other_job := by unfold cf__law_other_job; rw [hid_eq]
def sem__law_order : SF :=
  (sSeq (sSet 2 (eP (pLR1X (pVar 1))))
    (sRet (eCallB oTuple (aE (eLcX (jR1 (gCons (pVar 1) gNil)) [3] (gNm 3) tNilP (eMthR xPopAt 2 (aE (eFn [true, false] cf__law_dip (aPl 0 (aE (eP (pCall oLen (gCons (pVar 2) gNil))) aNil))) aNil))) aNil))))
@[irreducible] def cf__law_order : CF := hid (cfOf 2 [true, false] sem__law_order)
def sem_fixed : SF :=
  (sSeq (sAsg (eMv 0) (gTu 3 (tConsG (gNm 2) (tConsG (gNm 3) (tConsG (gNm 4) tNilG)))))
    (sSeq (sSet 5 (eP (pLcX (jR1 (gCons (pCall oLen (gCons (pVar 1) gNil)) gNil)) [9] (gNm 9) (pTest (pOp oNotN (pOp xIx (pVar 1) (pVar 9)) (pC .non))) (pVar 9))))
    (sSeq (sSet 6 (eP (pCall oSum (gCons (pLcX (iSq (pVar 5)) [9] (gNm 9) tNilP (pOp xIx (pOp xIx (pVar 4) (pVar 9)) (pOp xIx (pVar 1) (pVar 9)))) gNil))))
    (sFrz 5 (sSeq (sForX (iSq (pVar 5)) (gNm 7) (sForX (iSq (pVar 5)) (gNm 8) (sSet 6 (eP (pOp oAdd (pVar 6) (pOp oMul (pOp xIx (pOp xIx (pVar 2) (pVar 7)) (pVar 8)) (pOp xIx (pOp xIx (pVar 3) (pOp xIx (pVar 1) (pVar 7))) (pOp xIx (pVar 1) (pVar 8)))))))))
    (sRet (eMv 6)))))))
@[irreducible] def cf_fixed : CF := hid (cfOf 8 [false, false] sem_fixed)
def sem_cost : SF :=
  (sRet (eP (pFn cf_fixed (gCons (pVar 0) (gCons (pVar 1) gNil)))))
@[irreducible] def cf_cost : CF := hid (cfOf 0 [false, false] sem_cost)
end
end DCA

namespace DCA
open PySem PySem.Spec PyProof.Rows L2 DL
theorem pos0 : (0 : Int) < 2147483563 := by decide
abbrev BagD (ns : List Int) (m x : Int) : D := .lst [.lst (ns.map .int), .int m, .int x]
def Bag (d : D) : Prop := ∃ ns m x, d = BagD ns m x ∧ 0 ≤ m ∧ 0 ≤ x ∧ x < 2147483563 ∧ ns.length ≤ 63
theorem bag_spec {ns : List Int} {Q X} (hn : ns.length ≤ 63) (h : ∀ d, Bag d → Q (.ow, d) []) : cf__law_bag [(.fl, .kst (ns.map .int))] Q X := by
  rw [cf__law_bag_eq]
  refine go_For (fun i ρ => ∃ x o, 0 ≤ x ∧ x < 2147483563 ∧ ρ = [some (.fl, .kst (ns.map .int)), some (.fl, .int x), o]) ⟨314159265, none, by decide, by decide, rfl⟩ (fun i z ρ N hz hI hN => ?_) fun ρ hI => ?_
  · obtain ⟨x, o, h0, h1, rfl⟩ := hI
    obtain ⟨c, rfl⟩ : ∃ c, z = (.fl, .int c) := by
      rw [List.map_map, List.getElem?_map] at hz
      cases e : ns[i]? with
      | none => rw [e] at hz; cases hz
      | some c => rw [e] at hz; exact ⟨c, (Option.some.inj hz).symm⟩
    refine ⟨.inl (by omega), ⟨pos0, hN _ ⟨_, _, ?_, ?_, rfl⟩⟩⟩
    · exact Int.emod_nonneg _ (by decide)
    · exact Int.emod_lt_of_pos _ (by decide)
  · obtain ⟨x, o, h0, h1, rfl⟩ := hI
    exact h _ ⟨ns, 0, x, rfl, by decide, h0, h1, hn⟩
theorem dip_tail {ns : List Int} {m x many : Int} {o : Sl} {De : DEnds} (h0 : 0 ≤ m) (h1 : 0 ≤ x) (h2 : x < 2147483563) (h3 : ns.length ≤ 63) (hm : 0 < many) (hm2 : many ≤ 1000000000000000000000000000000000000000000000000000000000000)
    (h : ∀ r d o o', 0 ≤ r → r < many → Bag d → De.rt (.fl, .int r) [some (.ow, d), some (.fl, .int many), o, o']) :
    (sSeq (sIf (teP (pTest (pOp oGt (pOp xIx (pVar 0) (pC (.int 1))) (pC (.int 0))))) (sSeq (sSet 3 (eP (pOp oMod (pOp xIx (pVar 0) (pC (.int 1))) (pVar 1))))
    (sSeq (sStIxX (eP (pOp oFdiv (pOp xIx (pVar 0) (pC (.int 1))) (pVar 1))) (plVar 0) (pC (.int 1)))
    (sRet (eMv 3)))) sNil)
    (sSeq (sStIxX (eP (pOp oMod (pOp oAdd (pOp oMul (pOp xIx (pVar 0) (pC (.int 2))) (pOp xIx (pVar 0) (pC (.int 2)))) (pC (.int 40692))) (pC (.int 2147483563)))) (plVar 0) (pC (.int 2)))
    (sRet (eP (pOp oMod (pOp oFdiv (pOp xIx (pVar 0) (pC (.int 2))) (pC (.int 32))) (pVar 1)))))) De [some (.ow, BagD ns m x), some (.fl, .int many), o, none] := by
  refine go_ix rfl rfl (ifd (fun hp => ?_) fun hp => ?_)
  · refine go_ix rfl rfl ⟨hm, go_ix rfl rfl ⟨⟨hm, by omega⟩, go_st rfl rfl ?_⟩⟩
    exact h _ _ _ _ (Int.emod_nonneg _ (by omega)) (Int.emod_lt_of_pos _ hm) ⟨ns, m / many, x, rfl, Int.ediv_nonneg h0 (by omega), h1, h2, h3⟩
  · refine go_ix rfl rfl (go_ix rfl rfl ⟨.inl (by omega), ⟨pos0, go_st rfl rfl (go_ix rfl rfl ⟨⟨by decide, by decide⟩, ⟨hm, ?_⟩⟩)⟩⟩)
    exact h _ _ _ _ (Int.emod_nonneg _ (by omega)) (Int.emod_lt_of_pos _ hm) ⟨ns, m, _, rfl, h0, Int.emod_nonneg _ (by decide), Int.emod_lt_of_pos _ (by decide), h3⟩
theorem dip_spec {d : D} {many : Int} {Q X} (hd : Bag d) (hm : 0 < many) (hm2 : many ≤ 1000000000000000000000000000000000000000000000000000000000000) (h : ∀ r d, 0 ≤ r → r < many → Bag d → Q (.fl, .int r) [(.ow, d)]) : cf__law_dip [(.ow, d), (.fl, .int many)] Q X := by
  rw [cf__law_dip_eq]
  obtain ⟨ns, m, x, rfl, h0, h1, h2, h3⟩ := hd
  refine go_ix rfl rfl (ifd (fun hp => go_ix rfl rfl (ifd (fun hq => ?_) fun hq => ?_)) fun hp => ?_)
  · cases ns with
    | nil => exact absurd hq (by simp)
    | cons c ns =>
      refine go_pl rfl rfl rfl ⟨rfl, go_popAt (j := 0) (.inr rfl) (by rw [List.length_map]; omega) (ixN_ok (i := 0) (by simp)) rfl ?_⟩
      refine ⟨⟨by decide, by decide, by decide⟩, ifd (fun hs => ⟨hm, ?_⟩) fun hs => go_st rfl rfl ?_⟩
      · exact h _ _ (Int.emod_nonneg _ (by omega)) (Int.emod_lt_of_pos _ hm) ⟨ns, m, x, rfl, h0, h1, h2, by rw [List.length_cons] at h3; omega⟩
      · exact dip_tail (ns := ns) (by split <;> omega) h1 h2 (by rw [List.length_cons] at h3; omega) hm hm2 fun r d _ _ a b c => h r d a b c
  · exact dip_tail h0 h1 h2 h3 hm hm2 fun r d _ _ a b c => h r d a b c
  · exact dip_tail h0 h1 h2 h3 hm hm2 fun r d _ _ a b c => h r d a b c
abbrev tabD (n : Nat) (f : Nat → Nat → Int) : D := .tup (tabl n fun i => .tup (tabl n fun j => .int (f i j)))
theorem dip_specN {d : D} {many : Int} {Q X} (hd : Bag d) (hm : 0 < many) (hm2 : many ≤ 1000000000000000000000000000000000000000000000000000000000000) (h : ∀ (r : Nat) d, (r : Int) < many → Bag d → Q (.fl, .int r) [(.ow, d)]) : cf__law_dip [(.ow, d), (.fl, .int many)] Q X :=
  dip_spec hd hm hm2 fun r d a b c => by
    obtain ⟨n, rfl⟩ := Int.eq_ofNat_of_zero_le a
    exact h n d b c
def Tab (n : Nat) (b : Int) (f : Nat → Nat → Int) : Prop := ∀ i j, i < n → j < n → 0 ≤ f i j ∧ f i j ≤ b
def Bare (n : Nat) (f : Nat → Nat → Int) : Prop := ∀ i, i < n → f i i = 0
abbrev jobD (n : Nat) (F W C : Nat → Nat → Int) : D := .tup [tabD n F, tabD n W, tabD n C]
theorem Tab.mono {n : Nat} {b c : Int} {f : Nat → Nat → Int} (h : Tab n b f) (hb : b ≤ c) : Tab n c f := fun i j hi hj => ⟨(h i j hi hj).1, Int.le_trans (h i j hi hj).2 hb⟩
structure Job (n : Nat) (F W C : Nat → Nat → Int) : Prop where
  f : Tab n 1000040 F
  w : Tab n 1000040 W
  c : Tab n 1000040 C
  f0 : Bare n F
  w0 : Bare n W
abbrev layD (n : Nat) (p : Nat → Nat) : D := .tup (tabl n fun i => .int (p i : Nat))
structure Perm (n : Nat) (p : Nat → Nat) : Prop where
  lt : ∀ i, i < n → p i < n
  inj : ∀ i j, i < n → j < n → p i = p j → i = j
structure Part (n : Nat) (q : Nat → Option Nat) : Prop where
  lt : ∀ i a, i < n → q i = some a → a < n
  inj : ∀ i j a, i < n → j < n → q i = some a → q j = some a → i = j
end DCA

namespace PC
structure Paired (n : Nat) (cc : Nat → Nat → Int) (r : Nat) (u v : Nat → Int) (p : Nat → Nat) : Prop where
  lt : ∀ j, 1 ≤ j → j ≤ n → p j < r
  inj : ∀ j k, 1 ≤ j → j ≤ n → 1 ≤ k → k ≤ n → p j = p k → p j ≠ 0 → j = k
  sur : ∀ i, 1 ≤ i → i < r → ∃ j, 1 ≤ j ∧ j ≤ n ∧ p j = i
  feas : ∀ i j, 1 ≤ i → i < r → 1 ≤ j → j ≤ n → u i + v j ≤ cc i j
  tight : ∀ j, 1 ≤ j → j ≤ n → p j ≠ 0 → u (p j) + v j = cc (p j) j
structure Look (n : Nat) (cc : Nat → Nat → Int) (r k : Nat) (u v : Nat → Int) (p w : Nat → Nat) (S : Nat → Bool) (mv : Nat → Option Int) (here : Nat) (rk : Nat → Nat) : Prop where
  lt : ∀ j, 1 ≤ j → j ≤ n → p j < r
  inj : ∀ j k, 1 ≤ j → j ≤ n → 1 ≤ k → k ≤ n → p j = p k → p j ≠ 0 → j = k
  sur : ∀ i, 1 ≤ i → i < r → ∃ j, 1 ≤ j ∧ j ≤ n ∧ p j = i
  p0 : p 0 = r
  r1 : 1 ≤ r
  sn : ∀ j, S j = true → j ≤ n
  hn : here ≤ n
  hS : S here = false
  h0 : here = 0 → k = 0 ∧ ∀ j, S j = false
  hk : here ≠ 0 → 1 ≤ k ∧ S 0 = true
  sp : ∀ j, S j = true → p j ≠ 0
  feas : ∀ i j, 1 ≤ i → i < r → 1 ≤ j → j ≤ n → u i + v j ≤ cc i j
  feasr : 1 ≤ k → ∀ j, 1 ≤ j → j ≤ n → u r + v j ≤ cc r j
  tight : ∀ j, 1 ≤ j → j ≤ n → p j ≠ 0 → u (p j) + v j = cc (p j) j
  none0 : k = 0 → ∀ j, mv j = none
  mvs : 1 ≤ k → ∀ j, 1 ≤ j → j ≤ n → S j = false → S (w j) = true ∧ mv j = some (cc (p (w j)) j - u (p (w j)) - v j) ∧ ∀ j', S j' = true → cc (p (w j)) j - u (p (w j)) - v j ≤ cc (p j') j - u (p j') - v j
  mvh : here ≠ 0 → mv here = some 0
  way : ∀ j, S j = true → j ≠ 0 → S (w j) = true ∧ rk (w j) < rk j ∧ cc (p (w j)) j = u (p (w j)) + v j
  rkl : ∀ j, S j = true → rk j < k
section
variable {n r k : Nat} {cc : Nat → Nat → Int} {u v : Nat → Int} {p w : Nat → Nat} {S : Nat → Bool} {mv : Nat → Option Int} {here : Nat} {rk : Nat → Nat}
theorem Paired.start (h : Paired n cc r u v p) (hr : 1 ≤ r) : Look n cc r 0 u v (fun j => if j = 0 then r else p j) w (fun _ => false) (fun _ => none) 0 (fun _ => 0) where
  lt := fun j h1 h2 => by rw [if_neg (by omega)]; exact h.lt j h1 h2
  inj := fun j k h1 h2 h3 h4 => by rw [if_neg (by omega), if_neg (by omega)]; exact h.inj j k h1 h2 h3 h4
  sur := fun i h1 h2 => by
    obtain ⟨j, a, b, e⟩ := h.sur i h1 h2
    exact ⟨j, a, b, by rw [if_neg (by omega)]; exact e⟩
  p0 := if_pos rfl
  r1 := hr
  sn := fun j h => nomatch h
  hn := Nat.zero_le n
  hS := rfl
  h0 := fun _ => ⟨rfl, fun _ => rfl⟩
  hk := fun h => absurd rfl h
  sp := fun j h => nomatch h
  feas := h.feas
  feasr := fun h => absurd h (by omega)
  tight := fun j h1 h2 => by rw [if_neg (by omega)]; exact h.tight j h1 h2
  none0 := fun _ _ => rfl
  mvs := fun h => absurd h (by omega)
  mvh := fun h => absurd rfl h
  way := fun j h => nomatch h
  rkl := fun j h => nomatch h
theorem Look.free (h : Look n cc r k u v p w S mv here rk) (hr : r ≤ n) : ∃ j, 1 ≤ j ∧ j ≤ n ∧ p j = 0 := by
  apply Classical.byContradiction
  intro hno
  have hall : ∀ j, 1 ≤ j → j ≤ n → p j ≠ 0 := fun j a b e => hno ⟨j, a, b, e⟩
  have h1 := PA.nodup_tabl (n := n) (p := fun j => p (j + 1) - 1) fun i j hi hj e => by
    have e : p (i + 1) - 1 = p (j + 1) - 1 := e
    have a := hall (i + 1) (by omega) (by omega)
    have b := hall (j + 1) (by omega) (by omega)
    have := h.inj (i + 1) (j + 1) (by omega) (by omega) (by omega) (by omega) (by omega) a
    omega
  have h2 := PA.pigeon (r - 1) _ h1 fun x hx => by
    obtain ⟨j, hj, e⟩ := List.mem_map.mp hx
    have hj := List.mem_range.mp hj
    have a := hall (j + 1) (by omega) (by omega)
    have b := h.lt (j + 1) (by omega) (by omega)
    have e : p (j + 1) - 1 = x := e
    omega
  rw [DL.tabl_len] at h2
  have := h.r1
  omega
def curO (cc : Nat → Nat → Int) (u v : Nat → Int) (i : Nat) (j : Nat) : Int := cc i j - u i - v j
def mvN (x : Int) : Option Int → Int
  | none => x
  | some m => if x < m then x else m
def wyN (x : Int) (here old : Nat) : Option Int → Nat
  | none => here
  | some m => if x < m then here else old
theorem mvN_le {x : Int} {o : Option Int} : mvN x o ≤ x := by
  cases o with
  | none => exact Int.le_refl _
  | some m =>
    show (if x < m then x else m) ≤ x
    split <;> omega
theorem Look.step (h : Look n cc r k u v p w S mv here rk) (hp : p here ≠ 0) {nn : Nat} {d : Int} {u' v' : Nat → Int} {w' : Nat → Nat} {S' : Nat → Bool} {mv' : Nat → Option Int}
    (hS' : ∀ j, S' j = (S j || decide (j = here)))
    (hn1 : 1 ≤ nn) (hn2 : nn ≤ n) (hnS : S' nn = false)
    (hd : d = mvN (curO cc u v (p here) nn) (mv nn))
    (hmin : ∀ j, 1 ≤ j → j ≤ n → S' j = false → d ≤ mvN (curO cc u v (p here) j) (mv j))
    (hw1 : ∀ j, 1 ≤ j → j ≤ n → S' j = false → w' j = wyN (curO cc u v (p here) j) here (w j) (mv j))
    (hw2 : ∀ j, S' j = true → w' j = w j)
    (hu1 : ∀ j, S' j = true → u' (p j) = u (p j) + d)
    (hu2 : ∀ i, (∀ j, S' j = true → p j ≠ i) → u' i = u i)
    (hv : ∀ j, v' j = if S' j = true then v j - d else v j)
    (hm : ∀ j, 1 ≤ j → j ≤ n → S' j = false → mv' j = some (mvN (curO cc u v (p here) j) (mv j) - d)) :
    Look n cc r (k + 1) u' v' p w' S' mv' nn (fun j => if j = here then k else rk j) := by
  have s1 : ∀ {j}, S' j = true → S j = true ∨ j = here := fun {j} hj => by
    rw [hS' j, Bool.or_eq_true] at hj
    exact hj.imp id of_decide_eq_true
  have s2 : ∀ {j}, S j = true → S' j = true := fun {j} hj => by rw [hS' j, hj]; rfl
  have s3 : S' here = true := by rw [hS' here, decide_eq_true rfl, Bool.or_true]
  have s4 : ∀ {j}, S' j = false → S j = false ∧ j ≠ here := fun {j} hj => by
    rw [hS' j, Bool.or_eq_false_iff] at hj
    exact ⟨hj.1, of_decide_eq_false hj.2⟩
  have s0 : S' 0 = true := by
    by_cases c : here = 0
    · rw [← c]; exact s3
    · exact s2 (h.hk c).2
  have sp : ∀ {j}, S' j = true → p j ≠ 0 := fun {j} hj => by
    rcases s1 hj with a | a
    · exact h.sp j a
    · rw [a]; exact hp
  have sn : ∀ {j}, S' j = true → j ≤ n := fun {j} hj => by
    rcases s1 hj with a | a
    · exact h.sn j a
    · rw [a]; exact h.hn
  -- rows of seen columns
  have rows : ∀ {j}, S' j = true → 1 ≤ p j ∧ (p j = r ∨ p j < r) := fun {j} hj => by
    have a := sp hj
    by_cases c : j = 0
    · rw [c, h.p0]; exact ⟨h.r1, .inl rfl⟩
    · have := h.lt j (by omega) (sn hj)
      exact ⟨by omega, .inr this⟩
  -- prices are right for the rows of seen columns, but for the first time
  have ok : 1 ≤ k → ∀ {i j}, 1 ≤ i → (i = r ∨ i < r) → 1 ≤ j → j ≤ n → u i + v j ≤ cc i j := fun hk {i j} h1 h2 h3 h4 => by
    rcases h2 with e | e
    · rw [e]; exact h.feasr hk j h3 h4
    · exact h.feas i j h1 e h3 h4
  have mv0 : ∀ {j}, 1 ≤ k → 1 ≤ j → j ≤ n → S' j = false → 0 ≤ mvN (curO cc u v (p here) j) (mv j) := fun {j} hk h1 h2 h3 => by
    obtain ⟨q1, q2, q3⟩ := h.mvs hk j h1 h2 (s4 h3).1
    have a := ok hk (rows s3).1 (rows s3).2 h1 h2
    have b := ok hk (rows (s2 q1)).1 (rows (s2 q1)).2 h1 h2
    rw [q2]
    show 0 ≤ if _ < _ then _ else _
    unfold curO
    split <;> omega
  have mvle : ∀ {j j'}, 1 ≤ j → j ≤ n → S' j = false → S' j' = true → mvN (curO cc u v (p here) j) (mv j) ≤ cc (p j') j - u (p j') - v j := fun {j j'} h1 h2 h3 h4 => by
    rcases s1 h4 with a | a
    · have hk : 1 ≤ k := by
        by_cases c : here = 0
        · rw [(h.h0 c).2 j'] at a; cases a
        · exact (h.hk c).1
      obtain ⟨q1, q2, q3⟩ := h.mvs hk j h1 h2 (s4 h3).1
      have := q3 j' a
      rw [q2]
      show (if _ < _ then _ else _) ≤ _
      split <;> omega
    · rw [a]; exact mvN_le
  have d0 : 1 ≤ k → 0 ≤ d := fun hk => by rw [hd]; exact mv0 hk hn1 hn2 hnS
  have mvat : ∀ {j}, 1 ≤ j → j ≤ n → S' j = false → S' (w' j) = true ∧ mvN (curO cc u v (p here) j) (mv j) = cc (p (w' j)) j - u (p (w' j)) - v j := fun {j} h1 h2 h3 => by
    rw [hw1 j h1 h2 h3]
    cases e : mv j with
    | none => exact ⟨s3, rfl⟩
    | some m =>
      by_cases c : curO cc u v (p here) j < m
      · have e1 : wyN (curO cc u v (p here) j) here (w j) (some m) = here := if_pos c
        have e2 : mvN (curO cc u v (p here) j) (some m) = curO cc u v (p here) j := if_pos c
        rw [e1, e2]; exact ⟨s3, rfl⟩
      · have e1 : wyN (curO cc u v (p here) j) here (w j) (some m) = w j := if_neg c
        have e2 : mvN (curO cc u v (p here) j) (some m) = m := if_neg c
        rw [e1, e2]
        have hk : 1 ≤ k := by
          by_cases z : k = 0
          · rw [h.none0 z j] at e; cases e
          · omega
        obtain ⟨q1, q2, _⟩ := h.mvs hk j h1 h2 (s4 h3).1
        rw [q2] at e
        exact ⟨s2 q1, (Option.some.inj e).symm⟩
  -- a row of a column not seen is none of a seen one
  have other : ∀ {j}, 1 ≤ j → j ≤ n → S' j = false → p j ≠ 0 → ∀ j', S' j' = true → p j' ≠ p j := fun {j} h1 h2 h3 h4 j' h5 e => by
    by_cases c : j' = 0
    · rw [c, h.p0] at e
      have := h.lt j h1 h2
      omega
    · have := h.inj j j' h1 h2 (by omega) (sn h5) e.symm h4
      rw [this, h5] at h3; cases h3
  have bothin : ∀ {j j'}, S' j = true → S' j' = true → u' (p j) + v' j' = u (p j) + v j' := fun {j j'} a b => by
    rw [hu1 j a, hv j', if_pos b]; omega
  have feas' : ∀ {i j}, 1 ≤ i → (i = r ∨ i < r) → 1 ≤ j → j ≤ n → u' i + v' j ≤ cc i j := fun {i j} h1 h2 h3 h4 => by
    by_cases ci : ∃ j', S' j' = true ∧ p j' = i
    · obtain ⟨j', a, e⟩ := ci
      subst e
      cases cj : S' j with
      | true =>
        rw [bothin a cj]
        have hk : 1 ≤ k := by
          rcases s1 cj with z | z
          · by_cases c : here = 0
            · rw [(h.h0 c).2 j] at z; cases z
            · exact (h.hk c).1
          · exact (h.hk (by omega)).1
        exact ok hk h1 h2 h3 h4
      | false =>
        rw [hu1 j' a, hv j, if_neg (by rw [cj]; exact Bool.false_ne_true)]
        have := mvle h3 h4 cj a
        have := hmin j h3 h4 cj
        omega
    · have hi : ∀ j', S' j' = true → p j' ≠ i := fun j' a e => ci ⟨j', a, e⟩
      have hir : i ≠ r := fun e => hi 0 s0 (by rw [h.p0, e])
      have hlt : i < r := by omega
      rw [hu2 i hi, hv j]
      have a := h.feas i j h1 hlt h3 h4
      cases cj : S' j with
      | true =>
        rw [if_pos rfl]
        have hk : 1 ≤ k := by
          rcases s1 cj with z | z
          · by_cases c : here = 0
            · rw [(h.h0 c).2 j] at z; cases z
            · exact (h.hk c).1
          · exact (h.hk (by omega)).1
        have := d0 hk
        omega
      | false => rw [if_neg Bool.false_ne_true]; exact a
  refine ⟨h.lt, h.inj, h.sur, h.p0, h.r1, fun j => sn, hn2, hnS, fun e => absurd e (by omega), fun _ => ⟨by omega, s0⟩, fun j => sp, fun i j h1 h2 => feas' h1 (.inr h2), fun _ j h1 h2 => feas' h.r1 (.inl rfl) h1 h2, fun j h1 h2 h3 => ?_, fun e => by omega, fun _ j h1 h2 h3 => ?_, fun _ => ?_, fun j h1 h2 => ?_, fun j h1 => ?_⟩
  · cases cj : S' j with
    | true => rw [bothin cj cj]; exact h.tight j h1 h2 h3
    | false =>
      rw [hu2 (p j) (other h1 h2 cj h3), hv j, if_neg (by rw [cj]; exact Bool.false_ne_true)]
      exact h.tight j h1 h2 h3
  · obtain ⟨a, b⟩ := mvat h1 h2 h3
    have hvj : v' j = v j := by rw [hv j, if_neg (by rw [h3]; exact Bool.false_ne_true)]
    refine ⟨a, ?_, fun j' h4 => ?_⟩
    · rw [hm j h1 h2 h3, hu1 _ a, hvj, b]
      congr 1
      omega
    · rw [hu1 _ a, hu1 _ h4, hvj]
      have := mvle h1 h2 h3 h4
      omega
  · rw [hm nn hn1 hn2 hnS, ← hd]
    congr 1
    omega
  · rw [hw2 j h1]
    rcases s1 h1 with a | a
    · obtain ⟨q1, q2, q3⟩ := h.way j a h2
      have e1 : j ≠ here := fun z => by rw [z, h.hS] at a; cases a
      have e2 : w j ≠ here := fun z => by rw [z, h.hS] at q1; cases q1
      refine ⟨s2 q1, ?_, ?_⟩
      · show (if w j = here then k else rk (w j)) < if j = here then k else rk j
        rw [if_neg e1, if_neg e2]; exact q2
      · rw [q3, ← bothin (s2 q1) h1]
    · have hh : here ≠ 0 := a ▸ h2
      obtain ⟨q1, q2, _⟩ := h.mvs (h.hk hh).1 here (by omega) h.hn h.hS
      rw [h.mvh hh] at q2
      have q2 := Option.some.inj q2
      have e2 : w here ≠ here := fun z => by rw [z, h.hS] at q1; cases q1
      rw [a]
      refine ⟨s2 q1, ?_, ?_⟩
      · show (if w here = here then k else rk (w here)) < if here = here then k else rk here
        rw [if_neg e2, if_pos rfl]; exact h.rkl _ q1
      · rw [bothin (s2 q1) s3]; omega
  · show (if j = here then k else rk j) < k + 1
    by_cases c : j = here
    · rw [if_pos c]; omega
    · rw [if_neg c]
      rcases s1 h1 with a | a
      · have := h.rkl j a; omega
      · exact absurd a c
theorem Look.le (h : Look n cc r k u v p w S mv here rk) (hr : r ≤ n) {a : Nat} (ha : a ≤ n) : p a ≤ n := by
  by_cases x : a = 0
  · rw [x, h.p0]; exact hr
  · have := h.lt a (by omega) ha
    omega
def cnt (S : Nat → Bool) : Nat → Nat
  | 0 => 0
  | m + 1 => cnt S m + if S m = true then 0 else 1
structure Path (r k : Nat) (P w : Nat → Nat) (S : Nat → Bool) (here : Nat) (rk : Nat → Nat) (h : Nat) (V : Nat → Bool) (pc : Nat → Nat) : Prop where
  hs : S h = true ∨ h = here
  v1 : ∀ j, V j = true → (S j = true ∨ j = here) ∧ j ≠ 0 ∧ (if h = here then k else rk h) < (if j = here then k else rk j)
  v2 : ∀ j, V j = true → w j = h ∨ V (w j) = true
  v3 : ∀ j, V j = true → j = here ∨ ∃ j2, V j2 = true ∧ w j2 = j
  v4 : ∀ j1 j2, V j1 = true → V j2 = true → w j1 = w j2 → j1 = j2
  v5 : h = here ∨ ∃ j2, V j2 = true ∧ w j2 = h
  pc : ∀ j, pc j = if V j = true then P (w j) else P j
theorem Path.start : Path r k p w S here rk here (fun _ => false) p where
  hs := .inr rfl
  v1 := fun j h => nomatch h
  v2 := fun j h => nomatch h
  v3 := fun j h => nomatch h
  v4 := fun j _ h => nomatch h
  v5 := .inl rfl
  pc := fun j => rfl
theorem Look.wayA (h : Look n cc r k u v p w S mv here rk) {j : Nat} (hj : S j = true ∨ j = here) (h0 : j ≠ 0) : S (w j) = true ∧ (if w j = here then k else rk (w j)) < (if j = here then k else rk j) ∧ cc (p (w j)) j = u (p (w j)) + v j := by
  have e2 : ∀ {i}, S i = true → i ≠ here := fun {i} q z => by rw [z, h.hS] at q; cases q
  rcases hj with a | a
  · obtain ⟨q1, q2, q3⟩ := h.way j a h0
    refine ⟨q1, ?_, q3⟩
    rw [if_neg (e2 q1), if_neg (e2 a)]; exact q2
  · have hh : here ≠ 0 := a ▸ h0
    obtain ⟨q1, q2, _⟩ := h.mvs (h.hk hh).1 here (by omega) h.hn h.hS
    rw [h.mvh hh] at q2
    have q2 := Option.some.inj q2
    rw [a]
    refine ⟨q1, ?_, by omega⟩
    rw [if_neg (e2 q1), if_pos rfl]
    exact h.rkl _ q1
theorem Path.step (h : Look n cc r k u v p w S mv here rk) {a : Nat} {V : Nat → Bool} {pc : Nat → Nat} (q : Path r k p w S here rk a V pc) (ha : a ≠ 0) :
    Path r k p w S here rk (w a) (fun j => V j || decide (j = a)) (fun j => if j = a then pc (w a) else pc j) ∧ (if w a = here then k else rk (w a)) < (if a = here then k else rk a) := by
  obtain ⟨w1, w2, w3⟩ := h.wayA q.hs ha
  have t1 : ∀ {j}, (V j || decide (j = a)) = true → V j = true ∨ j = a := fun {j} hj => by
    rw [Bool.or_eq_true] at hj
    exact hj.imp id of_decide_eq_true
  have t2 : ∀ {j}, V j = true → (V j || decide (j = a)) = true := fun {j} hj => by rw [hj]; rfl
  have t3 : (V a || decide (a = a)) = true := by rw [decide_eq_true rfl, Bool.or_true]
  have nv : ∀ {j}, V j = true → j ≠ a ∧ j ≠ w a := fun {j} hj => by
    have := (q.v1 j hj).2.2
    refine ⟨fun e => ?_, fun e => ?_⟩
    · rw [e] at this; omega
    · rw [e] at this; omega
  refine ⟨⟨.inl w1, fun j hj => ?_, fun j hj => ?_, fun j hj => ?_, fun j1 j2 h1 h2 e => ?_, .inr ⟨a, t3, rfl⟩, fun j => ?_⟩, w2⟩
  · rcases t1 hj with b | b
    · obtain ⟨x1, x2, x3⟩ := q.v1 j b
      exact ⟨x1, x2, by omega⟩
    · rw [b]; exact ⟨q.hs, ha, w2⟩
  · rcases t1 hj with b | b
    · rcases q.v2 j b with c | c
      · right; rw [c]; exact t3
      · exact .inr (t2 c)
    · rw [b]; exact .inl rfl
  · rcases t1 hj with b | b
    · rcases q.v3 j b with c | ⟨j2, c, d⟩
      · exact .inl c
      · exact .inr ⟨j2, t2 c, d⟩
    · rw [b]
      rcases q.v5 with c | ⟨j2, c, d⟩
      · exact .inl c
      · exact .inr ⟨j2, t2 c, d⟩
  · have far : ∀ {i}, V i = true → w i ≠ w a := fun {i} hi e => by
      rcases q.v2 i hi with c | c
      · rw [← e, c] at w2
        omega
      · exact (nv c).2 e
    rcases t1 h1 with b | b
    · rcases t1 h2 with c | c
      · exact q.v4 j1 j2 b c e
      · rw [c] at e; exact absurd e (far b)
    · rcases t1 h2 with c | c
      · rw [b] at e; exact absurd e.symm (far c)
      · rw [b, c]
  · show (if j = a then pc (w a) else pc j) = if (V j || decide (j = a)) = true then p (w j) else p j
    by_cases c : j = a
    · have e1 : V (w a) = false := by
        cases z : V (w a) with
        | true => exact absurd rfl (nv z).2
        | false => rfl
      rw [if_pos c, c, if_pos t3, q.pc (w a), if_neg (by rw [e1]; exact Bool.false_ne_true)]
    · rw [if_neg c, q.pc j, decide_eq_false c, Bool.or_false]
theorem Path.done (h : Look n cc r k u v p w S mv here rk) (hh : p here = 0) {V : Nat → Bool} {pc : Nat → Nat} (q : Path r k p w S here rk 0 V pc) : Paired n cc (r + 1) u v pc := by
  have h0 : here ≠ 0 := fun e => by
    rw [e, h.p0] at hh
    have := h.r1
    omega
  have vn : ∀ {j}, V j = true → S (w j) = true ∧ cc (p (w j)) j = u (p (w j)) + v j := fun {j} hj => by
    obtain ⟨x1, x2, _⟩ := q.v1 j hj
    obtain ⟨y1, _, y3⟩ := h.wayA x1 x2
    exact ⟨y1, y3⟩
  have jn : ∀ {j}, V j = true → 1 ≤ j ∧ j ≤ n := fun {j} hj => by
    obtain ⟨x1, x2, _⟩ := q.v1 j hj
    refine ⟨by omega, ?_⟩
    rcases x1 with a | a
    · exact h.sn j a
    · rw [a]; exact h.hn
  have at1 : ∀ {j}, V j = true → pc j = p (w j) := fun {j} hj => by rw [q.pc j, if_pos hj]
  have at0 : ∀ {j}, V j = false → pc j = p j := fun {j} hj => by rw [q.pc j, if_neg (by rw [hj]; exact Bool.false_ne_true)]
  have v5 : ∃ j2, V j2 = true ∧ w j2 = 0 := q.v5.resolve_left fun e => h0 e.symm
  have inS : ∀ {a b}, S a = true → S b = true → p a = p b → a = b := fun {a b} ha hb e => by
    by_cases c : a = 0
    · by_cases d : b = 0
      · rw [c, d]
      · have := h.lt b (by omega) (h.sn b hb)
        rw [c, h.p0] at e
        omega
    · by_cases d : b = 0
      · have := h.lt a (by omega) (h.sn a ha)
        rw [d, h.p0] at e
        omega
      · exact h.inj a b (by omega) (h.sn a ha) (by omega) (h.sn b hb) e (h.sp a ha)
  have mix : ∀ {j1 j2}, V j1 = true → V j2 = false → 1 ≤ j2 → j2 ≤ n → p (w j1) ≠ p j2 := fun {j1 j2} a b c d e => by
    obtain ⟨y1, _⟩ := vn a
    have hw0 : w j1 ≠ 0 := fun z => by
      rw [z, h.p0] at e
      have := h.lt j2 c d
      omega
    have e2 := h.inj (w j1) j2 (by omega) (h.sn _ y1) c d e (h.sp _ y1)
    rcases q.v2 j1 a with z | z
    · exact hw0 z
    · rw [e2, b] at z; cases z
  refine ⟨fun j h1 h2 => ?_, fun j1 j2 h1 h2 h3 h4 e e0 => ?_, fun i h1 h2 => ?_, fun i j h1 h2 h3 h4 => ?_, fun j h1 h2 h3 => ?_⟩
  · cases c : V j with
    | true =>
      rw [at1 c]
      obtain ⟨y1, _⟩ := vn c
      by_cases d : w j = 0
      · rw [d, h.p0]; omega
      · have := h.lt (w j) (by omega) (h.sn _ y1); omega
    | false =>
      rw [at0 c]
      have := h.lt j h1 h2; omega
  · cases c : V j1 with
    | true =>
      cases d : V j2 with
      | true =>
        rw [at1 c, at1 d] at e
        exact q.v4 j1 j2 c d (inS (vn c).1 (vn d).1 e)
      | false =>
        rw [at1 c, at0 d] at e
        exact absurd e (mix c d h3 h4)
    | false =>
      cases d : V j2 with
      | true =>
        rw [at0 c, at1 d] at e
        exact absurd e.symm (mix d c h1 h2)
      | false =>
        rw [at0 c] at e e0
        rw [at0 d] at e
        exact h.inj j1 j2 h1 h2 h3 h4 e e0
  · by_cases c : i = r
    · obtain ⟨j2, a, b⟩ := v5
      exact ⟨j2, (jn a).1, (jn a).2, by rw [at1 a, b, h.p0, c]⟩
    · obtain ⟨j, a, b, e⟩ := h.sur i h1 (by omega)
      cases d : V j with
      | true =>
        rcases q.v3 j d with z | ⟨j2, y, z⟩
        · rw [z, hh] at e; omega
        · exact ⟨j2, (jn y).1, (jn y).2, by rw [at1 y, z, e]⟩
      | false => exact ⟨j, a, b, by rw [at0 d, e]⟩
  · by_cases c : i = r
    · rw [c]; exact h.feasr (h.hk h0).1 j h3 h4
    · exact h.feas i j h1 (by omega) h3 h4
  · cases c : V j with
    | true =>
      rw [at1 c]
      exact (vn c).2.symm
    | false =>
      rw [at0 c] at h3 ⊢
      exact h.tight j h1 h2 h3
end
open DL (sumR)
theorem sumR_swap {n m : Nat} {g : Nat → Nat → Int} : sumR n (fun i => sumR m (g i)) = sumR m fun j => sumR n fun i => g i j := by
  induction n with
  | zero => exact (PA.sumR_zero' fun _ _ => rfl).symm
  | succ n ih =>
    rw [DL.sumR_succ, ih, ← DL.sumR_add]
    exact DL.sumR_congr fun j _ => (DL.sumR_succ n fun i => g i j).symm
theorem sumR_one {n a : Nat} {x : Int} (ha : a < n) : sumR n (fun i => if i = a then x else 0) = x := by
  rw [PA.sumR_out ha, if_pos rfl, PA.sumR_zero' fun i _ => by split <;> simp_all]
  omega
theorem sumR_perm {n : Nat} {q b : Nat → Nat} {f : Nat → Int} (hq : ∀ i, i < n → q i < n) (hb : ∀ j, j < n → b j < n) (h1 : ∀ i, i < n → b (q i) = i) (h2 : ∀ j, j < n → q (b j) = j) : sumR n (fun i => f (q i)) = sumR n f := by
  have e1 : sumR n (fun i => f (q i)) = sumR n fun i => sumR n fun j => if j = q i then f j else 0 := DL.sumR_congr fun i hi => by
    have := sumR_one (n := n) (x := f (q i)) (hq i hi)
    rw [← this]
    refine DL.sumR_congr fun j _ => ?_
    by_cases c : j = q i
    · rw [if_pos c, if_pos c, c]
    · rw [if_neg c, if_neg c]
  rw [e1, sumR_swap]
  refine DL.sumR_congr fun j hj => ?_
  refine (DL.sumR_congr fun i hi => ?_).trans (sumR_one (n := n) (x := f j) (hb j hj))
  by_cases c : j = q i
  · rw [if_pos c, if_pos (by rw [c, h1 i hi])]
  · rw [if_neg c, if_neg fun z => c (by rw [z, h2 j hj])]
theorem Paired.fin {n : Nat} {cc : Nat → Nat → Int} {u v : Nat → Int} {p q : Nat → Nat} (h : Paired n cc (n + 1) u v p) (hp : ∀ j, 1 ≤ j → j ≤ n → p j ≠ 0) (hq : ∀ j, 1 ≤ j → j ≤ n → q (p j - 1) = j - 1) :
    (∀ i, i < n → q i < n) ∧ (∀ i j, i < n → j < n → q i = q j → i = j) ∧ sumR n (fun i => cc (i + 1) (q i + 1)) = sumR n (fun i => u (i + 1)) + sumR n (fun j => v (j + 1)) := by
  have hb : ∀ j, j < n → p (j + 1) - 1 < n := fun j hj => by
    have := h.lt (j + 1) (by omega) (by omega)
    have := hp (j + 1) (by omega) (by omega)
    omega
  have inv : ∀ i, i < n → ∃ j, j < n ∧ p (j + 1) = i + 1 := fun i hi => by
    obtain ⟨j, a, b, e⟩ := h.sur (i + 1) (by omega) (by omega)
    exact ⟨j - 1, by omega, by rw [show j - 1 + 1 = j by omega]; exact e⟩
  have h2 : ∀ j, j < n → q (p (j + 1) - 1) = j := fun j hj => hq (j + 1) (by omega) (by omega)
  have qi : ∀ i, i < n → q i < n ∧ p (q i + 1) = i + 1 := fun i hi => by
    obtain ⟨j, a, e⟩ := inv i hi
    have := h2 j a
    rw [e] at this
    have this : q i = j := this
    rw [this]
    exact ⟨a, e⟩
  refine ⟨fun i hi => (qi i hi).1, fun i j hi hj e => ?_, ?_⟩
  · have a := (qi i hi).2
    have b := (qi j hj).2
    rw [e, b] at a
    omega
  · have e1 : sumR n (fun i => cc (i + 1) (q i + 1)) = sumR n fun i => u (i + 1) + v (q i + 1) := DL.sumR_congr fun i hi => by
      obtain ⟨a, b⟩ := qi i hi
      have := h.tight (q i + 1) (by omega) (by omega) (by omega)
      rw [b] at this
      exact this.symm
    rw [e1, DL.sumR_add]
    congr 1
    refine sumR_perm (f := fun j => v (j + 1)) (b := fun j => p (j + 1) - 1) (fun i hi => (qi i hi).1) hb (fun i hi => ?_) fun j hj => h2 j hj
    show p (q i + 1) - 1 = i
    rw [(qi i hi).2]; rfl
theorem Paired.full {n : Nat} {cc : Nat → Nat → Int} {u v : Nat → Int} {p : Nat → Nat} (h : Paired n cc (n + 1) u v p) : ∀ j, 1 ≤ j → j ≤ n → p j ≠ 0 := fun j h1 h2 e => by
  -- n rows at n - 1 columns
  have ch : ∀ i, i < n → ∃ j', 1 ≤ j' ∧ j' ≤ n ∧ p j' = i + 1 := fun i hi => h.sur (i + 1) (by omega) (by omega)
  let g : Nat → Nat := fun i => if hi : i < n then Classical.choose (ch i hi) else 0
  have hg : ∀ i, i < n → 1 ≤ g i ∧ g i ≤ n ∧ p (g i) = i + 1 := fun i hi => by
    have : g i = Classical.choose (ch i hi) := dif_pos hi
    rw [this]
    exact Classical.choose_spec (ch i hi)
  have nd := PA.nodup_tabl (n := n) (p := fun i => g i - 1) fun a b ha hb e => by
    obtain ⟨x1, x2, x3⟩ := hg a ha
    obtain ⟨y1, y2, y3⟩ := hg b hb
    have e : g a - 1 = g b - 1 := e
    have : g a = g b := by omega
    rw [this, y3] at x3
    omega
  have nin : j - 1 ∉ DL.tabl n fun i => g i - 1 := fun z => by
    obtain ⟨i, hi, e2⟩ := List.mem_map.mp z
    have hi := List.mem_range.mp hi
    obtain ⟨x1, x2, x3⟩ := hg i hi
    have e2 : g i - 1 = j - 1 := e2
    have : g i = j := by omega
    rw [this, e] at x3
    omega
  have := PA.pigeon n ((j - 1) :: DL.tabl n fun i => g i - 1) (List.nodup_cons.mpr ⟨nin, nd⟩) fun x hx => by
    rcases List.mem_cons.mp hx with z | z
    · omega
    · obtain ⟨i, hi, e2⟩ := List.mem_map.mp z
      have hi := List.mem_range.mp hi
      obtain ⟨x1, x2, x3⟩ := hg i hi
      have e2 : g i - 1 = x := e2
      omega
  rw [List.length_cons, DL.tabl_len] at this
  omega
end PC

namespace DCK
open PySem PySem.Spec PyProof.Rows L2 DL
noncomputable section
def sem_Pairer___init__ : SF :=
  (sSeq (sFldN "Pairer" [] "table" (eMv 1) (plVar 0))
    (sSeq (sFldN "Pairer" ["table"] "left" (eP (pOp oMul (pLst (gCons (pC (.int 0)) gNil)) (pOp oAdd (pCall oLen (gCons (pVar 1) gNil)) (pC (.int 1))))) (plVar 0))
    (sSeq (sFldN "Pairer" ["table", "left"] "right" (eP (pOp oMul (pLst (gCons (pC (.int 0)) gNil)) (pOp oAdd (pCall oLen (gCons (pVar 1) gNil)) (pC (.int 1))))) (plVar 0))
    (sSeq (sFldN "Pairer" ["table", "left", "right"] "held" (eP (pOp oMul (pLst (gCons (pC (.int 0)) gNil)) (pOp oAdd (pCall oLen (gCons (pVar 1) gNil)) (pC (.int 1))))) (plVar 0))
    (sFldN "Pairer" ["table", "left", "right", "held"] "came" (eP (pOp oMul (pLst (gCons (pC (.int 0)) gNil)) (pOp oAdd (pCall oLen (gCons (pVar 1) gNil)) (pC (.int 1))))) (plVar 0))))))
@[irreducible] def cf_Pairer___init__ : CF := hid (cfOf 0 [true, false] sem_Pairer___init__)
def sem_Pairer_over : SF :=
  (sRet (eP (pOp oSub (pOp oSub (pOp xIx (pOp xIx (pFld "Pairer" ["table", "left", "right", "held", "came"] 0 (pVar 0)) (pOp oSub (pVar 1) (pC (.int 1)))) (pOp oSub (pVar 2) (pC (.int 1)))) (pOp xIx (pFld "Pairer" ["table", "left", "right", "held", "came"] 1 (pVar 0)) (pVar 1))) (pOp xIx (pFld "Pairer" ["table", "left", "right", "held", "came"] 2 (pVar 0)) (pVar 2)))))
@[irreducible] def cf_Pairer_over : CF := hid (cfOf 0 [false, false, false] sem_Pairer_over)
def sem_Pairer_looked : SF :=
  (sSeq (sSet 4 (eP (pC (.int 0))))
    (sSeq (sForR (jR2 (gCons (pC (.int 1)) (gCons (pCall oLen (gCons (pVar 2) gNil)) gNil))) (gNm 5) (sIf (teP (tNot (pTest (pOp xIx (pVar 3) (pVar 5))))) (sSeq (sSet 6 (eP (pMeth "Pairer" ["table", "left", "right", "held", "came"] cf_Pairer_over (pVar 0) (gCons (pOp xIx (pFld "Pairer" ["table", "left", "right", "held", "came"] 3 (pVar 0)) (pVar 1)) (gCons (pVar 5) gNil)))))
    (sBar (sSeq (sIf (teP (tOr (pTest (pOp oIsN (pOp xIx (pVar 2) (pVar 5)) (pC .non))) (pTest (pOp oLt (pVar 6) (pOp xIx (pVar 2) (pVar 5)))))) (sSeq (sStIxX (eMv 6) (plVar 2) (pVar 5))
    (sStIxX (eMv 1) (plFld "Pairer" ["table", "left", "right", "held", "came"] 4 (plVar 0)) (pVar 5))) sNil)
    (sBar (sIf (teP (tOr (pTest (pOp oEq (pVar 4) (pC (.int 0)))) (pTest (pOp oLt (pOp xIx (pVar 2) (pVar 5)) (pOp xIx (pVar 2) (pVar 4)))))) (sSet 4 (eMv 5)) sNil))))) sNil))
    (sRet (eMv 4))))
@[irreducible] def cf_Pairer_looked : CF := hid (cfOf 3 [true, false, true, false] sem_Pairer_looked)
def sem_Pairer_moved : SF :=
  (sForR (jR1 (gCons (pCall oLen (gCons (pVar 1) gNil)) gNil)) (gNm 4) (sIf (teP (pTest (pOp xIx (pVar 2) (pVar 4)))) (sSeq (sStIxX (eP (pOp oAdd (pOp xIx (pFld "Pairer" ["table", "left", "right", "held", "came"] 1 (pVar 0)) (pOp xIx (pFld "Pairer" ["table", "left", "right", "held", "came"] 3 (pVar 0)) (pVar 4))) (pVar 3))) (plFld "Pairer" ["table", "left", "right", "held", "came"] 1 (plVar 0)) (pOp xIx (pFld "Pairer" ["table", "left", "right", "held", "came"] 3 (pVar 0)) (pVar 4)))
    (sStIxX (eP (pOp oSub (pOp xIx (pFld "Pairer" ["table", "left", "right", "held", "came"] 2 (pVar 0)) (pVar 4)) (pVar 3))) (plFld "Pairer" ["table", "left", "right", "held", "came"] 2 (plVar 0)) (pVar 4))) (sIf (teP (pTest (pOp oNotN (pOp xIx (pVar 1) (pVar 4)) (pC .non)))) (sStIxX (eP (pOp oSub (pOp xIx (pVar 1) (pVar 4)) (pVar 3))) (plVar 1) (pVar 4)) sNil)))
@[irreducible] def cf_Pairer_moved : CF := hid (cfOf 1 [true, true, false, false] sem_Pairer_moved)
theorem cf_Pairer_moved_eq : cf_Pairer_moved = cfOf 1 [true, true, false, false] sem_Pairer_moved := by unfold cf_Pairer_moved; rw [hid_eq]
def sem_Pairer_pair : SF :=
  (sSeq (sStIxX (eMv 1) (plFld "Pairer" ["table", "left", "right", "held", "came"] 3 (plVar 0)) (pC (.int 0)))
    (sSeq (sSet 2 (eP (pC (.int 0))))
    (sSeq (sSet 3 (eP (pOp oMul (pLst (gCons (pC .non) gNil)) (pCall oLen (gCons (pFld "Pairer" ["table", "left", "right", "held", "came"] 3 (pVar 0)) gNil)))))
    (sSeq (sSet 4 (eP (pOp oMul (pLst (gCons (pC (.bl false)) gNil)) (pCall oLen (gCons (pFld "Pairer" ["table", "left", "right", "held", "came"] 3 (pVar 0)) gNil)))))
    (sBar (sSeq (sWhileX (teP (pTest (pOp oNe (pOp xIx (pFld "Pairer" ["table", "left", "right", "held", "came"] 3 (pVar 0)) (pVar 2)) (pC (.int 0))))) (sSeq (sStIxX (eP (pC (.bl true))) (plVar 4) (pVar 2))
    (sBar (sSeq (sVs 4 (sSet 5 (eMeth 0 "Pairer" ["table", "left", "right", "held", "came"] [true, false, true, false] cf_Pairer_looked (aE (eMv 2) (aPl 3 (aE (eMv 4) aNil))))))
    (sBar (sSeq (sVs 4 (sExpr (eMeth 0 "Pairer" ["table", "left", "right", "held", "came"] [true, true, false, false] cf_Pairer_moved (aPl 3 (aE (eMv 4) (aE (eP (pOp xIx (pVar 3) (pVar 5))) aNil))))))
    (sBar (sSet 2 (eMv 5)))))))))
    (sBar (sWhileX (teP (pTest (pOp oNe (pVar 2) (pC (.int 0))))) (sSeq (sStIxX (eP (pOp xIx (pFld "Pairer" ["table", "left", "right", "held", "came"] 3 (pVar 0)) (pOp xIx (pFld "Pairer" ["table", "left", "right", "held", "came"] 4 (pVar 0)) (pVar 2)))) (plFld "Pairer" ["table", "left", "right", "held", "came"] 3 (plVar 0)) (pVar 2))
    (sBar (sSet 2 (eP (pOp xIx (pFld "Pairer" ["table", "left", "right", "held", "came"] 4 (pVar 0)) (pVar 2))))))))))))))
@[irreducible] def cf_Pairer_pair : CF := hid (cfOf 4 [true, false] sem_Pairer_pair)
def sem_pairing : SF :=
  (sSeq (sSet 1 (eP (pMake "Pairer" cf_Pairer___init__ (gCons (pVar 0) gNil))))
    (sSeq (sForX (jR2 (gCons (pC (.int 1)) (gCons (pOp oAdd (pCall oLen (gCons (pVar 0) gNil)) (pC (.int 1))) gNil))) (gNm 2) (sExpr (eMeth 1 "Pairer" ["table", "left", "right", "held", "came"] [true, false] cf_Pairer_pair (aE (eMv 2) aNil))))
    (sSeq (sSet 3 (eP (pOp oMul (pLst (gCons (pC (.int 0)) gNil)) (pCall oLen (gCons (pVar 0) gNil)))))
    (sBar (sSeq (sForX (jR2 (gCons (pC (.int 1)) (gCons (pOp oAdd (pCall oLen (gCons (pVar 0) gNil)) (pC (.int 1))) gNil))) (gNm 4) (sStIxX (eP (pOp oSub (pVar 4) (pC (.int 1)))) (plVar 3) (pOp oSub (pOp xIx (pFld "Pairer" ["table", "left", "right", "held", "came"] 3 (pVar 1)) (pVar 4)) (pC (.int 1)))))
    (sBar (sSeq (sSet 5 (eP (pCall oSum (gCons (pLcX (iEn (gCons (pVar 3) gNil)) [2, 4] (gTu 2 (tConsG (gNm 2) (tConsG (gNm 4) tNilG))) tNilP (pOp xIx (pOp xIx (pVar 0) (pVar 2)) (pVar 4))) gNil))))
    (sRet (eP (pTup (gCons (pVar 5) (gCons (pCall oTuple (gCons (pVar 3) gNil)) (gCons (pSlF (pFld "Pairer" ["table", "left", "right", "held", "came"] 1 (pVar 1)) (oP (pC (.int 1))) oNoP) (gCons (pSlF (pFld "Pairer" ["table", "left", "right", "held", "came"] 2 (pVar 1)) (oP (pC (.int 1))) oNoP) gNil))))))))))))))
@[irreducible] def cf_pairing : CF := hid (cfOf 5 [false] sem_pairing)
end
end DCK

namespace DCK
open PySem PySem.Spec PyProof.Rows L2 DL PC
abbrev tbD (n : Nat) (c : Nat → Nat → Int) : D := .tup (tabl n fun i => .tup (tabl n fun j => .int (c i j)))
abbrev arI (n : Nat) (u : Nat → Int) : D := .lst (tabl (n + 1) fun i => .int (u i))
abbrev arN (n : Nat) (p : Nat → Nat) : D := .lst (tabl (n + 1) fun i => .int (p i : Nat))
def oI : Option Int → D
  | none => .non
  | some x => .int x
abbrev spD (n : Nat) (mv : Nat → Option Int) : D := .lst (tabl (n + 1) fun i => oI (mv i))
abbrev seD (n : Nat) (S : Nat → Bool) : D := .lst (tabl (n + 1) fun i => .bl (S i))
abbrev prD (n : Nat) (c : Nat → Nat → Int) (u v : Nat → Int) (p w : Nat → Nat) : D := .obj "Pairer" ["table", "left", "right", "held", "came"] [tbD n c, arI n u, arI n v, arN n p, arN n w]
abbrev c1 (c : Nat → Nat → Int) (i j : Nat) : Int := c (i - 1) (j - 1)
variable {n : Nat} {c : Nat → Nat → Int} {u v : Nat → Int} {p w : Nat → Nat}
theorem ifT {b : Bool} {p q : Prop} (e : b = true) (h : p) : if b = true then p else q := by rw [if_pos e]; exact h
theorem ifF {b : Bool} {p q : Prop} (e : b = false) (h : q) : if b = true then p else q := by rw [e, if_neg (by decide)]; exact h
noncomputable section
end
theorem itD {m a : Nat} {x : Int} {f : Nat → Int} : (tabl m fun i => if i = a then D.int x else D.int (f i)) = tabl m fun i => D.int (if i = a then x else f i) := tabl_congr fun i _ => by
  by_cases c : i = a
  · rw [if_pos c, if_pos c]
  · rw [if_neg c, if_neg c]
theorem itO {m a : Nat} {x : Int} {f : Nat → Option Int} : (tabl m fun i => if i = a then D.int x else oI (f i)) = tabl m fun i => oI (if i = a then some x else f i) := tabl_congr fun i _ => by
  by_cases c : i = a
  · rw [if_pos c, if_pos c]; rfl
  · rw [if_neg c, if_neg c]
theorem moved_spec {mv : Nat → Option Int} {S : Nat → Bool} {d : Int} {Q X} (hn : n ≤ 1000) (hp : ∀ j, j ≤ n → S j = true → p j ≤ n) (hi : ∀ a b, a ≤ n → b ≤ n → S a = true → S b = true → p a = p b → a = b)
    (h : ∀ (u' v' : Nat → Int) (mv' : Nat → Option Int), (∀ j, j ≤ n → S j = true → u' (p j) = u (p j) + d) → (∀ i, (∀ j, j ≤ n → S j = true → p j ≠ i) → u' i = u i) → (∀ j, v' j = if j ≤ n ∧ S j = true then v j - d else v j) →
      (∀ j, mv' j = if j ≤ n ∧ S j = false then (mv j).map (· - d) else mv j) → Q (.fl, .non) [(.ow, prD n c u' v' p w), (.sh, spD n mv')]) :
    cf_Pairer_moved [(.ow, prD n c u v p w), (.sh, spD n mv), (.sa, seD n S), (.fl, .int d)] Q X := by
  rw [cf_Pairer_moved_eq]
  have hL : ((tabl (n + 1) fun i => oI (mv i)).length : Int) = ((n + 1 : Nat) : Int) := by rw [tabl_len]
  refine go_R1 (n := n + 1) hL (by omega) ?_
  refine go_For0 (fun k ρ => ∃ (u' v' : Nat → Int) (mv' : Nat → Option Int) (e : Sl), (∀ j, j < k → S j = true → u' (p j) = u (p j) + d) ∧ (∀ i, (∀ j, j < k → S j = true → p j ≠ i) → u' i = u i) ∧ (∀ j, v' j = if j < k ∧ S j = true then v j - d else v j) ∧
      (∀ j, mv' j = if j < k ∧ S j = false then (mv j).map (· - d) else mv j) ∧ ρ = [some (.ow, prD n c u' v' p w), some (.sh, spD n mv'), some (.sa, seD n S), some (.fl, .int d), e])
    ⟨u, v, mv, none, fun j h => absurd h (Nat.not_lt_zero _), fun _ _ => rfl, fun j => (if_neg fun z => absurd z.1 (Nat.not_lt_zero _)).symm, fun j => (if_neg fun z => absurd z.1 (Nat.not_lt_zero _)).symm, rfl⟩ (fun k ρ N hk hI hN => ?_) fun ρ hI => ?_
  · obtain ⟨u', v', mv', e, q1, q2, q3, q4, rfl⟩ := hI
    refine go_tabl hk ?_
    have v0 : v' k = v k := by rw [q3 k, if_neg fun z => absurd z.1 (Nat.lt_irrefl _)]
    have m0 : mv' k = mv k := by rw [q4 k, if_neg fun z => absurd z.1 (Nat.lt_irrefl _)]
    cases hS : S k with
    | true =>
      have hpk : p k < n + 1 := Nat.lt_succ_of_le (hp k (by omega) hS)
      have u0 : u' (p k) = u (p k) := q2 (p k) fun j h1 h2 h3 => by
        have := hi j k (by omega) (by omega) h2 hS h3
        omega
      refine ifT rfl ?_
      refine go_fld rfl rfl (go_fld rfl rfl (go_tabl hk (go_tabl hpk ?_)))
      refine go_fldP rfl rfl (go_fld rfl rfl (go_tabl hk (go_stT rfl hpk ?_)))
      refine go_fld rfl rfl (go_tabl hk (go_fldP rfl rfl (go_stT rfl hk ?_)))
      refine hN _ ⟨fun i => if i = p k then u' (p k) + d else u' i, fun j => if j = k then v' k - d else v' j, mv', some (.fl, .int k), fun j h1 h2 => ?_, fun i h1 => ?_, fun j => ?_, fun j => ?_, ?_⟩
      · show (if p j = p k then u' (p k) + d else u' (p j)) = u (p j) + d
        by_cases cj : j = k
        · rw [if_pos (by rw [cj]), u0, cj]
        · rw [if_neg fun z => cj (hi j k (by omega) (by omega) h2 hS z)]
          exact q1 j (by omega) h2
      · show (if i = p k then u' (p k) + d else u' i) = u i
        rw [if_neg fun z => h1 k (by omega) hS z.symm]
        exact q2 i fun j h2 h3 => h1 j (by omega) h3
      · show (if j = k then v' k - d else v' j) = _
        by_cases cj : j = k
        · rw [if_pos cj, cj, if_pos ⟨by omega, hS⟩, v0]
        · rw [if_neg cj, q3 j]
          by_cases cc : j < k ∧ S j = true
          · rw [if_pos cc, if_pos ⟨by omega, cc.2⟩]
          · rw [if_neg cc, if_neg fun z => cc ⟨by omega, z.2⟩]
      · rw [q4 j]
        by_cases cj : j = k
        · rw [cj, if_neg fun z => absurd z.1 (Nat.lt_irrefl _), if_neg fun z => by rw [hS] at z; cases z.2]
        · by_cases cc : j < k ∧ S j = false
          · rw [if_pos cc, if_pos ⟨by omega, cc.2⟩]
          · rw [if_neg cc, if_neg fun z => cc ⟨by omega, z.2⟩]
      · show [some (Kd.ow, D.obj "Pairer" ["table", "left", "right", "held", "came"] [tbD n c, .lst (tabl (n + 1) fun i => if i = p k then D.int (u' (p k) + d) else D.int (u' i)), .lst (tabl (n + 1) fun i => if i = k then D.int (v' k - d) else D.int (v' i)), arN n p, arN n w]), some (Kd.sh, spD n mv'), some (Kd.sa, seD n S), some (Kd.fl, D.int d), some (Kd.fl, D.int k)] = _
        rw [itD, itD]
    | false =>
      refine ifF rfl (go_tabl hk ?_)
      have same : mv k = none → ∀ j, mv' j = if j < k + 1 ∧ S j = false then (mv j).map (· - d) else mv j := fun hm j => by
        rw [q4 j]
        by_cases cj : j = k
        · rw [cj, if_neg fun z => absurd z.1 (Nat.lt_irrefl _), if_pos ⟨by omega, hS⟩, hm]; rfl
        · by_cases cc : j < k ∧ S j = false
          · rw [if_pos cc, if_pos ⟨by omega, cc.2⟩]
          · rw [if_neg cc, if_neg fun z => cc ⟨by omega, z.2⟩]
      have q1' : ∀ j, j < k + 1 → S j = true → u' (p j) = u (p j) + d := fun j h1 h2 => q1 j (by
        by_cases cj : j = k
        · rw [cj, hS] at h2; cases h2
        · omega) h2
      have q2' : ∀ i, (∀ j, j < k + 1 → S j = true → p j ≠ i) → u' i = u i := fun i h1 => q2 i fun j h2 h3 => h1 j (by omega) h3
      have q3' : ∀ j, v' j = if j < k + 1 ∧ S j = true then v j - d else v j := fun j => by
        rw [q3 j]
        by_cases cc : j < k ∧ S j = true
        · rw [if_pos cc, if_pos ⟨by omega, cc.2⟩]
        · rw [if_neg cc, if_neg fun z => cc ⟨by
            by_cases cj : j = k
            · rw [cj, hS] at z; cases z.2
            · omega, z.2⟩]
      rw [m0]
      cases hm : mv k with
      | none => exact ⟨rfl, hN _ ⟨u', v', mv', _, q1', q2', q3', same hm, rfl⟩⟩
      | some m =>
        refine ⟨rfl, go_tabl hk ?_⟩
        rw [m0, hm]
        refine go_stT rfl hk ?_
        refine hN _ ⟨u', v', fun j => if j = k then some (m - d) else mv' j, some (.fl, .int k), q1', q2', q3', fun j => ?_, ?_⟩
        · show (if j = k then some (m - d) else mv' j) = _
          by_cases cj : j = k
          · rw [if_pos cj, cj, if_pos ⟨by omega, hS⟩, hm]; rfl
          · rw [if_neg cj, q4 j]
            by_cases cc : j < k ∧ S j = false
            · rw [if_pos cc, if_pos ⟨by omega, cc.2⟩]
            · rw [if_neg cc, if_neg fun z => cc ⟨by omega, z.2⟩]
        · show [some (Kd.ow, prD n c u' v' p w), some (Kd.sh, D.lst (tabl (n + 1) fun i => if i = k then D.int (m - d) else oI (mv' i))), some (Kd.sa, seD n S), some (Kd.fl, D.int d), some (Kd.fl, D.int k)] = _
          rw [itO]
  · obtain ⟨u', v', mv', e, q1, q2, q3, q4, rfl⟩ := hI
    refine h u' v' mv' (fun j h1 h2 => q1 j (by omega) h2) (fun i h1 => q2 i fun j h2 h3 => h1 j (by omega) h3) (fun j => ?_) fun j => ?_
    · rw [q3 j]
      by_cases cc : j < n + 1 ∧ S j = true
      · rw [if_pos cc, if_pos ⟨by omega, cc.2⟩]
      · rw [if_neg cc, if_neg fun z => cc ⟨by omega, z.2⟩]
    · rw [q4 j]
      by_cases cc : j < n + 1 ∧ S j = false
      · rw [if_pos cc, if_pos ⟨by omega, cc.2⟩]
      · rw [if_neg cc, if_neg fun z => cc ⟨by omega, z.2⟩]
structure Opt (n : Nat) (c : Nat → Nat → Int) (tot : Int) (q : Nat → Nat) (a b : Nat → Int) : Prop where
  lt : ∀ i, i < n → q i < n
  inj : ∀ i j, i < n → j < n → q i = q j → i = j
  sum : tot = sumR n fun i => c i (q i)
  feas : ∀ i j, i < n → j < n → a i + b j ≤ c i j
  dual : tot = sumR n a + sumR n b
end DCK

namespace DCK
open DL PC
theorem perm_inv {n : Nat} {q : Nat → Nat} (h1 : ∀ i, i < n → q i < n) (h2 : ∀ i j, i < n → j < n → q i = q j → i = j) : ∃ b : Nat → Nat, (∀ j, j < n → b j < n ∧ q (b j) = j) ∧ ∀ i, i < n → b (q i) = i := by
  have sur : ∀ j, j < n → ∃ i, i < n ∧ q i = j := fun j hj => by
    apply Classical.byContradiction
    intro hno
    have nd := PA.nodup_tabl (n := n) (p := q) h2
    have nin : j ∉ tabl n q := fun z => by
      obtain ⟨i, hi, e⟩ := List.mem_map.mp z
      exact hno ⟨i, List.mem_range.mp hi, e⟩
    have := PA.pigeon n (j :: tabl n q) (List.nodup_cons.mpr ⟨nin, nd⟩) fun x hx => by
      rcases List.mem_cons.mp hx with z | z
      · rw [z]; exact hj
      · obtain ⟨i, hi, e⟩ := List.mem_map.mp z
        rw [← e]; exact h1 i (List.mem_range.mp hi)
    rw [List.length_cons, tabl_len] at this
    omega
  let b : Nat → Nat := fun j => if hj : j < n then Classical.choose (sur j hj) else 0
  have hb : ∀ j, j < n → b j < n ∧ q (b j) = j := fun j hj => by
    have : b j = Classical.choose (sur j hj) := dif_pos hj
    rw [this]
    exact Classical.choose_spec (sur j hj)
  exact ⟨b, hb, fun i hi => h2 _ _ (hb _ (h1 i hi)).1 hi (hb _ (h1 i hi)).2⟩
theorem sumR_le {n : Nat} {f g : Nat → Int} (h : ∀ i, i < n → f i ≤ g i) : sumR n f ≤ sumR n g := by
  have := PA.sumR_nonneg (n := n) (f := fun i => g i - f i) fun i hi => by have := h i hi; omega
  rw [PA.sumR_sub] at this
  omega
theorem sumR_perm1 {n : Nat} {q : Nat → Nat} {f : Nat → Int} (h1 : ∀ i, i < n → q i < n) (h2 : ∀ i j, i < n → j < n → q i = q j → i = j) : sumR n (fun i => f (q i)) = sumR n f := by
  obtain ⟨b, hb, hb2⟩ := perm_inv h1 h2
  exact sumR_perm h1 (fun j hj => (hb j hj).1) hb2 fun j hj => (hb j hj).2
variable {n : Nat} {c c' : Nat → Nat → Int} {t t' : Int} {q q' : Nat → Nat} {a b a' b' : Nat → Int}
theorem Opt.le (o : Opt n c t q a b) (h1 : ∀ i, i < n → q' i < n) (h2 : ∀ i j, i < n → j < n → q' i = q' j → i = j) : t ≤ sumR n fun i => c i (q' i) := by
  rw [o.dual, ← sumR_perm1 (f := b) h1 h2, ← sumR_add]
  exact sumR_le fun i hi => o.feas i (q' i) hi (h1 i hi)
theorem Opt.uniq (o : Opt n c t q a b) (o' : Opt n c t' q' a' b') : t = t' := by
  have h1 := o.le o'.lt o'.inj
  have h2 := o'.le o.lt o.inj
  rw [← o'.sum] at h1
  rw [← o.sum] at h2
  omega
theorem Opt.congr (o : Opt n c t q a b) (h : ∀ i j, i < n → j < n → c i j = c' i j) : Opt n c' t q a b :=
  ⟨o.lt, o.inj, by rw [o.sum]; exact sumR_congr fun i hi => h i (q i) hi (o.lt i hi), fun i j hi hj => by rw [← h i j hi hj]; exact o.feas i j hi hj, o.dual⟩
theorem Opt.mono (o : Opt n c t q a b) (o' : Opt n c' t' q' a' b') (h : ∀ i j, i < n → j < n → c i j ≤ c' i j) : t ≤ t' := by
  rw [o'.sum]
  exact Int.le_trans (o.le o'.lt o'.inj) (sumR_le fun i hi => h i _ hi (o'.lt i hi))
end DCK

namespace DCR
open PySem PySem.Spec PyProof.Rows L2 DL
noncomputable section
def sem_exchanged_two : SF :=
  (sSeq (sSet 3 (eP (pLR1X (pVar 0))))
    (sSeq (sStIxX (eMv 2) (plVar 3) (pVar 1))
    (sSeq (sStIxX (eMv 1) (plVar 3) (pVar 2))
    (sRet (eMv 3)))))
@[irreducible] def cf_exchanged_two : CF := hid (cfOf 1 [false, false, false] sem_exchanged_two)
theorem cf_exchanged_two_eq : cf_exchanged_two = cfOf 1 [false, false, false] sem_exchanged_two := by unfold cf_exchanged_two; rw [hid_eq]
def sem_stays : SF :=
  (sSeq (sSet 3 (eP (pFn cf_exchanged_two (gCons (pCall oLen (gCons (pVar 0) gNil)) (gCons (pVar 1) (gCons (pVar 2) gNil))))))
    (sRet (eP (pOp oEq (pCall oTuple (gCons (pLcX (iSq (pVar 3)) [4] (gNm 4) tNilP (pCall oTuple (gCons (pLcX (iSq (pVar 3)) [5] (gNm 5) tNilP (pOp xIx (pOp xIx (pVar 0) (pVar 4)) (pVar 5))) gNil))) gNil)) (pVar 0)))))
@[irreducible] def cf_stays : CF := hid (cfOf 3 [false, false, false] sem_stays)
theorem cf_stays_eq : cf_stays = cfOf 3 [false, false, false] sem_stays := by unfold cf_stays; rw [hid_eq]
def sem_are_alike_works : SF :=
  (sRet (eP (pAndV (pOp oEq (pOp xIx (pOp xIx (pVar 0) (pC (.int 2))) (pVar 1)) (pOp xIx (pOp xIx (pVar 0) (pC (.int 2))) (pVar 2))) (pFn cf_stays (gCons (pOp xIx (pVar 0) (pC (.int 0))) (gCons (pVar 1) (gCons (pVar 2) gNil)))))))
@[irreducible] def cf_are_alike_works : CF := hid (cfOf 0 [false, false, false] sem_are_alike_works)
theorem cf_are_alike_works_eq : cf_are_alike_works = cfOf 0 [false, false, false] sem_are_alike_works := by unfold cf_are_alike_works; rw [hid_eq]
def sem_alike_works : SF :=
  (sSeq (sSet 1 (eP (pLst gNil)))
    (sSeq (sForX (jR1 (gCons (pCall oLen (gCons (pOp xIx (pVar 0) (pC (.int 0))) gNil)) gNil)) (gNm 2) (sPutIn 1 (pLcX (iSq (pUnA (pVar 1))) [3] (gNm 3) (pTest (pFn cf_are_alike_works (gCons (pVar 0) (gCons (pOp xIx (pUnA (pVar 3)) (pC (.int 0))) (gCons (pVar 2) gNil))))) (pAd (pVar 3))) (pVar 2)))
    (sRet (eP (pCall oSortedI (gCons (pLcX (iSq (pVar 1)) [3] (gNm 3) tNilP (pCall oTupleF (gCons (pVar 3) gNil))) gNil))))))
@[irreducible] def cf_alike_works : CF := hid (cfOf 3 [false] sem_alike_works)
theorem cf_alike_works_eq : cf_alike_works = cfOf 3 [false] sem_alike_works := by unfold cf_alike_works; rw [hid_eq]
def sem__law_table : SF :=
  (sSeq (sSet 3 (eOp oGt (eFn [true, false] DCA.cf__law_dip (aPl 0 (aE (eP (pC (.int 3))) aNil))) (eP (pC (.int 0)))))
    (sRet (eLcX (jR1 (gCons (pVar 1) gNil)) [4] (gNm 4) tNilP (eLcX (jR1 (gCons (pVar 1) gNil)) [5] (gNm 5) tNilP (eFn [true, false] DCA.cf__law_dip (aPl 0 (aE (eP (pOp xIx (pLst (gCons (pOp oAdd (pVar 2) (pC (.int 1))) (gCons (pC (.int 3)) gNil))) (pCall oInt (gCons (pVar 3) gNil)))) aNil)))))))
@[irreducible] def cf__law_table : CF := hid (cfOf 3 [true, false, false] sem__law_table)
theorem cf__law_table_eq : cf__law_table = cfOf 3 [true, false, false] sem__law_table := by unfold cf__law_table; rw [hid_eq]
def sem__law_by : SF :=
  (sRet (eP (pLcX (iSq (pVar 1)) [3] (gNm 3) tNilP (pLcX (iSq (pVar 2)) [4] (gNm 4) tNilP (pOp xIx (pOp xIx (pVar 0) (pVar 3)) (pVar 4))))))
@[irreducible] def cf__law_by : CF := hid (cfOf 2 [false, false, false] sem__law_by)
theorem cf__law_by_eq : cf__law_by = cfOf 2 [false, false, false] sem__law_by := by unfold cf__law_by; rw [hid_eq]
def sem__law_classed : SF :=
  (sSeq (sSet 2 (eOp oAdd (eP (pC (.int 1))) (eFn [true, false] DCA.cf__law_dip (aPl 0 (aE (eMv 1) aNil)))))
    (sSeq (sSet 3 (eLst (aE (eOp oAdd (eP (pC (.int 1))) (eFn [true, false] DCA.cf__law_dip (aPl 0 (aE (eMv 2) aNil)))) (aE (eOp oAdd (eP (pC (.int 1))) (eFn [true, false] DCA.cf__law_dip (aPl 0 (aE (eMv 2) aNil)))) aNil))))
    (sSeq (sSet 4 (eLcX (jR1 (gCons (pVar 2) gNil)) [10] (gNm 10) tNilP (eFn [true, false] DCA.cf__law_dip (aPl 0 (aE (eP (pOp xIx (pVar 3) (pC (.int 0)))) aNil)))))
    (sSeq (sSet 5 (eLcX (jR1 (gCons (pVar 2) gNil)) [10] (gNm 10) tNilP (eFn [true, false] DCA.cf__law_dip (aPl 0 (aE (eP (pOp xIx (pVar 3) (pC (.int 1)))) aNil)))))
    (sFrz 4 (sFrz 5 (sBar (sSeq (sSet 6 (eFn [false, false, false] cf__law_by (aE (eFn [true, false, false] cf__law_table (aPl 0 (aE (eMv 2) (aE (eP (pC (.int 999))) aNil)))) (aE (eMv 4) (aE (eMv 4) aNil)))))
    (sSeq (sSet 7 (eFn [false, false, false] cf__law_by (aE (eFn [true, false, false] cf__law_table (aPl 0 (aE (eMv 2) (aE (eP (pC (.int 999))) aNil)))) (aE (eMv 5) (aE (eMv 5) aNil)))))
    (sSeq (sSet 8 (eFn [false, false, false] cf__law_by (aE (eFn [true, false, false] cf__law_table (aPl 0 (aE (eMv 2) (aE (eP (pC (.int 1000000))) aNil)))) (aE (eMv 4) (aE (eMv 5) aNil)))))
    (sBar (sSeq (sIf (eTest (eOp oEq (eFn [true, false] DCA.cf__law_dip (aPl 0 (aE (eP (pC (.int 3))) aNil))) (eP (pC (.int 0))))) (sBorC 6 7 8 9 (eFn [true, false] DCA.cf__law_dip (aPl 0 (aE (eP (pC (.int 3))) aNil)))
    (sStIxE 9 (eFn [true, false] DCA.cf__law_dip (aPl 0 (aE (eP (pC (.int 4))) aNil))) (eFn [true, false] DCA.cf__law_dip (aPl 0 (aE (eMv 2) aNil))) (eFn [true, false] DCA.cf__law_dip (aPl 0 (aE (eMv 2) aNil))))) sNil)
    (sBar (sSeq (sForX (jR1 (gCons (pVar 2) gNil)) (gNm 10) (sSeq (sStIxX (eP (pC (.int 0))) (plIxX (plVar 6) (pVar 10)) (pVar 10))
    (sStIxX (eP (pC (.int 0))) (plIxX (plVar 7) (pVar 10)) (pVar 10))))
    (sBar (sRet (eP (pCall oTuple (gCons (pLcX (iSq (pLst (gCons (pVar 6) (gCons (pVar 7) (gCons (pVar 8) gNil))))) [11] (gNm 11) tNilP (pCall oTuple (gCons (pLcX (iSq (pVar 11)) [12] (gNm 12) tNilP (pCall oTupleF (gCons (pVar 12) gNil))) gNil))) gNil)))))))))))))))))))
@[irreducible] def cf__law_classed : CF := hid (cfOf 11 [true, false] sem__law_classed)
theorem cf__law_classed_eq : cf__law_classed = cfOf 11 [true, false] sem__law_classed := by unfold cf__law_classed; rw [hid_eq]
def sem__law_moved : SF :=
  (sSeq (sForX (jR1 (gCons (pCall oLen (gCons (pVar 0) gNil)) gNil)) (gNm 3) (sForX (jR1 (gCons (pCall oLen (gCons (pVar 0) gNil)) gNil)) (gNm 4) (sSeq (sSet 5 (eP (pLst (gCons (pFlip (pVar 1) (pVar 2) (pVar 2) (pVar 1) (pVar 3) (pVar 3)) (gCons (pFlip (pVar 1) (pVar 2) (pVar 2) (pVar 1) (pVar 4) (pVar 4)) gNil)))))
    (sIf (teP (pTest (pOp oNe (pOp xIx (pOp xIx (pVar 0) (pVar 3)) (pVar 4)) (pOp xIx (pOp xIx (pVar 0) (pOp xIx (pVar 5) (pC (.int 0)))) (pOp xIx (pVar 5) (pC (.int 1))))))) (sRet (eP (pC (.bl true)))) sNil))))
    (sRet (eP (pC (.bl false)))))
@[irreducible] def cf__law_moved : CF := hid (cfOf 3 [false, false, false] sem__law_moved)
theorem cf__law_moved_eq : cf__law_moved = cfOf 3 [false, false, false] sem__law_moved := by unfold cf__law_moved; rw [hid_eq]
def sem__law_sets : SF :=
  (sSeq (sSet 2 (eP (pLst gNil)))
    (sSeq (sForX (jR1 (gCons (pVar 0) gNil)) (gNm 3) (sSeq (sSet 4 (eP (pCall oTuple (gCons (pLcX (jR1 (gCons (pVar 0) gNil)) [5] (gNm 5) (tOr (pTest (pOp oEq (pVar 5) (pVar 3))) (pTest (pOp (oInM true) (pTup (gCons (pCall oMin2 (gCons (pVar 5) (gCons (pVar 3) gNil))) (gCons (pCall oMax2 (gCons (pVar 5) (gCons (pVar 3) gNil))) gNil))) (pVar 1)))) (pVar 5)) gNil))))
    (sIf (teP (pTest (pOp (oInM true) (pVar 4) (pVar 2)))) (sExpr (eMthR mAppend 2 (aE (eMv 4) aNil))) sNil)))
    (sRet (eMv 2))))
@[irreducible] def cf__law_sets : CF := hid (cfOf 4 [false, false] sem__law_sets)
theorem cf__law_sets_eq : cf__law_sets = cfOf 4 [false, false] sem__law_sets := by unfold cf__law_sets; rw [hid_eq]
def sem__law_pairs : SF :=
  (sSeq (sSet 1 (eP (pLst gNil)))
    (sSeq (sForX (jR1 (gCons (pVar 0) gNil)) (gNm 2) (sExpr (eMthR xExtend 1 (aE (eP (pLcX (jR2 (gCons (pOp oAdd (pVar 2) (pC (.int 1))) (gCons (pVar 0) gNil))) [3] (gNm 3) tNilP (pTup (gCons (pVar 2) (gCons (pVar 3) gNil))))) aNil))))
    (sRet (eMv 1))))
@[irreducible] def cf__law_pairs : CF := hid (cfOf 3 [false] sem__law_pairs)
theorem cf__law_pairs_eq : cf__law_pairs = cfOf 3 [false] sem__law_pairs := by unfold cf__law_pairs; rw [hid_eq]
def sem__law_alike_works : SF :=
  (sSeq (sSet 1 (eP (pLst gNil)))
    (sSeq (sForX (iSq (pFn cf__law_pairs (gCons (pCall oLen (gCons (pOp xIx (pVar 0) (pC (.int 0))) gNil)) gNil))) (gTu 2 (tConsG (gNm 2) (tConsG (gNm 3) tNilG))) (sIf (teP (tOr (pTest (pOp oNe (pOp xIx (pOp xIx (pVar 0) (pC (.int 2))) (pVar 2)) (pOp xIx (pOp xIx (pVar 0) (pC (.int 2))) (pVar 3)))) (pTest (pFn cf__law_moved (gCons (pOp xIx (pVar 0) (pC (.int 0))) (gCons (pVar 2) (gCons (pVar 3) gNil))))))) (sExpr (eMthR mAppend 1 (aE (eP (pTup (gCons (pVar 2) (gCons (pVar 3) gNil)))) aNil))) sNil))
    (sRet (eP (pFn cf__law_sets (gCons (pCall oLen (gCons (pOp xIx (pVar 0) (pC (.int 0))) gNil)) (gCons (pVar 1) gNil)))))))
@[irreducible] def cf__law_alike_works : CF := hid (cfOf 3 [false] sem__law_alike_works)
theorem cf__law_alike_works_eq : cf__law_alike_works = cfOf 3 [false] sem__law_alike_works := by unfold cf__law_alike_works; rw [hid_eq]
def sem__law_right : SF :=
  (sSeq (sIf (teP (tOr (tNot (pTest (pIsI .lst (pVar 0)))) (pTest (pOp oNe (pVar 0) (pVar 1))))) (sRet (eP (pC (.bl false)))) sNil)
    (sSeq (sForX (iSq (pVar 0)) (gNm 2) (sIf (teP (tOr (tNot (pTest (pIsI .tup (pVar 2)))) (pTest (pOp oNe (pLcX (iSq (pVar 2)) [3] (gNm 3) (pTest (pIsI .bool (pVar 3))) (pVar 3)) (pLst gNil))))) (sRet (eP (pC (.bl false)))) sNil))
    (sRet (eP (pC (.bl true))))))
@[irreducible] def cf__law_right : CF := hid (cfOf 2 [false, false] sem__law_right)
def sem__law_other_job : SF :=
  (sSeq (sSet 2 (eP (pLcX (iSq (pVar 1)) [8] (gNm 8) tNilP (pLcX (iSq (pVar 8)) [6] (gNm 6) tNilP (pCall oList (gCons (pVar 6) gNil))))))
    (sSeq (sSet 3 (eP (pCall oLen (gCons (pOp xIx (pVar 1) (pC (.int 0))) gNil))))
    (sSeq (sForRE (eOp oAdd (eP (pC (.int 1))) (eFn [true, false] DCA.cf__law_dip (aPl 0 (aE (eP (pC (.int 2))) aNil)))) (gNm 4) (sSeq (sSet 5 (eFn [true, false] DCA.cf__law_dip (aPl 0 (aE (eP (pC (.int 3))) aNil))))
    (sSeq (sPar 6 7 (aE (eFn [true, false] DCA.cf__law_dip (aPl 0 (aE (eMv 3) aNil))) (aE (eFn [true, false] DCA.cf__law_dip (aPl 0 (aE (eMv 3) aNil))) aNil)))
    (sIf (teP (tOr (pTest (pOp oEq (pVar 5) (pC (.int 2)))) (pTest (pOp oNe (pVar 6) (pVar 7))))) (sStIxX (eFn [true, false] DCA.cf__law_dip (aPl 0 (aE (eP (pC (.int 4))) aNil))) (plIxX (plIxX (plVar 2) (pVar 5)) (pVar 6)) (pVar 7)) sNil))))
    (sSeq (sIf (eTest (eOp oEq (eFn [true, false] DCA.cf__law_dip (aPl 0 (aE (eP (pC (.int 3))) aNil))) (eP (pC (.int 0))))) (sStIxX (eLcX (jR1 (gCons (pVar 3) gNil)) [9] (gNm 9) tNilP (eLcX (jR1 (gCons (pVar 3) gNil)) [10] (gNm 10) tNilP (eFn [true, false] DCA.cf__law_dip (aPl 0 (aE (eP (pC (.int 2))) aNil))))) (plVar 2) (pC (.int 2))) sNil)
    (sRet (eP (pCall oTuple (gCons (pLcX (iSq (pVar 2)) [8] (gNm 8) tNilP (pCall oTuple (gCons (pLcX (iSq (pVar 8)) [6] (gNm 6) tNilP (pCall oTupleF (gCons (pVar 6) gNil))) gNil))) gNil))))))))
@[irreducible] def cf__law_other_job : CF := hid (cfOf 9 [true, false] sem__law_other_job)
theorem cf__law_other_job_eq : cf__law_other_job = cfOf 9 [true, false] sem__law_other_job := by unfold cf__law_other_job; rw [hid_eq]
def sem_are_alike_places : SF :=
  (sRet (eP (pAndV (pCall oAll (gCons (pLcX (iSq (pOp xIx (pVar 0) (pC (.int 2)))) [3] (gNm 3) tNilP (pOp oEq (pOp xIx (pVar 3) (pVar 1)) (pOp xIx (pVar 3) (pVar 2)))) gNil)) (pFn cf_stays (gCons (pOp xIx (pVar 0) (pC (.int 1))) (gCons (pVar 1) (gCons (pVar 2) gNil)))))))
@[irreducible] def cf_are_alike_places : CF := hid (cfOf 1 [false, false, false] sem_are_alike_places)
theorem cf_are_alike_places_eq : cf_are_alike_places = cfOf 1 [false, false, false] sem_are_alike_places := by unfold cf_are_alike_places; rw [hid_eq]
def sem_alike_places : SF :=
  (sSeq (sSet 1 (eP (pLst gNil)))
    (sSeq (sForX (jR1 (gCons (pCall oLen (gCons (pOp xIx (pVar 0) (pC (.int 0))) gNil)) gNil)) (gNm 2) (sPutIn 1 (pLcX (iSq (pUnA (pVar 1))) [3] (gNm 3) (pTest (pFn cf_are_alike_places (gCons (pVar 0) (gCons (pOp xIx (pUnA (pVar 3)) (pC (.int 0))) (gCons (pVar 2) gNil))))) (pAd (pVar 3))) (pVar 2)))
    (sRet (eP (pCall oSortedI (gCons (pLcX (iSq (pVar 1)) [3] (gNm 3) tNilP (pCall oTupleF (gCons (pVar 3) gNil))) gNil))))))
@[irreducible] def cf_alike_places : CF := hid (cfOf 3 [false] sem_alike_places)
theorem cf_alike_places_eq : cf_alike_places = cfOf 3 [false] sem_alike_places := by unfold cf_alike_places; rw [hid_eq]
def sem__law_alike_places : SF :=
  (sSeq (sSet 1 (eP (pLst gNil)))
    (sSeq (sForX (iSq (pFn cf__law_pairs (gCons (pCall oLen (gCons (pOp xIx (pVar 0) (pC (.int 0))) gNil)) gNil))) (gTu 2 (tConsG (gNm 2) (tConsG (gNm 3) tNilG))) (sIf (teP (tOr (pTest (pOp oNe (pLcX (iSq (pOp xIx (pVar 0) (pC (.int 2)))) [4] (gNm 4) (pTest (pOp oNe (pOp xIx (pVar 4) (pVar 2)) (pOp xIx (pVar 4) (pVar 3)))) (pVar 4)) (pLst gNil))) (pTest (pFn cf__law_moved (gCons (pOp xIx (pVar 0) (pC (.int 1))) (gCons (pVar 2) (gCons (pVar 3) gNil))))))) (sExpr (eMthR mAppend 1 (aE (eP (pTup (gCons (pVar 2) (gCons (pVar 3) gNil)))) aNil))) sNil))
    (sRet (eP (pFn cf__law_sets (gCons (pCall oLen (gCons (pOp xIx (pVar 0) (pC (.int 0))) gNil)) (gCons (pVar 1) gNil)))))))
@[irreducible] def cf__law_alike_places : CF := hid (cfOf 4 [false] sem__law_alike_places)
theorem cf__law_alike_places_eq : cf__law_alike_places = cfOf 4 [false] sem__law_alike_places := by unfold cf__law_alike_places; rw [hid_eq]
end
end DCR

namespace PF
def sw (a b k : Nat) : Nat := if k = b then a else if k = a then b else k
theorem sw_lt {n a b k : Nat} (ha : a < n) (hb : b < n) (hk : k < n) : sw a b k < n := by
  unfold sw; split; exact ha; split; exact hb; exact hk
theorem sw_inv (a b k : Nat) : sw a b (sw a b k) = k := by
  unfold sw
  by_cases h1 : k = b
  · rw [if_pos h1]
    by_cases h2 : a = b
    · rw [if_pos h2, h1, h2]
    · rw [if_neg h2, if_pos rfl, h1]
  · rw [if_neg h1]
    by_cases h2 : k = a
    · rw [if_pos h2, if_pos rfl, h2]
    · rw [if_neg h2, if_neg h1, if_neg h2]
theorem sw_comm (a b k : Nat) : sw a b k = sw b a k := by
  unfold sw
  by_cases h1 : k = b
  · rw [if_pos h1]
    by_cases h2 : k = a
    · rw [if_pos h2, ← h1, ← h2]
    · rw [if_neg h2, if_pos h1]
  · rw [if_neg h1]
    by_cases h2 : k = a
    · rw [if_pos h2, if_pos h2]
    · rw [if_neg h2, if_neg h2, if_neg h1]
theorem sw_self (a k : Nat) : sw a a k = k := by
  unfold sw
  by_cases h1 : k = a
  · rw [if_pos h1, h1]
  · rw [if_neg h1, if_neg h1]
def Stays (n : Nat) (F : Nat → Nat → Int) (a b : Nat) : Prop := ∀ i j, i < n → j < n → F (sw a b i) (sw a b j) = F i j
theorem sw_three {a b c : Nat} (hab : a ≠ b) (hbc : b ≠ c) (hac : a ≠ c) (k : Nat) : sw a c k = sw a b (sw b c (sw a b k)) := by
  unfold sw
  by_cases h1 : k = a
  · subst h1
    simp [hab, hbc, hac, Ne.symm hab, Ne.symm hbc, Ne.symm hac]
  · by_cases h2 : k = b
    · subst h2
      simp [hab, hbc, hac, Ne.symm hab, Ne.symm hbc, Ne.symm hac]
    · by_cases h3 : k = c
      · subst h3
        simp [hab, hbc, hac, Ne.symm hab, Ne.symm hbc, Ne.symm hac]
      · simp [h1, h2, h3]
theorem Stays.refl {n : Nat} {F : Nat → Nat → Int} (a : Nat) : Stays n F a a := fun i j _ _ => by rw [sw_self, sw_self]
theorem Stays.symm {n : Nat} {F : Nat → Nat → Int} {a b : Nat} (h : Stays n F a b) : Stays n F b a := fun i j hi hj => by rw [sw_comm b a i, sw_comm b a j]; exact h i j hi hj
theorem Stays.trans {n : Nat} {F : Nat → Nat → Int} {a b c : Nat} (ha : a < n) (hb : b < n) (hc : c < n) (h1 : Stays n F a b) (h2 : Stays n F b c) : Stays n F a c := by
  by_cases hab : a = b
  · subst hab; exact h2
  by_cases hbc : b = c
  · subst hbc; exact h1
  by_cases hac : a = c
  · subst hac; exact .refl a
  intro i j hi hj
  have li := sw_lt ha hb hi
  have lj := sw_lt ha hb hj
  rw [sw_three hab hbc hac, sw_three hab hbc hac, h1 _ _ (sw_lt hb hc li) (sw_lt hb hc lj), h2 _ _ li lj, h1 _ _ hi hj]
structure Eqv (n : Nat) (E : Nat → Nat → Bool) : Prop where
  refl : ∀ a, a < n → E a a = true
  symm : ∀ a b, a < n → b < n → E a b = true → E b a = true
  trans : ∀ a b c, a < n → b < n → c < n → E a b = true → E b c = true → E a c = true
def cls (E : Nat → Nat → Bool) (m f : Nat) : List Nat := (List.range m).filter fun k => E f k
def firsts (E : Nat → Nat → Bool) (m : Nat) : List Nat := (List.range m).filter fun i => (List.range i).all fun j => !E j i
def part (E : Nat → Nat → Bool) (m : Nat) : List (List Nat) := (firsts E m).map fun f => cls E m f
theorem mem_firsts {E : Nat → Nat → Bool} {m i : Nat} : i ∈ firsts E m ↔ i < m ∧ ∀ j, j < i → E j i = false := by
  unfold firsts
  rw [List.mem_filter, List.mem_range, List.all_eq_true]
  refine and_congr Iff.rfl ⟨fun h j hj => ?_, fun h j hj => ?_⟩
  · have := h j (List.mem_range.mpr hj)
    simpa using this
  · have := h j (List.mem_range.mp hj)
    simpa using this
theorem cls_succ {E : Nat → Nat → Bool} {m f : Nat} : cls E (m + 1) f = cls E m f ++ (if E f m then [m] else []) := by
  unfold cls
  rw [List.range_succ, List.filter_append]
  congr 1
  by_cases h : E f m <;> simp [h]
theorem firsts_succ {E : Nat → Nat → Bool} {m : Nat} : firsts E (m + 1) = firsts E m ++ (if (List.range m).all fun j => !E j m then [m] else []) := by
  unfold firsts
  rw [List.range_succ, List.filter_append]
  congr 1
  by_cases h : (List.range m).all fun j => !E j m
  · rw [List.filter_cons, if_pos h, if_pos h]; rfl
  · rw [List.filter_cons, if_neg h, if_neg h]; rfl
section
variable {n : Nat} {E : Nat → Nat → Bool}
theorem first_of (e : Eqv n E) : ∀ {i : Nat}, i < n → ∃ f, f ≤ i ∧ (∀ j, j < f → E j f = false) ∧ E f i = true := fun {i} => by
  induction i using Nat.strongRecOn with
  | ind i ih =>
    intro hi
    by_cases h : ∃ j, j < i ∧ E j i = true
    · obtain ⟨j, hj, hE⟩ := h
      obtain ⟨f, h1, h2, h3⟩ := ih j hj (by omega)
      exact ⟨f, by omega, h2, e.trans f j i (by omega) (by omega) hi h3 hE⟩
    · refine ⟨i, Nat.le_refl _, fun j hj => ?_, e.refl i hi⟩
      cases q : E j i with
      | false => rfl
      | true => exact absurd ⟨j, hj, q⟩ h
theorem firsts_uniq (e : Eqv n E) {f g : Nat} (hf : f < n) (hg : g < n) (h1 : ∀ j, j < f → E j f = false) (h2 : ∀ j, j < g → E j g = false) (h : E f g = true) : f = g := by
  rcases Nat.lt_trichotomy f g with c | c | c
  · rw [h2 f c] at h; cases h
  · exact c
  · have := e.symm f g hf hg h
    rw [h1 g c] at this; cases this
theorem part_old (e : Eqv n E) {m f : Nat} (hm : m < n) (hf : f ∈ firsts E m) (h : E f m = true) : ∃ k, (firsts E m)[k]? = some f ∧ part E (m + 1) = (part E m).set k (cls E m f ++ [m]) ∧ (∀ k' g, (firsts E m)[k']? = some g → (E g m = true ↔ k' = k)) := by
  obtain ⟨k, hk, ek⟩ := List.mem_iff_getElem.mp hf
  have ek' : (firsts E m)[k]? = some f := by rw [List.getElem?_eq_getElem hk, ek]
  have hf' := mem_firsts.mp hf
  have nd : (firsts E m).Nodup := List.Pairwise.filter _ List.nodup_range
  have uniq : ∀ k' g, (firsts E m)[k']? = some g → (E g m = true ↔ k' = k) := fun k' g hg => by
    have hgm := mem_firsts.mp (List.mem_of_getElem? hg)
    refine ⟨fun hE => ?_, fun z => ?_⟩
    · have : g = f := firsts_uniq e (by omega) (by omega) hgm.2 hf'.2 (e.trans g m f (by omega) hm (by omega) hE (e.symm f m (by omega) hm h))
      subst this
      have hk' := (List.getElem?_eq_some_iff.mp hg).1
      rw [List.getElem?_eq_getElem hk'] at hg
      exact (List.getElem_inj nd).mp ((Option.some.inj hg).trans ek.symm)
    · subst z
      rw [ek'] at hg; cases hg; exact h
  refine ⟨k, ek', ?_, uniq⟩
  have e0 : firsts E (m + 1) = firsts E m := by
    rw [firsts_succ, if_neg, List.append_nil]
    intro z
    have := List.all_eq_true.mp z f (List.mem_range.mpr hf'.1)
    rw [h] at this; cases this
  unfold part
  rw [e0]
  refine List.ext_getElem? fun k' => ?_
  rw [List.getElem?_map]
  by_cases hkk : k' = k
  · subst hkk
    rw [ek', List.getElem?_set_self (by rw [List.length_map]; exact hk)]
    show some (cls E (m + 1) f) = _
    rw [cls_succ, if_pos h]
  · rw [List.getElem?_set_ne (Ne.symm hkk), List.getElem?_map]
    cases eg : (firsts E m)[k']? with
    | none => rfl
    | some g =>
      show some (cls E (m + 1) g) = some (cls E m g)
      rw [cls_succ, if_neg (fun z => hkk ((uniq k' g eg).mp z)), List.append_nil]
theorem part_new (e : Eqv n E) {m : Nat} (hm : m < n) (h : ∀ f ∈ firsts E m, E f m = false) : part E (m + 1) = part E m ++ [[m]] ∧ firsts E (m + 1) = firsts E m ++ [m] := by
  have no : ∀ j, j < m → E j m = false := fun j hj => by
    cases q : E j m with
    | false => rfl
    | true =>
      obtain ⟨f, h1, h2, h3⟩ := first_of e (i := j) (by omega)
      have := h f (mem_firsts.mpr ⟨by omega, h2⟩)
      rw [e.trans f j m (by omega) (by omega) hm h3 q] at this
      cases this
  have e0 : firsts E (m + 1) = firsts E m ++ [m] := by
    rw [firsts_succ, if_pos]
    refine List.all_eq_true.mpr fun j hj => ?_
    rw [no j (List.mem_range.mp hj)]; rfl
  refine ⟨?_, e0⟩
  unfold part
  rw [e0, List.map_append]
  congr 1
  · refine List.map_congr_left fun f hf => ?_
    rw [cls_succ, if_neg (by rw [h f hf]; decide), List.append_nil]
  · show [cls E (m + 1) m] = [[m]]
    rw [cls_succ, if_pos (e.refl m hm)]
    have : cls E m m = [] := List.filter_eq_nil_iff.mpr fun k hk => by
      have hk := List.mem_range.mp hk
      intro z
      have := no k hk
      rw [e.symm m k hm (by omega) z] at this; cases this
    rw [this]; rfl
theorem cls_head (e : Eqv n E) {m f : Nat} (hm : m ≤ n) (hf : f ∈ firsts E m) : ∃ r, cls E m f = f :: r := by
  obtain ⟨h1, h2⟩ := mem_firsts.mp hf
  have e1 : List.range m = List.range f ++ f :: (List.range' (f + 1) (m - f - 1)) := by
    rw [List.range_eq_range', List.range_eq_range']
    have : m = f + (1 + (m - f - 1)) := by omega
    conv => lhs; rw [this]
    rw [← List.range'_append_1, Nat.zero_add, Nat.add_comm 1, List.range'_succ]
  refine ⟨(List.range' (f + 1) (m - f - 1)).filter fun k => E f k, ?_⟩
  unfold cls
  rw [e1, List.filter_append, List.filter_cons, if_pos (e.refl f (by omega))]
  have : (List.range f).filter (fun k => E f k) = [] := List.filter_eq_nil_iff.mpr fun k hk => by
    have hk := List.mem_range.mp hk
    intro z
    have := h2 k hk
    rw [e.symm f k (by omega) (by omega) z] at this; cases this
  rw [this]; rfl
theorem part_get {m k : Nat} {f : Nat} (h : (firsts E m)[k]? = some f) : (part E m)[k]? = some (cls E m f) := by
  unfold part; rw [List.getElem?_map, h]; rfl
theorem part_len {m : Nat} : (part E m).length = (firsts E m).length := by unfold part; rw [List.length_map]
theorem firsts_le {m : Nat} : (firsts E m).length ≤ m := by
  unfold firsts
  exact Nat.le_trans (List.length_filter_le _ _) (by rw [List.length_range]; exact Nat.le_refl _)
theorem cls_le {m f : Nat} : (cls E m f).length ≤ m := by
  unfold cls
  exact Nat.le_trans (List.length_filter_le _ _) (by rw [List.length_range]; exact Nat.le_refl _)
def partN (E : Nat → Nat → Bool) (n m : Nat) : List (List Nat) := (firsts E m).map fun f => cls E n f
theorem cls_eq (e : Eqv n E) {f g : Nat} (hf : f < n) (hg : g < n) (h : E f g = true) : cls E n f = cls E n g := by
  unfold cls
  refine List.filter_congr fun k hk => ?_
  have hk := List.mem_range.mp hk
  rw [Bool.eq_iff_iff]
  exact ⟨fun z => e.trans g f k hg hf hk (e.symm f g hf hg h) z, fun z => e.trans f g k hf hg hk h z⟩
theorem partN_mem (e : Eqv n E) {m : Nat} (hm : m < n) : cls E n m ∈ partN E n m ↔ ∃ j, j < m ∧ E j m = true := by
  unfold partN
  rw [List.mem_map]
  constructor
  · rintro ⟨f, hf, h⟩
    have hf' := mem_firsts.mp hf
    have : m ∈ cls E n m := List.mem_filter.mpr ⟨List.mem_range.mpr hm, e.refl m hm⟩
    rw [← h] at this
    exact ⟨f, hf'.1, (List.mem_filter.mp this).2⟩
  · rintro ⟨j, hj, h⟩
    obtain ⟨f, h1, h2, h3⟩ := first_of e (i := j) (by omega)
    exact ⟨f, mem_firsts.mpr ⟨by omega, h2⟩, cls_eq e (by omega) hm (e.trans f j m (by omega) (by omega) hm h3 h)⟩
theorem partN_succ (e : Eqv n E) {m : Nat} (hm : m < n) : partN E n (m + 1) = if cls E n m ∈ partN E n m then partN E n m else partN E n m ++ [cls E n m] := by
  have iff := partN_mem e hm
  by_cases h : ∃ j, j < m ∧ E j m = true
  · rw [if_pos (iff.mpr h)]
    obtain ⟨j, hj, hE⟩ := h
    unfold partN
    rw [firsts_succ, if_neg, List.append_nil]
    intro z
    have := List.all_eq_true.mp z j (List.mem_range.mpr hj)
    rw [hE] at this; cases this
  · rw [if_neg (fun z => h (iff.mp z))]
    unfold partN
    rw [firsts_succ, if_pos, List.map_append]; rfl
    refine List.all_eq_true.mpr fun j hj => ?_
    cases q : E j m with
    | false => rfl
    | true => exact absurd ⟨j, List.mem_range.mp hj, q⟩ h
theorem part_flat (e : Eqv n E) : (part E n).flatten.Perm (List.range n) := by
  have key : ∀ m, m ≤ n → ((part E m).flatten).Perm (List.range m) := fun m => by
    induction m with
    | zero => intro _; exact .refl _
    | succ m ih =>
      intro hm
      have ih := ih (by omega)
      rw [List.range_succ]
      by_cases h : ∃ f, f ∈ firsts E m ∧ E f m = true
      · obtain ⟨f, hf, hE⟩ := h
        obtain ⟨k, e1, e2, _⟩ := part_old e (by omega) hf hE
        rw [e2]
        have hk : k < (part E m).length := by rw [part_len]; exact (List.getElem?_eq_some_iff.mp e1).1
        have ek := part_get e1
        have e3 : (part E m)[k] = cls E m f := by rw [List.getElem?_eq_getElem hk] at ek; exact Option.some.inj ek
        have e4 : part E m = (part E m).take k ++ cls E m f :: (part E m).drop (k + 1) := by
          conv => lhs; rw [← List.take_append_drop k (part E m), List.drop_eq_getElem_cons hk, e3]
        have e5 : (part E m).set k (cls E m f ++ [m]) = (part E m).take k ++ (cls E m f ++ [m]) :: (part E m).drop (k + 1) := List.set_eq_take_append_cons_drop .. |>.trans (by rw [if_pos hk])
        rw [e5]
        rw [e4] at ih
        refine List.Perm.trans ?_ (ih.append_right [m])
        simp only [List.flatten_append, List.flatten_cons, List.append_assoc]
        refine List.Perm.append_left _ (List.Perm.append_left _ ?_)
        exact List.perm_append_comm
      · have h' : ∀ f ∈ firsts E m, E f m = false := fun f hf => by
          cases q : E f m with
          | false => rfl
          | true => exact absurd ⟨f, hf, q⟩ h
        rw [(part_new e (by omega) h').1, List.flatten_append]
        exact ih.append_right [m]
  exact key n (Nat.le_refl n)
end
end PF

namespace DCR
open PySem PySem.Spec PyProof.Rows L2 DL DCA PF
variable {n : Nat} {F W C : Nat → Nat → Int} {E : Nat → Nat → Bool}
theorem eqvAll_map {α : Type} (u v : α → D) : ∀ L : List α, PyData.eqvAll (D.toPs (L.map u)) (D.toPs (L.map v)) = L.all fun i => PyData.eqv (u i).toP (v i).toP
  | [] => rfl
  | a :: L => by
    show (PyData.eqv (u a).toP (v a).toP && PyData.eqvAll (D.toPs (L.map u)) (D.toPs (L.map v))) = _
    rw [eqvAll_map u v L]; rfl
theorem eqv_tup (xs ys : List D) : PyData.eqv (D.tup xs).toP (D.tup ys).toP = PyData.eqvAll (D.toPs xs) (D.toPs ys) := by
  show PyData.eqv (.tuple (D.toPs xs)) (.tuple (D.toPs ys)) = _
  rw [PyData.eqv]
theorem eqv_int (a b : Int) : PyData.eqv (D.int a).toP (D.int b).toP = decide (a = b) := by
  show PyData.eqv (.int a) (.int b) = _
  rw [PyData.eqv.eq_5, Bool.eq_iff_iff]; simp
theorem eqv_row {f g : Nat → Int} : PyData.eqv (D.tup (tabl n fun j => .int (f j))).toP (D.tup (tabl n fun j => .int (g j))).toP = decide (∀ j, j < n → f j = g j) := by
  rw [eqv_tup]
  unfold tabl
  rw [eqvAll_map, Bool.eq_iff_iff, List.all_eq_true]
  simp only [eqv_int, decide_eq_true_eq, List.mem_range]
theorem eqv_tab {f g : Nat → Nat → Int} : PyData.eqv (tabD n f).toP (tabD n g).toP = decide (∀ i, i < n → ∀ j, j < n → f i j = g i j) := by
  rw [eqv_tup]
  unfold tabl
  rw [eqvAll_map, Bool.eq_iff_iff, List.all_eq_true]
  constructor
  · intro h
    refine decide_eq_true fun i hi => ?_
    have := h i (List.mem_range.mpr hi)
    exact of_decide_eq_true ((eqv_row (n := n) (f := f i) (g := g i)).symm.trans this)
  · intro h i hi
    exact (eqv_row (n := n) (f := f i) (g := g i)).trans (decide_eq_true (of_decide_eq_true h i (List.mem_range.mp hi)))
theorem row_okE {f : Nat → Int} : (D.tup (tabl n fun j => .int (f j))).okE := ints_okE
theorem tab_okE {f : Nat → Nat → Int} : (tabD n f).okE := cL_okE (cLs_tabl fun _ _ => cLs_tabl fun _ _ => rfl) (Nat.succ_le_succ (Nat.le_trans (hLs_tabl (c := 3) fun _ _ => Nat.succ_le_succ (Nat.le_trans (hLs_tabl (c := 1) fun _ _ => Nat.le_refl _) (by decide))) (by decide)))
theorem exchanged_spec {a b : Nat} {Q X} (hn : n ≤ 1000) (ha : a < n) (hb : b < n) (h : Q (.sh, .lst (tabl n fun k => .int (sw a b k : Nat))) []) : cf_exchanged_two [(.fl, .int n), (.fl, .int a), (.fl, .int b)] Q X := by
  rw [cf_exchanged_two_eq]
  refine go_LR rfl (by omega) ?_
  refine go_stT rfl ha ?_
  refine go_stT rfl hb ?_
  have e : (tabl n fun i => if i = b then D.int a else if i = a then D.int b else .int (i : Nat)) = tabl n fun k => D.int (sw a b k : Nat) := tabl_congr fun i _ => by
    unfold sw
    split
    · rfl
    · split <;> rfl
  rw [← e] at h
  exact h
def stayB (n : Nat) (F : Nat → Nat → Int) (a b : Nat) : Bool := decide (∀ i, i < n → ∀ j, j < n → F (sw a b i) (sw a b j) = F i j)
theorem stays_spec {a b : Nat} {Q X} (hn : n ≤ 1000) (ha : a < n) (hb : b < n) (h : Q (.fl, .bl (stayB n F a b)) []) : cf_stays [(.fl, tabD n F), (.fl, .int a), (.fl, .int b)] Q X := by
  rw [cf_stays_eq]
  have hL : ∀ {f : Nat → D}, ((tabl n f).length : Int) = (n : Nat) := fun {f} => by rw [tabl_len]
  show cf_exchanged_two [(.fl, .int ((tabl n _).length : Nat)), (.fl, .int (a : Nat)), (.fl, .int (b : Nat))] _ _
  rw [tabl_len]
  refine exchanged_spec hn ha hb ?_
  refine go_LcT (fun k => .tup (tabl n fun j => .int (F (sw a b k) (sw a b j)))) (by omega) (fun k N hk hN => ?_) ?_
  · refine go_LcT (fun j => .int (F (sw a b k) (sw a b j))) (by omega) (fun j N hj hN => ?_) hN
    exact go_tab (sw_lt ha hb hk) (go_tab (sw_lt ha hb hj) hN)
  · refine ⟨tab_okE (f := fun i j => F (sw a b i) (sw a b j)), tab_okE, ?_⟩
    show Q (.fl, .bl (PyData.eqv (tabD n fun i j => F (sw a b i) (sw a b j)).toP (tabD n F).toP)) []
    rw [eqv_tab]
    exact h
theorem go_LcLF {α : Type} {L : List α} {G : α → D} {k : Kd} {step : KD → (Option KD → Prop) → Prop} {P : KD → Prop} (s : α → Bool) (f : α → D) (hn : L.length ≤ 10000000)
    (hs : ∀ (i : Nat) a (N : Option KD → Prop), L[i]? = some a → (s a = true → N (some (.fl, f a))) → (s a = false → N none) → step (kel k (G a)) N) (h : P (.sh, .lst ((L.filter s).map f))) : kLc step ((L.map G).map (kel k)) P := by
  unfold kLc; rw [hid_eq]
  refine ⟨by rw [List.length_map, List.length_map]; exact hn, comp_ind (fun i acc => acc = ((L.take i).filter s).map fun a => (.fl, f a)) rfl (fun i z acc N hz hi hN hN0 => ?_) fun acc h2 => ?_⟩
  · rw [List.map_map, List.getElem?_map] at hz
    cases e : L[i]? with
    | none => rw [e] at hz; cases hz
    | some a =>
      rw [e] at hz
      have e2 : kel k (G a) = z := Option.some.inj hz
      subst e2
      have e3 : L.take (i + 1) = L.take i ++ [a] := by rw [List.take_add_one, e]; rfl
      rw [e3, List.filter_append, List.map_append] at hN hN0
      refine hs i a N e (fun q => hN _ ?_) fun q => hN0 ?_
      · rw [hi, List.filter_cons_of_pos q]; rfl
      · rw [hi, List.filter_cons_of_neg (by rw [q]; decide)]; exact (List.append_nil _).symm
  · rw [List.length_map, List.length_map, List.take_length] at h2
    rw [h2, jL_flm, snd_flm]; exact h
abbrev toI (l : List Nat) : List Int := l.map fun k : Nat => (k : Int)
theorem lists_okE {xs : List (List Int)} : (D.lst (xs.map lsI)).okE := cL_okE (cLs_all fun d hd => by
  obtain ⟨l, _, rfl⟩ := List.mem_map.mp hd
  exact cLs_all fun d hd => by obtain ⟨_, _, rfl⟩ := List.mem_map.mp hd; rfl) (Nat.le_trans (Nat.succ_le_succ (hLs_all (c := 3) fun d hd => by
  obtain ⟨l, _, rfl⟩ := List.mem_map.mp hd
  exact Nat.succ_le_succ (Nat.le_trans (hLs_all (c := 1) fun d hd => by obtain ⟨_, _, rfl⟩ := List.mem_map.mp hd; exact Nat.le_refl _) (by decide)))) (by decide))
abbrev clsD (xs : List (List Nat)) : D := .lst ((xs.map toI).map lsI)
theorem put_step {cf : CF} {J : D} {m : Nat} {T : DEnds} {o : Sl} {k : Kd} (hn : n ≤ 1000) (e : Eqv n E) (hm : m < n) (hcf : ∀ a b, a < n → b < n → ∀ {Q X}, Q (.fl, .bl (E a b)) [] → cf [(.fl, J), (.fl, .int (a : Nat)), (.fl, .int (b : Nat))] Q X) (hk : k = .ow ∨ k = .sh)
    (h : T.nx [some (.fl, J), some (.ow, clsD (part E (m + 1))), some (.fl, .int (m : Nat)), o]) : sPutIn 1 (pLcX (iSq (pUnA (pVar 1))) [3] (gNm 3) (pTest (pFn cf (gCons (pVar 0) (gCons (pOp xIx (pUnA (pVar 3)) (pC (.int 0))) (gCons (pVar 2) gNil))))) (pAd (pVar 3))) (pVar 2) T [some (.fl, J), some (k, clsD (part E m)), some (.fl, .int (m : Nat)), o] := by
  have hl : ((part E m).map toI).length = (firsts E m).length := by rw [List.length_map, part_len]
  have hfl := firsts_le (E := E) (m := m)
  have getx : ∀ j, j < (firsts E m).length → ((part E m).map toI).getD j [] = toI (cls E m ((firsts E m).getD j 0)) := fun j hj => by
    rw [List.getD_eq_getElem?_getD, List.getElem?_map, part_get (List.getElem?_eq_getElem hj), List.getD_eq_getElem?_getD, List.getElem?_eq_getElem hj]; rfl
  refine ⟨(part E m).map toI, (List.range ((part E m).map toI).length).filter fun j => E ((firsts E m).getD j 0) m, m, ⟨k, hk, rfl⟩, fun j hj => List.mem_range.mp (List.mem_filter.mp hj).1, by omega, ?_, ?_, lists_okE, fun p fps hfps => ?_, ?_⟩
  · exact Nat.le_trans (List.length_filter_le _ _) (by rw [List.length_range]; omega)
  · intro x hx
    obtain ⟨l, hl2, rfl⟩ := List.mem_map.mp hx
    obtain ⟨f, _, rfl⟩ := List.mem_map.mp hl2
    have := cls_le (E := E) (m := m) (f := f)
    rw [List.length_map]; omega
  · refine go_LcLF (L := List.range ((part E m).map toI).length) (G := fun j => .lsA (fps.getD j 0) ((((part E m).map toI).getD j []).map .int)) (fun j => E ((firsts E m).getD j 0) m) (fun j => .ad (fps.getD j 0)) (by rw [List.length_range]; omega) (fun i j N hj h1 h0 => ?_) ?_
    · have hj' : j < (firsts E m).length := by
        have := List.mem_range.mp (List.mem_of_getElem? hj)
        omega
      have hmem : (firsts E m).getD j 0 ∈ firsts E m := by rw [List.getD_eq_getElem?_getD, List.getElem?_eq_getElem hj']; exact List.getElem_mem _
      obtain ⟨r, er⟩ := cls_head e (Nat.le_of_lt hm) hmem
      have e0 : (((part E m).map toI).getD j []).map D.int = D.int ((firsts E m).getD j 0 : Nat) :: (toI r).map D.int := by
        rw [getx j hj', er]; rfl
      refine go_ix (i := 0) (d := .int ((firsts E m).getD j 0 : Nat)) rfl (by rw [e0]; exact atI_nat (j := 0) rfl) ?_
      refine hcf _ m (Nat.lt_trans (mem_firsts.mp hmem).1 hm) hm ?_
      exact ifb (fun z => h1 z) fun z => h0 z
    · exact ⟨rfl, rfl⟩
  · have key : putAt ((part E m).map toI) (m : Int) ((List.range ((part E m).map toI).length).filter fun j => E ((firsts E m).getD j 0) m) = (part E (m + 1)).map toI := by
      by_cases hx : ∃ f, f ∈ firsts E m ∧ E f m = true
      · obtain ⟨f, hf, hE⟩ := hx
        obtain ⟨k2, e1, e2, e3⟩ := part_old e hm hf hE
        have hk2 := (List.getElem?_eq_some_iff.mp e1).1
        have ef : (firsts E m).getD k2 0 = f := by rw [List.getD_eq_getElem?_getD, e1]; rfl
        have all : ∀ j ∈ (List.range ((part E m).map toI).length).filter (fun j => E ((firsts E m).getD j 0) m), j = k2 := fun j hj => by
          obtain ⟨a1, a2⟩ := List.mem_filter.mp hj
          have hj' : j < (firsts E m).length := by have := List.mem_range.mp a1; omega
          exact (e3 j _ (by rw [List.getElem?_eq_getElem hj', List.getD_eq_getElem?_getD, List.getElem?_eq_getElem hj']; rfl)).mp a2
        have inn : k2 ∈ (List.range ((part E m).map toI).length).filter (fun j => E ((firsts E m).getD j 0) m) := List.mem_filter.mpr ⟨List.mem_range.mpr (by omega), by rw [ef]; exact hE⟩
        cases ej : (List.range ((part E m).map toI).length).filter (fun j => E ((firsts E m).getD j 0) m) with
        | nil => rw [ej] at inn; cases inn
        | cons j r =>
          have : j = k2 := all j (by rw [ej]; exact List.mem_cons_self ..)
          subst this
          show ((part E m).map toI).set j (((part E m).map toI).getD j [] ++ [(m : Int)]) = _
          rw [e2, List.map_set, getx j hk2, ef]
          show _ = ((part E m).map toI).set j ((cls E m f ++ [m]).map fun k : Nat => (k : Int))
          rw [List.map_append]; rfl
      · have h' : ∀ f ∈ firsts E m, E f m = false := fun f hf => by
          cases q : E f m with
          | false => rfl
          | true => exact absurd ⟨f, hf, q⟩ hx
        have ej : (List.range ((part E m).map toI).length).filter (fun j => E ((firsts E m).getD j 0) m) = [] := List.filter_eq_nil_iff.mpr fun j hj => by
          have hj' : j < (firsts E m).length := by have := List.mem_range.mp hj; omega
          have hmem : (firsts E m).getD j 0 ∈ firsts E m := by rw [List.getD_eq_getElem?_getD, List.getElem?_eq_getElem hj']; exact List.getElem_mem _
          rw [h' _ hmem]; decide
        rw [ej, (part_new e hm h').1, List.map_append]; rfl
    show T.nx [some (.fl, J), some (.ow, .lst ((putAt ((part E m).map toI) (m : Int) _).map lsI)), some (.fl, .int (m : Nat)), o]
    rw [key]
    exact h
theorem part_up (e : Eqv n E) : ((part E n).map toI).Pairwise fun x y => x < y := by
  rw [List.pairwise_map]
  unfold PF.part
  rw [List.pairwise_map]
  have nd : (firsts E n).Pairwise (· < ·) := List.Pairwise.filter _ List.pairwise_lt_range
  refine List.Pairwise.imp_of_mem (fun {f g} hf hg hlt => ?_) nd
  obtain ⟨r, e1⟩ := cls_head e (Nat.le_refl n) hf
  obtain ⟨r2, e2⟩ := cls_head e (Nat.le_refl n) hg
  rw [e1, e2]
  exact List.cons_lt_cons_iff.mpr (.inl (Int.ofNat_lt.mpr hlt))
theorem up_uniq {ms L : List (List Int)} (hp : ms.Perm L) (hs : ms.Pairwise fun x y => ¬ y < x) (hL : L.Pairwise fun x y => x < y) : ms = L :=
  List.Perm.eq_of_pairwise (le := fun x y : List Int => ¬ y < x) (fun a b _ _ h1 h2 => List.le_antisymm (List.not_lt.mp h1) (List.not_lt.mp h2)) hs (hL.imp fun h => List.lt_asymm h) hp
theorem part_ne (e : Eqv n E) : ∀ ns ∈ (part E n).map toI, ns ≠ [] := fun ns h => by
  obtain ⟨l, hl, rfl⟩ := List.mem_map.mp h
  obtain ⟨f, hf, rfl⟩ := List.mem_map.mp hl
  obtain ⟨r, er⟩ := cls_head e (Nat.le_refl n) hf
  rw [er]
  exact fun z => by cases z
abbrev setsD (E : Nat → Nat → Bool) (n : Nat) : List D := ((part E n).map toI).map tI
def retS : SF := (sRet (eP (pCall oSortedI (gCons (pLcX (iSq (pVar 1)) [3] (gNm 3) tNilP (pCall oTupleF (gCons (pVar 3) gNil))) gNil))))
theorem ret_spec {J a o} {T : DEnds} (hn : n ≤ 1000) (e : Eqv n E) (h : T.rt (.sh, .lst (setsD E n)) [some (.fl, J), some (.ow, clsD (part E n)), a, o]) : retS T [some (.fl, J), some (.ow, clsD (part E n)), a, o] := by
  have hl : ((part E n).map toI).length ≤ 1000 := by
    rw [List.length_map, part_len]
    exact Nat.le_trans firsts_le hn
  refine go_LcL (L := (part E n).map toI) (G := lsI) (fun l => tI l) (by omega) (fun i l N hl hN => ?_) ?_
  · refine ⟨?_, hN⟩
    exact List.all_eq_true.mpr fun d hd => by obtain ⟨x, _, rfl⟩ := List.mem_map.mp hd; rfl
  · refine ⟨(part E n).map toI, rfl, part_ne e, fun ms hp hs => ?_⟩
    rw [up_uniq hp hs (part_up e)]
    exact h
theorem aliveB_eqv {G : Nat → Nat → Int} {R : Nat → Nat → Bool} (h1 : ∀ a, R a a = true) (h2 : ∀ a b, R a b = true → R b a = true) (h3 : ∀ a b c, R a b = true → R b c = true → R a c = true) : Eqv n fun a b => R a b && stayB n G a b := by
  have st : ∀ a b, stayB n G a b = true ↔ Stays n G a b := fun a b => ⟨fun h i j hi hj => of_decide_eq_true h i hi j hj, fun h => decide_eq_true fun i hi j hj => h i j hi hj⟩
  refine ⟨fun a _ => ?_, fun a b _ _ h => ?_, fun a b c ha hb hc x y => ?_⟩
  · rw [h1, (st a a).mpr (.refl a)]; rfl
  · obtain ⟨x, y⟩ := Bool.and_eq_true_iff.mp h
    rw [h2 a b x, (st b a).mpr ((st a b).mp y).symm]; rfl
  · obtain ⟨x1, x2⟩ := Bool.and_eq_true_iff.mp x
    obtain ⟨y1, y2⟩ := Bool.and_eq_true_iff.mp y
    rw [h3 a b c x1 y1, (st a c).mpr (((st a b).mp x2).trans ha hb hc ((st b c).mp y2))]; rfl
def aliveW (n : Nat) (F C : Nat → Nat → Int) (a b : Nat) : Bool := decide (∀ j, j < n → C a j = C b j) && stayB n F a b
theorem aliveW_eqv : Eqv n (aliveW n F C) := aliveB_eqv (R := fun a b => decide (∀ j, j < n → C a j = C b j)) (fun a => decide_eq_true fun j _ => rfl) (fun a b h => decide_eq_true fun j hj => (of_decide_eq_true h j hj).symm) fun a b c x y => decide_eq_true fun j hj => (of_decide_eq_true x j hj).trans (of_decide_eq_true y j hj)
def aliveP (n : Nat) (W C : Nat → Nat → Int) (a b : Nat) : Bool := decide (∀ j, j < n → C j a = C j b) && stayB n W a b
theorem aliveP_eqv : Eqv n (aliveP n W C) := aliveB_eqv (R := fun a b => decide (∀ j, j < n → C j a = C j b)) (fun a => decide_eq_true fun j _ => rfl) (fun a b h => decide_eq_true fun j hj => (of_decide_eq_true h j hj).symm) fun a b c x y => decide_eq_true fun j hj => (of_decide_eq_true x j hj).trans (of_decide_eq_true y j hj)
theorem are_works_spec {a b : Nat} {Q X} (hn : n ≤ 1000) (ha : a < n) (hb : b < n) (h : Q (.fl, .bl (aliveW n F C a b)) []) : cf_are_alike_works [(.fl, jobD n F W C), (.fl, .int a), (.fl, .int b)] Q X := by
  rw [cf_are_alike_works_eq]
  refine go_ix rfl rfl (go_tab ha (go_ix rfl rfl (go_tab hb ⟨row_okE, row_okE, ?_⟩)))
  show if PyData.eqv (D.tup (tabl n fun j => .int (C a j))).toP (D.tup (tabl n fun j => .int (C b j))).toP = true then _ else _
  rw [eqv_row]
  refine ifd (fun z => ?_) fun z => ?_
  · refine go_ix rfl rfl (stays_spec hn ha hb ?_)
    unfold aliveW at h
    rw [decide_eq_true z] at h
    exact h
  · unfold aliveW at h
    rw [decide_eq_false z] at h
    exact h
theorem works_spec {Q X} (hn1 : 1 ≤ n) (hn : n ≤ 1000) (h : Q (.sh, .lst (setsD (aliveW n F C) n)) []) : cf_alike_works [(.fl, jobD n F W C)] Q X := by
  rw [cf_alike_works_eq]
  have hL : ∀ {f : Nat → D}, ((tabl n f).length : Int) = (n : Nat) := fun {f} => by rw [tabl_len]
  refine go_ix rfl rfl (go_R1 (n := n) hL (by omega) ?_)
  refine go_For0 (fun m ρ => ∃ k o a, (k = Kd.ow ∨ k = Kd.sh) ∧ (0 < m → k = Kd.ow) ∧ ρ = [some (.fl, jobD n F W C), some (k, clsD (part (aliveW n F C) m)), a, o]) ⟨.sh, none, none, .inr rfl, fun z => absurd z (by decide), rfl⟩ (fun m ρ N hm hI hN => ?_) fun ρ hI => ?_
  · obtain ⟨k, o, a, hk, _, rfl⟩ := hI
    exact put_step hn aliveW_eqv hm (fun a b ha hb {Q X} h => are_works_spec hn ha hb h) hk (hN _ ⟨.ow, _, _, .inl rfl, fun _ => rfl, rfl⟩)
  · obtain ⟨k, o, a, _, hk, rfl⟩ := hI
    rw [hk hn1]
    exact ret_spec hn aliveW_eqv h
theorem are_places_spec {a b : Nat} {Q X} (hn : n ≤ 1000) (ha : a < n) (hb : b < n) (h : Q (.fl, .bl (aliveP n W C a b)) []) : cf_are_alike_places [(.fl, jobD n F W C), (.fl, .int a), (.fl, .int b)] Q X := by
  rw [cf_are_alike_places_eq]
  refine go_ix rfl rfl (go_LcT (fun i => .bl (decide (C i a = C i b))) (by omega) (fun i N hi hN => go_tab ha (go_tab hb hN)) ?_)
  refine ⟨tabl n fun i => decide (C i a = C i b), by unfold tabl; rw [List.map_map]; rfl, ?_⟩
  have e : ((tabl n fun i => decide (C i a = C i b)).all id) = decide (∀ j, j < n → C j a = C j b) := by
    rw [Bool.eq_iff_iff, List.all_eq_true, decide_eq_true_iff]
    constructor
    · intro z j hj
      exact of_decide_eq_true (z _ (List.mem_map.mpr ⟨j, List.mem_range.mpr hj, rfl⟩))
    · intro z x hx
      obtain ⟨j, hj, rfl⟩ := List.mem_map.mp hx
      exact decide_eq_true (z j (List.mem_range.mp hj))
  show if ((tabl n fun i => decide (C i a = C i b)).all id) = true then _ else _
  rw [e]
  refine ifd (fun z => ?_) fun z => ?_
  · refine go_ix rfl rfl (stays_spec hn ha hb ?_)
    unfold aliveP at h
    rw [decide_eq_true z] at h
    exact h
  · unfold aliveP at h
    rw [decide_eq_false z] at h
    exact h
theorem places_spec {Q X} (hn1 : 1 ≤ n) (hn : n ≤ 1000) (h : Q (.sh, .lst (setsD (aliveP n W C) n)) []) : cf_alike_places [(.fl, jobD n F W C)] Q X := by
  rw [cf_alike_places_eq]
  have hL : ∀ {f : Nat → D}, ((tabl n f).length : Int) = (n : Nat) := fun {f} => by rw [tabl_len]
  refine go_ix rfl rfl (go_R1 (n := n) hL (by omega) ?_)
  refine go_For0 (fun m ρ => ∃ k o a, (k = Kd.ow ∨ k = Kd.sh) ∧ (0 < m → k = Kd.ow) ∧ ρ = [some (.fl, jobD n F W C), some (k, clsD (part (aliveP n W C) m)), a, o]) ⟨.sh, none, none, .inr rfl, fun z => absurd z (by decide), rfl⟩ (fun m ρ N hm hI hN => ?_) fun ρ hI => ?_
  · obtain ⟨k, o, a, hk, _, rfl⟩ := hI
    exact put_step hn aliveP_eqv hm (fun a b ha hb {Q X} h => are_places_spec hn ha hb h) hk (hN _ ⟨.ow, _, _, .inl rfl, fun _ => rfl, rfl⟩)
  · obtain ⟨k, o, a, _, hk, rfl⟩ := hI
    rw [hk hn1]
    exact ret_spec hn aliveP_eqv h
theorem moved_spec {a b : Nat} {Q X} (hn : n ≤ 1000) (ha : a < n) (hb : b < n) (h : Q (.fl, .bl (!stayB n F a b)) []) : cf__law_moved [(.fl, tabD n F), (.fl, .int a), (.fl, .int b)] Q X := by
  rw [cf__law_moved_eq]
  have hL : ∀ {f : Nat → D}, ((tabl n f).length : Int) = (n : Nat) := fun {f} => by rw [tabl_len]
  have flip : ∀ k : Nat, (if (k : Int) = (b : Nat) then ((a : Nat) : Int) else if (k : Int) = (a : Nat) then ((b : Nat) : Int) else (k : Nat)) = ((sw a b k : Nat) : Int) := fun k => by
    unfold sw
    simp only [Int.ofNat_inj]
    split
    · rfl
    · split <;> rfl
  refine go_R1 (n := n) hL (by omega) ?_
  refine go_For0 (fun k ρ => (∀ i, i < k → ∀ j, j < n → F (sw a b i) (sw a b j) = F i j) ∧ ∃ x y z, ρ = [some (.fl, tabD n F), some (.fl, .int (a : Nat)), some (.fl, .int (b : Nat)), x, y, z]) ⟨fun i hi => absurd hi (Nat.not_lt_zero _), none, none, none, rfl⟩ (fun k ρ N hk hI hN => ?_) fun ρ hI => ?_
  · obtain ⟨hall, x, y, z, rfl⟩ := hI
    refine go_R1 (n := n) hL (by omega) ?_
    refine go_For0 (fun j ρ => (∀ j', j' < j → F (sw a b k) (sw a b j') = F k j') ∧ ∃ y z, ρ = [some (.fl, tabD n F), some (.fl, .int (a : Nat)), some (.fl, .int (b : Nat)), some (.fl, .int (k : Nat)), y, z]) ⟨fun i hi => absurd hi (Nat.not_lt_zero _), y, z, rfl⟩ (fun j ρ N2 hj hI hN2 => ?_) fun ρ hI => ?_
    · obtain ⟨hrow, y, z, rfl⟩ := hI
      refine go_tab hk (go_tab hj ?_)
      refine go_ix (d := .int (sw a b k : Nat)) rfl (congrArg (fun x => some (D.int x)) (flip k)) ?_
      refine go_tab (sw_lt ha hb hk) ?_
      refine go_ix (d := .int (sw a b j : Nat)) rfl (congrArg (fun x => some (D.int x)) (flip j)) ?_
      refine go_tab (sw_lt ha hb hj) ?_
      refine ifdn (fun z => ?_) fun z => ?_
      · have : stayB n F a b = false := decide_eq_false fun q => z (q k hk j hj).symm
        rw [this] at h
        exact h
      · refine hN2 _ ⟨fun j' hj' => ?_, _, _, rfl⟩
        by_cases e : j' = j
        · subst e; exact z.symm
        · exact hrow j' (by omega)
    · obtain ⟨hrow, y, z, rfl⟩ := hI
      refine hN _ ⟨fun i hi j hj => ?_, _, _, _, rfl⟩
      by_cases e : i = k
      · subst e; exact hrow j hj
      · exact hall i (by omega) j hj
  · obtain ⟨hall, x, y, z, rfl⟩ := hI
    have : stayB n F a b = true := decide_eq_true hall
    rw [this] at h
    exact h
abbrev pD (p : Nat × Nat) : D := .tup [.int (p.1 : Nat), .int (p.2 : Nat)]
theorem pairs_spec {Q X} (hn : n ≤ 1000) (h : ∀ L : List (Nat × Nat), (∀ p : Nat × Nat, p ∈ L ↔ p.1 < p.2 ∧ p.2 < n) → L.length ≤ 1000000 → Q (.sh, .lst (L.map pD)) []) : cf__law_pairs [(.fl, .int (n : Nat))] Q X := by
  rw [cf__law_pairs_eq]
  refine go_R1 (n := n) rfl (by omega) ?_
  refine go_For0 (fun m ρ => ∃ (L : List (Nat × Nat)) (a b : Sl), (∀ p : Nat × Nat, p ∈ L ↔ p.1 < p.2 ∧ p.2 < n ∧ p.1 < m) ∧ L.length ≤ m * 1000 ∧ ρ = [some (.fl, .int (n : Nat)), some (.sh, .lst (L.map pD)), a, b]) ⟨[], none, none, fun p => ⟨fun z => (nomatch z), fun z => absurd z.2.2 (Nat.not_lt_zero _)⟩, Nat.zero_le _, rfl⟩ (fun m ρ N hm hI hN => ?_) fun ρ hI => ?_
  · obtain ⟨L, a, b, hL, hl, rfl⟩ := hI
    refine ⟨trivial, go_R2 (n := n - m - 1) (by omega) (by omega) ?_⟩
    refine go_Lc (fun z => .tup [.int (m : Nat), z.2]) (by rw [range_len]; omega) (fun i z N' hz hN' => ?_) ?_
    · obtain ⟨hi, rfl⟩ := range_get hz
      exact hN'
    have e : (rangeD ((m : Int) + 1) (n - m - 1)).map (fun z => D.tup [.int (m : Nat), z.2]) = ((List.range (n - m - 1)).map fun i => (m, m + 1 + i)).map pD := by
      unfold rangeD
      rw [List.map_map, List.map_map]
      refine List.map_congr_left fun i _ => ?_
      show D.tup [.int (m : Nat), .int ((m : Int) + 1 + i)] = D.tup [.int (m : Nat), .int ((m + 1 + i : Nat) : Int)]
      rw [show (m : Int) + 1 + i = ((m + 1 + i : Nat) : Int) by omega]
    rw [e]
    refine go_extend (.inl rfl) (by rw [List.length_map, List.length_map, List.length_map, List.length_range]; omega) ?_
    rw [← List.map_append]
    refine hN _ ⟨L ++ (List.range (n - m - 1)).map fun i => (m, m + 1 + i), _, _, fun p => ?_, ?_, rfl⟩
    · rw [List.mem_append, hL, List.mem_map]
      constructor
      · rintro (z | ⟨i, hi, rfl⟩)
        · exact ⟨z.1, z.2.1, by omega⟩
        · have := List.mem_range.mp hi
          exact ⟨by show m < m + 1 + i; omega, by show m + 1 + i < n; omega, Nat.lt_succ_self m⟩
      · rintro ⟨z1, z2, z3⟩
        by_cases c : p.1 < m
        · exact .inl ⟨z1, z2, c⟩
        · refine .inr ⟨p.2 - m - 1, List.mem_range.mpr (by omega), ?_⟩
          have e1 : m = p.1 := by omega
          have e2 : m + 1 + (p.2 - m - 1) = p.2 := by omega
          rw [e2, e1]
    · rw [List.length_append, List.length_map, List.length_range, Nat.succ_mul]; omega
  · obtain ⟨L, a, b, hL, hl, rfl⟩ := hI
    refine h L (fun p => (hL p).trans ⟨fun z => ⟨z.1, z.2.1⟩, fun z => ⟨z.1, z.2, by omega⟩⟩) (by omega)
theorem toPs_ints : ∀ l : List Int, D.toPs (l.map D.int) = l.map PyData.int
  | [] => rfl
  | x :: l => congrArg (PyData.int x :: ·) (toPs_ints l)
theorem eqv_tI (a b : List Int) : PyData.eqv (tI a).toP (tI b).toP = decide (a = b) := by
  rw [eqv_tup, toPs_ints, toPs_ints, eqvAll_ints]
theorem any_tI (x : List Int) : ∀ nss : List (List Int), ((D.toPs (nss.map tI)).any fun z => PyData.eqv z (tI x).toP) = decide (x ∈ nss)
  | [] => rfl
  | a :: nss => by
    show (PyData.eqv (tI a).toP (tI x).toP || (D.toPs (nss.map tI)).any fun z => PyData.eqv z (tI x).toP) = _
    rw [any_tI x nss, eqv_tI, Bool.eq_iff_iff, Bool.or_eq_true, decide_eq_true_iff, decide_eq_true_iff, decide_eq_true_iff, List.mem_cons]
    exact or_congr ⟨fun h => h.symm, fun h => h.symm⟩ Iff.rfl
theorem tI_okE (x : List Int) : (tI x).okE := cL_okE (cLs_all fun d hd => by obtain ⟨_, _, rfl⟩ := List.mem_map.mp hd; rfl) (Nat.le_trans (Nat.succ_le_succ (hLs_all (c := 1) fun d hd => by obtain ⟨_, _, rfl⟩ := List.mem_map.mp hd; exact Nat.le_refl _)) (by decide))
theorem tIs_okE (nss : List (List Int)) : (D.lst (nss.map tI)).okE := cL_okE (cLs_all fun d hd => by
  obtain ⟨l, _, rfl⟩ := List.mem_map.mp hd
  exact cLs_all fun d hd => by obtain ⟨_, _, rfl⟩ := List.mem_map.mp hd; rfl) (Nat.le_trans (Nat.succ_le_succ (hLs_all (c := 3) fun d hd => by
  obtain ⟨l, _, rfl⟩ := List.mem_map.mp hd
  exact Nat.succ_le_succ (Nat.le_trans (hLs_all (c := 1) fun d hd => by obtain ⟨_, _, rfl⟩ := List.mem_map.mp hd; exact Nat.le_refl _) (by decide)))) (by decide))
abbrev prI (p : Nat × Nat) : List Int := [(p.1 : Int), (p.2 : Int)]
theorem prI_mem {p : Nat × Nat} {U : List (Nat × Nat)} : prI p ∈ U.map prI ↔ p ∈ U := by
  rw [List.mem_map]
  constructor
  · rintro ⟨q, hq, e⟩
    injection e with e1 e2
    injection e2 with e2
    have : q = p := Prod.ext (Int.ofNat.inj e1) (Int.ofNat.inj e2)
    exact this ▸ hq
  · exact fun h => ⟨p, h, rfl⟩
theorem toI_mem {l : List Nat} {L : List (List Nat)} : toI l ∈ L.map toI ↔ l ∈ L := by
  rw [List.mem_map]
  constructor
  · rintro ⟨q, hq, e⟩
    have : q = l := (List.map_inj_right (fun a b e => Int.ofNat.inj e)).mp e
    exact this ▸ hq
  · exact fun h => ⟨l, h, rfl⟩
theorem sets_spec {U : List (Nat × Nat)} {k : Kd} {Q X} (hn : n ≤ 1000) (e : Eqv n E) (hU : ∀ p : Nat × Nat, p ∈ U ↔ p.1 < p.2 ∧ p.2 < n ∧ E p.1 p.2 = false) (hk : k = .sa ∨ k = .rd) (h : Q (.sh, .lst (setsD E n)) []) : cf__law_sets [(.fl, .int (n : Nat)), (k, .lst ((U.map prI).map tI))] Q X := by
  rw [cf__law_sets_eq]
  refine go_R1 (n := n) rfl (by omega) ?_
  refine go_For0 (fun m ρ => ∃ a b c : Sl, ρ = [some (.fl, .int (n : Nat)), some (k, .lst ((U.map prI).map tI)), some (.sh, .lst (((partN E n m).map toI).map tI)), a, b, c]) ⟨none, none, none, rfl⟩ (fun m ρ N hm hI hN => ?_) fun ρ hI => ?_
  · obtain ⟨a, b, c, rfl⟩ := hI
    refine go_R1 (n := n) rfl (by omega) ?_
    have cond : ∀ j, j < n → j ≠ m → ∀ p : Nat × Nat, (p = (j, m) ∧ j < m ∨ p = (m, j) ∧ m < j) → (p ∈ U ↔ E m j = false) := fun j hj hne p hp => by
      rw [hU]
      rcases hp with ⟨rfl, hlt⟩ | ⟨rfl, hlt⟩
      · refine ⟨fun z => ?_, fun z => ⟨hlt, hm, ?_⟩⟩
        · cases q : E m j with
          | false => rfl
          | true =>
            have := e.symm m j hm hj q
            rw [z.2.2] at this; cases this
        · cases q : E j m with
          | false => rfl
          | true =>
            have := e.symm j m hj hm q
            rw [z] at this; cases this
      · exact ⟨fun z => z.2.2, fun z => ⟨hlt, hj, z⟩⟩
    refine go_LcF0 (fun j => E m j) (fun j => .int (j : Nat)) (by omega) (fun j N' hj h1 h0 => ?_) ?_
    · refine ifd (fun z => ?_) fun z => ?_
      · have z : j = m := Int.ofNat.inj z
        subst z
        exact h1 (e.refl j hm)
      · have hne : j ≠ m := fun q => z (by rw [q])
        have fin : ∀ p : Nat × Nat, (p = (j, m) ∧ j < m ∨ p = (m, j) ∧ m < j) → if (!((D.toPs ((U.map prI).map tI)).any fun z => PyData.eqv z (tI (prI p)).toP)) = true then N' (some (.fl, .int (j : Nat))) else N' none := fun p hp => by
          rw [any_tI]
          have c := cond j hj hne p hp
          refine ifdn (fun y => h1 ?_) fun y => h0 (c.mp (prI_mem.mp y))
          cases q : E m j with
          | true => rfl
          | false => exact absurd (prI_mem.mpr (c.mpr q)) y
        by_cases hlt : m < j
        · have e1 : (if (m : Int) < (j : Int) then (m : Int) else (j : Int)) = (m : Int) := if_pos (by omega)
          have e2 : (if (m : Int) > (j : Int) then (m : Int) else (j : Int)) = (j : Int) := if_neg (by omega)
          have key := fin (m, j) (.inr ⟨rfl, hlt⟩)
          have hx : (D.tup [D.int (if (m : Int) < (j : Int) then (m : Int) else (j : Int)), D.int (if (m : Int) > (j : Int) then (m : Int) else (j : Int))]) = tI (prI (m, j)) := by rw [e1, e2]; rfl
          have ho := tI_okE (prI (m, j))
          rw [← hx] at key ho
          exact ⟨ho, tIs_okE _, key⟩
        · have e1 : (if (m : Int) < (j : Int) then (m : Int) else (j : Int)) = (j : Int) := if_neg (by omega)
          have e2 : (if (m : Int) > (j : Int) then (m : Int) else (j : Int)) = (m : Int) := if_pos (by omega)
          have key := fin (j, m) (.inl ⟨rfl, by omega⟩)
          have hx : (D.tup [D.int (if (m : Int) < (j : Int) then (m : Int) else (j : Int)), D.int (if (m : Int) > (j : Int) then (m : Int) else (j : Int))]) = tI (prI (j, m)) := by rw [e1, e2]; rfl
          have ho := tI_okE (prI (j, m))
          rw [← hx] at key ho
          exact ⟨ho, tIs_okE _, key⟩
    · have ec : (((List.range n).filter fun j => E m j).map fun j : Nat => D.int (j : Nat)) = (toI (cls E n m)).map D.int := by
        rw [List.map_map]; rfl
      rw [ec]
      refine ⟨tI_okE (toI (cls E n m)), tIs_okE _, ?_⟩
      show if (!((D.toPs (((partN E n m).map toI).map tI)).any fun z => PyData.eqv z (tI (toI (cls E n m))).toP)) = true then _ else _
      rw [any_tI]
      have es := partN_succ e hm
      refine ifdn (fun y => ?_) fun y => ?_
      · rw [if_neg (fun q => y (toI_mem.mpr q))] at es
        refine ⟨trivial, rfl, ?_, ?_⟩
        · rw [List.length_map, List.length_map]
          unfold partN
          rw [List.length_map]
          have := firsts_le (E := E) (m := m)
          omega
        · refine hN _ ⟨some (.fl, .int (m : Nat)), some (.fl, tI (toI (cls E n m))), c, ?_⟩
          rw [es, List.map_append, List.map_append]; rfl
      · rw [if_pos (toI_mem.mp y)] at es
        refine hN _ ⟨some (.fl, .int (m : Nat)), some (.fl, tI (toI (cls E n m))), c, ?_⟩
        rw [es]; rfl
  · obtain ⟨a, b, c, rfl⟩ := hI
    exact h
theorem pD_tI (U : List (Nat × Nat)) : U.map pD = (U.map prI).map tI := by rw [List.map_map]; rfl
theorem unlike_loop {J : D} {L : List (Nat × Nat)} {body : SF} {T : DEnds} {a b : Sl} {r : Ro} (hL : ∀ p : Nat × Nat, p ∈ L ↔ p.1 < p.2 ∧ p.2 < n) (hl : L.length ≤ 1000000)
    (hb : ∀ (U : List (Nat × Nat)) (p : Nat × Nat) (N : Ro → Prop) (r' : Ro), p.1 < n → p.2 < n → U.length < 1000000 → r'.length = r.length → (∀ r'', r''.length = r.length → N (some (.fl, J) :: some (.sh, .lst ((if E p.1 p.2 then U else U ++ [p]).map pD)) :: some (.fl, .int (p.1 : Nat)) :: some (.fl, .int (p.2 : Nat)) :: r'')) →
      body { T with nx := N } (some (.fl, J) :: some (.sh, .lst (U.map pD)) :: some (.fl, .int (p.1 : Nat)) :: some (.fl, .int (p.2 : Nat)) :: r'))
    (he : ∀ (U : List (Nat × Nat)) (a b : Sl) (r' : Ro), (∀ p : Nat × Nat, p ∈ U ↔ p.1 < p.2 ∧ p.2 < n ∧ E p.1 p.2 = false) → T.nx (some (.fl, J) :: some (.sh, .lst (U.map pD)) :: a :: b :: r')) :
    kFor (gTu 2 (tConsG (gNm 2) (tConsG (gNm 3) tNilG))) body T ((L.map pD).map (kel .sh)) (some (.fl, J) :: some (.sh, .lst []) :: a :: b :: r) := by
  refine go_For (fun i ρ => ∃ (U : List (Nat × Nat)) (a b : Sl) (r' : Ro), r'.length = r.length ∧ U.length ≤ i ∧ (∀ p : Nat × Nat, p ∈ U ↔ p ∈ L.take i ∧ E p.1 p.2 = false) ∧ ρ = some (.fl, J) :: some (.sh, .lst (U.map pD)) :: a :: b :: r') ⟨[], a, b, r, rfl, Nat.le_refl _, fun p => ⟨fun z => (nomatch z), fun z => (nomatch z.1)⟩, rfl⟩ (fun i z ρ N hz hI hN => ?_) fun ρ hI => ?_
  · obtain ⟨U, a, b, r', hr, hU1, hU, rfl⟩ := hI
    rw [List.map_map, List.getElem?_map] at hz
    cases ep : L[i]? with
    | none => rw [ep] at hz; cases hz
    | some p =>
      rw [ep] at hz
      have ez : kel .sh (pD p) = z := Option.some.inj hz
      subst ez
      have hp := (hL p).mp (List.mem_of_getElem? ep)
      have hi := (List.getElem?_eq_some_iff.mp ep).1
      have e3 : L.take (i + 1) = L.take i ++ [p] := by rw [List.take_add_one, ep]; rfl
      refine ⟨rfl, rfl, ?_⟩
      refine hb U p N r' (by omega) hp.2 (by omega) hr fun r'' hr'' => hN _ ⟨_, _, _, r'', hr'', ?_, fun q => ?_, rfl⟩
      · split
        · omega
        · rw [List.length_append, List.length_singleton]; omega
      · rw [e3, List.mem_append, List.mem_singleton]
        by_cases hE : E p.1 p.2 = true
        · rw [if_pos hE, hU]
          refine ⟨fun z => ⟨.inl z.1, z.2⟩, fun z => ⟨z.1.resolve_right fun y => ?_, z.2⟩⟩
          rw [y, hE] at z; cases z.2
        · rw [if_neg hE, List.mem_append, List.mem_singleton, hU]
          constructor
          · rintro (z | rfl)
            · exact ⟨.inl z.1, z.2⟩
            · exact ⟨.inr rfl, by simpa using hE⟩
          · rintro ⟨z | rfl, y⟩
            · exact .inl ⟨z, y⟩
            · exact .inr rfl
  · obtain ⟨U, a, b, r', hr, _, hU, rfl⟩ := hI
    rw [List.length_map, List.length_map, List.take_length] at hU
    exact he U a b r' fun p => by rw [hU, hL]; exact and_assoc
theorem law_works_spec {Q X} (hn : n ≤ 1000) (h : Q (.sh, .lst (setsD (aliveW n F C) n)) []) : cf__law_alike_works [(.fl, jobD n F W C)] Q X := by
  rw [cf__law_alike_works_eq]
  have hL : ∀ {f : Nat → D}, ((tabl n f).length : Int) = (n : Nat) := fun {f} => by rw [tabl_len]
  refine go_ix rfl rfl ?_
  show cf__law_pairs [(.fl, .int ((tabl n _).length : Nat))] _ _
  rw [tabl_len]
  refine pairs_spec hn fun L hL2 hl => ?_
  refine unlike_loop (E := aliveW n F C) (r := []) hL2 hl (fun U p N r' hp1 hp2 hU hr hN => ?_) fun U a b r' hU => ?_
  · have er : r' = [] := List.eq_nil_of_length_eq_zero hr
    subst er
    refine go_ix rfl rfl (go_tab hp1 (go_ix rfl rfl (go_tab hp2 ⟨row_okE, row_okE, ?_⟩)))
    show if (!PyData.eqv (D.tup (tabl n fun j => .int (C p.1 j))).toP (D.tup (tabl n fun j => .int (C p.2 j))).toP) = true then _ else _
    rw [eqv_row]
    have app : aliveW n F C p.1 p.2 = false → (U.map pD).length < 10000000 ∧ N (some (.fl, jobD n F W C) :: some (.sh, .lst (U.map pD ++ [pD p])) :: some (.fl, .int (p.1 : Nat)) :: some (.fl, .int (p.2 : Nat)) :: []) := fun z => by
      have := hN [] rfl
      rw [if_neg (by rw [z]; decide), List.map_append] at this
      exact ⟨by rw [List.length_map]; omega, this⟩
    have nop : aliveW n F C p.1 p.2 = true → N (some (.fl, jobD n F W C) :: some (.sh, .lst (U.map pD)) :: some (.fl, .int (p.1 : Nat)) :: some (.fl, .int (p.2 : Nat)) :: []) := fun z => by
      have := hN [] rfl
      rw [if_pos z] at this
      exact this
    refine ifdn (fun z => ?_) fun z => ?_
    · have hz : aliveW n F C p.1 p.2 = false := by unfold aliveW; rw [decide_eq_false z]; rfl
      exact ⟨trivial, rfl, app hz⟩
    · have hz : aliveW n F C p.1 p.2 = stayB n F p.1 p.2 := by unfold aliveW; rw [decide_eq_true z]; rfl
      refine go_ix rfl rfl (moved_spec hn hp1 hp2 ?_)
      rw [← hz]
      cases q : aliveW n F C p.1 p.2 with
      | true => exact nop q
      | false => exact ⟨trivial, rfl, app q⟩
  · refine go_ix rfl rfl ?_
    show cf__law_sets [(.fl, .int ((tabl n _).length : Nat)), (.sa, .lst (U.map pD))] _ _
    rw [tabl_len, pD_tI]
    exact sets_spec hn aliveW_eqv hU (.inl rfl) h
theorem law_places_spec {Q X} (hn : n ≤ 1000) (h : Q (.sh, .lst (setsD (aliveP n W C) n)) []) : cf__law_alike_places [(.fl, jobD n F W C)] Q X := by
  rw [cf__law_alike_places_eq]
  have hL : ∀ {f : Nat → D}, ((tabl n f).length : Int) = (n : Nat) := fun {f} => by rw [tabl_len]
  refine go_ix rfl rfl ?_
  show cf__law_pairs [(.fl, .int ((tabl n _).length : Nat))] _ _
  rw [tabl_len]
  refine pairs_spec hn fun L hL2 hl => ?_
  refine unlike_loop (E := aliveP n W C) (r := [none]) hL2 hl (fun U p N r' hp1 hp2 hU hr hN => ?_) fun U a b r' hU => ?_
  · obtain ⟨x, rfl⟩ : ∃ x, r' = [x] := by
      cases r' with
      | nil => cases hr
      | cons x r' => exact ⟨x, by rw [List.eq_nil_of_length_eq_zero (Nat.succ.inj hr)]⟩
    have app : aliveP n W C p.1 p.2 = false → (U.map pD).length < 10000000 ∧ N (some (.fl, jobD n F W C) :: some (.sh, .lst (U.map pD ++ [pD p])) :: some (.fl, .int (p.1 : Nat)) :: some (.fl, .int (p.2 : Nat)) :: [x]) := fun z => by
      have := hN [x] rfl
      rw [if_neg (by rw [z]; decide), List.map_append] at this
      exact ⟨by rw [List.length_map]; omega, this⟩
    have nop : aliveP n W C p.1 p.2 = true → N (some (.fl, jobD n F W C) :: some (.sh, .lst (U.map pD)) :: some (.fl, .int (p.1 : Nat)) :: some (.fl, .int (p.2 : Nat)) :: [x]) := fun z => by
      have := hN [x] rfl
      rw [if_pos z] at this
      exact this
    refine go_ix rfl rfl ?_
    refine go_LcLF (L := List.range n) (G := fun i => .tup (tabl n fun j => .int (C i j))) (fun i => decide (¬ C i p.1 = C i p.2)) (fun i => .tup (tabl n fun j => .int (C i j))) (by rw [List.length_range]; omega) (fun i k N' hk h1 h0 => ?_) ?_
    · exact go_tab hp1 (go_tab hp2 (ifdn (fun z => h1 (decide_eq_true z)) fun z => h0 (decide_eq_false fun y => y z)))
    have ok1 : (D.lst (((List.range n).filter fun i => decide (¬ C i p.1 = C i p.2)).map fun i => .tup (tabl n fun j => .int (C i j)))).okE := cL_okE (cLs_all fun d hd => by
      obtain ⟨i, _, rfl⟩ := List.mem_map.mp hd
      exact cLs_tabl fun _ _ => rfl) (Nat.le_trans (Nat.succ_le_succ (hLs_all (c := 3) fun d hd => by
      obtain ⟨i, _, rfl⟩ := List.mem_map.mp hd
      exact Nat.succ_le_succ (Nat.le_trans (hLs_tabl (c := 1) fun _ _ => Nat.le_refl _) (by decide)))) (by decide))
    refine ⟨ok1, cL_okE (d := .lst []) rfl (by decide), ?_⟩
    show if (!PyData.eqv (D.lst (((List.range n).filter fun i => decide (¬ C i p.1 = C i p.2)).map fun i => .tup (tabl n fun j => .int (C i j)))).toP (D.lst []).toP) = true then _ else _
    cases ef : (List.range n).filter fun i => decide (¬ C i p.1 = C i p.2) with
    | cons i l =>
      have hi := List.mem_filter.mp (show i ∈ (List.range n).filter fun i => decide (¬ C i p.1 = C i p.2) by rw [ef]; simp)
      have hz : aliveP n W C p.1 p.2 = false := by
        unfold aliveP
        rw [decide_eq_false fun q => (of_decide_eq_true hi.2) (q i (List.mem_range.mp hi.1))]; rfl
      exact ⟨trivial, rfl, app hz⟩
    | nil =>
      have hall : ∀ j, j < n → C j p.1 = C j p.2 := fun j hj => Classical.byContradiction fun z => by
        have := List.filter_eq_nil_iff.mp ef j (List.mem_range.mpr hj)
        exact this (decide_eq_true z)
      have hz : aliveP n W C p.1 p.2 = stayB n W p.1 p.2 := by unfold aliveP; rw [decide_eq_true hall]; rfl
      refine go_ix rfl rfl (moved_spec hn hp1 hp2 ?_)
      rw [← hz]
      cases q : aliveP n W C p.1 p.2 with
      | true => exact nop q
      | false => exact ⟨trivial, rfl, app q⟩
  · refine go_ix rfl rfl ?_
    show cf__law_sets [(.fl, .int ((tabl n _).length : Nat)), (.sa, .lst (U.map pD))] _ _
    rw [tabl_len, pD_tI]
    exact sets_spec hn aliveP_eqv hU (.inl rfl) h
end DCR

namespace DCR
open PySem PySem.Spec PyProof.Rows L2 DL DCA PF
variable {n : Nat} {F W C : Nat → Nat → Int} {E : Nat → Nat → Bool}
theorem go_LcES {α : Type} [Inhabited α] (F : α → D) {step : KD → Ro → (Option KD → Ro → Prop) → Prop} {n : Nat} {ρ : Ro} {P : KD → Ro → Prop} (I : Nat → Ro → Prop) (C : Nat → α → Prop) (hn : n ≤ 10000000) (h0 : I 0 ρ)
    (hs : ∀ (i : Nat) ρ (N : Option KD → Ro → Prop), i < n → I i ρ → (∀ c ρ', C i c → I (i + 1) ρ' → N (some (.sh, F c)) ρ') → step (.fl, .int i) ρ N)
    (he : ∀ (g : Nat → α) ρ, (∀ i, i < n → C i (g i)) → I n ρ → P (kO n, .lst (tabl n fun i => F (g i))) ρ) : kLcE step (rangeD 0 n) ρ P := by
  refine go_LcE (fun i ρ acc => I i ρ ∧ ∃ g : Nat → α, (∀ j, j < i → C j (g j)) ∧ acc = (List.range i).map fun j => (.sh, F (g j))) (by rw [range_len]; exact hn) ⟨h0, fun _ => default, fun j h => absurd h (Nat.not_lt_zero _), rfl⟩ (fun i z ρ acc N hz hi hN _ => ?_) fun ρ acc h => ?_
  · obtain ⟨hi', rfl⟩ := range_get hz
    rw [Int.zero_add]
    obtain ⟨hI, g, hg, rfl⟩ := hi
    refine hs i ρ N hi' hI fun c ρ' h1 h2 => hN _ ρ' ⟨h2, fun j => if j = i then c else g j, fun j hj => ?_, ?_⟩
    · show C j (if j = i then c else g j)
      by_cases e : j = i
      · rw [if_pos e, e]; exact h1
      · rw [if_neg e]; exact hg j (by omega)
    · rw [List.range_succ, List.map_append]
      refine congr (congrArg _ (List.map_congr_left fun j hj => ?_)) ?_
      · have := List.mem_range.mp hj
        show ((Kd.sh, F (g j)) : KD) = (.sh, F (if j = i then c else g j))
        rw [if_neg (by omega)]
      · show [((Kd.sh, F c) : KD)] = [(.sh, F (if i = i then c else g i))]
        rw [if_pos rfl]
  · obtain ⟨hI, g, hg, rfl⟩ := h
    rw [range_len] at hI hg ⊢
    rw [jL_sh, snd_flm]
    exact he g ρ hg hI
abbrev rowsD (n : Nat) (f : Nat → Nat → Int) : D := .lst (tabl n fun i => .lst (tabl n fun j => .int (f i j)))
theorem table_spec {d : D} {most : Int} {Q X} (hd : Bag d) (hn : n ≤ 1000) (h0 : 0 ≤ most) (h1 : most ≤ 1000000) (h : ∀ f d, (∀ i j, i < n → j < n → 0 ≤ f i j ∧ f i j ≤ max most 2) → Bag d → Q (kO n, rowsD n f) [(.ow, d)]) : cf__law_table [(.ow, d), (.fl, .int (n : Nat)), (.fl, .int most)] Q X := by
  rw [cf__law_table_eq]
  refine ⟨⟨_, rfl⟩, dip_specN hd (by omega) (by omega) fun r d hr hd => ?_⟩
  have pk : ∀ b : Bool, ∃ m : Int, L2.atI [D.int (most + 1), D.int 3] (if b = true then 1 else 0) = some (.int m) ∧ 0 < m ∧ m ≤ 1000001 ∧ m ≤ max most 2 + 1 := fun b => by
    cases b
    · exact ⟨most + 1, rfl, by omega, by omega, by omega⟩
    · exact ⟨3, rfl, by omega, by omega, by omega⟩
  obtain ⟨m, em, m0, m1, m2⟩ := pk (decide ((r : Int) > 0))
  refine go_R1 (n := n) rfl (by omega) ?_
  refine go_LcES (α := Nat → Int) (fun f => .lst (tabl n fun j => .int (f j))) (fun _ ρ => ∃ d, Bag d ∧ ρ = [some (.ow, d), some (.fl, .int (n : Nat)), some (.fl, .int most), some (.fl, .bl (decide ((r : Int) > 0))), none, none]) (fun _ f => ∀ j, j < n → 0 ≤ f j ∧ f j ≤ max most 2) (by omega) ⟨d, hd, rfl⟩ (fun i ρ N hi hI hN => ?_) fun g ρ hg hI => ?_
  · obtain ⟨d, hd, rfl⟩ := hI
    refine go_R1 (n := n) rfl (by omega) ?_
    refine go_LcEA D.int (fun _ ρ => ∃ d, Bag d ∧ ρ = [some (.ow, d), some (.fl, .int (n : Nat)), some (.fl, .int most), some (.fl, .bl (decide ((r : Int) > 0))), some (.fl, .int (i : Nat)), none]) (fun _ x => 0 ≤ x ∧ x ≤ max most 2) (by omega) ⟨d, hd, rfl⟩ (fun j ρ N2 hj hI hN2 => ?_) fun g ρ hg hI => ?_
    · obtain ⟨d, hd, rfl⟩ := hI
      refine ⟨⟨_, rfl⟩, go_ix rfl em (dip_spec hd m0 (by omega) fun x d x0 x1 hd => ?_)⟩
      exact hN2 _ _ ⟨x0, by omega⟩ ⟨d, hd, rfl⟩
    · obtain ⟨d, hd, rfl⟩ := hI
      exact hN g _ hg ⟨d, hd, rfl⟩
  · obtain ⟨d, hd, rfl⟩ := hI
    exact h g d (fun i j hi hj => hg i hi j hj) hd
theorem by_spec {T : Nat → Nat → Int} {r c : Nat → Nat} {kt : Kd} {Q X} (hn : n ≤ 1000) (hk : kt = .ow ∨ kt = .sh) (hr : ∀ i, i < n → r i < n) (hc : ∀ i, i < n → c i < n) (h : Q (kO n, rowsD n fun i j => T (r i) (c j)) []) : cf__law_by [(kt, rowsD n T), (.sa, .lst (tabl n fun i => .int (r i : Nat))), (.sa, .lst (tabl n fun i => .int (c i : Nat)))] Q X := by
  rw [cf__law_by_eq]
  refine go_LcST (fun i => .lst (tabl n fun j => .int (T (r i) (c j)))) (by omega) (fun i N hi hN => ?_) ?_
  · refine go_LcT (fun j => .int (T (r i) (c j))) (by omega) (fun j N2 hj hN2 => ?_) hN
    rcases hk with rfl | rfl
    · exact go_tabl (hr i hi) (go_tabl (hc j hj) hN2)
    · exact go_tabl (hr i hi) (go_tabl (hc j hj) hN2)
  · rcases kO_cases n with e | e
    · rw [e] at h ⊢; exact h
    · rw [e] at h ⊢; exact h
abbrev lc3 : SF := (sRet (eP (pCall oTuple (gCons (pLcX (iSq (pLst (gCons (pVar 6) (gCons (pVar 7) (gCons (pVar 8) gNil))))) [11] (gNm 11) tNilP (pCall oTuple (gCons (pLcX (iSq (pVar 11)) [12] (gNm 12) tNilP (pCall oTupleF (gCons (pVar 12) gNil))) gNil))) gNil))))
abbrev lc2 : SF := (sSeq (sForX (jR1 (gCons (pVar 2) gNil)) (gNm 10) (sSeq (sStIxX (eP (pC (.int 0))) (plIxX (plVar 6) (pVar 10)) (pVar 10)) (sStIxX (eP (pC (.int 0))) (plIxX (plVar 7) (pVar 10)) (pVar 10)))) (sBar lc3))
abbrev lc1 : SF := (sSeq (sIf (eTest (eOp oEq (eFn [true, false] DCA.cf__law_dip (aPl 0 (aE (eP (pC (.int 3))) aNil))) (eP (pC (.int 0))))) (sBorC 6 7 8 9 (eFn [true, false] DCA.cf__law_dip (aPl 0 (aE (eP (pC (.int 3))) aNil))) (sStIxE 9 (eFn [true, false] DCA.cf__law_dip (aPl 0 (aE (eP (pC (.int 4))) aNil))) (eFn [true, false] DCA.cf__law_dip (aPl 0 (aE (eMv 2) aNil))) (eFn [true, false] DCA.cf__law_dip (aPl 0 (aE (eMv 2) aNil))))) sNil) (sBar lc2))
abbrev lc0 : SF := (sSeq (sSet 6 (eFn [false, false, false] cf__law_by (aE (eFn [true, false, false] cf__law_table (aPl 0 (aE (eMv 2) (aE (eP (pC (.int 999))) aNil)))) (aE (eMv 4) (aE (eMv 4) aNil))))) (sSeq (sSet 7 (eFn [false, false, false] cf__law_by (aE (eFn [true, false, false] cf__law_table (aPl 0 (aE (eMv 2) (aE (eP (pC (.int 999))) aNil)))) (aE (eMv 5) (aE (eMv 5) aNil))))) (sSeq (sSet 8 (eFn [false, false, false] cf__law_by (aE (eFn [true, false, false] cf__law_table (aPl 0 (aE (eMv 2) (aE (eP (pC (.int 1000000))) aNil)))) (aE (eMv 4) (aE (eMv 5) aNil))))) (sBar lc1))))

abbrev EndC (n : Nat) (T : DEnds) : Prop := ∀ F W C d a r, Tab n 999 F → Bag d → T.rt (.fl, jobD n F W C) (some (.ow, d) :: a :: r)
theorem lc3_spec {T : DEnds} {d : D} {a1 a3 a4 a5 b0 b1 b2 b3 : Sl} (hT : ∀ F W C a r, Tab n 999 F → T.rt (.fl, jobD n F W C) (some (.ow, d) :: a :: r)) (hF : Tab n 999 F) (hn : n ≤ 8) : kNext lc3 T [some (.ow, d), a1, some (.fl, .int (n : Nat)), a3, a4, a5, some (.ow, rowsD n F), some (.ow, rowsD n W), some (.ow, rowsD n C), b0, b1, b2, b3] := by
  refine go_next ?_
  have fl : ∀ f : Nat → Int, (tabl n fun j => D.int (f j)).all D.flat1 = true := fun f => List.all_eq_true.mpr fun d hd => by obtain ⟨x, _, rfl⟩ := List.mem_map.mp hd; rfl
  refine go_LcL (L := [F, W, C]) (G := fun G => rowsD n G) (fun G => tabD n G) (show 3 ≤ 10000000 by decide) (fun i G N hG hN => ?_) ?_
  · refine go_LcT (fun i => .tup (tabl n fun j => .int (G i j))) (by omega) (fun i N2 hi hN2 => ⟨fl _, hN2⟩) ?_
    exact hN
  · exact hT F W C _ _ hF
theorem lc2_spec {T : DEnds} {d : D} {a1 a3 a4 a5 b0 b1 b2 b3 : Sl} (hT : ∀ F W C a r, Tab n 999 F → T.rt (.fl, jobD n F W C) (some (.ow, d) :: a :: r)) (hF : Tab n 999 F) (hn : n ≤ 8) : kNext lc2 T [some (.ow, d), a1, some (.fl, .int (n : Nat)), a3, a4, a5, some (.ow, rowsD n F), some (.ow, rowsD n W), some (.ow, rowsD n C), b0, b1, b2, b3] := by
  refine go_next (go_R1 (n := n) rfl (by omega) ?_)
  refine go_For0 (fun _ ρ => ∃ F W b1, Tab n 999 F ∧ ρ = [some (.ow, d), a1, some (.fl, .int (n : Nat)), a3, a4, a5, some (.ow, rowsD n F), some (.ow, rowsD n W), some (.ow, rowsD n C), b0, b1, b2, b3]) ⟨F, W, b1, hF, rfl⟩ (fun k ρ N hk hI hN => ?_) fun ρ hI => ?_
  · obtain ⟨F, W, b1, hF, rfl⟩ := hI
    have z : ∀ G : Nat → Nat → Int, (D.lst ((tabl n fun i => D.lst (tabl n fun j => .int (G i j))).set k (.lst ((tabl n fun j => D.int (G k j)).set k (.int 0))))) = rowsD n fun i j => if i = k then (if j = k then 0 else G k j) else G i j := fun G => by
      rw [set_tabl, set_tabl]
      refine congrArg D.lst (tabl_congr fun i _ => ?_)
      by_cases e : i = k
      · rw [if_pos e]
        refine congrArg D.lst (tabl_congr fun j _ => ?_)
        show _ = D.int (if i = k then (if j = k then 0 else G k j) else G i j)
        rw [if_pos e]
        by_cases e2 : j = k
        · rw [if_pos e2, if_pos e2]
        · rw [if_neg e2, if_neg e2]
      · rw [if_neg e]
        refine congrArg D.lst (tabl_congr fun j _ => ?_)
        show _ = D.int (if i = k then (if j = k then 0 else G k j) else G i j)
        rw [if_neg e]
    have get : ∀ G : Nat → Nat → Int, (tabl n fun i => D.lst (tabl n fun j => .int (G i j)))[k]? = some (.lst (tabl n fun j => .int (G k j))) := fun G => tabl_get hk
    refine go_pl rfl (by rw [tabl_len]; exact ixN_ok hk) (get F) ?_
    refine go_st rfl (by rw [tabl_len]; exact ixN_ok hk) ?_
    refine go_pl rfl (by rw [tabl_len]; exact ixN_ok hk) (get W) ?_
    refine go_st rfl (by rw [tabl_len]; exact ixN_ok hk) ?_
    refine hN _ ⟨fun i j => if i = k then (if j = k then 0 else F k j) else F i j, fun i j => if i = k then (if j = k then 0 else W k j) else W i j, some (.fl, .int (k : Nat)), fun i j hi hj => ?_, ?_⟩
    · dsimp only
      by_cases c : i = k
      · rw [if_pos c]
        by_cases c2 : j = k
        · rw [if_pos c2]; exact ⟨by omega, by omega⟩
        · rw [if_neg c2]; exact hF k j hk hj
      · rw [if_neg c]; exact hF i j hi hj
    · rw [← z F, ← z W]; rfl
  · obtain ⟨F, W, b1, hF, rfl⟩ := hI
    exact lc3_spec hT hF hn
abbrev rowsL (n : Nat) (f : Nat → Nat → Int) : List (List Int) := tabl n fun i => tabl n fun j => f i j
theorem rows_eq {n : Nat} {f : Nat → Nat → Int} : rowsD n f = .lst ((rowsL n f).map lsI) := by
  refine congrArg D.lst ?_
  unfold rowsL tabl
  rw [List.map_map]
  refine List.map_congr_left fun i _ => ?_
  show D.lst _ = D.lst _
  rw [List.map_map]; rfl
theorem rows_set {n : Nat} (f : Nat → Nat → Int) (x y : Nat) (v : Int) : (rowsL n f).set x ((tabl n fun j => f x j).set y v) = rowsL n fun i j => if i = x then (if j = y then v else f x j) else f i j := by
  rw [set_tabl, set_tabl]
  refine tabl_congr fun i _ => ?_
  by_cases e : i = x
  · rw [if_pos e]
    refine tabl_congr fun j _ => ?_
    show _ = if i = x then (if j = y then v else f x j) else f i j
    rw [if_pos e]
  · rw [if_neg e]
    refine tabl_congr fun j _ => ?_
    show _ = if i = x then (if j = y then v else f x j) else f i j
    rw [if_neg e]
theorem lc1_spec {T : DEnds} {d : D} {a1 a3 a4 a5 b0 b1 b2 b3 : Sl} (hT : EndC n T) (hF : Tab n 999 F) (hd : Bag d) (hn1 : 1 ≤ n) (hn : n ≤ 8) : kNext lc1 T [some (.ow, d), a1, some (.fl, .int (n : Nat)), a3, a4, a5, some (.ow, rowsD n F), some (.ow, rowsD n W), some (.ow, rowsD n C), b0, b1, b2, b3] := by
  refine go_next ⟨⟨_, rfl⟩, dip_specN hd (by omega) (by omega) fun r d hr hd => ifd (fun _ => ?_) fun _ => lc2_spec (fun F W C a r hF => hT F W C d a r hF hd) hF hn⟩
  rw [rows_eq, rows_eq, rows_eq]
  refine ⟨(by show 9 < 13; decide), ⟨_, rfl⟩, ⟨_, rfl⟩, ⟨_, rfl⟩, ⟨_, rfl⟩, dip_specN hd (by omega) (by omega) fun c d hc hd => ?_⟩
  rcases (by omega : c = 0 ∨ c = 1 ∨ c = 2) with rfl | rfl | rfl
  · refine ⟨0, 6, _, rfl, rfl, rfl, rfl, (by show 9 < 13; decide), ?_⟩
    refine ⟨⟨_, rfl⟩, dip_spec hd (by omega) (by omega) fun v d v0 v1 hd => ⟨v, rowsL n F, rfl, rfl, ⟨⟨_, rfl⟩, dip_specN hd (by omega) (by omega) fun x d hx hd => ⟨x, tabl n fun j => F x j, rfl, tabl_get (by omega), ⟨⟨_, rfl⟩, dip_specN hd (by omega) (by omega) fun y d hy hd => ⟨y, rfl, by rw [tabl_len]; omega, ?_⟩⟩⟩⟩⟩⟩
    have key := lc2_spec (T := T) (d := d) (a1 := a1) (a3 := a3) (a4 := a4) (a5 := a5) (b0 := none) (b1 := b1) (b2 := b2) (b3 := b3) (n := n) (F := (fun i j => if i = x then (if j = y then v else F x j) else F i j)) (W := W) (C := C) (fun F W C a r hF => hT F W C d a r hF hd) (fun i j hi hj => by
      dsimp only
      by_cases c : i = x
      · rw [if_pos c]
        by_cases c2 : j = y
        · rw [if_pos c2]; exact ⟨v0, by omega⟩
        · rw [if_neg c2]; exact hF x j (by omega) hj
      · rw [if_neg c]; exact hF i j hi hj) hn
    rw [rows_eq, rows_eq, rows_eq, ← rows_set F x y v] at key
    exact key
  · refine ⟨1, 7, _, rfl, rfl, rfl, rfl, (by show 9 < 13; decide), ?_⟩
    refine ⟨⟨_, rfl⟩, dip_spec hd (by omega) (by omega) fun v d _ _ hd => ⟨v, rowsL n W, rfl, rfl, ⟨⟨_, rfl⟩, dip_specN hd (by omega) (by omega) fun x d hx hd => ⟨x, tabl n fun j => W x j, rfl, tabl_get (by omega), ⟨⟨_, rfl⟩, dip_specN hd (by omega) (by omega) fun y d hy hd => ⟨y, rfl, by rw [tabl_len]; omega, ?_⟩⟩⟩⟩⟩⟩
    have key := lc2_spec (T := T) (d := d) (a1 := a1) (a3 := a3) (a4 := a4) (a5 := a5) (b0 := none) (b1 := b1) (b2 := b2) (b3 := b3) (n := n) (F := F) (W := (fun i j => if i = x then (if j = y then v else W x j) else W i j)) (C := C) (fun F W C a r hF => hT F W C d a r hF hd) hF hn
    rw [rows_eq, rows_eq, rows_eq, ← rows_set W x y v] at key
    exact key
  · refine ⟨2, 8, _, rfl, rfl, rfl, rfl, (by show 9 < 13; decide), ?_⟩
    refine ⟨⟨_, rfl⟩, dip_spec hd (by omega) (by omega) fun v d _ _ hd => ⟨v, rowsL n C, rfl, rfl, ⟨⟨_, rfl⟩, dip_specN hd (by omega) (by omega) fun x d hx hd => ⟨x, tabl n fun j => C x j, rfl, tabl_get (by omega), ⟨⟨_, rfl⟩, dip_specN hd (by omega) (by omega) fun y d hy hd => ⟨y, rfl, by rw [tabl_len]; omega, ?_⟩⟩⟩⟩⟩⟩
    have key := lc2_spec (T := T) (d := d) (a1 := a1) (a3 := a3) (a4 := a4) (a5 := a5) (b0 := none) (b1 := b1) (b2 := b2) (b3 := b3) (n := n) (F := F) (W := W) (C := (fun i j => if i = x then (if j = y then v else C x j) else C i j)) (fun F W C a r hF => hT F W C d a r hF hd) hF hn
    rw [rows_eq, rows_eq, rows_eq, ← rows_set C x y v] at key
    exact key
end DCR

namespace DCR
open PySem PySem.Spec PyProof.Rows L2 DL DCA PF
variable {n : Nat} {F W C : Nat → Nat → Int} {E : Nat → Nat → Bool}
theorem lc0_spec {T : DEnds} {d : D} {a1 a3 : Sl} {r c : Nat → Nat} {b0 b1 b2 b3 b4 b5 b6 : Sl} (hT : EndC n T) (hd : Bag d) (hn1 : 1 ≤ n) (hn : n ≤ 8) (hr : ∀ i, i < n → r i < n) (hc : ∀ i, i < n → c i < n) : kNext lc0 T [some (.ow, d), a1, some (.fl, .int (n : Nat)), a3, some (.sa, .lst (tabl n fun i => .int (r i : Nat))), some (.sa, .lst (tabl n fun i => .int (c i : Nat))), b0, b1, b2, b3, b4, b5, b6] := by
  obtain ⟨m, rfl⟩ : ∃ m, n = m + 1 := ⟨n - 1, by omega⟩
  have hk : kO (m + 1) = Kd.ow ∨ kO (m + 1) = Kd.sh := .inl rfl
  refine go_next ⟨⟨_, rfl⟩, table_spec hd (by omega) (by decide) (by decide) fun f d hf hd => by_spec (by omega) hk hr hr ?_⟩
  refine ⟨⟨_, rfl⟩, table_spec hd (by omega) (by decide) (by decide) fun g d _ hd => by_spec (by omega) hk hc hc ?_⟩
  refine ⟨⟨_, rfl⟩, table_spec hd (by omega) (by decide) (by decide) fun h d _ hd => by_spec (by omega) hk hr hc ?_⟩
  exact lc1_spec hT (fun i j hi hj => by
    have := hf _ _ (hr i hi) (hr j hj)
    omega) hd hn1 hn
theorem classed_specM {d : D} {most : Int} {Q X} (hd : Bag d) (hm0 : 0 < most) (hm : most ≤ 8) (h : ∀ (n : Nat) F W C d, 1 ≤ n → (n : Int) ≤ most → Tab n 999 F → Bag d → Q (.fl, jobD n F W C) [(.ow, d)]) : cf__law_classed [(.ow, d), (.fl, .int most)] Q X := by
  rw [cf__law_classed_eq]
  refine ⟨⟨_, rfl⟩, dip_specN hd hm0 (by omega) fun q d hq hd => ?_⟩
  refine ⟨⟨_, rfl⟩, dip_specN hd (by omega) (by omega) fun s0 d hs0 hd => ⟨⟨_, rfl⟩, dip_specN hd (by omega) (by omega) fun s1 d hs1 hd => ?_⟩⟩
  refine go_R1 (n := 1 + q) rfl (by omega) ?_
  refine go_LcEA (fun k : Nat => D.int (k : Nat)) (fun _ ρ => ∃ d, Bag d ∧ ρ = [some (.ow, d), some (.fl, .int most), some (.fl, .int (1 + (q : Nat))), some (.sh, .lst [.int (1 + (s0 : Nat)), .int (1 + (s1 : Nat))]), none, none, none, none, none, none, none, none, none]) (fun _ c => c < 1 + q) (by omega) ⟨d, hd, rfl⟩ (fun i ρ N hi hI hN => ?_) fun r ρ hr hI => ?_
  · obtain ⟨d, hd, rfl⟩ := hI
    refine ⟨⟨_, rfl⟩, go_ix rfl rfl (dip_specN hd (by omega) (by omega) fun x d hx hd => hN x _ (by omega) ⟨d, hd, rfl⟩)⟩
  obtain ⟨d, hd, rfl⟩ := hI
  refine go_R1 (n := 1 + q) rfl (by omega) ?_
  refine go_LcEA (fun k : Nat => D.int (k : Nat)) (fun _ ρ => ∃ d, Bag d ∧ ρ = [some (.ow, d), some (.fl, .int most), some (.fl, .int (1 + (q : Nat))), some (.sh, .lst [.int (1 + (s0 : Nat)), .int (1 + (s1 : Nat))]), some (.sh, .lst (tabl (1 + q) fun i => .int (r i : Nat))), none, none, none, none, none, none, none, none]) (fun _ c => c < 1 + q) (by omega) ⟨d, hd, rfl⟩ (fun i ρ N hi hI hN => ?_) fun c ρ hc hI => ?_
  · obtain ⟨d, hd, rfl⟩ := hI
    refine ⟨⟨_, rfl⟩, go_ix rfl rfl (dip_specN hd (by omega) (by omega) fun x d hx hd => hN x _ (by omega) ⟨d, hd, rfl⟩)⟩
  obtain ⟨d, hd, rfl⟩ := hI
  have e : (1 : Int) + (q : Nat) = ((1 + q : Nat) : Int) := by omega
  refine (?_ : kNext lc0 _ [some (.ow, d), some (.fl, .int most), some (.fl, .int (1 + (q : Nat))), some (.sh, .lst [.int (1 + (s0 : Nat)), .int (1 + (s1 : Nat))]), some (.sa, .lst (tabl (1 + q) fun i => .int (r i : Nat))), some (.sa, .lst (tabl (1 + q) fun i => .int (c i : Nat))), none, none, none, none, none, none, none])
  rw [e]
  exact lc0_spec (fun F W C d a r hF hd => h _ F W C d (by omega) (by omega) hF hd) hd (by omega) (by omega) hr hc
theorem rowsD_set (G : Nat → Nat → Int) (x y : Nat) (v : Int) : (D.lst ((tabl n fun i => D.lst (tabl n fun j => .int (G i j))).set x (.lst ((tabl n fun j => D.int (G x j)).set y (.int v))))) = rowsD n fun i j => if i = x then (if j = y then v else G x j) else G i j := by
  rw [set_tabl, set_tabl]
  refine congrArg D.lst (tabl_congr fun i _ => ?_)
  by_cases e : i = x
  · rw [if_pos e]
    refine congrArg D.lst (tabl_congr fun j _ => ?_)
    show _ = D.int (if i = x then (if j = y then v else G x j) else G i j)
    rw [if_pos e]
    by_cases e2 : j = y
    · rw [if_pos e2, if_pos e2]
    · rw [if_neg e2, if_neg e2]
  · rw [if_neg e]
    refine congrArg D.lst (tabl_congr fun j _ => ?_)
    show _ = D.int (if i = x then (if j = y then v else G x j) else G i j)
    rw [if_neg e]
def toRows : D → D
  | .tup ds => .lst (ds.map fun r => match r with | .tup xs => .lst xs | r => r)
  | d => d
theorem toRows_tab (G : Nat → Nat → Int) : toRows (tabD n G) = rowsD n G := by
  show D.lst ((tabl n _).map _) = _
  unfold tabl
  rw [List.map_map]; rfl
theorem other_spec {d : D} {Q X} (hd : Bag d) (hn1 : 1 ≤ n) (hn : n ≤ 8) (h : ∀ F W C d, Bag d → Q (.fl, jobD n F W C) [(.ow, d)]) : cf__law_other_job [(.ow, d), (.fl, jobD n F W C)] Q X := by
  obtain ⟨m, rfl⟩ : ∃ m, n = m + 1 := ⟨n - 1, by omega⟩
  rw [cf__law_other_job_eq]
  have hL : ∀ {f : Nat → D}, ((tabl (m + 1) f).length : Int) = (m + 1 : Nat) := fun {f} => by rw [tabl_len]
  refine go_LcO .ow (fun z => toRows z.2) (.inr rfl) (show 3 ≤ 10000000 by decide) (by simp) (fun i z N hz hN => ?_) ?_
  · obtain ⟨G, rfl⟩ : ∃ G : Nat → Nat → Int, z = (.fl, tabD (m + 1) G) := by
      match i, hz with
      | 0, hz => exact ⟨F, (Option.some.inj hz).symm⟩
      | 1, hz => exact ⟨W, (Option.some.inj hz).symm⟩
      | 2, hz => exact ⟨C, (Option.some.inj hz).symm⟩
    have hN : N (some (.ow, toRows (tabD (m + 1) G))) := hN
    rw [toRows_tab] at hN
    exact go_LcST (fun i => .lst (tabl (m + 1) fun j => .int (G i j))) (by omega) (fun i N2 hi hN2 => hN2) hN
  have ez : (List.map (fun z : KD => toRows z.snd) (List.map (kel (Kd.fl.rdk, jobD (m + 1) F W C).fst) [tabD (m + 1) F, tabD (m + 1) W, tabD (m + 1) C])) = [rowsD (m + 1) F, rowsD (m + 1) W, rowsD (m + 1) C] := by
    show [toRows (tabD (m + 1) F), toRows (tabD (m + 1) W), toRows (tabD (m + 1) C)] = _
    rw [toRows_tab, toRows_tab, toRows_tab]
  rw [ez]
  refine go_ix rfl rfl ?_
  have fin : ∀ (F' W' C' : Nat → Nat → Int) (d : D) (a b c e : Sl), Bag d → Q (.fl, jobD (m + 1) F' W' C') [(.ow, d)] := fun F' W' C' d _ _ _ _ hd => h F' W' C' d hd
  have fl : ∀ f : Nat → Int, (tabl (m + 1) fun j => D.int (f j)).all D.flat1 = true := fun f => List.all_eq_true.mpr fun d hd => by obtain ⟨x, _, rfl⟩ := List.mem_map.mp hd; rfl
  refine ⟨⟨_, rfl⟩, dip_specN hd (by decide) (by decide) fun r d hr hd => go_R1 (n := 1 + r) rfl (by omega) ?_⟩
  refine go_For0 (fun _ ρ => ∃ d F' W' C' a b c e, Bag d ∧ ρ = [some (.ow, d), some (.fl, jobD (m + 1) F W C), some (.ow, .lst [rowsD (m + 1) F', rowsD (m + 1) W', rowsD (m + 1) C']), some (.fl, .int ((tabl (m + 1) fun i => D.tup (tabl (m + 1) fun j => .int (F i j))).length : Nat)), a, b, c, e, none, none, none]) ⟨d, F, W, C, none, none, none, none, hd, rfl⟩ (fun t ρ N ht hI hN => ?_) fun ρ hI => ?_
  · obtain ⟨d, F', W', C', a, b, c, e, hd, rfl⟩ := hI
    refine ⟨⟨_, rfl⟩, dip_specN hd (by decide) (by decide) fun w d hw hd => ?_⟩
    refine ⟨⟨_, rfl⟩, dip_specN hd (by rw [hL]; omega) (by rw [hL]; omega) fun x d hx hd => ⟨⟨_, rfl⟩, dip_specN hd (by rw [hL]; omega) (by rw [hL]; omega) fun y d hy hd => ?_⟩⟩
    rw [hL] at hx hy
    have hx' : x < m + 1 := by omega
    have hy' : y < m + 1 := by omega
    have skip : N [some (.ow, d), some (.fl, jobD (m + 1) F W C), some (.ow, .lst [rowsD (m + 1) F', rowsD (m + 1) W', rowsD (m + 1) C']), some (.fl, .int ((tabl (m + 1) fun i => D.tup (tabl (m + 1) fun j => .int (F i j))).length : Nat)), some (.fl, .int (t : Nat)), some (.fl, .int (w : Nat)), some (.fl, .int (x : Nat)), some (.fl, .int (y : Nat)), none, none, none] := hN _ ⟨d, F', W', C', _, _, _, _, hd, rfl⟩
    rcases (by omega : w = 0 ∨ w = 1 ∨ w = 2) with rfl | rfl | rfl
    · refine ifdn (fun z => ?_) fun z => skip
      exact ⟨⟨_, rfl⟩, dip_spec hd (by decide) (by decide) fun v d _ _ hd => go_pl rfl rfl rfl (go_pl rfl (by rw [tabl_len]; exact ixN_ok hx') (tabl_get hx') (go_st rfl (by rw [tabl_len]; exact ixN_ok hy') (by
        have key := hN _ ⟨d, (fun i j => if i = x then (if j = y then v else F' x j) else F' i j), W', C', some (.fl, .int (t : Nat)), some (.fl, .int (0 : Nat)), some (.fl, .int (x : Nat)), some (.fl, .int (y : Nat)), hd, rfl⟩
        rw [← rowsD_set F' x y v] at key
        exact key)))⟩
    · refine ifdn (fun z => ?_) fun z => skip
      exact ⟨⟨_, rfl⟩, dip_spec hd (by decide) (by decide) fun v d _ _ hd => go_pl rfl rfl rfl (go_pl rfl (by rw [tabl_len]; exact ixN_ok hx') (tabl_get hx') (go_st rfl (by rw [tabl_len]; exact ixN_ok hy') (by
        have key := hN _ ⟨d, F', (fun i j => if i = x then (if j = y then v else W' x j) else W' i j), C', some (.fl, .int (t : Nat)), some (.fl, .int (1 : Nat)), some (.fl, .int (x : Nat)), some (.fl, .int (y : Nat)), hd, rfl⟩
        rw [← rowsD_set W' x y v] at key
        exact key)))⟩
    · exact ⟨⟨_, rfl⟩, dip_spec hd (by decide) (by decide) fun v d _ _ hd => go_pl rfl rfl rfl (go_pl rfl (by rw [tabl_len]; exact ixN_ok hx') (tabl_get hx') (go_st rfl (by rw [tabl_len]; exact ixN_ok hy') (by
        have key := hN _ ⟨d, F', W', (fun i j => if i = x then (if j = y then v else C' x j) else C' i j), some (.fl, .int (t : Nat)), some (.fl, .int (2 : Nat)), some (.fl, .int (x : Nat)), some (.fl, .int (y : Nat)), hd, rfl⟩
        rw [← rowsD_set C' x y v] at key
        exact key)))⟩
  · obtain ⟨d, F', W', C', a, b, c, e, hd, rfl⟩ := hI
    refine ⟨⟨_, rfl⟩, dip_specN hd (by decide) (by decide) fun r2 d hr2 hd => ifd (fun _ => ?_) fun _ => ?_⟩
    · refine go_R1 (n := m + 1) hL (by omega) ?_
      refine go_LcES (α := Nat → Int) (fun f => .lst (tabl (m + 1) fun j => .int (f j))) (fun _ ρ => ∃ d, Bag d ∧ ρ = [some (.ow, d), some (.fl, jobD (m + 1) F W C), some (.ow, .lst [rowsD (m + 1) F', rowsD (m + 1) W', rowsD (m + 1) C']), some (.fl, .int ((tabl (m + 1) fun i => D.tup (tabl (m + 1) fun j => .int (F i j))).length : Nat)), a, b, c, e, none, none, none]) (fun _ _ => True) (by omega) ⟨d, hd, rfl⟩ (fun i ρ N hi hI hN => ?_) fun g ρ _ hI => ?_
      · obtain ⟨d, hd, rfl⟩ := hI
        refine go_R1 (n := m + 1) hL (by omega) ?_
        refine go_LcEA D.int (fun _ ρ => ∃ d, Bag d ∧ ρ = [some (.ow, d), some (.fl, jobD (m + 1) F W C), some (.ow, .lst [rowsD (m + 1) F', rowsD (m + 1) W', rowsD (m + 1) C']), some (.fl, .int ((tabl (m + 1) fun i => D.tup (tabl (m + 1) fun j => .int (F i j))).length : Nat)), a, b, c, e, none, some (.fl, .int (i : Nat)), none]) (fun _ _ => True) (by omega) ⟨d, hd, rfl⟩ (fun j ρ N2 hj hI hN2 => ?_) fun g ρ _ hI => ?_
        · obtain ⟨d, hd, rfl⟩ := hI
          exact ⟨⟨_, rfl⟩, dip_spec hd (by decide) (by decide) fun x d _ _ hd => hN2 _ _ trivial ⟨d, hd, rfl⟩⟩
        · obtain ⟨d, hd, rfl⟩ := hI
          exact hN g _ trivial ⟨d, hd, rfl⟩
      · obtain ⟨d, hd, rfl⟩ := hI
        refine go_st rfl rfl ?_
        refine go_LcL (L := [F', W', g]) (G := fun G => rowsD (m + 1) G) (fun G => tabD (m + 1) G) (show 3 ≤ 10000000 by decide) (fun i G N hG hN => ?_) ?_
        · exact go_LcT (fun i => .tup (tabl (m + 1) fun j => .int (G i j))) (by omega) (fun i N2 hi hN2 => ⟨fl _, hN2⟩) hN
        · exact h F' W' g d hd
    · refine go_LcL (L := [F', W', C']) (G := fun G => rowsD (m + 1) G) (fun G => tabD (m + 1) G) (show 3 ≤ 10000000 by decide) (fun i G N hG hN => ?_) ?_
      · exact go_LcT (fun i => .tup (tabl (m + 1) fun j => .int (G i j))) (by omega) (fun i N2 hi hN2 => ⟨fl _, hN2⟩) hN
      · exact h F' W' C' d hd
end DCR

namespace PD
open DL L2
structure Least (n : Nat) (c : Nat → Nat → Int) (tot : Int) : Prop where
  att : ∃ q : Nat → Nat, (∀ i, i < n → q i < n) ∧ (∀ i j, i < n → j < n → q i = q j → i = j) ∧ tot = sumR n fun i => c i (q i)
  low : ∀ q : Nat → Nat, (∀ i, i < n → q i < n) → (∀ i j, i < n → j < n → q i = q j → i = j) → tot ≤ sumR n fun i => c i (q i)
theorem omap_inj {a b : Option Int} (h : a.map V.int = b.map V.int) : a = b := by
  cases a <;> cases b <;> first | rfl | (cases h; done) | (cases h; rfl)
theorem look_put (L : TD) (k k' : List Int) (i : Int) : look (putI L k i) k' = if k' = k then some i else look L k' := by
  have h := L2.valV_put (lowT L) (lowK k) (lowK k') (V.int i)
  rw [putK_lowT, valV_lowT, valV_lowT] at h
  by_cases e : k' = k
  · rw [if_pos e]
    rw [if_pos (lowK_inj.mpr e)] at h
    exact omap_inj h
  · rw [if_neg e]
    rw [if_neg fun z => e (lowK_inj.mp z)] at h
    exact omap_inj h
theorem look_key {L : TD} {k : List Int} {v : Int} (h : look L k = some v) : ∃ x ∈ L, x.1 = k := by
  unfold look at h
  cases e : L.find? fun y => decide (y.1 = k) with
  | none => rw [e] at h; cases h
  | some y => exact ⟨y, List.mem_of_find?_eq_some e, of_decide_eq_true (p := y.1 = k) (List.find?_some (p := fun y : List Int × Int => decide (y.1 = k)) e)⟩
def srt (ps : List Nat) : List Int := sortU (ps.map fun i : Nat => (i : Int))
def ins (k : List Int) (j : Nat) : List Int := sortU (k ++ [(j : Int)])
def sumL (c : Nat → Nat → Int) : Nat → List Nat → Int
  | _, [] => 0
  | t, x :: r => c t x + sumL c (t + 1) r
def Sel (n i : Nat) (ps : List Nat) : Prop := ps.Nodup ∧ (∀ x ∈ ps, x < n) ∧ ps.length = i
variable {n i : Nat} {c : Nat → Nat → Int} {S L : TD}
theorem sumL_snoc (x : Nat) : ∀ (t : Nat) (ps : List Nat), sumL c t (ps ++ [x]) = sumL c t ps + c (t + ps.length) x
  | t, [] => by show c t x + 0 = 0 + c t x; omega
  | t, y :: r => by
    show c t y + sumL c (t + 1) (r ++ [x]) = c t y + sumL c (t + 1) r + c (t + (r.length + 1)) x
    rw [sumL_snoc x (t + 1) r, show t + 1 + r.length = t + (r.length + 1) by omega]; omega
theorem mem_srt {ps : List Nat} {j : Nat} : (j : Int) ∈ srt ps ↔ j ∈ ps := by
  unfold srt
  rw [(sortU_perm _).mem_iff, List.mem_map]
  exact ⟨fun ⟨a, h, e⟩ => Int.ofNat.inj e ▸ h, fun h => ⟨j, h, rfl⟩⟩
theorem sortU_eq {a b : List Int} (h : a.Perm b) : sortU a = sortU b := sortU_uniq ((sortU_perm a).trans h) (sortU_up a)
theorem ins_srt (ps : List Nat) (j : Nat) : ins (srt ps) j = srt (ps ++ [j]) := by
  unfold ins srt
  refine sortU_eq ?_
  rw [List.map_append]
  exact (sortU_perm _).append_right _
theorem sel_snoc {ps : List Nat} {j : Nat} (h : Sel n i ps) (hj : j < n) (hn : j ∉ ps) : Sel n (i + 1) (ps ++ [j]) := by
  obtain ⟨h1, h2, h3⟩ := h
  refine ⟨List.nodup_append.mpr ⟨h1, by simp, fun a ha b hb e => ?_⟩, fun x hx => ?_, by rw [List.length_append, h3]; rfl⟩
  · rw [List.mem_singleton.mp hb] at e
    exact hn (e ▸ ha)
  · rcases List.mem_append.mp hx with hx | hx
    · exact h2 x hx
    · rw [List.mem_singleton.mp hx]; exact hj
theorem sel_split {ps : List Nat} (h : Sel n (i + 1) ps) : ∃ qs j, ps = qs ++ [j] ∧ Sel n i qs ∧ j < n ∧ j ∉ qs := by
  obtain ⟨h1, h2, h3⟩ := h
  have hne : ps ≠ [] := fun z => by rw [z] at h3; cases h3
  have e := List.dropLast_concat_getLast hne
  refine ⟨ps.dropLast, ps.getLast hne, e.symm, ⟨?_, fun x hx => h2 x (List.dropLast_subset _ hx), by rw [List.length_dropLast, h3]; rfl⟩, h2 _ (List.getLast_mem hne), ?_⟩
  · rw [← e] at h1; exact (List.nodup_append.mp h1).1
  · rw [← e] at h1
    exact fun z => (List.nodup_append.mp h1).2.2 _ z _ (by simp) rfl
def wid : Nat → Nat
  | 0 => 8
  | _ + 1 => 7
def big : Nat → Nat
  | 0 => 1
  | i + 1 => big i * wid i
structure Inv (n : Nat) (c : Nat → Nat → Int) (i : Nat) (S : TD) : Prop where
  low : ∀ ps, Sel n i ps → ∃ v, look S (srt ps) = some v ∧ v ≤ sumL c 0 ps
  att : ∀ k v, look S k = some v → ∃ ps, Sel n i ps ∧ k = srt ps ∧ v = sumL c 0 ps
  len : S.length ≤ big i
theorem Inv.zero : Inv n c 0 [([], 0)] := by
  have hs : srt [] = [] := List.length_eq_zero_iff.mp (by unfold srt; rw [sortU_len]; rfl)
  refine ⟨fun ps h => ?_, fun k v h => ?_, Nat.le_refl _⟩
  · have e : ps = [] := List.length_eq_zero_iff.mp h.2.2
    subst e
    rw [hs]
    exact ⟨0, rfl, Int.le_refl _⟩
  · obtain ⟨x, hx, e⟩ := look_key h
    rw [List.mem_singleton.mp hx] at e
    subst e
    have e2 : v = 0 := (Option.some.inj (show some (0 : Int) = some v from h)).symm
    exact ⟨[], ⟨List.nodup_nil, fun x h => (nomatch h), rfl⟩, hs.symm, e2⟩
structure Mid (n : Nat) (c : Nat → Nat → Int) (i : Nat) (S : TD) (Dn : List Int → Nat → Prop) (L : TD) : Prop where
  low : ∀ k v j, look S k = some v → Dn k j → j < n → (j : Int) ∉ k → ∃ u, look L (ins k j) = some u ∧ u ≤ v + c i j
  att : ∀ k u, look L k = some u → ∃ k' v j, look S k' = some v ∧ j < n ∧ (j : Int) ∉ k' ∧ k = ins k' j ∧ u = v + c i j
theorem Mid.nil {Dn : List Int → Nat → Prop} (h : ∀ k j, ¬ Dn k j) : Mid n c i S Dn [] := ⟨fun k v j _ d => absurd d (h k j), fun k u h => by cases h⟩
theorem Mid.put {Dn Dn' : List Int → Nat → Prop} {k : List Int} {v : Int} {j : Nat} (m : Mid n c i S Dn L) (hk : look S k = some v) (hj : j < n) (hn : (j : Int) ∉ k) (h : ∀ k' j', Dn' k' j' → Dn k' j' ∨ (k' = k ∧ j' = j)) :
    Mid n c i S Dn' (putI L (ins k j) (if v + c i j < (look L (ins k j)).getD (v + c i j) then v + c i j else (look L (ins k j)).getD (v + c i j))) := by
  have le1 : ∀ {o : Option Int} {t : Int}, (if t < o.getD t then t else o.getD t) ≤ t := fun {o t} => by split <;> omega
  have le2 : ∀ {o : Option Int} {t u : Int}, o = some u → (if t < o.getD t then t else o.getD t) ≤ u := fun {o t u} e => by
    rw [e]
    show (if t < u then t else u) ≤ u
    split <;> omega
  refine ⟨fun k' v' j' hk' hd hj' hn' => ?_, fun k' u hu => ?_⟩
  · rw [look_put]
    by_cases e : ins k' j' = ins k j
    · rw [if_pos e]
      refine ⟨_, rfl, ?_⟩
      rcases h k' j' hd with hd | ⟨e1, e2⟩
      · obtain ⟨u, h1, h2⟩ := m.low k' v' j' hk' hd hj' hn'
        rw [e] at h1
        exact Int.le_trans (le2 h1) h2
      · subst e1 e2
        rw [hk] at hk'; cases hk'
        exact le1
    · rw [if_neg e]
      rcases h k' j' hd with hd | ⟨e1, e2⟩
      · exact m.low k' v' j' hk' hd hj' hn'
      · subst e1 e2; exact absurd rfl e
  · rw [look_put] at hu
    by_cases e : k' = ins k j
    · rw [if_pos e] at hu
      have eu := Option.some.inj hu
      by_cases c1 : v + c i j < (look L (ins k j)).getD (v + c i j)
      · rw [if_pos c1] at eu
        exact ⟨k, v, j, hk, hj, hn, e, eu.symm⟩
      · rw [if_neg c1] at eu
        cases e2 : look L (ins k j) with
        | none =>
          rw [e2] at eu
          exact ⟨k, v, j, hk, hj, hn, e, eu.symm⟩
        | some w =>
          rw [e2] at eu
          have eu : w = u := eu
          subst eu
          obtain ⟨k2, v2, j2, a1, a2, a3, a4, a5⟩ := m.att _ _ e2
          exact ⟨k2, v2, j2, a1, a2, a3, by rw [e]; exact a4, a5⟩
    · rw [if_neg e] at hu
      exact m.att k' u hu
theorem Mid.inv {Dn : List Int → Nat → Prop} (I : Inv n c i S) (m : Mid n c i S Dn L) (h : ∀ k v j, look S k = some v → j < n → Dn k j) (hl : L.length ≤ big (i + 1)) : Inv n c (i + 1) L := by
  refine ⟨fun ps hp => ?_, fun k u hu => ?_, hl⟩
  · obtain ⟨qs, j, e, hq, hj, hn⟩ := sel_split hp
    subst e
    obtain ⟨v, h1, h2⟩ := I.low qs hq
    obtain ⟨u, h3, h4⟩ := m.low _ v j h1 (h _ v j h1 hj) hj fun z => hn (mem_srt.mp z)
    rw [ins_srt] at h3
    refine ⟨u, h3, ?_⟩
    rw [sumL_snoc, Nat.zero_add, hq.2.2]; omega
  · obtain ⟨k', v, j, h1, h2, h3, h4, h5⟩ := m.att k u hu
    obtain ⟨ps, hp, e1, e2⟩ := I.att k' v h1
    subst e1
    refine ⟨ps ++ [j], sel_snoc hp h2 fun z => h3 (mem_srt.mpr z), by rw [h4, ins_srt], ?_⟩
    rw [sumL_snoc, Nat.zero_add, hp.2.2, ← e2]; exact h5
theorem sumL_tabl (q : Nat → Nat) (m : Nat) : ∀ t, sumL c t (tabl m q) = sumR m fun i => c (t + i) (q i) := by
  induction m with
  | zero => intro t; rfl
  | succ m ih =>
    intro t
    have e : tabl (m + 1) q = tabl m q ++ [q m] := by unfold tabl; rw [List.range_succ, List.map_append]; rfl
    rw [e, sumL_snoc, ih, sumR_succ, tabl_len]
theorem sel_tabl {q : Nat → Nat} (h1 : ∀ i, i < n → q i < n) (h2 : ∀ i j, i < n → j < n → q i = q j → i = j) : Sel n n (tabl n q) := by
  refine ⟨?_, fun x hx => ?_, tabl_len⟩
  · unfold tabl
    rw [List.Nodup, List.pairwise_map]
    refine List.Pairwise.imp_of_mem (fun {a b} ha hb hab e => ?_) List.nodup_range
    exact hab (h2 a b (List.mem_range.mp ha) (List.mem_range.mp hb) e)
  · obtain ⟨i, hi, rfl⟩ := List.mem_map.mp hx
    exact h1 i (List.mem_range.mp hi)
theorem sub_perm : ∀ {a b : List Nat}, a.Nodup → (∀ x ∈ a, x ∈ b) → b.length ≤ a.length → a.Perm b
  | [], b, _, _, h => by rw [List.length_eq_zero_iff.mp (Nat.le_zero.mp h)]
  | x :: r, b, h, s, hl => by
    have h1 := List.nodup_cons.mp h
    have hx := s x (by simp)
    have e := List.length_erase_of_mem hx
    have h2 := List.length_pos_of_mem hx
    have hl : b.length ≤ r.length + 1 := hl
    have := sub_perm (a := r) (b := b.erase x) h1.2 (fun y hy => (List.mem_erase_of_ne (fun z : y = x => h1.1 (by rw [← z]; exact hy))).mpr (s y (by simp [hy]))) (by omega)
    exact (List.Perm.cons x this).trans (List.perm_cons_erase hx).symm
theorem sel_perm {ps : List Nat} (h : Sel n n ps) : ps.Perm (List.range n) := sub_perm h.1 (fun x hx => List.mem_range.mpr (h.2.1 x hx)) (by rw [List.length_range, h.2.2]; exact Nat.le_refl _)
theorem up_range (n : Nat) : ((List.range n).map fun i : Nat => (i : Int)).Pairwise (· ≤ ·) := by
  rw [List.pairwise_map]
  exact (List.pairwise_lt_range (n := n)).imp fun {a b} h => Int.ofNat_le.mpr (Nat.le_of_lt h)
theorem sel_srt {ps : List Nat} (h : Sel n n ps) : srt ps = (List.range n).map fun i : Nat => (i : Int) :=
  (sortU_uniq (((sel_perm h).map _).symm) (up_range n)).symm
theorem sel_fun {ps : List Nat} (h : Sel n n ps) : ∃ q : Nat → Nat, ps = tabl n q ∧ (∀ i, i < n → q i < n) ∧ (∀ i j, i < n → j < n → q i = q j → i = j) := by
  obtain ⟨h1, h2, h3⟩ := h
  have e : ps = tabl n fun i => ps.getD i 0 := by
    refine List.ext_getElem? fun i => ?_
    by_cases hi : i < n
    · rw [tabl_get hi, List.getD_eq_getElem?_getD, List.getElem?_eq_getElem (by omega)]; rfl
    · rw [List.getElem?_eq_none (by omega), List.getElem?_eq_none (by rw [tabl_len]; omega)]
  refine ⟨_, e, fun i hi => ?_, fun i j hi hj z => ?_⟩
  · rw [List.getD_eq_getElem?_getD, List.getElem?_eq_getElem (by omega)]
    exact h2 _ (List.getElem_mem _)
  · rw [List.getD_eq_getElem?_getD, List.getD_eq_getElem?_getD, List.getElem?_eq_getElem (show i < ps.length by omega), List.getElem?_eq_getElem (show j < ps.length by omega)] at z
    by_cases e : i = j
    · exact e
    · have pw := List.pairwise_iff_getElem.mp h1
      rcases Nat.lt_or_gt_of_ne e with l | l
      · exact absurd z (pw i j (by omega) (by omega) l)
      · exact absurd z.symm (pw j i (by omega) (by omega) l)
theorem Inv.fin {tot : Int} (I : Inv n c n S) (ho : Least n c tot) : look S ((List.range n).map fun i : Nat => (i : Int)) = some tot := by
  obtain ⟨q, h1, h2, h3⟩ := ho.att
  obtain ⟨v, hv, hle⟩ := I.low _ (sel_tabl h1 h2)
  rw [sel_srt (sel_tabl h1 h2)] at hv
  obtain ⟨ps, hp, _, ev⟩ := I.att _ v hv
  obtain ⟨p, ep, p1, p2⟩ := sel_fun hp
  have h4 := ho.low p p1 p2
  have e0 : ∀ {q : Nat → Nat}, sumL c 0 (tabl n q) = sumR n fun i => c i (q i) := fun {q} => by
    rw [sumL_tabl]
    refine congrArg (sumR n) (funext fun i => by rw [Nat.zero_add])
  rw [ep, e0] at ev
  rw [e0, ← h3] at hle
  rw [hv]
  exact congrArg some (by omega)
end PD

namespace PH
open DL PA PC PF DCK
structure Lay (n : Nat) (p : Nat → Nat) : Prop where
  lt : ∀ i, i < n → p i < n
  inj : ∀ i j, i < n → j < n → p i = p j → i = j
variable {n : Nat} {a b : Nat → Nat} {p q r : Nat → Nat}
theorem sw_inj {x y i j : Nat} (h : sw x y i = sw x y j) : i = j := by
  have := congrArg (sw x y) h
  rwa [sw_inv, sw_inv] at this
theorem sw_b {x y : Nat} : sw x y y = x := by unfold sw; rw [if_pos rfl]
theorem sw_a {x y : Nat} : sw x y x = y := by
  unfold sw
  by_cases e : x = y
  · rw [if_pos e, e]
  · rw [if_neg e, if_pos rfl]
theorem sw_o {x y i : Nat} (h1 : i ≠ x) (h2 : i ≠ y) : sw x y i = i := by unfold sw; rw [if_neg h2, if_neg h1]
inductive Reach (n : Nat) (a b : Nat → Nat) (p : Nat → Nat) : (Nat → Nat) → Prop where
  | refl : Reach n a b p p
  | work {q : Nat → Nat} {i j : Nat} : Reach n a b p q → i < n → j < n → a i = a j → Reach n a b p fun k => q (sw i j k)
  | place {q : Nat → Nat} {x y : Nat} : Reach n a b p q → x < n → y < n → b x = b y → Reach n a b p fun k => sw x y (q k)
theorem Lay.work (h : Lay n q) {i j : Nat} (hi : i < n) (hj : j < n) : Lay n fun k => q (sw i j k) :=
  ⟨fun k hk => h.lt _ (sw_lt hi hj hk), fun k l hk hl e => sw_inj (h.inj _ _ (sw_lt hi hj hk) (sw_lt hi hj hl) e)⟩
theorem Lay.place (h : Lay n q) {x y : Nat} (hx : x < n) (hy : y < n) : Lay n fun k => sw x y (q k) :=
  ⟨fun k hk => sw_lt hx hy (h.lt k hk), fun k l hk hl e => h.inj _ _ hk hl (sw_inj e)⟩
theorem Reach.lay (h : Reach n a b p q) (hp : Lay n p) : Lay n q := by
  induction h with
  | refl => exact hp
  | work _ hi hj _ ih => exact ih.work hi hj
  | place _ hx hy _ ih => exact ih.place hx hy
def cM (n : Nat) (a b : Nat → Nat) (r : Nat → Nat) (k x y : Nat) : Int := sumR n fun w => if k ≤ w ∧ a w = x ∧ b (r w) = y then 1 else 0
def dM (n : Nat) (a b : Nat → Nat) (r : Nat → Nat) (k x y : Nat) : Int := sumR n fun w => if w < k ∧ a w = x ∧ b (r w) = y then 1 else 0
theorem cd (k x y : Nat) : cM n a b r 0 x y = dM n a b r k x y + cM n a b r k x y := by
  unfold cM dM
  rw [← sumR_add]
  refine sumR_congr fun w _ => ?_
  by_cases c : a w = x ∧ b (r w) = y
  · rw [if_pos ⟨Nat.zero_le _, c⟩]
    by_cases e : w < k
    · rw [if_pos ⟨e, c⟩, if_neg (fun z => by omega)]; rfl
    · rw [if_neg (fun z => e z.1), if_pos ⟨by omega, c⟩]; rfl
  · rw [if_neg (fun z => c z.2), if_neg (fun z => c z.2), if_neg (fun z => c z.2)]; rfl
theorem Reach.cM0 (h : Reach n a b p q) (x y : Nat) : cM n a b q 0 x y = cM n a b p 0 x y := by
  induction h with
  | refl => rfl
  | @work q i j _ hi hj hE ih =>
    rw [← ih]
    have e : (cM n a b (fun k => q (sw i j k)) 0 x y) = sumR n fun w => (fun w => if 0 ≤ w ∧ a w = x ∧ b (q w) = y then (1 : Int) else 0) (sw i j w) := by
      refine sumR_congr fun w _ => ?_
      have : a (sw i j w) = a w := by
        by_cases c1 : w = j
        · rw [c1, sw_b]; exact hE
        · by_cases c2 : w = i
          · rw [c2, sw_a]; exact hE.symm
          · rw [sw_o c2 c1]
      dsimp only
      rw [this]
      by_cases c : a w = x ∧ b (q (sw i j w)) = y
      · rw [if_pos ⟨Nat.zero_le _, c⟩, if_pos ⟨Nat.zero_le _, c⟩]
      · rw [if_neg (fun z => c z.2), if_neg (fun z => c z.2)]
    rw [e]
    exact sumR_perm1 (f := fun w => if 0 ≤ w ∧ a w = x ∧ b (q w) = y then (1 : Int) else 0) (fun w hw => sw_lt hi hj hw) fun w w' _ _ e => sw_inj e
  | @place q u v _ hu hv hE ih =>
    rw [← ih]
    refine sumR_congr fun w _ => ?_
    have : b (sw u v (q w)) = b (q w) := by
      by_cases c1 : q w = v
      · rw [c1, sw_b]; exact hE
      · by_cases c2 : q w = u
        · rw [c2, sw_a]; exact hE.symm
        · rw [sw_o c2 c1]
    rw [this]
theorem cM_agree (h : ∀ x y, cM n a b q 0 x y = cM n a b r 0 x y) {k : Nat} (e : ∀ i, i < k → q i = r i) (x y : Nat) : cM n a b q k x y = cM n a b r k x y := by
  have h1 := h x y
  rw [cd k x y, cd (r := r) k x y] at h1
  have h2 : dM n a b q k x y = dM n a b r k x y := sumR_congr fun w _ => by
    by_cases c : w < k
    · rw [e w c]
    · rw [if_neg (fun z => c z.1), if_neg (fun z => c z.1)]
  omega
theorem cM_nn (k x y : Nat) : 0 ≤ cM n a b r k x y := sumR_nonneg fun w _ => by split <;> decide
theorem cM_ex {k x y : Nat} (h : 0 < cM n a b r k x y) : ∃ w, k ≤ w ∧ w < n ∧ a w = x ∧ b (r w) = y := Classical.byContradiction fun z => by
  have : cM n a b r k x y = 0 := sumR_zero' fun w hw => if_neg fun y => z ⟨w, y.1, hw, y.2.1, y.2.2⟩
  omega
theorem cM_step {k : Nat} (hk : k < n) (x y : Nat) : cM n a b r k x y = cM n a b r (k + 1) x y + if a k = x ∧ b (r k) = y then 1 else 0 := by
  have e : (if a k = x ∧ b (r k) = y then (1 : Int) else 0) = sumR n fun w => if w = k then (if a k = x ∧ b (r k) = y then 1 else 0) else 0 := (sumR_one hk).symm
  rw [e]
  unfold cM
  rw [← sumR_add]
  refine sumR_congr fun w _ => ?_
  by_cases c : w = k
  · subst c
    rw [if_pos rfl, if_neg (c := w + 1 ≤ w ∧ a w = x ∧ b (r w) = y) (fun z => by omega)]
    by_cases c2 : a w = x ∧ b (r w) = y
    · rw [if_pos ⟨Nat.le_refl _, c2⟩, if_pos c2]; rfl
    · rw [if_neg (fun z => c2 z.2), if_neg c2]; rfl
  · rw [if_neg c]
    by_cases c2 : k ≤ w ∧ a w = x ∧ b (r w) = y
    · rw [if_pos c2, if_pos ⟨by omega, c2.2⟩]; rfl
    · rw [if_neg c2, if_neg (fun z => c2 ⟨by omega, z.2⟩)]; rfl
theorem cM_pos {k : Nat} (hk : k < n) : 0 < cM n a b r k (a k) (b (r k)) := by
  rw [cM_step hk, if_pos ⟨rfl, rfl⟩]
  have := cM_nn (n := n) (a := a) (b := b) (r := r) (k + 1) (a k) (b (r k))
  omega
theorem Reach.next (hp : Lay n p) (h : Reach n a b p r) {k v : Nat} (hk : k < n) (hv : v < n) (hf : ∀ i, i < k → r i ≠ v) (hc : 0 < cM n a b r k (a k) (b v)) : ∃ r', Reach n a b p r' ∧ (∀ i, i < k → r' i = r i) ∧ r' k = v := by
  obtain ⟨w, hkw, hw, ea, eb⟩ := cM_ex hc
  have hr := h.lay hp
  refine ⟨_, (h.work hk hw ea.symm).place (hr.lt w hw) hv eb, fun i hi => ?_, ?_⟩
  · have e1 : sw k w i = i := sw_o (by omega) (by omega)
    show sw (r w) v (r (sw k w i)) = r i
    rw [e1]
    exact sw_o (fun z => by have := hr.inj i w (by omega) hw z; omega) (hf i hi)
  · show sw (r w) v (r (sw k w k)) = v
    rw [sw_a, sw_a]
structure Handed (n : Nat) (a b : Nat → Nat) (p g : Nat → Nat) (k : Nat) : Prop where
  ex : ∃ r, Reach n a b p r ∧ ∀ i, i < k → r i = g i
  low : ∀ i, i < k → ∀ q, Reach n a b p q → (∀ j, j < i → q j = g j) → g i ≤ q i
theorem Handed.start {g : Nat → Nat} : Handed n a b p g 0 := ⟨⟨p, .refl, fun i h => absurd h (Nat.not_lt_zero _)⟩, fun i h => absurd h (Nat.not_lt_zero _)⟩
theorem Handed.next {g : Nat → Nat} (hp : Lay n p) {k v : Nat} (h : Handed n a b p g k) (hk : k < n) (hv : v < n) (hf : ∀ i, i < k → g i ≠ v) (hr : Reach n a b p r) (hg : ∀ i, i < k → r i = g i) (hc : 0 < cM n a b r k (a k) (b v))
    (hl : ∀ u, u < n → (∀ i, i < k → g i ≠ u) → 0 < cM n a b r k (a k) (b u) → v ≤ u) {g' : Nat → Nat} (e1 : ∀ i, i < k → g' i = g i) (e2 : g' k = v) : Handed n a b p g' (k + 1) := by
  refine ⟨?_, fun i hi q hq hj => ?_⟩
  · obtain ⟨r', h1, h2, h3⟩ := hr.next hp hk hv (fun i hi => by rw [hg i hi]; exact hf i hi) hc
    refine ⟨r', h1, fun i hi => ?_⟩
    by_cases c : i = k
    · rw [c, h3, e2]
    · rw [h2 i (by omega), hg i (by omega), e1 i (by omega)]
  · by_cases c : i = k
    · subst c
      rw [e2]
      have hql := hq.lay hp
      refine hl _ (hql.lt i hk) (fun j hj' z => ?_) ?_
      · have h1 := hj j hj'
        rw [e1 j hj'] at h1
        have := hql.inj j i (by omega) hk (h1.trans z)
        omega
      · rw [← cM_agree (q := q) (fun x y => by rw [hq.cM0, hr.cM0]) (fun j hj' => by rw [hj j hj', e1 j hj', hg j hj'])]
        exact cM_pos hk
    · rw [e1 i (by omega)]
      exact h.low i (by omega) q hq fun j hj' => by rw [hj j hj', e1 j (by omega)]
abbrev toIn (n : Nat) (q : Nat → Nat) : List Int := tabl n fun i => ((q i : Nat) : Int)
theorem lex_le : ∀ (m : Nat) {f g : Nat → Nat}, (∀ i, i < m → (∀ j, j < i → f j = g j) → g i ≤ f i) → toIn m g ≤ toIn m f
  | 0, _, _, _ => List.le_refl _
  | m + 1, f, g, h => by
    have fr : ∀ f : Nat → Nat, toIn (m + 1) f = ((f 0 : Nat) : Int) :: toIn m fun i => f (i + 1) := fun f => by
      unfold toIn tabl
      rw [List.range_succ_eq_map, List.map_cons, List.map_map]; rfl
    rw [fr f, fr g]
    have h0 := h 0 (by omega) (fun j hj => absurd hj (Nat.not_lt_zero _))
    by_cases c : f 0 = g 0
    · rw [c]
      refine List.cons_le_cons_iff.mpr (.inr ⟨rfl, lex_le m fun i hi hj => h (i + 1) (by omega) fun j hj' => ?_⟩)
      cases j with
      | zero => exact c
      | succ j => exact hj j (by omega)
    · exact List.cons_le_cons_iff.mpr (.inl (by omega))
theorem Handed.le {g : Nat → Nat} (h : Handed n a b p g n) (hq : Reach n a b p q) : toIn n g ≤ toIn n q := lex_le n fun i hi hj => h.low i hi q hq hj
theorem toIn_congr {f g : Nat → Nat} (h : ∀ i, i < n → f i = g i) : toIn n f = toIn n g := tabl_congr fun i hi => by rw [h i hi]
theorem toIn_inj {f g : Nat → Nat} (h : toIn n f = toIn n g) : ∀ i, i < n → f i = g i := fun i hi => by
  have := congrArg (fun l : List Int => l[i]?) h
  rw [tabl_get hi, tabl_get hi] at this
  exact Int.ofNat.inj (Option.some.inj this)
end PH

namespace DCT
open PySem PySem.Spec PyProof.Rows L2 DL
noncomputable section
def sem_set_of : SF :=
  (sRet (eP (pOp xIx (pLcX (jR1 (gCons (pCall oLen (gCons (pVar 0) gNil)) gNil)) [2] (gNm 2) (pTest (pOp (oIn false) (pVar 1) (pOp xIx (pVar 0) (pVar 2)))) (pVar 2)) (pC (.int 0)))))
@[irreducible] def cf_set_of : CF := hid (cfOf 1 [false, false] sem_set_of)
def sem_first_alike : SF :=
  (sSeq (sSet 2 (eP (pFn DCR.cf_alike_works (gCons (pVar 0) gNil))))
    (sSeq (sSet 3 (eP (pFn DCR.cf_alike_places (gCons (pVar 0) gNil))))
    (sSeq (sSet 4 (eP pDNewT))
    (sSeq (sForX (iEn (gCons (pVar 1) gNil)) (gTu 2 (tConsG (gNm 5) (tConsG (gNm 6) tNilG))) (sSeq (sSet 7 (eP (pTupK (gCons (pFn cf_set_of (gCons (pVar 2) (gCons (pVar 5) gNil))) (gCons (pFn cf_set_of (gCons (pVar 3) (gCons (pVar 6) gNil))) gNil)))))
    (sPutK (eP (pOp oAdd (pGet2K (pVar 4) (pVar 7) (pC (.int 0))) (pC (.int 1)))) (plVar 4) (pVar 7))))
    (sSeq (sSet 8 (eP (pLR1X (pCall oLen (gCons (pVar 1) gNil)))))
    (sSeq (sSet 9 (eP (pLst gNil)))
    (sSeq (sForX (jR1 (gCons (pCall oLen (gCons (pVar 1) gNil)) gNil)) (gNm 5) (sSeq (sSet 10 (eP (pFn cf_set_of (gCons (pVar 2) (gCons (pVar 5) gNil)))))
    (sSeq (sSet 6 (eP (pOp xIx (pLcX (iSq (pVar 8)) [11] (gNm 11) (pTest (pOp oGt (pGet2K (pVar 4) (pTupK (gCons (pVar 10) (gCons (pFn cf_set_of (gCons (pVar 3) (gCons (pVar 11) gNil))) gNil))) (pC (.int 0))) (pC (.int 0)))) (pVar 11)) (pC (.int 0)))))
    (sSeq (sSet 7 (eP (pTupK (gCons (pVar 10) (gCons (pFn cf_set_of (gCons (pVar 3) (gCons (pVar 6) gNil))) gNil)))))
    (sSeq (sPutK (eP (pOp oSub (pGetK (pVar 4) (pVar 7)) (pC (.int 1)))) (plVar 4) (pVar 7))
    (sSeq (sExpr (eMthR xRemove 8 (aE (eMv 6) aNil)))
    (sExpr (eMthR mAppend 9 (aE (eMv 6) aNil)))))))))
    (sRet (eP (pCall oTuple (gCons (pVar 9) gNil)))))))))))
@[irreducible] def cf_first_alike : CF := hid (cfOf 10 [false, false] sem_first_alike)
end
end DCT

namespace DCT
open PySem PySem.Spec PyProof.Rows L2 DL DCA DCR PF PD PH
variable {n : Nat} {F W C : Nat → Nat → Int} {E : Nat → Nat → Bool}
theorem inD_toI {x : Nat} {S : List Nat} : inD (.int x) ((toI S).map .int) = decide (x ∈ S) := by
  unfold inD
  rw [List.map_map, List.any_map, Bool.eq_iff_iff, List.any_eq_true, decide_eq_true_iff]
  constructor
  · rintro ⟨y, hy, e⟩
    have e : ((y : Int) == (x : Int)) = true := e
    have := Int.ofNat.inj (beq_iff_eq.mp e)
    rw [← this]; exact hy
  · intro h
    exact ⟨x, h, beq_iff_eq.mpr rfl⟩
theorem flat_toI {S : List Nat} : ((toI S).map D.int).all D.flat1 = true := List.all_eq_true.mpr fun d hd => by obtain ⟨x, _, rfl⟩ := List.mem_map.mp hd; rfl
def homes (E : Nat → Nat → Bool) (n x : Nat) : List Nat := (List.range (part E n).length).filter fun k => decide (x ∈ (part E n).getD k [])
def home (E : Nat → Nat → Bool) (n x : Nat) : Nat := (homes E n x).headD 0
theorem part_mem {k x : Nat} (hk : k < (part E n).length) : ∃ f, (firsts E n)[k]? = some f ∧ (x ∈ (part E n).getD k [] ↔ x < n ∧ E f x = true) := by
  rw [part_len] at hk
  refine ⟨(firsts E n)[k], List.getElem?_eq_getElem hk, ?_⟩
  rw [List.getD_eq_getElem?_getD, part_get (List.getElem?_eq_getElem hk)]
  show x ∈ cls E n _ ↔ _
  unfold cls
  rw [List.mem_filter, List.mem_range]
theorem homes_ne (e : Eqv n E) {x : Nat} (hx : x < n) : ∃ k r, homes E n x = k :: r := by
  have h1 := (part_flat e).mem_iff.mpr (List.mem_range.mpr hx)
  obtain ⟨l, hl, hxl⟩ := List.mem_flatten.mp h1
  obtain ⟨k, hk, ek⟩ := List.mem_iff_getElem.mp hl
  have : k ∈ homes E n x := List.mem_filter.mpr ⟨List.mem_range.mpr hk, decide_eq_true (by rw [List.getD_eq_getElem?_getD, List.getElem?_eq_getElem hk, ek]; exact hxl)⟩
  cases h : homes E n x with
  | nil => rw [h] at this; cases this
  | cons k r => exact ⟨k, r, rfl⟩
theorem lc_cast {step : KD → (Option KD → Prop) → Prop} {zs zs' : List KD} {P : KD → Prop} (e : zs = zs') (h : kLc step zs' P) : kLc step zs P := e ▸ h
abbrev prK (x y : Nat) : List Int := [(x : Int), (y : Int)]
theorem prK_inj {x y x' y' : Nat} : prK x y = prK x' y' ↔ x = x' ∧ y = y' := by
  constructor
  · intro h
    injection h with e1 e2
    injection e2 with e2
    exact ⟨Int.ofNat.inj e1, Int.ofNat.inj e2⟩
  · rintro ⟨rfl, rfl⟩; rfl
def LeftIs (kvs : TD) (f : Nat → Nat → Int) : Prop := ∀ x y, (look kvs (prK x y)).getD 0 = f x y
theorem LeftIs.put {kvs : TD} {f g : Nat → Nat → Int} (h : LeftIs kvs f) {x y : Nat} {i : Int} (e : i = g x y) (ho : ∀ x' y', ¬ (x' = x ∧ y' = y) → g x' y' = f x' y') : LeftIs (putI kvs (prK x y) i) g := fun x' y' => by
  rw [look_put]
  by_cases c : x' = x ∧ y' = y
  · rw [if_pos (prK_inj.mpr c), c.1, c.2]; exact e
  · rw [if_neg (fun z => c (prK_inj.mp z)), ho x' y' c]; exact h x' y'
end DCT

namespace PH
open DL PA PC PF DCK DCA PD
variable {n : Nat} {a b : Nat → Nat} {p q r : Nat → Nat} {F W C : Nat → Nat → Int}
theorem Reach.trans (h : Reach n a b p q) (h' : Reach n a b q r) : Reach n a b p r := by
  induction h' with
  | refl => exact h
  | work _ hi hj e ih => exact ih.work hi hj e
  | place _ hx hy e ih => exact ih.place hx hy e
theorem Reach.symm (h : Reach n a b p q) : Reach n a b q p := by
  induction h with
  | refl => exact .refl
  | @work q i j _ hi hj e ih =>
    have h1 : Reach n a b (fun k => q (sw i j k)) (fun k => (fun k => q (sw i j k)) (sw i j k)) := Reach.refl.work hi hj e
    have h2 : (fun k => (fun k => q (sw i j k)) (sw i j k)) = q := funext fun k => by
      show q (sw i j (sw i j k)) = q k
      rw [sw_inv]
    rw [h2] at h1
    exact h1.trans ih
  | @place q x y _ hx hy e ih =>
    have h1 : Reach n a b (fun k => sw x y (q k)) (fun k => sw x y ((fun k => sw x y (q k)) k)) := Reach.refl.place hx hy e
    have h2 : (fun k => sw x y ((fun k => sw x y (q k)) k)) = q := funext fun k => sw_inv x y (q k)
    rw [h2] at h1
    exact h1.trans ih
theorem Handed.same {g g' : Nat → Nat} (h : Handed n a b p g n) (hq : Reach n a b p q) (h' : Handed n a b q g' n) : ∀ i, i < n → g i = g' i := by
  obtain ⟨r, hr, er⟩ := h.ex
  obtain ⟨r', hr', er'⟩ := h'.ex
  have l1 : toIn n g ≤ toIn n g' := by
    rw [← toIn_congr er']
    exact h.le (hq.trans hr')
  have l2 : toIn n g' ≤ toIn n g := by
    rw [← toIn_congr er]
    exact h'.le (hq.symm.trans hr)
  exact toIn_inj (List.le_antisymm l1 l2)
structure Keeps (n : Nat) (F W C : Nat → Nat → Int) (a b : Nat → Nat) : Prop where
  row : ∀ i j, i < n → j < n → a i = a j → ∀ y, y < n → C i y = C j y
  sq : ∀ i j, i < n → j < n → a i = a j → ∀ k, k < n → ∀ l, l < n → F (sw i j k) (sw i j l) = F k l
  col : ∀ x y, x < n → y < n → b x = b y → ∀ i, i < n → C i x = C i y
  way : ∀ x y, x < n → y < n → b x = b y → ∀ k, k < n → ∀ l, l < n → W (sw x y k) (sw x y l) = W k l
theorem Reach.sorts (hp : Lay n p) (h : Reach n a b p q) : ((List.range n).map fun k => (a k, b (q k))).Perm ((List.range n).map fun k => (a k, b (p k))) := by
  induction h with
  | refl => exact List.Perm.refl _
  | @work q i j hq hi hj e ih =>
    refine List.Perm.trans ?_ ih
    have hs : ((List.range n).map (sw i j)).Perm (List.range n) := by
      refine sub_perm ?_ (fun x hx => ?_) (by rw [List.length_map]; exact Nat.le_refl _)
      · unfold List.Nodup
        rw [List.pairwise_map]
        exact List.nodup_range.imp fun h z => h (sw_inj z)
      · obtain ⟨k, hk, rfl⟩ := List.mem_map.mp hx
        exact List.mem_range.mpr (sw_lt hi hj (List.mem_range.mp hk))
    have h2 := hs.map fun k => (a k, b (q k))
    rw [List.map_map] at h2
    refine (List.Perm.of_eq (List.map_congr_left fun k hk => ?_)).trans h2
    show (a k, b (q (sw i j k))) = (a (sw i j k), b (q (sw i j k)))
    have : a (sw i j k) = a k := by
      by_cases c1 : k = j
      · rw [c1, sw_b]; exact e
      · by_cases c2 : k = i
        · rw [c2, sw_a]; exact e.symm
        · rw [sw_o c2 c1]
    rw [this]
  | @place q x y hq hx hy e ih =>
    refine List.Perm.trans (List.Perm.of_eq (List.map_congr_left fun k hk => ?_)) ih
    show (a k, b (sw x y (q k))) = (a k, b (q k))
    have : b (sw x y (q k)) = b (q k) := by
      by_cases c1 : q k = y
      · rw [c1, sw_b]; exact e
      · by_cases c2 : q k = x
        · rw [c2, sw_a]; exact e.symm
        · rw [sw_o c2 c1]
    rw [this]
end PH
namespace PI
def tak : List Nat → Nat → List (List Nat)
  | [], m => if m = 0 then [[]] else []
  | r :: R, m => (List.range (min m r + 1)).flatMap fun i => (tak R (m - i)).map fun t => (r - i) :: t
def ways : List Nat → List Nat → Nat
  | [], _ => 1
  | s :: S, R => ((tak R s).map (ways S)).sum
def fact : Nat → Nat
  | 0 => 1
  | k + 1 => fact k * (k + 1)
def fall (x : Nat) : Nat → Nat
  | 0 => 1
  | s + 1 => fall x s * (x - s)
theorem fact_pos : ∀ k, 0 < fact k
  | 0 => Nat.one_pos
  | k + 1 => Nat.mul_pos (fact_pos k) (Nat.succ_pos k)
theorem fall_zero {x : Nat} : ∀ {s : Nat}, x < s → fall x s = 0
  | 0, h => absurd h (Nat.not_lt_zero _)
  | s + 1, h => by
    show fall x s * (x - s) = 0
    rw [show x - s = 0 by omega, Nat.mul_zero]
theorem fall_front (x : Nat) : ∀ s, fall (x + 1) (s + 1) = (x + 1) * fall x s
  | 0 => by show 1 * (x + 1 - 0) = (x + 1) * 1; omega
  | s + 1 => by
    show fall (x + 1) (s + 1) * (x + 1 - (s + 1)) = (x + 1) * (fall x s * (x - s))
    rw [fall_front x s, show x + 1 - (s + 1) = x - s by omega, Nat.mul_assoc]
theorem fall_step (x s : Nat) : fall (x + 1) (s + 1) = fall x (s + 1) + (s + 1) * fall x s := by
  rw [fall_front]
  show _ = fall x s * (x - s) + _
  by_cases h : s ≤ x
  · rw [Nat.mul_comm (fall x s), ← Nat.add_mul]
    congr 1; omega
  · rw [fall_zero (by omega)]; simp
theorem fall_mono {x y : Nat} (h : x ≤ y) : ∀ s, fall x s ≤ fall y s
  | 0 => Nat.le_refl _
  | s + 1 => Nat.mul_le_mul (fall_mono h s) (by omega)
theorem fall_fact {x : Nat} : ∀ {s : Nat}, s ≤ x → fall x s * fact (x - s) = fact x
  | 0, _ => by show 1 * fact x = _; rw [Nat.one_mul]
  | s + 1, h => by
    show fall x s * (x - s) * fact (x - (s + 1)) = _
    rw [← fall_fact (x := x) (s := s) (by omega), Nat.mul_assoc]
    congr 1
    have : x - s = (x - (s + 1)) + 1 := by omega
    rw [this]
    exact Nat.mul_comm _ _
theorem tak0 (R : List Nat) (s : Nat) : (tak (0 :: R) s).length = (tak R s).length := by
  show ((List.range (min s 0 + 1)).flatMap _).length = _
  rw [Nat.min_zero]
  show ([0].flatMap fun i => (tak R (s - i)).map fun t => (0 - i) :: t).length = _
  rw [List.flatMap_cons, List.flatMap_nil, List.append_nil, List.length_map, Nat.sub_zero]
theorem takz (r : Nat) (R : List Nat) : (tak (r :: R) 0).length = (tak R 0).length := by
  show ((List.range (min 0 r + 1)).flatMap _).length = _
  rw [Nat.zero_min]
  show ([0].flatMap fun i => (tak R (0 - i)).map fun t => (r - i) :: t).length = _
  rw [List.flatMap_cons, List.flatMap_nil, List.append_nil, List.length_map]
theorem tak_step (r : Nat) (R : List Nat) (s : Nat) : (tak ((r + 1) :: R) (s + 1)).length = (tak R (s + 1)).length + (tak (r :: R) s).length := by
  show ((List.range (min (s + 1) (r + 1) + 1)).flatMap fun i => (tak R (s + 1 - i)).map fun t => (r + 1 - i) :: t).length = _
  have e : min (s + 1) (r + 1) + 1 = (min s r + 1) + 1 := by omega
  rw [e, List.range_succ_eq_map, List.flatMap_cons, List.length_append, List.length_map, Nat.sub_zero]
  congr 1
  show _ = ((List.range (min s r + 1)).flatMap fun i => (tak R (s - i)).map fun t => (r - i) :: t).length
  rw [List.flatMap_map]
  rw [List.length_flatMap, List.length_flatMap]
  congr 1
  refine List.map_congr_left fun i _ => ?_
  rw [List.length_map, List.length_map, Nat.succ_sub_succ]
theorem tak_zero : ∀ R : List Nat, (tak R 0).length = 1
  | [] => rfl
  | r :: R => by rw [takz]; exact tak_zero R
theorem tak_le : ∀ (R : List Nat) (s : Nat), (tak R s).length ≤ fall R.sum s
  | [], 0 => Nat.le_refl _
  | [], s + 1 => by
    show (if s + 1 = 0 then [[]] else ([] : List (List Nat))).length ≤ _
    rw [if_neg (by omega)]; exact Nat.zero_le _
  | r :: R, s => by
    induction r generalizing s with
    | zero => rw [tak0, List.sum_cons, Nat.zero_add]; exact tak_le R s
    | succ r ih =>
      cases s with
      | zero => rw [tak_zero]; exact Nat.le_refl _
      | succ s =>
        rw [tak_step, List.sum_cons, show r + 1 + R.sum = (r + R.sum) + 1 by omega, fall_step]
        have h1 := tak_le R (s + 1)
        have h2 := ih s
        rw [List.sum_cons] at h2
        have h3 := fall_mono (show R.sum ≤ r + R.sum by omega) (s + 1)
        have h4 : fall (r + R.sum) s ≤ (s + 1) * fall (r + R.sum) s := Nat.le_mul_of_pos_left _ (Nat.succ_pos s)
        omega
theorem count_eq : ∀ R : List Nat, (∀ r ∈ R, r ≤ 1) → (R.countP fun r => decide (0 < r)) = R.sum
  | [], _ => rfl
  | r :: R, h => by
    have := count_eq R fun x hx => h x (List.mem_cons_of_mem _ hx)
    have h1 := h r (List.mem_cons_self ..)
    rw [List.countP_cons, List.sum_cons, this]
    rcases (by omega : r = 0 ∨ r = 1) with rfl | rfl
    · simp
    · simp; omega
theorem tak_mem : ∀ {R : List Nat} {s : Nat} {t : List Nat}, t ∈ tak R s → t.sum + s = R.sum ∧ t.length = R.length ∧ ((∀ r ∈ R, r ≤ 1) → ∀ x ∈ t, x ≤ 1) ∧ ∀ x ∈ t, x ≤ R.sum
  | [], s, t, h => by
    unfold tak at h
    by_cases c : s = 0
    · rw [if_pos c] at h
      rw [List.mem_singleton.mp h, c]
      exact ⟨rfl, rfl, fun _ x hx => (nomatch hx), fun x hx => (nomatch hx)⟩
    · rw [if_neg c] at h; cases h
  | r :: R, s, t, h => by
    unfold tak at h
    obtain ⟨i, hi, h⟩ := List.mem_flatMap.mp h
    obtain ⟨t', ht', rfl⟩ := List.mem_map.mp h
    have hi := List.mem_range.mp hi
    obtain ⟨h1, h2, h3, h4⟩ := tak_mem ht'
    rw [List.sum_cons, List.sum_cons]
    refine ⟨by omega, by rw [List.length_cons, List.length_cons, h2], fun hr x hx => ?_, fun x hx => ?_⟩
    · rcases List.mem_cons.mp hx with rfl | hx
      · have := hr r (List.mem_cons_self ..)
        omega
      · exact h3 (fun y hy => hr y (List.mem_cons_of_mem _ hy)) x hx
    · rcases List.mem_cons.mp hx with rfl | hx
      · omega
      · have := h4 x hx
        omega
theorem tak_pos : ∀ (R : List Nat) (s : Nat), s ≤ R.sum → 0 < (tak R s).length
  | [], s, h => by
    have : ([] : List Nat).sum = 0 := rfl
    have : s = 0 := by omega
    subst this
    exact Nat.one_pos
  | r :: R, s, h => by
    induction r generalizing s with
    | zero => rw [tak0]; exact tak_pos R s (by rw [List.sum_cons] at h; omega)
    | succ r ih =>
      cases s with
      | zero => rw [tak_zero]; exact Nat.one_pos
      | succ s =>
        rw [tak_step]
        have := ih s (by rw [List.sum_cons] at h ⊢; omega)
        omega
theorem sum_le {α : Type} {f : α → Nat} {m : Nat} : ∀ {L : List α}, (∀ x ∈ L, f x ≤ m) → (L.map f).sum ≤ L.length * m
  | [], _ => Nat.zero_le _
  | x :: L, h => by
    have h1 := h x (List.mem_cons_self ..)
    have h2 := sum_le (L := L) fun y hy => h y (List.mem_cons_of_mem _ hy)
    rw [List.map_cons, List.sum_cons, List.length_cons, Nat.add_mul, Nat.one_mul]
    omega
theorem sum_pos {α : Type} {f : α → Nat} {L : List α} (h : ∀ x ∈ L, 0 < f x) (h0 : 0 < L.length) : 0 < (L.map f).sum := by
  cases L with
  | nil => cases h0
  | cons x L =>
    have := h x (List.mem_cons_self ..)
    rw [List.map_cons, List.sum_cons]; omega
theorem ways_le : ∀ (S R : List Nat), S.sum = R.sum → ways S R ≤ fact R.sum
  | [], R, h => fact_pos _
  | s :: S, R, h => by
    rw [List.sum_cons] at h
    have h1 : ((tak R s).map (ways S)).sum ≤ (tak R s).length * fact (R.sum - s) := sum_le fun t ht => by
      have := (tak_mem ht).1
      have h2 := ways_le S t (by omega)
      rw [show t.sum = R.sum - s by omega] at h2
      exact h2
    have h2 := Nat.mul_le_mul_right (fact (R.sum - s)) (tak_le R s)
    rw [fall_fact (by omega)] at h2
    exact Nat.le_trans h1 h2
theorem ways_pos : ∀ (S R : List Nat), S.sum = R.sum → 0 < ways S R
  | [], R, h => Nat.one_pos
  | s :: S, R, h => by
    rw [List.sum_cons] at h
    exact sum_pos (fun t ht => ways_pos S t (by have := (tak_mem ht).1; omega)) (tak_pos R s (by omega))
end PI

namespace PJ
open PI
def drop1 (r : List Nat) (k : Nat) : List Nat := r.set k (r.getD k 0 - 1)
def goN (next : List Nat → Nat) : Nat → List Nat → Nat → Nat
  | 0, r, _ => next r
  | s + 1, r, f => ((List.range' f (r.length - f)).map fun k => if 0 < r.getD k 0 then goN next s (drop1 r k) k else 0).sum
def dl : List Nat → List Nat → Nat → Nat
  | [], _, _ => 1
  | s :: S, r, f => goN (fun r => dl S r 0) s r f
def tk (g : List Nat → Nat) (R : List Nat) (s : Nat) : Nat := ((tak R s).map g).sum
theorem sum_flat {α β : Type} (g : β → Nat) (f : α → List β) : ∀ L : List α, ((L.flatMap f).map g).sum = (L.map fun x => ((f x).map g).sum).sum
  | [] => rfl
  | x :: L => by rw [List.flatMap_cons, List.map_append, List.sum_append, sum_flat g f L, List.map_cons, List.sum_cons]
theorem tk_cons (g : List Nat → Nat) (r : Nat) (R : List Nat) (s : Nat) : tk g (r :: R) s = ((List.range (min s r + 1)).map fun i => tk (fun t => g ((r - i) :: t)) R (s - i)).sum := by
  show (((List.range (min s r + 1)).flatMap fun i => (tak R (s - i)).map fun t => (r - i) :: t).map g).sum = _
  rw [sum_flat]
  refine congrArg List.sum (List.map_congr_left fun i _ => ?_)
  show _ = ((tak R (s - i)).map _).sum
  rw [List.map_map]; rfl
theorem tk_zero : ∀ (R : List Nat) (g : List Nat → Nat), tk g R 0 = g R
  | [], g => by show g [] + 0 = _; rw [Nat.add_zero]
  | r :: R, g => by
    rw [tk_cons, Nat.zero_min]
    show tk (fun t => g ((r - 0) :: t)) R (0 - 0) + 0 = _
    rw [Nat.add_zero, Nat.sub_zero, tk_zero R]
theorem tk_succ (g : List Nat → Nat) (r : Nat) (R : List Nat) (s : Nat) : tk g (r :: R) (s + 1) = (if 0 < r then tk g ((r - 1) :: R) s else 0) + tk (fun t => g (r :: t)) R (s + 1) := by
  rw [tk_cons]
  cases r with
  | zero =>
    rw [if_neg (by omega), Nat.min_zero]
    show tk (fun t => g ((0 - 0) :: t)) R (s + 1 - 0) + 0 = _
    rw [Nat.zero_add, Nat.add_zero]; rfl
  | succ r =>
    rw [if_pos (by omega), tk_cons, show min (s + 1) (r + 1) + 1 = (min s r + 1) + 1 by omega, List.range_succ_eq_map, List.map_cons, List.sum_cons, List.map_map, Nat.add_comm]
    congr 1
    refine congrArg List.sum (List.map_congr_left fun i _ => ?_)
    show tk (fun t => g ((r + 1 - (i + 1)) :: t)) R (s + 1 - (i + 1)) = tk (fun t => g ((r + 1 - 1 - i) :: t)) R (s - i)
    rw [show r + 1 - (i + 1) = r + 1 - 1 - i by omega, show s + 1 - (i + 1) = s - i by omega]
theorem tk_nil (g : List Nat → Nat) (s : Nat) : tk g [] (s + 1) = 0 := by
  show (List.map g (if s + 1 = 0 then [[]] else ([] : List (List Nat)))).sum = 0
  rw [if_neg (by omega)]; rfl
theorem drop1_len (r : List Nat) (k : Nat) : (drop1 r k).length = r.length := List.length_set
theorem drop1_get {r : List Nat} {k j : Nat} (hk : k < r.length) : (drop1 r k).getD j 0 = if j = k then r.getD k 0 - 1 else r.getD j 0 := by
  unfold drop1
  rw [List.getD_eq_getElem?_getD, List.getElem?_set]
  by_cases c : k = j
  · subst c
    rw [if_pos rfl, if_pos rfl, if_pos hk]; rfl
  · rw [if_neg c, if_neg (Ne.symm c), List.getD_eq_getElem?_getD]
theorem drop1_take {r : List Nat} {k : Nat} : (drop1 r k).take k = r.take k := by
  unfold drop1
  rw [List.take_set_of_le (Nat.le_refl k)]
theorem drop1_drop {r : List Nat} {k : Nat} (hk : k < r.length) : (drop1 r k).drop k = (r.getD k 0 - 1) :: r.drop (k + 1) := by
  unfold drop1
  rw [List.drop_set, if_neg (Nat.lt_irrefl k), Nat.sub_self, List.drop_eq_getElem_cons hk, List.set_cons_zero]
theorem drop1_text {r : List Nat} {k : Nat} (hk : k < r.length) : drop1 r k = r.take k ++ [r.getD k 0 - 1] ++ r.drop (k + 1) := by
  have h := List.take_append_drop k (drop1 r k)
  rw [drop1_take, drop1_drop hk] at h
  rw [← h, List.append_assoc]; rfl
theorem goN_tk (next : List Nat → Nat) : ∀ (s : Nat) (r : List Nat) (f : Nat), f ≤ r.length → goN next s r f = tk (fun t => next (r.take f ++ t)) (r.drop f) s
  | 0, r, f, _ => by
    rw [tk_zero, List.take_append_drop]; rfl
  | s + 1, r, f, hf => by
    have key : ∀ (m f : Nat), f + m = r.length → ((List.range' f m).map fun k => if 0 < r.getD k 0 then goN next s (drop1 r k) k else 0).sum = tk (fun t => next (r.take f ++ t)) (r.drop f) (s + 1) := by
      intro m
      induction m with
      | zero =>
        intro f hm
        rw [List.drop_eq_nil_of_le (by omega), tk_nil]; rfl
      | succ m ih =>
        intro f hm
        have hf : f < r.length := by omega
        rw [List.range'_succ, List.map_cons, List.sum_cons, ih (f + 1) (by omega), List.drop_eq_getElem_cons hf, tk_succ]
        have e1 : r.getD f 0 = r[f] := by rw [List.getD_eq_getElem?_getD, List.getElem?_eq_getElem hf]; rfl
        rw [goN_tk next s (drop1 r f) f (by rw [drop1_len]; omega), drop1_take, drop1_drop hf, e1]
        congr 1
        have : (fun t => next (r.take (f + 1) ++ t)) = fun t => next (r.take f ++ r[f] :: t) := funext fun t => by
          rw [List.take_add_one, List.getElem?_eq_getElem hf, List.append_assoc]; rfl
        rw [this]
    exact key (r.length - f) f (by omega)
theorem goN_ext {g h : List Nat → Nat} (e : ∀ r, g r = h r) (s : Nat) (r : List Nat) (f : Nat) : goN g s r f = goN h s r f := by rw [show g = h from funext e]
theorem dl_ways : ∀ (S R : List Nat), dl S R 0 = ways S R
  | [], _ => rfl
  | s :: S, R => by
    show goN (fun r => dl S r 0) s R 0 = tk (ways S) R s
    rw [goN_ext (dl_ways S) s R 0, goN_tk _ _ _ _ (Nat.zero_le _)]; rfl
abbrev PL := List (Nat × Nat)
def enN (i : Nat) (next : List Nat → List PL) : Nat → List Nat → Nat → List PL
  | 0, r, _ => next r
  | s + 1, r, f => (List.range' f (r.length - f)).flatMap fun k => if 0 < r.getD k 0 then (enN i next s (drop1 r k) k).map ((i, k) :: ·) else []
def en : Nat → List Nat → List Nat → Nat → List PL
  | _, [], _, _ => [[]]
  | i, s :: S, r, f => enN i (fun r => en (i + 1) S r 0) s r f
def exp : Nat → List Nat → List Nat
  | _, [] => []
  | i, s :: S => List.replicate s i ++ exp (i + 1) S
theorem enN_len {i : Nat} {next : List Nat → List PL} {nx : List Nat → Nat} (h : ∀ r, (next r).length = nx r) : ∀ (s : Nat) (r : List Nat) (f : Nat), (enN i next s r f).length = goN nx s r f
  | 0, r, _ => h r
  | s + 1, r, f => by
    show (List.flatMap _ _).length = _
    rw [List.length_flatMap]
    refine congrArg List.sum (List.map_congr_left fun k _ => ?_)
    by_cases c : 0 < r.getD k 0
    · rw [if_pos c, if_pos c, List.length_map, enN_len h s]
    · rw [if_neg c, if_neg c]; rfl
theorem en_len : ∀ (i : Nat) (S r : List Nat) (f : Nat), (en i S r f).length = dl S r f
  | _, [], _, _ => rfl
  | i, s :: S, r, f => enN_len (fun r => en_len (i + 1) S r 0) s r f
abbrev ple (x y : Nat × Nat) : Prop := x.1 < y.1 ∨ (x.1 = y.1 ∧ x.2 ≤ y.2)
theorem exp_ge : ∀ (S : List Nat) (i x : Nat), x ∈ exp i S → i ≤ x
  | [], _, _, h => nomatch h
  | s :: S, i, x, h => by
    rcases List.mem_append.mp h with h | h
    · exact Nat.le_of_eq (List.eq_of_mem_replicate h).symm
    · have := exp_ge S (i + 1) x h; omega
structure Is (i : Nat) (A : List Nat) (r : List Nat) (f : Nat) (P : PL) : Prop where
  fst : P.map (·.1) = A
  srt : P.Pairwise ple
  low : ∀ q ∈ P, q.1 = i → f ≤ q.2
  fit : ∀ k, (P.map (·.2)).count k ≤ r.getD k 0
theorem enN_is {i : Nat} {next : List Nat → List PL} {B : List Nat} (hB : ∀ x ∈ B, i < x) (h : ∀ r P, P ∈ next r ↔ Is (i + 1) B r 0 P) : ∀ (s : Nat) (r : List Nat) (f : Nat) (P : PL), P ∈ enN i next s r f ↔ Is i (List.replicate s i ++ B) r f P
  | 0, r, f, P => by
    show P ∈ next r ↔ _
    rw [h]
    refine ⟨fun z => ⟨z.fst, z.srt, fun q hq e => ?_, z.fit⟩, fun z => ⟨z.fst, z.srt, fun q _ _ => Nat.zero_le _, z.fit⟩⟩
    have := hB q.1 (by rw [← z.fst]; exact List.mem_map_of_mem hq)
    omega
  | s + 1, r, f, P => by
    show P ∈ List.flatMap _ _ ↔ _
    rw [List.mem_flatMap]
    constructor
    · rintro ⟨k, hk, hP⟩
      have hk := List.mem_range'_1.mp hk
      by_cases c : 0 < r.getD k 0
      · rw [if_pos c] at hP
        obtain ⟨P, hP', rfl⟩ := List.mem_map.mp hP
        have z := (enN_is hB h s (drop1 r k) k P).mp hP'
        have hge : ∀ q ∈ P, i ≤ q.1 := fun q hq => by
          have h1 : q.1 ∈ List.replicate s i ++ B := by rw [← z.fst]; exact List.mem_map_of_mem hq
          rcases List.mem_append.mp h1 with h1 | h1
          · exact Nat.le_of_eq (List.eq_of_mem_replicate h1).symm
          · exact Nat.le_of_lt (hB _ h1)
        refine ⟨?_, List.pairwise_cons.mpr ⟨fun q hq => ?_, z.srt⟩, fun q hq e => ?_, fun j => ?_⟩
        · rw [List.map_cons, z.fst, List.replicate_succ]; rfl
        · have h1 := hge q hq
          by_cases c2 : q.1 = i
          · exact .inr ⟨c2.symm, z.low q hq c2⟩
          · exact .inl (show i < q.1 by omega)
        · rcases List.mem_cons.mp hq with rfl | hq
          · exact hk.1
          · have := z.low q hq e; omega
        · have := z.fit j
          rw [drop1_get (by omega)] at this
          rw [List.map_cons, List.count_cons]
          by_cases c3 : j = k
          · subst c3
            rw [if_pos rfl] at this
            rw [if_pos (beq_self_eq_true _)]; omega
          · rw [if_neg c3] at this
            rw [if_neg (fun z => c3 (beq_iff_eq.mp z).symm)]; omega
      · rw [if_neg c] at hP; cases hP
    · intro z
      cases P with
      | nil =>
        have := z.fst
        rw [List.replicate_succ] at this
        exact nomatch this
      | cons q P =>
        obtain ⟨q1, k⟩ := q
        have e := z.fst
        rw [List.replicate_succ, List.cons_append, List.map_cons] at e
        obtain ⟨e1, e2⟩ := List.cons.inj e
        obtain rfl : q1 = i := e1
        have hs := List.pairwise_cons.mp z.srt
        have hf := z.fit k
        rw [List.map_cons, List.count_cons, if_pos (beq_self_eq_true _)] at hf
        have hkl : k < r.length := Classical.byContradiction fun w => by
          rw [List.getD_eq_getElem?_getD, List.getElem?_eq_none (by omega)] at hf
          exact Nat.not_succ_le_zero _ hf
        have hk0 := z.low _ (List.mem_cons_self ..) rfl
        refine ⟨k, List.mem_range'_1.mpr ⟨hk0, by omega⟩, ?_⟩
        rw [if_pos (by omega)]
        refine List.mem_map.mpr ⟨P, (enN_is hB h s (drop1 r k) k P).mpr ⟨e2, hs.2, fun q hq e => ?_, fun j => ?_⟩, rfl⟩
        · rcases hs.1 q hq with w | w
          · have w : q1 < q.1 := w
            omega
          · exact w.2
        · have h1 := z.fit j
          rw [drop1_get hkl]
          rw [List.map_cons, List.count_cons] at h1
          by_cases c3 : j = k
          · subst c3
            rw [if_pos rfl]
            rw [if_pos (beq_self_eq_true _)] at h1; omega
          · rw [if_neg c3]
            omega
theorem en_is : ∀ (S : List Nat) (i : Nat) (r : List Nat) (f : Nat) (P : PL), P ∈ en i S r f ↔ Is i (exp i S) r f P
  | [], i, r, f, P => by
    show P ∈ [[]] ↔ _
    rw [List.mem_singleton]
    constructor
    · rintro rfl
      exact ⟨rfl, List.Pairwise.nil, fun q hq => (nomatch hq), fun k => Nat.zero_le _⟩
    · intro z
      exact List.map_eq_nil_iff.mp z.fst
  | s :: S, i, r, f, P => enN_is (fun x hx => exp_ge S (i + 1) x hx) (fun r P => en_is S (i + 1) r 0 P) s r f P
theorem enN_nodup {i : Nat} {next : List Nat → List PL} (h : ∀ r, (next r).Nodup) : ∀ (s : Nat) (r : List Nat) (f : Nat), (enN i next s r f).Nodup
  | 0, r, _ => h r
  | s + 1, r, f => by
    refine List.pairwise_flatMap.mpr ⟨fun k _ => ?_, ?_⟩
    · by_cases c : 0 < r.getD k 0
      · rw [if_pos c]
        refine List.pairwise_map.mpr ((enN_nodup h s (drop1 r k) k).imp fun w z => w ?_)
        exact (List.cons.inj z).2
      · rw [if_neg c]; exact List.nodup_nil
    · refine (List.pairwise_lt_range' (s := f) (n := r.length - f) (step := 1)).imp fun {k k'} hne x hx y hy e => ?_
      have hd : ∀ {k : Nat} {x : PL}, x ∈ (if 0 < r.getD k 0 then (enN i next s (drop1 r k) k).map ((i, k) :: ·) else []) → x.head? = some (i, k) := fun {k x} hx => by
        by_cases c : 0 < r.getD k 0
        · rw [if_pos c] at hx
          obtain ⟨P, _, rfl⟩ := List.mem_map.mp hx
          rfl
        · rw [if_neg c] at hx; cases hx
      have h1 := hd hx
      have h2 := hd hy
      rw [e, h2] at h1
      have := congrArg Prod.snd (Option.some.inj h1)
      have : k' = k := this
      omega
theorem en_nodup : ∀ (S : List Nat) (i : Nat) (r : List Nat) (f : Nat), (en i S r f).Nodup
  | [], _, _, _ => List.nodup_cons.mpr ⟨fun z => (nomatch z), List.nodup_nil⟩
  | s :: S, i, r, f => enN_nodup (fun r => en_nodup S (i + 1) r 0) s r f
theorem exp_sorted : ∀ (S : List Nat) (i : Nat), (exp i S).Pairwise (· ≤ ·)
  | [], _ => List.Pairwise.nil
  | s :: S, i => by
    refine List.pairwise_append.mpr ⟨?_, exp_sorted S (i + 1), fun x hx y hy => ?_⟩
    · exact List.pairwise_replicate.mpr (.inr (Nat.le_refl i))
    · have := exp_ge S (i + 1) y hy
      have := List.eq_of_mem_replicate hx
      omega
theorem exp_count : ∀ (S : List Nat) (i k : Nat), (exp i S).count k = if i ≤ k then S.getD (k - i) 0 else 0
  | [], i, k => by
    show 0 = _
    split <;> simp
  | s :: S, i, k => by
    show (List.replicate s i ++ exp (i + 1) S).count k = _
    rw [List.count_append, List.count_replicate, exp_count S (i + 1) k]
    by_cases c : i = k
    · subst c
      rw [if_pos (beq_self_eq_true _), if_neg (by omega), if_pos (Nat.le_refl _), Nat.sub_self]; rfl
    · rw [if_neg (fun z => c (beq_iff_eq.mp z)), Nat.zero_add]
      by_cases c2 : i ≤ k
      · rw [if_pos (by omega), if_pos c2, show k - i = (k - (i + 1)) + 1 by omega]; rfl
      · rw [if_neg (by omega), if_neg c2]
theorem perm_map {α β : Type} {b : α → β} {K K' : List β} (h : K.Perm K') : ∀ {L : List α}, K' = L.map b → ∃ L' : List α, L'.Perm L ∧ K = L'.map b := by
  induction h with
  | nil => intro L e; exact ⟨[], by rw [List.map_eq_nil_iff.mp e.symm], rfl⟩
  | cons x h ih =>
    intro L e
    cases L with
    | nil => cases e
    | cons y L =>
      obtain ⟨e1, e2⟩ := List.cons.inj e
      obtain ⟨L', h1, h2⟩ := ih e2
      exact ⟨y :: L', h1.cons y, by rw [List.map_cons, ← h2, e1]⟩
  | swap x y l =>
    intro L e
    match L, e with
    | u :: v :: L, e =>
      obtain ⟨e1, e2⟩ := List.cons.inj e
      obtain ⟨e2, e3⟩ := List.cons.inj e2
      exact ⟨v :: u :: L, List.Perm.swap u v L, by rw [List.map_cons, List.map_cons, e1, e2, e3]⟩
  | trans _ _ ih1 ih2 =>
    intro L e
    obtain ⟨L2, h1, h2⟩ := ih2 e
    obtain ⟨L1, h3, h4⟩ := ih1 h2
    exact ⟨L1, h3.trans h1, h4⟩
theorem perm_of_count : ∀ {A B : List Nat}, (∀ k, A.count k ≤ B.count k) → B.length ≤ A.length → A.Perm B
  | [], B, _, hl => by
    rw [List.eq_nil_of_length_eq_zero (Nat.le_zero.mp hl)]
  | x :: A, B, h, hl => by
    have hx := h x
    rw [List.count_cons, if_pos (beq_self_eq_true _)] at hx
    have hm : x ∈ B := List.count_pos_iff.mp (by omega)
    have hp := List.perm_cons_erase hm
    refine List.Perm.trans ?_ hp.symm
    refine (perm_of_count (fun k => ?_) ?_).cons x
    · have h1 := h k
      rw [hp.count_eq k, List.count_cons, List.count_cons] at h1
      omega
    · have := hp.length_eq
      rw [List.length_cons] at this hl
      omega
structure KeyOf (n : Nat) (a b p : Nat → Nat) (P : PL) : Prop where
  srt : P.Pairwise ple
  prm : P.Perm ((List.range n).map fun k => (a k, b (p k)))
theorem ple_antisymm {x y : Nat × Nat} (h : ple x y) (h' : ple y x) : x = y := by
  obtain ⟨x1, x2⟩ := x
  obtain ⟨y1, y2⟩ := y
  have h : x1 < y1 ∨ (x1 = y1 ∧ x2 ≤ y2) := h
  have h' : y1 < x1 ∨ (y1 = x1 ∧ y2 ≤ x2) := h'
  have e1 : x1 = y1 := by omega
  have e2 : x2 = y2 := by omega
  rw [e1, e2]
theorem KeyOf.same {n : Nat} {a b p : Nat → Nat} {P P' : PL} (h : KeyOf n a b p P) (h' : KeyOf n a b p P') : P = P' :=
  (h.prm.trans h'.prm.symm).eq_of_pairwise (fun _ _ _ _ => ple_antisymm) h.srt h'.srt
theorem KeyOf.congr {n : Nat} {a b p q : Nat → Nat} {P : PL} (h : KeyOf n a b p P) (e : ∀ i, i < n → p i = q i) : KeyOf n a b q P :=
  ⟨h.srt, h.prm.trans (List.Perm.of_eq (List.map_congr_left fun k hk => by rw [e k (List.mem_range.mp hk)]))⟩
variable {n : Nat} {a b p : Nat → Nat} {SW SP : List Nat} {P : PL}
theorem KeyOf.is (hw : (exp 0 SW).Perm ((List.range n).map a)) (hp : (exp 0 SP).Perm ((List.range n).map b)) (hl : ((List.range n).map p).Perm (List.range n)) (h : KeyOf n a b p P) : P ∈ en 0 SW SP 0 := by
  refine (en_is SW 0 SP 0 P).mpr ⟨?_, h.srt, fun _ _ _ => Nat.zero_le _, fun k => ?_⟩
  · have h1 := h.prm.map (·.1)
    rw [List.map_map] at h1
    refine List.Perm.eq_of_pairwise (le := (· ≤ ·)) (fun x y _ _ => Nat.le_antisymm) (List.pairwise_map.mpr (h.srt.imp fun {x y} z => ?_)) (exp_sorted SW 0) (h1.trans hw.symm)
    have z : x.1 < y.1 ∨ (x.1 = y.1 ∧ x.2 ≤ y.2) := z
    omega
  · have h1 := h.prm.map (·.2)
    rw [List.map_map] at h1
    have h2 := hl.map b
    rw [List.map_map] at h2
    have h3 := (h1.trans h2).trans hp.symm
    rw [h3.count_eq k, exp_count, if_pos (Nat.zero_le _)]
    exact Nat.le_refl _
theorem idx_get {L : List Nat} (hn : L.Nodup) {i x : Nat} (h : L[i]? = some x) : L.idxOf x = i := by
  obtain ⟨hi, e⟩ := List.getElem?_eq_some_iff.mp h
  have hm : L.idxOf x < L.length := List.idxOf_lt_length_iff.mpr (e ▸ List.getElem_mem hi)
  have := List.getElem_idxOf hm
  exact (List.getElem_inj hn).mp (this.trans e.symm)
theorem KeyOf.of (hw : (exp 0 SW).Perm ((List.range n).map a)) (hp : (exp 0 SP).Perm ((List.range n).map b)) (h : P ∈ en 0 SW SP 0) : ∃ p : Nat → Nat, (∀ i, i < n → p i < n) ∧ (∀ i j, i < n → j < n → p i = p j → i = j) ∧ KeyOf n a b p P := by
  have z := (en_is SW 0 SP 0 P).mp h
  have hP1 : (P.map (·.1)).Perm ((List.range n).map a) := by rw [z.fst]; exact hw
  have hlen : P.length = n := by
    have := hP1.length_eq
    rwa [List.length_map, List.length_map, List.length_range] at this
  have hP2 : (P.map (·.2)).Perm ((List.range n).map b) := by
    refine (perm_of_count (fun k => ?_) ?_).trans hp
    · have := z.fit k
      rw [exp_count, if_pos (Nat.zero_le _)]
      exact this
    · rw [hp.length_eq, List.length_map, List.length_map, List.length_range, hlen]
      exact Nat.le_refl _
  obtain ⟨A, hA, eA⟩ := perm_map hP1 rfl
  obtain ⟨B, hB, eB⟩ := perm_map hP2 rfl
  have lA : A.length = n := by rw [hA.length_eq, List.length_range]
  have lB : B.length = n := by rw [hB.length_eq, List.length_range]
  have nA : A.Nodup := hA.nodup_iff.mpr List.nodup_range
  have nB : B.Nodup := hB.nodup_iff.mpr List.nodup_range
  have mA : ∀ i, i < n → A.idxOf i < n := fun i hi => lA ▸ List.idxOf_lt_length_iff.mpr (hA.mem_iff.mpr (List.mem_range.mpr hi))
  have gB : ∀ i (hi : i < n), B[i]? = some (B.getD i 0) := fun i hi => by
    rw [List.getD_eq_getElem?_getD, List.getElem?_eq_getElem (by omega)]; rfl
  refine ⟨fun i => B.getD (A.idxOf i) 0, fun i hi => ?_, fun i j hi hj e => ?_, z.srt, ?_⟩
  · exact List.mem_range.mp (hB.mem_iff.mp (List.mem_of_getElem? (gB _ (mA i hi))))
  · have h1 := idx_get nB (gB _ (mA i hi))
    have h2 := idx_get nB (gB _ (mA j hj))
    have e : B.getD (A.idxOf i) 0 = B.getD (A.idxOf j) 0 := e
    rw [e, h2] at h1
    have h3 : A[A.idxOf i]'(by rw [lA]; exact mA i hi) = i := List.getElem_idxOf _
    have h4 : A[A.idxOf j]'(by rw [lA]; exact mA j hj) = j := List.getElem_idxOf _
    rw [← h3, ← h4]
    exact (List.getElem_inj nA).mpr h1.symm
  · refine List.Perm.trans (List.Perm.of_eq ?_) (hA.map fun k => (a k, b (B.getD (A.idxOf k) 0)))
    refine List.ext_getElem? fun i => ?_
    by_cases hi : i < n
    · have e1 : (P.map (·.1))[i]? = (A.map a)[i]? := congrArg (·[i]?) eA
      have e2 : (P.map (·.2))[i]? = (B.map b)[i]? := congrArg (·[i]?) eB
      rw [List.getElem?_map, List.getElem?_map] at e1 e2
      rw [List.getElem?_map]
      have hA' : A[i]? = some (A[i]'(by omega)) := List.getElem?_eq_getElem _
      have hP' : P[i]? = some (P[i]'(by omega)) := List.getElem?_eq_getElem _
      rw [hA'] at e1 ⊢
      rw [gB i hi] at e2
      rw [hP'] at e1 e2 ⊢
      have e1 := Option.some.inj e1
      have e2 := Option.some.inj e2
      show some _ = some (a _, b _)
      rw [idx_get nA hA', ← e1, ← e2]
    · rw [List.getElem?_eq_none (by omega), List.getElem?_eq_none (by rw [List.length_map]; omega)]
end PJ

namespace DCU
open PySem PySem.Spec PyProof.Rows L2 DL
noncomputable section
def sem_takings (cf_takings : CF) : SF :=
  (sSeq (sIf (teP (pTest (pOp oEq (pVar 0) (pTupK gNil)))) (sRet (eP (pOp oMul (pLst (gCons (pTupK gNil) gNil)) (pCall oInt (gCons (pOp oEq (pVar 1) (pC (.int 0))) gNil))))) sNil)
    (sSeq (sSet 2 (eP (pLst gNil)))
    (sSeq (sForX (jR1 (gCons (pOp oAdd (pCall oMin2 (gCons (pVar 1) (gCons (pOp xIx (pVar 0) (pC (.int 0))) gNil))) (pC (.int 1))) gNil)) (gNm 3) (sExpr (eMthR xExtend 2 (aE (eP (pLcX (iSq (pFn cf_takings (gCons (pSl (pVar 0) (oP (pC (.int 1))) oNoP) (gCons (pOp oSub (pVar 1) (pVar 3)) gNil)))) [4] (gNm 4) tNilP (pOp oAddKey (pTupK (gCons (pOp oSub (pOp xIx (pVar 0) (pC (.int 0))) (pVar 3)) gNil)) (pVar 4)))) aNil))))
    (sRet (eMv 2)))))
def cfR_takings : Nat → CF
  | 0 => cfOf 3 [false, false] fun _ _ => False
  | d + 1 => cfOf 3 [false, false] (sem_takings (cfR_takings d))
theorem cfR_takings_succ (d : Nat) : cfR_takings (d + 1) = cfOf 3 [false, false] (sem_takings (cfR_takings d)) := rfl
@[irreducible] def cf_takings : CF := hid (cfR_takings 10)
theorem cf_takings_eq : cf_takings = cfR_takings 10 := by unfold cf_takings; rw [hid_eq]
def sem_how_many_unlike : SF :=
  (sSeq (sSet 1 (eP (pDispT (pCall oTupleK (gCons (pLcX (iSq (pFn DCR.cf_alike_places (gCons (pVar 0) gNil))) [2] (gNm 2) tNilP (pCall oLen (gCons (pVar 2) gNil))) gNil)) (pC (.int 1)))))
    (sSeq (sForX (iSq (pFn DCR.cf_alike_works (gCons (pVar 0) gNil))) (gNm 2) (sSeq (sSet 3 (eP pDNewT))
    (sLck 1 (sSeq (sForX (iLk (pVar 1)) (gNm 4) (sForX (iSq (pFn cf_takings (gCons (pWk (pVar 4)) (gCons (pCall oLen (gCons (pVar 2) gNil)) gNil)))) (gNm 5) (sPutK (eP (pOp oAdd (pGet2K (pVar 3) (pVar 5) (pC (.int 0))) (pGetK (pVar 1) (pVar 4)))) (plVar 3) (pVar 5))))
    (sSet 1 (eMv 3))))))
    (sLck 1 (sRet (eP (pCall oSum (gCons (pLcX (iLk (pVar 1)) [4] (gNm 4) tNilP (pGetK (pVar 1) (pVar 4))) gNil)))))))
@[irreducible] def cf_how_many_unlike : CF := hid (cfOf 5 [false] sem_how_many_unlike)
theorem cf_how_many_unlike_eq : cf_how_many_unlike = cfOf 5 [false] sem_how_many_unlike := by unfold cf_how_many_unlike; rw [hid_eq]
end
end DCU

namespace DCU
open PySem PySem.Spec PyProof.Rows L2 DL DCA DCR DCT PF PD PH PI
variable {n : Nat} {F W C : Nat → Nat → Int} {E : Nat → Nat → Bool}
abbrev keyD (S : List Nat) : D := .key (toI S)
theorem eqv_ki (S : List Nat) : PyData.eqv (D.tup ((toI S).map .int)).toP (D.key []).toP = decide (S = []) := by
  cases S with
  | nil => rfl
  | cons a S =>
    show PyData.eqv (.tuple (_ :: _)) (.tuple []) = _
    rw [PyData.eqv, PyData.eqvAll]
    exact (decide_eq_false fun z => nomatch z).symm
theorem tup_okE (S : List Nat) : (D.tup ((toI S).map .int)).okE := cL_okE (cLs_all fun d hd => by obtain ⟨x, _, rfl⟩ := List.mem_map.mp hd; rfl) (Nat.succ_le_succ (Nat.le_trans (hLs_all (c := 1) fun d hd => by obtain ⟨x, _, rfl⟩ := List.mem_map.mp hd; exact Nat.le_refl _) (by decide)))
theorem tak_small {R : List Nat} {s : Nat} (h : R.sum ≤ 8) : (tak R s).length ≤ 40320 := by
  have h1 := tak_le R s
  by_cases c : s ≤ R.sum
  · have h2 := fall_fact (x := R.sum) c
    have h3 : fall R.sum s * 1 ≤ fall R.sum s * fact (R.sum - s) := Nat.mul_le_mul_left _ (fact_pos _)
    have h4 : fact R.sum ≤ 40320 := by
      rcases (by omega : R.sum = 0 ∨ R.sum = 1 ∨ R.sum = 2 ∨ R.sum = 3 ∨ R.sum = 4 ∨ R.sum = 5 ∨ R.sum = 6 ∨ R.sum = 7 ∨ R.sum = 8) with e | e | e | e | e | e | e | e | e <;> rw [e] <;> decide
    omega
  · rw [fall_zero (by omega)] at h1
    omega
theorem cut1 {xs : List D} {x : D} : DL.cutD (x :: xs) (some 1) none = xs := by
  unfold DL.cutD
  show ((x :: xs).drop (if (1 : Int) < 0 then ((1 : Int) + ((x :: xs).length : Nat)).toNat else min (1 : Int).toNat (x :: xs).length)).take ((x :: xs).length - if (1 : Int) < 0 then ((1 : Int) + ((x :: xs).length : Nat)).toNat else min (1 : Int).toNat (x :: xs).length) = _
  have e : min (1 : Int).toNat (x :: xs).length = 1 := by
    rw [List.length_cons]
    show min 1 _ = 1
    omega
  rw [if_neg (by decide), e]
  show (xs.take ((xs.length + 1) - 1)) = xs
  exact List.take_of_length_le (by omega)
theorem at_tak {c : CF} {k : Kd} {x x' : D} {y y' : Int} {Q X} (e1 : x = x') (e2 : y = y') (h : c [(k, x'), (.fl, .int y')] Q X) : c [(k, x), (.fl, .int y)] Q X := by rw [e1, e2]; exact h
theorem takings_spec {m : Nat} : ∀ (d : Nat) {R : List Nat} {s : Nat} {k : Kd} {Q X}, R.length < d → R.sum ≤ 8 → R.length ≤ 8 → s ≤ 8 → k = .fl → Q (.sh, .lst ((tak R s).map keyD)) [] → cfR_takings d [(k, .tup ((toI R).map .int)), (.fl, .int (s : Nat))] Q X
  | 0, R, s, k, Q, X, h, _, _, _, _, _ => absurd h (Nat.not_lt_zero _)
  | d + 1, R, s, k, Q, X, hd, hR, hl, hs, hk, h => by
    subst hk
    rw [cfR_takings_succ]
    refine ⟨[], rfl, tup_okE R, tup_okE [], ?_⟩
    show if PyData.eqv (D.tup ((toI R).map .int)).toP (D.key []).toP = true then _ else _
    rw [eqv_ki]
    refine ifd (fun e => ?_) fun hne => ?_
    · subst e
      refine ⟨[], rfl, ?_⟩
      have e1 : tak [] s = if s = 0 then [[]] else [] := rfl
      rw [e1] at h
      by_cases c : s = 0
      · rw [if_pos c] at h
        subst c
        exact ⟨by decide, by decide, by decide, h⟩
      · rw [if_neg c] at h
        have e2 : decide ((s : Int) = 0) = false := decide_eq_false (by omega)
        show -100000 ≤ (if decide ((s : Int) = 0) = true then (1 : Int) else 0) ∧ _
        rw [e2]
        exact ⟨by decide, by decide, by decide, h⟩
    · obtain ⟨r, R, rfl⟩ : ∃ r R', R = r :: R' := by
        cases R with
        | nil => exact absurd rfl hne
        | cons r R => exact ⟨r, R, rfl⟩
      rw [List.sum_cons] at hR
      rw [List.length_cons] at hd hl
      refine go_ix (d := .int (r : Nat)) rfl (atI_nat (j := 0) rfl) ?_
      refine go_R1 (n := min s r + 1) (by
        show (if (r : Int) < (s : Int) then (r : Int) else (s : Int)) + 1 = _
        split <;> omega) (by omega) ?_
      refine go_For0 (fun i ρ => ∃ a b : Sl, ρ = [some (.fl, .tup ((toI (r :: R)).map .int)), some (.fl, .int (s : Nat)), some (.sh, .lst (((List.range i).flatMap fun i => (tak R (s - i)).map fun t => (r - i) :: t).map keyD)), a, b]) ⟨none, none, rfl⟩ (fun i ρ N hi hI hN => ?_) fun ρ hI => ?_
      · obtain ⟨a, b, rfl⟩ := hI
        have his : i ≤ s := by omega
        have hir : i ≤ r := by omega
        refine ⟨trivial, ?_⟩
        refine at_tak (c := cfR_takings d) (x' := .tup ((toI R).map .int)) (y' := ((s - i : Nat) : Int)) (congrArg D.tup cut1) (by omega) (takings_spec (m := m) d (by omega) (by omega) (by omega) (by omega) rfl ?_)
        have hsm := tak_small (R := R) (s := s - i) (by omega)
        refine go_LcL (L := tak R (s - i)) (G := keyD) (fun t => .key (((r : Int) - (i : Int)) :: toI t)) (by omega) (fun j t N' ht hN' => ?_) ?_
        · refine go_ix (d := .int (r : Nat)) rfl (atI_nat (j := 0) rfl) ⟨[(r : Int) - (i : Int)], rfl, ?_, hN'⟩
          have := (tak_mem (List.mem_of_getElem? ht)).2.1
          rw [List.length_map, this]
          show 1 + R.length ≤ _
          omega
        · have e1 : ((tak R (s - i)).map fun t => D.key (((r : Int) - (i : Int)) :: toI t)) = ((tak R (s - i)).map fun t => (r - i) :: t).map keyD := by
            rw [List.map_map]
            refine List.map_congr_left fun t _ => ?_
            show D.key (((r : Int) - (i : Int)) :: toI t) = D.key (((r - i : Nat) : Int) :: toI t)
            rw [show (r : Int) - (i : Int) = ((r - i : Nat) : Int) by omega]
          rw [e1]
          have hfl : ((List.range i).flatMap fun i => (tak R (s - i)).map fun t => (r - i) :: t).length ≤ i * 40320 := by
            rw [List.length_flatMap]
            have := sum_le (L := List.range i) (f := fun i => ((tak R (s - i)).map fun t => (r - i) :: t).length) (m := 40320) fun x _ => by
              rw [List.length_map]; exact tak_small (by omega)
            rw [List.length_range] at this
            exact this
          have hi8 : i * 40320 ≤ 8 * 40320 := Nat.mul_le_mul_right _ (by omega)
          refine go_extend (.inl rfl) (by rw [List.length_map, List.length_map, List.length_map]; omega) ?_
          refine hN _ ⟨some (.fl, .int (i : Nat)), b, ?_⟩
          rw [List.range_succ, List.flatMap_append, List.map_append, List.flatMap_cons, List.flatMap_nil, List.append_nil]; rfl
      · obtain ⟨a, b, rfl⟩ := hI
        exact h
def tot (h : List Int → Int) (kvs : TD) : Int := (kvs.map fun x => x.2 * h x.1).sum
theorem tot_cons (h : List Int → Int) (x : List Int × Int) (L : TD) : tot h (x :: L) = x.2 * h x.1 + tot h L := by unfold tot; rw [List.map_cons, List.sum_cons]
theorem tot_append (h : List Int → Int) (L M : TD) : tot h (L ++ M) = tot h L + tot h M := by unfold tot; rw [List.map_append, List.sum_append]
theorem look_none {k : List Int} : ∀ {L : TD}, k ∉ L.map (·.1) → look L k = none
  | [], _ => rfl
  | x :: L, h => by
    have h1 : x.1 ≠ k := fun z => h (by rw [List.map_cons, ← z]; exact List.mem_cons_self ..)
    unfold look
    rw [List.find?_cons, decide_eq_false h1]
    exact look_none (L := L) fun z => h (by rw [List.map_cons]; exact List.mem_cons_of_mem _ z)
theorem look_at {x : List Int × Int} : ∀ {L : TD}, (L.map (·.1)).Nodup → x ∈ L → look L x.1 = some x.2
  | y :: L, hn, hx => by
    rw [List.map_cons] at hn
    obtain ⟨h1, h2⟩ := List.nodup_cons.mp hn
    unfold look
    rw [List.find?_cons]
    by_cases e : y.1 = x.1
    · rw [decide_eq_true e]
      rcases List.mem_cons.mp hx with rfl | hx
      · rfl
      · exact absurd (show y.1 ∈ L.map (·.1) by rw [e]; exact List.mem_map.mpr ⟨x, hx, rfl⟩) h1
    · rw [decide_eq_false e]
      rcases List.mem_cons.mp hx with rfl | hx
      · exact absurd rfl e
      · exact look_at (L := L) h2 hx
theorem upd_tot {h : List Int → Int} {k : List Int} {i c : Int} : ∀ {L : TD}, (L.map (·.1)).Nodup → look L k = some c → tot h (L.map fun x => if x.1 = k then (x.1, i) else x) = tot h L + (i - c) * h k
  | [], _, e => nomatch e
  | x :: L, hn, e => by
    rw [List.map_cons] at hn
    obtain ⟨h1, h2⟩ := List.nodup_cons.mp hn
    rw [List.map_cons, tot_cons, tot_cons]
    by_cases c2 : x.1 = k
    · have e2 : look (x :: L) k = some x.2 := by unfold look; rw [List.find?_cons, decide_eq_true c2]; rfl
      rw [e2] at e
      cases e
      have e3 : (L.map fun x => if x.1 = k then (x.1, i) else x) = L := by
        refine (List.map_congr_left fun y hy => ?_).trans (List.map_id _)
        rw [if_neg fun z => h1 (by rw [c2, ← z]; exact List.mem_map.mpr ⟨y, hy, rfl⟩)]; rfl
      rw [e3, if_pos c2, c2, Int.sub_mul]
      show i * h k + _ = _
      omega
    · have e2 : look (x :: L) k = look L k := by unfold look; rw [List.find?_cons, decide_eq_false c2]
      rw [e2] at e
      rw [if_neg c2, upd_tot h2 e]; omega
theorem put_tot {h : List Int → Int} {k : List Int} {v : Int} {L : TD} (hn : (L.map (·.1)).Nodup) : tot h (putI L k ((look L k).getD 0 + v)) = tot h L + v * h k := by
  by_cases c : k ∈ L.map (·.1)
  · obtain ⟨x, hx, e⟩ := List.mem_map.mp c
    have e1 := look_at hn hx
    rw [e] at e1
    have e2 : (L.any fun x => decide (x.1 = k)) = true := List.any_eq_true.mpr ⟨x, hx, decide_eq_true e⟩
    unfold putI
    rw [if_pos e2, upd_tot hn e1, e1]
    show _ + (x.2 + v - x.2) * h k = _
    rw [show x.2 + v - x.2 = v by omega]
  · have e2 : ¬ (L.any fun x => decide (x.1 = k)) = true := fun z => by
      obtain ⟨x, hx, e⟩ := List.any_eq_true.mp z
      exact c (List.mem_map.mpr ⟨x, hx, of_decide_eq_true e⟩)
    unfold putI
    rw [if_neg e2, look_none c, tot_append]
    show _ + tot h [(k, 0 + v)] = _
    rw [tot_cons]
    show _ + ((0 + v) * h k + 0) = _
    rw [Int.zero_add, Int.add_zero]
theorem put_mem {k : List Int} {i : Int} {L : TD} {x : List Int × Int} (hx : x ∈ putI L k i) : x ∈ L ∨ x = (k, i) := by
  unfold putI at hx
  split at hx
  · obtain ⟨y, hy, e⟩ := List.mem_map.mp hx
    by_cases c : y.1 = k
    · rw [if_pos c] at e
      exact .inr (by rw [← e, c])
    · rw [if_neg c] at e
      exact .inl (by rw [← e]; exact hy)
  · rcases List.mem_append.mp hx with hx | hx
    · exact .inl hx
    · exact .inr (List.mem_singleton.mp hx)
theorem put_nodup {k : List Int} {i : Int} {L : TD} (hn : (L.map (·.1)).Nodup) : ((putI L k i).map (·.1)).Nodup := by
  unfold putI
  by_cases c : (L.any fun x => decide (x.1 = k)) = true
  · rw [if_pos c, List.map_map]
    have : (L.map ((·.1) ∘ fun x => if x.1 = k then (x.1, i) else x)) = L.map (·.1) := List.map_congr_left fun x _ => by
      show (if x.1 = k then (x.1, i) else x).1 = x.1
      split <;> rfl
    rw [this]; exact hn
  · rw [if_neg c, List.map_append]
    refine List.nodup_append.mpr ⟨hn, List.nodup_cons.mpr ⟨fun z => (nomatch z), List.nodup_nil⟩, fun x hx y hy e => ?_⟩
    have hy : y = k := List.mem_singleton.mp hy
    obtain ⟨z, hz, ez⟩ := List.mem_map.mp hx
    exact c (List.any_eq_true.mpr ⟨z, hz, decide_eq_true (by rw [ez, e, hy])⟩)
theorem len_tot {h : List Int → Int} : ∀ {L : TD}, (∀ x ∈ L, 1 ≤ x.2 * h x.1) → (L.length : Int) ≤ tot h L
  | [], _ => Int.le_refl _
  | x :: L, hx => by
    have h1 := hx x (List.mem_cons_self ..)
    have h2 := len_tot (L := L) fun y hy => hx y (List.mem_cons_of_mem _ hy)
    rw [tot_cons, List.length_cons]; omega
theorem sum_nn : ∀ {L : List Int}, (∀ x ∈ L, 0 ≤ x) → 0 ≤ L.sum
  | [], _ => Int.le_refl _
  | x :: L, h => by
    have := h x (List.mem_cons_self ..)
    have := sum_nn (L := L) fun y hy => h y (List.mem_cons_of_mem _ hy)
    rw [List.sum_cons]; omega
theorem sum_take_le {L : List Int} (h : ∀ x ∈ L, 0 ≤ x) (k : Nat) : (L.take k).sum ≤ L.sum := by
  have e := congrArg List.sum (List.take_append_drop k L)
  rw [List.sum_append] at e
  have := sum_nn (L := L.drop k) fun x hx => h x (List.mem_of_mem_drop hx)
  omega
def hS (S : List Nat) (k : List Int) : Int := (ways S (k.map Int.toNat) : Nat)
theorem toI_nat (t : List Nat) : (toI t).map Int.toNat = t := by
  rw [List.map_map]
  exact (List.map_congr_left fun _ _ => rfl).trans (List.map_id _)
theorem hS_toI (S t : List Nat) : hS S (toI t) = (ways S t : Nat) := by unfold hS; rw [toI_nat]
theorem hS_cons (s : Nat) (S t : List Nat) : hS (s :: S) (toI t) = ((tak t s).map fun u => hS S (toI u)).sum := by
  rw [hS_toI]
  show ((((tak t s).map (ways S)).sum : Nat) : Int) = _
  have : ∀ L : List (List Nat), (((L.map (ways S)).sum : Nat) : Int) = (L.map fun u => hS S (toI u)).sum := fun L => by
    induction L with
    | nil => rfl
    | cons u L ih => rw [List.map_cons, List.map_cons, List.sum_cons, List.sum_cons, hS_toI, ← ih]; omega
  exact this _
structure Deal (S : List Nat) (kvs : TD) : Prop where
  key : ∀ x ∈ kvs, ∃ r : List Nat, x.1 = toI r ∧ r.sum = S.sum ∧ r.length ≤ 8
  nd : (kvs.map (·.1)).Nodup
  pos : ∀ x ∈ kvs, 1 ≤ x.2
theorem Deal.one {S : List Nat} {kvs : TD} (h : Deal S kvs) {x : List Int × Int} (hx : x ∈ kvs) : 1 ≤ x.2 * hS S x.1 := by
  obtain ⟨r, e, hr, _⟩ := h.key x hx
  have h1 := h.pos x hx
  have h2 := ways_pos S r hr.symm
  rw [e, hS_toI]
  have : (1 : Int) ≤ (ways S r : Nat) := by omega
  exact Int.mul_le_mul h1 this (by decide) (by omega)
theorem Deal.len {S : List Nat} {kvs : TD} (h : Deal S kvs) : (kvs.length : Int) ≤ tot (hS S) kvs := len_tot fun x hx => h.one hx
theorem Deal.put {S : List Nat} {kvs : TD} (h : Deal S kvs) {t : List Nat} (ht : t.sum = S.sum) (ht8 : t.length ≤ 8) {v : Int} (hv : 1 ≤ v) : Deal S (putI kvs (toI t) ((look kvs (toI t)).getD 0 + v)) := by
  have hg : 0 ≤ (look kvs (toI t)).getD 0 := by
    cases e : look kvs (toI t) with
    | none => exact Int.le_refl _
    | some c =>
      obtain ⟨x, hx, ex⟩ := look_key e
      have := look_at h.nd hx
      rw [ex, e] at this
      cases this
      have := h.pos x hx
      show 0 ≤ x.2
      omega
  refine ⟨fun x hx => ?_, put_nodup h.nd, fun x hx => ?_⟩
  · rcases put_mem hx with hx | rfl
    · exact h.key x hx
    · exact ⟨t, rfl, ht, ht8⟩
  · rcases put_mem hx with hx | rfl
    · exact h.pos x hx
    · show 1 ≤ (look kvs (toI t)).getD 0 + v
      omega
def szs (E : Nat → Nat → Bool) (n : Nat) : List Nat := (part E n).map List.length
theorem szs_sum (e : Eqv n E) : (szs E n).sum = n := by
  have h := (part_flat e).length_eq
  rw [List.length_flatten, List.length_range] at h
  exact h
theorem szs_len : (szs E n).length ≤ n := by
  have := firsts_le (E := E) (m := n)
  unfold szs
  rw [List.length_map, part_len]; exact this
theorem setsD_map : setsD E n = (part E n).map fun l => tI (toI l) := by
  show ((part E n).map toI).map tI = _
  rw [List.map_map]; rfl
theorem for_cast {g : GF} {b : SF} {D : DEnds} {zs zs' : List KD} {ρ : Ro} (e : zs = zs') (h : kFor g b D zs' ρ) : kFor g b D zs ρ := e ▸ h
theorem fact8 {T : Nat} (h : T ≤ 8) : fact T ≤ 40320 := by
  rcases (by omega : T = 0 ∨ T = 1 ∨ T = 2 ∨ T = 3 ∨ T = 4 ∨ T = 5 ∨ T = 6 ∨ T = 7 ∨ T = 8) with e | e | e | e | e | e | e | e | e <;> rw [e] <;> decide
theorem mul_mono {x y z : Int} (h : y ≤ z) (hx : 0 ≤ x) : x * y ≤ x * z := Int.mul_le_mul_of_nonneg_left h hx
theorem sum_drop_le : ∀ (L : List Nat) (i : Nat), (L.drop i).sum ≤ L.sum
  | [], i => by rw [List.drop_nil]; exact Nat.le_refl _
  | x :: L, 0 => Nat.le_refl _
  | x :: L, i + 1 => by
    have := sum_drop_le L i
    rw [List.drop_succ_cons, List.sum_cons]; omega
theorem how_many_spec {Q X} (hn1 : 1 ≤ n) (hn : n ≤ 8) (h : Q (.fl, .int (ways (szs (aliveW n F C) n) (szs (aliveP n W C) n) : Nat)) []) : cf_how_many_unlike [(.fl, jobD n F W C)] Q X := by
  rw [cf_how_many_unlike_eq]
  have ew := aliveW_eqv (n := n) (F := F) (C := C)
  have ep := aliveP_eqv (n := n) (W := W) (C := C)
  have sw := szs_sum ew
  have sp := szs_sum ep
  have hWle := ways_le (szs (aliveW n F C) n) (szs (aliveP n W C) n) (by omega)
  rw [sp] at hWle
  have hW8 := Nat.le_trans hWle (fact8 hn)
  generalize hV : ways (szs (aliveW n F C) n) (szs (aliveP n W C) n) = V at h hWle hW8
  have hpl : (part (aliveP n W C) n).length ≤ 8 := by
    have := firsts_le (E := aliveP n W C) (m := n)
    rw [part_len]; omega
  have hwl : (part (aliveW n F C) n).length ≤ 8 := by
    have := firsts_le (E := aliveW n F C) (m := n)
    rw [part_len]; omega
  refine places_spec hn1 (by omega) ?_
  refine lc_cast (congrArg (List.map (kel _)) setsD_map) (go_LcL (L := part (aliveP n W C) n) (G := fun l => tI (toI l)) (fun l => .int (l.length : Nat)) (by omega) (fun i l N hl hN => ?_) ?_)
  · have e : ((toI l).map D.int).length = l.length := by rw [List.length_map, List.length_map]
    have : N (some (.fl, .int (((toI l).map D.int).length : Nat))) := by rw [e]; exact hN
    exact this
  refine ⟨toI (szs (aliveP n W C) n), by unfold szs toI; rw [List.map_map, List.map_map]; rfl, ?_⟩
  refine works_spec hn1 (by omega) ?_
  refine for_cast (congrArg (List.map (kel _)) setsD_map) (go_ForL (L := part (aliveW n F C) n) (F := fun l => tI (toI l)) (fun i ρ => ∃ kvs x2 x3 x4 x5, Deal ((szs (aliveW n F C) n).drop i) kvs ∧ tot (hS ((szs (aliveW n F C) n).drop i)) kvs = (V : Nat) ∧ ρ = [some (.fl, jobD n F W C), some (.ow, dtD kvs), x2, x3, x4, x5])
    ⟨[(toI (szs (aliveP n W C) n), 1)], none, none, none, none, ⟨fun x hx => ⟨szs (aliveP n W C) n, by obtain rfl := List.mem_singleton.mp hx; rfl, by show (szs (aliveP n W C) n).sum = (szs (aliveW n F C) n).sum; omega, by have := szs_len (E := aliveP n W C) (n := n); omega⟩, by simp, fun x hx => by rw [List.mem_singleton.mp hx]; exact Int.le_refl 1⟩, by
      rw [tot_cons]
      show 1 * hS (szs (aliveW n F C) n) (toI (szs (aliveP n W C) n)) + 0 = _
      rw [hS_toI, hV]; omega, rfl⟩ (fun i l ρ N hl hI hN => ?_) fun ρ hI => ?_)
  · obtain ⟨kvs, x2, x3, x4, x5, hD, hT, rfl⟩ := hI
    have hi := (List.getElem?_eq_some_iff.mp hl).1
    have hdrop : (szs (aliveW n F C) n).drop i = l.length :: (szs (aliveW n F C) n).drop (i + 1) := by
      have hz : (szs (aliveW n F C) n)[i]? = some l.length := by unfold szs; rw [List.getElem?_map, hl]; rfl
      obtain ⟨hi', ei⟩ := List.getElem?_eq_some_iff.mp hz
      rw [List.drop_eq_getElem_cons hi', ei]
    have hsum8 := sum_drop_le (szs (aliveW n F C) n) i
    rw [sw, hdrop] at hsum8
    rw [hdrop] at hD hT
    generalize (szs (aliveW n F C) n).drop (i + 1) = S at hD hT hN hsum8
    have hl8 : l.length ≤ 8 := by
      obtain ⟨f, _, rfl⟩ := List.mem_map.mp (List.mem_of_getElem? hl)
      have := cls_le (E := aliveW n F C) (m := n) (f := f)
      omega
    have hklen := hD.len
    refine go_lck rfl ?_
    have nn : ∀ x ∈ kvs.map fun x => x.2 * hS (l.length :: S) x.1, (0 : Int) ≤ x := fun y hy => by
      obtain ⟨x, hx, rfl⟩ := List.mem_map.mp hy
      have := hD.one hx
      omega
    have h0 : (l.length :: S).sum = l.length + S.sum := List.sum_cons
    refine go_For (fun j ρ => ∃ later x4 x5, Deal S later ∧ tot (hS S) later = tot (hS (l.length :: S)) (kvs.take j) ∧ ρ = [some (.fl, jobD n F W C), some (.fl, .lkT kvs), some (.fl, tI (toI l)), some (.ow, dtD later), x4, x5]) ⟨[], x4, x5, ⟨fun x hx => (nomatch hx), List.nodup_nil, fun x hx => (nomatch hx)⟩, rfl, rfl⟩ (fun j z ρ N2 hz hI hN2 => ?_) fun ρ hI => ?_
    · obtain ⟨later, x4, x5, hD1, hT1, rfl⟩ := hI
      unfold keysD at hz
      rw [List.getElem?_map] at hz
      cases ex : kvs[j]? with
      | none => rw [ex] at hz; cases hz
      | some x =>
        rw [ex] at hz
        cases Option.some.inj hz
        have hx := List.mem_of_getElem? ex
        have htk : kvs.take (j + 1) = kvs.take j ++ [x] := by rw [List.take_add_one, ex]; rfl
        obtain ⟨r, er, hr1, hr2⟩ := hD.key x hx
        have hlook : look kvs (toI r) = some x.2 := er ▸ look_at hD.nd hx
        have hpos := hD.pos x hx
        have hr8 : r.sum ≤ 8 := by omega
        refine at_tak (c := cf_takings) (x' := .tup ((toI r).map .int)) (y' := (l.length : Nat)) (by show D.tup (x.1.map .int) = _; rw [er]) (by show ((((toI l).map D.int).length : Nat) : Int) = _; rw [List.length_map, List.length_map]) ?_
        rw [cf_takings_eq]
        refine takings_spec (m := 0) 10 (by omega) hr8 hr2 hl8 rfl ?_
        have hB := hS_cons l.length S r
        have hbn : ∀ y ∈ (tak r l.length).map fun u => hS S (toI u), (0 : Int) ≤ y := fun y hy => by
          obtain ⟨u, _, rfl⟩ := List.mem_map.mp hy
          exact Int.natCast_nonneg _
        refine go_ForL (L := tak r l.length) (F := keyD) (fun t ρ => ∃ later x5, Deal S later ∧ tot (hS S) later = tot (hS (l.length :: S)) (kvs.take j) + x.2 * (((tak r l.length).map fun u => hS S (toI u)).take t).sum ∧ ρ = [some (.fl, jobD n F W C), some (.fl, .lkT kvs), some (.fl, tI (toI l)), some (.ow, dtD later), some (.fl, .key x.1), x5]) ⟨later, x5, hD1, by rw [hT1]; simp, rfl⟩ (fun t u ρ N3 hu hI hN3 => ?_) fun ρ hI => ?_
        · obtain ⟨later, x5, hD2, hT2, rfl⟩ := hI
          obtain ⟨hu1, hu2, _, _⟩ := tak_mem (List.mem_of_getElem? hu)
          have hlen := hD2.len
          have hle : tot (hS S) later ≤ 40320 := by
            have a1 := sum_take_le hbn t
            have a2 : x.2 * (((tak r l.length).map fun u => hS S (toI u)).take t).sum ≤ x.2 * hS (l.length :: S) (toI r) := by
              rw [hB]; exact mul_mono a1 (by omega)
            have a3 : tot (hS (l.length :: S)) (kvs.take j) + x.2 * hS (l.length :: S) (toI r) = tot (hS (l.length :: S)) (kvs.take (j + 1)) := by
              rw [htk, tot_append, tot_cons, er]
              show _ = _ + (_ + 0)
              omega
            have a4 : tot (hS (l.length :: S)) (kvs.take (j + 1)) ≤ tot (hS (l.length :: S)) kvs := by
              unfold tot
              rw [List.map_take]
              exact sum_take_le nn (j + 1)
            omega
          refine go_isT (.inl rfl) (go_get2K rfl rfl (go_getK (.inr rfl) rfl (by rw [er]; exact hlook) (go_putK rfl rfl rfl (by omega) ?_)))
          refine hN3 _ ⟨_, _, hD2.put (t := u) (v := x.2) (by omega) (by omega) hpos, ?_, rfl⟩
          rw [put_tot hD2.nd, hT2, List.take_add_one, List.getElem?_map, hu]
          show _ = _ + x.2 * (_ ++ [hS S (toI u)]).sum
          rw [List.sum_append, Int.mul_add]
          show _ = _ + (_ + x.2 * (hS S (toI u) + 0))
          rw [Int.add_zero]; omega
        · obtain ⟨later, x5, hD2, hT2, rfl⟩ := hI
          refine hN2 _ ⟨later, _, _, hD2, ?_, rfl⟩
          have et : ((tak r l.length).map fun u => hS S (toI u)).take (tak r l.length).length = (tak r l.length).map fun u => hS S (toI u) := List.take_of_length_le (by rw [List.length_map]; exact Nat.le_refl _)
          rw [hT2, et, htk, tot_append, tot_cons, er, hB]
          show _ = _ + (_ + 0)
          omega
    · obtain ⟨later, x4, x5, hD1, hT1, rfl⟩ := hI
      unfold keysD at hT1
      rw [List.length_map, List.take_length] at hT1
      exact hN _ ⟨later, _, _, _, _, hD1, by rw [hT1, hT], rfl⟩
  · obtain ⟨kvs, x2, x3, x4, x5, hD, hT, rfl⟩ := hI
    have e0 : (szs (aliveW n F C) n).drop (part (aliveW n F C) n).length = [] := List.drop_eq_nil_of_le (by unfold szs; rw [List.length_map]; exact Nat.le_refl _)
    rw [e0] at hD hT
    refine go_lck rfl ?_
    have hlen := hD.len
    have ef : (keysD kvs).map (fun z : KD => match z.2 with | .key k => D.int ((look kvs k).getD 0) | _ => D.non) = (kvs.map (·.2)).map D.int := by
      unfold keysD
      rw [List.map_map, List.map_map]
      refine List.map_congr_left fun x hx => ?_
      show D.int ((look kvs x.1).getD 0) = D.int x.2
      rw [look_at hD.nd hx]; rfl
    refine go_Lc (fun z : KD => match z.2 with | .key k => D.int ((look kvs k).getD 0) | _ => D.non) (by unfold keysD; rw [List.length_map]; omega) (fun i z N hz hN => ?_) ?_
    · unfold keysD at hz
      rw [List.getElem?_map] at hz
      cases ex : kvs[i]? with
      | none => rw [ex] at hz; cases hz
      | some x =>
        rw [ex] at hz
        cases Option.some.inj hz
        have e1 := look_at hD.nd (List.mem_of_getElem? ex)
        refine go_getK (.inr rfl) rfl e1 ?_
        have hN : N (some (.fl, .int ((look kvs x.1).getD 0))) := hN
        rw [e1] at hN
        exact hN
    · rw [ef]
      refine ⟨kvs.map (·.2), rfl, ?_⟩
      have e2 : (kvs.map (·.2)).sum = tot (hS []) kvs := by
        unfold tot
        refine congrArg List.sum (List.map_congr_left fun x _ => ?_)
        show x.2 = x.2 * ((1 : Nat) : Int)
        rw [Int.natCast_one, Int.mul_one]
      rw [e2, hT]
      exact h
end DCU

namespace K48
open PySem PySem.Spec PyProof.Rows L2 DL
def topS (i : Nat) : Stmt := PySem.Challenge.pw_spotlay_k48_how_many_unlike.main.body.getD i (.Pass ⟨0, 0, 0, 0⟩)
def clsS (i j : Nat) : Stmt := match topS i with | .ClassDef (body := b) .. => b.getD j (.Pass ⟨0, 0, 0, 0⟩) | s => s
abbrev FnP (K : PySem.W.Frag) (x q : Str) (st : Stmt) (f : Addr) (fd : FuncData) : Prop := FunD K x q (defArgs st) (defBody st) (defScope st) [] [] f fd
abbrev s_exchanged_two : Stmt := topS 1
theorem sc_exchanged_two : FnScope ["many", "one", "other", "found"] ["many", "one", "other"] (defScope s_exchanged_two) := ⟨rfl, rfl, rfl, by decide +kernel, rfl, by decide +kernel, by decide +kernel⟩
theorem b_exchanged_two : BndG "exchanged_two" "exchanged_two" (defArgs s_exchanged_two) (defBody s_exchanged_two) (defScope s_exchanged_two) ["many", "one", "other"] := fun _ _ _ _ _ _ us hl => match us, hl with | [_, _, _], _ => rfl
abbrev s_stays : Stmt := topS 2
theorem sc_stays : FnScope ["square", "one", "other", "order", "k", "j"] ["square", "one", "other"] (defScope s_stays) := ⟨rfl, rfl, rfl, by decide +kernel, rfl, by decide +kernel, by decide +kernel⟩
theorem b_stays : BndG "stays" "stays" (defArgs s_stays) (defBody s_stays) (defScope s_stays) ["square", "one", "other"] := fun _ _ _ _ _ _ us hl => match us, hl with | [_, _, _], _ => rfl
abbrev s_are_alike_works : Stmt := topS 3
theorem sc_are_alike_works : FnScope ["job", "one", "other"] ["job", "one", "other"] (defScope s_are_alike_works) := ⟨rfl, rfl, rfl, by decide +kernel, rfl, by decide +kernel, by decide +kernel⟩
theorem b_are_alike_works : BndG "are_alike_works" "are_alike_works" (defArgs s_are_alike_works) (defBody s_are_alike_works) (defScope s_are_alike_works) ["job", "one", "other"] := fun _ _ _ _ _ _ us hl => match us, hl with | [_, _, _], _ => rfl
abbrev s_are_alike_places : Stmt := topS 4
theorem sc_are_alike_places : FnScope ["job", "one", "other", "row"] ["job", "one", "other"] (defScope s_are_alike_places) := ⟨rfl, rfl, rfl, by decide +kernel, rfl, by decide +kernel, by decide +kernel⟩
theorem b_are_alike_places : BndG "are_alike_places" "are_alike_places" (defArgs s_are_alike_places) (defBody s_are_alike_places) (defScope s_are_alike_places) ["job", "one", "other"] := fun _ _ _ _ _ _ us hl => match us, hl with | [_, _, _], _ => rfl
abbrev s_put_in : Stmt := topS 5
theorem sc_put_in : FnScope ["found", "homes", "one"] ["found", "homes", "one"] (defScope s_put_in) := ⟨rfl, rfl, rfl, by decide +kernel, rfl, by decide +kernel, by decide +kernel⟩
theorem b_put_in : BndG "put_in" "put_in" (defArgs s_put_in) (defBody s_put_in) (defScope s_put_in) ["found", "homes", "one"] := fun _ _ _ _ _ _ us hl => match us, hl with | [_, _, _], _ => rfl
abbrev s_alike_works : Stmt := topS 6
theorem sc_alike_works : FnScope ["job", "found", "one", "some"] ["job"] (defScope s_alike_works) := ⟨rfl, rfl, rfl, by decide +kernel, rfl, by decide +kernel, by decide +kernel⟩
theorem b_alike_works : BndG "alike_works" "alike_works" (defArgs s_alike_works) (defBody s_alike_works) (defScope s_alike_works) ["job"] := fun _ _ _ _ _ _ us hl => match us, hl with | [_], _ => rfl
abbrev s_alike_places : Stmt := topS 7
theorem sc_alike_places : FnScope ["job", "found", "one", "some"] ["job"] (defScope s_alike_places) := ⟨rfl, rfl, rfl, by decide +kernel, rfl, by decide +kernel, by decide +kernel⟩
theorem b_alike_places : BndG "alike_places" "alike_places" (defArgs s_alike_places) (defBody s_alike_places) (defScope s_alike_places) ["job"] := fun _ _ _ _ _ _ us hl => match us, hl with | [_], _ => rfl
abbrev s_takings : Stmt := topS 8
theorem sc_takings : FnScope ["rooms", "many", "found", "some", "rest"] ["rooms", "many"] (defScope s_takings) := ⟨rfl, rfl, rfl, by decide +kernel, rfl, by decide +kernel, by decide +kernel⟩
theorem b_takings : BndG "takings" "takings" (defArgs s_takings) (defBody s_takings) (defScope s_takings) ["rooms", "many"] := fun _ _ _ _ _ _ us hl => match us, hl with | [_, _], _ => rfl
abbrev s_how_many_unlike : Stmt := topS 9
theorem sc_how_many_unlike : FnScope ["job", "found", "some", "later", "rooms", "rest"] ["job"] (defScope s_how_many_unlike) := ⟨rfl, rfl, rfl, by decide +kernel, rfl, by decide +kernel, by decide +kernel⟩
theorem b_how_many_unlike : BndG "how_many_unlike" "how_many_unlike" (defArgs s_how_many_unlike) (defBody s_how_many_unlike) (defScope s_how_many_unlike) ["job"] := fun _ _ _ _ _ _ us hl => match us, hl with | [_], _ => rfl
abbrev s__law_bag : Stmt := topS 11
theorem sc__law_bag : FnScope ["script", "mixed", "cell"] ["script"] (defScope s__law_bag) := ⟨rfl, rfl, rfl, by decide +kernel, rfl, by decide +kernel, by decide +kernel⟩
theorem b__law_bag : BndG "_law_bag" "_law_bag" (defArgs s__law_bag) (defBody s__law_bag) (defScope s__law_bag) ["script"] := fun _ _ _ _ _ _ us hl => match us, hl with | [_], _ => rfl
abbrev s__law_dip : Stmt := topS 12
theorem sc__law_dip : FnScope ["bag", "many", "cell", "digit"] ["bag", "many"] (defScope s__law_dip) := ⟨rfl, rfl, rfl, by decide +kernel, rfl, by decide +kernel, by decide +kernel⟩
theorem b__law_dip : BndG "_law_dip" "_law_dip" (defArgs s__law_dip) (defBody s__law_dip) (defScope s__law_dip) ["bag", "many"] := fun _ _ _ _ _ _ us hl => match us, hl with | [_, _], _ => rfl
abbrev s__law_table : Stmt := topS 13
theorem sc__law_table : FnScope ["bag", "many", "most", "few", "j", "k"] ["bag", "many", "most"] (defScope s__law_table) := ⟨rfl, rfl, rfl, by decide +kernel, rfl, by decide +kernel, by decide +kernel⟩
theorem b__law_table : BndG "_law_table" "_law_table" (defArgs s__law_table) (defBody s__law_table) (defScope s__law_table) ["bag", "many", "most"] := fun _ _ _ _ _ _ us hl => match us, hl with | [_, _, _], _ => rfl
abbrev s__law_by : Stmt := topS 14
theorem sc__law_by : FnScope ["table", "rows", "columns", "one", "other"] ["table", "rows", "columns"] (defScope s__law_by) := ⟨rfl, rfl, rfl, by decide +kernel, rfl, by decide +kernel, by decide +kernel⟩
theorem b__law_by : BndG "_law_by" "_law_by" (defArgs s__law_by) (defBody s__law_by) (defScope s__law_by) ["table", "rows", "columns"] := fun _ _ _ _ _ _ us hl => match us, hl with | [_, _, _], _ => rfl
abbrev s__law_classed : Stmt := topS 15
theorem sc__law_classed : FnScope ["bag", "most", "many", "sorts", "works", "places", "flows", "ways", "costs", "which", "k", "square", "row"] ["bag", "most"] (defScope s__law_classed) := ⟨rfl, rfl, rfl, by decide +kernel, rfl, by decide +kernel, by decide +kernel⟩
theorem b__law_classed : BndG "_law_classed" "_law_classed" (defArgs s__law_classed) (defBody s__law_classed) (defScope s__law_classed) ["bag", "most"] := fun _ _ _ _ _ _ us hl => match us, hl with | [_, _], _ => rfl
abbrev s__law_moved : Stmt := topS 16
theorem sc__law_moved : FnScope ["square", "one", "other", "k", "j", "there"] ["square", "one", "other"] (defScope s__law_moved) := ⟨rfl, rfl, rfl, by decide +kernel, rfl, by decide +kernel, by decide +kernel⟩
theorem b__law_moved : BndG "_law_moved" "_law_moved" (defArgs s__law_moved) (defBody s__law_moved) (defScope s__law_moved) ["square", "one", "other"] := fun _ _ _ _ _ _ us hl => match us, hl with | [_, _, _], _ => rfl
abbrev s__law_sets : Stmt := topS 17
theorem sc__law_sets : FnScope ["many", "unlike", "found", "one", "some", "k"] ["many", "unlike"] (defScope s__law_sets) := ⟨rfl, rfl, rfl, by decide +kernel, rfl, by decide +kernel, by decide +kernel⟩
theorem b__law_sets : BndG "_law_sets" "_law_sets" (defArgs s__law_sets) (defBody s__law_sets) (defScope s__law_sets) ["many", "unlike"] := fun _ _ _ _ _ _ us hl => match us, hl with | [_, _], _ => rfl
abbrev s__law_pairs : Stmt := topS 18
theorem sc__law_pairs : FnScope ["many", "found", "one", "other"] ["many"] (defScope s__law_pairs) := ⟨rfl, rfl, rfl, by decide +kernel, rfl, by decide +kernel, by decide +kernel⟩
theorem b__law_pairs : BndG "_law_pairs" "_law_pairs" (defArgs s__law_pairs) (defBody s__law_pairs) (defScope s__law_pairs) ["many"] := fun _ _ _ _ _ _ us hl => match us, hl with | [_], _ => rfl
abbrev s__law_alike_works : Stmt := topS 19
theorem sc__law_alike_works : FnScope ["job", "unlike", "one", "other"] ["job"] (defScope s__law_alike_works) := ⟨rfl, rfl, rfl, by decide +kernel, rfl, by decide +kernel, by decide +kernel⟩
theorem b__law_alike_works : BndG "_law_alike_works" "_law_alike_works" (defArgs s__law_alike_works) (defBody s__law_alike_works) (defScope s__law_alike_works) ["job"] := fun _ _ _ _ _ _ us hl => match us, hl with | [_], _ => rfl
abbrev s__law_alike_places : Stmt := topS 20
theorem sc__law_alike_places : FnScope ["job", "unlike", "one", "other", "row"] ["job"] (defScope s__law_alike_places) := ⟨rfl, rfl, rfl, by decide +kernel, rfl, by decide +kernel, by decide +kernel⟩
theorem b__law_alike_places : BndG "_law_alike_places" "_law_alike_places" (defArgs s__law_alike_places) (defBody s__law_alike_places) (defScope s__law_alike_places) ["job"] := fun _ _ _ _ _ _ us hl => match us, hl with | [_], _ => rfl
abbrev s__law_orders : Stmt := topS 21
theorem sc__law_orders : FnScope ["many", "found", "k", "longer", "some", "place"] ["many"] (defScope s__law_orders) := ⟨rfl, rfl, rfl, by decide +kernel, rfl, by decide +kernel, by decide +kernel⟩
theorem b__law_orders : BndG "_law_orders" "_law_orders" (defArgs s__law_orders) (defBody s__law_orders) (defScope s__law_orders) ["many"] := fun _ _ _ _ _ _ us hl => match us, hl with | [_], _ => rfl
abbrev s__law_home : Stmt := topS 22
theorem sc__law_home : FnScope ["sets", "one", "k"] ["sets", "one"] (defScope s__law_home) := ⟨rfl, rfl, rfl, by decide +kernel, rfl, by decide +kernel, by decide +kernel⟩
theorem b__law_home : BndG "_law_home" "_law_home" (defArgs s__law_home) (defBody s__law_home) (defScope s__law_home) ["sets", "one"] := fun _ _ _ _ _ _ us hl => match us, hl with | [_, _], _ => rfl
abbrev s__law_gone_through : Stmt := topS 23
theorem sc__law_gone_through : FnScope ["works", "places", "many", "met", "laying", "pairs", "k"] ["works", "places", "many"] (defScope s__law_gone_through) := ⟨rfl, rfl, rfl, by decide +kernel, rfl, by decide +kernel, by decide +kernel⟩
theorem b__law_gone_through : BndG "_law_gone_through" "_law_gone_through" (defArgs s__law_gone_through) (defBody s__law_gone_through) (defScope s__law_gone_through) ["works", "places", "many"] := fun _ _ _ _ _ _ us hl => match us, hl with | [_, _, _], _ => rfl
abbrev s__law_dealt : Stmt := topS 24
theorem sc__law_dealt : FnScope ["known", "sizes", "rooms", "first", "key", "at", "left"] ["known", "sizes", "rooms", "first"] (defScope s__law_dealt) := ⟨rfl, rfl, rfl, by decide +kernel, rfl, by decide +kernel, by decide +kernel⟩
theorem b__law_dealt : BndG "_law_dealt" "_law_dealt" (defArgs s__law_dealt) (defBody s__law_dealt) (defScope s__law_dealt) ["known", "sizes", "rooms", "first"] := fun _ _ _ _ _ _ us hl => match us, hl with | [_, _, _, _], _ => rfl
abbrev s__law_other_job : Stmt := topS 25
theorem sc__law_other_job : FnScope ["bag", "job", "found", "many", "turn", "which", "row", "column", "square", "j", "k"] ["bag", "job"] (defScope s__law_other_job) := ⟨rfl, rfl, rfl, by decide +kernel, rfl, by decide +kernel, by decide +kernel⟩
theorem b__law_other_job : BndG "_law_other_job" "_law_other_job" (defArgs s__law_other_job) (defBody s__law_other_job) (defScope s__law_other_job) ["bag", "job"] := fun _ _ _ _ _ _ us hl => match us, hl with | [_, _], _ => rfl
abbrev s_law : Stmt := topS 26
theorem sc_law : FnScope ["script", "bag", "one", "other", "job", "works", "places", "due", "some"] ["script"] (defScope s_law) := ⟨rfl, rfl, rfl, by decide +kernel, rfl, by decide +kernel, by decide +kernel⟩
theorem b_law : BndG "law" "law" (defArgs s_law) (defBody s_law) (defScope s_law) ["script"] := fun _ _ _ _ _ _ us hl => match us, hl with | [_], _ => rfl
noncomputable section
/- _law_orders(many); slots: 0 many, 1 found, 2 k, 3 longer, 4 some, 5 place -/
def sem__law_orders : SF :=
  (sSeq (sSet 1 (eP (pLst (gCons (pTup gNil) gNil))))
    (sSeq (sForX (jR1 (gCons (pVar 0) gNil)) (gNm 2) (sSeq (sSet 3 (eP (pLst gNil)))
    (sFrz 1 (sSeq (sForX (iSq (pVar 1)) (gNm 4) (sExpr (eMthR xExtend 3 (aE (eP (pLcX (jR1 (gCons (pVar 0) gNil)) [5] (gNm 5) (pTest (pOp (oIn true) (pVar 5) (pVar 4))) (pOp oAdd (pVar 4) (pTup (gCons (pVar 5) gNil))))) aNil))))
    (sSet 1 (eMv 3))))))
    (sRet (eMv 1))))
@[irreducible] def cf__law_orders : CF := hid (cfOf 5 [false] sem__law_orders)
theorem cf__law_orders_eq : cf__law_orders = cfOf 5 [false] sem__law_orders := by unfold cf__law_orders; rw [hid_eq]
/- _law_home(sets, one); slots: 0 sets, 1 one, 2 k -/
def sem__law_home : SF :=
  (sRet (eP (pOp xIx (pLcX (jR1 (gCons (pCall oLen (gCons (pVar 0) gNil)) gNil)) [2] (gNm 2) (pTest (pOp (oIn false) (pVar 1) (pOp xIx (pVar 0) (pVar 2)))) (pVar 2)) (pC (.int 0)))))
@[irreducible] def cf__law_home : CF := hid (cfOf 1 [false, false] sem__law_home)
theorem cf__law_home_eq : cf__law_home = cfOf 1 [false, false] sem__law_home := by unfold cf__law_home; rw [hid_eq]
/- _law_gone_through(works, places, many); slots: 0 works, 1 places, 2 many, 3 met, 4 laying, 5 pairs, 6 k -/
def sem__law_gone_through : SF :=
  (sSeq (sSet 3 (eP pNewN))
    (sSeq (sForX (iSq (pFn cf__law_orders (gCons (pVar 2) gNil))) (gNm 4) (sSeq (sSet 5 (eP (pLcX (jR1 (gCons (pVar 2) gNil)) [6] (gNm 6) tNilP (pTup (gCons (pFn cf__law_home (gCons (pVar 0) (gCons (pVar 6) gNil))) (gCons (pFn cf__law_home (gCons (pVar 1) (gCons (pOp xIx (pVar 4) (pVar 6)) gNil))) gNil))))))
    (sSetN (eP (pC (.bl true))) (plVar 3) (pCall oTuple (gCons (pCall oSortedI (gCons (pVar 5) gNil)) gNil)))))
    (sRet (eP (pCall oLenN (gCons (pVar 3) gNil))))))
@[irreducible] def cf__law_gone_through : CF := hid (cfOf 4 [false, false, false] sem__law_gone_through)
theorem cf__law_gone_through_eq : cf__law_gone_through = cfOf 4 [false, false, false] sem__law_gone_through := by unfold cf__law_gone_through; rw [hid_eq]
/- _law_dealt(known, sizes, rooms, first); slots: 0 known, 1 sizes, 2 rooms, 3 first, 4 key, 5 at, 6 left -/
def sem__law_dealt (cf__law_dealt : CF) : SF :=
  (sSeq (sIf (teP (pTest (pOp oEq (pVar 1) (pTup gNil)))) (sRet (eP (pC (.int 1)))) sNil)
    (sSeq (sIf (teP (pTest (pOp oEq (pOp xIx (pVar 1) (pC (.int 0))) (pC (.int 0))))) (sRet (eFn [true, false, false, false] cf__law_dealt (aPl 0 (aE (eP (pSl (pVar 1) (oP (pC (.int 1))) oNoP)) (aE (eMv 2) (aE (eP (pC (.int 0))) aNil)))))) sNil)
    (sSeq (sSet 4 (eP (pTup (gCons (pVar 1) (gCons (pVar 2) (gCons (pVar 3) gNil))))))
    (sSeq (sIf (teP (pTest (pOp (xInN true) (pVar 4) (pVar 0)))) (sSeq (sSetN (eP (pC (.int 0))) (plVar 0) (pVar 4))
    (sForX (jR2 (gCons (pVar 3) (gCons (pCall oLen (gCons (pVar 2) gNil)) gNil))) (gNm 5) (sIf (teP (pTest (pOp oGt (pOp xIx (pVar 2) (pVar 5)) (pC (.int 0))))) (sSeq (sSet 6 (eP (pOp oAdd (pOp oAdd (pSl (pVar 2) oNoP (oP (pVar 5))) (pTup (gCons (pOp oSub (pOp xIx (pVar 2) (pVar 5)) (pC (.int 1))) gNil))) (pSl (pVar 2) (oP (pOp oAdd (pVar 5) (pC (.int 1)))) oNoP))))
    (sSetN (eOp oAdd (eP (pOp xGetN (pVar 0) (pVar 4))) (eFn [true, false, false, false] cf__law_dealt (aPl 0 (aE (eP (pOp oAdd (pTup (gCons (pOp oSub (pOp xIx (pVar 1) (pC (.int 0))) (pC (.int 1))) gNil)) (pSl (pVar 1) (oP (pC (.int 1))) oNoP))) (aE (eMv 6) (aE (eMv 5) aNil)))))) (plVar 0) (pVar 4))) sNil))) sNil)
    (sRet (eP (pOp xGetN (pVar 0) (pVar 4))))))))
def cfR__law_dealt : Nat → CF
  | 0 => cfOf 3 [true, false, false, false] fun _ _ => False
  | d + 1 => cfOf 3 [true, false, false, false] (sem__law_dealt (cfR__law_dealt d))
theorem cfR__law_dealt_succ (d : Nat) : cfR__law_dealt (d + 1) = cfOf 3 [true, false, false, false] (sem__law_dealt (cfR__law_dealt d)) := rfl
@[irreducible] def cf__law_dealt : CF := hid (cfR__law_dealt 18)
theorem cf__law_dealt_eq : cf__law_dealt = cfR__law_dealt 18 := by unfold cf__law_dealt; rw [hid_eq]
/- law(script); slots: 0 script, 1 bag, 2 one, 3 other, 4 job, 5 works, 6 places, 7 due, 8 some -/
def sem_law : SF :=
  (sSeq (sSet 1 (eP (pFn DCA.cf__law_bag (gCons (pVar 0) gNil))))
    (sSeq (sSet 2 (eFn [true, false] DCR.cf__law_classed (aPl 1 (aE (eP (pC (.int 8))) aNil))))
    (sSeq (sSet 3 (eFn [true, false] DCR.cf__law_other_job (aPl 1 (aE (eMv 2) aNil))))
    (sSeq (sForX (iSq (pLst (gCons (pVar 2) (gCons (pVar 3) (gCons (pVar 2) gNil))))) (gNm 4) (sSeq (sSet 5 (eP (pFn DCR.cf__law_alike_works (gCons (pVar 4) gNil))))
    (sSeq (sSet 6 (eP (pFn DCR.cf__law_alike_places (gCons (pVar 4) gNil))))
    (sSeq (sSet 7 (eFn [true, false, false, false] cf__law_dealt (aE (eP pNewN) (aE (eP (pCall oTuple (gCons (pLcX (iSq (pVar 5)) [8] (gNm 8) tNilP (pCall oLen (gCons (pVar 8) gNil))) gNil))) (aE (eP (pCall oTuple (gCons (pLcX (iSq (pVar 6)) [8] (gNm 8) tNilP (pCall oLen (gCons (pVar 8) gNil))) gNil))) (aE (eP (pC (.int 0))) aNil))))))
    (sSeq (sIf (teP (tAnd (pTest (pOp oLt (pCall oLen (gCons (pOp xIx (pVar 4) (pC (.int 0))) gNil)) (pC (.int 6)))) (pTest (pOp oNe (pVar 7) (pFn cf__law_gone_through (gCons (pVar 5) (gCons (pVar 6) (gCons (pCall oLen (gCons (pOp xIx (pVar 4) (pC (.int 0))) gNil)) gNil)))))))) (sRet (eP (pC (.bl false)))) sNil)
    (sIf (teP (pTest (pOp oNe (pCall oReprM (gCons (pFn DCU.cf_how_many_unlike (gCons (pVar 4) gNil)) gNil)) (pCall oReprM (gCons (pVar 7) gNil))))) (sRet (eP (pC (.bl false)))) sNil))))))
    (sRet (eP (pC (.bl true))))))))
@[irreducible] def cf_law : CF := hid (cfOf 8 [false] sem_law)
theorem cf_law_eq : cf_law = cfOf 8 [false] sem_law := by unfold cf_law; rw [hid_eq]
end
structure Facts (K : PySem.W.Frag) (mg : Str → Option Value) where
  f_exchanged_two : Addr
  d_exchanged_two : FuncData
  F_exchanged_two : FnP K "exchanged_two" "exchanged_two" s_exchanged_two f_exchanged_two d_exchanged_two
  g_exchanged_two : mg "exchanged_two" = some (.ref f_exchanged_two)
  f_stays : Addr
  d_stays : FuncData
  F_stays : FnP K "stays" "stays" s_stays f_stays d_stays
  g_stays : mg "stays" = some (.ref f_stays)
  f_are_alike_works : Addr
  d_are_alike_works : FuncData
  F_are_alike_works : FnP K "are_alike_works" "are_alike_works" s_are_alike_works f_are_alike_works d_are_alike_works
  g_are_alike_works : mg "are_alike_works" = some (.ref f_are_alike_works)
  f_are_alike_places : Addr
  d_are_alike_places : FuncData
  F_are_alike_places : FnP K "are_alike_places" "are_alike_places" s_are_alike_places f_are_alike_places d_are_alike_places
  g_are_alike_places : mg "are_alike_places" = some (.ref f_are_alike_places)
  f_put_in : Addr
  d_put_in : FuncData
  F_put_in : FnP K "put_in" "put_in" s_put_in f_put_in d_put_in
  g_put_in : mg "put_in" = some (.ref f_put_in)
  f_alike_works : Addr
  d_alike_works : FuncData
  F_alike_works : FnP K "alike_works" "alike_works" s_alike_works f_alike_works d_alike_works
  g_alike_works : mg "alike_works" = some (.ref f_alike_works)
  f_alike_places : Addr
  d_alike_places : FuncData
  F_alike_places : FnP K "alike_places" "alike_places" s_alike_places f_alike_places d_alike_places
  g_alike_places : mg "alike_places" = some (.ref f_alike_places)
  f_takings : Addr
  d_takings : FuncData
  F_takings : FnP K "takings" "takings" s_takings f_takings d_takings
  g_takings : mg "takings" = some (.ref f_takings)
  f_how_many_unlike : Addr
  d_how_many_unlike : FuncData
  F_how_many_unlike : FnP K "how_many_unlike" "how_many_unlike" s_how_many_unlike f_how_many_unlike d_how_many_unlike
  g_how_many_unlike : mg "how_many_unlike" = some (.ref f_how_many_unlike)
  f__law_bag : Addr
  d__law_bag : FuncData
  F__law_bag : FnP K "_law_bag" "_law_bag" s__law_bag f__law_bag d__law_bag
  g__law_bag : mg "_law_bag" = some (.ref f__law_bag)
  f__law_dip : Addr
  d__law_dip : FuncData
  F__law_dip : FnP K "_law_dip" "_law_dip" s__law_dip f__law_dip d__law_dip
  g__law_dip : mg "_law_dip" = some (.ref f__law_dip)
  f__law_table : Addr
  d__law_table : FuncData
  F__law_table : FnP K "_law_table" "_law_table" s__law_table f__law_table d__law_table
  g__law_table : mg "_law_table" = some (.ref f__law_table)
  f__law_by : Addr
  d__law_by : FuncData
  F__law_by : FnP K "_law_by" "_law_by" s__law_by f__law_by d__law_by
  g__law_by : mg "_law_by" = some (.ref f__law_by)
  f__law_classed : Addr
  d__law_classed : FuncData
  F__law_classed : FnP K "_law_classed" "_law_classed" s__law_classed f__law_classed d__law_classed
  g__law_classed : mg "_law_classed" = some (.ref f__law_classed)
  f__law_moved : Addr
  d__law_moved : FuncData
  F__law_moved : FnP K "_law_moved" "_law_moved" s__law_moved f__law_moved d__law_moved
  g__law_moved : mg "_law_moved" = some (.ref f__law_moved)
  f__law_sets : Addr
  d__law_sets : FuncData
  F__law_sets : FnP K "_law_sets" "_law_sets" s__law_sets f__law_sets d__law_sets
  g__law_sets : mg "_law_sets" = some (.ref f__law_sets)
  f__law_pairs : Addr
  d__law_pairs : FuncData
  F__law_pairs : FnP K "_law_pairs" "_law_pairs" s__law_pairs f__law_pairs d__law_pairs
  g__law_pairs : mg "_law_pairs" = some (.ref f__law_pairs)
  f__law_alike_works : Addr
  d__law_alike_works : FuncData
  F__law_alike_works : FnP K "_law_alike_works" "_law_alike_works" s__law_alike_works f__law_alike_works d__law_alike_works
  g__law_alike_works : mg "_law_alike_works" = some (.ref f__law_alike_works)
  f__law_alike_places : Addr
  d__law_alike_places : FuncData
  F__law_alike_places : FnP K "_law_alike_places" "_law_alike_places" s__law_alike_places f__law_alike_places d__law_alike_places
  g__law_alike_places : mg "_law_alike_places" = some (.ref f__law_alike_places)
  f__law_orders : Addr
  d__law_orders : FuncData
  F__law_orders : FnP K "_law_orders" "_law_orders" s__law_orders f__law_orders d__law_orders
  g__law_orders : mg "_law_orders" = some (.ref f__law_orders)
  f__law_home : Addr
  d__law_home : FuncData
  F__law_home : FnP K "_law_home" "_law_home" s__law_home f__law_home d__law_home
  g__law_home : mg "_law_home" = some (.ref f__law_home)
  f__law_gone_through : Addr
  d__law_gone_through : FuncData
  F__law_gone_through : FnP K "_law_gone_through" "_law_gone_through" s__law_gone_through f__law_gone_through d__law_gone_through
  g__law_gone_through : mg "_law_gone_through" = some (.ref f__law_gone_through)
  f__law_dealt : Addr
  d__law_dealt : FuncData
  F__law_dealt : FnP K "_law_dealt" "_law_dealt" s__law_dealt f__law_dealt d__law_dealt
  g__law_dealt : mg "_law_dealt" = some (.ref f__law_dealt)
  f__law_other_job : Addr
  d__law_other_job : FuncData
  F__law_other_job : FnP K "_law_other_job" "_law_other_job" s__law_other_job f__law_other_job d__law_other_job
  g__law_other_job : mg "_law_other_job" = some (.ref f__law_other_job)
  f_law : Addr
  d_law : FuncData
  F_law : FnP K "law" "law" s_law f_law d_law
  g_law : mg "law" = some (.ref f_law)
  m_abs : mg "abs" = none
  m_all : mg "all" = none
  m_int : mg "int" = none
  m_len : mg "len" = none
  m_list : mg "list" = none
  m_max : mg "max" = none
  m_min : mg "min" = none
  m_range : mg "range" = none
  m_repr : mg "repr" = none
  m_sorted : mg "sorted" = none
  m_sum : mg "sum" = none
  m_tuple : mg "tuple" = none
section
variable {P : Program} {w : World} {K : PySem.W.Frag} {mg : Str → Option Value} {base : Heap}
theorem ok_exchanged_two (L : Facts K mg) : GOk P w K mg base CX0 1 L.f_exchanged_two ["many", "one", "other"] (spOf K 3 [false, false, false] DCR.cf_exchanged_two) := DCR.cf_exchanged_two_eq ▸
  cf_okG L.F_exchanged_two b_exchanged_two sc_exchanged_two rfl rfl fun cdv A outer s H E hr => have hN := (sc_exchanged_two).nd
    (dss_cons (ds_set 3 hN (de_p (DP.as (eq1 pLR1X_eq _) (dp_listRg1 (dp_var 0) (by rfl) (by rfl) L.m_list (by rfl) L.m_range))))
      (dss_cons (DS.as (eq3 sStIxX_eq _ _ _) (ds_stIx (de_mv 2) (dpl_var 3) (dp_var 1)))
      (dss_cons (DS.as (eq3 sStIxX_eq _ _ _) (ds_stIx (de_mv 1) (dpl_var 3) (dp_var 2)))
      (dss_one (ds_ret (de_mv 3))))))
theorem ok_stays (L : Facts K mg) : GOk P w K mg base CX0 2 L.f_stays ["square", "one", "other"] (spOf K 3 [false, false, false] DCR.cf_stays) := DCR.cf_stays_eq ▸
  cf_okG L.F_stays b_stays sc_stays rfl rfl fun cdv A outer s H E hr => have hN := (sc_stays).nd
    (dss_cons (ds_set 3 hN (de_p (dp_callG (ok_exchanged_two L) (hr.mono (by decide)) (by rfl) L.g_exchanged_two L.F_exchanged_two.kp pass0 (da_cons (dp_callB call_len cs_len (by rfl) L.m_len bt_len (da_cons (dp_var 0) da_nil)) (da_cons (dp_var 1) (da_cons (dp_var 2) da_nil))))))
      (dss_one (ds_ret (de_p (dp_cmp (op_eqAll hr.units) os_eq (dp_callTy call_tuple_of cs_tuple (by rfl) L.m_tuple bt_tuple (da_cons (DP.as (eq5 pLcX_eq _ _ _ _ _) (dp_lc (by rfl) hN (di_seq (dp_var 3)) (blkOk_by (own := [("k", 4)]) (by kernel_rfl)) (fun _ _ _ _ _ => (dg_name 4 hN)) (fun _ _ _ _ _ => dts_nil) (fun _ _ _ _ _ => (dp_callTy call_tuple_of cs_tuple (by rfl) L.m_tuple bt_tuple (da_cons (DP.as (eq5 pLcX_eq _ _ _ _ _) (dp_lc (by rfl) hN (di_seq (dp_var 3)) (blkOk_by (own := [("j", 5)]) (by kernel_rfl)) (fun _ _ _ _ _ => (dg_name 5 hN)) (fun _ _ _ _ _ => dts_nil) (fun _ _ _ _ _ => (DP.as (eqIx _ _) (dp_ix (DP.as (eqIx _ _) (dp_ix (dp_var 0) (dp_var 4))) (dp_var 5)))))) da_nil))))) da_nil)) (dp_var 0) (by rfl))))))
theorem ok_are_alike_works (L : Facts K mg) : GOk P w K mg base CX0 3 L.f_are_alike_works ["job", "one", "other"] (spOf K 3 [false, false, false] DCR.cf_are_alike_works) := DCR.cf_are_alike_works_eq ▸
  cf_okG L.F_are_alike_works b_are_alike_works sc_are_alike_works rfl rfl fun cdv A outer s H E hr => have hN := (sc_are_alike_works).nd
    (dss_one (ds_ret (de_p (dp_and (dp_cmp (op_eqAll hr.units) os_eq (DP.as (eqIx _ _) (dp_ix (DP.as (eqIx _ _) (dp_ix (dp_var 0) dp_int)) (dp_var 1))) (DP.as (eqIx _ _) (dp_ix (DP.as (eqIx _ _) (dp_ix (dp_var 0) dp_int)) (dp_var 2))) (by rfl)) (dp_one (dp_callG (ok_stays L) (hr.mono (by decide)) (by rfl) L.g_stays L.F_stays.kp pass0 (da_cons (DP.as (eqIx _ _) (dp_ix (dp_var 0) dp_int)) (da_cons (dp_var 1) (da_cons (dp_var 2) da_nil)))))))))
theorem ok_are_alike_places (L : Facts K mg) : GOk P w K mg base CX0 3 L.f_are_alike_places ["job", "one", "other"] (spOf K 3 [false, false, false] DCR.cf_are_alike_places) := DCR.cf_are_alike_places_eq ▸
  cf_okG L.F_are_alike_places b_are_alike_places sc_are_alike_places rfl rfl fun cdv A outer s H E hr => have hN := (sc_are_alike_places).nd
    (dss_one (ds_ret (de_p (dp_and (dp_callB (cr_all (by rfl)) cs_all (by rfl) L.m_all bt_all (da_cons (DP.as (eq5 pLcX_eq _ _ _ _ _) (dp_lc (by rfl) hN (di_seq (DP.as (eqIx _ _) (dp_ix (dp_var 0) dp_int))) (blkOk_by (own := [("row", 3)]) (by kernel_rfl)) (fun _ _ _ _ _ => (dg_name 3 hN)) (fun _ _ _ _ _ => dts_nil) (fun _ _ _ _ _ => (dp_cmp (op_eqAll hr.units) os_eq (DP.as (eqIx _ _) (dp_ix (dp_var 3) (dp_var 1))) (DP.as (eqIx _ _) (dp_ix (dp_var 3) (dp_var 2))) (by rfl))))) da_nil)) (dp_one (dp_callG (ok_stays L) (hr.mono (by decide)) (by rfl) L.g_stays L.F_stays.kp pass0 (da_cons (DP.as (eqIx _ _) (dp_ix (dp_var 0) dp_int)) (da_cons (dp_var 1) (da_cons (dp_var 2) da_nil)))))))))
theorem ok_put_in (L : Facts K mg) : GOk P w K mg base CX0 1 L.f_put_in ["found", "homes", "one"] (spPut K) :=
  put_ok L.F_put_in b_put_in sc_put_in rfl rfl fun cdv A outer s H E hr => put_pss hr.units (pe_var (i := 0) rfl (by first | exact Or.inl rfl | exact Or.inr (Or.inl rfl) | exact Or.inr (Or.inr rfl)) (by decide) (by decide)) (dp_var 1) (dp_var 1) (pe_var (i := 2) rfl (by first | exact Or.inl rfl | exact Or.inr (Or.inl rfl) | exact Or.inr (Or.inr rfl)) (by decide) (by decide)) (pe_var (i := 2) rfl (by first | exact Or.inl rfl | exact Or.inr (Or.inl rfl) | exact Or.inr (Or.inr rfl)) (by decide) (by decide)) (by rfl) (by rfl) (by rfl) (by rfl) (by rfl) (by rfl) (by rfl) (by rfl) (by rfl) (by rfl) (by rfl) (by rfl) (by rfl) (by rfl)
theorem ok_alike_works (L : Facts K mg) : GOk P w K mg base CX0 4 L.f_alike_works ["job"] (spOf K 1 [false] DCR.cf_alike_works) := DCR.cf_alike_works_eq ▸
  cf_okG L.F_alike_works b_alike_works sc_alike_works rfl rfl fun cdv A outer s H E hr => have hN := (sc_alike_works).nd
    (dss_cons (ds_set 1 hN (de_p (dp_lst da_nil)))
      (dss_cons (DS.as (eq3 sForX_eq _ _ _) (ds_for PassesOwn.never (by rfl) (DI.as (eq1 jR1_eq _) (di_range1 (by rfl) L.m_range (da_cons (dp_callB call_len cs_len (by rfl) L.m_len bt_len (da_cons (DP.as (eqIx _ _) (dp_ix (dp_var 0) dp_int)) da_nil)) da_nil))) (dg_name 2 hN) (dss_one (ds_putIn 1 (ok_put_in L) (hr.mono (by decide)) (by rfl) L.g_put_in L.F_put_in.kp pass0 (DP.as (eq5 pLcX_eq _ _ _ _ _) (dp_lc (by rfl) hN (di_seq (dp_unA (dp_var 1))) (blkOk_by (own := [("some", 3)]) (by kernel_rfl)) (fun _ _ _ _ _ => (dg_name 3 hN)) (fun _ _ _ _ _ => (dts_one (dt_val (dp_callG (ok_are_alike_works L) (hr.mono (by decide)) (by rfl) L.g_are_alike_works L.F_are_alike_works.kp pass0 (da_cons (dp_var 0) (da_cons (DP.as (eqIx _ _) (dp_ix (dp_unA (dp_var 3)) dp_int)) (da_cons (dp_var 2) da_nil))))))) (fun _ _ _ _ _ => (dp_ad (dp_var 3))))) (dp_var 2)))))
      (dss_one (ds_ret (de_p (dp_callB (cr_sortD hr.units) cs_sortedI (by rfl) L.m_sorted bt_sorted (da_cons (DP.as (eq5 pLcX_eq _ _ _ _ _) (dp_lc (by rfl) hN (di_seq (dp_var 1)) (blkOk_by (own := [("some", 3)]) (by kernel_rfl)) (fun _ _ _ _ _ => (dg_name 3 hN)) (fun _ _ _ _ _ => dts_nil) (fun _ _ _ _ _ => (dp_callTy call_tuple_of cs_tupleF (by rfl) L.m_tuple bt_tuple (da_cons (dp_var 3) da_nil))))) da_nil)))))))
theorem ok_alike_places (L : Facts K mg) : GOk P w K mg base CX0 4 L.f_alike_places ["job"] (spOf K 1 [false] DCR.cf_alike_places) := DCR.cf_alike_places_eq ▸
  cf_okG L.F_alike_places b_alike_places sc_alike_places rfl rfl fun cdv A outer s H E hr => have hN := (sc_alike_places).nd
    (dss_cons (ds_set 1 hN (de_p (dp_lst da_nil)))
      (dss_cons (DS.as (eq3 sForX_eq _ _ _) (ds_for PassesOwn.never (by rfl) (DI.as (eq1 jR1_eq _) (di_range1 (by rfl) L.m_range (da_cons (dp_callB call_len cs_len (by rfl) L.m_len bt_len (da_cons (DP.as (eqIx _ _) (dp_ix (dp_var 0) dp_int)) da_nil)) da_nil))) (dg_name 2 hN) (dss_one (ds_putIn 1 (ok_put_in L) (hr.mono (by decide)) (by rfl) L.g_put_in L.F_put_in.kp pass0 (DP.as (eq5 pLcX_eq _ _ _ _ _) (dp_lc (by rfl) hN (di_seq (dp_unA (dp_var 1))) (blkOk_by (own := [("some", 3)]) (by kernel_rfl)) (fun _ _ _ _ _ => (dg_name 3 hN)) (fun _ _ _ _ _ => (dts_one (dt_val (dp_callG (ok_are_alike_places L) (hr.mono (by decide)) (by rfl) L.g_are_alike_places L.F_are_alike_places.kp pass0 (da_cons (dp_var 0) (da_cons (DP.as (eqIx _ _) (dp_ix (dp_unA (dp_var 3)) dp_int)) (da_cons (dp_var 2) da_nil))))))) (fun _ _ _ _ _ => (dp_ad (dp_var 3))))) (dp_var 2)))))
      (dss_one (ds_ret (de_p (dp_callB (cr_sortD hr.units) cs_sortedI (by rfl) L.m_sorted bt_sorted (da_cons (DP.as (eq5 pLcX_eq _ _ _ _ _) (dp_lc (by rfl) hN (di_seq (dp_var 1)) (blkOk_by (own := [("some", 3)]) (by kernel_rfl)) (fun _ _ _ _ _ => (dg_name 3 hN)) (fun _ _ _ _ _ => dts_nil) (fun _ _ _ _ _ => (dp_callTy call_tuple_of cs_tupleF (by rfl) L.m_tuple bt_tuple (da_cons (dp_var 3) da_nil))))) da_nil)))))))
theorem okR_takings (L : Facts K mg) : ∀ d : Nat, GOk P w K mg base CX0 (1 + d) L.f_takings ["rooms", "many"] (spOf K 2 [false, false] (DCU.cfR_takings d))
  | 0 => cf_okG L.F_takings b_takings sc_takings rfl rfl fun _ _ _ _ _ _ _ => dss_false
  | d + 1 => DCU.cfR_takings_succ d ▸
  cf_okG L.F_takings b_takings sc_takings rfl rfl fun cdv A outer s H E hr => have hN := (sc_takings).nd
    (dss_cons (ds_if (dte_p (dt_cmp (op_eqAll hr.units) os_eq (dp_var 0) (dp_tupK da_nil) (by rfl))) (dss_one (ds_ret (de_p (dp_op op_mulAll os_mul (dp_lst (da_cons (dp_tupK da_nil) da_nil)) (dp_callTy call_int1 cs_int (by rfl) L.m_int bt_int (da_cons (dp_cmp (op_eqAll hr.units) os_eq (dp_var 1) dp_int (by rfl)) da_nil)))))) dss_nil)
      (dss_cons (ds_set 2 hN (de_p (dp_lst da_nil)))
      (dss_cons (DS.as (eq3 sForX_eq _ _ _) (ds_for PassesOwn.never (by rfl) (DI.as (eq1 jR1_eq _) (di_range1 (by rfl) L.m_range (da_cons (dp_op op_addAll os_add (dp_callB (call_min2 (by rfl)) cs_min2 (by rfl) L.m_min bt_min (da_cons (dp_var 1) (da_cons (DP.as (eqIx _ _) (dp_ix (dp_var 0) dp_int)) da_nil))) dp_int) da_nil))) (dg_name 3 hN) (dss_one (ds_expr (de_mthR PySem.F.plainAttrs_list PySem.F.slot_list_extend PySem.F.type_list_extend mt_extend xs_extend 2 (dae_e (de_p (DP.as (eq5 pLcX_eq _ _ _ _ _) (dp_lc (by rfl) hN (di_seq (dp_callG (okR_takings L d) (hr.mono (show _ ≤ 1 + d by omega)) (by rfl) L.g_takings L.F_takings.kp pass0 (da_cons (dp_sl (dp_var 0) (do_some dp_int) do_none) (da_cons (dp_op op_sub os_sub (dp_var 1) (dp_var 3)) da_nil)))) (blkOk_by (own := [("rest", 4)]) (by kernel_rfl)) (fun _ _ _ _ _ => (dg_name 4 hN)) (fun _ _ _ _ _ => dts_nil) (fun _ _ _ _ _ => (dp_op op_addAll os_addKey (dp_tupK (da_cons (dp_op op_sub os_sub (DP.as (eqIx _ _) (dp_ix (dp_var 0) dp_int)) (dp_var 3)) da_nil)) (dp_var 4)))))) dae_nil))))))
      (dss_one (ds_ret (de_mv 2))))))
theorem ok_takings (L : Facts K mg) : GOk P w K mg base CX0 11 L.f_takings ["rooms", "many"] (spOf K 2 [false, false] DCU.cf_takings) := DCU.cf_takings_eq ▸ okR_takings L 10
theorem ok_how_many_unlike (L : Facts K mg) : GOk P w K mg base CX0 12 L.f_how_many_unlike ["job"] (spOf K 1 [false] DCU.cf_how_many_unlike) := DCU.cf_how_many_unlike_eq ▸
  cf_okG L.F_how_many_unlike b_how_many_unlike sc_how_many_unlike rfl rfl fun cdv A outer s H E hr => have hN := (sc_how_many_unlike).nd
    (dss_cons (ds_set 1 hN (de_p (dp_dispT hr.units (dp_callTy call_tuple_of cs_tupleK (by rfl) L.m_tuple bt_tuple (da_cons (DP.as (eq5 pLcX_eq _ _ _ _ _) (dp_lc (by rfl) hN (di_seq (dp_callG (ok_alike_places L) (hr.mono (by decide)) (by rfl) L.g_alike_places L.F_alike_places.kp pass0 (da_cons (dp_var 0) da_nil))) (blkOk_by (own := [("some", 2)]) (by kernel_rfl)) (fun _ _ _ _ _ => (dg_name 2 hN)) (fun _ _ _ _ _ => dts_nil) (fun _ _ _ _ _ => (dp_callB call_len cs_len (by rfl) L.m_len bt_len (da_cons (dp_var 2) da_nil))))) da_nil)) dp_int)))
      (dss_cons (DS.as (eq3 sForX_eq _ _ _) (ds_for PassesOwn.never (by rfl) (di_seq (dp_callG (ok_alike_works L) (hr.mono (by decide)) (by rfl) L.g_alike_works L.F_alike_works.kp pass0 (da_cons (dp_var 0) da_nil))) (dg_name 2 hN) (dss_cons (ds_set 3 hN (de_p dp_dnewT))
      (ds_lck 1 (dss_cons (DS.as (eq3 sForX_eq _ _ _) (ds_for PassesOwn.never (by rfl) (di_lk (dp_var 1)) (dg_name 4 hN) (dss_one (DS.as (eq3 sForX_eq _ _ _) (ds_for PassesOwn.never (by rfl) (di_seq (dp_callG (ok_takings L) (hr.mono (by decide)) (by rfl) L.g_takings L.F_takings.kp pass0 (da_cons (dp_wk (dp_var 4)) (da_cons (dp_callB call_len cs_len (by rfl) L.m_len bt_len (da_cons (dp_var 2) da_nil)) da_nil)))) (dg_name 5 hN) (dss_one (ds_putK hr.units (de_p (dp_op op_addAll os_add (dp_get2K hr.units (dp_var 3) (dp_var 5) dp_int (by constructor <;> rfl)) (dp_getK hr.units (dp_var 1) (dp_var 4)))) (dpl_var 3) (dp_var 5))))))))
      (dss_one (ds_set 1 hN (de_mv 3))))))))
      (ds_lck 1 (dss_one (ds_ret (de_p (dp_callB (cr_sum (by rfl)) cs_sum (by rfl) L.m_sum bt_sum (da_cons (DP.as (eq5 pLcX_eq _ _ _ _ _) (dp_lc (by rfl) hN (di_lk (dp_var 1)) (blkOk_by (own := [("rooms", 4)]) (by kernel_rfl)) (fun _ _ _ _ _ => (dg_name 4 hN)) (fun _ _ _ _ _ => dts_nil) (fun _ _ _ _ _ => (dp_getK hr.units (dp_var 1) (dp_var 4))))) da_nil))))))))
theorem ok__law_bag (L : Facts K mg) : GOk P w K mg base CX0 1 L.f__law_bag ["script"] (spOf K 1 [false] DCA.cf__law_bag) := DCA.cf__law_bag_eq ▸
  cf_okG L.F__law_bag b__law_bag sc__law_bag rfl rfl fun cdv A outer s H E hr => have hN := (sc__law_bag).nd
    (dss_cons (ds_set 1 hN (de_p dp_int))
      (dss_cons (DS.as (eq3 sForX_eq _ _ _) (ds_for PassesOwn.never (by rfl) (di_seq (dp_var 0)) (dg_name 2 hN) (dss_one (ds_set 1 hN (de_p (dp_op op_mod os_mod (dp_op op_addAll os_add (dp_op op_mulAll os_mul (dp_var 1) dp_int) (dp_var 2)) dp_int))))))
      (dss_one (ds_ret (de_p (dp_lst (da_cons (dp_callTy call_list_of cs_list (by rfl) L.m_list bt_list (da_cons (dp_var 0) da_nil)) (da_cons dp_int (da_cons (dp_var 1) da_nil)))))))))
theorem ok__law_dip (L : Facts K mg) : GOk P w K mg base CX0 1 L.f__law_dip ["bag", "many"] (spOf K 2 [true, false] DCA.cf__law_dip) := DCA.cf__law_dip_eq ▸
  cf_okG L.F__law_dip b__law_dip sc__law_dip rfl rfl fun cdv A outer s H E hr => have hN := (sc__law_dip).nd
    (dss_cons (ds_if (dte_p (DW.dt (dw_and (dt_cmp (op_eqAll hr.units) os_eq (DP.as (eqIx _ _) (dp_ix (dp_var 0) dp_int)) dp_int (by rfl)) (dw_and1 (dt_cmp op_gt os_gt (dp_callB call_len cs_len (by rfl) L.m_len bt_len (da_cons (DP.as (eqIx _ _) (dp_ix (dp_var 0) dp_int)) da_nil)) dp_int (by rfl)))))) (dss_cons (ds_set 2 hN (de_mthP PySem.F.plainAttrs_list PySem.F.slot_list_pop PySem.F.type_list_pop mt_popAt xs_popAt (DPl.as (eq2 plIxX_eq _ _) (dpl_ix (dpl_var 0) dp_int)) (da_cons dp_int da_nil)))
      (dss_cons (ds_if (dte_p (dt_cmp op_lt os_lt (dp_callB call_abs cs_abs (by rfl) L.m_abs bt_abs (da_cons (dp_var 2) da_nil)) (dp_op op_pow os_pow dp_int dp_int) (by rfl))) (dss_one (ds_ret (de_p (dp_op op_mod os_mod (dp_var 2) (dp_var 1))))) dss_nil)
      (dss_one (DS.as (eq3 sStIxX_eq _ _ _) (ds_stIx (de_p (dp_callB call_abs cs_abs (by rfl) L.m_abs bt_abs (da_cons (dp_var 2) da_nil))) (dpl_var 0) dp_int))))) dss_nil)
      (dss_cons (ds_if (dte_p (dt_cmp op_gt os_gt (DP.as (eqIx _ _) (dp_ix (dp_var 0) dp_int)) dp_int (by rfl))) (dss_cons (ds_set 3 hN (de_p (dp_op op_mod os_mod (DP.as (eqIx _ _) (dp_ix (dp_var 0) dp_int)) (dp_var 1))))
      (dss_cons (DS.as (eq3 sStIxX_eq _ _ _) (ds_stIx (de_p (dp_op op_fdivA os_fdiv (DP.as (eqIx _ _) (dp_ix (dp_var 0) dp_int)) (dp_var 1))) (dpl_var 0) dp_int))
      (dss_one (ds_ret (de_mv 3))))) dss_nil)
      (dss_cons (DS.as (eq3 sStIxX_eq _ _ _) (ds_stIx (de_p (dp_op op_mod os_mod (dp_op op_addAll os_add (dp_op op_mulAll os_mul (DP.as (eqIx _ _) (dp_ix (dp_var 0) dp_int)) (DP.as (eqIx _ _) (dp_ix (dp_var 0) dp_int))) dp_int) dp_int)) (dpl_var 0) dp_int))
      (dss_one (ds_ret (de_p (dp_op op_mod os_mod (dp_op op_fdivA os_fdiv (DP.as (eqIx _ _) (dp_ix (dp_var 0) dp_int)) dp_int) (dp_var 1))))))))
theorem ok__law_table (L : Facts K mg) : GOk P w K mg base CX0 2 L.f__law_table ["bag", "many", "most"] (spOf K 3 [true, false, false] DCR.cf__law_table) := DCR.cf__law_table_eq ▸
  cf_okG L.F__law_table b__law_table sc__law_table rfl rfl fun cdv A outer s H E hr => have hN := (sc__law_table).nd
    (dss_cons (ds_set 3 hN (de_cmp op_gt os_gt (de_callG (ok__law_dip L) (hr.mono (by decide)) (by rfl) L.g__law_dip L.F__law_dip.kp pass0 (dae_pl 0 (dae_e (de_p dp_int) dae_nil))) (de_p dp_int) (by rfl)))
      (dss_one (ds_ret (DE.as (eq5 eLcX_eq _ _ _ _ _) (de_lc (E' := E) (by rfl) hN (DI.as (eq1 jR1_eq _) (di_range1 (by rfl) L.m_range (da_cons (dp_var 1) da_nil))) (blkOk_by (own := [("j", 4)]) (by kernel_rfl)) (fun _ _ _ _ _ => (dg_name 4 hN)) (fun _ _ _ _ _ => dts_nil) (fun _ _ _ _ _ => (DE.as (eq5 eLcX_eq _ _ _ _ _) (de_lc (E' := E) (by rfl) hN (DI.as (eq1 jR1_eq _) (di_range1 (by rfl) L.m_range (da_cons (dp_var 1) da_nil))) (blkOk_by (own := [("k", 5)]) (by kernel_rfl)) (fun _ _ _ _ _ => (dg_name 5 hN)) (fun _ _ _ _ _ => dts_nil) (fun _ _ _ _ _ => (de_callG (ok__law_dip L) (hr.mono (by decide)) (by rfl) L.g__law_dip L.F__law_dip.kp pass0 (dae_pl 0 (dae_e (de_p (DP.as (eqIx _ _) (dp_ix (dp_lst (da_cons (dp_op op_addAll os_add (dp_var 2) dp_int) (da_cons dp_int da_nil))) (dp_callTy call_int1 cs_int (by rfl) L.m_int bt_int (da_cons (dp_var 3) da_nil))))) dae_nil))))))))))))
theorem ok__law_by (L : Facts K mg) : GOk P w K mg base CX0 1 L.f__law_by ["table", "rows", "columns"] (spOf K 3 [false, false, false] DCR.cf__law_by) := DCR.cf__law_by_eq ▸
  cf_okG L.F__law_by b__law_by sc__law_by rfl rfl fun cdv A outer s H E hr => have hN := (sc__law_by).nd
    (dss_one (ds_ret (de_p (DP.as (eq5 pLcX_eq _ _ _ _ _) (dp_lc (by rfl) hN (di_seq (dp_var 1)) (blkOk_by (own := [("one", 3)]) (by kernel_rfl)) (fun _ _ _ _ _ => (dg_name 3 hN)) (fun _ _ _ _ _ => dts_nil) (fun _ _ _ _ _ => (DP.as (eq5 pLcX_eq _ _ _ _ _) (dp_lc (by rfl) hN (di_seq (dp_var 2)) (blkOk_by (own := [("other", 4)]) (by kernel_rfl)) (fun _ _ _ _ _ => (dg_name 4 hN)) (fun _ _ _ _ _ => dts_nil) (fun _ _ _ _ _ => (DP.as (eqIx _ _) (dp_ix (DP.as (eqIx _ _) (dp_ix (dp_var 0) (dp_var 3))) (dp_var 4))))))))))))
theorem ok__law_classed (L : Facts K mg) : GOk P w K mg base CX0 3 L.f__law_classed ["bag", "most"] (spOf K 2 [true, false] DCR.cf__law_classed) := DCR.cf__law_classed_eq ▸
  cf_okG L.F__law_classed b__law_classed sc__law_classed rfl rfl fun cdv A outer s H E hr => have hN := (sc__law_classed).nd
    (dss_cons (ds_set 2 hN (de_op op_addAll os_add (de_p dp_int) (de_callG (ok__law_dip L) (hr.mono (by decide)) (by rfl) L.g__law_dip L.F__law_dip.kp pass0 (dae_pl 0 (dae_e (de_mv 1) dae_nil)))))
      (dss_cons (ds_set 3 hN (de_lst (dae_e (de_op op_addAll os_add (de_p dp_int) (de_callG (ok__law_dip L) (hr.mono (by decide)) (by rfl) L.g__law_dip L.F__law_dip.kp pass0 (dae_pl 0 (dae_e (de_mv 2) dae_nil)))) (dae_e (de_op op_addAll os_add (de_p dp_int) (de_callG (ok__law_dip L) (hr.mono (by decide)) (by rfl) L.g__law_dip L.F__law_dip.kp pass0 (dae_pl 0 (dae_e (de_mv 2) dae_nil)))) dae_nil))))
      (dss_cons (DS.as (eqSetLcE _ _ _ _ _ _) (ds_setLcE (E' := E) 4 (by rfl) hN (by decide) (by rfl) (by rfl) (sw_true (by rfl) (by rfl) (by rfl) (by decide +kernel)) (DI.as (eq1 jR1_eq _) (di_range1 (by rfl) L.m_range (da_cons (dp_var 2) da_nil))) (blkOk_by (own := [("k", 10)]) (by kernel_rfl)) (fun _ _ _ _ _ => (dg_name 10 hN)) (fun _ _ _ _ _ => dts_nil) (fun _ _ _ _ _ => (de_callG (ok__law_dip L) (hr.mono (by decide)) (by rfl) L.g__law_dip L.F__law_dip.kp pass0 (dae_pl 0 (dae_e (de_p (DP.as (eqIx _ _) (dp_ix (dp_var 3) dp_int))) dae_nil))))))
      (dss_cons (DS.as (eqSetLcE _ _ _ _ _ _) (ds_setLcE (E' := E) 5 (by rfl) hN (by decide) (by rfl) (by rfl) (sw_true (by rfl) (by rfl) (by rfl) (by decide +kernel)) (DI.as (eq1 jR1_eq _) (di_range1 (by rfl) L.m_range (da_cons (dp_var 2) da_nil))) (blkOk_by (own := [("k", 10)]) (by kernel_rfl)) (fun _ _ _ _ _ => (dg_name 10 hN)) (fun _ _ _ _ _ => dts_nil) (fun _ _ _ _ _ => (de_callG (ok__law_dip L) (hr.mono (by decide)) (by rfl) L.g__law_dip L.F__law_dip.kp pass0 (dae_pl 0 (dae_e (de_p (DP.as (eqIx _ _) (dp_ix (dp_var 3) dp_int))) dae_nil))))))
      (ds_frz 4 (ds_frz 5 (ds_bar (dss_cons (ds_set 6 hN (de_callG (ok__law_by L) (hr.mono (by decide)) (by rfl) L.g__law_by L.F__law_by.kp pass0 (dae_e (de_callG (ok__law_table L) (hr.mono (by decide)) (by rfl) L.g__law_table L.F__law_table.kp pass0 (dae_pl 0 (dae_e (de_mv 2) (dae_e (de_p dp_int) dae_nil)))) (dae_e (de_mv 4) (dae_e (de_mv 4) dae_nil)))))
      (dss_cons (ds_set 7 hN (de_callG (ok__law_by L) (hr.mono (by decide)) (by rfl) L.g__law_by L.F__law_by.kp pass0 (dae_e (de_callG (ok__law_table L) (hr.mono (by decide)) (by rfl) L.g__law_table L.F__law_table.kp pass0 (dae_pl 0 (dae_e (de_mv 2) (dae_e (de_p dp_int) dae_nil)))) (dae_e (de_mv 5) (dae_e (de_mv 5) dae_nil)))))
      (dss_cons (ds_set 8 hN (de_callG (ok__law_by L) (hr.mono (by decide)) (by rfl) L.g__law_by L.F__law_by.kp pass0 (dae_e (de_callG (ok__law_table L) (hr.mono (by decide)) (by rfl) L.g__law_table L.F__law_table.kp pass0 (dae_pl 0 (dae_e (de_mv 2) (dae_e (de_p dp_int) dae_nil)))) (dae_e (de_mv 4) (dae_e (de_mv 5) dae_nil)))))
      (ds_bar (dss_cons (ds_if (dte_cmp (op_eqAll hr.units) os_eq (de_callG (ok__law_dip L) (hr.mono (by decide)) (by rfl) L.g__law_dip L.F__law_dip.kp pass0 (dae_pl 0 (dae_e (de_p dp_int) dae_nil))) (de_p dp_int) (by rfl)) (dss_borC 6 7 8 9 hN (de_callG (ok__law_dip L) (hr.mono (by decide)) (by rfl) L.g__law_dip L.F__law_dip.kp pass0 (dae_pl 0 (dae_e (de_p dp_int) dae_nil)))
      (dss_one (ds_stIxE 9 (de_callG (ok__law_dip L) (hr.mono (by decide)) (by rfl) L.g__law_dip L.F__law_dip.kp pass0 (dae_pl 0 (dae_e (de_p dp_int) dae_nil))) (de_callG (ok__law_dip L) (hr.mono (by decide)) (by rfl) L.g__law_dip L.F__law_dip.kp pass0 (dae_pl 0 (dae_e (de_mv 2) dae_nil))) (de_callG (ok__law_dip L) (hr.mono (by decide)) (by rfl) L.g__law_dip L.F__law_dip.kp pass0 (dae_pl 0 (dae_e (de_mv 2) dae_nil)))))) dss_nil)
      (ds_bar (dss_cons (DS.as (eq3 sForX_eq _ _ _) (ds_for PassesOwn.never (by rfl) (DI.as (eq1 jR1_eq _) (di_range1 (by rfl) L.m_range (da_cons (dp_var 2) da_nil))) (dg_name 10 hN) (dss_cons (DS.as (eq3 sStIxX_eq _ _ _) (ds_stIx (de_p dp_int) (DPl.as (eq2 plIxX_eq _ _) (dpl_ix (dpl_var 6) (dp_var 10))) (dp_var 10)))
      (dss_one (DS.as (eq3 sStIxX_eq _ _ _) (ds_stIx (de_p dp_int) (DPl.as (eq2 plIxX_eq _ _) (dpl_ix (dpl_var 7) (dp_var 10))) (dp_var 10)))))))
      (ds_bar (dss_one (ds_ret (de_p (dp_callTy call_tuple_of cs_tuple (by rfl) L.m_tuple bt_tuple (da_cons (DP.as (eq5 pLcX_eq _ _ _ _ _) (dp_lc (by rfl) hN (di_seq (dp_lst (da_cons (dp_var 6) (da_cons (dp_var 7) (da_cons (dp_var 8) da_nil))))) (blkOk_by (own := [("square", 11)]) (by kernel_rfl)) (fun _ _ _ _ _ => (dg_name 11 hN)) (fun _ _ _ _ _ => dts_nil) (fun _ _ _ _ _ => (dp_callTy call_tuple_of cs_tuple (by rfl) L.m_tuple bt_tuple (da_cons (DP.as (eq5 pLcX_eq _ _ _ _ _) (dp_lc (by rfl) hN (di_seq (dp_var 11)) (blkOk_by (own := [("row", 12)]) (by kernel_rfl)) (fun _ _ _ _ _ => (dg_name 12 hN)) (fun _ _ _ _ _ => dts_nil) (fun _ _ _ _ _ => (dp_callTy call_tuple_of cs_tupleF (by rfl) L.m_tuple bt_tuple (da_cons (dp_var 12) da_nil))))) da_nil))))) da_nil))))))))))))))))))))
theorem ok__law_moved (L : Facts K mg) : GOk P w K mg base CX0 1 L.f__law_moved ["square", "one", "other"] (spOf K 3 [false, false, false] DCR.cf__law_moved) := DCR.cf__law_moved_eq ▸
  cf_okG L.F__law_moved b__law_moved sc__law_moved rfl rfl fun cdv A outer s H E hr => have hN := (sc__law_moved).nd
    (dss_cons (DS.as (eq3 sForX_eq _ _ _) (ds_for PassesOwn.never (by rfl) (DI.as (eq1 jR1_eq _) (di_range1 (by rfl) L.m_range (da_cons (dp_callB call_len cs_len (by rfl) L.m_len bt_len (da_cons (dp_var 0) da_nil)) da_nil))) (dg_name 3 hN) (dss_one (DS.as (eq3 sForX_eq _ _ _) (ds_for PassesOwn.never (by rfl) (DI.as (eq1 jR1_eq _) (di_range1 (by rfl) L.m_range (da_cons (dp_callB call_len cs_len (by rfl) L.m_len bt_len (da_cons (dp_var 0) da_nil)) da_nil))) (dg_name 4 hN) (dss_cons (ds_set 5 hN (de_p (dp_lst (da_cons (dp_flip hr.units (dp_var 1) (dp_var 2) (dp_var 2) (dp_var 1) (dp_var 3) (dp_var 3) (by constructor <;> rfl)) (da_cons (dp_flip hr.units (dp_var 1) (dp_var 2) (dp_var 2) (dp_var 1) (dp_var 4) (dp_var 4) (by constructor <;> rfl)) da_nil)))))
      (dss_one (ds_if (dte_p (dt_cmp (op_neAll hr.units) os_ne (DP.as (eqIx _ _) (dp_ix (DP.as (eqIx _ _) (dp_ix (dp_var 0) (dp_var 3))) (dp_var 4))) (DP.as (eqIx _ _) (dp_ix (DP.as (eqIx _ _) (dp_ix (dp_var 0) (DP.as (eqIx _ _) (dp_ix (dp_var 5) dp_int)))) (DP.as (eqIx _ _) (dp_ix (dp_var 5) dp_int)))) (by rfl))) (dss_one (ds_ret (de_p dp_bl))) dss_nil))))))))
      (dss_one (ds_ret (de_p dp_bl))))
theorem ok__law_sets (L : Facts K mg) : GOk P w K mg base CX0 1 L.f__law_sets ["many", "unlike"] (spOf K 2 [false, false] DCR.cf__law_sets) := DCR.cf__law_sets_eq ▸
  cf_okG L.F__law_sets b__law_sets sc__law_sets rfl rfl fun cdv A outer s H E hr => have hN := (sc__law_sets).nd
    (dss_cons (ds_set 2 hN (de_p (dp_lst da_nil)))
      (dss_cons (DS.as (eq3 sForX_eq _ _ _) (ds_for PassesOwn.never (by rfl) (DI.as (eq1 jR1_eq _) (di_range1 (by rfl) L.m_range (da_cons (dp_var 0) da_nil))) (dg_name 3 hN) (dss_cons (ds_set 4 hN (de_p (dp_callTy call_tuple_of cs_tuple (by rfl) L.m_tuple bt_tuple (da_cons (DP.as (eq5 pLcX_eq _ _ _ _ _) (dp_lc (by rfl) hN (DI.as (eq1 jR1_eq _) (di_range1 (by rfl) L.m_range (da_cons (dp_var 0) da_nil))) (blkOk_by (own := [("k", 5)]) (by kernel_rfl)) (fun _ _ _ _ _ => (dg_name 5 hN)) (fun _ _ _ _ _ => (dts_one (DW.dt (dw_or (dt_cmp (op_eqAll hr.units) os_eq (dp_var 5) (dp_var 3) (by rfl)) (dw_or1 (dt_cmp (op_notInD hr.units65) os_inMn (dp_tup (da_cons (dp_callB (call_min2 (by rfl)) cs_min2 (by rfl) L.m_min bt_min (da_cons (dp_var 5) (da_cons (dp_var 3) da_nil))) (da_cons (dp_callB (call_max2 (by rfl)) cs_max2 (by rfl) L.m_max bt_max (da_cons (dp_var 5) (da_cons (dp_var 3) da_nil))) da_nil))) (dp_var 1) (by rfl))))))) (fun _ _ _ _ _ => (dp_var 5)))) da_nil))))
      (dss_one (ds_if (dte_p (dt_cmp (op_notInD hr.units65) os_inMn (dp_var 4) (dp_var 2) (by rfl))) (dss_one (ds_expr (de_mthR PySem.F.plainAttrs_list PySem.F.slot_list_append PySem.F.type_list_append mt_append ms_append 2 (dae_e (de_mv 4) dae_nil)))) dss_nil)))))
      (dss_one (ds_ret (de_mv 2)))))
theorem ok__law_pairs (L : Facts K mg) : GOk P w K mg base CX0 1 L.f__law_pairs ["many"] (spOf K 1 [false] DCR.cf__law_pairs) := DCR.cf__law_pairs_eq ▸
  cf_okG L.F__law_pairs b__law_pairs sc__law_pairs rfl rfl fun cdv A outer s H E hr => have hN := (sc__law_pairs).nd
    (dss_cons (ds_set 1 hN (de_p (dp_lst da_nil)))
      (dss_cons (DS.as (eq3 sForX_eq _ _ _) (ds_for PassesOwn.never (by rfl) (DI.as (eq1 jR1_eq _) (di_range1 (by rfl) L.m_range (da_cons (dp_var 0) da_nil))) (dg_name 2 hN) (dss_one (ds_expr (de_mthR PySem.F.plainAttrs_list PySem.F.slot_list_extend PySem.F.type_list_extend mt_extend xs_extend 1 (dae_e (de_p (DP.as (eq5 pLcX_eq _ _ _ _ _) (dp_lc (by rfl) hN (DI.as (eq1 jR2_eq _) (di_range2 (by rfl) L.m_range (da_cons (dp_op op_addAll os_add (dp_var 2) dp_int) (da_cons (dp_var 0) da_nil)))) (blkOk_by (own := [("other", 3)]) (by kernel_rfl)) (fun _ _ _ _ _ => (dg_name 3 hN)) (fun _ _ _ _ _ => dts_nil) (fun _ _ _ _ _ => (dp_tup (da_cons (dp_var 2) (da_cons (dp_var 3) da_nil))))))) dae_nil))))))
      (dss_one (ds_ret (de_mv 1)))))
theorem ok__law_alike_works (L : Facts K mg) : GOk P w K mg base CX0 2 L.f__law_alike_works ["job"] (spOf K 1 [false] DCR.cf__law_alike_works) := DCR.cf__law_alike_works_eq ▸
  cf_okG L.F__law_alike_works b__law_alike_works sc__law_alike_works rfl rfl fun cdv A outer s H E hr => have hN := (sc__law_alike_works).nd
    (dss_cons (ds_set 1 hN (de_p (dp_lst da_nil)))
      (dss_cons (DS.as (eq3 sForX_eq _ _ _) (ds_for PassesOwn.never (by rfl) (di_seq (dp_callG (ok__law_pairs L) (hr.mono (by decide)) (by rfl) L.g__law_pairs L.F__law_pairs.kp pass0 (da_cons (dp_callB call_len cs_len (by rfl) L.m_len bt_len (da_cons (DP.as (eqIx _ _) (dp_ix (dp_var 0) dp_int)) da_nil)) da_nil))) (dg_tup (by rfl) (dgs_cons (dg_name 2 hN) (dgs_cons (dg_name 3 hN) dgs_nil))) (dss_one (ds_if (dte_p (DW.dt (dw_or (dt_cmp (op_neAll hr.units) os_ne (DP.as (eqIx _ _) (dp_ix (DP.as (eqIx _ _) (dp_ix (dp_var 0) dp_int)) (dp_var 2))) (DP.as (eqIx _ _) (dp_ix (DP.as (eqIx _ _) (dp_ix (dp_var 0) dp_int)) (dp_var 3))) (by rfl)) (dw_or1 (dt_val (dp_callG (ok__law_moved L) (hr.mono (by decide)) (by rfl) L.g__law_moved L.F__law_moved.kp pass0 (da_cons (DP.as (eqIx _ _) (dp_ix (dp_var 0) dp_int)) (da_cons (dp_var 2) (da_cons (dp_var 3) da_nil))))))))) (dss_one (ds_expr (de_mthR PySem.F.plainAttrs_list PySem.F.slot_list_append PySem.F.type_list_append mt_append ms_append 1 (dae_e (de_p (dp_tup (da_cons (dp_var 2) (da_cons (dp_var 3) da_nil)))) dae_nil)))) dss_nil))))
      (dss_one (ds_ret (de_p (dp_callG (ok__law_sets L) (hr.mono (by decide)) (by rfl) L.g__law_sets L.F__law_sets.kp pass0 (da_cons (dp_callB call_len cs_len (by rfl) L.m_len bt_len (da_cons (DP.as (eqIx _ _) (dp_ix (dp_var 0) dp_int)) da_nil)) (da_cons (dp_var 1) da_nil))))))))
theorem ok__law_alike_places (L : Facts K mg) : GOk P w K mg base CX0 2 L.f__law_alike_places ["job"] (spOf K 1 [false] DCR.cf__law_alike_places) := DCR.cf__law_alike_places_eq ▸
  cf_okG L.F__law_alike_places b__law_alike_places sc__law_alike_places rfl rfl fun cdv A outer s H E hr => have hN := (sc__law_alike_places).nd
    (dss_cons (ds_set 1 hN (de_p (dp_lst da_nil)))
      (dss_cons (DS.as (eq3 sForX_eq _ _ _) (ds_for PassesOwn.never (by rfl) (di_seq (dp_callG (ok__law_pairs L) (hr.mono (by decide)) (by rfl) L.g__law_pairs L.F__law_pairs.kp pass0 (da_cons (dp_callB call_len cs_len (by rfl) L.m_len bt_len (da_cons (DP.as (eqIx _ _) (dp_ix (dp_var 0) dp_int)) da_nil)) da_nil))) (dg_tup (by rfl) (dgs_cons (dg_name 2 hN) (dgs_cons (dg_name 3 hN) dgs_nil))) (dss_one (ds_if (dte_p (DW.dt (dw_or (dt_cmp (op_neAll hr.units) os_ne (DP.as (eq5 pLcX_eq _ _ _ _ _) (dp_lc (by rfl) hN (di_seq (DP.as (eqIx _ _) (dp_ix (dp_var 0) dp_int))) (blkOk_by (own := [("row", 4)]) (by kernel_rfl)) (fun _ _ _ _ _ => (dg_name 4 hN)) (fun _ _ _ _ _ => (dts_one (dt_cmp (op_neAll hr.units) os_ne (DP.as (eqIx _ _) (dp_ix (dp_var 4) (dp_var 2))) (DP.as (eqIx _ _) (dp_ix (dp_var 4) (dp_var 3))) (by rfl)))) (fun _ _ _ _ _ => (dp_var 4)))) (dp_lst da_nil) (by rfl)) (dw_or1 (dt_val (dp_callG (ok__law_moved L) (hr.mono (by decide)) (by rfl) L.g__law_moved L.F__law_moved.kp pass0 (da_cons (DP.as (eqIx _ _) (dp_ix (dp_var 0) dp_int)) (da_cons (dp_var 2) (da_cons (dp_var 3) da_nil))))))))) (dss_one (ds_expr (de_mthR PySem.F.plainAttrs_list PySem.F.slot_list_append PySem.F.type_list_append mt_append ms_append 1 (dae_e (de_p (dp_tup (da_cons (dp_var 2) (da_cons (dp_var 3) da_nil)))) dae_nil)))) dss_nil))))
      (dss_one (ds_ret (de_p (dp_callG (ok__law_sets L) (hr.mono (by decide)) (by rfl) L.g__law_sets L.F__law_sets.kp pass0 (da_cons (dp_callB call_len cs_len (by rfl) L.m_len bt_len (da_cons (DP.as (eqIx _ _) (dp_ix (dp_var 0) dp_int)) da_nil)) (da_cons (dp_var 1) da_nil))))))))
theorem ok__law_orders (L : Facts K mg) : GOk P w K mg base CX0 1 L.f__law_orders ["many"] (spOf K 1 [false] cf__law_orders) := cf__law_orders_eq ▸
  cf_okG L.F__law_orders b__law_orders sc__law_orders rfl rfl fun cdv A outer s H E hr => have hN := (sc__law_orders).nd
    (dss_cons (ds_set 1 hN (de_p (dp_lst (da_cons (dp_tup da_nil) da_nil))))
      (dss_cons (DS.as (eq3 sForX_eq _ _ _) (ds_for PassesOwn.never (by rfl) (DI.as (eq1 jR1_eq _) (di_range1 (by rfl) L.m_range (da_cons (dp_var 0) da_nil))) (dg_name 2 hN) (dss_cons (ds_set 3 hN (de_p (dp_lst da_nil)))
      (ds_frz 1 (dss_cons (DS.as (eq3 sForX_eq _ _ _) (ds_for PassesOwn.never (by rfl) (di_seq (dp_var 1)) (dg_name 4 hN) (dss_one (ds_expr (de_mthR PySem.F.plainAttrs_list PySem.F.slot_list_extend PySem.F.type_list_extend mt_extend xs_extend 3 (dae_e (de_p (DP.as (eq5 pLcX_eq _ _ _ _ _) (dp_lc (by rfl) hN (DI.as (eq1 jR1_eq _) (di_range1 (by rfl) L.m_range (da_cons (dp_var 0) da_nil))) (blkOk_by (own := [("place", 5)]) (by kernel_rfl)) (fun _ _ _ _ _ => (dg_name 5 hN)) (fun _ _ _ _ _ => (dts_one (dt_cmp op_notIn_seq os_in (dp_var 5) (dp_var 4) (by rfl)))) (fun _ _ _ _ _ => (dp_op op_addAll os_add (dp_var 4) (dp_tup (da_cons (dp_var 5) da_nil))))))) dae_nil))))))
      (dss_one (ds_set 1 hN (de_mv 3))))))))
      (dss_one (ds_ret (de_mv 1)))))
theorem ok__law_home (L : Facts K mg) : GOk P w K mg base CX0 1 L.f__law_home ["sets", "one"] (spOf K 2 [false, false] cf__law_home) := cf__law_home_eq ▸
  cf_okG L.F__law_home b__law_home sc__law_home rfl rfl fun cdv A outer s H E hr => have hN := (sc__law_home).nd
    (dss_one (ds_ret (de_p (DP.as (eqIx _ _) (dp_ix (DP.as (eq5 pLcX_eq _ _ _ _ _) (dp_lc (by rfl) hN (DI.as (eq1 jR1_eq _) (di_range1 (by rfl) L.m_range (da_cons (dp_callB call_len cs_len (by rfl) L.m_len bt_len (da_cons (dp_var 0) da_nil)) da_nil))) (blkOk_by (own := [("k", 2)]) (by kernel_rfl)) (fun _ _ _ _ _ => (dg_name 2 hN)) (fun _ _ _ _ _ => (dts_one (dt_cmp op_in_seq os_in (dp_var 1) (DP.as (eqIx _ _) (dp_ix (dp_var 0) (dp_var 2))) (by rfl)))) (fun _ _ _ _ _ => (dp_var 2)))) dp_int)))))
theorem ok__law_gone_through (L : Facts K mg) : GOk P w K mg base CX0 2 L.f__law_gone_through ["works", "places", "many"] (spOf K 3 [false, false, false] cf__law_gone_through) := cf__law_gone_through_eq ▸
  cf_okG L.F__law_gone_through b__law_gone_through sc__law_gone_through rfl rfl fun cdv A outer s H E hr => have hN := (sc__law_gone_through).nd
    (dss_cons (ds_set 3 hN (de_p dp_newN))
      (dss_cons (DS.as (eq3 sForX_eq _ _ _) (ds_for PassesOwn.never (by rfl) (di_seq (dp_callG (ok__law_orders L) (hr.mono (by decide)) (by rfl) L.g__law_orders L.F__law_orders.kp pass0 (da_cons (dp_var 2) da_nil))) (dg_name 4 hN) (dss_cons (DS.as (eqSetLc _ _ _ _ _ _) (ds_setLc 5 (by rfl) hN (by decide) (by rfl) (by rfl) (sw_true (by rfl) (by rfl) (by rfl) (by decide +kernel)) (DI.as (eq1 jR1_eq _) (di_range1 (by rfl) L.m_range (da_cons (dp_var 2) da_nil))) (blkOk_by (own := [("k", 6)]) (by kernel_rfl)) (fun _ _ _ _ _ => (dg_name 6 hN)) (fun _ _ _ _ _ => dts_nil) (fun _ _ _ _ _ => (dp_tup (da_cons (dp_callG (ok__law_home L) (hr.mono (by decide)) (by rfl) L.g__law_home L.F__law_home.kp pass0 (da_cons (dp_var 0) (da_cons (dp_var 6) da_nil))) (da_cons (dp_callG (ok__law_home L) (hr.mono (by decide)) (by rfl) L.g__law_home L.F__law_home.kp pass0 (da_cons (dp_var 1) (da_cons (DP.as (eqIx _ _) (dp_ix (dp_var 4) (dp_var 6))) da_nil))) da_nil))))))
      (dss_one (ds_setN hr.units (de_p dp_bl) (dpl_var 3) (dp_callTy call_tuple_of cs_tuple (by rfl) L.m_tuple bt_tuple (da_cons (dp_callB (cr_sortD hr.units) cs_sortedI (by rfl) L.m_sorted bt_sorted (da_cons (dp_var 5) da_nil)) da_nil)))))))
      (dss_one (ds_ret (de_p (dp_callB call_lenN cs_lenN (by rfl) L.m_len bt_len (da_cons (dp_var 3) da_nil)))))))
theorem okR__law_dealt (L : Facts K mg) : ∀ d : Nat, GOk P w K mg base CX0 (1 + d) L.f__law_dealt ["known", "sizes", "rooms", "first"] (spOf K 4 [true, false, false, false] (cfR__law_dealt d))
  | 0 => cf_okG L.F__law_dealt b__law_dealt sc__law_dealt rfl rfl fun _ _ _ _ _ _ _ => dss_false
  | d + 1 => cfR__law_dealt_succ d ▸
  cf_okG L.F__law_dealt b__law_dealt sc__law_dealt rfl rfl fun cdv A outer s H E hr => have hN := (sc__law_dealt).nd
    (dss_cons (ds_if (dte_p (dt_cmp (op_eqAll hr.units) os_eq (dp_var 1) (dp_tup da_nil) (by rfl))) (dss_one (ds_ret (de_p dp_int))) dss_nil)
      (dss_cons (ds_if (dte_p (dt_cmp (op_eqAll hr.units) os_eq (DP.as (eqIx _ _) (dp_ix (dp_var 1) dp_int)) dp_int (by rfl))) (dss_one (ds_ret (de_callG (okR__law_dealt L d) (hr.mono (show _ ≤ 1 + d by omega)) (by rfl) L.g__law_dealt L.F__law_dealt.kp pass0 (dae_pl 0 (dae_e (de_p (dp_sl (dp_var 1) (do_some dp_int) do_none)) (dae_e (de_mv 2) (dae_e (de_p dp_int) dae_nil))))))) dss_nil)
      (dss_cons (ds_set 4 hN (de_p (dp_tup (da_cons (dp_var 1) (da_cons (dp_var 2) (da_cons (dp_var 3) da_nil))))))
      (dss_cons (ds_if (dte_p (dt_cmp (op_notInN hr.units) os_inN (dp_var 4) (dp_var 0) (by rfl))) (dss_cons (ds_setN hr.units (de_p dp_int) (dpl_var 0) (dp_var 4))
      (dss_one (DS.as (eq3 sForX_eq _ _ _) (ds_for PassesOwn.never (by rfl) (DI.as (eq1 jR2_eq _) (di_range2 (by rfl) L.m_range (da_cons (dp_var 3) (da_cons (dp_callB call_len cs_len (by rfl) L.m_len bt_len (da_cons (dp_var 2) da_nil)) da_nil)))) (dg_name 5 hN) (dss_one (ds_if (dte_p (dt_cmp op_gt os_gt (DP.as (eqIx _ _) (dp_ix (dp_var 2) (dp_var 5))) dp_int (by rfl))) (dss_cons (ds_set 6 hN (de_p (dp_op op_addAll os_add (dp_op op_addAll os_add (dp_sl (dp_var 2) do_none (do_some (dp_var 5))) (dp_tup (da_cons (dp_op op_sub os_sub (DP.as (eqIx _ _) (dp_ix (dp_var 2) (dp_var 5))) dp_int) da_nil))) (dp_sl (dp_var 2) (do_some (dp_op op_addAll os_add (dp_var 5) dp_int)) do_none))))
      (dss_one (ds_setN hr.units (de_op op_addAll os_add (de_p (dp_getN hr.units (dp_var 0) (dp_var 4))) (de_callG (okR__law_dealt L d) (hr.mono (show _ ≤ 1 + d by omega)) (by rfl) L.g__law_dealt L.F__law_dealt.kp pass0 (dae_pl 0 (dae_e (de_p (dp_op op_addAll os_add (dp_tup (da_cons (dp_op op_sub os_sub (DP.as (eqIx _ _) (dp_ix (dp_var 1) dp_int)) dp_int) da_nil)) (dp_sl (dp_var 1) (do_some dp_int) do_none))) (dae_e (de_mv 6) (dae_e (de_mv 5) dae_nil)))))) (dpl_var 0) (dp_var 4)))) dss_nil)))))) dss_nil)
      (dss_one (ds_ret (de_p (dp_getN hr.units (dp_var 0) (dp_var 4)))))))))
theorem ok__law_dealt (L : Facts K mg) : GOk P w K mg base CX0 19 L.f__law_dealt ["known", "sizes", "rooms", "first"] (spOf K 4 [true, false, false, false] cf__law_dealt) := cf__law_dealt_eq ▸ okR__law_dealt L 18
theorem ok__law_other_job (L : Facts K mg) : GOk P w K mg base CX0 2 L.f__law_other_job ["bag", "job"] (spOf K 2 [true, false] DCR.cf__law_other_job) := DCR.cf__law_other_job_eq ▸
  cf_okG L.F__law_other_job b__law_other_job sc__law_other_job rfl rfl fun cdv A outer s H E hr => have hN := (sc__law_other_job).nd
    (dss_cons (DS.as (eqSetLc _ _ _ _ _ _) (ds_setLc 2 (by rfl) hN (by decide) (by rfl) (by rfl) (sw_true (by rfl) (by rfl) (by rfl) (by decide +kernel)) (di_seq (dp_var 1)) (blkOk_by (own := [("square", 8)]) (by kernel_rfl)) (fun _ _ _ _ _ => (dg_name 8 hN)) (fun _ _ _ _ _ => dts_nil) (fun _ _ _ _ _ => (DP.as (eq5 pLcX_eq _ _ _ _ _) (dp_lc (by rfl) hN (di_seq (dp_var 8)) (blkOk_by (own := [("row", 6)]) (by kernel_rfl)) (fun _ _ _ _ _ => (dg_name 6 hN)) (fun _ _ _ _ _ => dts_nil) (fun _ _ _ _ _ => (dp_callTy call_list_of cs_list (by rfl) L.m_list bt_list (da_cons (dp_var 6) da_nil))))))))
      (dss_cons (ds_set 3 hN (de_p (dp_callB call_len cs_len (by rfl) L.m_len bt_len (da_cons (DP.as (eqIx _ _) (dp_ix (dp_var 1) dp_int)) da_nil))))
      (dss_cons (ds_forRE PassesOwn.never (by rfl) (by rfl) L.m_range (de_op op_addAll os_add (de_p dp_int) (de_callG (ok__law_dip L) (hr.mono (by decide)) (by rfl) L.g__law_dip L.F__law_dip.kp pass0 (dae_pl 0 (dae_e (de_p dp_int) dae_nil)))) (dg_name 4 hN) (dss_cons (ds_set 5 hN (de_callG (ok__law_dip L) (hr.mono (by decide)) (by rfl) L.g__law_dip L.F__law_dip.kp pass0 (dae_pl 0 (dae_e (de_p dp_int) dae_nil))))
      (dss_cons (ds_par 6 7 (by rfl) hN (dae_e (de_callG (ok__law_dip L) (hr.mono (by decide)) (by rfl) L.g__law_dip L.F__law_dip.kp pass0 (dae_pl 0 (dae_e (de_mv 3) dae_nil))) (dae_e (de_callG (ok__law_dip L) (hr.mono (by decide)) (by rfl) L.g__law_dip L.F__law_dip.kp pass0 (dae_pl 0 (dae_e (de_mv 3) dae_nil))) dae_nil)))
      (dss_one (ds_if (dte_p (DW.dt (dw_or (dt_cmp (op_eqAll hr.units) os_eq (dp_var 5) dp_int (by rfl)) (dw_or1 (dt_cmp (op_neAll hr.units) os_ne (dp_var 6) (dp_var 7) (by rfl)))))) (dss_one (DS.as (eq3 sStIxX_eq _ _ _) (ds_stIx (de_callG (ok__law_dip L) (hr.mono (by decide)) (by rfl) L.g__law_dip L.F__law_dip.kp pass0 (dae_pl 0 (dae_e (de_p dp_int) dae_nil))) (DPl.as (eq2 plIxX_eq _ _) (dpl_ix (DPl.as (eq2 plIxX_eq _ _) (dpl_ix (dpl_var 2) (dp_var 5))) (dp_var 6))) (dp_var 7)))) dss_nil)))))
      (dss_cons (ds_if (dte_cmp (op_eqAll hr.units) os_eq (de_callG (ok__law_dip L) (hr.mono (by decide)) (by rfl) L.g__law_dip L.F__law_dip.kp pass0 (dae_pl 0 (dae_e (de_p dp_int) dae_nil))) (de_p dp_int) (by rfl)) (dss_one (DS.as (eq3 sStIxX_eq _ _ _) (ds_stIx (DE.as (eq5 eLcX_eq _ _ _ _ _) (de_lc (E' := E) (by rfl) hN (DI.as (eq1 jR1_eq _) (di_range1 (by rfl) L.m_range (da_cons (dp_var 3) da_nil))) (blkOk_by (own := [("j", 9)]) (by kernel_rfl)) (fun _ _ _ _ _ => (dg_name 9 hN)) (fun _ _ _ _ _ => dts_nil) (fun _ _ _ _ _ => (DE.as (eq5 eLcX_eq _ _ _ _ _) (de_lc (E' := E) (by rfl) hN (DI.as (eq1 jR1_eq _) (di_range1 (by rfl) L.m_range (da_cons (dp_var 3) da_nil))) (blkOk_by (own := [("k", 10)]) (by kernel_rfl)) (fun _ _ _ _ _ => (dg_name 10 hN)) (fun _ _ _ _ _ => dts_nil) (fun _ _ _ _ _ => (de_callG (ok__law_dip L) (hr.mono (by decide)) (by rfl) L.g__law_dip L.F__law_dip.kp pass0 (dae_pl 0 (dae_e (de_p dp_int) dae_nil))))))))) (dpl_var 2) dp_int))) dss_nil)
      (dss_one (ds_ret (de_p (dp_callTy call_tuple_of cs_tuple (by rfl) L.m_tuple bt_tuple (da_cons (DP.as (eq5 pLcX_eq _ _ _ _ _) (dp_lc (by rfl) hN (di_seq (dp_var 2)) (blkOk_by (own := [("square", 8)]) (by kernel_rfl)) (fun _ _ _ _ _ => (dg_name 8 hN)) (fun _ _ _ _ _ => dts_nil) (fun _ _ _ _ _ => (dp_callTy call_tuple_of cs_tuple (by rfl) L.m_tuple bt_tuple (da_cons (DP.as (eq5 pLcX_eq _ _ _ _ _) (dp_lc (by rfl) hN (di_seq (dp_var 8)) (blkOk_by (own := [("row", 6)]) (by kernel_rfl)) (fun _ _ _ _ _ => (dg_name 6 hN)) (fun _ _ _ _ _ => dts_nil) (fun _ _ _ _ _ => (dp_callTy call_tuple_of cs_tupleF (by rfl) L.m_tuple bt_tuple (da_cons (dp_var 6) da_nil))))) da_nil))))) da_nil)))))))))
theorem ok_law (L : Facts K mg) : GOk P w K mg base CX0 20 L.f_law ["script"] (spOf K 1 [false] cf_law) := cf_law_eq ▸
  cf_okG L.F_law b_law sc_law rfl rfl fun cdv A outer s H E hr => have hN := (sc_law).nd
    (dss_cons (ds_set 1 hN (de_p (dp_callG (ok__law_bag L) (hr.mono (by decide)) (by rfl) L.g__law_bag L.F__law_bag.kp pass0 (da_cons (dp_var 0) da_nil))))
      (dss_cons (ds_set 2 hN (de_callG (ok__law_classed L) (hr.mono (by decide)) (by rfl) L.g__law_classed L.F__law_classed.kp pass0 (dae_pl 1 (dae_e (de_p dp_int) dae_nil))))
      (dss_cons (ds_set 3 hN (de_callG (ok__law_other_job L) (hr.mono (by decide)) (by rfl) L.g__law_other_job L.F__law_other_job.kp pass0 (dae_pl 1 (dae_e (de_mv 2) dae_nil))))
      (dss_cons (DS.as (eq3 sForX_eq _ _ _) (ds_for PassesOwn.never (by rfl) (di_seq (dp_lst (da_cons (dp_var 2) (da_cons (dp_var 3) (da_cons (dp_var 2) da_nil))))) (dg_name 4 hN) (dss_cons (ds_set 5 hN (de_p (dp_callG (ok__law_alike_works L) (hr.mono (by decide)) (by rfl) L.g__law_alike_works L.F__law_alike_works.kp pass0 (da_cons (dp_var 4) da_nil))))
      (dss_cons (ds_set 6 hN (de_p (dp_callG (ok__law_alike_places L) (hr.mono (by decide)) (by rfl) L.g__law_alike_places L.F__law_alike_places.kp pass0 (da_cons (dp_var 4) da_nil))))
      (dss_cons (ds_set 7 hN (de_callG (ok__law_dealt L) (hr.mono (by decide)) (by rfl) L.g__law_dealt L.F__law_dealt.kp pass0 (dae_e (de_p dp_newN) (dae_e (de_p (dp_callTy call_tuple_of cs_tuple (by rfl) L.m_tuple bt_tuple (da_cons (DP.as (eq5 pLcX_eq _ _ _ _ _) (dp_lc (by rfl) hN (di_seq (dp_var 5)) (blkOk_by (own := [("some", 8)]) (by kernel_rfl)) (fun _ _ _ _ _ => (dg_name 8 hN)) (fun _ _ _ _ _ => dts_nil) (fun _ _ _ _ _ => (dp_callB call_len cs_len (by rfl) L.m_len bt_len (da_cons (dp_var 8) da_nil))))) da_nil))) (dae_e (de_p (dp_callTy call_tuple_of cs_tuple (by rfl) L.m_tuple bt_tuple (da_cons (DP.as (eq5 pLcX_eq _ _ _ _ _) (dp_lc (by rfl) hN (di_seq (dp_var 6)) (blkOk_by (own := [("some", 8)]) (by kernel_rfl)) (fun _ _ _ _ _ => (dg_name 8 hN)) (fun _ _ _ _ _ => dts_nil) (fun _ _ _ _ _ => (dp_callB call_len cs_len (by rfl) L.m_len bt_len (da_cons (dp_var 8) da_nil))))) da_nil))) (dae_e (de_p dp_int) dae_nil))))))
      (dss_cons (ds_if (dte_p (DW.dt (dw_and (dt_cmp op_lt os_lt (dp_callB call_len cs_len (by rfl) L.m_len bt_len (da_cons (DP.as (eqIx _ _) (dp_ix (dp_var 4) dp_int)) da_nil)) dp_int (by rfl)) (dw_and1 (dt_cmp (op_neAll hr.units) os_ne (dp_var 7) (dp_callG (ok__law_gone_through L) (hr.mono (by decide)) (by rfl) L.g__law_gone_through L.F__law_gone_through.kp pass0 (da_cons (dp_var 5) (da_cons (dp_var 6) (da_cons (dp_callB call_len cs_len (by rfl) L.m_len bt_len (da_cons (DP.as (eqIx _ _) (dp_ix (dp_var 4) dp_int)) da_nil)) da_nil)))) (by rfl)))))) (dss_one (ds_ret (de_p dp_bl))) dss_nil)
      (dss_one (ds_if (dte_p (dt_cmp (op_neAll hr.units) os_ne (dp_callB (call_reprM hr) cs_reprM (by rfl) L.m_repr bt_repr (da_cons (dp_callG (ok_how_many_unlike L) (hr.mono (by decide)) (by rfl) L.g_how_many_unlike L.F_how_many_unlike.kp pass0 (da_cons (dp_var 4) da_nil)) da_nil)) (dp_callB (call_reprM hr) cs_reprM (by rfl) L.m_repr bt_repr (da_cons (dp_var 7) da_nil)) (by rfl))) (dss_one (ds_ret (de_p dp_bl))) dss_nil))))))))
      (dss_one (ds_ret (de_p dp_bl)))))))
end
def fn : List He.DefD := [⟨("exchanged_two", none), "exchanged_two", "exchanged_two", defArgs s_exchanged_two, defBody s_exchanged_two, defScope s_exchanged_two, [], []⟩, ⟨("stays", none), "stays", "stays", defArgs s_stays, defBody s_stays, defScope s_stays, [], []⟩, ⟨("are_alike_works", none), "are_alike_works", "are_alike_works", defArgs s_are_alike_works, defBody s_are_alike_works, defScope s_are_alike_works, [], []⟩, ⟨("are_alike_places", none), "are_alike_places", "are_alike_places", defArgs s_are_alike_places, defBody s_are_alike_places, defScope s_are_alike_places, [], []⟩, ⟨("put_in", none), "put_in", "put_in", defArgs s_put_in, defBody s_put_in, defScope s_put_in, [], []⟩, ⟨("alike_works", none), "alike_works", "alike_works", defArgs s_alike_works, defBody s_alike_works, defScope s_alike_works, [], []⟩, ⟨("alike_places", none), "alike_places", "alike_places", defArgs s_alike_places, defBody s_alike_places, defScope s_alike_places, [], []⟩, ⟨("takings", none), "takings", "takings", defArgs s_takings, defBody s_takings, defScope s_takings, [], []⟩, ⟨("how_many_unlike", none), "how_many_unlike", "how_many_unlike", defArgs s_how_many_unlike, defBody s_how_many_unlike, defScope s_how_many_unlike, [], []⟩, ⟨("_law_bag", none), "_law_bag", "_law_bag", defArgs s__law_bag, defBody s__law_bag, defScope s__law_bag, [], []⟩, ⟨("_law_dip", none), "_law_dip", "_law_dip", defArgs s__law_dip, defBody s__law_dip, defScope s__law_dip, [], []⟩, ⟨("_law_table", none), "_law_table", "_law_table", defArgs s__law_table, defBody s__law_table, defScope s__law_table, [], []⟩, ⟨("_law_by", none), "_law_by", "_law_by", defArgs s__law_by, defBody s__law_by, defScope s__law_by, [], []⟩, ⟨("_law_classed", none), "_law_classed", "_law_classed", defArgs s__law_classed, defBody s__law_classed, defScope s__law_classed, [], []⟩, ⟨("_law_moved", none), "_law_moved", "_law_moved", defArgs s__law_moved, defBody s__law_moved, defScope s__law_moved, [], []⟩, ⟨("_law_sets", none), "_law_sets", "_law_sets", defArgs s__law_sets, defBody s__law_sets, defScope s__law_sets, [], []⟩, ⟨("_law_pairs", none), "_law_pairs", "_law_pairs", defArgs s__law_pairs, defBody s__law_pairs, defScope s__law_pairs, [], []⟩, ⟨("_law_alike_works", none), "_law_alike_works", "_law_alike_works", defArgs s__law_alike_works, defBody s__law_alike_works, defScope s__law_alike_works, [], []⟩, ⟨("_law_alike_places", none), "_law_alike_places", "_law_alike_places", defArgs s__law_alike_places, defBody s__law_alike_places, defScope s__law_alike_places, [], []⟩, ⟨("_law_orders", none), "_law_orders", "_law_orders", defArgs s__law_orders, defBody s__law_orders, defScope s__law_orders, [], []⟩, ⟨("_law_home", none), "_law_home", "_law_home", defArgs s__law_home, defBody s__law_home, defScope s__law_home, [], []⟩, ⟨("_law_gone_through", none), "_law_gone_through", "_law_gone_through", defArgs s__law_gone_through, defBody s__law_gone_through, defScope s__law_gone_through, [], []⟩, ⟨("_law_dealt", none), "_law_dealt", "_law_dealt", defArgs s__law_dealt, defBody s__law_dealt, defScope s__law_dealt, [], []⟩, ⟨("_law_other_job", none), "_law_other_job", "_law_other_job", defArgs s__law_other_job, defBody s__law_other_job, defScope s__law_other_job, [], []⟩, ⟨("law", none), "law", "law", defArgs s_law, defBody s_law, defScope s_law, [], []⟩]
def fa : List He.Fa := [.glo "exchanged_two", .glo "stays", .glo "are_alike_works", .glo "are_alike_places", .glo "put_in", .glo "alike_works", .glo "alike_places", .glo "takings", .glo "how_many_unlike", .glo "_law_bag", .glo "_law_dip", .glo "_law_table", .glo "_law_by", .glo "_law_classed", .glo "_law_moved", .glo "_law_sets", .glo "_law_pairs", .glo "_law_alike_works", .glo "_law_alike_places", .glo "_law_orders", .glo "_law_home", .glo "_law_gone_through", .glo "_law_dealt", .glo "_law_other_job", .glo "law", .free "abs", .free "all", .free "int", .free "len", .free "list", .free "max", .free "min", .free "range", .free "repr", .free "sorted", .free "sum", .free "tuple"]
def ls : List (Str × List He.Dv) := []
abbrev Rw : PySem.W.OpenRow := PySem.W.OpenLaw.row PySem.Challenge.rw_spotlay_k48_how_many_unlike
abbrev hk : PySem.W.Hook := hookL 4 fa fn ls
def ob (s : PySem.W.SharedT) : AlL := obsLG 4 fa fn ls (HandSHeadRun.getT s)
theorem ob_eq (s : PySem.W.SharedT) : ob s = hk.obs s.abs := obsLG_eq (HandSHeadRun.getT_eq s)
abbrev loose : List Str := "exchanged_two" :: "stays" :: "are_alike_works" :: "are_alike_places" :: "put_in" :: "alike_works" :: "alike_places" :: "takings" :: "how_many_unlike" :: "_law_bag" :: "_law_dip" :: "_law_table" :: "_law_by" :: "_law_classed" :: "_law_moved" :: "_law_sets" :: "_law_pairs" :: "_law_alike_works" :: "_law_alike_places" :: "_law_orders" :: "_law_home" :: "_law_gone_through" :: "_law_dealt" :: "_law_other_job" :: []
theorem run (w : World) : HandSHeadRun.RunEq Rw (PySem.W.view Rw.prog [26]) hk ob 6000 loose w := by
  intro os
  kernel_rfl
theorem facts {K : PySem.W.Frag} {h : Heap} {mg : Str → Option Value} {f : Addr} (X : K.In h) (G : h.Ns mainGlobals mg) (hfa : mg ("law" : Str) = some (.ref f)) (c : He.SaysD fa fn K) (l0 : ls.all (lstB K) = true) : ∃ L : Facts K mg, L.f_law = f := by
  have l := l0
  obtain ⟨d0, F0⟩ := c.def_ 0 (d := ⟨("exchanged_two", none), "exchanged_two", "exchanged_two", defArgs s_exchanged_two, defBody s_exchanged_two, defScope s_exchanged_two, [], []⟩) rfl
  obtain ⟨d1, F1⟩ := c.def_ 1 (d := ⟨("stays", none), "stays", "stays", defArgs s_stays, defBody s_stays, defScope s_stays, [], []⟩) rfl
  obtain ⟨d2, F2⟩ := c.def_ 2 (d := ⟨("are_alike_works", none), "are_alike_works", "are_alike_works", defArgs s_are_alike_works, defBody s_are_alike_works, defScope s_are_alike_works, [], []⟩) rfl
  obtain ⟨d3, F3⟩ := c.def_ 3 (d := ⟨("are_alike_places", none), "are_alike_places", "are_alike_places", defArgs s_are_alike_places, defBody s_are_alike_places, defScope s_are_alike_places, [], []⟩) rfl
  obtain ⟨d4, F4⟩ := c.def_ 4 (d := ⟨("put_in", none), "put_in", "put_in", defArgs s_put_in, defBody s_put_in, defScope s_put_in, [], []⟩) rfl
  obtain ⟨d5, F5⟩ := c.def_ 5 (d := ⟨("alike_works", none), "alike_works", "alike_works", defArgs s_alike_works, defBody s_alike_works, defScope s_alike_works, [], []⟩) rfl
  obtain ⟨d6, F6⟩ := c.def_ 6 (d := ⟨("alike_places", none), "alike_places", "alike_places", defArgs s_alike_places, defBody s_alike_places, defScope s_alike_places, [], []⟩) rfl
  obtain ⟨d7, F7⟩ := c.def_ 7 (d := ⟨("takings", none), "takings", "takings", defArgs s_takings, defBody s_takings, defScope s_takings, [], []⟩) rfl
  obtain ⟨d8, F8⟩ := c.def_ 8 (d := ⟨("how_many_unlike", none), "how_many_unlike", "how_many_unlike", defArgs s_how_many_unlike, defBody s_how_many_unlike, defScope s_how_many_unlike, [], []⟩) rfl
  obtain ⟨d9, F9⟩ := c.def_ 9 (d := ⟨("_law_bag", none), "_law_bag", "_law_bag", defArgs s__law_bag, defBody s__law_bag, defScope s__law_bag, [], []⟩) rfl
  obtain ⟨d10, F10⟩ := c.def_ 10 (d := ⟨("_law_dip", none), "_law_dip", "_law_dip", defArgs s__law_dip, defBody s__law_dip, defScope s__law_dip, [], []⟩) rfl
  obtain ⟨d11, F11⟩ := c.def_ 11 (d := ⟨("_law_table", none), "_law_table", "_law_table", defArgs s__law_table, defBody s__law_table, defScope s__law_table, [], []⟩) rfl
  obtain ⟨d12, F12⟩ := c.def_ 12 (d := ⟨("_law_by", none), "_law_by", "_law_by", defArgs s__law_by, defBody s__law_by, defScope s__law_by, [], []⟩) rfl
  obtain ⟨d13, F13⟩ := c.def_ 13 (d := ⟨("_law_classed", none), "_law_classed", "_law_classed", defArgs s__law_classed, defBody s__law_classed, defScope s__law_classed, [], []⟩) rfl
  obtain ⟨d14, F14⟩ := c.def_ 14 (d := ⟨("_law_moved", none), "_law_moved", "_law_moved", defArgs s__law_moved, defBody s__law_moved, defScope s__law_moved, [], []⟩) rfl
  obtain ⟨d15, F15⟩ := c.def_ 15 (d := ⟨("_law_sets", none), "_law_sets", "_law_sets", defArgs s__law_sets, defBody s__law_sets, defScope s__law_sets, [], []⟩) rfl
  obtain ⟨d16, F16⟩ := c.def_ 16 (d := ⟨("_law_pairs", none), "_law_pairs", "_law_pairs", defArgs s__law_pairs, defBody s__law_pairs, defScope s__law_pairs, [], []⟩) rfl
  obtain ⟨d17, F17⟩ := c.def_ 17 (d := ⟨("_law_alike_works", none), "_law_alike_works", "_law_alike_works", defArgs s__law_alike_works, defBody s__law_alike_works, defScope s__law_alike_works, [], []⟩) rfl
  obtain ⟨d18, F18⟩ := c.def_ 18 (d := ⟨("_law_alike_places", none), "_law_alike_places", "_law_alike_places", defArgs s__law_alike_places, defBody s__law_alike_places, defScope s__law_alike_places, [], []⟩) rfl
  obtain ⟨d19, F19⟩ := c.def_ 19 (d := ⟨("_law_orders", none), "_law_orders", "_law_orders", defArgs s__law_orders, defBody s__law_orders, defScope s__law_orders, [], []⟩) rfl
  obtain ⟨d20, F20⟩ := c.def_ 20 (d := ⟨("_law_home", none), "_law_home", "_law_home", defArgs s__law_home, defBody s__law_home, defScope s__law_home, [], []⟩) rfl
  obtain ⟨d21, F21⟩ := c.def_ 21 (d := ⟨("_law_gone_through", none), "_law_gone_through", "_law_gone_through", defArgs s__law_gone_through, defBody s__law_gone_through, defScope s__law_gone_through, [], []⟩) rfl
  obtain ⟨d22, F22⟩ := c.def_ 22 (d := ⟨("_law_dealt", none), "_law_dealt", "_law_dealt", defArgs s__law_dealt, defBody s__law_dealt, defScope s__law_dealt, [], []⟩) rfl
  obtain ⟨d23, F23⟩ := c.def_ 23 (d := ⟨("_law_other_job", none), "_law_other_job", "_law_other_job", defArgs s__law_other_job, defBody s__law_other_job, defScope s__law_other_job, [], []⟩) rfl
  obtain ⟨d24, F24⟩ := c.def_ 24 (d := ⟨("law", none), "law", "law", defArgs s_law, defBody s_law, defScope s_law, [], []⟩) rfl
  have e := hfa.symm.trans (He.glo_ok X G (c.fact 24 (f := .glo "law") rfl))
  cases e
  exact ⟨⟨_, d0, F0, He.glo_ok X G (c.fact 0 (f := .glo "exchanged_two") rfl), _, d1, F1, He.glo_ok X G (c.fact 1 (f := .glo "stays") rfl), _, d2, F2, He.glo_ok X G (c.fact 2 (f := .glo "are_alike_works") rfl), _, d3, F3, He.glo_ok X G (c.fact 3 (f := .glo "are_alike_places") rfl), _, d4, F4, He.glo_ok X G (c.fact 4 (f := .glo "put_in") rfl), _, d5, F5, He.glo_ok X G (c.fact 5 (f := .glo "alike_works") rfl), _, d6, F6, He.glo_ok X G (c.fact 6 (f := .glo "alike_places") rfl), _, d7, F7, He.glo_ok X G (c.fact 7 (f := .glo "takings") rfl), _, d8, F8, He.glo_ok X G (c.fact 8 (f := .glo "how_many_unlike") rfl), _, d9, F9, He.glo_ok X G (c.fact 9 (f := .glo "_law_bag") rfl), _, d10, F10, He.glo_ok X G (c.fact 10 (f := .glo "_law_dip") rfl), _, d11, F11, He.glo_ok X G (c.fact 11 (f := .glo "_law_table") rfl), _, d12, F12, He.glo_ok X G (c.fact 12 (f := .glo "_law_by") rfl), _, d13, F13, He.glo_ok X G (c.fact 13 (f := .glo "_law_classed") rfl), _, d14, F14, He.glo_ok X G (c.fact 14 (f := .glo "_law_moved") rfl), _, d15, F15, He.glo_ok X G (c.fact 15 (f := .glo "_law_sets") rfl), _, d16, F16, He.glo_ok X G (c.fact 16 (f := .glo "_law_pairs") rfl), _, d17, F17, He.glo_ok X G (c.fact 17 (f := .glo "_law_alike_works") rfl), _, d18, F18, He.glo_ok X G (c.fact 18 (f := .glo "_law_alike_places") rfl), _, d19, F19, He.glo_ok X G (c.fact 19 (f := .glo "_law_orders") rfl), _, d20, F20, He.glo_ok X G (c.fact 20 (f := .glo "_law_home") rfl), _, d21, F21, He.glo_ok X G (c.fact 21 (f := .glo "_law_gone_through") rfl), _, d22, F22, He.glo_ok X G (c.fact 22 (f := .glo "_law_dealt") rfl), _, d23, F23, He.glo_ok X G (c.fact 23 (f := .glo "_law_other_job") rfl), _, d24, F24, He.glo_ok X G (c.fact 24 (f := .glo "law") rfl), He.free_ok X G (c.fact 25 (f := .free "abs") rfl), He.free_ok X G (c.fact 26 (f := .free "all") rfl), He.free_ok X G (c.fact 27 (f := .free "int") rfl), He.free_ok X G (c.fact 28 (f := .free "len") rfl), He.free_ok X G (c.fact 29 (f := .free "list") rfl), He.free_ok X G (c.fact 30 (f := .free "max") rfl), He.free_ok X G (c.fact 31 (f := .free "min") rfl), He.free_ok X G (c.fact 32 (f := .free "range") rfl), He.free_ok X G (c.fact 33 (f := .free "repr") rfl), He.free_ok X G (c.fact 34 (f := .free "sorted") rfl), He.free_ok X G (c.fact 35 (f := .free "sum") rfl), He.free_ok X G (c.fact 36 (f := .free "tuple") rfl)⟩, rfl⟩
end K48

/-! k48's own laws -/
namespace K48
open PySem PySem.Spec PyProof.Rows L2 DL DCA DCR DCT DCU PF PD PH PI PJ
variable {n : Nat} {F W C : Nat → Nat → Int} {E : Nat → Nat → Bool} {a b p q : Nat → Nat}
/-! the sets' sizes, said out -/
theorem home_at (e : Eqv n E) {j x : Nat} {l : List Nat} (hl : (part E n)[j]? = some l) (hx : x ∈ l) : home E n x = j := by
  have hj := (List.getElem?_eq_some_iff.mp hl).1
  obtain ⟨f, hf, i1⟩ := part_mem (E := E) (n := n) (x := x) hj
  rw [List.getD_eq_getElem?_getD, hl] at i1
  obtain ⟨hxn, hE⟩ := i1.mp hx
  obtain ⟨k, r, h1⟩ := homes_ne e hxn
  have m1 := List.mem_filter.mp (show k ∈ homes E n x by rw [h1]; exact List.mem_cons_self ..)
  have hk := List.mem_range.mp m1.1
  obtain ⟨f', hf', i2⟩ := part_mem (E := E) (n := n) (x := x) hk
  have hE' := (i2.mp (of_decide_eq_true m1.2)).2
  have a1 := mem_firsts.mp (List.mem_of_getElem? hf)
  have a2 := mem_firsts.mp (List.mem_of_getElem? hf')
  have ef : f' = f := firsts_uniq e a2.1 a1.1 a2.2 a1.2 (e.trans f' x f a2.1 hxn a1.1 hE' (e.symm f x a1.1 hxn hE))
  subst ef
  have nd : (firsts E n).Nodup := List.Pairwise.filter _ List.nodup_range
  obtain ⟨b1, b2⟩ := List.getElem?_eq_some_iff.mp hf
  obtain ⟨c1, c2⟩ := List.getElem?_eq_some_iff.mp hf'
  have : k = j := (List.getElem_inj nd).mp (c2.trans b2.symm)
  unfold home
  rw [h1, ← this]; rfl
theorem flat_exp {g : Nat → Nat} : ∀ (L : List (List Nat)) (i : Nat), (∀ j l x, L[j]? = some l → x ∈ l → g x = i + j) → L.flatten.map g = exp i (L.map List.length)
  | [], _, _ => rfl
  | l :: L, i, h => by
    rw [List.flatten_cons, List.map_append, List.map_cons]
    show _ = List.replicate l.length i ++ exp (i + 1) (L.map List.length)
    rw [flat_exp L (i + 1) fun j l' x hl hx => by have := h (j + 1) l' x hl hx; omega]
    congr 1
    refine List.eq_replicate_iff.mpr ⟨List.length_map _, fun y hy => ?_⟩
    obtain ⟨x, hx, rfl⟩ := List.mem_map.mp hy
    exact h 0 l x rfl hx
theorem exp_perm (e : Eqv n E) : (exp 0 (szs E n)).Perm ((List.range n).map (home E n)) := by
  have h := (part_flat e).map (home E n)
  rw [flat_exp (part E n) 0 fun j l x hl hx => by rw [home_at e hl hx, Nat.zero_add]] at h
  exact h
/-! the tuples of k unlike numbers under n -/
def lays (n : Nat) : Nat → List (List Nat)
  | 0 => [[]]
  | k + 1 => (lays n k).flatMap fun l => ((List.range n).filter fun x => !l.contains x).map fun x => l ++ [x]
theorem mem_lays {n : Nat} : ∀ {k : Nat} {l : List Nat}, l ∈ lays n k ↔ l.length = k ∧ l.Nodup ∧ ∀ x ∈ l, x < n
  | 0, l => by
    show l ∈ [[]] ↔ _
    rw [List.mem_singleton]
    constructor
    · intro e
      subst e
      exact ⟨rfl, List.nodup_nil, fun x h => nomatch h⟩
    · intro h
      exact List.eq_nil_of_length_eq_zero h.1
  | k + 1, l => by
    show l ∈ (lays n k).flatMap _ ↔ _
    rw [List.mem_flatMap]
    constructor
    · rintro ⟨l0, h0, h⟩
      obtain ⟨x, hx, rfl⟩ := List.mem_map.mp h
      obtain ⟨a, b, c⟩ := mem_lays.mp h0
      obtain ⟨hx1, hx2⟩ := List.mem_filter.mp hx
      have hx3 : x ∉ l0 := fun z => by rw [List.contains_iff_mem.mpr z] at hx2; cases hx2
      refine ⟨by rw [List.length_append, a]; rfl, List.nodup_append.mpr ⟨b, List.nodup_cons.mpr ⟨(fun h => nomatch h), List.nodup_nil⟩, fun y hy z hz e => ?_⟩, fun y hy => ?_⟩
      · rw [List.mem_singleton.mp hz] at e; exact hx3 (e ▸ hy)
      · rcases List.mem_append.mp hy with hy | hy
        · exact c y hy
        · rw [List.mem_singleton.mp hy]; exact List.mem_range.mp hx1
    · rintro ⟨a, b, c⟩
      have hne : l ≠ [] := fun e => by rw [e] at a; cases a
      refine ⟨l.dropLast, mem_lays.mpr ⟨by rw [List.length_dropLast, a]; rfl, b.sublist (List.dropLast_sublist l), fun x h => c x ((List.dropLast_sublist l).subset h)⟩, ?_⟩
      refine List.mem_map.mpr ⟨l.getLast hne, List.mem_filter.mpr ⟨List.mem_range.mpr (c _ (List.getLast_mem hne)), ?_⟩, List.dropLast_concat_getLast hne⟩
      have hn : l.getLast hne ∉ l.dropLast := fun z => by
        rw [← List.dropLast_concat_getLast hne] at b
        exact (List.nodup_append.mp b).2.2 _ z _ (List.mem_singleton.mpr rfl) rfl
      cases e : l.dropLast.contains (l.getLast hne) with
      | true => exact absurd (List.contains_iff_mem.mp e) hn
      | false => rfl
theorem lays_len {n : Nat} : ∀ k, (lays n k).length ≤ n ^ k
  | 0 => Nat.le_refl _
  | k + 1 => by
    have aux : ∀ (L : List (List Nat)), (L.flatMap fun l => ((List.range n).filter fun x => !l.contains x).map fun x => l ++ [x]).length ≤ L.length * n := fun L => by
      induction L with
      | nil => exact Nat.zero_le _
      | cons l L ih =>
        rw [List.flatMap_cons, List.length_append, List.length_cons, Nat.succ_mul, Nat.add_comm]
        refine Nat.add_le_add ih ?_
        rw [List.length_map]
        exact Nat.le_trans (List.length_filter_le ..) (by rw [List.length_range]; exact Nat.le_refl _)
    exact Nat.le_trans (aux _) (Nat.mul_le_mul_right n (lays_len k))
theorem lays_le {n k : Nat} (hn : n ≤ 5) (hk : k ≤ 5) : (lays n k).length ≤ 3125 := by
  have h1 := lays_len (n := n) k
  have h2 : n ^ k ≤ 5 ^ 5 := by
    rcases Nat.eq_zero_or_pos n with rfl | h0
    · cases k with
      | zero => decide
      | succ k => rw [Nat.zero_pow (Nat.succ_pos k)]; exact Nat.zero_le _
    · exact Nat.le_trans (Nat.pow_le_pow_left hn k) (Nat.pow_le_pow_right (by decide) hk)
  have h3 : 5 ^ 5 = 3125 := by decide
  omega
abbrev layL (l : List Nat) : D := .tup (l.map fun i : Nat => .int i)
theorem flat_snoc {α β : Type} {f : α → List β} {l : List α} {a : α} : (l ++ [a]).flatMap f = l.flatMap f ++ f a := by
  rw [List.flatMap_append, List.flatMap_cons, List.flatMap_nil, List.append_nil]
theorem orders_spec {n : Nat} {Q X} (hn : n ≤ 5) (h : Q (.sh, .lst ((lays n n).map layL)) []) : cf__law_orders [(.fl, .int (n : Nat))] Q X := by
  rw [cf__law_orders_eq]
  refine go_R1 (n := n) rfl (by omega) ?_
  refine go_For0 (fun k ρ => ∃ a b c, ρ = [some (.fl, .int (n : Nat)), some (.sh, .lst ((lays n k).map layL)), a, b, c, none]) ⟨none, none, none, rfl⟩ (fun k ρ N hk hI hN => ?_) fun ρ hI => ?_
  · obtain ⟨a, b, c, rfl⟩ := hI
    refine go_ForL (fun i ρ => ∃ c, ρ = [some (.fl, .int (n : Nat)), some (.sa, .lst ((lays n k).map layL)), some (.fl, .int (k : Nat)), some (.sh, .lst ((((lays n k).take i).flatMap fun l => ((List.range n).filter fun x => !l.contains x).map fun x => l ++ [x]).map layL)), c, none]) ⟨c, rfl⟩ (fun i l ρ N2 hl hI hN2 => ?_) fun ρ hI => ?_
    · obtain ⟨c, rfl⟩ := hI
      have hlk := (mem_lays.mp (List.mem_of_getElem? hl)).1
      refine ⟨trivial, go_R1 (n := n) rfl (by omega) ?_⟩
      refine go_LcF0 (fun x => !l.contains x) (fun x => layL (l ++ [x])) (by omega) (fun x N' hx h1 h0 => ?_) ?_
      · have e0 : (l.map fun i : Nat => D.int i) = (toI l).map D.int := by rw [List.map_map]; rfl
        refine ⟨rfl, by rw [e0]; exact flat_toI, ?_⟩
        rw [e0, inD_toI]
        refine ifb (fun z => ?_) fun z => h0 ?_
        · refine ⟨by rw [List.length_map]; show l.length + 1 ≤ 10000000; omega, ?_⟩
          have key := h1 (by
            cases e : l.contains x with
            | false => rfl
            | true => rw [decide_eq_true (List.contains_iff_mem.mp e)] at z; cases z)
          have e2 : layL (l ++ [x]) = .tup ((l.map fun i : Nat => D.int i) ++ [.int x]) := by show D.tup _ = _; rw [List.map_append]; rfl
          rw [e2] at key
          exact key
        · cases e : l.contains x with
          | true => rfl
          | false =>
            rw [decide_eq_false fun y => by rw [List.contains_iff_mem.mpr y] at e; cases e] at z
            cases z
      · refine go_extend (.inl rfl) ?_ (hN2 _ ⟨some (.fl, layL l), ?_⟩)
        · rw [List.length_map, List.length_map]
          have h1 : (((lays n k).take i).flatMap fun l => ((List.range n).filter fun x => !l.contains x).map fun x => l ++ [x]).length ≤ (lays n (k + 1)).length := by
            show _ ≤ ((lays n k).flatMap _).length
            conv => rhs; rw [← List.take_append_drop i (lays n k), List.flatMap_append, List.length_append]
            exact Nat.le_add_right _ _
          have h2 := lays_le (n := n) (k := k + 1) hn (by omega)
          have h4 : ((List.range n).filter fun x => !l.contains x).length ≤ n := Nat.le_trans (List.length_filter_le ..) (by rw [List.length_range]; exact Nat.le_refl _)
          omega
        · have e1 : (lays n k).take (i + 1) = (lays n k).take i ++ [l] := by rw [List.take_succ, hl]; rfl
          rw [e1, flat_snoc, List.map_append, List.map_map]; rfl
    · obtain ⟨c, rfl⟩ := hI
      rw [List.take_length]
      exact hN _ ⟨some (.fl, .int (k : Nat)), none, c, rfl⟩
  · obtain ⟨a, b, c, rfl⟩ := hI
    exact h
theorem getD_at {l : List Nat} {i : Nat} (h : i < l.length) : l.getD i 0 = l[i] := by rw [List.getD_eq_getElem?_getD, List.getElem?_eq_getElem h]; rfl
theorem lays_lay {n : Nat} {l : List Nat} (h : l ∈ lays n n) : Lay n (fun i => l.getD i 0) ∧ layL l = layD n fun i => l.getD i 0 := by
  obtain ⟨a, b, c⟩ := mem_lays.mp h
  refine ⟨⟨fun i hi => ?_, fun i j hi hj e => ?_⟩, congrArg D.tup ?_⟩
  · rw [getD_at (by omega)]; exact c _ (List.getElem_mem _)
  · rw [getD_at (by omega), getD_at (by omega)] at e
    exact (List.getElem_inj b).mp e
  · refine List.ext_getElem? fun i => ?_
    rw [List.getElem?_map]
    by_cases hi : i < n
    · rw [tabl_get hi, List.getElem?_eq_getElem (by omega)]
      show some (D.int (l[i] : Nat)) = some (D.int (l.getD i 0 : Nat))
      rw [getD_at (by omega)]
    · rw [List.getElem?_eq_none (by omega), List.getElem?_eq_none (by rw [tabl_len]; omega)]; rfl
theorem lay_lays {n : Nat} {p : Nat → Nat} (h : Lay n p) : tabl n p ∈ lays n n := by
  refine mem_lays.mpr ⟨tabl_len, ?_, fun x hx => ?_⟩
  · unfold tabl
    refine List.pairwise_map.mpr (List.Pairwise.imp_of_mem (fun {a b} ha hb hab e => hab ?_) (List.nodup_range (n := n)))
    exact h.inj a b (List.mem_range.mp ha) (List.mem_range.mp hb) e
  · obtain ⟨i, hi, rfl⟩ := List.mem_map.mp hx
    exact h.lt i (List.mem_range.mp hi)
theorem lay_perm {n : Nat} {p : Nat → Nat} (h : Lay n p) : ((List.range n).map p).Perm (List.range n) :=
  sub_perm (mem_lays.mp (lay_lays h)).2.1 (fun x hx => List.mem_range.mpr ((mem_lays.mp (lay_lays h)).2.2 x hx)) (by rw [List.length_range, List.length_map, List.length_range]; exact Nat.le_refl _)
theorem map_inj {α β : Type} {f : α → β} (hf : ∀ x y, f x = f y → x = y) : ∀ {L M : List α}, L.map f = M.map f → L = M
  | [], [], _ => rfl
  | [], _ :: _, h => nomatch h
  | _ :: _, [], h => nomatch h
  | x :: L, y :: M, h => by
    obtain ⟨h1, h2⟩ := List.cons.inj h
    rw [hf x y h1, map_inj hf h2]
theorem law_home_spec {x : Nat} {k : Kd} {Q X} (hn : n ≤ 1000) (e : Eqv n E) (hx : x < n) (h : Q (.fl, .int (home E n x : Nat)) []) : cf__law_home [(k, .lst (setsD E n)), (.fl, .int (x : Nat))] Q X := by
  rw [cf__law_home_eq]
  have hl : (part E n).length ≤ 1000 := by
    have := firsts_le (E := E) (m := n)
    rw [part_len]; omega
  refine go_R1 (n := (part E n).length) (by rw [List.length_map, List.length_map]) (by omega) ?_
  refine go_LcF0 (fun k => decide (x ∈ (part E n).getD k [])) (fun k => .int (k : Nat)) (by omega) (fun i N hi h1 h0 => ?_) ?_
  · refine go_ix (d := tI (toI ((part E n).getD i []))) rfl (atI_nat (by rw [List.getElem?_map, List.getElem?_map, List.getElem?_eq_getElem hi, List.getD_eq_getElem?_getD, List.getElem?_eq_getElem hi]; rfl)) ⟨rfl, flat_toI, ?_⟩
    show if inD (.int x) ((toI ((part E n).getD i [])).map .int) = true then _ else _
    rw [inD_toI]
    exact ifb (fun z => h1 z) fun z => h0 z
  · obtain ⟨k, r, hk⟩ := homes_ne e hx
    have hk' : (List.range (part E n).length).filter (fun k => decide (x ∈ (part E n).getD k [])) = k :: r := hk
    rw [hk']
    unfold home at h
    rw [hk] at h
    exact go_ix rfl (atI_nat (j := 0) rfl) h
end K48
namespace K48
open PySem PySem.Spec PyProof.Rows L2 DL DCA DCR DCT DCU PF PD PH PI PJ
variable {n : Nat} {F W C : Nat → Nat → Int} {E : Nat → Nat → Bool} {a b p q : Nat → Nat}
/-! keys -/
def nk1 (q : Nat × Nat) : NestedKey := .tup [.num (q.1 : Nat), .num (q.2 : Nat)]
def nk (P : PL) : NestedKey := .tup (P.map nk1)
theorem nk1_inj {x y : Nat × Nat} (h : nk1 x = nk1 y) : x = y := by
  unfold nk1 at h
  injection h with h
  injection h with h1 h
  injection h with h2 _
  injection h1 with h1
  injection h2 with h2
  exact Prod.ext (Int.ofNat.inj h1) (Int.ofNat.inj h2)
theorem nk_inj {P P' : PL} (h : nk P = nk P') : P = P' := by
  unfold nk at h
  injection h with h
  exact map_inj (fun _ _ => nk1_inj) h
abbrev prP (q : Nat × Nat) : List Int := prK q.1 q.2
theorem prP_inj {x y : Nat × Nat} (h : prP x = prP y) : x = y := by
  obtain ⟨h1, h2⟩ := prK_inj.mp h
  exact Prod.ext h1 h2
theorem keysN_pairs : ∀ P : PL, keysN ((P.map prP).map tI) = some (P.map nk1)
  | [] => rfl
  | x :: P => by
    rw [List.map_cons, List.map_cons, List.map_cons]
    show ((keyN (tI (prP x))).bind fun k => (keysN ((P.map prP).map tI)).map fun ks => k :: ks) = _
    rw [keysN_pairs P]; rfl
theorem depth_pairs : ∀ P : PL, NestedKey.depthAll (P.map nk1) ≤ 1
  | [] => Nat.zero_le _
  | x :: P => by
    rw [List.map_cons]
    show max (nk1 x).depth (NestedKey.depthAll (P.map nk1)) ≤ 1
    exact Nat.max_le.mpr ⟨Nat.le_refl 1, depth_pairs P⟩
theorem nk_key {P : PL} {ms : List (List Int)} (e : ms = P.map prP) : isKey (.tup (ms.map tI)) (nk P) := by
  subst e
  refine ⟨⟨_, rfl⟩, ?_, ?_⟩
  · show (keysN ((P.map prP).map tI)).map NestedKey.tup = _
    rw [keysN_pairs]; rfl
  · show NestedKey.depthAll (P.map nk1) + 1 ≤ 8
    have := depth_pairs P
    omega
theorem putN_keys {kvs : List (NestedKey × V)} {k : NestedKey} {x : V} : ((putN kvs k x).map (·.1)) = if hasN kvs k = true then kvs.map (·.1) else kvs.map (·.1) ++ [k] := by
  unfold putN
  by_cases c : hasN kvs k = true
  · rw [if_pos c, if_pos c, List.map_map]
    refine List.map_congr_left fun y _ => ?_
    show (if y.1 = k then (y.1, x) else y).1 = y.1
    split <;> rfl
  · rw [if_neg c, if_neg c, List.map_append]; rfl
theorem hasN_iff {kvs : List (NestedKey × V)} {k : NestedKey} : hasN kvs k = true ↔ k ∈ kvs.map (·.1) := by
  unfold hasN
  rw [List.any_eq_true, List.mem_map]
  exact ⟨fun ⟨x, h1, h2⟩ => ⟨x, h1, of_decide_eq_true h2⟩, fun ⟨x, h1, h2⟩ => ⟨x, h1, decide_eq_true h2⟩⟩
theorem putN_nodup {kvs : List (NestedKey × V)} {k : NestedKey} {x : V} (h : (kvs.map (·.1)).Nodup) : ((putN kvs k x).map (·.1)).Nodup := by
  rw [putN_keys]
  by_cases c : hasN kvs k = true
  · rw [if_pos c]; exact h
  · rw [if_neg c]
    refine List.nodup_append.mpr ⟨h, List.nodup_cons.mpr ⟨fun z => (nomatch z), List.nodup_nil⟩, fun y hy z hz e => ?_⟩
    rw [List.mem_singleton.mp hz] at e
    exact c (hasN_iff.mpr (e ▸ hy))
theorem putN_mem {kvs : List (NestedKey × V)} {k k' : NestedKey} {x : V} : k' ∈ (putN kvs k x).map (·.1) ↔ k' ∈ kvs.map (·.1) ∨ k' = k := by
  rw [putN_keys]
  by_cases c : hasN kvs k = true
  · rw [if_pos c]
    refine ⟨.inl, fun h => h.elim id fun e => ?_⟩
    rw [e]; exact hasN_iff.mp c
  · rw [if_neg c, List.mem_append, List.mem_singleton]
/-- what is met after i layings -/
structure Met (n : Nat) (a b : Nat → Nat) (i : Nat) (kvs : List (NestedKey × V)) : Prop where
  nd : (kvs.map (·.1)).Nodup
  snd : ∀ k ∈ kvs.map (·.1), ∃ p P, Lay n p ∧ KeyOf n a b p P ∧ k = nk P
  cpl : ∀ j l, j < i → (lays n n)[j]? = some l → ∃ P, KeyOf n a b (fun i => l.getD i 0) P ∧ nk P ∈ kvs.map (·.1)
  len : kvs.length ≤ i
theorem Met.start : Met n a b 0 [] := ⟨List.nodup_nil, fun k h => (nomatch h), fun j l h => absurd h (Nat.not_lt_zero _), Nat.le_refl _⟩
theorem Met.put {i : Nat} {kvs : List (NestedKey × V)} (h : Met n a b i kvs) {l : List Nat} (hl : (lays n n)[i]? = some l) {P : PL} (hP : KeyOf n a b (fun i => l.getD i 0) P) {x : V} : Met n a b (i + 1) (putN kvs (nk P) x) := by
  refine ⟨putN_nodup h.nd, fun k hk => ?_, fun j l' hj hl' => ?_, Nat.le_trans putN_len (by have := h.len; omega)⟩
  · rcases putN_mem.mp hk with hk | hk
    · exact h.snd k hk
    · exact ⟨_, P, (lays_lay (List.mem_of_getElem? hl)).1, hP, hk⟩
  · by_cases c : j = i
    · subst c
      rw [hl] at hl'
      cases hl'
      exact ⟨P, hP, putN_mem.mpr (.inr rfl)⟩
    · obtain ⟨P', h1, h2⟩ := h.cpl j l' (by omega) hl'
      exact ⟨P', h1, putN_mem.mpr (.inl h2)⟩
theorem Met.all {SW SP : List Nat} {kvs : List (NestedKey × V)} (h : Met n a b (lays n n).length kvs) (hw : (exp 0 SW).Perm ((List.range n).map a)) (hp : (exp 0 SP).Perm ((List.range n).map b)) : kvs.length = ways SW SP := by
  rw [← dl_ways, ← en_len 0 SW SP 0, ← List.length_map (as := kvs) (·.1)]
  have nd2 : ((en 0 SW SP 0).map nk).Nodup := List.pairwise_map.mpr ((en_nodup SW 0 SP 0).imp fun w z => w (nk_inj z))
  have s1 : kvs.map (·.1) ⊆ (en 0 SW SP 0).map nk := fun k hk => by
    obtain ⟨p, P, h1, h2, rfl⟩ := h.snd k hk
    exact List.mem_map.mpr ⟨P, h2.is hw hp (lay_perm h1), rfl⟩
  have s2 : (en 0 SW SP 0).map nk ⊆ kvs.map (·.1) := fun k hk => by
    obtain ⟨P, hP, rfl⟩ := List.mem_map.mp hk
    obtain ⟨p, h1, h2, h3⟩ := KeyOf.of hw hp hP
    have hm := lay_lays (n := n) (p := p) ⟨h1, h2⟩
    obtain ⟨j, hj, ej⟩ := List.mem_iff_getElem.mp hm
    obtain ⟨P', k1, k2⟩ := h.cpl j _ hj (by rw [List.getElem?_eq_getElem hj, ej])
    have : KeyOf n a b p P' := k1.congr fun i hi => by
      show (tabl n p).getD i 0 = p i
      rw [List.getD_eq_getElem?_getD, tabl_get hi]; rfl
    rw [h3.same this]; exact k2
  have l1 := h.nd.length_le_of_subset s1
  have l2 := nd2.length_le_of_subset s2
  rw [List.length_map] at l1 l2
  rw [List.length_map] at l1 l2 ⊢
  omega
theorem key_of {p : Nat → Nat} {ms : List (List Int)} (h1 : ms.Perm (tabl n fun k => prK (a k) (b (p k)))) (h2 : ms.Pairwise fun x y => ¬ y < x) : ∃ P, KeyOf n a b p P ∧ ms = P.map prP := by
  have e : (tabl n fun k => prK (a k) (b (p k))) = ((List.range n).map fun k => (a k, b (p k))).map prP := by
    rw [List.map_map]; rfl
  obtain ⟨P, hP, rfl⟩ := perm_map h1 e
  refine ⟨P, ⟨(List.pairwise_map.mp h2).imp fun {x y} z => ?_, hP⟩, rfl⟩
  show x.1 < y.1 ∨ (x.1 = y.1 ∧ x.2 ≤ y.2)
  refine Classical.byContradiction fun w => z ?_
  show [(y.1 : Int), (y.2 : Int)] < [(x.1 : Int), (x.2 : Int)]
  rw [List.cons_lt_cons_iff, List.cons_lt_cons_iff]
  by_cases c : y.1 = x.1
  · exact .inr ⟨by rw [c], .inl (by omega)⟩
  · exact .inl (by omega)
theorem gone_spec {k k' : Kd} {Ew Ep : Nat → Nat → Bool} {Q X} (hn : n ≤ 5) (ew : Eqv n Ew) (ep : Eqv n Ep) (h : Q (.fl, .int (ways (szs Ew n) (szs Ep n) : Nat)) []) : cf__law_gone_through [(k, .lst (setsD Ew n)), (k', .lst (setsD Ep n)), (.fl, .int (n : Nat))] Q X := by
  rw [cf__law_gone_through_eq]
  refine orders_spec hn ?_
  refine go_ForL (L := lays n n) (F := layL) (fun i ρ => ∃ kvs x4 x5 x6, Met n (home Ew n) (home Ep n) i kvs ∧ ρ = [some (k, .lst (setsD Ew n)), some (k', .lst (setsD Ep n)), some (.fl, .int (n : Nat)), some (.ow, .dcN kvs), x4, x5, x6]) ⟨[], none, none, none, .start, rfl⟩ (fun i l ρ N hl hI hN => ?_) fun ρ hI => ?_
  · obtain ⟨kvs, x4, x5, x6, hM, rfl⟩ := hI
    obtain ⟨hL, eL⟩ := lays_lay (List.mem_of_getElem? hl)
    have hi := (List.getElem?_eq_some_iff.mp hl).1
    have hle := lays_le hn hn
    refine go_R1 (n := n) rfl (by omega) ?_
    refine go_Lc0 (fun k => tI (prK (home Ew n k) (home Ep n (l.getD k 0)))) (by omega) (fun j N' hj hN' => ?_) ?_
    · refine law_home_spec (by omega) ew hj ?_
      rw [eL]
      exact go_tab hj (law_home_spec (by omega) ep (hL.lt j hj) hN')
    · refine ⟨tabl n fun k => prK (home Ew n k) (home Ep n (l.getD k 0)), by unfold tabl; rw [List.map_map]; rfl, fun ns hns z => ?_, fun ms h1 h2 => ?_⟩
      · obtain ⟨k, _, rfl⟩ := List.mem_map.mp hns
        cases z
      · obtain ⟨P, hP, e⟩ := key_of h1 h2
        refine go_setN rfl (nk_key e) rfl (by have := hM.len; omega) ?_
        exact hN _ ⟨_, _, _, _, hM.put hl hP, rfl⟩
  · obtain ⟨kvs, x4, x5, x6, hM, rfl⟩ := hI
    have e := hM.all (exp_perm ew) (exp_perm ep)
    have hle := lays_le hn hn
    have := hM.len
    refine ⟨by omega, ?_⟩
    rw [e]; exact h
end K48
namespace K48
open PySem PySem.Spec PyProof.Rows L2 DL DCA DCR DCT DCU PF PD PH PI PJ
variable {n : Nat} {F W C : Nat → Nat → Int} {E : Nat → Nat → Bool} {a b p q : Nat → Nat}
/-! the memo's keys -/
def nks (S : List Nat) : List NestedKey := S.map fun x : Nat => .num (x : Nat)
def nkD (S r : List Nat) (f : Nat) : NestedKey := .tup [.tup (nks S), .tup (nks r), .num (f : Nat)]
theorem nks_inj {S S' : List Nat} (h : nks S = nks S') : S = S' := map_inj (fun x y z => by injection z with z; exact Int.ofNat.inj z) h
theorem nkD_inj {S S' r r' : List Nat} {f f' : Nat} (h : nkD S r f = nkD S' r' f') : S = S' ∧ r = r' ∧ f = f' := by
  unfold nkD at h
  injection h with h
  injection h with h1 h
  injection h with h2 h
  injection h with h3 _
  injection h1 with h1
  injection h2 with h2
  injection h3 with h3
  exact ⟨nks_inj h1, nks_inj h2, Int.ofNat.inj h3⟩
theorem keysN_ints : ∀ S : List Nat, keysN ((toI S).map D.int) = some (nks S)
  | [] => rfl
  | x :: S => by
    show ((keyN (D.int (x : Nat))).bind fun k => (keysN ((toI S).map D.int)).map fun ks => k :: ks) = _
    rw [keysN_ints S]; rfl
theorem depth_ints : ∀ S : List Nat, NestedKey.depthAll (nks S) = 0
  | [] => rfl
  | x :: S => by
    show max 0 (NestedKey.depthAll (nks S)) = 0
    rw [depth_ints S]; rfl
theorem nkD_key {S r : List Nat} {f : Nat} : isKey (.tup [tI (toI S), tI (toI r), .int (f : Nat)]) (nkD S r f) := by
  refine ⟨⟨_, rfl⟩, ?_, ?_⟩
  · show (((keysN ((toI S).map D.int)).map NestedKey.tup).bind fun k => ((((keysN ((toI r).map D.int)).map NestedKey.tup).bind fun k => (some [NestedKey.num (f : Nat)]).map fun ks => k :: ks)).map fun ks => k :: ks).map NestedKey.tup = _
    rw [keysN_ints, keysN_ints]; rfl
  · show max (NestedKey.depthAll (nks S) + 1) (max (NestedKey.depthAll (nks r) + 1) (max 0 0)) + 1 ≤ 8
    rw [depth_ints, depth_ints]; decide
theorem look_putN {kvs : List (NestedKey × V)} {k k' : NestedKey} {x : V} : lookN (putN kvs k x) k' = if k' = k then some x else lookN kvs k' := by
  have aux : ∀ L : List (NestedKey × V), lookN (L.map fun y => if y.1 = k then (y.1, x) else y) k' = if k' = k then (if hasN L k = true then some x else none) else lookN L k' := by
    intro L
    induction L with
    | nil => by_cases c : k' = k <;> simp [lookN, hasN, c]
    | cons y L ih =>
      by_cases c : k' = k
      · subst c
        rw [if_pos rfl] at ih ⊢
        by_cases c2 : y.1 = k'
        · simp [lookN, hasN, c2]
        · have e1 : lookN ((y :: L).map fun y => if y.1 = k' then (y.1, x) else y) k' = lookN (L.map fun y => if y.1 = k' then (y.1, x) else y) k' := by
            rw [List.map_cons, if_neg c2]
            simp [lookN, c2]
          have e2 : hasN (y :: L) k' = hasN L k' := by simp [hasN, c2]
          rw [e1, e2, ih]
      · rw [if_neg c] at ih ⊢
        by_cases c2 : y.1 = k'
        · have c3 : ¬ y.1 = k := fun z => c (c2.symm.trans z)
          rw [List.map_cons, if_neg c3]
          simp [lookN, c2]
        · have e1 : lookN ((y :: L).map fun y => if y.1 = k then (y.1, x) else y) k' = lookN (L.map fun y => if y.1 = k then (y.1, x) else y) k' := by
            rw [List.map_cons]
            by_cases c3 : y.1 = k
            · rw [if_pos c3]
              simp [lookN, c2]
            · rw [if_neg c3]
              simp [lookN, c2]
          have e2 : lookN (y :: L) k' = lookN L k' := by simp [lookN, c2]
          rw [e1, e2, ih]
  unfold putN
  by_cases c : hasN kvs k = true
  · rw [if_pos c, aux, if_pos c]
  · rw [if_neg c]
    have hn : lookN kvs k = none := by
      unfold lookN
      rw [List.find?_eq_none.mpr fun y hy z => c (List.any_eq_true.mpr ⟨y, hy, z⟩)]; rfl
    have e : lookN (kvs ++ [(k, x)]) k' = (lookN kvs k').or (if k = k' then some x else none) := by
      unfold lookN
      rw [List.find?_append]
      cases kvs.find? fun y => decide (y.1 = k') with
      | some y => rfl
      | none =>
        by_cases c2 : k = k'
        · simp [c2]
        · simp [c2]
    rw [e]
    by_cases c2 : k' = k
    · subst c2
      rw [if_pos rfl, if_pos rfl, hn]; rfl
    · rw [if_neg c2, if_neg (Ne.symm c2)]
      cases lookN kvs k' <;> rfl
theorem look_has {kvs : List (NestedKey × V)} {k : NestedKey} (h : hasN kvs k = true) : ∃ v, lookN kvs k = some v := by
  obtain ⟨y, h1, h2⟩ := List.any_eq_true.mp h
  unfold lookN
  cases e : kvs.find? fun y => decide (y.1 = k) with
  | some y => exact ⟨y.2, rfl⟩
  | none => exact absurd h2 (List.find?_eq_none.mp e y h1)
/-- what is known of up to M works is right -/
def Good (M : Nat) (kvs : List (NestedKey × V)) : Prop := ∀ S r f v, S.sum ≤ M → lookN kvs (nkD S r f) = some v → v = .int (dl S r f : Nat)
/-- what is known of more stays -/
def Stay (M : Nat) (kvs kvs' : List (NestedKey × V)) : Prop := ∀ S r f, M < S.sum → lookN kvs' (nkD S r f) = lookN kvs (nkD S r f)
theorem Stay.refl {M : Nat} {kvs : List (NestedKey × V)} : Stay M kvs kvs := fun _ _ _ _ => rfl
/-- how many keys may be put -/
def nb : Nat → Nat
  | 0 => 0
  | m + 1 => 1 + (m + 1) * nb m
structure Fit (S r : List Nat) (f : Nat) : Prop where
  ls : S.length ≤ 8
  lr : r.length ≤ 8
  eq : S.sum = r.sum
  s8 : S.sum ≤ 8
  fr : f ≤ r.length
def DealtOk (cf : CF) (S r : List Nat) (f : Nat) : Prop := ∀ (kvs : List (NestedKey × V)) (Q : KD → List KD → Prop) (X : Str → List KD → Prop), Good S.sum kvs → kvs.length + nb S.sum ≤ 1000000 →
  (∀ kvs', Good S.sum kvs' → Stay S.sum kvs kvs' → kvs'.length ≤ kvs.length + nb S.sum → Q (.fl, .int (dl S r f : Nat)) [(.ow, .dcN kvs')]) → cf [(.ow, .dcN kvs), (.fl, tI (toI S)), (.fl, tI (toI r)), (.fl, .int (f : Nat))] Q X
theorem eqv_ti (S : List Nat) : PyData.eqv (D.tup ((toI S).map .int)).toP (D.tup []).toP = decide (S = []) := eqv_ki S
theorem at_deal {c : CF} {o : KD} {k1 k2 k3 : Kd} {x x' y y' : D} {z z' : Int} {Q X} (e1 : k1 = .fl) (ex : x = x') (e2 : k2 = .fl) (ey : y = y') (e3 : k3 = .fl) (ez : z = z') (h : c [o, (.fl, x'), (.fl, y'), (.fl, .int z')] Q X) : c [o, (k1, x), (k2, y), (k3, .int z)] Q X := by
  subst e1 ex e2 ey e3 ez; exact h
theorem tl_ixI {k : Kd} {l : List Nat} {i : Nat} {x : Nat} {y : Int} {P : KD → Prop} (e : y = (i : Nat)) (h : l[i]? = some x) (p : P (kel k (.int (x : Nat)))) : xIx (k, tI (toI l)) (.fl, .int y) P := by
  subst e
  exact go_ix (d := .int (x : Nat)) rfl (atI_nat (by rw [List.getElem?_map, List.getElem?_map, h]; rfl)) p
theorem cut_take {xs : List D} {z : Int} {k : Nat} (e : z = (k : Nat)) (h : k ≤ xs.length) : DL.cutD xs none (some z) = xs.take k := by
  subst e
  unfold DL.cutD
  rw [HT.sIx_none, HT.sIx_nat, Nat.min_eq_left h]; rfl
theorem cut_drop {xs : List D} {z : Int} {k : Nat} (e : z = (k : Nat)) (h : k ≤ xs.length) : DL.cutD xs (some z) none = xs.drop k := by
  subst e
  unfold DL.cutD
  rw [HT.sIx_none, HT.sIx_nat, Nat.min_eq_left h]
  exact List.take_of_length_le (by rw [List.length_drop]; exact Nat.le_refl _)
theorem ints_len (S : List Nat) : ((toI S).map D.int).length = S.length := by rw [List.length_map, List.length_map]
theorem left_eq {r : List Nat} {k x : Nat} {zt zd zx : Int} (hx : r[k]? = some x) (h0 : 0 < x) (e1 : zt = (k : Nat)) (e2 : zd = ((k + 1 : Nat) : Int)) (e3 : zx = (x : Nat)) :
    D.tup ((DL.cutD ((toI r).map D.int) none (some zt) ++ [D.int (zx - 1)]) ++ DL.cutD ((toI r).map D.int) (some zd) none) = tI (toI (drop1 r k)) := by
  obtain ⟨hk, ex⟩ := List.getElem?_eq_some_iff.mp hx
  have eg : r.getD k 0 = x := by rw [List.getD_eq_getElem?_getD, hx]; rfl
  rw [cut_take e1 (by rw [ints_len]; omega), cut_drop e2 (by rw [ints_len]; omega), drop1_text hk, eg, e3]
  show D.tup _ = D.tup (((r.take k ++ [x - 1] ++ r.drop (k + 1)).map fun x : Nat => (x : Int)).map D.int)
  rw [List.map_append, List.map_append, List.map_append, List.map_append, ← List.map_take, ← List.map_take, ← List.map_drop, ← List.map_drop]
  show _ = D.tup (_ ++ [D.int ((x - 1 : Nat) : Int)] ++ _)
  rw [show ((x - 1 : Nat) : Int) = (x : Int) - 1 by omega]
theorem drop1_sum {r : List Nat} {k x : Nat} (hx : r[k]? = some x) (h0 : 0 < x) : (drop1 r k).sum + 1 = r.sum := by
  obtain ⟨hk, ex⟩ := List.getElem?_eq_some_iff.mp hx
  have eg : r.getD k 0 = x := by rw [List.getD_eq_getElem?_getD, hx]; rfl
  rw [drop1_text hk, eg]
  have h := congrArg List.sum (List.take_append_drop k r)
  rw [List.drop_eq_getElem_cons hk, ex, List.sum_append, List.sum_cons] at h
  rw [List.sum_append, List.sum_append, List.sum_singleton]
  omega
/-- what is summed up to place f + i -/
def partS (next : List Nat → Nat) (s : Nat) (r : List Nat) (f i : Nat) : Nat := ((List.range' f i).map fun k => if 0 < r.getD k 0 then goN next s (drop1 r k) k else 0).sum
theorem partS_succ (next : List Nat → Nat) (s : Nat) (r : List Nat) (f i : Nat) : partS next s r f (i + 1) = partS next s r f i + if 0 < r.getD (f + i) 0 then goN next s (drop1 r (f + i)) (f + i) else 0 := by
  unfold partS
  rw [List.range'_1_concat, List.map_append, List.sum_append]
  show _ + (_ + 0) = _
  rw [Nat.add_zero]
/-- in the loop -/
structure Loop (s : Nat) (S r : List Nat) (f : Nat) (kvs : List (NestedKey × V)) (i : Nat) (kvs' : List (NestedKey × V)) : Prop where
  good : Good (s + S.sum) kvs'
  val : lookN kvs' (nkD ((s + 1) :: S) r f) = some (.int (partS (fun r => dl S r 0) s r f i : Nat))
  oth : ∀ S' r' f', s + S.sum < S'.sum → nkD S' r' f' ≠ nkD ((s + 1) :: S) r f → lookN kvs' (nkD S' r' f') = lookN kvs (nkD S' r' f')
  len : kvs'.length ≤ kvs.length + 1 + ((r.drop f).take i).sum * nb (s + S.sum)
theorem sum_take_le' : ∀ (L : List Nat) (k : Nat), (L.take k).sum ≤ L.sum
  | [], k => by rw [List.take_nil]; exact Nat.le_refl _
  | x :: L, 0 => Nat.zero_le _
  | x :: L, k + 1 => by
    have := sum_take_le' L k
    rw [List.take_succ_cons, List.sum_cons, List.sum_cons]; omega
theorem Loop.start {s : Nat} {S r : List Nat} {f : Nat} {kvs : List (NestedKey × V)} (h : Good ((s + 1) :: S).sum kvs) : Loop s S r f kvs 0 (putN kvs (nkD ((s + 1) :: S) r f) (.int 0)) := by
  have h0 : ((s + 1) :: S).sum = s + 1 + S.sum := List.sum_cons
  refine ⟨fun S' r' f' v hS e => ?_, ?_, fun S' r' f' hS hne => ?_, ?_⟩
  · rw [look_putN, if_neg (fun z => by obtain ⟨rfl, _, _⟩ := nkD_inj z; omega)] at e
    exact h S' r' f' v (by omega) e
  · rw [look_putN, if_pos rfl]; rfl
  · rw [look_putN, if_neg hne]
  · have := putN_len (kvs := kvs) (k := nkD ((s + 1) :: S) r f) (x := .int 0)
    omega
theorem Loop.skip {s i : Nat} {S r : List Nat} {f : Nat} {kvs kvs' : List (NestedKey × V)} (h : Loop s S r f kvs i kvs') (h0 : ¬ 0 < r.getD (f + i) 0) : Loop s S r f kvs (i + 1) kvs' := by
  refine ⟨h.good, ?_, h.oth, Nat.le_trans h.len ?_⟩
  · rw [partS_succ, if_neg h0]; exact h.val
  · refine Nat.add_le_add_left (Nat.mul_le_mul_right _ ?_) _
    rw [List.take_add_one, List.sum_append]
    exact Nat.le_add_right _ _
theorem Loop.next {s i x : Nat} {S r : List Nat} {f : Nat} {kvs kvs' kvs2 : List (NestedKey × V)} (h : Loop s S r f kvs i kvs') (hx : r[f + i]? = some x) (h0 : 0 < x)
    (hg : Good (s + S.sum) kvs2) (hs : Stay (s + S.sum) kvs' kvs2) (hl : kvs2.length ≤ kvs'.length + nb (s + S.sum)) :
    Loop s S r f kvs (i + 1) (putN kvs2 (nkD ((s + 1) :: S) r f) (.int ((partS (fun r => dl S r 0) s r f i : Nat) + (dl (s :: S) (drop1 r (f + i)) (f + i) : Nat)))) := by
  have hsum : ((s + 1) :: S).sum = s + 1 + S.sum := List.sum_cons
  have eg : r.getD (f + i) 0 = x := by rw [List.getD_eq_getElem?_getD, hx]; rfl
  refine ⟨fun S' r' f' v hS e => ?_, ?_, fun S' r' f' hS hne => ?_, ?_⟩
  · rw [look_putN, if_neg (fun z => by obtain ⟨rfl, _, _⟩ := nkD_inj z; omega)] at e
    exact hg S' r' f' v hS e
  · rw [look_putN, if_pos rfl, partS_succ, if_pos (by omega), Int.natCast_add]; rfl
  · rw [look_putN, if_neg hne, hs S' r' f' hS, h.oth S' r' f' hS hne]
  · have h1 := h.len
    have hin : kvs2.any (fun y => decide (y.1 = nkD ((s + 1) :: S) r f)) = true := by
      have hv := h.val
      rw [← hs _ _ _ (by omega)] at hv
      cases c : kvs2.any (fun y => decide (y.1 = nkD ((s + 1) :: S) r f)) with
      | true => rfl
      | false =>
        exfalso
        unfold lookN at hv
        rw [List.find?_eq_none.mpr fun y hy z => by
          have : kvs2.any (fun y => decide (y.1 = nkD ((s + 1) :: S) r f)) = true := List.any_eq_true.mpr ⟨y, hy, z⟩
          rw [c] at this; cases this] at hv
        cases hv
    have hlen : (putN kvs2 (nkD ((s + 1) :: S) r f) (.int ((partS (fun r => dl S r 0) s r f i : Nat) + (dl (s :: S) (drop1 r (f + i)) (f + i) : Nat)))).length = kvs2.length := by
      unfold putN
      rw [if_pos (show hasN kvs2 (nkD ((s + 1) :: S) r f) = true from hin), List.length_map]
    rw [hlen]
    have h2 : ((r.drop f).take (i + 1)).sum = ((r.drop f).take i).sum + x := by
      rw [List.take_add_one, List.sum_append, List.getElem?_drop, hx]
      show _ + (x + 0) = _
      rw [Nat.add_zero]
    rw [h2, Nat.add_mul]
    have h3 : 1 * nb (s + S.sum) ≤ x * nb (s + S.sum) := Nat.mul_le_mul_right _ h0
    omega
theorem Loop.done {s : Nat} {S r : List Nat} {f : Nat} {kvs kvs' : List (NestedKey × V)} (h : Loop s S r f kvs (r.length - f) kvs') (g : Good ((s + 1) :: S).sum kvs) (hF : Fit ((s + 1) :: S) r f) :
    lookN kvs' (nkD ((s + 1) :: S) r f) = some (.int (dl ((s + 1) :: S) r f : Nat)) ∧ Good ((s + 1) :: S).sum kvs' ∧ Stay ((s + 1) :: S).sum kvs kvs' ∧ kvs'.length ≤ kvs.length + nb ((s + 1) :: S).sum := by
  have hsum : ((s + 1) :: S).sum = s + 1 + S.sum := List.sum_cons
  have hv : lookN kvs' (nkD ((s + 1) :: S) r f) = some (.int (dl ((s + 1) :: S) r f : Nat)) := h.val
  refine ⟨hv, fun S' r' f' v hS e => ?_, fun S' r' f' hS => ?_, ?_⟩
  · by_cases c : S'.sum ≤ s + S.sum
    · exact h.good S' r' f' v c e
    · by_cases c2 : nkD S' r' f' = nkD ((s + 1) :: S) r f
      · rw [c2, hv] at e
        obtain ⟨rfl, rfl, rfl⟩ := nkD_inj c2
        exact (Option.some.inj e).symm
      · rw [h.oth S' r' f' (by omega) c2] at e
        exact g S' r' f' v hS e
  · exact h.oth S' r' f' (by omega) fun z => by
      obtain ⟨rfl, _, _⟩ := nkD_inj z
      omega
  · have h1 := h.len
    have e : nb ((s + 1) :: S).sum = 1 + (s + S.sum + 1) * nb (s + S.sum) := by
      rw [hsum, show s + 1 + S.sum = (s + S.sum) + 1 by omega]; rfl
    have h2 : ((r.drop f).take (r.length - f)).sum ≤ s + S.sum + 1 := by
      have a1 := sum_take_le' (r.drop f) (r.length - f)
      have a2 := sum_drop_le r f
      have := hF.eq
      omega
    have h3 := Nat.mul_le_mul_right (nb (s + S.sum)) h2
    omega
end K48
namespace K48
open PySem PySem.Spec PyProof.Rows L2 DL DCA DCR DCT DCU PF PD PH PI PJ
variable {n : Nat} {F W C : Nat → Nat → Int} {E : Nat → Nat → Bool} {a b p q : Nat → Nat}
theorem Fit.tail {S r : List Nat} {f : Nat} (h : Fit (0 :: S) r f) : Fit S r 0 := by
  obtain ⟨h1, h2, h3, h4, h5⟩ := h
  rw [List.sum_cons, Nat.zero_add] at h3 h4
  rw [List.length_cons] at h1
  exact ⟨by omega, h2, h3, h4, Nat.zero_le _⟩
theorem Fit.step {s k x : Nat} {S r : List Nat} {f : Nat} (h : Fit ((s + 1) :: S) r f) (hx : r[k]? = some x) (h0 : 0 < x) : Fit (s :: S) (drop1 r k) k := by
  obtain ⟨h1, h2, h3, h4, h5⟩ := h
  have hk := (List.getElem?_eq_some_iff.mp hx).1
  have := drop1_sum hx h0
  rw [List.sum_cons] at h3 h4
  rw [List.length_cons] at h1
  exact ⟨by rw [List.length_cons]; omega, by rw [drop1_len]; exact h2, by rw [List.sum_cons]; omega, by rw [List.sum_cons]; omega, by rw [drop1_len]; omega⟩
theorem dealt_body {cf : CF} {T : DEnds} {S r : List Nat} {f : Nat} {kvs : List (NestedKey × V)} (hF : Fit S r f) (rec : ∀ S' r' f', S'.sum + S'.length < S.sum + S.length → Fit S' r' f' → DealtOk cf S' r' f') (hg : Good S.sum kvs) (hl : kvs.length + nb S.sum ≤ 1000000)
    (h : ∀ kvs' x4 x5 x6, Good S.sum kvs' → Stay S.sum kvs kvs' → kvs'.length ≤ kvs.length + nb S.sum → T.rt (.fl, .int (dl S r f : Nat)) [some (.ow, .dcN kvs'), some (.fl, tI (toI S)), some (.fl, tI (toI r)), some (.fl, .int (f : Nat)), x4, x5, x6]) :
    sem__law_dealt cf T [some (.ow, .dcN kvs), some (.fl, tI (toI S)), some (.fl, tI (toI r)), some (.fl, .int (f : Nat)), none, none, none] := by
  refine ⟨tup_okE S, tup_okE [], ?_⟩
  show if PyData.eqv (D.tup ((toI S).map .int)).toP (D.tup []).toP = true then _ else _
  rw [eqv_ti]
  refine ifd (fun e => ?_) fun hne => ?_
  · subst e
    exact h kvs _ _ _ hg .refl (Nat.le_add_right _ _)
  · obtain ⟨s, S, rfl⟩ : ∃ s S', S = s :: S' := by
      cases S with
      | nil => exact absurd rfl hne
      | cons s S => exact ⟨s, S, rfl⟩
    refine go_ix (d := .int (s : Nat)) rfl (atI_nat (j := 0) rfl) ?_
    refine ifd (fun e => ?_) fun hs => ?_
    · obtain rfl : s = 0 := by omega
      have h0 : (0 :: S).sum = S.sum := by rw [List.sum_cons, Nat.zero_add]
      rw [h0] at hg hl h
      refine ⟨⟨_, rfl⟩, ?_⟩
      refine at_deal rfl (congrArg D.tup cut1) rfl rfl rfl (z' := ((0 : Nat) : Int)) rfl ?_
      exact rec S r 0 (by rw [List.length_cons]; omega) hF.tail kvs _ _ hg hl fun kvs' g1 g2 g3 => h kvs' _ _ _ g1 g2 g3
    · obtain ⟨s, rfl⟩ : ∃ t, s = t + 1 := ⟨s - 1, by omega⟩
      refine go_inN nkD_key rfl ?_
      cases hk : hasN kvs (nkD ((s + 1) :: S) r f) with
      | true =>
        obtain ⟨v, hv⟩ := look_has hk
        have ev := hg _ _ _ v (Nat.le_refl _) hv
        subst ev
        exact go_getN rfl nkD_key hv (h kvs _ _ _ hg .refl (Nat.le_add_right _ _))
      | false =>
        refine go_setN rfl nkD_key rfl (by omega) ?_
        have hfr := hF.fr
        have hlr := hF.lr
        refine go_R2 (n := r.length - f) (by rw [ints_len]; omega) (by rw [ints_len]; omega) ?_
        refine go_For (fun i ρ => ∃ kvs' x5 x6, Loop s S r f kvs i kvs' ∧ ρ = [some (.ow, .dcN kvs'), some (.fl, tI (toI ((s + 1) :: S))), some (.fl, tI (toI r)), some (.fl, .int (f : Nat)), some (.fl, .tup [tI (toI ((s + 1) :: S)), tI (toI r), .int (f : Nat)]), x5, x6]) ⟨_, none, none, .start hg, rfl⟩ (fun i z ρ N hz hI hN => ?_) fun ρ hI => ?_
        · obtain ⟨kvs', x5, x6, hL, rfl⟩ := hI
          obtain ⟨hi, rfl⟩ := range_get hz
          have hfi : f + i < r.length := by omega
          have hx : r[f + i]? = some r[f + i] := List.getElem?_eq_getElem hfi
          generalize r[f + i] = x at hx
          have eg : r.getD (f + i) 0 = x := by rw [List.getD_eq_getElem?_getD, hx]; rfl
          have ei : (f : Int) + (i : Int) = ((f + i : Nat) : Int) := (Int.natCast_add f i).symm
          have hsum : ((s + 1) :: S).sum = s + 1 + S.sum := List.sum_cons
          have hnb : nb ((s + 1) :: S).sum = 1 + (s + S.sum + 1) * nb (s + S.sum) := by
            rw [hsum, show s + 1 + S.sum = (s + S.sum) + 1 by omega]; rfl
          refine tl_ixI ei hx ?_
          refine ifd (fun h0 => ?_) fun h0 => ?_
          · have h0 : 0 < x := by omega
            refine tl_ixI ei hx ?_
            refine ⟨by rw [cut_take ei (by rw [ints_len]; omega), List.length_take, ints_len]; show min _ _ + 1 ≤ _; omega, ?_⟩
            refine ⟨by rw [List.length_append, cut_take ei (by rw [ints_len]; omega), cut_drop (k := f + i + 1) (by omega) (by rw [ints_len]; omega), List.length_take, List.length_drop, ints_len]; show min _ _ + 1 + _ ≤ _; omega, ?_⟩
            refine go_getN rfl nkD_key hL.val ?_
            refine ⟨⟨_, rfl⟩, ?_⟩
            refine go_ix (d := .int ((s + 1 : Nat) : Int)) rfl (atI_nat (j := 0) rfl) ?_
            refine ⟨by rw [show DL.cutD ((toI ((s + 1) :: S)).map D.int) (some 1) none = (toI S).map D.int from cut1, ints_len]; have := hF.ls; rw [List.length_cons] at this; show 1 + _ ≤ _; omega, ?_⟩
            refine at_deal (x' := tI (toI (s :: S))) rfl ?_ rfl (left_eq hx h0 ei (by omega) rfl) rfl ei ?_
            · show D.tup ([D.int (((s + 1 : Nat) : Int) - 1)] ++ DL.cutD ((toI ((s + 1) :: S)).map D.int) (some 1) none) = _
              rw [show DL.cutD ((toI ((s + 1) :: S)).map D.int) (some 1) none = (toI S).map D.int from cut1, show ((s + 1 : Nat) : Int) - 1 = (s : Nat) by omega]; rfl
            · have hss : (s :: S).sum = s + S.sum := List.sum_cons
              have hlen : kvs'.length + nb (s + S.sum) ≤ 1000000 := by
                have a1 := hL.len
                have a2 : ((r.drop f).take i).sum + x ≤ s + S.sum + 1 := by
                  have b1 : ((r.drop f).take (i + 1)).sum = ((r.drop f).take i).sum + x := by
                    rw [List.take_add_one, List.sum_append, List.getElem?_drop, hx]
                    show _ + (x + 0) = _
                    rw [Nat.add_zero]
                  have b2 := sum_take_le' (r.drop f) (i + 1)
                  have b3 := sum_drop_le r f
                  have := hF.eq
                  omega
                have a3 : (((r.drop f).take i).sum + 1) * nb (s + S.sum) ≤ (s + S.sum + 1) * nb (s + S.sum) := Nat.mul_le_mul_right _ (by omega)
                rw [Nat.add_mul, Nat.one_mul] at a3
                omega
              refine rec (s :: S) (drop1 r (f + i)) (f + i) (by rw [hss, hsum, List.length_cons, List.length_cons]; omega) (hF.step hx h0) kvs' _ _ (by rw [hss]; exact hL.good) (by rw [hss]; exact hlen) fun kvs2 g1 g2 g3 => ?_
              rw [hss] at g1 g2 g3
              refine go_setN rfl nkD_key rfl (by omega) ?_
              exact hN _ ⟨_, _, _, hL.next hx h0 g1 g2 g3, rfl⟩
          · exact hN _ ⟨kvs', _, _, hL.skip (by rw [eg]; omega), rfl⟩
        · obtain ⟨kvs', x5, x6, hL, rfl⟩ := hI
          rw [range_len] at hL
          obtain ⟨g0, g1, g2, g3⟩ := hL.done hg hF
          exact go_getN rfl nkD_key g0 (h kvs' _ _ _ g1 g2 g3)
theorem dealt_ok : ∀ (d : Nat) (S r : List Nat) (f : Nat), S.sum + S.length < d → Fit S r f → DealtOk (cfR__law_dealt d) S r f
  | 0, _, _, _, h, _ => absurd h (Nat.not_lt_zero _)
  | d + 1, S, r, f, hd, hF => fun kvs Q X hg hl h => by
    rw [cfR__law_dealt_succ]
    exact dealt_body hF (fun S' r' f' h1 h2 => dealt_ok d S' r' f' (by omega) h2) hg hl fun kvs' x4 x5 x6 g1 g2 g3 => h kvs' g1 g2 g3
theorem dealt_spec {S r : List Nat} {Q X} (hF : Fit S r 0) (h : ∀ kvs', Q (.fl, .int (ways S r : Nat)) [(.ow, .dcN kvs')]) : cf__law_dealt [(.ow, .dcN []), (.fl, tI (toI S)), (.fl, tI (toI r)), (.fl, .int 0)] Q X := by
  rw [cf__law_dealt_eq]
  have h8 := hF.s8
  have hl8 := hF.ls
  have hb : nb S.sum ≤ 69281 := by
    rcases (by omega : S.sum = 0 ∨ S.sum = 1 ∨ S.sum = 2 ∨ S.sum = 3 ∨ S.sum = 4 ∨ S.sum = 5 ∨ S.sum = 6 ∨ S.sum = 7 ∨ S.sum = 8) with e | e | e | e | e | e | e | e | e <;> rw [e] <;> decide
  refine dealt_ok 18 S r 0 (by omega) hF [] Q X (fun S' r' f' v _ e => by cases e) (by show 0 + _ ≤ _; omega) fun kvs' _ _ _ => ?_
  rw [dl_ways]
  exact h kvs'
end K48
namespace K48
open PySem PySem.Spec PyProof.Rows L2 DL DCA DCR DCT DCU PF PD PH PI PJ
variable {n : Nat} {F W C : Nat → Nat → Int} {E : Nat → Nat → Bool} {a b p q : Nat → Nat}
theorem fit_sets {Ew Ep : Nat → Nat → Bool} (hn : n ≤ 8) (ew : Eqv n Ew) (ep : Eqv n Ep) : Fit (szs Ew n) (szs Ep n) 0 := by
  have h1 := szs_len (E := Ew) (n := n)
  have h2 := szs_len (E := Ep) (n := n)
  exact ⟨by omega, by omega, by rw [szs_sum ew, szs_sum ep], by rw [szs_sum ew]; exact hn, Nat.zero_le _⟩
theorem num_okM {v : Nat} (h : v ≤ 40320) : (D.int (v : Nat)).okM := by
  refine ⟨decide_eq_true (Nat.lt_of_lt_of_le (show ((v : Nat) : Int).natAbs < 40321 by omega) (by decide)), ?_, ?_⟩
  · unfold D.sM; decide
  · unfold D.hM; decide
theorem len_nS {ds : List D} {k : Kd} {m : Nat} {P : KD → Prop} (e : ds.length = m) (p : P (.fl, .int (m : Nat))) : oLen [(k, .tup ds)] P := by subst e; exact p
theorem at_gone {x y : KD} {z z' : Int} {Q X} (e : z = z') (h : cf__law_gone_through [x, y, (.fl, .int z')] Q X) : cf__law_gone_through [x, y, (.fl, .int z)] Q X := e ▸ h
theorem law_spec {ns : List Int} (hl : ns.length ≤ 63) : cf_law [(.fl, .kst (ns.map .int))] (fun z _ => z = (.fl, .bl true)) (fun _ _ => False) := by
  rw [cf_law_eq]
  refine bag_spec hl fun d hd => ?_
  refine ⟨⟨_, rfl⟩, classed_specM hd (by decide) (by decide) fun n F W C d hn1 hn8 hF hd => ?_⟩
  have hn : n ≤ 8 := by omega
  refine ⟨⟨_, rfl⟩, other_spec hd hn1 hn fun F' W' C' d hd => ?_⟩
  refine for_cast (zs' := (([(F, W, C), (F', W', C'), (F, W, C)] : List ((Nat → Nat → Int) × (Nat → Nat → Int) × (Nat → Nat → Int))).map fun t => jobD n t.1 t.2.1 t.2.2).map (kel .fl)) rfl ?_
  refine go_ForL (fun _ ρ => ∃ a b c e x, ρ = [some (.fl, .kst (ns.map .int)), some (.ow, d), some (.fl, jobD n F W C), some (.fl, jobD n F' W' C'), a, b, c, e, x]) ⟨none, none, none, none, none, rfl⟩ (fun i t ρ N ht hI hN => ?_) fun ρ hI => ?_
  · obtain ⟨a, b, c, e, x, rfl⟩ := hI
    clear ht hF
    obtain ⟨F0, W0, C0⟩ := t
    have ew := aliveW_eqv (n := n) (F := F0) (C := C0)
    have ep := aliveP_eqv (n := n) (W := W0) (C := C0)
    have hwl : (part (aliveW n F0 C0) n).length ≤ 8 := by
      have := firsts_le (E := aliveW n F0 C0) (m := n)
      rw [part_len]; omega
    have hpl : (part (aliveP n W0 C0) n).length ≤ 8 := by
      have := firsts_le (E := aliveP n W0 C0) (m := n)
      rw [part_len]; omega
    have hW := ways_le (szs (aliveW n F0 C0) n) (szs (aliveP n W0 C0) n) (by rw [szs_sum ew, szs_sum ep])
    rw [szs_sum ep] at hW
    have hW := Nat.le_trans hW (fact8 hn)
    refine law_works_spec (by omega) (law_places_spec (by omega) ?_)
    refine lc_cast (congrArg (List.map (kel _)) setsD_map) (go_LcL (L := part (aliveW n F0 C0) n) (G := fun l => tI (toI l)) (fun l => .int (l.length : Nat)) (by omega) (fun i l N hl hN => ?_) ?_)
    · have e : ((toI l).map D.int).length = l.length := by rw [List.length_map, List.length_map]
      have : N (some (.fl, .int (((toI l).map D.int).length : Nat))) := by rw [e]; exact hN
      exact this
    refine lc_cast (congrArg (List.map (kel _)) setsD_map) (go_LcL (L := part (aliveP n W0 C0) n) (G := fun l => tI (toI l)) (fun l => .int (l.length : Nat)) (by omega) (fun i l N hl hN => ?_) ?_)
    · have e : ((toI l).map D.int).length = l.length := by rw [List.length_map, List.length_map]
      have : N (some (.fl, .int (((toI l).map D.int).length : Nat))) := by rw [e]; exact hN
      exact this
    have es : ∀ E : Nat → Nat → Bool, D.tup ((part E n).map fun l => D.int (l.length : Nat)) = tI (toI (szs E n)) := fun E => by
      unfold szs toI
      show _ = D.tup _
      rw [List.map_map, List.map_map]; rfl
    refine at_deal rfl (es _) rfl (es _) rfl rfl (dealt_spec (fit_sets hn ew ep) fun kvs => ?_)
    refine go_ix (d := tabD n F0) rfl rfl (len_nS tabl_len ?_)
    refine ifd (fun c6 => ?_) fun c6 => ?_
    · refine go_ix (d := tabD n F0) rfl rfl (len_nS tabl_len ?_)
      refine gone_spec (by omega) ew ep ?_
      refine ifdn (fun z => absurd rfl z) fun _ => ?_
      refine how_many_spec hn1 hn ⟨num_okM hW, num_okM hW, ?_⟩
      refine ifdn (fun z => absurd rfl z) fun _ => ?_
      exact hN _ ⟨_, _, _, _, _, rfl⟩
    · refine how_many_spec hn1 hn ⟨num_okM hW, num_okM hW, ?_⟩
      refine ifdn (fun z => absurd rfl z) fun _ => ?_
      exact hN _ ⟨_, _, _, _, _, rfl⟩
  · obtain ⟨a, b, c, e, x, rfl⟩ := hI
    rfl
end K48

open PySem PySem.W PySem.Calls PyProof.Rows
theorem PySem.Challenge.cw_spotlay_k48_how_many_unlike_holds : PySem.Challenge.rw_spotlay_k48_how_many_unlike.Holds := by
  w_on; o_law
  refine HandSHeadRun.head_any (r := OpenLaw.row PySem.Challenge.rw_spotlay_k48_how_many_unlike) (q := view (OpenLaw.row PySem.Challenge.rw_spotlay_k48_how_many_unlike).prog [26]) (H := K48.hk) (ob := K48.ob) (M := 6000) (loose := K48.loose)
    (d := HandSHeadRun.topDef (OpenLaw.row PySem.Challenge.rw_spotlay_k48_how_many_unlike).prog 26) (kwd := []) K48.ob_eq
    (by kernel_rfl) (fun s => by kernel_rfl) K48.run (by kernel_rfl) (by kernel_rfl) (by kernel_rfl) (by rfl)
    (by first | assumption | decide +kernel) (by decide +kernel) ⟨rfl, rfl, rfl, rfl, rfl, by decide +kernel⟩ ?hw ?hc
  case hw => w_witness2
  case hc =>
    refine DL.walk_ofG (l := PySem.Challenge.rw_spotlay_k48_how_many_unlike) (n := 63) (k := 20) (x := "script") (CX := fun _ => L2.CX0) rfl (by decide) (by kernel_rfl) ⟨rfl, by decide, by decide⟩ ?F (fun _ _ _ _ _ z => z)
    intro w mg fa h Y G hmg0
    obtain ⟨K, KX, c, l⟩ := Y
    have hmg : mg ("law" : PySem.Str) = some (.ref fa) := by
      have e : (HandSHeadRun.topDef (OpenLaw.row PySem.Challenge.rw_spotlay_k48_how_many_unlike).prog 26).name = ("law" : PySem.Str) := by kernel_rfl
      rw [← e]
      exact hmg0
    obtain ⟨L, rfl⟩ := K48.facts KX G hmg c l
    exact ⟨K, DL.spOf K 1 [false] K48.cf_law, KX, fun H a ns hl hO hS => DL.law_in hO hS (K48.law_spec hl), fun base _ _ => K48.ok_law L⟩
