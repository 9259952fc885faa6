import PyProof.Rows.All
import Wide.All
import OpenK.AllK
import Wide.FinOn
import HandS.ForMost
import HandS.HeadHook2
import HandS.TupAny
import HandS.TupMul
import HandS.Wide
import HandS.IsInst
import HandS.Walk
import HandS.Zip
import HandS.Defaults
import HandS.WordsExc
import HandS.SetFor
import HandS.Conv
import HandS.Ends
import KE.GoesMore
import PyProof.ReprLen
import PyProof.ReprRoads
import HandS.SortInts
import KE.KSortRegAny
import HandS.Exc
import HandS.ExcOwn
import HandS.TryOnly
import PyProof.ExcBaseAll.ValueError
import KE.GoesZip
import KE.GoesEnum
import HandS.Text
import HandS.Iter
import HandS.Small
import KE.KIndexOf
import PyProof.WalkInts
import HandS.Dict
import KE.KDictDisplayH
import KE.KDictWalk
import HandS.Style
import PyProof.AutoSeq1
import KE.DataMinMax
import KE.SortData
import HandS.Deep
import KE.KRevSl
import HandS.Head0
import HandS.Head1
import HandS.Head2
import HandS.HeadEnd
import HandS.HeadHook1
import PySem.Challenge.RW_spotlay_k31_hub_papers_looked_at
set_option Elab.async false
set_option linter.all false
set_option maxRecDepth 100000
set_option maxHeartbeats 0
/-! DL1: data, what stands for data in a heap, footprints -/
namespace DL
open PySem PySem.Spec PyProof.Rows L2

/-- what a value stands for -/
inductive D where
  | non | bl (b : Bool) | int (i : Int) | str (x : Str)
  | tup (xs : List D) | lst (xs : List D) | kst (xs : List D)
  | dcT (ks : List (List Key)) (vs : List D) | dcK (ks : List Key) (vs : List D)
  | obj (C : Str) (ns : List Str) (vs : List D)
  | frz (d : D)
  | fn (x : Str) | key (ns : List Int) | tpx (ns : List Int) | lkT (kvs : List (List Int × Int)) | any

/-- flat; one's own, its items flat; one's own; another's, its items flat; another's -/
inductive Kd where
  | fl | sh | ow | sa | rd
  deriving DecidableEq
abbrev KD := Kd × D
abbrev Sl := Option KD
abbrev Frg := PySem.W.Frag

/-- all of a set, and what never changes, is kept -/
def Imm : HO → Prop
  | .tup _ => True
  | .frz _ _ => True
  | _ => False
def Keep (A : Addr → Prop) (H H' : Hp) : Prop := ∀ a o, H a = some o → (A a ∨ Imm o) → H' a = some o
theorem Keep.of_same {A : Addr → Prop} {H H' : Hp} (s : Same H H') : Keep A H H' := fun a o e _ => s a o e

mutual
/-- v stands for d, its lists and dicts among A -/
def RA (K : Frg) (A : Addr → Prop) (H : Hp) : D → V → Prop
  | .non, v => v = .non
  | .bl b, v => v = .bl b
  | .int i, v => v = .int i
  | .str x, v => v = .str x
  | .fn x, v => v = .ref (He.ga K x)
  | .key ns, v => ∃ p, v = .ref p ∧ H p = some (.tup (ns.map V.int))
  | .tpx ns, v => ∃ p o, v = .ref p ∧ H p = some (.frz o (.tup (ns.map V.int))) ∧ o.dict = none
  | .lkT kvs, v => ∃ p o, v = .ref p ∧ H p = some (.frz o (.dT (kvs.map fun x => (x.1.map Sum.inl, V.int x.2))))
  | .any, v => v ≠ .non
  | .tup ds, v => ∃ p vs, v = .ref p ∧ SqT K H p vs ∧ RAs K A H ds vs
  | .lst ds, v => ∃ p vs, v = .ref p ∧ A p ∧ H p = some (.lst vs) ∧ RAs K A H ds vs
  | .kst ds, v => ∃ p vs, v = .ref p ∧ SqL K (fun a => match H a with | some (.frz o u) => some (.frz o u) | _ => none) p vs ∧ RAs K A H ds vs
  | .dcT ks ds, v => ∃ p kvs, v = .ref p ∧ A p ∧ Rd H p (.dT kvs) ∧ kvs.map (·.1) = ks ∧ RAs K A H ds (kvs.map (·.2))
  | .dcK ks ds, v => ∃ p kvs, v = .ref p ∧ A p ∧ Rd H p (.dK kvs) ∧ kvs.map (·.1) = ks ∧ RAs K A H ds (kvs.map (·.2))
  | .obj C ns ds, v => ∃ p dx fs, v = .ref p ∧ A p ∧ H p = some (.ins (He.ga K C) dx fs) ∧ fs.map (·.1) = ns ∧ RAs K A H ds (fs.map (·.2))
  | .frz d, v => RA K A H d v
def RAs (K : Frg) (A : Addr → Prop) (H : Hp) : List D → List V → Prop
  | [], vs => vs = []
  | d :: ds, vs => ∃ w ws, vs = w :: ws ∧ RA K A H d w ∧ RAs K A H ds ws
end

mutual
/-- v stands for d, its own lists and dicts just at fp; what is frozen within among A -/
def R (K : Frg) (A : Addr → Prop) (H : Hp) : D → V → List Addr → Prop
  | .tup ds, v, fp => ∃ p vs, v = .ref p ∧ SqT K H p vs ∧ Rs K A H ds vs fp
  | .lst ds, v, fp => ∃ p vs fps, v = .ref p ∧ fp = p :: fps ∧ H p = some (.lst vs) ∧ Rs K A H ds vs fps
  | .dcT ks ds, v, fp => ∃ p kvs fps, v = .ref p ∧ fp = p :: fps ∧ H p = some (.dT kvs) ∧ kvs.map (·.1) = ks ∧ Rs K A H ds (kvs.map (·.2)) fps
  | .dcK ks ds, v, fp => ∃ p kvs fps, v = .ref p ∧ fp = p :: fps ∧ H p = some (.dK kvs) ∧ kvs.map (·.1) = ks ∧ Rs K A H ds (kvs.map (·.2)) fps
  | .obj C ns ds, v, fp => ∃ p dx fs fps, v = .ref p ∧ fp = p :: fps ∧ H p = some (.ins (He.ga K C) dx fs) ∧ fs.map (·.1) = ns ∧ Rs K A H ds (fs.map (·.2)) fps
  | .frz d, v, fp => fp = [] ∧ RA K A H d v
  | d, v, fp => fp = [] ∧ RA K (fun _ => False) H d v
def Rs (K : Frg) (A : Addr → Prop) (H : Hp) : List D → List V → List Addr → Prop
  | [], vs, fp => vs = [] ∧ fp = []
  | d :: ds, vs, fp => ∃ w ws f1 f2, vs = w :: ws ∧ fp = f1 ++ f2 ∧ R K A H d w f1 ∧ Rs K A H ds ws f2
end

section
variable {K : Frg} {A B : Addr → Prop} {H H' : Hp}
theorem Rd.keep {p : Addr} {u : HO} (k : Keep A H H') (ha : A p) (r : Rd H p u) : Rd H' p u := by
  rcases r with r | ⟨o, r⟩
  · exact .inl (k _ _ r (.inl ha))
  · exact .inr ⟨o, k _ _ r (.inl ha)⟩
theorem SqT.keep {p : Addr} {vs : List V} (k : Keep A H H') (r : SqT K H p vs) : SqT K H' p vs := by
  rcases r with (r | ⟨o, r⟩) | r
  · exact .inl (.inl (k _ _ r (.inr trivial)))
  · exact .inl (.inr ⟨o, k _ _ r (.inr trivial)⟩)
  · exact .inr r
/-- the locked part of a heap -/
abbrev lockd (H : Hp) : Hp := fun a => match H a with | some (.frz o u) => some (.frz o u) | _ => none
theorem lockd_some {a : Addr} {x : HO} (h : lockd H a = some x) : H a = some x ∧ ∃ o u, x = .frz o u := by
  unfold lockd at h
  split at h
  · rename_i o u e
    cases h
    exact ⟨e, o, u, rfl⟩
  · cases h
theorem lockd_mk {a : Addr} {o : Obj} {u : HO} (h : H a = some (.frz o u)) : lockd H a = some (.frz o u) := by
  unfold lockd; rw [h]
theorem kst_keep {p : Addr} {vs : List V} (k : Keep A H H') (r : SqL K (lockd H) p vs) : SqL K (lockd H') p vs := by
  rcases r with (r | ⟨o, r⟩) | r
  · obtain ⟨_, o, u, e⟩ := lockd_some r
    cases e
  · exact .inl (.inr ⟨o, lockd_mk (k _ _ (lockd_some r).1 (.inr trivial))⟩)
  · exact .inr r
theorem kst_seq {p : Addr} {vs : List V} (r : SqL K (lockd H) p vs) : SqL K H p vs := by
  rcases r with (r | ⟨o, r⟩) | r
  · obtain ⟨_, o, u, e⟩ := lockd_some r
    cases e
  · exact .inl (.inr ⟨o, (lockd_some r).1⟩)
  · exact .inr r

mutual
theorem RA.keep (k : Keep A H H') : ∀ (d : D) (v : V), RA K A H d v → RA K A H' d v
  | .non, _, h => h
  | .bl _, _, h => h
  | .int _, _, h => h
  | .str _, _, h => h
  | .fn _, _, h => h
  | .key _, _, ⟨p, e, t⟩ => ⟨p, e, k _ _ t (.inr trivial)⟩
  | .tpx _, _, ⟨p, o, e, t, z⟩ => ⟨p, o, e, k _ _ t (.inr trivial), z⟩
  | .lkT _, _, ⟨p, o, e, t⟩ => ⟨p, o, e, k _ _ t (.inr trivial)⟩
  | .any, _, h => h
  | .tup ds, _, ⟨p, vs, e, t, r⟩ => ⟨p, vs, e, SqT.keep k t, RAs.keep k ds vs r⟩
  | .lst ds, _, ⟨p, vs, e, a, t, r⟩ => ⟨p, vs, e, a, k _ _ t (.inl a), RAs.keep k ds vs r⟩
  | .kst ds, _, ⟨p, vs, e, t, r⟩ => ⟨p, vs, e, kst_keep k t, RAs.keep k ds vs r⟩
  | .dcT ks ds, _, ⟨p, vs, e, a, t, q, r⟩ => ⟨p, vs, e, a, Rd.keep k a t, q, RAs.keep k ds _ r⟩
  | .dcK ks ds, _, ⟨p, vs, e, a, t, q, r⟩ => ⟨p, vs, e, a, Rd.keep k a t, q, RAs.keep k ds _ r⟩
  | .obj C ns ds, _, ⟨p, dx, fs, e, a, t, q, r⟩ => ⟨p, dx, fs, e, a, k _ _ t (.inl a), q, RAs.keep k ds _ r⟩
  | .frz d, v, h => RA.keep k d v h
theorem RAs.keep (k : Keep A H H') : ∀ (ds : List D) (vs : List V), RAs K A H ds vs → RAs K A H' ds vs
  | [], _, h => h
  | d :: ds, _, ⟨w, ws, e, h, r⟩ => ⟨w, ws, e, RA.keep k d w h, RAs.keep k ds ws r⟩
end
mutual
theorem RA.mono (m : ∀ a, A a → B a) : ∀ (d : D) (v : V), RA K A H d v → RA K B H d v
  | .non, _, h => h
  | .bl _, _, h => h
  | .int _, _, h => h
  | .str _, _, h => h
  | .fn _, _, h => h
  | .key _, _, h => h
  | .tpx _, _, h => h
  | .lkT _, _, h => h
  | .any, _, h => h
  | .tup ds, _, ⟨p, vs, e, t, r⟩ => ⟨p, vs, e, t, RAs.mono m ds vs r⟩
  | .lst ds, _, ⟨p, vs, e, a, t, r⟩ => ⟨p, vs, e, m _ a, t, RAs.mono m ds vs r⟩
  | .kst ds, _, ⟨p, vs, e, t, r⟩ => ⟨p, vs, e, t, RAs.mono m ds vs r⟩
  | .dcT ks ds, _, ⟨p, vs, e, a, t, q, r⟩ => ⟨p, vs, e, m _ a, t, q, RAs.mono m ds _ r⟩
  | .dcK ks ds, _, ⟨p, vs, e, a, t, q, r⟩ => ⟨p, vs, e, m _ a, t, q, RAs.mono m ds _ r⟩
  | .obj C ns ds, _, ⟨p, dx, fs, e, a, t, q, r⟩ => ⟨p, dx, fs, e, m _ a, t, q, RAs.mono m ds _ r⟩
  | .frz d, v, h => RA.mono m d v h
theorem RAs.mono (m : ∀ a, A a → B a) : ∀ (ds : List D) (vs : List V), RAs K A H ds vs → RAs K B H ds vs
  | [], _, h => h
  | d :: ds, _, ⟨w, ws, e, h, r⟩ => ⟨w, ws, e, RA.mono m d w h, RAs.mono m ds ws r⟩
end
end

/-! ### footprints -/
/-- what may be one's own -/
def Mu : HO → Prop
  | .lst _ => True
  | .dT _ => True
  | .dK _ => True
  | .ins _ _ _ => True
  | _ => False
theorem Mu.notImm : ∀ {o : HO}, Mu o → ¬ Imm o := by
  intro o h1 h2; cases o <;> first | exact h1 | exact h2
abbrev No : Addr → Prop := fun _ => False
section
variable {K : Frg} {A B : Addr → Prop} {H H' : Hp}
theorem RA.same (s : Same H H') {d : D} {v : V} (h : RA K A H d v) : RA K A H' d v := RA.keep (Keep.of_same s) d v h
theorem RA.no {d : D} {v : V} (h : RA K No H d v) : RA K A H d v := RA.mono (fun _ z => z.elim) d v h
theorem RAs.no {ds : List D} {vs : List V} (h : RAs K No H ds vs) : RAs K A H ds vs := RAs.mono (fun _ z => z.elim) ds vs h
theorem RAs.same (s : Same H H') {d : List D} {v : List V} (h : RAs K A H d v) : RAs K A H' d v := RAs.keep (Keep.of_same s) d v h
theorem RAs.nil : RAs K A H [] [] := rfl
theorem RAs.cons {d : D} {v : V} {ds : List D} {vs : List V} (h : RA K A H d v) (t : RAs K A H ds vs) : RAs K A H (d :: ds) (v :: vs) := ⟨v, vs, rfl, h, t⟩
theorem RAs.len : ∀ {ds : List D} {vs : List V}, RAs K A H ds vs → vs.length = ds.length
  | [], _, h => by rw [show _ = [] from h]; rfl
  | d :: ds, _, ⟨w, ws, e, _, t⟩ => by rw [e, List.length_cons, List.length_cons, RAs.len t]
theorem RAs.get : ∀ {ds : List D} {vs : List V} {j : Nat} {d : D}, RAs K A H ds vs → ds[j]? = some d → ∃ w, vs[j]? = some w ∧ RA K A H d w
  | [], _, _, _, _, e => by simp at e
  | d :: ds, _, 0, x, ⟨w, ws, e, h, t⟩, q => by
    have : d = x := Option.some.inj q
    subst this e
    exact ⟨w, rfl, h⟩
  | d :: ds, _, j + 1, x, ⟨w, ws, e, h, t⟩, q => by
    subst e
    exact RAs.get (j := j) t q
theorem RAs.getV : ∀ {ds : List D} {vs : List V} {j : Nat} {w : V}, RAs K A H ds vs → vs[j]? = some w → ∃ d, ds[j]? = some d ∧ RA K A H d w
  | [], _, _, _, h, e => by rw [show _ = [] from h] at e; simp at e
  | d :: ds, _, 0, x, ⟨w, ws, e, h, t⟩, q => by
    subst e
    have : w = x := Option.some.inj q
    subst this
    exact ⟨d, rfl, h⟩
  | d :: ds, _, j + 1, x, ⟨w, ws, e, h, t⟩, q => by
    subst e
    exact RAs.getV (j := j) t q
theorem RAs.append : ∀ {ds es : List D} {vs ws : List V}, RAs K A H ds vs → RAs K A H es ws → RAs K A H (ds ++ es) (vs ++ ws)
  | [], _, _, _, h, t => by rw [show _ = [] from h]; exact t
  | d :: ds, _, _, _, ⟨w, ws, e, h, t⟩, q => by subst e; exact .cons h (RAs.append t q)
theorem RAs.one {d : D} {v : V} (h : RA K A H d v) : RAs K A H [d] [v] := .cons h .nil
theorem RAs.set : ∀ {ds : List D} {vs : List V} {j : Nat} {d : D} {w : V}, RAs K A H ds vs → RA K A H d w → RAs K A H (ds.set j d) (vs.set j w)
  | [], _, _, _, _, h, _ => by rw [show _ = [] from h]; exact .nil
  | d :: ds, _, 0, x, _, ⟨w, ws, e, h, t⟩, q => by subst e; exact .cons q t
  | d :: ds, _, j + 1, x, _, ⟨w, ws, e, h, t⟩, q => by subst e; exact .cons h (RAs.set t q)
theorem RAs.take : ∀ {ds : List D} {vs : List V} (n : Nat), RAs K A H ds vs → RAs K A H (ds.take n) (vs.take n)
  | _, _, 0, _ => by simp; exact .nil
  | [], _, n + 1, h => by rw [show _ = [] from h]; exact .nil
  | d :: ds, _, n + 1, ⟨w, ws, e, h, t⟩ => by subst e; exact .cons h (RAs.take n t)
theorem RAs.drop : ∀ {ds : List D} {vs : List V} (n : Nat), RAs K A H ds vs → RAs K A H (ds.drop n) (vs.drop n)
  | _, _, 0, h => h
  | [], _, n + 1, h => by rw [show _ = [] from h]; exact .nil
  | d :: ds, _, n + 1, ⟨w, ws, e, h, t⟩ => by subst e; exact RAs.drop n t
theorem RAs.eraseIdx {ds : List D} {vs : List V} (n : Nat) (h : RAs K A H ds vs) : RAs K A H (ds.eraseIdx n) (vs.eraseIdx n) := by
  rw [List.eraseIdx_eq_take_drop_succ, List.eraseIdx_eq_take_drop_succ]
  exact (h.take n).append (h.drop (n + 1))
theorem RAs.dropLast {ds : List D} {vs : List V} (h : RAs K A H ds vs) : RAs K A H ds.dropLast vs.dropLast := by
  rw [List.dropLast_eq_take, List.dropLast_eq_take, h.len]
  exact h.take _
theorem RAs.reverse : ∀ {ds : List D} {vs : List V}, RAs K A H ds vs → RAs K A H ds.reverse vs.reverse
  | [], _, h => by rw [show _ = [] from h]; exact .nil
  | d :: ds, _, ⟨w, ws, e, h, t⟩ => by
    subst e
    rw [List.reverse_cons, List.reverse_cons]
    exact (RAs.reverse t).append (.one h)
/-- scalars -/
theorem RA.int {i : Int} : RA K A H (.int i) (.int i) := rfl
theorem RA.bl {i : Bool} : RA K A H (.bl i) (.bl i) := rfl
theorem RA.str {i : Str} : RA K A H (.str i) (.str i) := rfl
theorem RA.non : RA K A H .non .non := rfl

/-- kept by what keeps the footprint, the frozen ones and what never changes -/
def KeepF (A : Addr → Prop) (fp : List Addr) (H H' : Hp) : Prop := ∀ a o, H a = some o → (a ∈ fp ∨ A a ∨ Imm o) → H' a = some o
theorem KeepF.keep {fp : List Addr} (k : KeepF A fp H H') : Keep A H H' := fun a o e h => k a o e (.inr h)
theorem KeepF.of_same {fp : List Addr} (s : Same H H') : KeepF A fp H H' := fun a o e _ => s a o e
theorem KeepF.no {fp : List Addr} (k : KeepF A fp H H') : KeepF No fp H H' := fun a o e h => k a o e (by rcases h with h | h | h; exact .inl h; exact h.elim; exact .inr (.inr h))
theorem KeepF.sub {f g : List Addr} (k : KeepF A f H H') (s : ∀ a ∈ g, a ∈ f) : KeepF A g H H' := fun a o e h => k a o e (h.imp (s a) id)
theorem Keep.no (k : Keep A H H') : Keep No H H' := fun a o e h => k a o e (h.imp (fun z => z.elim) id)
mutual
theorem R.keep : ∀ (d : D) (v : V) (fp : List Addr), KeepF A fp H H' → R K A H d v fp → R K A H' d v fp
  | .non, _, _, _, h => h
  | .bl _, _, _, _, h => h
  | .int _, _, _, _, h => h
  | .str _, _, _, _, h => h
  | .fn _, _, _, _, h => h
  | .key ns, v, _, k, ⟨e, h⟩ => ⟨e, RA.keep k.keep.no (.key ns) v h⟩
  | .tpx ns, v, _, k, ⟨e, h⟩ => ⟨e, RA.keep k.keep.no (.tpx ns) v h⟩
  | .lkT ns, v, _, k, ⟨e, h⟩ => ⟨e, RA.keep k.keep.no (.lkT ns) v h⟩
  | .any, _, _, _, h => h
  | .kst ds, v, _, k, ⟨e, h⟩ => ⟨e, RA.keep k.keep.no (.kst ds) v h⟩
  | .tup ds, _, fp, k, ⟨p, vs, e, t, r⟩ => ⟨p, vs, e, SqT.keep k.keep t, Rs.keep ds vs fp k r⟩
  | .lst ds, _, fp, k, ⟨p, vs, fps, e, e2, t, r⟩ => ⟨p, vs, fps, e, e2, k _ _ t (.inl (by rw [e2]; exact List.mem_cons_self)), Rs.keep ds vs fps (k.sub fun a h => by rw [e2]; exact List.mem_cons_of_mem _ h) r⟩
  | .dcT ks ds, _, fp, k, ⟨p, vs, fps, e, e2, t, q, r⟩ => ⟨p, vs, fps, e, e2, k _ _ t (.inl (by rw [e2]; exact List.mem_cons_self)), q, Rs.keep ds _ fps (k.sub fun a h => by rw [e2]; exact List.mem_cons_of_mem _ h) r⟩
  | .dcK ks ds, _, fp, k, ⟨p, vs, fps, e, e2, t, q, r⟩ => ⟨p, vs, fps, e, e2, k _ _ t (.inl (by rw [e2]; exact List.mem_cons_self)), q, Rs.keep ds _ fps (k.sub fun a h => by rw [e2]; exact List.mem_cons_of_mem _ h) r⟩
  | .obj C ns ds, _, fp, k, ⟨p, dx, fs, fps, e, e2, t, q, r⟩ => ⟨p, dx, fs, fps, e, e2, k _ _ t (.inl (by rw [e2]; exact List.mem_cons_self)), q, Rs.keep ds _ fps (k.sub fun a h => by rw [e2]; exact List.mem_cons_of_mem _ h) r⟩
  | .frz d, v, fp, k, ⟨e, h⟩ => ⟨e, RA.keep k.keep d v h⟩
theorem Rs.keep : ∀ (ds : List D) (vs : List V) (fp : List Addr), KeepF A fp H H' → Rs K A H ds vs fp → Rs K A H' ds vs fp
  | [], _, _, _, h => h
  | d :: ds, _, fp, k, ⟨w, ws, f1, f2, e, e2, h, r⟩ => ⟨w, ws, f1, f2, e, e2, R.keep d w f1 (k.sub fun a h => by rw [e2]; exact List.mem_append_left _ h) h, Rs.keep ds ws f2 (k.sub fun a h => by rw [e2]; exact List.mem_append_right _ h) r⟩
end
mutual
theorem R.mono (m : ∀ a, A a → B a) : ∀ (d : D) (v : V) (fp : List Addr), R K A H d v fp → R K B H d v fp
  | .non, _, _, h => h
  | .bl _, _, _, h => h
  | .int _, _, _, h => h
  | .str _, _, _, h => h
  | .fn _, _, _, h => h
  | .key _, _, _, h => h
  | .tpx _, _, _, h => h
  | .lkT _, _, _, h => h
  | .any, _, _, h => h
  | .kst ds, v, _, h => h
  | .tup ds, _, fp, ⟨p, vs, e, t, r⟩ => ⟨p, vs, e, t, Rs.mono m ds vs fp r⟩
  | .lst ds, _, fp, ⟨p, vs, fps, e, e2, t, r⟩ => ⟨p, vs, fps, e, e2, t, Rs.mono m ds vs fps r⟩
  | .dcT ks ds, _, fp, ⟨p, vs, fps, e, e2, t, q, r⟩ => ⟨p, vs, fps, e, e2, t, q, Rs.mono m ds _ fps r⟩
  | .dcK ks ds, _, fp, ⟨p, vs, fps, e, e2, t, q, r⟩ => ⟨p, vs, fps, e, e2, t, q, Rs.mono m ds _ fps r⟩
  | .obj C ns ds, _, fp, ⟨p, dx, fs, fps, e, e2, t, q, r⟩ => ⟨p, dx, fs, fps, e, e2, t, q, Rs.mono m ds _ fps r⟩
  | .frz d, v, fp, ⟨e, h⟩ => ⟨e, RA.mono m d v h⟩
theorem Rs.mono (m : ∀ a, A a → B a) : ∀ (ds : List D) (vs : List V) (fp : List Addr), Rs K A H ds vs fp → Rs K B H ds vs fp
  | [], _, _, h => h
  | d :: ds, _, fp, ⟨w, ws, f1, f2, e, e2, h, r⟩ => ⟨w, ws, f1, f2, e, e2, R.mono m d w f1 h, Rs.mono m ds ws f2 r⟩
end
mutual
/-- to be read only -/
theorem R.ra (m : ∀ a, A a → B a) : ∀ (d : D) (v : V) (fp : List Addr), (∀ a ∈ fp, B a) → R K A H d v fp → RA K B H d v
  | .non, _, _, _, h => h.2
  | .bl _, _, _, _, h => h.2
  | .int _, _, _, _, h => h.2
  | .str _, _, _, _, h => h.2
  | .fn _, _, _, _, h => h.2
  | .key _, _, _, _, h => h.2
  | .tpx _, _, _, _, h => h.2
  | .lkT _, _, _, _, h => h.2
  | .any, _, _, _, h => h.2
  | .kst ds, v, _, _, h => RA.no h.2
  | .tup ds, _, fp, k, ⟨p, vs, e, t, r⟩ => ⟨p, vs, e, t, Rs.ra m ds vs fp k r⟩
  | .lst ds, _, fp, k, ⟨p, vs, fps, e, e2, t, r⟩ => ⟨p, vs, e, k _ (by rw [e2]; exact List.mem_cons_self), t, Rs.ra m ds vs fps (fun a h => k a (by rw [e2]; exact List.mem_cons_of_mem _ h)) r⟩
  | .dcT ks ds, _, fp, k, ⟨p, vs, fps, e, e2, t, q, r⟩ => ⟨p, vs, e, k _ (by rw [e2]; exact List.mem_cons_self), .inl t, q, Rs.ra m ds _ fps (fun a h => k a (by rw [e2]; exact List.mem_cons_of_mem _ h)) r⟩
  | .dcK ks ds, _, fp, k, ⟨p, vs, fps, e, e2, t, q, r⟩ => ⟨p, vs, e, k _ (by rw [e2]; exact List.mem_cons_self), .inl t, q, Rs.ra m ds _ fps (fun a h => k a (by rw [e2]; exact List.mem_cons_of_mem _ h)) r⟩
  | .obj C ns ds, _, fp, k, ⟨p, dx, fs, fps, e, e2, t, q, r⟩ => ⟨p, dx, fs, e, k _ (by rw [e2]; exact List.mem_cons_self), t, q, Rs.ra m ds _ fps (fun a h => k a (by rw [e2]; exact List.mem_cons_of_mem _ h)) r⟩
  | .frz d, v, fp, _, ⟨e, h⟩ => RA.mono m d v h
theorem Rs.ra (m : ∀ a, A a → B a) : ∀ (ds : List D) (vs : List V) (fp : List Addr), (∀ a ∈ fp, B a) → Rs K A H ds vs fp → RAs K B H ds vs
  | [], _, _, _, h => h.1
  | d :: ds, _, fp, k, ⟨w, ws, f1, f2, e, e2, h, r⟩ => ⟨w, ws, e, R.ra m d w f1 (fun a h => k a (by rw [e2]; exact List.mem_append_left _ h)) h, Rs.ra m ds ws f2 (fun a h => k a (by rw [e2]; exact List.mem_append_right _ h)) r⟩
end
mutual
/-- what is flat has no footprint -/
theorem R.of0 : ∀ (d : D) (v : V), RA K No H d v → R K A H d v []
  | .non, _, h => ⟨rfl, h⟩
  | .bl _, _, h => ⟨rfl, h⟩
  | .int _, _, h => ⟨rfl, h⟩
  | .str _, _, h => ⟨rfl, h⟩
  | .fn _, _, h => ⟨rfl, h⟩
  | .key _, _, h => ⟨rfl, h⟩
  | .tpx _, _, h => ⟨rfl, h⟩
  | .lkT _, _, h => ⟨rfl, h⟩
  | .any, _, h => ⟨rfl, h⟩
  | .kst ds, v, h => ⟨rfl, h⟩
  | .tup ds, _, ⟨p, vs, e, t, r⟩ => ⟨p, vs, e, t, Rs.of0 ds vs r⟩
  | .lst ds, _, ⟨_, _, _, a, _⟩ => a.elim
  | .dcT ks ds, _, ⟨_, _, _, a, _⟩ => a.elim
  | .dcK ks ds, _, ⟨_, _, _, a, _⟩ => a.elim
  | .obj C ns ds, _, ⟨_, _, _, _, a, _⟩ => a.elim
  | .frz d, v, h => ⟨rfl, RA.no h⟩
theorem Rs.of0 : ∀ (ds : List D) (vs : List V), RAs K No H ds vs → Rs K A H ds vs []
  | [], _, h => ⟨h, rfl⟩
  | d :: ds, _, ⟨w, ws, e, h, r⟩ => ⟨w, ws, [], [], e, rfl, R.of0 d w h, Rs.of0 ds ws r⟩
end
mutual
theorem R.nil0 : ∀ (d : D) (v : V) (fp : List Addr), RA K No H d v → R K A H' d v fp → fp = []
  | .non, _, _, _, h => h.1
  | .bl _, _, _, _, h => h.1
  | .int _, _, _, _, h => h.1
  | .str _, _, _, _, h => h.1
  | .fn _, _, _, _, h => h.1
  | .key _, _, _, _, h => h.1
  | .tpx _, _, _, _, h => h.1
  | .lkT _, _, _, _, h => h.1
  | .any, _, _, _, h => h.1
  | .kst ds, v, _, _, h => h.1
  | .tup ds, _, fp, ⟨p, vs, e, t, r⟩, ⟨p', vs', e', t', r'⟩ => Rs.nil0 ds fp ⟨vs, r⟩ ⟨vs', r'⟩
  | .lst ds, _, _, ⟨_, _, _, a, _⟩, _ => a.elim
  | .dcT ks ds, _, _, ⟨_, _, _, a, _⟩, _ => a.elim
  | .dcK ks ds, _, _, ⟨_, _, _, a, _⟩, _ => a.elim
  | .obj C ns ds, _, _, ⟨_, _, _, _, a, _⟩, _ => a.elim
  | .frz d, v, _, _, h => h.1
theorem Rs.nil0 : ∀ (ds : List D) (fp : List Addr), (∃ vs, RAs K No H ds vs) → (∃ vs, Rs K A H' ds vs fp) → fp = []
  | [], _, _, ⟨_, h⟩ => h.2
  | d :: ds, fp, ⟨_, w, ws, e, h, r⟩, ⟨_, w', ws', f1, f2, e', e2, h', r'⟩ => by
    rw [e2, R.nil1 d f1 ⟨w, h⟩ ⟨w', h'⟩, Rs.nil0 ds f2 ⟨ws, r⟩ ⟨ws', r'⟩]; rfl
theorem R.nil1 : ∀ (d : D) (fp : List Addr), (∃ v, RA K No H d v) → (∃ v, R K A H' d v fp) → fp = []
  | .non, _, _, ⟨_, h⟩ => h.1
  | .bl _, _, _, ⟨_, h⟩ => h.1
  | .int _, _, _, ⟨_, h⟩ => h.1
  | .str _, _, _, ⟨_, h⟩ => h.1
  | .fn _, _, _, ⟨_, h⟩ => h.1
  | .key _, _, _, ⟨_, h⟩ => h.1
  | .tpx _, _, _, ⟨_, h⟩ => h.1
  | .lkT _, _, _, ⟨_, h⟩ => h.1
  | .any, _, _, ⟨_, h⟩ => h.1
  | .kst ds, _, _, ⟨_, h⟩ => h.1
  | .tup ds, fp, ⟨_, p, vs, e, t, r⟩, ⟨_, p', vs', e', t', r'⟩ => Rs.nil0 ds fp ⟨vs, r⟩ ⟨vs', r'⟩
  | .lst ds, _, ⟨_, _, _, _, a, _⟩, _ => a.elim
  | .dcT ks ds, _, ⟨_, _, _, _, a, _⟩, _ => a.elim
  | .dcK ks ds, _, ⟨_, _, _, _, a, _⟩, _ => a.elim
  | .obj C ns ds, _, ⟨_, _, _, _, _, a, _⟩, _ => a.elim
  | .frz d, _, _, ⟨_, h⟩ => h.1
end
mutual
theorem R.mu : ∀ (d : D) (v : V) (fp : List Addr), R K A H d v fp → ∀ a ∈ fp, ∃ o, H a = some o ∧ Mu o
  | .non, _, _, h => fun a q => by rw [h.1] at q; cases q
  | .bl _, _, _, h => fun a q => by rw [h.1] at q; cases q
  | .int _, _, _, h => fun a q => by rw [h.1] at q; cases q
  | .str _, _, _, h => fun a q => by rw [h.1] at q; cases q
  | .fn _, _, _, h => fun a q => by rw [h.1] at q; cases q
  | .key _, _, _, h => fun a q => by rw [h.1] at q; cases q
  | .tpx _, _, _, h => fun a q => by rw [h.1] at q; cases q
  | .lkT _, _, _, h => fun a q => by rw [h.1] at q; cases q
  | .any, _, _, h => fun a q => by rw [h.1] at q; cases q
  | .kst ds, v, _, h => fun a q => by rw [h.1] at q; cases q
  | .tup ds, _, fp, ⟨p, vs, e, t, r⟩ => Rs.mu ds vs fp r
  | .lst ds, _, fp, ⟨p, vs, fps, e, e2, t, r⟩ => fun a q => by
    rw [e2] at q
    rcases List.mem_cons.mp q with rfl | q
    · exact ⟨_, t, trivial⟩
    · exact Rs.mu ds vs fps r a q
  | .dcT ks ds, _, fp, ⟨p, vs, fps, e, e2, t, _, r⟩ => fun a q => by
    rw [e2] at q
    rcases List.mem_cons.mp q with rfl | q
    · exact ⟨_, t, trivial⟩
    · exact Rs.mu ds _ fps r a q
  | .dcK ks ds, _, fp, ⟨p, vs, fps, e, e2, t, _, r⟩ => fun a q => by
    rw [e2] at q
    rcases List.mem_cons.mp q with rfl | q
    · exact ⟨_, t, trivial⟩
    · exact Rs.mu ds _ fps r a q
  | .obj C ns ds, _, fp, ⟨p, dx, fs, fps, e, e2, t, _, r⟩ => fun a q => by
    rw [e2] at q
    rcases List.mem_cons.mp q with rfl | q
    · exact ⟨_, t, trivial⟩
    · exact Rs.mu ds _ fps r a q
  | .frz d, v, _, h => fun a q => by rw [h.1] at q; cases q
theorem Rs.mu : ∀ (ds : List D) (vs : List V) (fp : List Addr), Rs K A H ds vs fp → ∀ a ∈ fp, ∃ o, H a = some o ∧ Mu o
  | [], _, _, h => fun a q => by rw [h.2] at q; cases q
  | d :: ds, _, fp, ⟨w, ws, f1, f2, e, e2, h, r⟩ => fun a q => by
    rw [e2] at q
    rcases List.mem_append.mp q with q | q
    · exact R.mu d w f1 h a q
    · exact Rs.mu ds ws f2 r a q
end
/-! ### items -/
theorem Rs.nil : Rs K A H [] [] [] := ⟨rfl, rfl⟩
theorem Rs.cons {d : D} {v : V} {ds : List D} {vs : List V} {f g : List Addr} (h : R K A H d v f) (t : Rs K A H ds vs g) : Rs K A H (d :: ds) (v :: vs) (f ++ g) := ⟨v, vs, f, g, rfl, rfl, h, t⟩
theorem Rs.len : ∀ {ds : List D} {vs : List V} {fp : List Addr}, Rs K A H ds vs fp → vs.length = ds.length
  | [], _, _, h => by rw [h.1]; rfl
  | d :: ds, _, _, ⟨w, ws, _, _, e, _, _, t⟩ => by rw [e, List.length_cons, List.length_cons, Rs.len t]
theorem Rs.append : ∀ {ds es : List D} {vs ws : List V} {f g : List Addr}, Rs K A H ds vs f → Rs K A H es ws g → Rs K A H (ds ++ es) (vs ++ ws) (f ++ g)
  | [], _, _, _, _, _, h, t => by rw [h.1, h.2]; exact t
  | d :: ds, _, _, _, _, _, ⟨w, ws, f1, f2, e, e2, h, t⟩, q => by subst e e2; rw [List.append_assoc]; exact .cons h (Rs.append t q)
theorem Rs.one {d : D} {v : V} {f : List Addr} (h : R K A H d v f) : Rs K A H [d] [v] f := ⟨v, [], f, [], rfl, (List.append_nil f).symm, h, .nil⟩
/-- the j-th of them apart -/
theorem Rs.split : ∀ {ds : List D} {vs : List V} {fp : List Addr} {j : Nat} {d : D}, Rs K A H ds vs fp → ds[j]? = some d →
    ∃ w f1 f2 f3, vs[j]? = some w ∧ fp = f1 ++ (f2 ++ f3) ∧ Rs K A H (ds.take j) (vs.take j) f1 ∧ R K A H d w f2 ∧ Rs K A H (ds.drop (j + 1)) (vs.drop (j + 1)) f3
  | [], _, _, _, _, _, e => by simp at e
  | d :: ds, _, _, 0, x, ⟨w, ws, f1, f2, e, e2, h, t⟩, q => by
    have : d = x := Option.some.inj q
    subst this e e2
    exact ⟨w, [], f1, f2, rfl, rfl, .nil, h, t⟩
  | d :: ds, _, _, j + 1, x, ⟨w, ws, f1, f2, e, e2, h, t⟩, q => by
    subst e e2
    obtain ⟨y, g1, g2, g3, a, b, c, d', e'⟩ := Rs.split (j := j) t q
    exact ⟨y, f1 ++ g1, g2, g3, a, by rw [b, List.append_assoc], .cons h c, d', e'⟩
theorem set_split {α : Type} {l : List α} {j : Nat} {x y : α} (h : l[j]? = some x) : l.set j y = l.take j ++ y :: l.drop (j + 1) := by
  have hl : j < l.length := (List.getElem?_eq_some_iff.mp h).1
  rw [List.set_eq_take_append_cons_drop, if_pos hl]
theorem Rs.put {ds : List D} {vs : List V} {j : Nat} {d d' : D} {w w' : V} {f1 f2 f3 : List Addr} (hd : ds[j]? = some d) (hv : vs[j]? = some w)
    (h1 : Rs K A H (ds.take j) (vs.take j) f1) (h2 : R K A H d' w' f2) (h3 : Rs K A H (ds.drop (j + 1)) (vs.drop (j + 1)) f3) : Rs K A H (ds.set j d') (vs.set j w') (f1 ++ (f2 ++ f3)) := by
  rw [set_split hd, set_split hv]
  exact h1.append (.cons h2 h3)
theorem Rs.take : ∀ {ds : List D} {vs : List V} {fp : List Addr} (n : Nat), Rs K A H ds vs fp → ∃ f1 f2, fp = f1 ++ f2 ∧ Rs K A H (ds.take n) (vs.take n) f1 ∧ Rs K A H (ds.drop n) (vs.drop n) f2
  | _, _, fp, 0, h => ⟨[], fp, rfl, by simp; exact .nil, h⟩
  | [], _, fp, n + 1, h => by obtain ⟨e1, e2⟩ := h; subst e1 e2; exact ⟨[], [], rfl, .nil, .nil⟩
  | d :: ds, _, _, n + 1, ⟨w, ws, f1, f2, e, e2, h, t⟩ => by
    subst e e2
    obtain ⟨g1, g2, a, b, c⟩ := Rs.take n t
    exact ⟨f1 ++ g1, g2, by rw [a, List.append_assoc], .cons h b, c⟩
theorem set_same {α : Type} {l : List α} {j : Nat} {x : α} (h : l[j]? = some x) : l.set j x = l := by
  apply List.ext_getElem?
  intro i
  by_cases hi : j = i
  · subst hi
    rw [List.getElem?_set_self (List.getElem?_eq_some_iff.mp h).1, h]
  · rw [List.getElem?_set_ne hi]
end

/-! ### a place within what is one's own -/
section
variable {K : Frg} {A : Addr → Prop} {H H1 : Hp}
/-- within d (v, at fp) stands e (w, at fe); rb puts another thing there -/
def Zip (K : Frg) (A : Addr → Prop) (H : Hp) (d : D) (v : V) (fp : List Addr) (rb : D → D) (e : D) (w : V) (fe : List Addr) : Prop :=
  ∃ f1 f2, fp = f1 ++ (fe ++ f2) ∧ R K A H e w fe ∧ ∀ (H' : Hp) (A' : Addr → Prop) (e' : D) (fe' : List Addr), (∀ a, A a → A' a) → KeepF A (f1 ++ f2) H H' → R K A' H' e' w fe' → R K A' H' (rb e') v (f1 ++ (fe' ++ f2))
theorem Zip.root {d : D} {v : V} {fp : List Addr} (h : R K A H d v fp) : Zip K A H d v fp id d v fp :=
  ⟨[], [], by simp, h, fun H' A' e' fe' _ _ r => by simpa using r⟩
theorem keepF_trans {fp : List Addr} {H2 : Hp} (k : KeepF A fp H H1) (k2 : KeepF A fp H1 H2) : KeepF A fp H H2 := fun a o e h => k2 a o (k a o e h) h
theorem Zip.keep {d : D} {v : V} {fp : List Addr} {rb : D → D} {e : D} {w : V} {fe : List Addr} (z : Zip K A H d v fp rb e w fe) (k : KeepF A fp H H1) : Zip K A H1 d v fp rb e w fe := by
  obtain ⟨f1, f2, e1, r, g⟩ := z
  subst e1
  have k1 : KeepF A fe H H1 := k.sub fun a h => by simp [h]
  have k2 : KeepF A (f1 ++ f2) H H1 := k.sub fun a h => by
    rcases List.mem_append.mp h with h | h <;> simp [h]
  exact ⟨f1, f2, rfl, R.keep _ _ _ k1 r, fun H' A' e' fe' m k' r' => g H' A' e' fe' m (keepF_trans k2 k') r'⟩
theorem mem3 {a : Addr} {f1 f2 g1 g2 : List Addr} {p : Addr} : a ∈ f1 ++ f2 → a ∈ (f1 ++ p :: g1) ++ (g2 ++ f2) := fun h => by
  rcases List.mem_append.mp h with h | h <;> simp [h]
theorem Zip.step_tup {d : D} {v : V} {fp : List Addr} {rb : D → D} {ds : List D} {w : V} {fe : List Addr} {j : Nat} {c : D} (z : Zip K A H d v fp rb (.tup ds) w fe) (hj : ds[j]? = some c) :
    ∃ p vs w' fc, w = .ref p ∧ SqT K H p vs ∧ vs.length = ds.length ∧ vs[j]? = some w' ∧ Zip K A H d v fp (fun c' => rb (.tup (ds.set j c'))) c w' fc := by
  obtain ⟨f1, f2, e1, ⟨p, vs, rfl, t, r⟩, g⟩ := z
  obtain ⟨w', g1, fc, g3, hw, e2, r1, r2, r3⟩ := Rs.split r hj
  subst e1 e2
  refine ⟨p, vs, w', fc, rfl, t, r.len, hw, f1 ++ g1, g3 ++ f2, by simp [List.append_assoc], r2, fun H' A' e' fe' m k r' => ?_⟩
  have q := g H' A' (.tup (ds.set j e')) (g1 ++ (fe' ++ g3)) m (k.sub fun a h => by rcases List.mem_append.mp h with h | h <;> simp [h])
    ⟨p, vs.set j w', rfl, by rw [set_same hw]; exact SqT.keep k.keep t, Rs.put hj hw (Rs.mono m _ _ _ (Rs.keep _ _ _ (k.sub fun a h => by simp [h]) r1)) r' (Rs.mono m _ _ _ (Rs.keep _ _ _ (k.sub fun a h => by simp [h]) r3))⟩
  simpa [List.append_assoc] using q
theorem Zip.step_lst {d : D} {v : V} {fp : List Addr} {rb : D → D} {ds : List D} {w : V} {fe : List Addr} {j : Nat} {c : D} (z : Zip K A H d v fp rb (.lst ds) w fe) (hj : ds[j]? = some c) :
    ∃ p vs w' fc, w = .ref p ∧ H p = some (.lst vs) ∧ vs.length = ds.length ∧ vs[j]? = some w' ∧ Zip K A H d v fp (fun c' => rb (.lst (ds.set j c'))) c w' fc := by
  obtain ⟨f1, f2, e1, ⟨p, vs, fps, rfl, e2, t, r⟩, g⟩ := z
  obtain ⟨w', g1, fc, g3, hw, e3, r1, r2, r3⟩ := Rs.split r hj
  subst e1 e2 e3
  refine ⟨p, vs, w', fc, rfl, t, r.len, hw, f1 ++ p :: g1, g3 ++ f2, by simp [List.append_assoc], r2, fun H' A' e' fe' m k r' => ?_⟩
  have q := g H' A' (.lst (ds.set j e')) (p :: (g1 ++ (fe' ++ g3))) m (k.sub fun a h => mem3 h)
    ⟨p, vs.set j w', _, rfl, rfl, by rw [set_same hw]; exact k _ _ t (.inl (by simp)), Rs.put hj hw (Rs.mono m _ _ _ (Rs.keep _ _ _ (k.sub fun a h => by simp [h]) r1)) r' (Rs.mono m _ _ _ (Rs.keep _ _ _ (k.sub fun a h => by simp [h]) r3))⟩
  simpa [List.append_assoc] using q
theorem map_put {κ : Type} {kvs : List (κ × V)} {j : Nat} {w : V} (h : (kvs.map (·.2))[j]? = some w) : ∃ k, kvs[j]? = some (k, w) := by
  rw [List.getElem?_map] at h
  cases e : kvs[j]? with
  | none => rw [e] at h; cases h
  | some p => rw [e] at h; obtain ⟨k, x⟩ := p; cases h; exact ⟨k, rfl⟩
theorem Zip.step_obj {d : D} {v : V} {fp : List Addr} {rb : D → D} {C : Str} {ns : List Str} {ds : List D} {w : V} {fe : List Addr} {j : Nat} {c : D} (z : Zip K A H d v fp rb (.obj C ns ds) w fe) (hj : ds[j]? = some c) :
    ∃ p dx fs w' fc, w = .ref p ∧ H p = some (.ins (He.ga K C) dx fs) ∧ fs.map (·.1) = ns ∧ (fs.map (·.2))[j]? = some w' ∧ Zip K A H d v fp (fun c' => rb (.obj C ns (ds.set j c'))) c w' fc := by
  obtain ⟨f1, f2, e1, ⟨p, dx, fs, fps, rfl, e2, t, en, r⟩, g⟩ := z
  obtain ⟨w', g1, fc, g3, hw, e3, r1, r2, r3⟩ := Rs.split r hj
  subst e1 e2 e3
  refine ⟨p, dx, fs, w', fc, rfl, t, en, hw, f1 ++ p :: g1, g3 ++ f2, by simp [List.append_assoc], r2, fun H' A' e' fe' m k r' => ?_⟩
  have q := g H' A' (.obj C ns (ds.set j e')) (p :: (g1 ++ (fe' ++ g3))) m (k.sub fun a h => mem3 h)
    ⟨p, dx, fs, _, rfl, rfl, k _ _ t (.inl (by simp)), en, by
      have := Rs.put (w' := w') hj hw (Rs.mono m _ _ _ (Rs.keep _ _ _ (k.sub fun a h => by simp [h]) r1)) r' (Rs.mono m _ _ _ (Rs.keep _ _ _ (k.sub fun a h => by simp [h]) r3))
      rwa [set_same hw] at this⟩
  simpa [List.append_assoc] using q
theorem Zip.step_dcK {d : D} {v : V} {fp : List Addr} {rb : D → D} {ks : List Key} {ds : List D} {w : V} {fe : List Addr} {j : Nat} {c : D} (z : Zip K A H d v fp rb (.dcK ks ds) w fe) (hj : ds[j]? = some c) :
    ∃ p kvs w' fc, w = .ref p ∧ H p = some (.dK kvs) ∧ kvs.map (·.1) = ks ∧ (kvs.map (·.2))[j]? = some w' ∧ Zip K A H d v fp (fun c' => rb (.dcK ks (ds.set j c'))) c w' fc := by
  obtain ⟨f1, f2, e1, ⟨p, fs, fps, rfl, e2, t, en, r⟩, g⟩ := z
  obtain ⟨w', g1, fc, g3, hw, e3, r1, r2, r3⟩ := Rs.split r hj
  subst e1 e2 e3
  refine ⟨p, fs, w', fc, rfl, t, en, hw, f1 ++ p :: g1, g3 ++ f2, by simp [List.append_assoc], r2, fun H' A' e' fe' m k r' => ?_⟩
  have q := g H' A' (.dcK ks (ds.set j e')) (p :: (g1 ++ (fe' ++ g3))) m (k.sub fun a h => mem3 h)
    ⟨p, fs, _, rfl, rfl, k _ _ t (.inl (by simp)), en, by
      have := Rs.put (w' := w') hj hw (Rs.mono m _ _ _ (Rs.keep _ _ _ (k.sub fun a h => by simp [h]) r1)) r' (Rs.mono m _ _ _ (Rs.keep _ _ _ (k.sub fun a h => by simp [h]) r3))
      rwa [set_same hw] at this⟩
  simpa [List.append_assoc] using q
end

/-! ### slots -/
/-- a list or dict whose items are flat -/
def Shal (K : Frg) (H : Hp) : D → V → Prop
  | .lst ds, v => ∃ p vs, v = .ref p ∧ H p = some (.lst vs) ∧ RAs K No H ds vs
  | .kst ds, v => ∃ p vs, v = .ref p ∧ SqL K (lockd H) p vs ∧ RAs K No H ds vs
  | .dcT ks ds, v => ∃ p kvs, v = .ref p ∧ Rd H p (.dT kvs) ∧ kvs.map (·.1) = ks ∧ RAs K No H ds (kvs.map (·.2))
  | .dcK ks ds, v => ∃ p kvs, v = .ref p ∧ Rd H p (.dK kvs) ∧ kvs.map (·.1) = ks ∧ RAs K No H ds (kvs.map (·.2))
  | _, _ => False
def VR (K : Frg) (A : Addr → Prop) (H : Hp) : KD → V → List Addr → Prop
  | (.fl, d), v, f => f = [] ∧ RA K No H d v
  | (.sa, d), v, f => f = [] ∧ RA K A H d v ∧ Shal K H d v
  | (.rd, d), v, f => f = [] ∧ RA K A H d v
  | (.sh, d), v, f => R K No H d v f ∧ Shal K H d v
  | (.ow, d), v, f => R K No H d v f
def Slot (K : Frg) (A : Addr → Prop) (H : Hp) : Sl → Option V → List Addr → Prop
  | none, _, f => f = []
  | some kd, x, f => ∃ v, x = some v ∧ VR K A H kd v f
def RepS (K : Frg) (A : Addr → Prop) (H : Hp) : List Sl → L2.St → List Addr → Prop
  | [], σ, ow => σ = [] ∧ ow = []
  | s :: ρ, σ, ow => ∃ x σ' f g, σ = x :: σ' ∧ ow = f ++ g ∧ Slot K A H s x f ∧ RepS K A H ρ σ' g
structure Good (K : Frg) (A : Addr → Prop) (H : Hp) (ρ : List Sl) (σ : L2.St) (ow : List Addr) : Prop where
  rep : RepS K A H ρ σ ow
  nd : ow.Nodup
  dis : ∀ a ∈ ow, ¬ A a
  tr : ∀ a, A a → ∃ o, H a = some o
/-- what code does to a heap: one's own alone is changed -/
structure Stp (H : Hp) (ow : List Addr) (A : Addr → Prop) (H' : Hp) (ow' : List Addr) (A' : Addr → Prop) : Prop where
  same : ∀ a o, H a = some o → a ∉ ow → H' a = some o
  own : ∀ a ∈ ow', a ∈ ow ∨ H a = none
  up : ∀ a, A a → A' a
  fr : ∀ a, A' a → A a ∨ a ∈ ow ∨ H a = none
section
variable {K : Frg} {A A' A1 A2 : Addr → Prop} {H H' H1 H2 : Hp} {ow ow' ow1 ow2 : List Addr}
theorem Shal.keep {d : D} {v : V} (k : ∀ p u, v = .ref p → H p = some u → H' p = some u) (k2 : Keep No H H') (h : Shal K H d v) : Shal K H' d v := by
  have k' : ∀ p u, v = .ref p → Rd H p u → Rd H' p u := fun p u e r => by
    rcases r with r | ⟨o, r⟩
    · exact .inl (k p _ e r)
    · exact .inr ⟨o, k p _ e r⟩
  cases d <;> first
    | exact h.elim
    | (obtain ⟨p, vs, e, t, r⟩ := h; exact ⟨p, vs, e, k p _ e t, RAs.keep k2 _ _ r⟩)
    | (obtain ⟨p, vs, e, t, r⟩ := h; exact ⟨p, vs, e, kst_keep k2 t, RAs.keep k2 _ _ r⟩)
    | (obtain ⟨p, vs, e, t, q, r⟩ := h; exact ⟨p, vs, e, k' p _ e t, q, RAs.keep k2 _ _ r⟩)
theorem Rd.same {p : Addr} {u : HO} (s : Same H H') (r : Rd H p u) : Rd H' p u := by
  rcases r with r | ⟨o, r⟩
  · exact .inl (s _ _ r)
  · exact .inr ⟨o, s _ _ r⟩
theorem Shal.same {d : D} {v : V} (s : Same H H') (h : Shal K H d v) : Shal K H' d v := h.keep (fun _ _ _ r => s _ _ r) (Keep.of_same s)
/-- the address of a shallow thing -/
theorem R.head {d : D} {v : V} {f : List Addr} (r : R K A H d v f) (s : Shal K H1 d v) : (∃ p, v = .ref p ∧ f = [p]) ∨ (f = [] ∧ ∃ ds, d = .kst ds) := by
  cases d <;> first
    | exact s.elim
    | (obtain ⟨p, vs, e, t, q⟩ := s
       obtain ⟨p', vs', fps, e', e2, t', r'⟩ := r
       rw [e] at e'; cases e'
       rw [Rs.nil0 _ fps ⟨_, q⟩ ⟨_, r'⟩] at e2
       exact .inl ⟨p, e, e2⟩)
    | exact .inr ⟨r.1, _, rfl⟩
    | (obtain ⟨p, vs, e, t, _, q⟩ := s
       obtain ⟨p', vs', fps, e', e2, t', _, r'⟩ := r
       rw [e] at e'; cases e'
       rw [Rs.nil0 _ fps ⟨_, q⟩ ⟨_, r'⟩] at e2
       exact .inl ⟨p, e, e2⟩)
theorem VR.keep {kd : KD} {v : V} {f : List Addr} (k : KeepF A f H H') (h : VR K A H kd v f) : VR K A H' kd v f := by
  obtain ⟨c, d⟩ := kd
  cases c with
  | fl => exact ⟨h.1, RA.keep k.keep.no _ _ h.2⟩
  | rd => exact ⟨h.1, RA.keep k.keep _ _ h.2⟩
  | ow => exact R.keep _ _ _ k.no h
  | sa =>
    refine ⟨h.1, RA.keep k.keep _ _ h.2.1, ?_⟩
    have h1 := h.2.1
    have h2 := h.2.2
    cases d <;> first
      | exact h2.elim
      | (obtain ⟨p, vs, e, a, t, r⟩ := h1; refine h2.keep (fun p' u e' q => ?_) k.keep.no; rw [e] at e'; cases e'; exact k.keep _ _ q (.inl a))
      | (obtain ⟨p, vs, e, t, r⟩ := h2; exact ⟨p, vs, e, kst_keep k.keep.no t, RAs.keep k.keep.no _ _ r⟩)
      | (obtain ⟨p, vs, e, a, t, q', r⟩ := h1; refine h2.keep (fun p' u e' q => ?_) k.keep.no; rw [e] at e'; cases e'; exact k.keep _ _ q (.inl a))
  | sh =>
    refine ⟨R.keep _ _ _ k.no h.1, ?_⟩
    have h1 := h.1
    have h2 := h.2
    have q0 : ∀ p, p ∈ f → ∀ u, H p = some u → H' p = some u := fun p hp u r => k _ _ r (.inl hp)
    cases d <;> first
      | exact h2.elim
      | (obtain ⟨p, vs, fps, e, e2, t, r⟩ := h1; refine h2.keep (fun p' u e' q => ?_) k.keep.no; rw [e] at e'; cases e'; exact q0 p (by rw [e2]; exact List.mem_cons_self) u q)
      | (obtain ⟨p, vs, e, t, r⟩ := h2; exact ⟨p, vs, e, kst_keep k.keep.no t, RAs.keep k.keep.no _ _ r⟩)
      | (obtain ⟨p, vs, fps, e, e2, t, q', r⟩ := h1; refine h2.keep (fun p' u e' q => ?_) k.keep.no; rw [e] at e'; cases e'; exact q0 p (by rw [e2]; exact List.mem_cons_self) u q)
theorem VR.mono {kd : KD} {v : V} {f : List Addr} (m : ∀ a, A a → A' a) (h : VR K A H kd v f) : VR K A' H kd v f := by
  obtain ⟨c, d⟩ := kd
  cases c with
  | fl => exact h
  | rd => exact ⟨h.1, RA.mono m _ _ h.2⟩
  | ow => exact h
  | sa => exact ⟨h.1, RA.mono m _ _ h.2.1, h.2.2⟩
  | sh => exact h
theorem Slot.keep {s : Sl} {x : Option V} {f : List Addr} (k : KeepF A f H H') (h : Slot K A H s x f) : Slot K A H' s x f := by
  cases s with
  | none => exact h
  | some kd => obtain ⟨v, e, h⟩ := h; exact ⟨v, e, h.keep k⟩
theorem Slot.mono {s : Sl} {x : Option V} {f : List Addr} (m : ∀ a, A a → A' a) (h : Slot K A H s x f) : Slot K A' H s x f := by
  cases s with
  | none => exact h
  | some kd => obtain ⟨v, e, h⟩ := h; exact ⟨v, e, h.mono m⟩
theorem RepS.keep : ∀ {ρ : List Sl} {σ : L2.St} {ow : List Addr}, KeepF A ow H H' → RepS K A H ρ σ ow → RepS K A H' ρ σ ow
  | [], _, _, _, h => h
  | s :: ρ, _, _, k, ⟨x, σ', f, g, e, e2, h, r⟩ => ⟨x, σ', f, g, e, e2, h.keep (k.sub fun a q => by rw [e2]; exact List.mem_append_left _ q), RepS.keep (k.sub fun a q => by rw [e2]; exact List.mem_append_right _ q) r⟩
theorem RepS.mono (m : ∀ a, A a → A' a) : ∀ {ρ : List Sl} {σ : L2.St} {ow : List Addr}, RepS K A H ρ σ ow → RepS K A' H ρ σ ow
  | [], _, _, h => h
  | s :: ρ, _, _, ⟨x, σ', f, g, e, e2, h, r⟩ => ⟨x, σ', f, g, e, e2, h.mono m, RepS.mono m r⟩
theorem RepS.len : ∀ {ρ : List Sl} {σ : L2.St} {ow : List Addr}, RepS K A H ρ σ ow → σ.length = ρ.length
  | [], _, _, h => by rw [h.1]; rfl
  | s :: ρ, _, _, ⟨x, σ', f, g, e, e2, h, r⟩ => by rw [e, List.length_cons, List.length_cons, RepS.len r]
/-- the i-th slot apart, another one put there -/
theorem RepS.split : ∀ {ρ : List Sl} {σ : L2.St} {ow : List Addr} {i : Nat} {s : Sl}, RepS K A H ρ σ ow → ρ[i]? = some s →
    ∃ x f1 f2 f3, σ[i]? = some x ∧ ow = f1 ++ (f2 ++ f3) ∧ Slot K A H s x f2 ∧
      ∀ (H' : Hp) (A' : Addr → Prop) (s' : Sl) (x' : Option V) (f2' : List Addr), (∀ a, A a → A' a) → KeepF A (f1 ++ f3) H H' → Slot K A' H' s' x' f2' → RepS K A' H' (ρ.set i s') (σ.set i x') (f1 ++ (f2' ++ f3))
  | [], _, _, _, _, _, e => by simp at e
  | t :: ρ, _, _, 0, s, ⟨x, σ', f, g, e, e2, h, r⟩, q => by
    have : t = s := Option.some.inj q
    subst this e e2
    exact ⟨x, [], f, g, rfl, rfl, h, fun H' A' s' x' f2' m k h' => ⟨x', σ', f2', g, rfl, rfl, h', RepS.mono m (RepS.keep (k.sub fun a z => by simpa using z) r)⟩⟩
  | t :: ρ, _, _, i + 1, s, ⟨x, σ', f, g, e, e2, h, r⟩, q => by
    subst e e2
    obtain ⟨y, f1, f2, f3, a, b, c, d⟩ := RepS.split (i := i) r q
    subst b
    refine ⟨y, f ++ f1, f2, f3, a, by rw [List.append_assoc], c, fun H' A' s' x' f2' m k h' => ?_⟩
    refine ⟨x, σ'.set i x', f, f1 ++ (f2' ++ f3), rfl, by rw [List.append_assoc], (h.keep (k.sub fun a z => by simp [z])).mono m, d H' A' s' x' f2' m (k.sub fun a z => ?_) h'⟩
    rcases List.mem_append.mp z with z | z <;> simp [z]
theorem RepS.mu : ∀ {ρ : List Sl} {σ : L2.St} {ow : List Addr}, RepS K A H ρ σ ow → ∀ a ∈ ow, ∃ o, H a = some o ∧ Mu o
  | [], _, _, h => fun a q => by rw [h.2] at q; cases q
  | s :: ρ, _, _, ⟨x, σ', f, g, e, e2, h, r⟩ => fun a q => by
    rw [e2] at q
    rcases List.mem_append.mp q with q | q
    · cases s with
      | none => rw [show f = [] from h] at q; cases q
      | some kd =>
        obtain ⟨v, _, h⟩ := h
        obtain ⟨c, d⟩ := kd
        cases c with
        | fl => rw [h.1] at q; cases q
        | rd => rw [h.1] at q; cases q
        | sa => rw [h.1] at q; cases q
        | ow => exact R.mu _ _ _ h a q
        | sh => exact R.mu _ _ _ h.1 a q
    · exact RepS.mu r a q
/-! steps -/
theorem Stp.refl : Stp H ow A H ow A := ⟨fun _ _ e _ => e, fun _ h => .inl h, fun _ h => h, fun _ h => .inl h⟩
theorem Stp.of_same (s : Same H H') : Stp H ow A H' ow A := ⟨fun a o e _ => s a o e, fun _ h => .inl h, fun _ h => h, fun _ h => .inl h⟩
theorem Stp.none (s : Stp H ow A H1 ow1 A1) {a : Addr} (h : H1 a = none) : a ∈ ow ∨ H a = none := by
  cases e : H a with
  | none => exact .inr rfl
  | some o =>
    refine .inl (Classical.byContradiction fun z => ?_)
    rw [s.same a o e z] at h; cases h
theorem Stp.trans (s : Stp H ow A H1 ow1 A1) (t : Stp H1 ow1 A1 H2 ow2 A2) : Stp H ow A H2 ow2 A2 where
  same := fun a o e n => t.same a o (s.same a o e n) fun z => by
    rcases s.own a z with z | z
    · exact n z
    · rw [e] at z; cases z
  own := fun a h => by
    rcases t.own a h with z | z
    · exact s.own a z
    · exact s.none z
  up := fun a h => t.up a (s.up a h)
  fr := fun a h => by
    rcases t.fr a h with z | z | z
    · exact s.fr a z
    · exact .inr (s.own a z)
    · exact .inr (s.none z)
theorem Stp.sub {ow0 : List Addr} (s : Stp H ow A H' ow' A') (h : ∀ a ∈ ow0, a ∈ ow') : Stp H ow A H' ow0 A' := ⟨s.same, fun a z => s.own a (h a z), s.up, s.fr⟩
/-- what is not one's own is kept by a step -/
theorem Good.keepA {ρ : List Sl} {σ : L2.St} (g : Good K A H ρ σ ow) (s : Stp H ow A H' ow' A') : Keep A H H' := fun a o e h => s.same a o e fun z => by
  rcases h with h | h
  · exact g.dis a z h
  · obtain ⟨u, e', m⟩ := g.rep.mu a z
    rw [e] at e'; cases e'
    exact m.notImm h
theorem Good.same {ρ : List Sl} {σ : L2.St} (g : Good K A H ρ σ ow) (s : Same H H') : Good K A H' ρ σ ow :=
  ⟨g.rep.keep (KeepF.of_same s), g.nd, g.dis, fun a h => let ⟨o, e⟩ := g.tr a h; ⟨o, s a o e⟩⟩
end
end DL

/-! DL2: pure expressions -/
namespace DL
open PySem PySem.Spec PyProof.Rows L2

abbrev Ro := List Sl
/-- what a pure expression does: which things it gives -/
abbrev PF := Ro → (KD → Prop) → Prop
abbrev PTF := Ro → (Bool → Prop) → Prop
abbrev PAF := Ro → (List KD → Prop) → Prop
abbrev BB (A : Addr → Prop) (ow : List Addr) : Addr → Prop := fun a => A a ∨ a ∈ ow
abbrev Fre (H : Hp) : Addr → Prop := fun a => H a = none
abbrev Or2 (B F : Addr → Prop) : Addr → Prop := fun a => B a ∨ F a
/-- a thing in flight: its own parts are new (F), what it shares is known (B) or new -/
def PR (K : Frg) (B F : Addr → Prop) (H : Hp) (v : V) (z : KD) : Prop := ∃ fp, VR K (Or2 B F) H z v fp ∧ fp.Nodup ∧ ∀ a ∈ fp, F a
def VRs (K : Frg) (A : Addr → Prop) (H : Hp) : List KD → List V → List Addr → Prop
  | [], vs, fp => vs = [] ∧ fp = []
  | z :: zs, vs, fp => ∃ w ws f1 f2, vs = w :: ws ∧ fp = f1 ++ f2 ∧ VR K A H z w f1 ∧ VRs K A H zs ws f2
def PRs (K : Frg) (B F : Addr → Prop) (H : Hp) (vs : List V) (zs : List KD) : Prop := ∃ fp, VRs K (Or2 B F) H zs vs fp ∧ fp.Nodup ∧ ∀ a ∈ fp, F a

def PSound (K : Frg) (t : TE) (f : PF) : Prop := ∀ (σ : L2.St) (H : Hp) (A : Addr → Prop) (ρ : Ro) (ow : List Addr) (Q : VK) (P : KD → Prop), Good K A H ρ σ ow → f ρ P →
  (∀ z v H', P z → Same H H' → PR K (BB A ow) (Fre H) H' v z → Q v H') → t σ H Q
def TSound (K : Frg) (t : TT) (f : PTF) : Prop := ∀ (σ : L2.St) (H : Hp) (A : Addr → Prop) (ρ : Ro) (ow : List Addr) (Q : Bool → Hp → Prop) (P : Bool → Prop), Good K A H ρ σ ow → f ρ P →
  (∀ b H', P b → Same H H' → Q b H') → t σ H Q
def ASound (K : Frg) (n : Nat) (t : TA) (f : PAF) : Prop := ∀ (σ : L2.St) (H : Hp) (A : Addr → Prop) (ρ : Ro) (ow : List Addr) (Q : List V → Hp → Prop) (P : List KD → Prop), Good K A H ρ σ ow → f ρ P →
  (∀ zs vs H', zs.length = n → P zs → Same H H' → PRs K (BB A ow) (Fre H) H' vs zs → Q vs H') → t σ H Q
structure DP (X : Cx) (e : Expr) (f : PF) : Prop where
  run : ∃ t, PE X e t ∧ PSound X.K t f
structure DT (X : Cx) (e : Expr) (f : PTF) : Prop where
  run : ∃ t, PT X e t ∧ TSound X.K t f
structure DA (X : Cx) (es : List Expr) (n : Nat) (f : PAF) : Prop where
  run : ∃ t, PA X es t ∧ ASound X.K n t f

section
variable {K : Frg} {A B B' F F' : Addr → Prop} {H H' H1 : Hp}
theorem VR.same {z : KD} {v : V} {f : List Addr} (s : Same H H') (h : VR K A H z v f) : VR K A H' z v f := h.keep (KeepF.of_same s)
theorem VRs.same (s : Same H H') : ∀ {zs : List KD} {vs : List V} {f : List Addr}, VRs K A H zs vs f → VRs K A H' zs vs f
  | [], _, _, h => h
  | z :: zs, _, _, ⟨w, ws, f1, f2, e, e2, h, t⟩ => ⟨w, ws, f1, f2, e, e2, h.same s, VRs.same s t⟩
theorem VRs.mono (m : ∀ a, A a → B a) : ∀ {zs : List KD} {vs : List V} {f : List Addr}, VRs K A H zs vs f → VRs K B H zs vs f
  | [], _, _, h => h
  | z :: zs, _, _, ⟨w, ws, f1, f2, e, e2, h, t⟩ => ⟨w, ws, f1, f2, e, e2, h.mono m, VRs.mono m t⟩
theorem _root_.L2.Same.fre (s : Same H H') : ∀ a, Fre H' a → Fre H a := fun a h => s.free h
theorem PR.same {v : V} {z : KD} (s : Same H H') (h : PR K B F H v z) : PR K B F H' v z := let ⟨fp, a, b, c⟩ := h; ⟨fp, a.same s, b, c⟩
theorem PR.mono {v : V} {z : KD} (m : ∀ a, B a → B' a) (n : ∀ a, F a → F' a) (h : PR K B F H v z) : PR K B' F' H v z :=
  let ⟨fp, a, b, c⟩ := h; ⟨fp, a.mono (fun x h => h.imp (m x) (n x)), b, fun x h => n x (c x h)⟩
theorem PRs.same {v : List V} {z : List KD} (s : Same H H') (h : PRs K B F H v z) : PRs K B F H' v z := let ⟨fp, a, b, c⟩ := h; ⟨fp, a.same s, b, c⟩
theorem PRs.mono {v : List V} {z : List KD} (m : ∀ a, B a → B' a) (n : ∀ a, F a → F' a) (h : PRs K B F H v z) : PRs K B' F' H v z :=
  let ⟨fp, a, b, c⟩ := h; ⟨fp, a.mono (fun x h => h.imp (m x) (n x)), b, fun x h => n x (c x h)⟩
theorem VR.mu {z : KD} {v : V} {f : List Addr} (h : VR K A H z v f) : ∀ a ∈ f, ∃ o, H a = some o ∧ Mu o := by
  obtain ⟨k, d⟩ := z
  cases k with
  | fl => intro a q; rw [h.1] at q; cases q
  | rd => intro a q; rw [h.1] at q; cases q
  | sa => intro a q; rw [h.1] at q; cases q
  | sh => exact R.mu _ _ _ h.1
  | ow => exact R.mu _ _ _ h
theorem VRs.mu : ∀ {zs : List KD} {vs : List V} {f : List Addr}, VRs K A H zs vs f → ∀ a ∈ f, ∃ o, H a = some o ∧ Mu o
  | [], _, _, h => fun a q => by rw [h.2] at q; cases q
  | z :: zs, _, _, ⟨w, ws, f1, f2, e, e2, h, t⟩ => fun a q => by
    rw [e2] at q
    rcases List.mem_append.mp q with q | q
    · exact h.mu a q
    · exact VRs.mu t a q
/-- read -/
theorem VR.ra {z : KD} {v : V} {f : List Addr} (h : VR K A H z v f) (m : ∀ a, A a → B a) (n : ∀ a ∈ f, B a) : RA K B H z.2 v := by
  obtain ⟨k, d⟩ := z
  cases k with
  | fl => exact RA.no h.2
  | rd => exact RA.mono m _ _ h.2
  | sa => exact RA.mono m _ _ h.2.1
  | sh => exact R.ra (fun _ z => z.elim) _ _ _ n h.1
  | ow => exact R.ra (fun _ z => z.elim) _ _ _ n h
theorem PR.ra {v : V} {z : KD} (h : PR K B F H v z) : RA K (Or2 B F) H z.2 v := let ⟨_, a, _, c⟩ := h; a.ra (fun _ h => h) fun x h => .inr (c x h)
theorem PR.fl {v : V} {d : D} (h : RA K No H d v) : PR K B F H v (.fl, d) := ⟨[], ⟨rfl, h⟩, List.nodup_nil, fun _ z => nomatch z⟩
theorem PR.rd {v : V} {d : D} (h : RA K (Or2 B F) H d v) : PR K B F H v (.rd, d) := ⟨[], ⟨rfl, h⟩, List.nodup_nil, fun _ z => nomatch z⟩
theorem PR.bl {b : Bool} : PR K B F H (.bl b) (.fl, .bl b) := .fl rfl
theorem PR.int {b : Int} : PR K B F H (.int b) (.fl, .int b) := .fl rfl
theorem PR.str {b : Str} : PR K B F H (.str b) (.fl, .str b) := .fl rfl
theorem PRs.nil : PRs K B F H [] [] := ⟨[], ⟨rfl, rfl⟩, List.nodup_nil, fun _ z => nomatch z⟩

/-! ### items -/
def D.seq : D → Option (List D)
  | .tup ds => some ds
  | .lst ds => some ds
  | .kst ds => some ds
  | _ => none
def Kd.el : Kd → Kd
  | .fl => .fl
  | .sh => .fl
  | .sa => .fl
  | .rd => .rd
  | .ow => .rd
def Kd.elA (k : Kd) (B F : Addr → Prop) : Addr → Prop := match k with
  | .fl => No
  | .sh => No
  | .sa => No
  | .rd => Or2 B F
  | .ow => Or2 B F
/-- an item of a thing of kind k -/
def kel (k : Kd) (d : D) : KD := match d with
  | .non => (.fl, d)
  | .bl _ => (.fl, d)
  | .int _ => (.fl, d)
  | .str _ => (.fl, d)
  | _ => (k.el, d)
theorem kel_snd (k : Kd) (d : D) : (kel k d).2 = d := by cases d <;> rfl
theorem pr_kel {k : Kd} {d : D} {w : V} (h : RA K (k.elA B F) H d w) : PR K B F H w (kel k d) := by
  have g : PR K B F H w (k.el, d) := by
    cases k with
    | fl => exact .fl h
    | sh => exact .fl h
    | sa => exact .fl h
    | rd => exact .rd h
    | ow => exact .rd h
  cases d <;> first | exact g | exact .fl h
/-- a list or tuple, to be read -/
theorem RA.seq {d : D} {ds : List D} {v : V} (h : RA K A H d v) (e : d.seq = some ds) : ∃ p vs, v = .ref p ∧ (SqL K H p vs ∨ SqT K H p vs) ∧ RAs K A H ds vs := by
  cases d <;> first
    | (cases e; done)
    | (cases e; obtain ⟨p, vs, e, t, r⟩ := h; exact ⟨p, vs, e, .inr t, r⟩)
    | (cases e; obtain ⟨p, vs, e, _, t, r⟩ := h; exact ⟨p, vs, e, .inl (.of t), r⟩)
    | (cases e; obtain ⟨p, vs, e, t, r⟩ := h; exact ⟨p, vs, e, .inl (kst_seq t), r⟩)
theorem Shal.seq {d : D} {ds : List D} {v : V} (h : Shal K H d v) (e : d.seq = some ds) : ∃ p vs, v = .ref p ∧ (SqL K H p vs ∨ SqT K H p vs) ∧ RAs K No H ds vs := by
  cases d <;> first
    | (cases e; done)
    | exact h.elim
    | (cases e; obtain ⟨p, vs, e, t, r⟩ := h; exact ⟨p, vs, e, .inl (.of t), r⟩)
    | (cases e; obtain ⟨p, vs, e, t, r⟩ := h; exact ⟨p, vs, e, .inl (kst_seq t), r⟩)
theorem VR.shal {k : Kd} {d : D} {v : V} {f : List Addr} (h : VR K A H (k, d) v f) (hk : k = .sh ∨ k = .sa) : Shal K H d v := by
  rcases hk with rfl | rfl
  · exact h.2
  · exact h.2.2
theorem PR.seq {k : Kd} {d : D} {ds : List D} {v : V} (h : PR K B F H v (k, d)) (e : d.seq = some ds) :
    ∃ p vs, v = .ref p ∧ (SqL K H p vs ∨ SqT K H p vs) ∧ RAs K (k.elA B F) H ds vs := by
  cases k with
  | fl => obtain ⟨_, a, _⟩ := h; exact a.2.seq e
  | rd => exact h.ra.seq e
  | ow => exact h.ra.seq e
  | sh => obtain ⟨_, a, _⟩ := h; exact a.2.seq e
  | sa => obtain ⟨_, a, _⟩ := h; exact a.2.2.seq e
theorem PR.lstT {k : Kd} {ds : List D} {v : V} (h : PR K B F H v (k, .lst ds)) : ∃ p vs, v = .ref p ∧ H p = some (.lst vs) ∧ RAs K (k.elA B F) H ds vs := by
  have q : ∃ p vs, v = .ref p ∧ H p = some (.lst vs) ∧ RAs K (Or2 B F) H ds vs := by
    obtain ⟨p, vs, e, _, t, r⟩ := h.ra
    exact ⟨p, vs, e, t, r⟩
  cases k with
  | fl => obtain ⟨_, a, _⟩ := h; obtain ⟨p, vs, e, z, _⟩ := a.2; exact z.elim
  | rd => exact q
  | ow => exact q
  | sh => obtain ⟨_, a, _⟩ := h; obtain ⟨p, vs, e, t, r⟩ := a.2; exact ⟨p, vs, e, t, r⟩
  | sa => obtain ⟨_, a, _⟩ := h; obtain ⟨p, vs, e, t, r⟩ := a.2.2; exact ⟨p, vs, e, t, r⟩
theorem PR.tupT {k : Kd} {ds : List D} {v : V} (h : PR K B F H v (k, .tup ds)) : ∃ p vs, v = .ref p ∧ SqT K H p vs ∧ RAs K (k.elA B F) H ds vs := by
  have q : ∃ p vs, v = .ref p ∧ SqT K H p vs ∧ RAs K (Or2 B F) H ds vs := h.ra
  cases k with
  | fl => obtain ⟨_, a, _⟩ := h; exact a.2
  | rd => exact q
  | ow => exact q
  | sh => obtain ⟨_, a, _⟩ := h; exact a.2.elim
  | sa => obtain ⟨_, a, _⟩ := h; exact a.2.2.elim
theorem RAs.elno {k : Kd} {ds : List D} {vs : List V} (h : RAs K (k.elA B F) H ds vs) (e : k.el = .fl) : RAs K No H ds vs := by
  cases k <;> first | exact h | cases e
theorem RAs.elor {k : Kd} {ds : List D} {vs : List V} (h : RAs K (k.elA B F) H ds vs) : RAs K (Or2 B F) H ds vs := by
  cases k <;> first | exact h | exact RAs.no h
/-- a new tuple, a new list of read things -/
def kT (k : Kd) : Kd := k.el
def kL (k : Kd) : Kd := match k.el with
  | .fl => .sh
  | _ => .rd
theorem kL_fl {k : Kd} (h : k.el = .fl) : kL k = .sh := by unfold kL; rw [h]
theorem kL_rd {k : Kd} (h : k.el ≠ .fl) : kL k = .rd := by cases k <;> first | rfl | exact absurd rfl h
theorem el_cases (k : Kd) : k.el = .fl ∨ k.el = .rd := by cases k <;> first | exact .inl rfl | exact .inr rfl
theorem pr_tup {k : Kd} {ds : List D} {vs : List V} {p : Addr} (hr : RAs K (k.elA B F) H ds vs) (hp : H p = none) : PR K B F (upd H p (.tup vs)) (.ref p) (k.el, .tup ds) := by
  have s : Same H (upd H p (.tup vs)) := fun b o e => by rw [upd_ne (ne_of_none e hp)]; exact e
  rcases el_cases k with e | e
  · rw [e]
    exact .fl ⟨p, vs, rfl, .of upd_same, (hr.elno e).same s⟩
  · rw [e]
    exact .rd ⟨p, vs, rfl, .of upd_same, hr.elor.same s⟩
theorem pr_lst {k : Kd} {ds : List D} {vs : List V} {p : Addr} (hr : RAs K (k.elA B F) H ds vs) (hp : H p = none) (hF : F p) : PR K B F (upd H p (.lst vs)) (.ref p) (kL k, .lst ds) := by
  have s : Same H (upd H p (.lst vs)) := fun b o e => by rw [upd_ne (ne_of_none e hp)]; exact e
  rcases el_cases k with e | e
  · rw [kL_fl e]
    exact ⟨[p], ⟨⟨p, vs, [], rfl, rfl, upd_same, Rs.of0 _ _ ((hr.elno e).same s)⟩, ⟨p, vs, rfl, upd_same, (hr.elno e).same s⟩⟩, by simp, fun a h => by rw [List.mem_singleton.mp h]; exact hF⟩
  · rw [kL_rd (by rw [e]; decide)]
    exact .rd ⟨p, vs, rfl, .inr hF, upd_same, hr.elor.same s⟩
theorem same_upd {p : Addr} {o : HO} (h : H p = none) : Same H (upd H p o) := fun b x e => by
  rw [upd_ne (ne_of_none e h)]
  exact e
end

/-! ### slots read -/
def Kd.rdk : Kd → Kd
  | .fl => .fl
  | .sh => .sa
  | .sa => .sa
  | .rd => .rd
  | .ow => .rd
section
variable {K : Frg} {A : Addr → Prop} {H : Hp} {σ : L2.St} {ρ : Ro} {ow : List Addr}
theorem Good.slot {i : Nat} {kd : KD} (g : Good K A H ρ σ ow) (e : ρ[i]? = some (some kd)) : ∃ v f, σ[i]? = some (some v) ∧ VR K A H kd v f ∧ f.Nodup ∧ ∀ a ∈ f, a ∈ ow := by
  obtain ⟨x, f1, f2, f3, hx, e2, ⟨v, rfl, h⟩, _⟩ := g.rep.split e
  have nd := g.nd
  rw [e2] at nd
  exact ⟨v, f2, hx, h, (List.nodup_append.mp (List.nodup_append.mp nd).2.1).1, fun a q => by rw [e2]; simp [q]⟩
theorem VR.rdk {k : Kd} {d : D} {v : V} {f : List Addr} {F : Addr → Prop} (h : VR K A H (k, d) v f) (s : ∀ a ∈ f, a ∈ ow) : PR K (BB A ow) F H v (k.rdk, d) := by
  have m : ∀ a, A a → Or2 (BB A ow) F a := fun a h => .inl (.inl h)
  have n : ∀ a ∈ f, Or2 (BB A ow) F a := fun a h => .inl (.inr (s a h))
  have r := h.ra m n
  cases k with
  | fl => exact .fl h.2
  | rd => exact .rd r
  | ow => exact .rd r
  | sh => exact ⟨[], ⟨rfl, r, h.2⟩, List.nodup_nil, fun _ z => nomatch z⟩
  | sa => exact ⟨[], ⟨rfl, r, h.2.2⟩, List.nodup_nil, fun _ z => nomatch z⟩
end

/-! ### names, constants -/
def pVar (i : Nat) : PF := fun ρ P => match ρ[i]? with
  | some (some (k, d)) => P (k.rdk, d)
  | _ => False
def pC (d : D) : PF := fun _ P => P (.fl, d)
section
variable {X : Cx} {pos : Pos}
theorem dp_var (i : Nat) {x : Str} (hN : X.N[i]? = some x := by rfl) (hv : Vis X.env.scope x := by first | exact Or.inl rfl | exact Or.inr (Or.inl rfl) | exact Or.inr (Or.inr rfl)) (hd : (x == ("__debug__" : Str)) = false := by decide)
    (hcd : (x == ("__classdict__" : Str)) = false := by decide) : DP X (.Name x pos) (pVar i) := by
  refine ⟨tVar i, pe_var hN hv hd hcd, fun σ H A ρ ow Q P g h q => ?_⟩
  unfold pVar at h
  cases e : ρ[i]? with
  | none => rw [e] at h; exact h.elim
  | some s =>
    rw [e] at h
    cases s with
    | none => exact h.elim
    | some kd =>
      obtain ⟨k, d⟩ := kd
      obtain ⟨v, f, hv, r, _, s⟩ := g.slot e
      exact ⟨v, hv, q _ v H h (Same.refl H) (r.rdk s)⟩
theorem dp_c {e : Expr} {v : V} {d : D} (h : PE X e (tC v)) (r : ∀ (A : Addr → Prop) (H : Hp), RA X.K A H d v) : DP X e (pC d) :=
  ⟨_, h, fun σ H A ρ ow Q P g h q => q _ v H h (Same.refl H) (.fl (r _ H))⟩
theorem dp_int {i : Int} {j} : DP X (.Constant (.int i) j pos) (pC (.int i)) := dp_c pe_int fun _ _ => rfl
theorem dp_bl {i : Bool} {j} : DP X (.Constant (.bool i) j pos) (pC (.bl i)) := dp_c pe_bl fun _ _ => rfl
theorem dp_str {i : Str} {j} : DP X (.Constant (.str i) j pos) (pC (.str i)) := dp_c pe_str fun _ _ => rfl
theorem dp_non {j} : DP X (.Constant .none j pos) (pC .non) := dp_c pe_non fun _ _ => rfl

/-! ### operators -/
def OpS (K : Frg) (r : R2) (o : KD → KD → (KD → Prop) → Prop) : Prop := ∀ (B F : Addr → Prop) (H : Hp) (v w : V) (x y : KD) (P : KD → Prop) (Q : VK), PR K B F H v x → PR K B F H w y → (∀ a, H a = none → F a) → o x y P →
  (∀ z u H', P z → Same H H' → PR K B F H' u z → Q u H') → r v w H Q
def UnS (K : Frg) (r : V → Hp → VK → Prop) (o : KD → (KD → Prop) → Prop) : Prop := ∀ (B F : Addr → Prop) (H : Hp) (v : V) (x : KD) (P : KD → Prop) (Q : VK), PR K B F H v x → (∀ a, H a = none → F a) → o x P →
  (∀ z u H', P z → Same H H' → PR K B F H' u z → Q u H') → r v H Q
def CallS (K : Frg) (r : List V → Hp → VK → Prop) (o : List KD → (KD → Prop) → Prop) : Prop := ∀ (B F : Addr → Prop) (H : Hp) (vs : List V) (xs : List KD) (P : KD → Prop) (Q : VK), PRs K B F H vs xs → (∀ a, H a = none → F a) → o xs P →
  (∀ z u H', P z → Same H H' → PR K B F H' u z → Q u H') → r vs H Q
def pOp (o : KD → KD → (KD → Prop) → Prop) (fa fb : PF) : PF := fun ρ P => fa ρ fun x => fb ρ fun y => o x y P
def pUn (o : KD → (KD → Prop) → Prop) (fa : PF) : PF := fun ρ P => fa ρ fun x => o x P
variable {a b c : Expr} {fa fb fc : PF}
theorem sound_op {K : Frg} {r : R2} {o : KD → KD → (KD → Prop) → Prop} {ta tb : TE} (hr : OpS K r o) (sa : PSound K ta fa) (sb : PSound K tb fb) : PSound K (tOp r ta tb) (pOp o fa fb) := by
  intro σ H A ρ ow Q P g h q
  refine sa σ H A ρ ow _ _ g h fun x v H1 hx s1 p1 => ?_
  refine sb σ H1 A ρ ow _ _ (g.same s1) hx fun y w H2 hy s2 p2 => ?_
  refine hr (BB A ow) (Fre H) H2 v w x y P Q (p1.same s2) (p2.mono (fun _ h => h) (s1.fre)) (s1.trans s2).fre hy fun z u H' hz s3 p3 => ?_
  exact q z u H' hz ((s1.trans s2).trans s3) p3
theorem sound_un {K : Frg} {r : V → Hp → VK → Prop} {o : KD → (KD → Prop) → Prop} {ta : TE} (hr : UnS K r o) (sa : PSound K ta fa) : PSound K (tUn r ta) (pUn o fa) := by
  intro σ H A ρ ow Q P g h q
  refine sa σ H A ρ ow _ _ g h fun x v H1 hx s1 p1 => ?_
  exact hr (BB A ow) (Fre H) H1 v x P Q p1 (s1.fre) hx fun z u H' hz s3 p3 => q z u H' hz (s1.trans s3) p3
theorem dp_op {op : Operator} {r : R2} {o : KD → KD → (KD → Prop) → Prop} (ho : OpR X (binaryOp op) r) (hr : OpS X.K r o) (ha : DP X a fa) (hb : DP X b fb) : DP X (.BinOp a op b pos) (pOp o fa fb) := by
  obtain ⟨ta, ea, sa⟩ := ha.run
  obtain ⟨tb, eb, sb⟩ := hb.run
  exact ⟨_, pe_op ho ea eb, sound_op hr sa sb⟩
theorem dp_un {op : UnaryOp} {r : V → Hp → VK → Prop} {o : KD → (KD → Prop) → Prop} (ho : UnR X (unaryOp op) r) (hr : UnS X.K r o) (ha : DP X a fa) : DP X (.UnaryOp op a pos) (pUn o fa) := by
  obtain ⟨ta, ea, sa⟩ := ha.run
  exact ⟨_, pe_un ho ea, sound_un hr sa⟩
theorem dp_cmp {op : CmpOp} {r : R2} {o : KD → KD → (KD → Prop) → Prop} (ho : OpR X (compareOp op) r) (hr : OpS X.K r o) (ha : DP X a fa) (hb : DP X b fb) (hm : behindInMarks op b = false) : DP X (.Compare a [op] [b] pos) (pOp o fa fb) := by
  obtain ⟨ta, ea, sa⟩ := ha.run
  obtain ⟨tb, eb, sb⟩ := hb.run
  exact ⟨_, pe_cmpR ho ea eb hm, sound_op hr sa sb⟩
/-- a value as a test -/
def pTest (f : PF) : PTF := fun ρ P => f ρ fun z => match z.2 with
  | .bl b => P b
  | _ => False
theorem sound_test {K : Frg} {t : TE} {f : PF} (s : PSound K t f) : TSound K (tTest t) (pTest f) := by
  intro σ H A ρ ow Q P g h q
  refine s σ H A ρ ow _ _ g h fun z v H1 hz s1 p1 => ?_
  obtain ⟨k, d⟩ := z
  have r := p1.ra
  cases d <;> first
    | exact hz.elim
    | exact ⟨_, r, q _ H1 hz s1⟩
theorem dt_cmp {op : CmpOp} {r : R2} {o : KD → KD → (KD → Prop) → Prop} (ho : OpR X (compareOp op) r) (hr : OpS X.K r o) (ha : DP X a fa) (hb : DP X b fb) (hm : behindInMarks op b = false) : DT X (.Compare a [op] [b] pos) (pTest (pOp o fa fb)) := by
  obtain ⟨ta, ea, sa⟩ := ha.run
  obtain ⟨tb, eb, sb⟩ := hb.run
  exact ⟨_, pt_cmpR ho ea eb hm, sound_test (sound_op hr sa sb)⟩
/-- a call, a name, a field .. that gives a truth, as a test -/
theorem dt_val {e : Expr} {f : PF} (h : DP X e f) (he : ∀ whole, isTrue e X.env whole = (do let v ← whole; standAt e.pos; holding [v] (truthy v)) := by intro _; rfl) : DT X e (pTest f) := by
  obtain ⟨t, pe, s⟩ := h.run
  exact ⟨_, pt_val pe he, fun σ H A ρ ow Q P g h q => sound_test s σ H A ρ ow Q P g h q⟩
end
end DL

/-! DL3: operators on data -/
namespace DL
open PySem PySem.Spec PyProof.Rows L2

theorem OpR.or {X : Cx} {f : Value → Value → Sem Value} {r r' : R2} (h : OpR X f r) (h' : OpR X f r') : OpR X f (fun x y H Q => r x y H Q ∨ r' x y H Q) := by
  intro pins s σ H x y v u Q I r1 r2 q
  rcases q with q | q
  · exact h pins s σ H x y v u Q I r1 r2 q
  · exact h' pins s σ H x y v u Q I r1 r2 q
/-- a tuple once: the tuple itself -/
theorem tup_one (l : Addr) (its : Array Value) (n : Nat) (dd : Option Addr) (sl : Array (Option Value)) (u : Tok) :
    Meets (Builtin.«tuple.__mul__» ⟨[.ref l, .int 1 u], []⟩) (fun _ R s => s.heap.get? l = some { cls := .type "tuple", dict := dd, data := .seq its n, slots := sl } ∧ R (.ok (.ret (.ref l))) s) := by
  refine Meets.of_wp fun prog w A R st h => ?_
  obtain ⟨hp, g, d, tk, os⟩ := st
  obtain ⟨hl, h⟩ := h
  have f1 := AutoSeq1.idx_int
  wp_walk using wpAny_loadPart' hl
  exact ⟨_, rfl, h⟩
def rRep1 (K : Frg) : R2 := fun x y H Q => ∃ l xs, x = .ref l ∧ y = .int 1 ∧ SqT K H l xs ∧ Q x H
theorem op_rep1 {X : Cx} : OpR X (binaryOp .Mult) (rRep1 X.K) := by
  intro pins s σ H x y v u Q I rx ry h
  obtain ⟨l, xs, rfl, rfl, hT, q⟩ := h
  cases rx
  obtain ⟨t, rfl⟩ := ry
  obtain ⟨its, r, ⟨⟨cls, dd, data, sl⟩, ho, hc, n, hd⟩, hs⟩ := I.tuple hT
  simp only at hc hd
  subst hc hd
  refine wpAny_binaryOp_repeat_ref (T := "tuple") (U := "int") (by decide) ⟨_, ho, rfl⟩ (fun s' => typeIs_int s' 1 t) noFill_tuple_mul
    F.fills_int_mul F.slot_int_rmul repeat_tuple F.slot_int_index.lookup (call_meets F.slot_int_rmul (typeIs_int s 1 t) F.entry_int_rmul (F.args_int_rmul_2 _ _)
      (int_rmul_tuple 1 t l its.toArray n dd sl) ⟨ho, rfl, ⟨_, ho, rfl⟩, ?_⟩)
  refine call_meets F.slot_tuple_mul ⟨_, ho, rfl⟩ F.entry_tuple_mul (F.args_tuple_mul_2 _ _) (tup_one l its.toArray n dd sl t) ⟨ho, ?_⟩
  exact ⟨V.ref l, H, I, rfl, q⟩
def kT2 (k k' : Kd) : Kd := match k.el, k'.el with
  | .fl, .fl => .fl
  | _, _ => .rd
def kL2 (k k' : Kd) : Kd := match k.el, k'.el with
  | .fl, .fl => .sh
  | _, _ => .rd
section
variable {K : Frg} {A B F : Addr → Prop} {H : Hp}
theorem pr_cat {k k' : Kd} {ds es : List D} {vs ws : List V} (h : RAs K (k.elA B F) H ds vs) (h' : RAs K (k'.elA B F) H es ws) :
    RAs K ((kT2 k k').elA B F) H (ds ++ es) (vs ++ ws) := by
  unfold kT2
  rcases el_cases k with e | e <;> rcases el_cases k' with e' | e' <;> rw [e, e']
  · exact (h.elno e).append (h'.elno e')
  · exact h.elor.append h'.elor
  · exact h.elor.append h'.elor
  · exact h.elor.append h'.elor
theorem kT2_el (k k' : Kd) : (kT2 k k').el = kT2 k k' := by cases k <;> cases k' <;> rfl
theorem kL_kT2 (k k' : Kd) : kL (kT2 k k') = kL2 k k' := by cases k <;> cases k' <;> rfl

/-! ### + - * // % ** -/
def oAdd : KD → KD → (KD → Prop) → Prop := fun x y P => match x, y with
  | (_, .int i), (_, .int j) => P (.fl, .int (i + j))
  | (_, .str a), (_, .str b) => a.length + b.length ≤ 10000000 ∧ P (.fl, .str (a ++ b))
  | (k, .lst a), (k', .lst b) => a.length + b.length ≤ 10000000 ∧ P (kL2 k k', .lst (a ++ b))
  | (k, .tup a), (k', .tup b) => a.length + b.length ≤ 10000000 ∧ P (kT2 k k', .tup (a ++ b))
  | _, _ => False
abbrev rAddAll (K : Frg) : R2 := fun x y H Q => (rI0 (fun i j => .int (i + j)) x y H Q) ∨ (∃ i j, x = .str i ∧ y = .str j ∧ i.length + j.length ≤ sizeLine ∧ Q (.str (i ++ j)) H) ∨ rCat x y H Q ∨ rCatA K x y H Q
theorem op_addAll {X : Cx} : OpR X (binaryOp .Add) (rAddAll X.K) := OpR.or op_add (OpR.or op_add_str (OpR.or op_cat op_catA))
theorem sz7 {n : Nat} (h : n ≤ 10000000) : n ≤ sizeLine := by rw [sizeLine_eq]; omega
theorem os_add : OpS K (rAddAll K) oAdd := by
  intro B F H v w x y P Q px py hF h q
  obtain ⟨k, d⟩ := x
  obtain ⟨k', d'⟩ := y
  unfold oAdd at h
  split at h
  · rename_i i _ j e1 e2
    cases e1; cases e2
    obtain rfl : v = .int i := px.ra
    obtain rfl : w = .int j := py.ra
    exact .inl ⟨i, j, rfl, rfl, q _ _ H h (Same.refl H) .int⟩
  · rename_i i _ j e1 e2
    cases e1; cases e2
    obtain rfl : v = .str i := px.ra
    obtain rfl : w = .str j := py.ra
    exact .inr (.inl ⟨i, j, rfl, rfl, sz7 h.1, q _ _ H h.2 (Same.refl H) .str⟩)
  · rename_i k1 a k2 b e1 e2
    cases e1; cases e2
    obtain ⟨p, vs, rfl, t, r⟩ := px.lstT
    obtain ⟨p', vs', rfl, t', r'⟩ := py.lstT
    refine .inr (.inr (.inl ⟨p, p', vs, vs', rfl, rfl, t, t', by rw [r.len, r'.len]; exact sz7 h.1, fun l hl => ?_⟩))
    have z := pr_lst (pr_cat r r') hl (hF l hl)
    rw [kL_kT2] at z
    exact q _ _ _ h.2 (same_upd hl) z
  · rename_i k1 a k2 b e1 e2
    cases e1; cases e2
    obtain ⟨p, vs, rfl, t, r⟩ := px.tupT
    obtain ⟨p', vs', rfl, t', r'⟩ := py.tupT
    have rr := pr_cat r r'
    have z : ∀ (H' : Hp) (pp : Addr) (ws : List V), Same H H' → SqT K H' pp ws → RAs K ((kT2 k k').elA B F) H (a ++ b) ws → PR K B F H' (.ref pp) (kT2 k k', .tup (a ++ b)) := fun H' pp ws s tt rq => by
      rcases el_cases (kT2 k k') with e | e
      · have e' : kT2 k k' = .fl := by rw [← kT2_el]; exact e
        rw [e']
        exact .fl ⟨pp, ws, rfl, tt, (rq.elno e).same s⟩
      · have e' : kT2 k k' = .rd := by rw [← kT2_el]; exact e
        rw [e']
        exact .rd ⟨pp, ws, rfl, tt, rq.elor.same s⟩
    refine .inr (.inr (.inr ⟨p, p', vs, vs', rfl, rfl, t, t', by rw [r.len, r'.len]; exact sz7 h.1, fun e => ?_, fun _ e => ?_, fun _ _ l hl => ?_⟩))
    · subst e
      exact q _ _ H h.2 (Same.refl H) (z H p' _ (Same.refl H) t' (by simpa using rr))
    · subst e
      exact q _ _ H h.2 (Same.refl H) (z H p _ (Same.refl H) t (by simpa using rr))
    · exact q _ _ _ h.2 (same_upd hl) (z _ l _ (same_upd hl) (.of upd_same) rr)
  · exact h.elim
/-- two ints in, something out, under C -/
def oI (C : Int → Int → Prop) (g : Int → Int → D) : KD → KD → (KD → Prop) → Prop := fun x y P => match x.2, y.2 with
  | .int i, .int j => C i j ∧ P (.fl, g i j)
  | _, _ => False
def oI0 (g : Int → Int → D) : KD → KD → (KD → Prop) → Prop := fun x y P => match x.2, y.2 with
  | .int i, .int j => P (.fl, g i j)
  | _, _ => False
theorem os_I {C : Int → Int → Prop} {g : Int → Int → V} {g' : Int → Int → D} (hg : ∀ i j, RA K No H (g' i j) (g i j) ∧ (∀ H', RA K No H' (g' i j) (g i j))) : OpS K (rI C g) (oI C g') := by
  intro B F H v w x y P Q px py hF h q
  obtain ⟨k, d⟩ := x
  obtain ⟨k', d'⟩ := y
  unfold oI at h
  split at h
  · rename_i i j e1 e2
    dsimp only at e1 e2
    subst e1; subst e2
    obtain rfl : v = .int i := px.ra
    obtain rfl : w = .int j := py.ra
    exact ⟨i, j, rfl, rfl, h.1, q _ _ H h.2 (Same.refl H) (.fl ((hg i j).2 H))⟩
  · exact h.elim
theorem os_I0 {g : Int → Int → V} {g' : Int → Int → D} (hg : ∀ i j H', RA K No H' (g' i j) (g i j)) : OpS K (rI0 g) (oI0 g') := by
  intro B F H v w x y P Q px py hF h q
  obtain ⟨k, d⟩ := x
  obtain ⟨k', d'⟩ := y
  unfold oI0 at h
  split at h
  · rename_i i j e1 e2
    dsimp only at e1 e2
    subst e1; subst e2
    obtain rfl : v = .int i := px.ra
    obtain rfl : w = .int j := py.ra
    exact ⟨i, j, rfl, rfl, q _ _ H h (Same.refl H) (.fl (hg i j H))⟩
  · exact h.elim
abbrev oSub : KD → KD → (KD → Prop) → Prop := oI0 fun i j => .int (i - j)
/-- a divisor of at most 60 figures -/
def CDivA (_ j : Int) : Prop := 0 < j ∧ j ≤ 1000000000000000000000000000000000000000000000000000000000000
theorem CDivA.w {i j : Int} (h : CDivA i j) : CDivW i j := by
  refine ⟨h.1, ?_⟩
  have h2 : j.natAbs ≤ 1000000000000000000000000000000000000000000000000000000000000 := by
    have h1 := h.1
    have := h.2
    omega
  by_cases e : j.natAbs = 0
  · rw [e]; decide
  · rw [Nat.log2_lt e]
    exact Nat.lt_of_le_of_lt h2 (Nat.lt_of_lt_of_le (by decide : 1000000000000000000000000000000000000000000000000000000000000 < 2 ^ 200) (Nat.pow_le_pow_right (by decide) (by decide)))
theorem op_fdivA {X : Cx} : OpR X (binaryOp .FloorDiv) (rI CDivA fun i j => .int (i / j)) := fun pins s σ H x y v u Q I rx ry h => by
  obtain ⟨i, j, e1, e2, c, q⟩ := h
  exact op_fdivW pins s σ H x y v u Q I rx ry ⟨i, j, e1, e2, c.w, q⟩
abbrev oFdiv : KD → KD → (KD → Prop) → Prop := oI CDivA fun i j => .int (i / j)
abbrev oMod : KD → KD → (KD → Prop) → Prop := oI (fun _ j => 0 < j) fun i j => .int (i % j)
abbrev oPow : KD → KD → (KD → Prop) → Prop := oI CPow fun i j => .int (i ^ j.toNat)
theorem os_sub : OpS K (rI0 fun i j => .int (i - j)) oSub := os_I0 fun _ _ _ => rfl
theorem os_fdiv : OpS K (rI CDivA fun i j => .int (i / j)) oFdiv := os_I (H := fun _ => none) fun _ _ => ⟨rfl, fun _ => rfl⟩
theorem os_mod : OpS K (rI (fun _ j => 0 < j) fun i j => .int (i % j)) oMod := os_I (H := fun _ => none) fun _ _ => ⟨rfl, fun _ => rfl⟩
theorem os_pow : OpS K (rI CPow fun i j => .int (i ^ j.toNat)) oPow := os_I (H := fun _ => none) fun _ _ => ⟨rfl, fun _ => rfl⟩
def uNeg : KD → (KD → Prop) → Prop := fun x P => match x.2 with
  | .int i => P (.fl, .int (-i))
  | _ => False
theorem us_neg : UnS K (rU fun i => .int (-i)) uNeg := by
  intro B F H v x P Q px hF h q
  obtain ⟨k, d⟩ := x
  unfold uNeg at h
  split at h
  · rename_i i e1
    dsimp only at e1
    subst e1
    obtain rfl : v = .int i := px.ra
    exact ⟨i, rfl, q _ _ H h (Same.refl H) .int⟩
  · exact h.elim
/-- * : ints; a list, a tuple some times -/
def oMul : KD → KD → (KD → Prop) → Prop := fun x y P => match x, y with
  | (_, .int i), (_, .int j) => CMul i j ∧ P (.fl, .int (i * j))
  | (k, .lst a), (_, .int j) => -100000 ≤ j ∧ j ≤ 100000 ∧ a.length * j.toNat ≤ 10000000 ∧ P (kL k, .lst (List.replicate j.toNat a).flatten)
  | (k, .tup a), (_, .int j) => a ≠ [] ∧ 1 ≤ j ∧ j ≤ 1000 ∧ a.length ≤ 1000 ∧ P (kT k, .tup (List.replicate j.toNat a).flatten)
  | _, _ => False
theorem RAs.rep {ds : List D} {vs : List V} (h : RAs K A H ds vs) : ∀ n : Nat, RAs K A H (List.replicate n ds).flatten (List.replicate n vs).flatten
  | 0 => .nil
  | n + 1 => by
    rw [List.replicate_succ, List.replicate_succ, List.flatten_cons, List.flatten_cons]
    exact h.append (RAs.rep h n)
abbrev rMulAll (K : Frg) : R2 := fun x y H Q => (rI CMul (fun i j => .int (i * j)) x y H Q) ∨ rRep x y H Q ∨ rRepT K x y H Q ∨ rRep1 K x y H Q
theorem op_mulAll {X : Cx} : OpR X (binaryOp .Mult) (rMulAll X.K) := OpR.or op_mul (OpR.or op_rep (OpR.or op_repT op_rep1))
theorem os_mul : OpS K (rMulAll K) oMul := by
  intro B F H v w x y P Q px py hF h q
  obtain ⟨k, d⟩ := x
  obtain ⟨k', d'⟩ := y
  unfold oMul at h
  split at h
  · rename_i i _ j e1 e2
    cases e1; cases e2
    obtain rfl : v = .int i := px.ra
    obtain rfl : w = .int j := py.ra
    exact .inl ⟨i, j, rfl, rfl, h.1, q _ _ H h.2 (Same.refl H) .int⟩
  · rename_i _ a _ j e1 e2
    cases e1; cases e2
    obtain ⟨p, vs, rfl, t, r⟩ := px.lstT
    obtain rfl : w = .int j := py.ra
    obtain ⟨h1, h2, h3, h4⟩ := h
    refine .inr (.inl ⟨p, j, vs, rfl, rfl, t, by omega, by omega, by rw [r.len]; exact sz7 h3, fun l hl => ?_⟩)
    exact q _ _ _ h4 (same_upd hl) (pr_lst (r.rep _) hl (hF l hl))
  · rename_i _ a _ j e1 e2
    cases e1; cases e2
    obtain ⟨p, vs, rfl, t, r⟩ := px.tupT
    obtain rfl : w = .int j := py.ra
    obtain ⟨h0, h1, h2, h3, h4⟩ := h
    by_cases e1 : j = 1
    · subst e1
      refine .inr (.inr (.inr ⟨p, vs, rfl, rfl, t, q _ _ H h4 (Same.refl H) ?_⟩))
      rw [show (List.replicate (1 : Int).toNat a).flatten = a by
        show a ++ [] = a
        exact List.append_nil a]
      rcases el_cases k with e | e
      · rw [show kT k = .fl from e]
        exact .fl ⟨p, vs, rfl, t, r.elno e⟩
      · rw [show kT k = .rd from e]
        exact .rd ⟨p, vs, rfl, t, r.elor⟩
    refine .inr (.inr (.inl ⟨p, j, vs, rfl, rfl, t, fun e => h0 ?_, by omega, h2, by rw [r.len]; exact h3, fun l hl => ?_⟩))
    · have z := r.len
      rw [e] at z
      exact List.eq_nil_of_length_eq_zero z.symm
    · exact q _ _ _ h4 (same_upd hl) (pr_tup (r.rep _) hl)
  · exact h.elim

/-! ### comparisons -/
mutual
def D.toP : D → PyData
  | .non => .none
  | .bl b => .bool b
  | .int i => .int i
  | .str x => .str x
  | .tup ds => .tuple (D.toPs ds)
  | .lst ds => .list (D.toPs ds)
  | .kst ds => .list (D.toPs ds)
  | .frz d => D.toP d
  | .dcT _ _ => .dict []
  | .dcK _ _ => .dict []
  | .obj _ _ _ => .dict []
  | .fn _ => .dict []
  | .key _ => .dict []
  | .tpx _ => .dict []
  | .lkT _ => .dict []
  | .any => .dict []
def D.toPs : List D → List PyData
  | [] => []
  | d :: ds => D.toP d :: D.toPs ds
end
mutual
theorem RA.dp : ∀ (d : D) (v : V), RA K A H d v → d.toP.canLay0 = true → Dp K H v d.toP
  | .non, _, h, _ => by rw [show _ = V.non from h]; exact .non
  | .bl b, _, h, _ => by rw [show _ = V.bl b from h]; exact .bl b
  | .int b, _, h, _ => by rw [show _ = V.int b from h]; exact .int b
  | .str b, _, h, _ => by rw [show _ = V.str b from h]; exact .str b
  | .tup ds, _, ⟨p, vs, e, t, r⟩, c => by subst e; exact .tup t (RAs.dp ds vs r c)
  | .lst ds, _, ⟨p, vs, e, _, t, r⟩, c => by subst e; exact .lst (.of t) (RAs.dp ds vs r c)
  | .kst ds, _, ⟨p, vs, e, t, r⟩, c => by subst e; exact .lst (kst_seq t) (RAs.dp ds vs r c)
  | .frz d, v, h, c => RA.dp d v h c
  | .dcT _ _, _, _, c => by cases c
  | .dcK _ _, _, _, c => by cases c
  | .obj _ _ _, _, _, c => by cases c
  | .fn _, _, _, c => by cases c
  | .key _, _, _, c => by cases c
  | .tpx _, _, _, c => by cases c
  | .lkT _, _, _, c => by cases c
  | .any, _, _, c => by cases c
theorem RAs.dp : ∀ (ds : List D) (vs : List V), RAs K A H ds vs → PyData.canLayAll0 (D.toPs ds) = true → DpAll K H vs (D.toPs ds)
  | [], _, h, _ => by rw [show _ = [] from h]; exact .nil
  | d :: ds, _, ⟨w, ws, e, h, t⟩, c => by
    subst e
    have c' := Bool.and_eq_true_iff.mp (show (d.toP.canLay0 && PyData.canLayAll0 (D.toPs ds)) = true from c)
    exact .cons (RA.dp d w h c'.1) (RAs.dp ds ws t c'.2)
end
/-- may be asked for == -/
def D.okE (d : D) : Prop := SeqAt.shaped d.toP = true
theorem PR.dp {v : V} {z : KD} (h : PR K B F H v z) (c : z.2.okE) : Dp K H v z.2.toP := RA.dp _ _ h.ra (SeqAt.canLay_of_shaped c)
def oEq : KD → KD → (KD → Prop) → Prop := fun x y P => match x.2, y.2 with
  | .int i, .int j => P (.fl, .bl (decide (i = j)))
  | .str i, .str j => P (.fl, .bl (decide (i = j)))
  | .bl i, .bl j => P (.fl, .bl (decide (i = j)))
  | a, b => a.okE ∧ b.okE ∧ P (.fl, .bl (PyData.eqv a.toP b.toP))
def oNe : KD → KD → (KD → Prop) → Prop := fun x y P => match x.2, y.2 with
  | .int i, .int j => P (.fl, .bl (!decide (i = j)))
  | .str i, .str j => P (.fl, .bl (!decide (i = j)))
  | .bl i, .bl j => P (.fl, .bl (!decide (i = j)))
  | a, b => a.okE ∧ b.okE ∧ P (.fl, .bl (!PyData.eqv a.toP b.toP))
abbrev rEqAll (K : Frg) : R2 := fun x y H Q => rEq x y H Q ∨ rEqD K x y H Q
abbrev rNeAll (K : Frg) : R2 := fun x y H Q => rNe x y H Q ∨ rNeD K x y H Q
theorem op_eqAll {X : Cx} (hu : X.A.units + 64 < cLine) : OpR X (compareOp .Eq) (rEqAll X.K) := OpR.or op_eq (op_eqD hu)
theorem op_neAll {X : Cx} (hu : X.A.units + 64 < cLine) : OpR X (compareOp .NotEq) (rNeAll X.K) := OpR.or op_ne (op_neD hu)
theorem dec_V {a b : Int} : decide (V.int a = V.int b) = decide (a = b) := by
  rw [Bool.eq_iff_iff]; simp
theorem dec_Vs {a b : Str} : decide (V.str a = V.str b) = decide (a = b) := by
  rw [Bool.eq_iff_iff]; simp
theorem dec_Vb {a b : Bool} : decide (V.bl a = V.bl b) = decide (a = b) := by
  rw [Bool.eq_iff_iff]; simp
theorem os_eq : OpS K (rEqAll K) oEq := by
  intro B F H v w x y P Q px py hF h q
  obtain ⟨k, d⟩ := x
  obtain ⟨k', d'⟩ := y
  unfold oEq at h
  split at h
  · rename_i i j e1 e2
    dsimp only at e1 e2
    subst e1; subst e2
    obtain rfl : v = .int i := px.ra
    obtain rfl : w = .int j := py.ra
    exact .inl ⟨rfl, by rw [dec_V]; exact q _ _ H h (Same.refl H) .bl⟩
  · rename_i i j e1 e2
    dsimp only at e1 e2
    subst e1; subst e2
    obtain rfl : v = .str i := px.ra
    obtain rfl : w = .str j := py.ra
    exact .inl ⟨rfl, by rw [dec_Vs]; exact q _ _ H h (Same.refl H) .bl⟩
  · rename_i i j e1 e2
    dsimp only at e1 e2
    subst e1; subst e2
    obtain rfl : v = .bl i := px.ra
    obtain rfl : w = .bl j := py.ra
    exact .inl ⟨rfl, by rw [dec_Vb]; exact q _ _ H h (Same.refl H) .bl⟩
  · obtain ⟨h1, h2, h3⟩ := h
    exact .inr ⟨_, _, px.dp h1, py.dp h2, h1, h2, q _ _ H h3 (Same.refl H) .bl⟩
theorem os_ne : OpS K (rNeAll K) oNe := by
  intro B F H v w x y P Q px py hF h q
  obtain ⟨k, d⟩ := x
  obtain ⟨k', d'⟩ := y
  unfold oNe at h
  split at h
  · rename_i i j e1 e2
    dsimp only at e1 e2
    subst e1; subst e2
    obtain rfl : v = .int i := px.ra
    obtain rfl : w = .int j := py.ra
    exact .inl ⟨rfl, by rw [dec_V]; exact q _ _ H h (Same.refl H) .bl⟩
  · rename_i i j e1 e2
    dsimp only at e1 e2
    subst e1; subst e2
    obtain rfl : v = .str i := px.ra
    obtain rfl : w = .str j := py.ra
    exact .inl ⟨rfl, by rw [dec_Vs]; exact q _ _ H h (Same.refl H) .bl⟩
  · rename_i i j e1 e2
    dsimp only at e1 e2
    subst e1; subst e2
    obtain rfl : v = .bl i := px.ra
    obtain rfl : w = .bl j := py.ra
    exact .inl ⟨rfl, by rw [dec_Vb]; exact q _ _ H h (Same.refl H) .bl⟩
  · obtain ⟨h1, h2, h3⟩ := h
    exact .inr ⟨_, _, px.dp h1, py.dp h2, h1, h2, q _ _ H h3 (Same.refl H) .bl⟩
abbrev oLt : KD → KD → (KD → Prop) → Prop := oI0 fun i j => .bl (decide (i < j))
abbrev oLe : KD → KD → (KD → Prop) → Prop := oI0 fun i j => .bl (decide (i ≤ j))
abbrev oGt : KD → KD → (KD → Prop) → Prop := oI0 fun i j => .bl (decide (j < i))
abbrev oGe : KD → KD → (KD → Prop) → Prop := oI0 fun i j => .bl (decide (j ≤ i))
theorem os_lt : OpS K (rI0 fun i j => .bl (decide (i < j))) oLt := os_I0 fun _ _ _ => rfl
theorem os_le : OpS K (rI0 fun i j => .bl (decide (i ≤ j))) oLe := os_I0 fun _ _ _ => rfl
theorem os_gt : OpS K (rI0 fun i j => .bl (decide (j < i))) oGt := os_I0 fun _ _ _ => rfl
theorem os_ge : OpS K (rI0 fun i j => .bl (decide (j ≤ i))) oGe := os_I0 fun _ _ _ => rfl
/-- is None -/
def D.isNon : D → Bool
  | .non => true
  | .frz d => D.isNon d
  | _ => false
def oIsN : KD → KD → (KD → Prop) → Prop := fun x y P => y.2 = .non ∧ P (.fl, .bl x.2.isNon)
def oNotN : KD → KD → (KD → Prop) → Prop := fun x y P => y.2 = .non ∧ P (.fl, .bl (!x.2.isNon))
theorem RA.isNon : ∀ {d : D} {v : V}, RA K A H d v → decide (v = .non) = d.isNon
  | .non, _, h => by rw [show _ = V.non from h]; rfl
  | .bl _, _, h => by rw [show _ = V.bl _ from h]; rfl
  | .int _, _, h => by rw [show _ = V.int _ from h]; rfl
  | .str _, _, h => by rw [show _ = V.str _ from h]; rfl
  | .tup _, _, ⟨_, _, e, _⟩ => by rw [e]; rfl
  | .lst _, _, ⟨_, _, e, _⟩ => by rw [e]; rfl
  | .kst _, _, ⟨_, _, e, _⟩ => by rw [e]; rfl
  | .dcT _ _, _, ⟨_, _, e, _⟩ => by rw [e]; rfl
  | .dcK _ _, _, ⟨_, _, e, _⟩ => by rw [e]; rfl
  | .obj _ _ _, _, ⟨_, _, _, e, _⟩ => by rw [e]; rfl
  | .fn _, _, e => by rw [show _ = V.ref _ from e]; rfl
  | .key _, _, ⟨_, e, _⟩ => by rw [e]; rfl
  | .tpx _, _, ⟨_, _, e, _⟩ => by rw [e]; rfl
  | .lkT _, _, ⟨_, _, e, _⟩ => by rw [e]; rfl
  | .any, _, e => decide_eq_false e
  | .frz d, v, h => RA.isNon (d := d) h
theorem os_isN : OpS K (fun x y H Q => y = .non ∧ Q (.bl (decide (x = .non))) H) oIsN := by
  intro B F H v w x y P Q px py hF h q
  obtain ⟨k', d'⟩ := y
  obtain ⟨h1, h2⟩ := h
  dsimp only at h1
  subst h1
  exact ⟨py.ra, by rw [px.ra.isNon]; exact q _ _ H h2 (Same.refl H) .bl⟩
theorem os_notN : OpS K (fun x y H Q => y = .non ∧ Q (.bl (!decide (x = .non))) H) oNotN := by
  intro B F H v w x y P Q px py hF h q
  obtain ⟨k', d'⟩ := y
  obtain ⟨h1, h2⟩ := h
  dsimp only at h1
  subst h1
  exact ⟨py.ra, by rw [px.ra.isNon]; exact q _ _ H h2 (Same.refl H) .bl⟩
/-! in -/
def D.flat1 : D → Bool
  | .non => true
  | .bl _ => true
  | .int _ => true
  | .str _ => true
  | _ => false
/-- == of numbers, texts, truths, None -/
def eqD1 : D → D → Bool
  | .non, .non => true
  | .bl a, .bl b => a == b
  | .bl a, .int b => (if a then 1 else 0) == b
  | .int a, .bl b => a == (if b then 1 else 0)
  | .int a, .int b => a == b
  | .str a, .str b => a == b
  | _, _ => false
def inD (x : D) (ds : List D) : Bool := ds.any fun y => eqD1 y x
theorem RA.flat1 {d : D} {v : V} (h : RA K A H d v) (e : d.flat1 = true) : flatV v = true := by
  cases d <;> first
    | (cases e; done)
    | (rw [show v = _ from h]; rfl)
theorem RA.eq1 {d e : D} {v w : V} (h : RA K A H d v) (h' : RA K A H e w) (c : d.flat1 = true) (c' : e.flat1 = true) : eqV v w = eqD1 d e := by
  cases d <;> first
    | (cases c; done)
    | (rw [show v = _ from h]
       cases e <;> first
        | (cases c'; done)
        | (rw [show w = _ from h']; rfl))
theorem RAs.flat1 : ∀ {ds : List D} {vs : List V}, RAs K A H ds vs → ds.all D.flat1 = true → vs.all flatV = true
  | [], _, h, _ => by rw [show _ = [] from h]; rfl
  | d :: ds, _, ⟨w, ws, e, h, t⟩, c => by
    subst e
    rw [List.all_cons, Bool.and_eq_true] at c
    rw [List.all_cons, RA.flat1 h c.1, RAs.flat1 t c.2]; rfl
theorem RAs.in1 {x : D} {v : V} (hx : RA K A H x v) (cx : x.flat1 = true) : ∀ {ds : List D} {vs : List V}, RAs K A H ds vs → ds.all D.flat1 = true → inV v vs = inD x ds
  | [], _, h, _ => by rw [show _ = [] from h]; rfl
  | d :: ds, _, ⟨w, ws, e, h, t⟩, c => by
    subst e
    rw [List.all_cons, Bool.and_eq_true] at c
    show (eqV w v || inV v ws) = (eqD1 d x || inD x ds)
    rw [RA.eq1 h hx c.1 cx, RAs.in1 hx cx t c.2]
def oIn (neg : Bool) : KD → KD → (KD → Prop) → Prop := fun x y P => match y.2.seq with
  | some ds => x.2.flat1 = true ∧ ds.all D.flat1 = true ∧ P (.fl, .bl (if neg then !inD x.2 ds else inD x.2 ds))
  | none => False
theorem os_in {neg : Bool} : OpS K (rIn K neg) (oIn neg) := by
  intro B F H v w x y P Q px py hF h q
  unfold oIn at h
  cases e : y.2.seq with
  | none => rw [e] at h; exact h.elim
  | some ds =>
    rw [e] at h
    obtain ⟨h1, h2, h3⟩ := h
    obtain ⟨p, vs, rfl, t, r⟩ := py.ra.seq e
    refine ⟨p, vs, rfl, t, RA.flat1 px.ra h1, RAs.flat1 r h2, ?_⟩
    rw [RAs.in1 px.ra h1 r h2]
    exact q _ _ H h3 (Same.refl H) .bl
def oInS (neg : Bool) : KD → KD → (KD → Prop) → Prop := fun x y P => match x.2, y.2 with
  | .str i, .str j => P (.fl, .bl (if neg then Builtin.Str.occurrences j i 0 j.length 1 |>.isEmpty else !(Builtin.Str.occurrences j i 0 j.length 1).isEmpty))
  | _, _ => False
theorem os_inS : OpS K (fun x y H Q => ∃ i j, x = .str i ∧ y = .str j ∧ Q (.bl (!(Builtin.Str.occurrences j i 0 j.length 1).isEmpty)) H) (oInS false) := by
  intro B F H v w x y P Q px py hF h q
  obtain ⟨k, d⟩ := x
  obtain ⟨k', d'⟩ := y
  unfold oInS at h
  split at h
  · rename_i i j e1 e2
    dsimp only at e1 e2
    subst e1; subst e2
    exact ⟨i, j, px.ra, py.ra, q _ _ H h (Same.refl H) .bl⟩
  · exact h.elim
end
end DL

/-! DL4: argument lists, displays, tests, targets, what is walked, comprehensions -/
namespace DL
open PySem PySem.Spec PyProof.Rows L2

/-! ### argument lists, displays -/
section
variable {K : Frg} {A B F : Addr → Prop} {H H' : Hp}
theorem VRs.len : ∀ {zs : List KD} {vs : List V} {f : List Addr}, VRs K A H zs vs f → vs.length = zs.length
  | [], _, _, h => by rw [h.1]; rfl
  | z :: zs, _, _, ⟨w, ws, f1, f2, e, e2, h, t⟩ => by rw [e, List.length_cons, List.length_cons, VRs.len t]
theorem VRs.append : ∀ {zs ys : List KD} {vs ws : List V} {f g : List Addr}, VRs K A H zs vs f → VRs K A H ys ws g → VRs K A H (zs ++ ys) (vs ++ ws) (f ++ g)
  | [], _, _, _, _, _, h, t => by rw [h.1, h.2]; exact t
  | z :: zs, _, _, _, _, _, ⟨w, ws, f1, f2, e, e2, h, t⟩, q => by subst e e2; rw [List.append_assoc]; exact ⟨w, _, f1, _, rfl, rfl, h, VRs.append t q⟩
theorem VRs.one {z : KD} {v : V} {f : List Addr} (h : VR K A H z v f) : VRs K A H [z] [v] f := ⟨v, [], f, [], rfl, (List.append_nil f).symm, h, rfl, rfl⟩
/-- the kind of a tuple of such -/
def jn (a b : Kd) : Kd := match a, b with
  | .fl, .fl => .fl
  | .fl, .ow => .ow
  | .sh, .fl => .ow
  | .sh, .ow => .ow
  | .ow, .fl => .ow
  | .ow, .ow => .ow
  | _, _ => .rd
def jT : List KD → Kd
  | [] => .fl
  | z :: zs => jn z.1 (jT zs)
/-- the kind of a list of such -/
def jL (zs : List KD) : Kd := match jT zs with
  | .fl => .sh
  | .ow => .ow
  | _ => .rd
theorem jT_cases : ∀ zs : List KD, jT zs = .fl ∨ jT zs = .ow ∨ jT zs = .rd
  | [] => .inl rfl
  | z :: zs => by
    show jn z.1 (jT zs) = _ ∨ jn z.1 (jT zs) = _ ∨ jn z.1 (jT zs) = _
    rcases jT_cases zs with e | e | e <;> rw [e] <;> cases z.1 <;> first | exact .inl rfl | exact .inr (.inl rfl) | exact .inr (.inr rfl)
theorem VRs.fl : ∀ {zs : List KD} {vs : List V} {f : List Addr}, VRs K A H zs vs f → jT zs = .fl → f = [] ∧ RAs K No H (zs.map (·.2)) vs
  | [], _, _, h, _ => ⟨h.2, h.1⟩
  | (k, d) :: zs, _, _, ⟨w, ws, f1, f2, e, e2, h, t⟩, j => by
    have j' : jn k (jT zs) = .fl := j
    have e3 : k = .fl ∧ jT zs = .fl := by
      revert j'
      cases k <;> cases jT zs <;> intro j' <;> first | exact ⟨rfl, rfl⟩ | cases j'
    obtain ⟨rfl, e4⟩ := e3
    obtain ⟨q1, q2⟩ := VRs.fl t e4
    subst e e2
    exact ⟨by rw [q1, h.1]; rfl, w, ws, rfl, h.2, q2⟩
theorem VR.r {k : Kd} {d : D} {v : V} {f : List Addr} (h : VR K A H (k, d) v f) (hk : k = .fl ∨ k = .sh ∨ k = .ow) : R K No H d v f := by
  rcases hk with rfl | rfl | rfl
  · obtain ⟨e, h⟩ := h
    subst e
    exact R.of0 _ _ h
  · exact h.1
  · exact h
theorem VRs.ow : ∀ {zs : List KD} {vs : List V} {f : List Addr}, VRs K A H zs vs f → jT zs ≠ .rd → Rs K No H (zs.map (·.2)) vs f
  | [], _, _, h, _ => h
  | (k, d) :: zs, _, _, ⟨w, ws, f1, f2, e, e2, h, t⟩, j => by
    have j' : jn k (jT zs) ≠ .rd := j
    have e3 : (k = .fl ∨ k = .sh ∨ k = .ow) ∧ jT zs ≠ .rd := by
      revert j'
      cases k <;> cases jT zs <;> intro j' <;> first | exact ⟨.inl rfl, by decide⟩ | exact ⟨.inr (.inl rfl), by decide⟩ | exact ⟨.inr (.inr rfl), by decide⟩ | exact absurd rfl j'
    exact ⟨w, ws, f1, f2, e, e2, h.r e3.1, VRs.ow t e3.2⟩
theorem VRs.ra (m : ∀ a, A a → B a) : ∀ {zs : List KD} {vs : List V} {f : List Addr}, VRs K A H zs vs f → (∀ a ∈ f, B a) → RAs K B H (zs.map (·.2)) vs
  | [], _, _, h, _ => h.1
  | z :: zs, _, _, ⟨w, ws, f1, f2, e, e2, h, t⟩, n => ⟨w, ws, e, h.ra m fun a q => n a (by rw [e2]; exact List.mem_append_left _ q), VRs.ra m t fun a q => n a (by rw [e2]; exact List.mem_append_right _ q)⟩
theorem pr_tupJ {zs : List KD} {vs : List V} {p : Addr} (h : PRs K B F H vs zs) (hp : H p = none) : PR K B F (upd H p (.tup vs)) (.ref p) (jT zs, .tup (zs.map (·.2))) := by
  obtain ⟨fp, r, nd, hF⟩ := h
  have s : Same H (upd H p (.tup vs)) := same_upd hp
  rcases jT_cases zs with e | e | e
  · rw [e]; exact .fl ⟨p, vs, rfl, .of upd_same, (r.fl e).2.same s⟩
  · rw [e]; exact ⟨fp, ⟨p, vs, rfl, .of upd_same, Rs.keep _ _ _ (KeepF.of_same s) (r.ow (by rw [e]; decide))⟩, nd, hF⟩
  · rw [e]; exact .rd ⟨p, vs, rfl, .of upd_same, (r.ra (fun _ h => h) fun a q => .inr (hF a q)).same s⟩
theorem pr_lstJ {zs : List KD} {vs : List V} {p : Addr} (h : PRs K B F H vs zs) (hp : H p = none) (hF0 : F p) : PR K B F (upd H p (.lst vs)) (.ref p) (jL zs, .lst (zs.map (·.2))) := by
  obtain ⟨fp, r, nd, hF⟩ := h
  have s : Same H (upd H p (.lst vs)) := same_upd hp
  have np : p ∉ fp := fun q => by
    obtain ⟨o, e, _⟩ := r.mu p q
    rw [hp] at e; cases e
  rcases jT_cases zs with e | e | e
  · have e' : jL zs = .sh := by unfold jL; rw [e]
    rw [e']
    exact ⟨[p], ⟨⟨p, vs, [], rfl, rfl, upd_same, Rs.of0 _ _ ((r.fl e).2.same s)⟩, p, vs, rfl, upd_same, (r.fl e).2.same s⟩, by simp, fun a q => by rw [List.mem_singleton.mp q]; exact hF0⟩
  · have e' : jL zs = .ow := by unfold jL; rw [e]
    rw [e']
    exact ⟨p :: fp, ⟨p, vs, fp, rfl, rfl, upd_same, Rs.keep _ _ _ (KeepF.of_same s) (r.ow (by rw [e]; decide))⟩, List.nodup_cons.mpr ⟨np, nd⟩, fun a q => by
      rcases List.mem_cons.mp q with rfl | q
      · exact hF0
      · exact hF a q⟩
  · have e' : jL zs = .rd := by unfold jL; rw [e]
    rw [e']
    exact .rd ⟨p, vs, rfl, .inr hF0, upd_same, (r.ra (fun _ h => h) fun a q => .inr (hF a q)).same s⟩
theorem PRs.one {z : KD} {v : V} (h : PR K B F H v z) : PRs K B F H [v] [z] := let ⟨fp, a, b, c⟩ := h; ⟨fp, .one a, b, c⟩
theorem PRs.get1 {z : KD} {vs : List V} (h : PRs K B F H vs [z]) : ∃ v, vs = [v] ∧ PR K B F H v z := by
  obtain ⟨fp, ⟨w, ws, f1, f2, e, e2, a, e3, e4⟩, b, c⟩ := h
  subst e e2 e3 e4
  rw [List.append_nil] at b c
  exact ⟨w, rfl, f1, a, b, c⟩
theorem PRs.get2 {z y : KD} {vs : List V} (h : PRs K B F H vs [z, y]) : ∃ v w, vs = [v, w] ∧ PR K B F H v z ∧ PR K B F H w y := by
  obtain ⟨fp, ⟨w, ws, f1, f2, e, e2, a, w', ws', f1', f2', e', e2', a', e3, e4⟩, b, c⟩ := h
  subst e e2 e' e2' e3 e4
  rw [List.append_nil] at b c
  obtain ⟨b1, b2, _⟩ := List.nodup_append.mp b
  exact ⟨w, w', rfl, ⟨f1, a, b1, fun x q => c x (List.mem_append_left _ q)⟩, ⟨f1', a', b2, fun x q => c x (List.mem_append_right _ q)⟩⟩
end
section
variable {X : Cx} {pos : Pos}
theorem da_nil : DA X [] 0 (fun _ P => P []) :=
  ⟨_, pa_nil, fun σ H A ρ ow Q P g h q => q [] [] H rfl h (Same.refl H) .nil⟩
theorem da_cons {e : Expr} {es : List Expr} {n : Nat} {f : PF} {g : PAF} (h : DP X e f) (t : DA X es n g) (hs : starEach (e :: es) X.env = (false, eval e X.env) :: starEach es X.env := by rfl) :
    DA X (e :: es) (n + 1) (fun ρ P => f ρ fun z => g ρ fun zs => P (z :: zs)) := by
  obtain ⟨ta, ea, sa⟩ := h.run
  obtain ⟨tb, eb, sb⟩ := t.run
  refine ⟨_, pa_cons ea eb hs, fun σ H A ρ ow Q P g h q => ?_⟩
  refine sa σ H A ρ ow _ _ g h fun x v H1 hx s1 p1 => ?_
  refine sb σ H1 A ρ ow _ _ (g.same s1) hx fun zs vs H2 hn hy s2 p2 => ?_
  refine q _ _ H2 (by rw [List.length_cons, hn]) hy (s1.trans s2) ?_
  obtain ⟨f1, a1, b1, c1⟩ := p1
  obtain ⟨f2, a2, b2, c2⟩ := p2
  refine ⟨f1 ++ f2, ⟨v, vs, f1, f2, rfl, rfl, a1.same s2, a2.mono fun a z => z.imp id (s1.fre a)⟩, List.nodup_append.mpr ⟨b1, b2, fun a ha b hb e => ?_⟩, fun a z => ?_⟩
  · subst e
    obtain ⟨o, e, _⟩ := a1.mu a ha
    rw [show H1 a = none from c2 a hb] at e; cases e
  · rcases List.mem_append.mp z with z | z
    · exact c1 a z
    · exact s1.fre a (c2 a z)
def pTup (g : PAF) : PF := fun ρ P => g ρ fun zs => P (jT zs, .tup (zs.map (·.2)))
def pLst (g : PAF) : PF := fun ρ P => g ρ fun zs => P (jL zs, .lst (zs.map (·.2)))
theorem dp_tup {es : List Expr} {n : Nat} {g : PAF} {k} (h : DA X es n g) (hn : n ≤ 1000 := by decide) : DP X (.Tuple es k pos) (pTup g) := by
  obtain ⟨ta, ea, sa⟩ := h.run
  refine ⟨_, pe_tup ea, fun σ H A ρ ow Q P g h q => ?_⟩
  refine sa σ H A ρ ow _ _ g h fun zs vs H1 hz hx s1 p1 => ⟨?_, fun p hp => ?_⟩
  · obtain ⟨_, r, _⟩ := p1
    rw [r.len, hz, sizeLine_eq]; omega
  · exact q _ _ _ hx (s1.trans (same_upd hp)) (pr_tupJ p1 hp)
theorem dp_lst {es : List Expr} {n : Nat} {g : PAF} (h : DA X es n g) (hn : n ≤ 1000 := by decide) : DP X (.List es pos) (pLst g) := by
  obtain ⟨ta, ea, sa⟩ := h.run
  refine ⟨_, pe_lst ea, fun σ H A ρ ow Q P g h q => ?_⟩
  refine sa σ H A ρ ow _ _ g h fun zs vs H1 hz hx s1 p1 => ⟨?_, fun p hp => ?_⟩
  · obtain ⟨_, r, _⟩ := p1
    rw [r.len, hz, sizeLine_eq]; omega
  · exact q _ _ _ hx (s1.trans (same_upd hp)) (pr_lstJ p1 hp (s1.fre p hp))
/-! ### built-ins by name -/
def pCall (o : List KD → (KD → Prop) → Prop) (g : PAF) : PF := fun ρ P => g ρ fun zs => o zs P
theorem sound_call {K : Frg} {n : Nat} {r : List V → Hp → VK → Prop} {o : List KD → (KD → Prop) → Prop} {t : TA} {g : PAF} (hr : CallS K r o) (s : ASound K n t g) : PSound K (tCB r t) (pCall o g) := by
  intro σ H A ρ ow Q P gd h q
  refine s σ H A ρ ow _ _ gd h fun zs vs H1 _ hx s1 p1 => ?_
  exact hr (BB A ow) (Fre H) H1 vs zs P Q p1 s1.fre hx fun z u H' hz s3 p3 => q z u H' hz (s1.trans s3) p3
variable {e : Expr} {es : List Expr} {n : Nat} {g : PAF} {r : List V → Hp → VK → Prop} {o : List KD → (KD → Prop) → Prop} {x : Str} {p : Pos}
theorem dp_callB {id : String} (hc : CallR X (.builtin id) r) (hr : CallS X.K r o) (hg : Gl X x) (hm : X.mg x = none) (hv : bootBuiltins x = some (.builtin id)) (ha : DA X (e :: es) n g) (hn : x ≠ "__name__" := by decide) (hdb : (x == ("__debug__" : Str)) = false := by decide)
    (he : starEach (e :: es) X.env = (false, eval e X.env) :: starEach es X.env := by rfl) (hpl : (backTo pos (starEach es X.env)).any (·.1) = false := by rfl) : DP X (.Call (.Name x p) (e :: es) [] pos) (pCall o g) := by
  obtain ⟨t, ea, sa⟩ := ha.run
  exact ⟨_, pe_callB hc hg hm hv ea hn hdb he hpl, sound_call hr sa⟩
theorem dp_callTy {T : String} (hc : CallR X (.type T) r) (hr : CallS X.K r o) (hg : Gl X x) (hm : X.mg x = none) (hv : bootBuiltins x = some (.type T)) (ha : DA X (e :: es) n g) (hn : x ≠ "__name__" := by decide) (hdb : (x == ("__debug__" : Str)) = false := by decide)
    (he : starEach (e :: es) X.env = (false, eval e X.env) :: starEach es X.env := by rfl) (hpl : (backTo pos (starEach es X.env)).any (·.1) = false := by rfl) : DP X (.Call (.Name x p) (e :: es) [] pos) (pCall o g) := by
  obtain ⟨t, ea, sa⟩ := ha.run
  exact ⟨_, pe_callTy hc hg hm hv ea hn hdb he hpl, sound_call hr sa⟩
end
end DL

/-! DL5: subscripts, slices, and/or/not, conditional expressions, chains, fields, built-ins -/
namespace DL
open PySem PySem.Spec PyProof.Rows L2

section
variable {K : Frg} {A B F : Addr → Prop} {H H' : Hp}
theorem RAs.atI {ds : List D} {vs : List V} {i : Int} {d : D} (h : RAs K A H ds vs) (e : atI ds i = some d) : ∃ w, L2.atI vs i = some w ∧ RA K A H d w := by
  unfold L2.atI at e ⊢
  rw [h.len]
  cases q : ixN ds.length i with
  | none => rw [q] at e; cases e
  | some j =>
    rw [q] at e
    exact h.get e
/-- a[i] of a tuple, list, text -/
def oIx : KD → KD → (KD → Prop) → Prop := fun x y P => match x, y.2 with
  | (k, .tup ds), .int i => (match atI ds i with | some d => P (kel k d) | none => False)
  | (k, .lst ds), .int i => (match atI ds i with | some d => P (kel k d) | none => False)
  | (k, .kst ds), .int i => (match atI ds i with | some d => P (kel k d) | none => False)
  | (_, .str z), .int i => z.length ≤ 10000000 ∧ (match atI z.cps.toList i with | some c => P (.fl, .str ⟨#[c]⟩) | none => False)
  | _, _ => False
theorem os_ix : OpS K (rIx K) oIx := by
  intro B F H v w x y P Q px py hF h q
  obtain ⟨k, d⟩ := x
  obtain ⟨k', d'⟩ := y
  have go : ∀ (ds : List D) (i : Int), d.seq = some ds → d' = .int i → (match atI ds i with | some d => P (kel k d) | none => False) → rIx K v w H Q := fun ds i e1 e2 hh => by
    clear h
    subst e2
    obtain ⟨p, vs, rfl, t, r⟩ := px.seq e1
    obtain rfl : w = .int i := py.ra
    cases e : atI ds i with
    | none => rw [e] at hh; exact hh.elim
    | some c =>
      rw [e] at hh
      obtain ⟨u, hu, ru⟩ := r.atI e
      rcases t with t | t
      · exact .inl ⟨p, vs, i, u, rfl, rfl, t, hu, q _ _ H hh (Same.refl H) (pr_kel ru)⟩
      · exact .inr (.inl ⟨p, vs, i, u, rfl, rfl, t, hu, q _ _ H hh (Same.refl H) (pr_kel ru)⟩)
  unfold oIx at h
  split at h
  · rename_i ds i e1 e2
    cases e1
    exact go ds i rfl e2 h
  · rename_i ds i e1 e2
    cases e1
    exact go ds i rfl e2 h
  · rename_i ds i e1 e2
    cases e1
    exact go ds i rfl e2 h
  · rename_i z i e1 e2
    cases e1
    dsimp only at e2
    subst e2
    obtain rfl : v = .str z := px.ra
    obtain rfl : w = .int i := py.ra
    obtain ⟨h1, h2⟩ := h
    cases e : atI z.cps.toList i with
    | none => rw [e] at h2; exact h2.elim
    | some c =>
      rw [e] at h2
      exact .inr (.inr ⟨z, i, c, rfl, rfl, sz7 h1, e, q _ _ H h2 (Same.refl H) .str⟩)
  · exact h.elim
end
section
variable {X : Cx} {pos : Pos} {a b c : Expr} {fa fb fc : PF}
theorem dp_ix (ha : DP X a fa) (hb : DP X b fb) (hs : PlainIx b := by exact fun _ _ => rfl) : DP X (.Subscript a b pos) (pOp oIx fa fb) := by
  obtain ⟨ta, ea, sa⟩ := ha.run
  obtain ⟨tb, eb, sb⟩ := hb.run
  exact ⟨_, pe_ix ix_seq ea eb hs, sound_op os_ix sa sb⟩

/-! ### slices -/
def cutD (xs : List D) (lo hi : Option Int) : List D := (xs.drop (HT.sIx xs.length 0 lo)).take (HT.sIx xs.length xs.length hi - HT.sIx xs.length 0 lo)
theorem RAs.cut {K : Frg} {A : Addr → Prop} {H : Hp} {ds : List D} {vs : List V} (h : RAs K A H ds vs) (lo hi : Option Int) : RAs K A H (cutD ds lo hi) (cutV vs lo hi) := by
  unfold cutD cutV
  rw [h.len]
  exact (h.drop _).take _
/-- a part of a slice: left out, or an int -/
abbrev POF := Ro → (Option Int → Prop) → Prop
structure DO (X : Cx) (e : Option Expr) (f : POF) : Prop where
  run : ∃ t, PO X e t ∧ ∀ (σ : L2.St) (H : Hp) (A : Addr → Prop) (ρ : Ro) (ow : List Addr) (Q : Option Int → Hp → Prop) (P : Option Int → Prop), Good X.K A H ρ σ ow → f ρ P →
    (∀ b H', P b → Same H H' → Q b H') → t σ H Q
def oNoP : POF := fun _ P => P none
def oP (f : PF) : POF := fun ρ P => f ρ fun z => match z.2 with
  | .int i => P (some i)
  | _ => False
theorem do_none : DO X none oNoP := ⟨_, po_none, fun σ H A ρ ow Q P g h q => q _ H h (Same.refl H)⟩
theorem do_some (ha : DP X a fa) : DO X (some a) (oP fa) := by
  obtain ⟨ta, ea, sa⟩ := ha.run
  refine ⟨_, po_some ea, fun σ H A ρ ow Q P g h q => ?_⟩
  refine sa σ H A ρ ow _ _ g h fun z v H1 hz s1 p1 => ?_
  obtain ⟨k, d⟩ := z
  have r := p1.ra
  cases d <;> first
    | exact hz.elim
    | exact ⟨_, r, q _ H1 hz s1⟩
def pSl (f : PF) (g h : POF) : PF := fun ρ P => f ρ fun z => g ρ fun lo => h ρ fun hi => match z with
  | (k, .lst ds) => P (kL k, .lst (cutD ds lo hi))
  | (k, .kst ds) => P (kL k, .lst (cutD ds lo hi))
  | (k, .tup ds) => P (kT k, .tup (cutD ds lo hi))
  | _ => False
abbrev rSlAll (K : Frg) : V → Option Int → Option Int → Hp → VK → Prop := fun x lo hi H Q => rSlL K x lo hi H Q ∨ rSlA K x lo hi H Q
theorem dp_sl {lo hi : Option Expr} {g h : POF} {p2 : Pos} (ha : DP X a fa) (hl : DO X lo g) (hh : DO X hi h) : DP X (.Subscript a (.Slice lo hi none p2) pos) (pSl fa g h) := by
  obtain ⟨ta, ea, sa⟩ := ha.run
  obtain ⟨tl, el, sl⟩ := hl.run
  obtain ⟨th, eh, sh⟩ := hh.run
  refine ⟨_, pe_slice (r := rSlAll X.K) (SlR.or sl_list sl_tupA) ea el eh, fun σ H A ρ ow Q P gd hf q => ?_⟩
  refine sa σ H A ρ ow _ _ gd hf fun z v H1 hz s1 p1 => ?_
  refine sl σ H1 A ρ ow _ _ (gd.same s1) hz fun l H2 hl s2 => ?_
  refine sh σ H2 A ρ ow _ _ (gd.same (s1.trans s2)) hl fun u H3 hu s3 => ?_
  obtain ⟨k, d⟩ := z
  have p3 := (p1.same s2).same s3
  have s : Same H H3 := (s1.trans s2).trans s3
  have lst : ∀ (ds : List D) (p : Addr) (vs : List V), v = .ref p → SqL X.K H3 p vs → RAs X.K (k.elA (BB A ow) (Fre H)) H3 ds vs → P (kL k, .lst (cutD ds l u)) → rSlAll X.K v l u H3 Q := fun ds p vs e t r hu => by
    refine .inl ⟨p, vs, e, t, fun pp hp => ?_⟩
    exact q _ _ _ hu (s.trans (same_upd hp)) (pr_lst (r.cut l u) hp (s.fre pp hp))
  cases d with
  | lst ds =>
    obtain ⟨p, vs, e, t, r⟩ := p3.lstT
    exact lst _ p vs e (.of t) r hu
  | tup ds =>
    obtain ⟨p, vs, e, t, r⟩ := p3.tupT
    have rr := r.cut l u
    refine .inr ⟨p, vs, e, t, fun hw => ?_, fun hw pp hp => ?_⟩
    · have ew : cutV vs l u = vs := by
        unfold cutV
        rw [hw.1, hw.2]
        simp
      rw [ew] at rr
      refine q _ _ H3 hu s ?_
      unfold kT
      rcases el_cases k with e' | e'
      · rw [e']; exact .fl ⟨p, vs, rfl, t, rr.elno e'⟩
      · rw [e']; exact .rd ⟨p, vs, rfl, t, rr.elor⟩
    · exact q _ _ _ hu (s.trans (same_upd hp)) (pr_tup rr hp)
  | kst ds =>
    have z : ∃ p vs, v = .ref p ∧ SqL X.K H3 p vs ∧ RAs X.K (k.elA (BB A ow) (Fre H)) H3 ds vs := by
      have p4 : ∃ p vs, v = .ref p ∧ SqL X.K (lockd H3) p vs ∧ RAs X.K (Or2 (BB A ow) (Fre H)) H3 ds vs := p3.ra
      obtain ⟨p', vs', e', t', r'⟩ := p4
      cases k with
      | fl => obtain ⟨_, a, _⟩ := p3; obtain ⟨p, vs, e, t, r⟩ := a.2; exact ⟨p, vs, e, kst_seq t, r⟩
      | rd => exact ⟨p', vs', e', kst_seq t', r'⟩
      | ow => exact ⟨p', vs', e', kst_seq t', r'⟩
      | sh => obtain ⟨_, a, _⟩ := p3; obtain ⟨p, vs, e, t, r⟩ := a.2; exact ⟨p, vs, e, kst_seq t, r⟩
      | sa => obtain ⟨_, a, _⟩ := p3; obtain ⟨p, vs, e, t, r⟩ := a.2.2; exact ⟨p, vs, e, kst_seq t, r⟩
    obtain ⟨p, vs, e, t, r⟩ := z
    exact lst _ p vs e t r hu
  | _ => exact hu.elim

/-! ### and, or, not; conditional expressions; chains -/
structure DW (X : Cx) (e : Expr) (f : PTF) : Prop where
  run : ∃ t, PW X e t ∧ TSound X.K t f
theorem DW.dt {e : Expr} {f : PTF} (h : DW X e f) : DT X e f := let ⟨t, a, b⟩ := h.run; ⟨t, a.pt, b⟩
variable {ta tb : PTF} {rest : List Expr}
def tAnd (f g : PTF) : PTF := fun ρ P => f ρ fun b => if b = true then g ρ P else P false
def tOr (f g : PTF) : PTF := fun ρ P => f ρ fun b => if b = true then P true else g ρ P
def tNot (f : PTF) : PTF := fun ρ P => f ρ fun b => P (!b)
theorem ts_and {K : Frg} {t u : TT} {f g : PTF} (s : TSound K t f) (s' : TSound K u g) : TSound K (L2.tAnd t u) (tAnd f g) := by
  intro σ H A ρ ow Q P gd h q
  refine s σ H A ρ ow _ _ gd h fun b H1 hb s1 => ?_
  cases b with
  | true => exact s' σ H1 A ρ ow _ _ (gd.same s1) hb fun b H2 hb s2 => q b H2 hb (s1.trans s2)
  | false => exact q false H1 hb s1
theorem ts_or {K : Frg} {t u : TT} {f g : PTF} (s : TSound K t f) (s' : TSound K u g) : TSound K (L2.tOr t u) (tOr f g) := by
  intro σ H A ρ ow Q P gd h q
  refine s σ H A ρ ow _ _ gd h fun b H1 hb s1 => ?_
  cases b with
  | false => exact s' σ H1 A ρ ow _ _ (gd.same s1) hb fun b H2 hb s2 => q b H2 hb (s1.trans s2)
  | true => exact q true H1 hb s1
theorem dw_and1 (h : DT X a ta) : DW X (.BoolOp .And [a] pos) ta := let ⟨_, e, s⟩ := h.run; ⟨_, pw_and1 e, s⟩
theorem dw_or1 (h : DT X a ta) : DW X (.BoolOp .Or [a] pos) ta := let ⟨_, e, s⟩ := h.run; ⟨_, pw_or1 e, s⟩
theorem dw_and (h : DT X a ta) (h' : DW X (.BoolOp .And (b :: rest) pos) tb) : DW X (.BoolOp .And (a :: b :: rest) pos) (tAnd ta tb) := let ⟨_, e, s⟩ := h.run; let ⟨_, e', s'⟩ := h'.run; ⟨_, pw_and e e', ts_and s s'⟩
theorem dw_or (h : DT X a ta) (h' : DW X (.BoolOp .Or (b :: rest) pos) tb) : DW X (.BoolOp .Or (a :: b :: rest) pos) (tOr ta tb) := let ⟨_, e, s⟩ := h.run; let ⟨_, e', s'⟩ := h'.run; ⟨_, pw_or e e', ts_or s s'⟩
theorem dt_not (h : DT X a ta) : DT X (.UnaryOp .Not a pos) (tNot ta) := by
  obtain ⟨t, e, s⟩ := h.run
  refine ⟨_, pt_not e, fun σ H A ρ ow Q P gd h q => ?_⟩
  exact s σ H A ρ ow _ _ gd h fun b H1 hb s1 => q _ H1 hb s1
/-! as values -/
def pAndV (f g : PF) : PF := fun ρ P => f ρ fun z => match z.2 with
  | .bl b => if b = true then g ρ P else P (.fl, .bl false)
  | _ => False
def pOrV (f g : PF) : PF := fun ρ P => f ρ fun z => match z.2 with
  | .bl b => if b = true then P (.fl, .bl true) else g ρ P
  | _ => False
def uNot : KD → (KD → Prop) → Prop := fun z P => match z.2 with
  | .bl b => P (.fl, .bl (!b))
  | _ => False
theorem dp_one {op} (h : DP X a fa) : DP X (.BoolOp op [a] pos) fa := let ⟨_, e, s⟩ := h.run; ⟨_, pe_one e, s⟩
theorem dp_and (h : DP X a fa) (h' : DP X (.BoolOp .And (b :: rest) pos) fb) : DP X (.BoolOp .And (a :: b :: rest) pos) (pAndV fa fb) := by
  obtain ⟨_, e, s⟩ := h.run
  obtain ⟨_, e', s'⟩ := h'.run
  refine ⟨_, pe_and e e', fun σ H A ρ ow Q P gd h q => ?_⟩
  refine s σ H A ρ ow _ _ gd h fun z v H1 hz s1 p1 => ?_
  obtain ⟨k, d⟩ := z
  have r := p1.ra
  cases d <;> first
    | exact hz.elim
    | skip
  rename_i b
  refine ⟨b, r, ?_⟩
  cases b with
  | true => exact s' σ H1 A ρ ow _ _ (gd.same s1) hz fun z v H2 hz s2 p2 => q z v H2 hz (s1.trans s2) (p2.mono (fun _ h => h) s1.fre)
  | false => exact q _ _ H1 hz s1 .bl
theorem dp_or (h : DP X a fa) (h' : DP X (.BoolOp .Or (b :: rest) pos) fb) : DP X (.BoolOp .Or (a :: b :: rest) pos) (pOrV fa fb) := by
  obtain ⟨_, e, s⟩ := h.run
  obtain ⟨_, e', s'⟩ := h'.run
  refine ⟨_, pe_or e e', fun σ H A ρ ow Q P gd h q => ?_⟩
  refine s σ H A ρ ow _ _ gd h fun z v H1 hz s1 p1 => ?_
  obtain ⟨k, d⟩ := z
  have r := p1.ra
  cases d <;> first
    | exact hz.elim
    | skip
  rename_i b
  refine ⟨b, r, ?_⟩
  cases b with
  | false => exact s' σ H1 A ρ ow _ _ (gd.same s1) hz fun z v H2 hz s2 p2 => q z v H2 hz (s1.trans s2) (p2.mono (fun _ h => h) s1.fre)
  | true => exact q _ _ H1 hz s1 .bl
theorem dp_not (h : DP X a fa) : DP X (.UnaryOp .Not a pos) (pUn uNot fa) := by
  obtain ⟨_, e, s⟩ := h.run
  refine ⟨_, pe_not e, fun σ H A ρ ow Q P gd h q => ?_⟩
  refine s σ H A ρ ow _ _ gd h fun z v H1 hz s1 p1 => ?_
  obtain ⟨k, d⟩ := z
  have r := p1.ra
  cases d <;> first
    | exact hz.elim
    | exact ⟨_, r, q _ _ H1 hz s1 .bl⟩
def pIf (t : PTF) (f g : PF) : PF := fun ρ P => t ρ fun b => if b = true then f ρ P else g ρ P
theorem dp_if (ht : DT X c ta) (h : DP X a fa) (h' : DP X b fb) : DP X (.IfExp c a b pos) (pIf ta fa fb) := by
  obtain ⟨_, et, st⟩ := ht.run
  obtain ⟨_, e, s⟩ := h.run
  obtain ⟨_, e', s'⟩ := h'.run
  refine ⟨_, pe_ifExp et e e', fun σ H A ρ ow Q P gd h q => ?_⟩
  refine st σ H A ρ ow _ _ gd h fun b H1 hb s1 => ?_
  cases b with
  | true => exact s σ H1 A ρ ow _ _ (gd.same s1) hb fun z v H2 hz s2 p2 => q z v H2 hz (s1.trans s2) (p2.mono (fun _ h => h) s1.fre)
  | false => exact s' σ H1 A ρ ow _ _ (gd.same s1) hb fun z v H2 hz s2 p2 => q z v H2 hz (s1.trans s2) (p2.mono (fun _ h => h) s1.fre)
def pChain (o o' : KD → KD → (KD → Prop) → Prop) (fa fb fc : PF) : PF := fun ρ P => fa ρ fun x => fb ρ fun y => o x y fun z => match z.2 with
  | .bl b => if b = true then fc ρ fun w => o' y w P else P (.fl, .bl false)
  | _ => False
theorem sound_chain {K : Frg} {r r' : R2} {o o' : KD → KD → (KD → Prop) → Prop} {ta tb tc : TE} (hr : OpS K r o) (hr' : OpS K r' o') (sa : PSound K ta fa) (sb : PSound K tb fb) (sc : PSound K tc fc) : PSound K (tChain r r' ta tb tc) (pChain o o' fa fb fc) := by
  intro σ H A ρ ow Q P g h q
  refine sa σ H A ρ ow _ _ g h fun x v H1 hx s1 p1 => ?_
  refine sb σ H1 A ρ ow _ _ (g.same s1) hx fun y w H2 hy s2 p2 => ?_
  refine hr (BB A ow) (Fre H) H2 v w x y _ _ (p1.same s2) (p2.mono (fun _ h => h) s1.fre) (s1.trans s2).fre hy fun z u H3 hz s3 p3 => ?_
  obtain ⟨k, d⟩ := z
  have rr := p3.ra
  have s := (s1.trans s2).trans s3
  cases d <;> first
    | exact hz.elim
    | skip
  rename_i b
  refine ⟨b, rr, ?_⟩
  cases b with
  | false => exact q _ _ H3 hz s .bl
  | true =>
    refine sc σ H3 A ρ ow _ _ (g.same s) hz fun z' v' H4 hz' s4 p4 => ?_
    exact hr' (BB A ow) (Fre H) H4 w v' y z' P Q (((p2.same s3).same s4).mono (fun _ h => h) s1.fre) (p4.mono (fun _ h => h) s.fre) (s.trans s4).fre hz' fun z u H5 hz s5 p5 => q z u H5 hz ((s.trans s4).trans s5) p5
theorem dp_chain {op op' : CmpOp} {r r' : R2} {o o' : KD → KD → (KD → Prop) → Prop} (ho : OpR X (compareOp op) r) (ho' : OpR X (compareOp op') r') (hr : OpS X.K r o) (hr' : OpS X.K r' o') (ha : DP X a fa) (hb : DP X b fb) (hc : DP X c fc)
    (hm : lastMarks [op, op'] [b, c] = false := by with_unfolding_all rfl) : DP X (.Compare a [op, op'] [b, c] pos) (pChain o o' fa fb fc) := by
  obtain ⟨_, ea, sa⟩ := ha.run
  obtain ⟨_, eb, sb⟩ := hb.run
  obtain ⟨_, ec, sc⟩ := hc.run
  exact ⟨_, pe_chain ho ho' ea eb ec hm, sound_chain hr hr' sa sb sc⟩
theorem dt_chain {op op' : CmpOp} {r r' : R2} {o o' : KD → KD → (KD → Prop) → Prop} (ho : OpR X (compareOp op) r) (ho' : OpR X (compareOp op') r') (hr : OpS X.K r o) (hr' : OpS X.K r' o') (ha : DP X a fa) (hb : DP X b fb) (hc : DP X c fc)
    (hm : lastMarks [op, op'] [b, c] = false := by with_unfolding_all rfl) : DT X (.Compare a [op, op'] [b, c] pos) (pTest (pChain o o' fa fb fc)) := by
  obtain ⟨_, ea, sa⟩ := ha.run
  obtain ⟨_, eb, sb⟩ := hb.run
  obtain ⟨_, ec, sc⟩ := hc.run
  exact ⟨_, pt_chain ho ho' ea eb ec hm, sound_test (sound_chain hr hr' sa sb sc)⟩
end
end DL

/-! DL6: targets, what is walked, comprehensions -/
namespace DL
open PySem PySem.Spec PyProof.Rows L2

/-! ### targets -/
structure Own (K : Frg) (A : Addr → Prop) (H : Hp) (kd : KD) (v : V) (fp ow : List Addr) : Prop where
  rep : VR K A H kd v fp
  nd : (fp ++ ow).Nodup
  dis : ∀ a ∈ fp, ¬ A a
abbrev GF := KD → Ro → (Ro → Prop) → Prop
def GSound (K : Frg) (is : List Nat) (t : TG) (g : GF) : Prop := ∀ (v : V) (kd : KD) (fp : List Addr) (σ : L2.St) (H : Hp) (A : Addr → Prop) (ρ : Ro) (ow : List Addr) (Q : L2.St → Hp → Prop) (P : Ro → Prop), Good K A H ρ σ ow → Own K A H kd v fp ow → g kd ρ P →
  (∀ ρ' σ' ow', P ρ' → Good K A H ρ' σ' ow' → (∀ a ∈ ow', a ∈ ow ∨ a ∈ fp) → wipe σ' is = wipe σ is → Q σ' H) → t v σ H Q
abbrev GsF := List KD → Ro → (Ro → Prop) → Prop
def GsSound (K : Frg) (is : List Nat) (t : TGs) (g : GsF) : Prop := ∀ (vs : List V) (zs : List KD) (fp : List Addr) (σ : L2.St) (H : Hp) (A : Addr → Prop) (ρ : Ro) (ow : List Addr) (Q : L2.St → Hp → Prop) (P : Ro → Prop), Good K A H ρ σ ow →
  VRs K A H zs vs fp → (fp ++ ow).Nodup → (∀ a ∈ fp, ¬ A a) → g zs ρ P →
  (∀ ρ' σ' ow', P ρ' → Good K A H ρ' σ' ow' → (∀ a ∈ ow', a ∈ ow ∨ a ∈ fp) → wipe σ' is = wipe σ is → Q σ' H) → t vs σ H Q
structure DG (X : Cx) (e : Expr) (is : List Nat) (g : GF) : Prop where
  run : ∃ t, PG X e t ∧ GSound X.K is t g
structure DGs (X : Cx) (es : List Expr) (is : List Nat) (n : Nat) (g : GsF) : Prop where
  run : ∃ t, PGs X es t ∧ GsSound X.K is t g
section
variable {K : Frg} {A : Addr → Prop} {H : Hp} {ρ : Ro} {σ : L2.St} {ow : List Addr}
theorem Good.put {i : Nat} {kd : KD} {v : V} {fp : List Addr} (g : Good K A H ρ σ ow) (o : Own K A H kd v fp ow) :
    ∃ ow', Good K A H (ρ.set i (some kd)) (σ.set i (some v)) ow' ∧ ∀ a ∈ ow', a ∈ ow ∨ a ∈ fp := by
  cases e : ρ[i]? with
  | none =>
    have h1 : ρ.length ≤ i := List.getElem?_eq_none_iff.mp e
    have h2 : σ.length ≤ i := by rw [g.rep.len]; exact h1
    rw [List.set_eq_of_length_le h1, List.set_eq_of_length_le h2]
    exact ⟨ow, g, fun a h => .inl h⟩
  | some s =>
    obtain ⟨x, f1, f2, f3, hx, e2, _, put⟩ := g.rep.split e
    have nd := o.nd
    subst e2
    refine ⟨f1 ++ (fp ++ f3), ⟨put H A (some kd) (some v) fp (fun _ h => h) (fun a o e _ => e) ⟨v, rfl, o.rep⟩, ?_, fun a h => ?_, g.tr⟩, fun a h => ?_⟩
    · obtain ⟨n1, n2, n3⟩ := List.nodup_append.mp nd
      obtain ⟨m1, m2, m3⟩ := List.nodup_append.mp n2
      obtain ⟨_, m5, m6⟩ := List.nodup_append.mp m2
      refine List.nodup_append.mpr ⟨m1, List.nodup_append.mpr ⟨n1, m5, fun a ha b hb => n3 a ha b (by simp [hb])⟩, fun a ha b hb => ?_⟩
      rcases List.mem_append.mp hb with hb | hb
      · exact fun e => n3 b hb a (by simp [ha]) e.symm
      · exact m3 a ha b (by simp [hb])
    · rcases List.mem_append.mp h with h | h
      · exact g.dis a (by simp [h])
      · rcases List.mem_append.mp h with h | h
        · exact o.dis a h
        · exact g.dis a (by simp [h])
    · rcases List.mem_append.mp h with h | h
      · exact .inl (by simp [h])
      · rcases List.mem_append.mp h with h | h
        · exact .inr h
        · exact .inl (by simp [h])
end
theorem wipe_get (σ : L2.St) (j : Nat) : ∀ vs : List Nat, (wipe σ vs)[j]? = if j ∈ vs ∧ j < σ.length then some none else σ[j]?
  | [] => by simp [wipe]
  | v :: vs => by
    show ((wipe σ vs).set v none)[j]? = _
    by_cases hv : v = j
    · subst hv
      by_cases hl : v < σ.length
      · rw [List.getElem?_set_self (by rw [wipe_length]; exact hl), if_pos ⟨List.mem_cons_self, hl⟩]
      · rw [List.set_eq_of_length_le (by rw [wipe_length]; omega), wipe_get σ v vs, if_neg (fun z => hl z.2), if_neg (fun z => hl z.2)]
    · rw [List.getElem?_set_ne hv, wipe_get σ j vs]
      have : j ∈ v :: vs ↔ j ∈ vs := by simp [Ne.symm hv]
      simp only [this]
theorem wipe_set {σ : L2.St} {i : Nat} {x : Option V} {vs : List Nat} (h : i ∈ vs) : wipe (σ.set i x) vs = wipe σ vs := by
  apply List.ext_getElem?
  intro j
  rw [wipe_get, wipe_get, List.length_set]
  by_cases hj : j ∈ vs ∧ j < σ.length
  · rw [if_pos hj, if_pos hj]
  · rw [if_neg hj, if_neg hj]
    by_cases hi : i = j
    · subst hi
      have hl : σ.length ≤ i := by
        by_cases q : i < σ.length
        · exact absurd ⟨h, q⟩ hj
        · omega
      rw [List.set_eq_of_length_le hl]
    · rw [List.getElem?_set_ne hi]
theorem wipe_idem (σ : L2.St) (vs : List Nat) : wipe (wipe σ vs) vs = wipe σ vs := by
  apply List.ext_getElem?
  intro j
  rw [wipe_get, wipe_get, wipe_length]
  by_cases hj : j ∈ vs ∧ j < σ.length
  · rw [if_pos hj, if_pos hj]
  · rw [if_neg hj]
theorem wipe_sub {σ τ : L2.St} {vs ws : List Nat} (h : wipe σ vs = wipe τ vs) (s : ∀ i ∈ vs, i ∈ ws) (hl : σ.length = τ.length) : wipe σ ws = wipe τ ws := by
  apply List.ext_getElem?
  intro j
  have e : (wipe σ vs)[j]? = (wipe τ vs)[j]? := by rw [h]
  rw [wipe_get, wipe_get] at e ⊢
  rw [hl] at e ⊢
  by_cases hj : j ∈ ws ∧ j < τ.length
  · rw [if_pos hj, if_pos hj]
  · rw [if_neg hj, if_neg hj]
    rwa [if_neg (fun z => hj ⟨s j z.1, z.2⟩), if_neg (fun z => hj ⟨s j z.1, z.2⟩)] at e
/-- x = .. -/
def gNm (i : Nat) : GF := fun kd ρ P => P (ρ.set i (some kd))
/-- an item of a tuple of kind k, handed over -/
def kmv (k : Kd) (d : D) : KD := match d with
  | .non => (.fl, d)
  | .bl _ => (.fl, d)
  | .int _ => (.fl, d)
  | .str _ => (.fl, d)
  | .frz d => (match k with
    | .fl => (.fl, d)
    | .ow => (.fl, d)
    | _ => (.rd, d))
  | _ => (match k with
    | .fl => (.fl, d)
    | .ow => (.ow, d)
    | _ => (.rd, d))
def gTu (n : Nat) (gs : GsF) : GF := fun kd ρ P => match kd.2 with
  | .tup ds => ds.length = n ∧ gs (ds.map (kmv kd.1)) ρ P
  | _ => False
section
variable {K : Frg} {A : Addr → Prop} {H : Hp}
theorem RA.kmv {k : Kd} {d : D} {v : V} (h : RA K A H d v) (hk : k ≠ .fl) (hk2 : k ≠ .ow) : VR K A H (kmv k d) v [] := by
  cases k <;> first
    | exact absurd rfl hk
    | exact absurd rfl hk2
    | (cases d <;> first | exact ⟨rfl, h⟩)
theorem RA.kmv0 {d : D} {v : V} (h : RA K No H d v) : VR K A H (DL.kmv .fl d) v [] := by
  cases d <;> exact ⟨rfl, h⟩
theorem R.kmv {d : D} {v : V} {f : List Addr} (h : R K No H d v f) : VR K A H (DL.kmv .ow d) v f := by
  cases d <;> exact h
theorem VRs.kmv0 : ∀ {ds : List D} {vs : List V}, RAs K No H ds vs → VRs K A H (ds.map (kmv .fl)) vs []
  | [], _, h => ⟨h, rfl⟩
  | d :: ds, _, ⟨w, ws, e, h, t⟩ => ⟨w, ws, [], [], e, rfl, h.kmv0, VRs.kmv0 t⟩
theorem VRs.kmvR {k : Kd} (hk : k ≠ .fl) (hk2 : k ≠ .ow) : ∀ {ds : List D} {vs : List V}, RAs K A H ds vs → VRs K A H (ds.map (kmv k)) vs []
  | [], _, h => ⟨h, rfl⟩
  | d :: ds, _, ⟨w, ws, e, h, t⟩ => ⟨w, ws, [], [], e, rfl, h.kmv hk hk2, VRs.kmvR hk hk2 t⟩
theorem VRs.kmvO : ∀ {ds : List D} {vs : List V} {f : List Addr}, Rs K No H ds vs f → VRs K A H (ds.map (kmv .ow)) vs f
  | [], _, _, h => h
  | d :: ds, _, _, ⟨w, ws, f1, f2, e, e2, h, t⟩ => ⟨w, ws, f1, f2, e, e2, h.kmv, VRs.kmvO t⟩
theorem VR.tupT {k : Kd} {ds : List D} {v : V} {f : List Addr} (h : VR K A H (k, .tup ds) v f) : ∃ p vs, v = .ref p ∧ SqT K H p vs ∧ VRs K A H (ds.map (kmv k)) vs f := by
  cases k with
  | fl => obtain ⟨e, p, vs, e1, t, r⟩ := h; subst e; exact ⟨p, vs, e1, t, .kmv0 r⟩
  | rd => obtain ⟨e, p, vs, e1, t, r⟩ := h; subst e; exact ⟨p, vs, e1, t, .kmvR (by decide) (by decide) r⟩
  | ow => obtain ⟨p, vs, e1, t, r⟩ := h; exact ⟨p, vs, e1, t, .kmvO r⟩
  | sh => exact h.2.elim
  | sa => exact h.2.2.elim
end
section
variable {X : Cx} {pos : Pos}
theorem dg_name (i : Nat) {x : Str} (hN : X.N.Nodup) (hi : X.N[i]? = some x := by rfl) (hx : Loc X.env.scope x := by first | exact Or.inl rfl | exact Or.inr rfl) (hf : X.fn x = true ∨ X.env.scope.names.lookup x = some .local := by first | exact .inl rfl | exact .inr rfl) : DG X (.Name x pos) [i] (gNm i) := by
  refine ⟨_, pg_name hN hi hx hf, fun v kd fp σ H A ρ ow Q P g o h q => ?_⟩
  obtain ⟨ow', g', s⟩ := g.put (i := i) o
  exact q _ _ ow' h g' s (wipe_set (by simp))
theorem dgs_nil : DGs X [] [] 0 (fun zs ρ P => zs = [] ∧ P ρ) := by
  refine ⟨_, pgs_nil, fun vs zs fp σ H A ρ ow Q P g r nd dis h q => ?_⟩
  obtain ⟨e, h⟩ := h
  subst e
  exact ⟨r.1, q ρ σ ow h g (fun a h => .inl h) rfl⟩
theorem dgs_cons {e : Expr} {es : List Expr} {is js : List Nat} {n : Nat} {g : GF} {gs : GsF} (h1 : DG X e is g) (h2 : DGs X es js n gs)
    (hs : (assignEach (e :: es) X.env).map (·.2) = assign e X.env :: (assignEach es X.env).map (·.2) := by rfl) : DGs X (e :: es) (is ++ js) (n + 1) (fun zs ρ P => match zs with
      | z :: r => g z ρ fun ρ1 => gs r ρ1 P
      | [] => False) := by
  obtain ⟨t, e1, s1⟩ := h1.run
  obtain ⟨u, e2, s2⟩ := h2.run
  refine ⟨_, pgs_cons e1 e2 hs, fun vs zs fp σ H A ρ ow Q P gd r nd dis h q => ?_⟩
  · cases zs with
    | nil => exact h.elim
    | cons z r' =>
      obtain ⟨w, ws, f1, f2, ev, ef, r1, r2⟩ := r
      subst ev ef
      refine ⟨w, ws, rfl, ?_⟩
      obtain ⟨n1, n2, n3⟩ := List.nodup_append.mp nd
      obtain ⟨m1, m2, m3⟩ := List.nodup_append.mp n1
      refine s1 w z f1 σ H A ρ ow _ _ gd ⟨r1, List.nodup_append.mpr ⟨m1, n2, fun a ha b hb => n3 a (by simp [ha]) b hb⟩, fun a ha => dis a (by simp [ha])⟩ h fun ρ1 σ1 ow1 hp gd1 sub1 w1 => ?_
      refine s2 ws r' f2 σ1 H A ρ1 ow1 _ _ gd1 r2 (List.nodup_append.mpr ⟨m2, gd1.nd, fun a ha b hb e => ?_⟩) (fun a ha => dis a (by simp [ha])) hp fun ρ2 σ2 ow2 hp2 gd2 sub2 w2 => ?_
      · subst e
        rcases sub1 a hb with z | z
        · exact n3 a (by simp [ha]) a z rfl
        · exact m3 a z a ha rfl
      · refine q ρ2 σ2 ow2 hp2 gd2 (fun a ha => ?_) ?_
        · rcases sub2 a ha with z | z
          · rcases sub1 a z with z | z
            · exact .inl z
            · exact .inr (by simp [z])
          · exact .inr (by simp [z])
        · have l1 : σ1.length = σ.length := by rw [← wipe_length σ1 is, w1, wipe_length]
          have l2 : σ2.length = σ1.length := by rw [← wipe_length σ2 js, w2, wipe_length]
          exact (wipe_sub w2 (fun i h => by simp [h]) l2).trans (wipe_sub w1 (fun i h => by simp [h]) l1)
theorem dg_tup {es : List Expr} {is : List Nat} {n : Nat} {gs : GsF} {k : Nat} (hc : X.calm = true) (h : DGs X es is n gs) (hn : (assignEach es X.env).length = n := by rfl) (hst : (assignEach es X.env).findIdx? (·.1) = none := by rfl) :
    DG X (.Tuple es k pos) is (gTu n gs) := by
  obtain ⟨t, e, s⟩ := h.run
  refine ⟨_, pg_tup hc e hn hst, fun v kd fp σ H A ρ ow Q P g o h q => ?_⟩
  obtain ⟨k, d⟩ := kd
  cases d with
  | tup ds =>
    obtain ⟨h1, h2⟩ := h
    obtain ⟨p, vs, ev, t, r⟩ := o.rep.tupT
    exact ⟨p, vs, ev, t, by rw [r.len, List.length_map]; exact h1, s vs _ fp σ H A ρ ow Q P g r o.nd o.dis h2 q⟩
  | _ => exact h.elim
end

/-! ### what is walked -/
/-- all but Z is kept -/
def OkZ (Z : Addr → Prop) (H' H'' : Hp) : Prop := ∀ a o, H' a = some o → ¬ Z a → H'' a = some o
def Walks (K : Frg) (J : It) (Ok : Hp → Prop) (A : Addr → Prop) (zs : List KD) : Prop :=
  ∃ (G : Hp → Prop) (Y : Nat → Hp → V → Hp → Prop), Walk J zs.length G Y ∧ (∀ H, Ok H → G H) ∧ ∀ i H x H2 z, zs[i]? = some z → Ok H → Y i H x H2 → Same H H2 ∧ VR K A H2 z x []
/-- new, and there -/
abbrev Fre2 (H H' : Hp) : Addr → Prop := fun a => H a = none ∧ ∃ o, H' a = some o
abbrev IF := Ro → (List KD → Prop) → Prop
def ISound (K : Frg) (t : TI) (src : IF) : Prop := ∀ (σ : L2.St) (H : Hp) (A : Addr → Prop) (ρ : Ro) (ow : List Addr) (R : It → Hp → Prop) (P : List KD → Prop) (Z : Addr → Prop), Good K A H ρ σ ow →
  (∀ a, Z a → ¬ BB A ow a ∧ ∃ o, H a = some o ∧ Mu o) → src ρ P →
  (∀ zs J H', P zs → Same H H' → Walks K J (OkZ Z H') (Or2 (BB A ow) (Fre2 H H')) zs → R J H') → t σ H R
structure DI (X : Cx) (tg iter : Expr) (src : IF) : Prop where
  run : ∃ t, PI X tg iter t ∧ ISound X.K t src
section
variable {K : Frg} {A B : Addr → Prop} {H H' H2 : Hp} {ow : List Addr} {Z : Addr → Prop}
theorem Rd.tr {p : Addr} {u : HO} (h : Rd H p u) : ∃ o, H p = some o := by
  rcases h with h | ⟨o, h⟩
  · exact ⟨_, h⟩
  · exact ⟨_, h⟩
mutual
theorem RA.monoT (m : ∀ a o, H a = some o → A a → B a) : ∀ (d : D) (v : V), RA K A H d v → RA K B H d v
  | .non, _, h => h
  | .bl _, _, h => h
  | .int _, _, h => h
  | .str _, _, h => h
  | .fn _, _, h => h
  | .key _, _, h => h
  | .tpx _, _, h => h
  | .lkT _, _, h => h
  | .any, _, h => h
  | .tup ds, _, ⟨p, vs, e, t, r⟩ => ⟨p, vs, e, t, RAs.monoT m ds vs r⟩
  | .lst ds, _, ⟨p, vs, e, a, t, r⟩ => ⟨p, vs, e, m _ _ t a, t, RAs.monoT m ds vs r⟩
  | .kst ds, _, ⟨p, vs, e, t, r⟩ => ⟨p, vs, e, t, RAs.monoT m ds vs r⟩
  | .dcT ks ds, _, ⟨p, vs, e, a, t, q, r⟩ => ⟨p, vs, e, (let ⟨_, z⟩ := Rd.tr t; m _ _ z a), t, q, RAs.monoT m ds _ r⟩
  | .dcK ks ds, _, ⟨p, vs, e, a, t, q, r⟩ => ⟨p, vs, e, (let ⟨_, z⟩ := Rd.tr t; m _ _ z a), t, q, RAs.monoT m ds _ r⟩
  | .obj C ns ds, _, ⟨p, dx, fs, e, a, t, q, r⟩ => ⟨p, dx, fs, e, m _ _ t a, t, q, RAs.monoT m ds _ r⟩
  | .frz d, v, h => RA.monoT m d v h
theorem RAs.monoT (m : ∀ a o, H a = some o → A a → B a) : ∀ (ds : List D) (vs : List V), RAs K A H ds vs → RAs K B H ds vs
  | [], _, h => h
  | d :: ds, _, ⟨w, ws, e, h, r⟩ => ⟨w, ws, e, RA.monoT m d w h, RAs.monoT m ds ws r⟩
end
mutual
theorem R.monoT (m : ∀ a o, H a = some o → A a → B a) : ∀ (d : D) (v : V) (fp : List Addr), R K A H d v fp → R K B H d v fp
  | .non, _, _, h => h
  | .bl _, _, _, h => h
  | .int _, _, _, h => h
  | .str _, _, _, h => h
  | .fn _, _, _, h => h
  | .key _, _, _, h => h
  | .tpx _, _, _, h => h
  | .lkT _, _, _, h => h
  | .any, _, _, h => h
  | .kst ds, v, _, h => h
  | .tup ds, _, fp, ⟨p, vs, e, t, r⟩ => ⟨p, vs, e, t, Rs.monoT m ds vs fp r⟩
  | .lst ds, _, fp, ⟨p, vs, fps, e, e2, t, r⟩ => ⟨p, vs, fps, e, e2, t, Rs.monoT m ds vs fps r⟩
  | .dcT ks ds, _, fp, ⟨p, vs, fps, e, e2, t, q, r⟩ => ⟨p, vs, fps, e, e2, t, q, Rs.monoT m ds _ fps r⟩
  | .dcK ks ds, _, fp, ⟨p, vs, fps, e, e2, t, q, r⟩ => ⟨p, vs, fps, e, e2, t, q, Rs.monoT m ds _ fps r⟩
  | .obj C ns ds, _, fp, ⟨p, dx, fs, fps, e, e2, t, q, r⟩ => ⟨p, dx, fs, fps, e, e2, t, q, Rs.monoT m ds _ fps r⟩
  | .frz d, v, fp, ⟨e, h⟩ => ⟨e, RA.monoT m d v h⟩
theorem Rs.monoT (m : ∀ a o, H a = some o → A a → B a) : ∀ (ds : List D) (vs : List V) (fp : List Addr), Rs K A H ds vs fp → Rs K B H ds vs fp
  | [], _, _, h => h
  | d :: ds, _, fp, ⟨w, ws, f1, f2, e, e2, h, r⟩ => ⟨w, ws, f1, f2, e, e2, R.monoT m d w f1 h, Rs.monoT m ds ws f2 r⟩
end
theorem VR.monoT {kd : KD} {v : V} {f : List Addr} (m : ∀ a o, H a = some o → A a → B a) (h : VR K A H kd v f) : VR K B H kd v f := by
  obtain ⟨c, d⟩ := kd
  cases c with
  | fl => exact h
  | rd => exact ⟨h.1, RA.monoT m _ _ h.2⟩
  | ow => exact h
  | sa => exact ⟨h.1, RA.monoT m _ _ h.2.1, h.2.2⟩
  | sh => exact h
theorem PR.tr {H0 : Hp} {v : V} {z : KD} (h : PR K B (Fre H0) H v z) : PR K B (Fre2 H0 H) H v z := by
  obtain ⟨fp, r, nd, hF⟩ := h
  exact ⟨fp, r.monoT fun a o e x => x.imp id fun y => ⟨y, o, e⟩, nd, fun a q => ⟨hF a q, let ⟨o, e, _⟩ := r.mu a q; ⟨o, e⟩⟩⟩
theorem fre2 {H0 : Hp} : ∀ a, Fre2 H0 H a → H0 a = none := fun _ h => h.1
theorem zFre {F : Addr → Prop} (hF : ∀ a, F a → H a = none) (hz : ∀ a, Z a → ¬ B a ∧ ∃ o, H a = some o ∧ Mu o) (s : Same H H') : ∀ a o, H' a = some o → (Or2 B F a ∨ Imm o) → ¬ Z a := fun a o e h z => by
  obtain ⟨h1, u, h2, m⟩ := hz a z
  rcases h with (h | h) | h
  · exact h1 h
  · rw [hF a h] at h2; cases h2
  · have e2 := s a u h2
    rw [e] at e2; cases e2
    exact m.notImm h
theorem OkZ.keep {F : Addr → Prop} (hF : ∀ a, F a → H a = none) (hz : ∀ a, Z a → ¬ B a ∧ ∃ o, H a = some o ∧ Mu o) (s : Same H H') (ok : OkZ Z H' H2) : Keep (Or2 B F) H' H2 := fun a o e h => ok a o e (zFre hF hz s a o e h)
def rangeD (lo : Int) (n : Nat) : List KD := (List.range n).map fun (i : Nat) => (.fl, .int (lo + i))
theorem rangeD_get {lo : Int} {n i : Nat} {z : KD} (h : (rangeD lo n)[i]? = some z) : z = (.fl, .int (lo + i)) := by
  unfold rangeD at h
  rw [List.getElem?_map] at h
  cases e : (List.range n)[i]? with
  | none => rw [e] at h; cases h
  | some j =>
    rw [e] at h
    have hj := List.getElem?_eq_some_iff.mp e
    obtain ⟨_, hj⟩ := hj
    rw [List.getElem_range] at hj
    subst hj
    exact (Option.some.inj h).symm
theorem walks_range {lo : Int} {n : Nat} {Ok : Hp → Prop} : Walks K (Itr lo n) Ok A (rangeD lo n) := by
  have hl : (rangeD lo n).length = n := by unfold rangeD; simp
  refine ⟨_, _, by rw [hl]; exact walk_range, fun _ _ => trivial, fun i H x H2 z hz _ y => ?_⟩
  obtain ⟨e, ex⟩ := y
  subst e ex
  rw [rangeD_get hz]
  exact ⟨Same.refl _, rfl, rfl⟩
/-- items of a list or tuple -/
theorem kel_VR {k : Kd} {F : Addr → Prop} {d : D} {w : V} (h : RA K (k.elA B F) H d w) : VR K (Or2 B F) H (kel k d) w [] := by
  have g : VR K (Or2 B F) H (k.el, d) w [] := by cases k <;> exact ⟨rfl, h⟩
  cases d <;> first | exact g | exact ⟨rfl, h⟩
theorem elA_keep {k : Kd} {F : Addr → Prop} {d : D} {w : V} (kp : Keep (Or2 B F) H H2) (h : RA K (k.elA B F) H d w) : RA K (k.elA B F) H2 d w := by
  cases k <;> first
    | exact RA.keep kp.no _ _ h
    | exact RA.keep kp _ _ h
theorem elA_keeps {k : Kd} {F : Addr → Prop} {d : List D} {w : List V} (kp : Keep (Or2 B F) H H2) (h : RAs K (k.elA B F) H d w) : RAs K (k.elA B F) H2 d w := by
  cases k <;> first
    | exact RAs.keep kp.no _ _ h
    | exact RAs.keep kp _ _ h
theorem walks_lst {F : Addr → Prop} (hF : ∀ a, F a → H a = none) {p : Addr} {vs : List V} {ds : List D} {k : Kd} (hz : ∀ a, Z a → ¬ B a ∧ ∃ o, H a = some o ∧ Mu o) (s : Same H H') (ht : ∀ H2, OkZ Z H' H2 → SqL K H2 p vs) (r : RAs K (k.elA B F) H' ds vs) :
    Walks K (Itl K p) (OkZ Z H') (Or2 B F) (ds.map (kel k)) := by
  have hl : (ds.map (kel k)).length = vs.length := by rw [List.length_map, r.len]
  refine ⟨_, _, by rw [hl]; exact walk_list, ht, fun i H2 x H3 z hzz ok y => ?_⟩
  · obtain ⟨e, ex⟩ := y
    subst e
    rw [List.getElem?_map] at hzz
    cases e : ds[i]? with
    | none => rw [e] at hzz; cases hzz
    | some d =>
      rw [e] at hzz
      obtain ⟨w, hw, rw'⟩ := (elA_keeps (ok.keep hF hz s) r).get e
      rw [ex] at hw
      cases hw
      cases hzz
      exact ⟨Same.refl _, kel_VR rw'⟩
theorem walks_tup {F : Addr → Prop} (hF : ∀ a, F a → H a = none) {p : Addr} {vs : List V} {ds : List D} {k : Kd} (hz : ∀ a, Z a → ¬ B a ∧ ∃ o, H a = some o ∧ Mu o) (s : Same H H') (t : SqT K H' p vs) (r : RAs K (k.elA B F) H' ds vs) :
    Walks K (Itt K p) (OkZ Z H') (Or2 B F) (ds.map (kel k)) := by
  have hl : (ds.map (kel k)).length = vs.length := by rw [List.length_map, r.len]
  refine ⟨_, _, by rw [hl]; exact walk_tup, fun H2 ok => SqT.keep (ok.keep hF hz s) t, fun i H2 x H3 z hzz ok y => ?_⟩
  obtain ⟨e, ex⟩ := y
  subst e
  rw [List.getElem?_map] at hzz
  cases e : ds[i]? with
  | none => rw [e] at hzz; cases hzz
  | some d =>
    rw [e] at hzz
    obtain ⟨w, hw, rw'⟩ := (elA_keeps (ok.keep hF hz s) r).get e
    rw [ex] at hw
    cases hw
    cases hzz
    exact ⟨Same.refl _, kel_VR rw'⟩
end

/-! ### a for's or a comprehension's source -/
def iSeq (K : Frg) (tl : TE) : TI := fun σ H R => tl σ H fun x H1 => ∃ a, x = .ref a ∧ (((∃ xs, SqL K H1 a xs) ∧ R (Itl K a) H1) ∨ ((∃ xs, SqT K H1 a xs) ∧ R (Itt K a) H1))
section
variable {X : Cx} {tg : Expr}
theorem pi_seq {l : Expr} {tl : TE} (hl : PE X l tl) : PI X tg l (iSeq X.K tl) := by
  refine ⟨fun pins s σ H R I h => ?_⟩
  refine thn (hl.run pins s σ H _ I h) fun v s1 ⟨x, H1, I1, r1, q1⟩ => ?_
  obtain ⟨a, e, q1⟩ := q1
  subst e
  cases r1
  rcases q1 with ⟨⟨xs, hq⟩, q⟩ | ⟨⟨xs, hq⟩, q⟩
  · obtain ⟨its, rv, p, hz⟩ := I1.list hq
    refine wpAny_pyIter_list p.isList ?_
    refine ⟨s1.heap.objs.size, [s1.heap.objs.size], _, _, H1, rfl, I1.kept (t' := s1.toks) fun b o e => Heap.get?_push_of_some _ e, turn_list a _, ⟨_, Heap.get?_push_size _ rfl, rfl, rfl⟩, fun b hb => ?_, q⟩
    have e : b = s1.heap.objs.size := by simpa using hb
    subst e
    exact I1.fpOk (Nat.le_refl _) (I1.hok.fresh (Nat.le_refl _))
  · obtain ⟨its, rv, p, hz⟩ := I1.tuple hq
    refine wpAny_pyIter_tuple (show s1.heap.IsTuple a its.toArray from p) ?_
    refine ⟨s1.heap.objs.size, [s1.heap.objs.size], _, _, H1, rfl, I1.kept (t' := s1.toks) fun b o e => Heap.get?_push_of_some _ e, turn_tuple a _, ⟨_, Heap.get?_push_size _ rfl, rfl, rfl⟩, fun b hb => ?_, q⟩
    have e : b = s1.heap.objs.size := by simpa using hb
    subst e
    exact I1.fpOk (Nat.le_refl _) (I1.hok.fresh (Nat.le_refl _))
/-- for x in a list, a tuple -/
def iSq (f : PF) : IF := fun ρ P => f ρ fun z => match z.2.seq with
  | some ds => P (ds.map (kel z.1))
  | none => False
theorem PR.lp {K : Frg} {B F : Addr → Prop} {H : Hp} {k : Kd} {ds : List D} {v : V} (h : PR K B F H v (k, .lst ds)) : ∃ p vs, v = .ref p ∧ H p = some (.lst vs) ∧ Or2 B F p ∧ RAs K (k.elA B F) H ds vs := by
  obtain ⟨p, vs, e, a, t, r⟩ := h.ra
  obtain ⟨p', vs', e', t', r'⟩ := h.lstT
  rw [e] at e'; cases e'
  exact ⟨p, vs', e, t', a, r'⟩
theorem PR.kstT {K : Frg} {B F : Addr → Prop} {H : Hp} {k : Kd} {ds : List D} {v : V} (h : PR K B F H v (k, .kst ds)) : ∃ p vs, v = .ref p ∧ SqL K (lockd H) p vs ∧ RAs K (k.elA B F) H ds vs := by
  have p4 : ∃ p vs, v = .ref p ∧ SqL K (lockd H) p vs ∧ RAs K (Or2 B F) H ds vs := h.ra
  cases k with
  | fl => obtain ⟨_, a, _⟩ := h; exact a.2
  | rd => exact p4
  | ow => exact p4
  | sh => obtain ⟨_, a, _⟩ := h; exact a.2
  | sa => obtain ⟨_, a, _⟩ := h; exact a.2.2
theorem di_seq {l : Expr} {f : PF} (h : DP X l f) : DI X tg l (iSq f) := by
  obtain ⟨t, e, s⟩ := h.run
  refine ⟨_, pi_seq e, fun σ H A ρ ow R P Z g hz h q => ?_⟩
  refine s σ H A ρ ow _ _ g h fun z v H1 hh s1 p1 => ?_
  obtain ⟨k, d⟩ := z
  have p1 := p1.tr
  cases d with
  | lst ds =>
    obtain ⟨p, vs, ev, t, a, r⟩ := p1.lp
    refine ⟨p, ev, .inl ⟨⟨vs, .of t⟩, q _ _ H1 hh s1 (walks_lst fre2 hz s1 (fun H2 ok => .of (ok p _ t ?_)) r)⟩⟩
    exact zFre fre2 hz s1 p _ t (.inl a)
  | tup ds =>
    obtain ⟨p, vs, ev, t, r⟩ := p1.tupT
    exact ⟨p, ev, .inr ⟨⟨vs, t⟩, q _ _ H1 hh s1 (walks_tup fre2 hz s1 t r)⟩⟩
  | kst ds =>
    obtain ⟨p, vs, ev, t, r⟩ := p1.kstT
    exact ⟨p, ev, .inl ⟨⟨vs, kst_seq t⟩, q _ _ H1 hh s1 (walks_lst fre2 hz s1 (fun H2 ok => kst_seq (kst_keep (ok.keep (fre2 (H := H1)) hz s1) t)) r)⟩⟩
  | _ => exact hh.elim
/-- for i in range(n) -/
def iR1 (f : PAF) : IF := fun ρ P => f ρ fun zs => match zs with
  | [(_, .int j)] => -1000000000000 ≤ j ∧ j ≤ 1000000000000 ∧ P (rangeD 0 j.toNat)
  | _ => False
def iR2 (f : PAF) : IF := fun ρ P => f ρ fun zs => match zs with
  | [(_, .int i), (_, .int j)] => (-1000000000000 ≤ i ∧ i ≤ 1000000000000 ∧ -1000000000000 ≤ j ∧ j ≤ 1000000000000) ∧ P (rangeD i (j - i).toNat)
  | _ => False
theorem di_range1 {a : Expr} {f : PAF} {p pos : Pos} (hg : Gl X "range") (hm : X.mg "range" = none) (ha : DA X [a] 1 f) (hs : starEach [a] X.env = [(false, eval a X.env)] := by rfl) : DI X tg (.Call (.Name "range" p) [a] [] pos) (iR1 f) := by
  obtain ⟨t, e, s⟩ := ha.run
  refine ⟨_, pi_range1 hg hm e hs, fun σ H A ρ ow R P Z g hz h q => ?_⟩
  refine s σ H A ρ ow _ _ g h fun zs vs H1 _ hh s1 p1 => ?_
  split at hh
  · obtain ⟨h1, h2, h3⟩ := hh
    obtain ⟨v, ev, p2⟩ := p1.get1
    obtain rfl : v = .int _ := p2.ra
    exact ⟨_, ev, by omega, by omega, q _ _ H1 h3 s1 walks_range⟩
  · exact hh.elim
theorem di_range2 {a b : Expr} {f : PAF} {p pos : Pos} (hg : Gl X "range") (hm : X.mg "range" = none) (ha : DA X [a, b] 2 f) (hs : starEach [a, b] X.env = [(false, eval a X.env), (false, eval b X.env)] := by rfl)
    (hs2 : starEach [b] X.env = [(false, eval b X.env)] := by rfl) : DI X tg (.Call (.Name "range" p) [a, b] [] pos) (iR2 f) := by
  obtain ⟨t, e, s⟩ := ha.run
  refine ⟨_, pi_range2 hg hm e hs hs2, fun σ H A ρ ow R P Z g hz h q => ?_⟩
  refine s σ H A ρ ow _ _ g h fun zs vs H1 _ hh s1 p1 => ?_
  split at hh
  · obtain ⟨⟨h1, h2, h3, h4⟩, h5⟩ := hh
    obtain ⟨v, w, ev, p2, p3⟩ := p1.get2
    obtain rfl : v = .int _ := p2.ra
    obtain rfl : w = .int _ := p3.ra
    exact ⟨_, _, ev, ⟨by omega, by omega, by omega, by omega⟩, q _ _ H1 h5 s1 walks_range⟩
  · exact hh.elim
end

/-! ### comprehensions -/
theorem VRs.keepF {K : Frg} {A : Addr → Prop} {H H' : Hp} : ∀ {zs : List KD} {vs : List V} {f : List Addr}, KeepF A f H H' → VRs K A H zs vs f → VRs K A H' zs vs f
  | [], _, _, _, h => h
  | z :: zs, _, _, k, ⟨w, ws, f1, f2, e, e2, h, t⟩ => ⟨w, ws, f1, f2, e, e2, h.keep (k.sub fun a q => by rw [e2]; exact List.mem_append_left _ q), VRs.keepF (k.sub fun a q => by rw [e2]; exact List.mem_append_right _ q) t⟩
/-- the reading that a pure expression's meaning gives -/
def tP (K : Frg) (f : PF) : TE := fun σ H Q => ∃ A ρ ow P, Good K A H ρ σ ow ∧ f ρ P ∧ ∀ z v H', P z → Same H H' → PR K (BB A ow) (Fre H) H' v z → Q v H'
def tT (K : Frg) (f : PTF) : TT := fun σ H Q => ∃ A ρ ow P, Good K A H ρ σ ow ∧ f ρ P ∧ ∀ b H', P b → Same H H' → Q b H'
def tG (K : Frg) (is : List Nat) (g : GF) : TG := fun v σ H Q => ∃ kd fp A ρ ow P, Good K A H ρ σ ow ∧ Own K A H kd v fp ow ∧ g kd ρ P ∧ ∀ ρ' σ' ow', P ρ' → Good K A H ρ' σ' ow' → (∀ a ∈ ow', a ∈ ow ∨ a ∈ fp) → wipe σ' is = wipe σ is → Q σ' H
section
variable {X : Cx}
theorem DP.can {e : Expr} {f : PF} (h : DP X e f) : PE X e (tP X.K f) := by
  obtain ⟨t, pe, s⟩ := h.run
  refine ⟨fun pins st σ H Q I hq => ?_⟩
  obtain ⟨A, ρ, ow, P, g, hf, q⟩ := hq
  exact pe.run pins st σ H Q I (s σ H A ρ ow Q P g hf q)
theorem DT.can {e : Expr} {f : PTF} (h : DT X e f) : PT X e (tT X.K f) := by
  obtain ⟨t, pe, s⟩ := h.run
  refine ⟨fun pins st σ H Q I hq => ?_⟩
  obtain ⟨A, ρ, ow, P, g, hf, q⟩ := hq
  exact pe.run pins st σ H Q I (s σ H A ρ ow Q P g hf q)
theorem DG.can {e : Expr} {is : List Nat} {f : GF} (h : DG X e is f) : PG X e (tG X.K is f) := by
  obtain ⟨t, pe, s⟩ := h.run
  refine ⟨fun pins st σ H v u Q I r hq => ?_⟩
  obtain ⟨kd, fp, A, ρ, ow, P, g, o, hf, q⟩ := hq
  exact pe.run pins st σ H v u Q I r (s v kd fp σ H A ρ ow Q P g o hf q)
/-- tests of a comprehension: none or one -/
structure DTs (X : Cx) (es : List Expr) (f : PTF) : Prop where
  run : PTs X es (tT X.K f)
theorem dts_nil : DTs X [] (fun _ P => P true) := by
  refine ⟨⟨fun pins s σ H Q I h => ?_⟩⟩
  obtain ⟨A, ρ, ow, P, g, hf, q⟩ := h
  exact pts_nil.run pins s σ H Q I (q true H hf (Same.refl H))
theorem dts_one {c : Expr} {f : PTF} (h : DT X c f) : DTs X [c] f := ⟨pts_one h.can⟩
end
def compL (step : KD → (Option KD → Prop) → Prop) : List KD → List KD → (List KD → Prop) → Prop
  | [], acc, P => P acc
  | z :: zs, acc, P => step z fun r => match r with
    | some y => compL step zs (acc ++ [y]) P
    | none => compL step zs acc P
/-- all to be read only -/
def rdAll (ρ : Ro) : Ro := ρ.map fun s => match s with
  | some (k, d) => some (k.rdk, d)
  | none => none
def wipeR (ρ : Ro) : List Nat → Ro
  | [] => ρ
  | i :: is => (wipeR ρ is).set i none
def pLc (src : IF) (is : List Nat) (g : GF) (tt : PTF) (fe : PF) : PF := fun ρ P => src ρ fun zs => zs.length ≤ 10000000 ∧
  compL (fun z Q => g z (wipeR (rdAll ρ) is) fun ρ1 => tt ρ1 fun b => if b = true then fe ρ1 fun y => Q (some y) else Q none) zs [] fun ys => P (jL ys, .lst (ys.map (·.2)))
section
variable {K : Frg} {A B : Addr → Prop} {H H' : Hp} {ow : List Addr}
theorem VR.rdk2 {kd : KD} {v : V} {f : List Addr} (h : VR K A H kd v f) (s : ∀ a ∈ f, a ∈ ow) : VR K (BB A ow) H (kd.1.rdk, kd.2) v [] := by
  obtain ⟨k, d⟩ := kd
  have r : RA K (BB A ow) H d v := h.ra (fun a x => .inl x) (fun a x => .inr (s a x))
  cases k with
  | fl => exact ⟨rfl, h.2⟩
  | rd => exact ⟨rfl, r⟩
  | ow => exact ⟨rfl, r⟩
  | sh => exact ⟨rfl, r, h.2⟩
  | sa => exact ⟨rfl, r, h.2.2⟩
theorem RepS.rdAll : ∀ {ρ : Ro} {σ : L2.St} {f : List Addr}, RepS K A H ρ σ f → (∀ a ∈ f, a ∈ ow) → RepS K (BB A ow) H (rdAll ρ) σ []
  | [], _, _, h, _ => ⟨h.1, rfl⟩
  | s :: ρ, _, _, ⟨x, σ', f, g, e, e2, h, r⟩, i => by
    refine ⟨x, σ', [], [], e, rfl, ?_, RepS.rdAll r fun a q => i a (by rw [e2]; exact List.mem_append_right _ q)⟩
    cases s with
    | none => rfl
    | some kd => obtain ⟨v, ev, h⟩ := h; exact ⟨v, ev, h.rdk2 fun a q => i a (by rw [e2]; exact List.mem_append_left _ q)⟩
theorem RepS.set0 {ρ : Ro} {σ : L2.St} {i : Nat} (h : RepS K A H ρ σ []) : RepS K A H (ρ.set i none) (σ.set i none) [] := by
  cases e : ρ[i]? with
  | none =>
    have h1 : ρ.length ≤ i := List.getElem?_eq_none_iff.mp e
    have h2 : σ.length ≤ i := by rw [h.len]; exact h1
    rw [List.set_eq_of_length_le h1, List.set_eq_of_length_le h2]
    exact h
  | some s =>
    obtain ⟨x, f1, f2, f3, hx, e2, _, put⟩ := h.split e
    have e3 := List.append_eq_nil_iff.mp e2.symm
    have e4 := List.append_eq_nil_iff.mp e3.2
    have := put H A none none [] (fun _ h => h) (fun a o e _ => e) rfl
    rw [e3.1, e4.2] at this
    exact this
theorem RepS.wipe {ρ : Ro} {σ : L2.St} (h : RepS K A H ρ σ []) : ∀ is : List Nat, RepS K A H (wipeR ρ is) (wipe σ is) []
  | [] => h
  | i :: is => (RepS.wipe h is).set0
end
section
variable {X : Cx}
theorem sound_lc {K : Frg} {wi : TI} {src : IF} {is : List Nat} {g : GF} {tt : PTF} {fe : PF} (hs : ISound K wi src) : PSound K (tLc wi (tG K is g) (tT K tt) (tP K fe) is) (pLc src is g tt fe) := by
  intro σ H A ρ ow Q P gd h q
  refine hs σ H A ρ ow _ _ (fun _ => False) gd (fun _ z => z.elim) h fun zs J H1 hz s1 wk => ?_
  obtain ⟨hlen, hc⟩ := hz
  obtain ⟨G, Y, walk, hG, hY⟩ := wk
  intro D hD
  have hD0 : H D = none := s1.free hD
  let Acc : Addr → Prop := fun a => Or2 (BB A ow) (Fre H) a ∧ a ≠ D
  let P' : List KD → Prop := fun ys => P (jL ys, .lst (ys.map (·.2)))
  let step : KD → (Option KD → Prop) → Prop := fun z Q => g z (wipeR (rdAll ρ) is) fun ρ1 => tt ρ1 fun b => if b = true then fe ρ1 fun y => Q (some y) else Q none
  refine lc_it walk (fun i Hc => Same H1 Hc ∧ ∃ acc accV fp, Hc D = some (.lst accV) ∧ VRs K Acc Hc acc accV fp ∧ fp.Nodup ∧ (∀ a ∈ fp, Fre H a ∧ a ≠ D) ∧ compL step (zs.drop i) acc P' ∧ acc.length ≤ i) ?_ ?_ ?_ ?_
  · exact ⟨same_upd hD, [], [], [], upd_same, ⟨rfl, rfl⟩, List.nodup_nil, fun a h => (nomatch h), hc, Nat.le_refl _⟩
  · exact fun i H2 _ p => hG H2 fun a o e _ => p.1 a o e
  · rintro i x H2 H3 hi ⟨sm, acc, accV, fp, hDv, r, nd, hF, hcomp, hl⟩ y
    have hzi : zs[i]? = some zs[i] := List.getElem?_eq_getElem hi
    obtain ⟨s3, vz⟩ := hY i H2 x H3 zs[i] hzi (fun a o e _ => sm a o e) y
    rw [List.drop_eq_getElem_cons hi] at hcomp
    have hstep : step zs[i] fun r => match r with
      | some y => compL step (zs.drop (i + 1)) (acc ++ [y]) P'
      | none => compL step (zs.drop (i + 1)) acc P' := hcomp
    have hD3 : H3 D = some (.lst accV) := s3 _ _ hDv
    have s03 : Same H H3 := (s1.trans sm).trans s3
    -- the block's own knowledge
    let Ab : Addr → Prop := fun a => Acc a ∧ ∃ o, H3 a = some o
    have bAb : ∀ a, BB A ow a → Ab a := fun a h => by
      have tr : ∃ o, H a = some o := by
        rcases h with h | h
        · exact gd.tr a h
        · obtain ⟨o, e, _⟩ := gd.rep.mu a h; exact ⟨o, e⟩
      obtain ⟨o, e⟩ := tr
      exact ⟨⟨.inl h, fun z => by rw [z, hD0] at e; cases e⟩, o, s03 a o e⟩
    have gb : Good K Ab H3 (wipeR (rdAll ρ) is) (wipe σ is) [] :=
      ⟨(RepS.mono bAb (RepS.keep (KeepF.of_same s03) (gd.rep.rdAll fun _ h => h))).wipe is, List.nodup_nil, fun a h => (nomatch h), fun a h => h.2⟩
    have vb : VR K Ab H3 zs[i] x [] := vz.monoT fun a o e h => by
      rcases h with h | ⟨h1, u, h2⟩
      · exact bAb a h
      · exact ⟨⟨.inr h1, fun z => by rw [z, hD] at h2; cases h2⟩, o, e⟩
    have noD : ∀ a u, a ≠ D → ∀ (Hx : Hp) w, Hx a = some u → (upd Hx D w) a = some u := fun a u n Hx w e => by rw [upd_ne n]; exact e
    refine ⟨zs[i], [], Ab, _, [], _, gb, ⟨vb, by simp, fun a h => (nomatch h)⟩, hstep, fun ρ1 σ1 ow1 h1 g1 sub1 w1 => ⟨w1.trans (wipe_idem σ is), ?_⟩⟩
    have ow1n : ow1 = [] := by
      cases ow1 with
      | nil => rfl
      | cons a r => rcases sub1 a List.mem_cons_self with z | z <;> cases z
    subst ow1n
    refine ⟨Ab, ρ1, [], _, g1, h1, fun b H4 h2 s4 => ?_⟩
    cases b with
    | false =>
      rw [if_neg Bool.false_ne_true] at h2 ⊢
      exact ⟨(sm.trans s3).trans s4, acc, accV, fp, s4 _ _ hD3, (r.same s3).same s4, nd, hF, h2, by omega⟩
    | true =>
      rw [if_pos rfl] at h2 ⊢
      refine ⟨Ab, ρ1, [], _, g1.same s4, h2, fun z v H5 h3 s5 p5 => ?_⟩
      have hD5 : H5 D = some (.lst accV) := s5 _ _ (s4 _ _ hD3)
      have s05 : Same H H5 := (s03.trans s4).trans s5
      have r5 := ((r.same s3).same s4).same s5
      obtain ⟨f5, a5, n5, fr5⟩ := p5
      have fr5' : ∀ a ∈ f5, Fre H a ∧ a ≠ D := fun a h => by
        have e4 : H4 a = none := fr5 a h
        have e3 : H3 a = none := s4.free e4
        exact ⟨s03.free e3, fun z => by rw [z, hD3] at e3; cases e3⟩
      have a5' : VR K Acc H5 z v f5 := a5.mono fun a h => by
        rcases h with (h | h) | h
        · exact h.1
        · cases h
        · have e4 : H4 a = none := h
          have e3 : H3 a = none := s4.free e4
          exact ⟨.inr (s03.free e3), fun z => by rw [z, hD3] at e3; cases e3⟩
      have all := r5.append (VRs.one a5')
      refine ⟨accV, hD5, ?_, fun b u e => ?_, acc ++ [z], accV ++ [v], fp ++ f5, upd_same, ?_, ?_, ?_, h3, ?_⟩
      · rw [r.len, sizeLine_eq]
        have := hi
        omega
      · have e5 : H5 b = some u := ((sm.trans s3).trans s4).trans s5 b u e
        rw [upd_ne (fun z => by rw [z, hD] at e; cases e)]
        exact e5
      · have kp : KeepF Acc (fp ++ f5) H5 (upd H5 D (.lst (accV ++ [v]))) := fun a u e h => by
          refine noD a u (fun z => ?_) H5 _ e
          rcases h with h | h | h
          · rcases List.mem_append.mp h with h | h
            · exact (hF a h).2 z
            · exact (fr5' a h).2 z
          · exact h.2 z
          · rw [z, hD5] at e; cases e; exact h
        exact VRs.keepF kp all
      · refine List.nodup_append.mpr ⟨nd, n5, fun a ha b hb e => ?_⟩
        subst e
        obtain ⟨o, e, _⟩ := ((r.same s3).same s4).mu a ha
        rw [show H4 a = none from fr5 a hb] at e; cases e
      · intro a h
        rcases List.mem_append.mp h with h | h
        · exact hF a h
        · exact fr5' a h
      · rw [List.length_append]
        show acc.length + 1 ≤ i + 1
        omega
  · rintro H2 ⟨sm, acc, accV, fp, hDv, r, nd, hF, hcomp, hl⟩
    rw [List.drop_eq_nil_of_le (Nat.le_refl _)] at hcomp
    have hP : P (jL acc, .lst (acc.map (·.2))) := hcomp
    refine q _ _ H2 hP (s1.trans sm) ?_
    have np : D ∉ fp := fun z => (hF D z).2 rfl
    have rO : VRs K (Or2 (BB A ow) (Fre H)) H2 acc accV fp := r.mono fun a h => h.1
    rcases jT_cases acc with e | e | e
    · have e' : jL acc = .sh := by unfold jL; rw [e]
      rw [e']
      exact ⟨[D], ⟨⟨D, accV, [], rfl, rfl, hDv, Rs.of0 _ _ (rO.fl e).2⟩, D, accV, rfl, hDv, (rO.fl e).2⟩, by simp, fun a q => by rw [List.mem_singleton.mp q]; exact hD0⟩
    · have e' : jL acc = .ow := by unfold jL; rw [e]
      rw [e']
      exact ⟨D :: fp, ⟨D, accV, fp, rfl, rfl, hDv, rO.ow (by rw [e]; decide)⟩, List.nodup_cons.mpr ⟨np, nd⟩, fun a q => by
        rcases List.mem_cons.mp q with rfl | q
        · exact hD0
        · exact (hF a q).1⟩
    · have e' : jL acc = .rd := by unfold jL; rw [e]
      rw [e']
      exact .rd ⟨D, accV, rfl, .inr hD0, hDv, rO.ra (fun _ h => h) fun a q => .inr (hF a q).1⟩
end
end DL

/-! DL7: expressions that change what is one's own; statements -/
namespace DL
open PySem PySem.Spec PyProof.Rows L2

section
variable {X : Cx} {pos : Pos}
theorem dp_lc {elt tg iter : Expr} {ifs : List Expr} {scope : Scope} {own : List (Str × Nat)} {is : List Nat} {src : IF} {g : GF} {tt : PTF} {fe : PF} (hc : X.calm = true) (hN : X.N.Nodup) (hi : DI X tg iter src) (ok : BlkOk X.N X.env.scope scope own)
    (hg : ∀ (s : Shared) (H : Hp) (C : Addr) (cl : List (Str × Addr)) (fp : List Addr), DG (X.blk s H scope (compEnvC scope cl C X.env) fp) tg is g) (ht : ∀ (s : Shared) (H : Hp) (C : Addr) (cl : List (Str × Addr)) (fp : List Addr), DTs (X.blk s H scope (compEnvC scope cl C X.env) fp) ifs tt)
    (he : ∀ (s : Shared) (H : Hp) (C : Addr) (cl : List (Str × Addr)) (fp : List Addr), DP (X.blk s H scope (compEnvC scope cl C X.env) fp) elt fe) (his : own.map (·.2) = is := by rfl) (hs : ∀ x, foldedSetIterable iter X.env x = pure x := by intro _; rfl) :
    DP X (.ListComp elt [⟨tg, iter, ifs, 0⟩] scope pos) (pLc src is g tt fe) := by
  obtain ⟨t, e, s⟩ := hi.run
  subst his
  exact ⟨_, pe_lc hc hN e ok (fun s H C cl fp => (hg s H C cl fp).can) (fun s H C cl fp => (ht s H C cl fp).run) (fun s H C cl fp => (he s H C cl fp).can) hs, sound_lc s⟩
end

/-! ### expressions with effects -/
abbrev EF := Ro → (KD → Ro → Prop) → (Str → Ro → Prop) → Prop
abbrev TEF := Ro → (Bool → Ro → Prop) → (Str → Ro → Prop) → Prop
def ESound (K : Frg) (E : XK) (t : TE) (f : EF) : Prop := ∀ (σ : L2.St) (H : Hp) (A : Addr → Prop) (ρ : Ro) (ow : List Addr) (Q : VK) (P : KD → Ro → Prop) (PX : Str → Ro → Prop), Good K A H ρ σ ow → f ρ P PX →
  (∀ z ρ' v H' fp ow' A', P z ρ' → Stp H ow A H' (fp ++ ow') A' → Good K A' H' ρ' σ ow' → Own K A' H' z v fp ow' → Q v H') →
  (∀ C ρ' H' ow' A', PX C ρ' → Stp H ow A H' ow' A' → Good K A' H' ρ' σ ow' → E (.ref (He.ga K C)) none H') → t σ H Q
def TESound (K : Frg) (E : XK) (t : TT) (f : TEF) : Prop := ∀ (σ : L2.St) (H : Hp) (A : Addr → Prop) (ρ : Ro) (ow : List Addr) (Q : Bool → Hp → Prop) (P : Bool → Ro → Prop) (PX : Str → Ro → Prop), Good K A H ρ σ ow → f ρ P PX →
  (∀ b ρ' H' ow' A', P b ρ' → Stp H ow A H' ow' A' → Good K A' H' ρ' σ ow' → Q b H') →
  (∀ C ρ' H' ow' A', PX C ρ' → Stp H ow A H' ow' A' → Good K A' H' ρ' σ ow' → E (.ref (He.ga K C)) none H') → t σ H Q
structure DE (X : Cx) (E : XK) (e : Expr) (f : EF) : Prop where
  run : ∃ t, PE X e t ∧ ESound X.K E t f
structure DTE (X : Cx) (E : XK) (e : Expr) (f : TEF) : Prop where
  run : ∃ t, PT X e t ∧ TESound X.K E t f
/-- what is read only: one's own out of sight -/
def rdOnly (ρ : Ro) : Ro := ρ.map fun s => match s with
  | some (.sh, _) => none
  | some (.ow, _) => none
  | s => s
def eP (f : PF) : EF := fun ρ P _ => f ρ fun z => match z.1 with
  | .fl => P z ρ
  | .sh => P z ρ
  | .ow => P z ρ
  | _ => False
def eR (f : PF) : EF := fun ρ P _ => f (rdOnly ρ) fun z => P z ρ
def eMv (i : Nat) : EF := fun ρ P _ => match ρ[i]? with
  | some (some (k, d)) => (match k with
    | .sh => P (k, d) (ρ.set i none)
    | .ow => P (k, d) (ρ.set i none)
    | _ => P (k, d) ρ)
  | _ => False
def teP (f : PTF) : TEF := fun ρ P _ => f ρ fun b => P b ρ
section
variable {K : Frg} {A A' : Addr → Prop} {H H' : Hp} {ρ : Ro} {σ : L2.St} {ow : List Addr}
/-- own of something in flight -/
theorem PR.own {v : V} {z : KD} (g : Good K A H ρ σ ow) (s : Same H H') (p : PR K (BB A ow) (Fre H) H' v z) (hk : z.1 = .fl ∨ z.1 = .sh ∨ z.1 = .ow) :
    ∃ fp, Stp H ow A H' (fp ++ ow) A ∧ Own K A H' z v fp ow := by
  obtain ⟨fp, r, nd, hF⟩ := p
  refine ⟨fp, ⟨fun a o e _ => s a o e, fun a h => ?_, fun _ h => h, fun _ h => .inl h⟩, ⟨?_, List.nodup_append.mpr ⟨nd, g.nd, fun a ha b hb e => ?_⟩, fun a h z => ?_⟩⟩
  · rcases List.mem_append.mp h with h | h
    · exact .inr (hF a h)
    · exact .inl h
  · obtain ⟨k, d⟩ := z
    rcases hk with rfl | rfl | rfl <;> exact r
  · subst e
    obtain ⟨o, e, _⟩ := g.rep.mu a hb
    rw [show H a = none from hF a ha] at e; cases e
  · obtain ⟨o, e⟩ := g.tr a z
    rw [show H a = none from hF a h] at e; cases e
theorem RepS.rdOnly : ∀ {ρ : Ro} {σ : L2.St} {f : List Addr}, RepS K A H ρ σ f → RepS K A H (rdOnly ρ) σ []
  | [], _, _, h => ⟨h.1, rfl⟩
  | s :: ρ, _, _, ⟨x, σ', f, g, e, e2, h, r⟩ => by
    refine ⟨x, σ', [], [], e, rfl, ?_, RepS.rdOnly r⟩
    cases s with
    | none => rfl
    | some kd =>
      obtain ⟨k, d⟩ := kd
      obtain ⟨v, ev, h⟩ := h
      cases k with
      | fl => exact ⟨v, ev, rfl, h.2⟩
      | rd => exact ⟨v, ev, rfl, h.2⟩
      | sa => exact ⟨v, ev, rfl, h.2⟩
      | sh => rfl
      | ow => rfl
theorem Good.rdOnly (g : Good K A H ρ σ ow) : Good K A H (rdOnly ρ) σ [] := ⟨g.rep.rdOnly, List.nodup_nil, fun _ h => (nomatch h), g.tr⟩
/-- what is new may be frozen -/
theorem Good.freeze (g : Good K A H ρ σ ow) (s : Same H H') : Good K (fun a => A a ∨ Fre2 H H' a) H' ρ σ ow :=
  ⟨(g.rep.keep (KeepF.of_same s)).mono fun _ h => .inl h, g.nd, (fun a h z => by
    rcases z with z | ⟨z, _⟩
    · exact g.dis a h z
    · obtain ⟨o, e, _⟩ := g.rep.mu a h
      rw [z] at e; cases e), (fun a h => by
    rcases h with h | ⟨_, h⟩
    · obtain ⟨o, e⟩ := g.tr a h; exact ⟨o, s a o e⟩
    · exact h)⟩
theorem Stp.freeze (s : Same H H') : Stp H ow A H' ow (fun a => A a ∨ Fre2 H H' a) :=
  ⟨fun a o e _ => s a o e, fun _ h => .inl h, fun _ h => .inl h, fun _ h => h.elim .inl fun z => .inr (.inr z.1)⟩
theorem PR.rdown {v : V} {z : KD} (g : Good K A H ρ σ ow) (s : Same H H') (p : PR K (BB A []) (Fre H) H' v z) :
    ∃ fp A', Stp H ow A H' (fp ++ ow) A' ∧ Good K A' H' ρ σ ow ∧ Own K A' H' z v fp ow := by
  by_cases hk : z.1 = .fl ∨ z.1 = .sh ∨ z.1 = .ow
  · have p' : PR K (BB A ow) (Fre H) H' v z := p.mono (fun a h => h.elim .inl fun z => nomatch z) (fun _ h => h)
    obtain ⟨fp, s1, o1⟩ := p'.own g s hk
    exact ⟨fp, A, s1, g.same s, o1⟩
  · obtain ⟨fp, r, nd, hF⟩ := p.tr
    have e : fp = [] := by
      obtain ⟨k, d⟩ := z
      cases k with
      | fl => exact r.1
      | rd => exact r.1
      | sa => exact r.1
      | sh => exact absurd (.inr (.inl rfl)) hk
      | ow => exact absurd (.inr (.inr rfl)) hk
    subst e
    refine ⟨[], _, Stp.freeze s, g.freeze s, ⟨r.mono fun a h => ?_, g.nd, fun a h => (nomatch h)⟩⟩
    rcases h with (h | h) | h
    · exact .inl h
    · cases h
    · exact .inr h
/-- a slot given away -/
theorem Good.move {i : Nat} {kd : KD} (g : Good K A H ρ σ ow) (e : ρ[i]? = some (some kd)) : ∃ v fp ow', σ[i]? = some (some v) ∧ Good K A H (ρ.set i none) σ ow' ∧ Own K A H kd v fp ow' ∧ ∀ a ∈ fp ++ ow', a ∈ ow := by
  obtain ⟨x, f1, f2, f3, hx, e2, ⟨v, ev, h⟩, put⟩ := g.rep.split e
  subst ev e2
  have nd := g.nd
  obtain ⟨n1, n2, n3⟩ := List.nodup_append.mp nd
  obtain ⟨m1, m2, m3⟩ := List.nodup_append.mp n2
  have r : RepS K A H (ρ.set i none) σ (f1 ++ f3) := by
    have := put H A none (some v) [] (fun _ h => h) (fun a o e _ => e) rfl
    rwa [set_same hx] at this
  refine ⟨v, f2, f1 ++ f3, hx, ⟨r, List.nodup_append.mpr ⟨n1, m2, fun a ha b hb => n3 a ha b (by simp [hb])⟩, fun a h => g.dis a (by rcases List.mem_append.mp h with h | h <;> simp [h]), g.tr⟩,
    ⟨h, List.nodup_append.mpr ⟨m1, List.nodup_append.mpr ⟨n1, m2, fun a ha b hb => n3 a ha b (by simp [hb])⟩, fun a ha b hb e => ?_⟩, fun a h => g.dis a (by simp [h])⟩, fun a h => ?_⟩
  · subst e
    rcases List.mem_append.mp hb with hb | hb
    · exact n3 a hb a (by simp [ha]) rfl
    · exact m3 a ha a hb rfl
  · rcases List.mem_append.mp h with h | h
    · simp [h]
    · rcases List.mem_append.mp h with h | h <;> simp [h]
/-- a slot out of sight: what it holds is no more one's own -/
theorem VR.own0 {k : Kd} {d : D} {v : V} {f : List Addr} (h : VR K A H (k, d) v f) (hk : k = .fl ∨ k = .sa ∨ k = .rd) : f = [] := by
  rcases hk with rfl | rfl | rfl <;> exact h.1
end
section
variable {X : Cx} {E : XK} {pos : Pos} {e : Expr} {f : PF}
theorem de_p (h : DP X e f) : DE X E e (eP f) := by
  obtain ⟨t, pe, s⟩ := h.run
  refine ⟨t, pe, fun σ H A ρ ow Q P PX g hf q _ => ?_⟩
  refine s σ H A ρ ow _ _ g hf fun z v H' hz s1 p1 => ?_
  have hk : (z.1 = .fl ∨ z.1 = .sh ∨ z.1 = .ow) ∧ P z ρ := by
    obtain ⟨k, d⟩ := z
    cases k <;> first
      | exact ⟨.inl rfl, hz⟩
      | exact ⟨.inr (.inl rfl), hz⟩
      | exact ⟨.inr (.inr rfl), hz⟩
      | exact hz.elim
  obtain ⟨fp, s2, o2⟩ := p1.own g s1 hk.1
  exact q z ρ v H' fp ow A hk.2 s2 (g.same s1) o2
theorem de_r (h : DP X e f) : DE X E e (eR f) := by
  obtain ⟨t, pe, s⟩ := h.run
  refine ⟨t, pe, fun σ H A ρ ow Q P PX g hf q _ => ?_⟩
  refine s σ H A (rdOnly ρ) [] _ _ g.rdOnly hf fun z v H' hz s1 p1 => ?_
  obtain ⟨fp, A', s2, g2, o2⟩ := p1.rdown g s1
  exact q z ρ v H' fp ow A' hz s2 g2 o2
theorem de_mv (i : Nat) {x : Str} (hN : X.N[i]? = some x := by rfl) (hv : Vis X.env.scope x := by first | exact Or.inl rfl | exact Or.inr (Or.inl rfl) | exact Or.inr (Or.inr rfl)) (hd : (x == ("__debug__" : Str)) = false := by decide)
    (hcd : (x == ("__classdict__" : Str)) = false := by decide) : DE X E (.Name x pos) (eMv i) := by
  refine ⟨tVar i, pe_var hN hv hd hcd, fun σ H A ρ ow Q P PX g h q _ => ?_⟩
  unfold eMv at h
  cases e : ρ[i]? with
  | none => rw [e] at h; exact h.elim
  | some s =>
    rw [e] at h
    cases s with
    | none => exact h.elim
    | some kd =>
      obtain ⟨k, d⟩ := kd
      obtain ⟨v, fp, ow', hv, g', o, sub⟩ := g.move e
      refine ⟨v, hv, ?_⟩
      have stp : Stp H ow A H (fp ++ ow') A := ⟨fun _ _ e _ => e, fun a h => .inl (sub a h), fun _ h => h, fun _ h => .inl h⟩
      have keep : ∀ (hk : k = .fl ∨ k = .sa ∨ k = .rd) (hp : P (k, d) ρ), Q v H := fun hk hp => by
        have e0 := o.rep.own0 hk
        subst e0
        exact q (k, d) ρ v H [] ow A hp Stp.refl g ⟨o.rep, g.nd, fun a h => (nomatch h)⟩
      cases k with
      | fl => exact keep (.inl rfl) h
      | sa => exact keep (.inr (.inl rfl)) h
      | rd => exact keep (.inr (.inr rfl)) h
      | sh => exact q _ _ v H fp ow' A h stp g' o
      | ow => exact q _ _ v H fp ow' A h stp g' o
theorem dte_p {f : PTF} (h : DT X e f) : DTE X E e (teP f) := by
  obtain ⟨t, pe, s⟩ := h.run
  refine ⟨t, pe, fun σ H A ρ ow Q P PX g hf q _ => ?_⟩
  exact s σ H A ρ ow _ _ g hf fun b H' hb s1 => q b ρ H' ow A hb (Stp.of_same s1) (g.same s1)
end

/-! ### statements -/
structure DEnds where
  nx : Ro → Prop
  rt : KD → Ro → Prop
  ex : Str → Ro → Prop
abbrev SF := DEnds → Ro → Prop
/-- pr: the slots that are not stored to -/
def SSound (K : Frg) (E : XK) (pr : List Nat) (t : TS) (f : SF) : Prop := ∀ (σ : L2.St) (H : Hp) (A : Addr → Prop) (ρ : Ro) (ow : List Addr) (T : Ends) (D : DEnds), Good K A H ρ σ ow → f D ρ →
  (∀ ρ' σ' H' ow' A', D.nx ρ' → Stp H ow A H' ow' A' → Good K A' H' ρ' σ' ow' → (∀ i ∈ pr, σ'[i]? = σ[i]?) → T.nx σ' H') →
  (∀ z ρ' v σ' H' fp ow' A', D.rt z ρ' → Stp H ow A H' (fp ++ ow') A' → Good K A' H' ρ' σ' ow' → Own K A' H' z v fp ow' → (∀ i ∈ pr, σ'[i]? = σ[i]?) → T.rt v H') →
  (∀ C ρ' σ' H' ow' A', D.ex C ρ' → Stp H ow A H' ow' A' → Good K A' H' ρ' σ' ow' → (∀ i ∈ pr, σ'[i]? = σ[i]?) → E (.ref (He.ga K C)) none H') → t T σ H
structure DS (X : Cx) (E : XK) (pr : List Nat) (st : Stmt) (f : SF) : Prop where
  run : ∃ t, PS X st t ∧ SSound X.K E pr t f
structure DSs (X : Cx) (E : XK) (pr : List Nat) (st : List Stmt) (f : SF) : Prop where
  run : ∃ t, PSs X st t ∧ SSound X.K E pr t f
def sNil : SF := fun D ρ => D.nx ρ
def sSeq (f g : SF) : SF := fun D ρ => f { D with nx := fun ρ' => g D ρ' } ρ
def sSet (i : Nat) (f : EF) : SF := fun D ρ => f ρ (fun z ρ' => D.nx (ρ'.set i (some z))) D.ex
def sAsg (f : EF) (g : GF) : SF := fun D ρ => f ρ (fun z ρ' => g z ρ' D.nx) D.ex
def sExpr (f : EF) : SF := fun D ρ => f ρ (fun _ ρ' => D.nx ρ') D.ex
def sRet (f : EF) : SF := fun D ρ => f ρ D.rt D.ex
def sIf (t : TEF) (f g : SF) : SF := fun D ρ => t ρ (fun b ρ' => if b = true then f D ρ' else g D ρ') D.ex
def forD (g : GF) (body : SF) (D : DEnds) : List KD → Ro → Prop
  | [], ρ => D.nx ρ
  | z :: zs, ρ => g z ρ fun ρ1 => body { D with nx := fun ρ' => forD g body D zs ρ' } ρ1
def sFor (src : IF) (g : GF) (body : SF) : SF := fun D ρ => src (rdOnly ρ) fun zs => forD g body D zs ρ
def whileD (t : TEF) (body : SF) (D : DEnds) : Nat → Ro → Prop
  | 0, _ => False
  | n + 1, ρ => t ρ (fun b ρ' => if b = true then body { D with nx := fun ρ'' => whileD t body D n ρ'' } ρ' else D.nx ρ') D.ex
def sWhile (t : TEF) (body : SF) : SF := fun D ρ => ∃ n, whileD t body D n ρ
/-- the slot's thing is only read from here on -/
def sFrz (i : Nat) (f : SF) : SF := fun D ρ => match ρ[i]? with
  | some (some (k, d)) => f D (ρ.set i (some (k.rdk, d)))
  | _ => False
section
variable {X : Cx} {E : XK} {pr : List Nat} {pos : Pos} {e : Expr} {ef : EF}
theorem ss_nil {K : Frg} : SSound K E pr tNext sNil := fun σ H A ρ ow T D g h nx rt ex => nx ρ σ H ow A h Stp.refl g fun _ _ => rfl
theorem dss_nil : DSs X E pr [] sNil := ⟨_, pss_nil, ss_nil⟩
theorem ss_seq {K : Frg} {t u : TS} {f g : SF} (s : SSound K E pr t f) (s' : SSound K E pr u g) : SSound K E pr (tSeq t u) (sSeq f g) := by
  intro σ H A ρ ow T D gd h nx rt ex
  refine s σ H A ρ ow _ _ gd h (fun ρ1 σ1 H1 ow1 A1 h1 st1 g1 p1 => ?_) rt ex
  refine s' σ1 H1 A1 ρ1 ow1 T D g1 h1 (fun ρ2 σ2 H2 ow2 A2 h2 st2 g2 p2 => nx ρ2 σ2 H2 ow2 A2 h2 (st1.trans st2) g2 fun i hi => (p2 i hi).trans (p1 i hi)) (fun z ρ2 v σ2 H2 fp ow2 A2 h2 st2 g2 o2 p2 => ?_) (fun C ρ2 σ2 H2 ow2 A2 h2 st2 g2 p2 => ?_)
  · exact rt z ρ2 v σ2 H2 fp ow2 A2 h2 (st1.trans st2) g2 o2 fun i hi => (p2 i hi).trans (p1 i hi)
  · exact ex C ρ2 σ2 H2 ow2 A2 h2 (st1.trans st2) g2 fun i hi => (p2 i hi).trans (p1 i hi)
theorem dss_cons {st : Stmt} {rest : List Stmt} {f g : SF} (h : DS X E pr st f) (h' : DSs X E pr rest g) : DSs X E pr (st :: rest) (sSeq f g) := by
  obtain ⟨t, a, s⟩ := h.run
  obtain ⟨u, b, s'⟩ := h'.run
  exact ⟨_, pss_cons a b, ss_seq s s'⟩
theorem dss_one {st : Stmt} {f : SF} (h : DS X E pr st f) : DSs X E pr [st] f := by
  obtain ⟨t, a, s⟩ := h.run
  exact ⟨_, pss_one a, s⟩
theorem Own.sub {K : Frg} {A : Addr → Prop} {H : Hp} {z : KD} {v : V} {fp ow ow' : List Addr} (o : Own K A H z v fp ow) (s : ∀ a ∈ ow', a ∈ ow) (n : ow'.Nodup) : Own K A H z v fp ow' := by
  obtain ⟨n1, n2, n3⟩ := List.nodup_append.mp o.nd
  exact ⟨o.rep, List.nodup_append.mpr ⟨n1, n, fun a ha b hb => n3 a ha b (s b hb)⟩, o.dis⟩
theorem set_ne_pr {σ : L2.St} {i : Nat} {x : Option V} (hp : i ∉ pr) : ∀ j ∈ pr, (σ.set i x)[j]? = σ[j]? := fun j hj => List.getElem?_set_ne fun e => hp (by rw [e]; exact hj)
theorem ss_set {K : Frg} {i : Nat} {te : TE} (hp : i ∉ pr) (s : ESound K E te ef) : SSound K E pr (tAsg te (gName i)) (sSet i ef) := by
  intro σ H A ρ ow T D gd h nx rt ex
  refine s σ H A ρ ow _ _ _ gd h (fun z ρ1 v H1 fp ow1 A1 h1 st1 g1 o1 => ?_) fun C ρ1 H1 ow1 A1 h1 st1 g1 => ex C ρ1 σ H1 ow1 A1 h1 st1 g1 fun _ _ => rfl
  obtain ⟨ow2, g2, sub⟩ := g1.put (i := i) o1
  exact nx _ _ H1 ow2 A1 h1 (st1.sub fun a h => by rcases sub a h with h | h <;> simp [h]) g2 (set_ne_pr hp)
theorem ds_set (i : Nat) {x : Str} {pos' : Pos} (hN : X.N.Nodup) (he : DE X E e ef) (hp : i ∉ pr := by decide) (hi : X.N[i]? = some x := by rfl) (hx : Loc X.env.scope x := by first | exact Or.inl rfl | exact Or.inr rfl)
    (hs : swapsWith e (some (.Name x pos')) pos.line X.env = pure false := by rfl) (hf : X.fn x = true ∨ X.env.scope.names.lookup x = some .local := by first | exact .inl rfl | exact .inr rfl) : DS X E pr (.Assign [.Name x pos'] e pos) (sSet i ef) := by
  obtain ⟨t, a, s⟩ := he.run
  exact ⟨_, ps_set hN hi hx a hs hf, ss_set hp s⟩
/-- y = [..] on one line, y a local -/
theorem ds_setLc (i : Nat) {y : Str} {py spos : Pos} {elt tg iter : Expr} {ifs : List Expr} {scope : Scope} {own : List (Str × Nat)} {is : List Nat} {src : IF} {g : GF} {tt : PTF} {fe : PF} (hc : X.calm = true) (hN : X.N.Nodup) (hp : i ∉ pr) (hy : X.N[i]? = some y) (hyl : X.env.scope.names.lookup y = some .local)
    (hsw : swapsWith (.ListComp elt [⟨tg, iter, ifs, 0⟩] scope pos) (some (.Name y py)) spos.line X.env = pure true) (hi : DI X tg iter src) (ok : BlkOk X.N X.env.scope scope own)
    (hg : ∀ (s : Shared) (H : Hp) (C : Addr) (cl : List (Str × Addr)) (fp : List Addr), DG (X.blk s H scope (compEnvC scope cl C X.env) fp) tg is g) (ht : ∀ (s : Shared) (H : Hp) (C : Addr) (cl : List (Str × Addr)) (fp : List Addr), DTs (X.blk s H scope (compEnvC scope cl C X.env) fp) ifs tt)
    (he : ∀ (s : Shared) (H : Hp) (C : Addr) (cl : List (Str × Addr)) (fp : List Addr), DP (X.blk s H scope (compEnvC scope cl C X.env) fp) elt fe) (his : own.map (·.2) = is := by rfl) (hs : ∀ x, foldedSetIterable iter X.env x = pure x := by intro _; rfl) :
    DS X E pr (.Assign [.Name y py] (.ListComp elt [⟨tg, iter, ifs, 0⟩] scope pos) spos) (sSet i (eP (pLc src is g tt fe))) := by
  obtain ⟨t, e, s⟩ := hi.run
  subst his
  refine ⟨_, ps_setLc (te := tP X.K fe) (g := tG X.K (own.map (·.2)) g) (tt := tT X.K tt) hc hN hy hyl hsw e ok (fun s H C cl fp => (hg s H C cl fp).can) (fun s H C cl fp => (ht s H C cl fp).run) (fun s H C cl fp => (he s H C cl fp).can) hs, ss_set hp ?_⟩
  have z : DE X E (.ListComp elt [⟨tg, iter, ifs, 0⟩] scope pos) (eP (pLc src (own.map (·.2)) g tt fe)) := de_p ⟨_, pe_lc (te := tP X.K fe) (g := tG X.K (own.map (·.2)) g) (tt := tT X.K tt) hc hN e ok (fun s H C cl fp => (hg s H C cl fp).can) (fun s H C cl fp => (ht s H C cl fp).run) (fun s H C cl fp => (he s H C cl fp).can) hs, sound_lc s⟩
  intro σ H A ρ ow Q P PX gd hf q qx
  refine sound_lc s σ H A ρ ow _ _ gd hf fun z v H' hz s1 p1 => ?_
  have hk : (z.1 = .fl ∨ z.1 = .sh ∨ z.1 = .ow) ∧ P z ρ := by
    obtain ⟨k, d⟩ := z
    cases k <;> first
      | exact ⟨.inl rfl, hz⟩
      | exact ⟨.inr (.inl rfl), hz⟩
      | exact ⟨.inr (.inr rfl), hz⟩
      | exact hz.elim
  obtain ⟨fp, s2, o2⟩ := p1.own gd s1 hk.1
  exact q z ρ v H' fp ow A hk.2 s2 (gd.same s1) o2
theorem ds_asg {tg : Expr} {is : List Nat} {g : GF} (he : DE X E e ef) (hg : DG X tg is g) (hp : (is.all fun i => !pr.contains i) = true := by rfl) (hs : swapsWithSole [tg] e pos.line X.env = pure false := by rfl) (hw : swappedStores [tg] e X.env = pure none := by rfl)
    (h1 : (assignEach [tg] X.env).map (·.2) = [assign tg X.env] := by rfl) : DS X E pr (.Assign [tg] e pos) (sAsg ef g) := by
  obtain ⟨t, a, s⟩ := he.run
  obtain ⟨u, b, s'⟩ := hg.run
  refine ⟨_, ps_asg a b hs hw h1, fun σ H A ρ ow T D gd h nx rt ex => ?_⟩
  refine s σ H A ρ ow _ _ _ gd h (fun z ρ1 v H1 fp ow1 A1 h1 st1 g1 o1 => ?_) fun C ρ1 H1 ow1 A1 h1 st1 g1 => ex C ρ1 σ H1 ow1 A1 h1 st1 g1 fun _ _ => rfl
  refine s' v z fp σ H1 A1 ρ1 ow1 _ _ g1 o1 h1 fun ρ2 σ2 ow2 h2 g2 sub w2 => ?_
  refine nx _ _ H1 ow2 A1 h2 (st1.sub fun a h => by rcases sub a h with h | h <;> simp [h]) g2 fun j hj => ?_
  have hl : σ2.length = σ.length := by rw [← wipe_length σ2 is, w2, wipe_length]
  have e : (wipe σ2 is)[j]? = (wipe σ is)[j]? := by rw [w2]
  have nj : j ∉ is := fun z => by
    have := List.all_eq_true.mp hp j z
    simp [hj] at this
  rwa [wipe_get, wipe_get, if_neg (fun z => nj z.1), if_neg (fun z => nj z.1)] at e
theorem ds_expr (he : DE X E e ef) (hs : swapsWith e none pos.line X.env = pure false := by rfl) : DS X E pr (.Expr e pos) (sExpr ef) := by
  obtain ⟨t, a, s⟩ := he.run
  refine ⟨_, ps_expr a hs, fun σ H A ρ ow T D gd h nx rt ex => ?_⟩
  exact s σ H A ρ ow _ _ _ gd h (fun z ρ1 v H1 fp ow1 A1 h1 st1 g1 o1 => nx ρ1 σ H1 ow1 A1 h1 (st1.sub fun a h => by simp [h]) g1 fun _ _ => rfl) fun C ρ1 H1 ow1 A1 h1 st1 g1 => ex C ρ1 σ H1 ow1 A1 h1 st1 g1 fun _ _ => rfl
theorem ds_ret (he : DE X E e ef) : DS X E pr (.Return (some e) pos) (sRet ef) := by
  obtain ⟨t, a, s⟩ := he.run
  refine ⟨_, ps_ret a, fun σ H A ρ ow T D gd h nx rt ex => ?_⟩
  exact s σ H A ρ ow _ _ _ gd h (fun z ρ1 v H1 fp ow1 A1 h1 st1 g1 o1 => rt z ρ1 v σ H1 fp ow1 A1 h1 st1 g1 o1 fun _ _ => rfl) fun C ρ1 H1 ow1 A1 h1 st1 g1 => ex C ρ1 σ H1 ow1 A1 h1 st1 g1 fun _ _ => rfl
theorem ds_if {c : Expr} {a b : List Stmt} {tc : TEF} {f g : SF} (hc : DTE X E c tc) (ha : DSs X E pr a f) (hb : DSs X E pr b g) : DS X E pr (.If c a b pos) (sIf tc f g) := by
  obtain ⟨t, pt, s⟩ := hc.run
  obtain ⟨ta, pa, sa⟩ := ha.run
  obtain ⟨tb, pb, sb⟩ := hb.run
  refine ⟨_, ps_if pt pa pb, fun σ H A ρ ow T D gd h nx rt ex => ?_⟩
  refine s σ H A ρ ow _ _ _ gd h (fun b ρ1 H1 ow1 A1 h1 st1 g1 => ?_) fun C ρ1 H1 ow1 A1 h1 st1 g1 => ex C ρ1 σ H1 ow1 A1 h1 st1 g1 fun _ _ => rfl
  cases b with
  | true => exact sa σ H1 A1 ρ1 ow1 T D g1 h1 (fun ρ2 σ2 H2 ow2 A2 h2 st2 => nx ρ2 σ2 H2 ow2 A2 h2 (st1.trans st2)) (fun z ρ2 v σ2 H2 fp ow2 A2 h2 st2 => rt z ρ2 v σ2 H2 fp ow2 A2 h2 (st1.trans st2)) (fun C ρ2 σ2 H2 ow2 A2 h2 st2 => ex C ρ2 σ2 H2 ow2 A2 h2 (st1.trans st2))
  | false => exact sb σ H1 A1 ρ1 ow1 T D g1 h1 (fun ρ2 σ2 H2 ow2 A2 h2 st2 => nx ρ2 σ2 H2 ow2 A2 h2 (st1.trans st2)) (fun z ρ2 v σ2 H2 fp ow2 A2 h2 st2 => rt z ρ2 v σ2 H2 fp ow2 A2 h2 (st1.trans st2)) (fun C ρ2 σ2 H2 ow2 A2 h2 st2 => ex C ρ2 σ2 H2 ow2 A2 h2 (st1.trans st2))
theorem ds_frz (i : Nat) {st : List Stmt} {f : SF} (h : DSs X E pr st f) : DSs X E pr st (sFrz i f) := by
  obtain ⟨t, a, s⟩ := h.run
  refine ⟨_, a, fun σ H A ρ ow T D gd h nx rt ex => ?_⟩
  unfold sFrz at h
  cases e : ρ[i]? with
  | none => rw [e] at h; exact h.elim
  | some sl =>
    rw [e] at h
    cases sl with
    | none => exact h.elim
    | some kd =>
      obtain ⟨k, d⟩ := kd
      obtain ⟨v, fp, ow', hv, g', o, sub⟩ := gd.move e
      -- the part given away is frozen
      have gA : Good X.K (fun a => A a ∨ a ∈ fp) H (ρ.set i none) σ ow' := ⟨g'.rep.mono fun _ h => .inl h, g'.nd, (fun a h z => by
          rcases z with z | z
          · exact g'.dis a h z
          · exact (List.nodup_append.mp o.nd).2.2 a z a h rfl), (fun a h => by
          rcases h with h | h
          · exact g'.tr a h
          · obtain ⟨o', e', _⟩ := o.rep.mu a h; exact ⟨o', e'⟩)⟩
      have vA : VR X.K (fun a => A a ∨ a ∈ fp) H (k.rdk, d) v [] := o.rep.rdk2 fun _ h => h
      obtain ⟨ow2, g2, sub2⟩ := gA.put (i := i) ⟨vA, by simpa using g'.nd, fun a h => (nomatch h)⟩
      rw [List.set_set, set_same hv] at g2
      have st1 : Stp H ow A H ow2 (fun a => A a ∨ a ∈ fp) := ⟨fun _ _ e _ => e, (fun a h => by
        rcases sub2 a h with z | z
        · exact .inl (sub a (by simp [z]))
        · cases z), fun _ h => .inl h, (fun a h => by
        rcases h with h | h
        · exact .inl h
        · exact .inr (.inl (sub a (by simp [h]))))⟩
      exact s σ H _ _ ow2 T D g2 h (fun ρ2 σ2 H2 ow2 A2 h2 st2 => nx ρ2 σ2 H2 ow2 A2 h2 (st1.trans st2)) (fun z ρ2 v σ2 H2 fp ow2 A2 h2 st2 => rt z ρ2 v σ2 H2 fp ow2 A2 h2 (st1.trans st2)) (fun C ρ2 σ2 H2 ow2 A2 h2 st2 => ex C ρ2 σ2 H2 ow2 A2 h2 (st1.trans st2))
theorem ds_for {tg iter : Expr} {body : List Stmt} {src : IF} {is : List Nat} {g : GF} {f : SF} (hp : PassesOwn (model X.prog X.w) X.A X.env X.xe) (hc : X.calm = true) (hi : DI X tg iter src) (hg : DG X tg is g) (hb : DSs X E pr body f) (hpr : (is.all fun i => !pr.contains i) = true := by rfl)
    (hs : ∀ x, foldedSetIterable iter X.env x = pure x := by intro _; rfl) : DS X E pr (.For tg iter body [] pos) (sFor src g f) := by
  obtain ⟨ti, pi, si⟩ := hi.run
  obtain ⟨tg', pg, sg⟩ := hg.run
  obtain ⟨tb, pb, sb⟩ := hb.run
  refine ⟨_, ps_for hp hc pi pg pb hs, fun σ H A ρ ow T D gd h nx rt ex => ?_⟩
  refine si σ H A (rdOnly ρ) [] _ _ (fun a => a ∈ ow) gd.rdOnly (fun a z => ⟨fun h => ?_, gd.rep.mu a z⟩) h fun zs J H1 hz s1 wk => ?_
  · rcases h with h | h
    · exact gd.dis a z h
    · cases h
  obtain ⟨G, Y, walk, hG, hY⟩ := wk
  have g1 := gd.freeze s1
  have st0 : Stp H ow A H1 ow (fun a => A a ∨ Fre2 H H1 a) := Stp.freeze s1
  refine for_it walk (fun i σ' H' => ∃ ρ' ow' A', Good X.K A' H' ρ' σ' ow' ∧ Stp H1 ow (fun a => A a ∨ Fre2 H H1 a) H' ow' A' ∧ forD g f D (zs.drop i) ρ' ∧ ∀ j ∈ pr, σ'[j]? = σ[j]?) ⟨ρ, ow, _, g1, Stp.refl, hz, fun _ _ => rfl⟩ ?_ ?_ ?_
  · rintro i σ' H' _ ⟨ρ', ow', A', _, st, _⟩
    exact hG H' fun a o e n => st.same a o e n
  · rintro i x σ' H' H2 hi ⟨ρ', ow', A', g', st, hf, hpr'⟩ y
    have hzi : zs[i]? = some zs[i] := List.getElem?_eq_getElem hi
    obtain ⟨s2, vz⟩ := hY i H' x H2 zs[i] hzi (fun a o e n => st.same a o e n) y
    rw [List.drop_eq_getElem_cons hi] at hf
    have hstep : g zs[i] ρ' fun ρ1 => f { D with nx := fun ρ' => forD g f D (zs.drop (i + 1)) ρ' } ρ1 := hf
    have vA : VR X.K A' H2 zs[i] x [] := vz.mono fun a h => by
      rcases h with (h | h) | h
      · exact st.up a (.inl h)
      · cases h
      · exact st.up a (.inr h)
    refine sg x zs[i] [] σ' H2 A' ρ' ow' _ _ (g'.same s2) ⟨vA, by simpa using g'.nd, fun a h => (nomatch h)⟩ hstep fun ρ1 σ1 ow1 h1 g1' sub1 w1 => ?_
    have st1 : Stp H1 ow (fun a => A a ∨ Fre2 H H1 a) H2 ow1 A' := (st.trans (Stp.of_same s2)).sub fun a h => by
      rcases sub1 a h with h | h
      · exact h
      · cases h
    have pr1 : ∀ j ∈ pr, σ1[j]? = σ[j]? := fun j hj => by
      have hl : σ1.length = σ'.length := by rw [← wipe_length σ1 is, w1, wipe_length]
      have e : (wipe σ1 is)[j]? = (wipe σ' is)[j]? := by rw [w1]
      have nj : j ∉ is := fun z => by
        have := List.all_eq_true.mp hpr j z
        simp [hj] at this
      rw [wipe_get, wipe_get, if_neg (fun z => nj z.1), if_neg (fun z => nj z.1)] at e
      exact e.trans (hpr' j hj)
    refine sb σ1 H2 A' ρ1 ow1 _ _ g1' h1 (fun ρ3 σ3 H3 ow3 A3 h3 st3 g3 p3 => ⟨ρ3, ow3, A3, g3, st1.trans st3, h3, fun j hj => (p3 j hj).trans (pr1 j hj)⟩) (fun z ρ3 v σ3 H3 fp ow3 A3 h3 st3 g3 o3 p3 => ?_) (fun C ρ3 σ3 H3 ow3 A3 h3 st3 g3 p3 => ?_)
    · exact rt z ρ3 v σ3 H3 fp ow3 A3 h3 (st0.trans (st1.trans st3)) g3 o3 fun j hj => (p3 j hj).trans (pr1 j hj)
    · exact ex C ρ3 σ3 H3 ow3 A3 h3 (st0.trans (st1.trans st3)) g3 fun j hj => (p3 j hj).trans (pr1 j hj)
  · rintro σ' H' ⟨ρ', ow', A', g', st, hf, hpr'⟩
    rw [List.drop_eq_nil_of_le (Nat.le_refl _)] at hf
    exact nx ρ' σ' H' ow' A' hf (st0.trans st) g' hpr'
theorem ds_while {c : Expr} {body : List Stmt} {tc : TEF} {f : SF} (hp : PassesOwn (model X.prog X.w) X.A X.env X.xe) (hc : DTE X E c tc) (hb : DSs X E pr body f) : DS X E pr (.While c body [] pos) (sWhile tc f) := by
  obtain ⟨tt, pt, st⟩ := hc.run
  obtain ⟨tb, pb, sb⟩ := hb.run
  refine ⟨_, ps_while hp pt pb, fun σ H A ρ ow T D gd h nx rt ex => ?_⟩
  obtain ⟨n, h⟩ := h
  refine ⟨fun m σ' H' => ∃ ρ' ow' A', Good X.K A' H' ρ' σ' ow' ∧ Stp H ow A H' ow' A' ∧ whileD tc f D m ρ' ∧ ∀ j ∈ pr, σ'[j]? = σ[j]?, ⟨n, ρ, ow, A, gd, Stp.refl, h, fun _ _ => rfl⟩, ?_⟩
  rintro m σ1 H1 ⟨ρ1, ow1, A1, g1, st1, h1, p1⟩
  cases m with
  | zero => exact h1.elim
  | succ m =>
    refine st σ1 H1 A1 ρ1 ow1 _ _ _ g1 h1 (fun b ρ2 H2 ow2 A2 h2 st2 g2 => ?_) fun C ρ2 H2 ow2 A2 h2 st2 g2 => ex C ρ2 σ1 H2 ow2 A2 h2 (st1.trans st2) g2 p1
    cases b with
    | false =>
      rw [if_neg Bool.false_ne_true] at h2 ⊢
      exact nx ρ2 σ1 H2 ow2 A2 h2 (st1.trans st2) g2 p1
    | true =>
      rw [if_pos rfl] at h2 ⊢
      refine ⟨fun σ' H' => ∃ ρ' ow' A', Good X.K A' H' ρ' σ' ow' ∧ Stp H ow A H' ow' A' ∧ whileD tc f D m ρ' ∧ ∀ j ∈ pr, σ'[j]? = σ[j]?, fun σ' H' w => ⟨m, Nat.lt_succ_self m, w⟩, ?_⟩
      refine sb σ1 H2 A2 ρ2 ow2 _ _ g2 h2 (fun ρ3 σ3 H3 ow3 A3 h3 st3 g3 p3 => ⟨ρ3, ow3, A3, g3, (st1.trans st2).trans st3, h3, fun j hj => (p3 j hj).trans (p1 j hj)⟩) (fun z ρ3 v σ3 H3 fp ow3 A3 h3 st3 g3 o3 p3 => ?_) (fun C ρ3 σ3 H3 ow3 A3 h3 st3 g3 p3 => ?_)
      · exact rt z ρ3 v σ3 H3 fp ow3 A3 h3 ((st1.trans st2).trans st3) g3 o3 fun j hj => (p3 j hj).trans (p1 j hj)
      · exact ex C ρ3 σ3 H3 ow3 A3 h3 ((st1.trans st2).trans st3) g3 fun j hj => (p3 j hj).trans (p1 j hj)
end
end DL

/-! DL8: contracts, defs, calls -/
namespace DL
open PySem PySem.Spec PyProof.Rows L2

/-- what a def does: with such arguments, which answers and changed arguments, which refusals and changed arguments -/
abbrev CF := List KD → (KD → List KD → Prop) → (Str → List KD → Prop) → Prop
/-- those that are marked -/
def sel {α : Type} : List Bool → List α → List α
  | true :: ms, x :: xs => x :: sel ms xs
  | false :: ms, _ :: xs => sel ms xs
  | _, _ => []
structure Ret (K : Frg) (H : Hp) (M : List Addr) (A : Addr → Prop) (ms : List Bool) (vs : List V) (H' : Hp) (A' : Addr → Prop) (M' : List Addr) (ys : List KD) (fp : List Addr) : Prop where
  stp : Stp H M A H' (fp ++ M') A'
  muts : VRs K A' H' ys (sel ms vs) M'
  nd : (fp ++ M').Nodup
  dis : ∀ a ∈ fp ++ M', ¬ A' a
  tr : ∀ a, A' a → ∃ o, H' a = some o
def spOf (K : Frg) (n : Nat) (ms : List Bool) (c : CF) : Sp := fun vs H Q E => vs.length = n ∧ ∃ zs A M Q0 X0, VRs K A H zs vs M ∧ M.Nodup ∧ (∀ a ∈ M, ¬ A a) ∧ (∀ a, A a → ∃ o, H a = some o) ∧ c zs Q0 X0 ∧
  (∀ z ys v H' fp M' A', Q0 z ys → Ret K H M A ms vs H' A' M' ys fp → VR K A' H' z v fp → Q v H') ∧
  (∀ C ys H' M' A', X0 C ys → Ret K H M A ms vs H' A' M' ys [] → E (.ref (He.ga K C)) none H')
/-- the marked slots -/
def mutsOf : List Bool → Ro → Option (List KD)
  | [], _ => some []
  | true :: ms, some kd :: ρ => (mutsOf ms ρ).map (kd :: ·)
  | true :: _, _ => none
  | false :: ms, _ :: ρ => mutsOf ms ρ
  | false :: _, [] => none
def prOf (ms : List Bool) : List Nat := (List.range ms.length).filter fun i => ms[i]? == some true
/-- a def's meaning by its body's; n further names -/
def cfOf (n : Nat) (ms : List Bool) (f : SF) : CF := fun zs Q X => f
  { nx := fun ρ => match mutsOf ms ρ with | some ys => Q (.fl, .non) ys | none => False
    rt := fun z ρ => match mutsOf ms ρ with | some ys => Q z ys | none => False
    ex := fun C ρ => match mutsOf ms ρ with | some ys => X C ys | none => False } (zs.map some ++ List.replicate n none)
section
variable {K : Frg} {A : Addr → Prop} {H : Hp}
theorem RepS.start : ∀ {zs : List KD} {vs : List V} {M : List Addr} (n : Nat), VRs K A H zs vs M → RepS K A H (zs.map some ++ List.replicate n none) (vs.map some ++ List.replicate n none) M
  | [], _, _, n, h => by
    obtain ⟨e1, e2⟩ := h
    subst e1 e2
    show RepS K A H (List.replicate n none) (List.replicate n none) []
    induction n with
    | zero => exact ⟨rfl, rfl⟩
    | succ n ih => exact ⟨none, _, [], [], rfl, rfl, rfl, ih⟩
  | z :: zs, _, _, n, ⟨w, ws, f1, f2, e, e2, h, t⟩ => by
    subst e e2
    exact ⟨some w, _, f1, f2, rfl, rfl, ⟨w, rfl, h⟩, RepS.start n t⟩
theorem RepS.muts : ∀ {ms : List Bool} {ρ : Ro} {σ : L2.St} {ow : List Addr} {vs : List V} {ys : List KD}, RepS K A H ρ σ ow → mutsOf ms ρ = some ys → ms.length = vs.length →
    (∀ i : Nat, ms[i]? = some true → ∃ v, vs[i]? = some v ∧ σ[i]? = some (some v)) → ∃ M', VRs K A H ys (sel ms vs) M' ∧ M'.Sublist ow
  | [], _, _, _, vs, ys, _, h, hl, _ => by
    have : ys = [] := (Option.some.inj h).symm
    subst this
    exact ⟨[], ⟨by cases vs <;> rfl, rfl⟩, List.nil_sublist _⟩
  | true :: ms, [], _, _, _, _, _, h, _, _ => by cases h
  | true :: ms, none :: ρ, _, _, _, _, _, h, _, _ => by cases h
  | false :: ms, [], _, _, _, _, _, h, _, _ => by cases h
  | true :: ms, some kd :: ρ, _, _, [], _, _, _, hl, _ => by cases hl
  | true :: ms, some kd :: ρ, _, _, v :: vs, ys, ⟨x, σ', f, g, e, e2, ⟨w, ew, hw⟩, r⟩, h, hl, hs => by
    subst e e2 ew
    have h' : (mutsOf ms ρ).map (kd :: ·) = some ys := h
    cases q : mutsOf ms ρ with
    | none => rw [q] at h'; cases h'
    | some ys' =>
      rw [q] at h'
      have e3 : kd :: ys' = ys := Option.some.inj h'
      subst e3
      obtain ⟨v', ev, es⟩ := hs 0 rfl
      have e4 : v = v' := Option.some.inj ev
      have e5 : w = v' := Option.some.inj (Option.some.inj es)
      subst e4 e5
      obtain ⟨M', rM, sub⟩ := RepS.muts r q (by simpa using hl) fun i hi => by
        obtain ⟨u, e1, e2⟩ := hs (i + 1) (by simpa using hi)
        exact ⟨u, by simpa using e1, by simpa using e2⟩
      exact ⟨f ++ M', ⟨w, _, f, M', rfl, rfl, hw, rM⟩, (List.Sublist.refl f).append sub⟩
  | false :: ms, s :: ρ, _, _, [], _, _, _, hl, _ => by cases hl
  | false :: ms, s :: ρ, _, _, v :: vs, ys, ⟨x, σ', f, g, e, e2, hs0, r⟩, h, hl, hs => by
    subst e e2
    obtain ⟨M', rM, sub⟩ := RepS.muts (ms := ms) r h (by simpa using hl) fun i hi => by
      obtain ⟨u, e1, e2⟩ := hs (i + 1) (by simpa using hi)
      exact ⟨u, by simpa using e1, by simpa using e2⟩
    exact ⟨M', rM, sub.trans (List.sublist_append_right f g)⟩
theorem mem_prOf {ms : List Bool} {i : Nat} (h : ms[i]? = some true) : i ∈ prOf ms := by
  unfold prOf
  refine List.mem_filter.mpr ⟨List.mem_range.mpr (List.getElem?_eq_some_iff.mp h).1, ?_⟩
  rw [h]; rfl
/-- a body that means f keeps the promise of f -/
theorem body_ok {t : TS} {f : SF} {N : List Str} {ms : List Bool} {E : XK} {vs : List V} {Q : VK} {n : Nat} (s : SSound K E (prOf ms) t f) (hn : N.length - vs.length = n) (hm : ms.length = vs.length) (hsp : spOf K vs.length ms (cfOf n ms f) vs H Q E) :
    t { nx := fun _ H' => Q .non H', rt := Q } (start N vs) H := by
  obtain ⟨_, zs, A, M, Q0, X0, r, nd, dis, tr, hc, hq, hx⟩ := hsp
  have rs : RepS K A H (zs.map some ++ List.replicate n none) (start N vs) M := by
    unfold L2.start
    rw [hn]
    exact RepS.start n r
  have good : Good K A H (zs.map some ++ List.replicate n none) (start N vs) M := ⟨rs, nd, dis, tr⟩
  have slot : ∀ i : Nat, ms[i]? = some true → ∃ v, vs[i]? = some v ∧ (start N vs)[i]? = some (some v) := fun i hi => by
    have hl : i < vs.length := by rw [← hm]; exact (List.getElem?_eq_some_iff.mp hi).1
    refine ⟨vs[i], List.getElem?_eq_getElem hl, ?_⟩
    unfold L2.start
    rw [List.getElem?_append_left (by rw [List.length_map]; exact hl), List.getElem?_map, List.getElem?_eq_getElem hl]
    rfl
  have fin : ∀ {ρ' : Ro} {σ' : L2.St} {H' : Hp} {fp ow' : List Addr} {A' : Addr → Prop} {ys : List KD}, mutsOf ms ρ' = some ys → Stp H M A H' (fp ++ ow') A' → Good K A' H' ρ' σ' ow' → (fp ++ ow').Nodup → (∀ a ∈ fp, ¬ A' a) →
      (∀ i ∈ prOf ms, σ'[i]? = (start N vs)[i]?) → ∃ M', Ret K H M A ms vs H' A' M' ys fp := fun {ρ' σ' H' fp ow' A' ys} e st g nd' dis' p => by
    obtain ⟨M', rM, sub⟩ := g.rep.muts e hm fun i hi => by
      obtain ⟨v, e1, e2⟩ := slot i hi
      exact ⟨v, e1, (p i (mem_prOf hi)).trans e2⟩
    have sub2 : (fp ++ M').Sublist (fp ++ ow') := (List.Sublist.refl fp).append sub
    refine ⟨M', st.sub fun a h => sub2.subset h, rM, List.Nodup.sublist sub2 nd', fun a h => ?_, g.tr⟩
    rcases List.mem_append.mp h with h | h
    · exact dis' a h
    · exact g.dis a (sub.subset h)
  refine s (start N vs) H A _ M _ _ good hc (fun ρ' σ' H' ow' A' h st g p => ?_) (fun z ρ' v σ' H' fp ow' A' h st g o p => ?_) (fun C ρ' σ' H' ow' A' h st g p => ?_)
  · dsimp only at h
    split at h
    · rename_i ys e
      obtain ⟨M', rt⟩ := fin (fp := []) e st g g.nd (fun a h => (nomatch h)) p
      exact hq _ _ .non H' [] M' A' h rt ⟨rfl, rfl⟩
    · exact h.elim
  · dsimp only at h
    split at h
    · rename_i ys e
      obtain ⟨M', rt⟩ := fin e st g o.nd o.dis p
      exact hq _ _ v H' fp M' A' h rt o.rep
    · exact h.elim
  · dsimp only at h
    split at h
    · rename_i ys e
      obtain ⟨M', rt⟩ := fin (fp := []) e st g g.nd (fun a h => (nomatch h)) p
      exact hx C _ H' M' A' h rt
    · exact h.elim
end
section
variable {P : Program} {w : World} {K : Frg} {mg : Str → Option Value} {base : Heap}
/-- a def from which nothing is raised -/
theorem cf_ok {x qual : Str} {params : Arguments} {body : List Stmt} {scope : Scope} {f : Addr} {fd : FuncData} {N ps : List Str} {k n : Nat} {ms : List Bool} {sem : SF} (F : FunD K x qual params body scope [] [] f fd) (S : FnScope N ps scope) (hm : ms.length = ps.length) (hn : N.length - ps.length = n)
    (hb : ∀ (cdv : Value) (A : Around) (outer : List Env) (s : Shared) (H : Hp) (E : XK), Room k (A.deeper (envOfC qual scope s.heap.objs.size f cdv)) → DSs (cxOf CX0 P w K mg base N qual scope f cdv A outer s H E).nox E (prOf ms) body sem) :
    FnOk P w K mg base CX0 (k + 1) f fd ps (spOf K ps.length ms (cfOf n ms sem)) := by
  refine F.ok S (fun vs H Q E h => h.1) (fun cdv A outer s H vs Q E hr h => ?_)
  obtain ⟨t, pt, st⟩ := (hb cdv A outer s H E hr).run
  have hl : vs.length = ps.length := h.1
  have st' : SSound K E (prOf ms) t sem := st
  rw [← hl] at h
  exact ⟨t, pt.nox, body_ok st' (by rw [hl]; exact hn) (by rw [hl]; exact hm) h⟩
/-- a def that may raise -/
theorem cf_okX {x qual : Str} {params : Arguments} {body : List Stmt} {scope : Scope} {f : Addr} {fd : FuncData} {N ps : List Str} {k n : Nat} {ms : List Bool} {sem : SF} (F : FunD K x qual params body scope [] [] f fd) (S : FnScope N ps scope) (hm : ms.length = ps.length) (hn : N.length - ps.length = n)
    (hb : ∀ (cdv : Value) (A : Around) (outer : List Env) (s : Shared) (H : Hp) (E : XK), Room k (A.deeper (envOfC qual scope s.heap.objs.size f cdv)) → DSs (cxOf (L2.CX P w) P w K mg base N qual scope f cdv A outer s H E) E (prOf ms) body sem) :
    FnOk P w K mg base (L2.CX P w) (k + 1) f fd ps (spOf K ps.length ms (cfOf n ms sem)) := by
  refine F.ok S (fun vs H Q E h => h.1) (fun cdv A outer s H vs Q E hr h => ?_)
  obtain ⟨t, pt, st⟩ := (hb cdv A outer s H E hr).run
  have hl : vs.length = ps.length := h.1
  have st' : SSound K E (prOf ms) t sem := st
  rw [← hl] at h
  exact ⟨t, pt, body_ok st' (by rw [hl]; exact hn) (by rw [hl]; exact hm) h⟩
end

/-! ### pure calls -/
def pFn (c : CF) (g : PAF) : PF := fun ρ P => g ρ fun zs => c (zs.map fun z => (z.1.rdk, z.2)) (fun z _ => P z) (fun _ _ => False)
section
variable {K : Frg} {A B F : Addr → Prop} {H H' : Hp}
theorem VR.view {z : KD} {v : V} {f : List Addr} (h : VR K A H z v f) (m : ∀ a, A a → B a) (s : ∀ a ∈ f, B a) : VR K B H (z.1.rdk, z.2) v [] := by
  obtain ⟨k, d⟩ := z
  have r : RA K B H d v := h.ra m s
  cases k with
  | fl => exact ⟨rfl, h.2⟩
  | rd => exact ⟨rfl, r⟩
  | ow => exact ⟨rfl, r⟩
  | sh => exact ⟨rfl, r, h.2⟩
  | sa => exact ⟨rfl, r, h.2.2⟩
theorem VRs.view (m : ∀ a, A a → B a) : ∀ {zs : List KD} {vs : List V} {f : List Addr}, VRs K A H zs vs f → (∀ a ∈ f, B a) → VRs K B H (zs.map fun z => (z.1.rdk, z.2)) vs []
  | [], _, _, h, _ => ⟨h.1, rfl⟩
  | z :: zs, _, _, ⟨w, ws, f1, f2, e, e2, h, t⟩, s => ⟨w, ws, [], [], e, rfl, h.view m fun a q => s a (by rw [e2]; exact List.mem_append_left _ q), VRs.view m t fun a q => s a (by rw [e2]; exact List.mem_append_right _ q)⟩
theorem VRs.monoT (m : ∀ a o, H a = some o → A a → B a) : ∀ {zs : List KD} {vs : List V} {f : List Addr}, VRs K A H zs vs f → VRs K B H zs vs f
  | [], _, _, h => h
  | z :: zs, _, _, ⟨w, ws, f1, f2, e, e2, h, t⟩ => ⟨w, ws, f1, f2, e, e2, h.monoT m, VRs.monoT m t⟩
theorem sel_none {α : Type} : ∀ {ms : List Bool} {l : List α}, ms.all (!·) = true → sel ms l = []
  | [], l, _ => by cases l <;> rfl
  | true :: ms, _, h => by cases h
  | false :: ms, [], _ => rfl
  | false :: ms, x :: xs, h => sel_none (ms := ms) (l := xs) (by simpa using h)
/-- a call with things that are only read -/
theorem fn_core {c : CF} {zs : List KD} {vs : List V} {n : Nat} {ms : List Bool} {H0 : Hp} {ow : List Addr} {Q : VK} {P : KD → Prop} {E : XK} {ρ : Ro} {σ : L2.St} (g : Good K A H0 ρ σ ow) (s : Same H0 H) (pr : PRs K (BB A ow) (Fre H0) H vs zs) (hl : vs.length = n)
    (hc : c (zs.map fun z => (z.1.rdk, z.2)) (fun z _ => P z) (fun _ _ => False)) (q : ∀ z v H', P z → Same H0 H' → PR K (BB A ow) (Fre H0) H' v z → Q v H') : spOf K n ms c vs H Q E := by
  obtain ⟨fp, r, nd, hF⟩ := pr
  refine ⟨hl, _, fun a => Or2 (BB A ow) (Fre H0) a ∧ ∃ o, H a = some o, [], _, _, (r.monoT fun a o e h => ⟨h, o, e⟩).view (fun a h => h) (fun a h => ⟨.inr (hF a h), let ⟨o, e, _⟩ := r.mu a h; ⟨o, e⟩⟩), List.nodup_nil, fun a h => (nomatch h), fun a h => h.2, hc, fun z ys v H' fp' M' A' hz rt rv => ?_, fun C ys H' M' A' hx _ => hx.elim⟩
  have s' : Same H H' := fun a o e => rt.stp.same a o e (by simp)
  refine q z v H' hz (s.trans s') ⟨fp', rv.mono fun a h => ?_, (List.nodup_append.mp rt.nd).1, fun a h => ?_⟩
  · rcases rt.stp.fr a h with h | h | h
    · exact h.1
    · cases h
    · exact .inr (s.free h)
  · rcases rt.stp.own a (by simp [h]) with h | h
    · cases h
    · exact s.free h
end
section
variable {X : Cx} {CX : CXT} {k n m : Nat} {f C : Addr} {fd : FuncData} {ps : List Str} {c : CF} {ms : List Bool} {E : XK} {x : Str} {p pos : Pos} {e : Expr} {es : List Expr} {g : PAF}
theorem dp_call (F : FnOk X.prog X.w X.K X.mg X.base CX k f fd ps (spOf X.K n ms c)) (hr : Room k X.A) (hg : Gl X x) (hm : X.mg x = some (.ref f)) (hk : PySem.W.keepIn X.K (.ref f) = true) (hb : Binds X.K fd ps []) (hx : Passes CX X E) (ha : DA X (e :: es) n g)
    (hdb : (x == ("__debug__" : Str)) = false := by decide) (he : starEach (e :: es) X.env = (false, eval e X.env) :: starEach es X.env := by rfl) (hpl : (backTo pos (starEach es X.env)).any (·.1) = false := by rfl) :
    DP X (.Call (.Name x p) (e :: es) [] pos) (pFn c g) := by
  obtain ⟨t, ea, sa⟩ := ha.run
  refine ⟨_, pe_call F hr hg hm hk hb .nil hx ea hdb he hpl, fun σ H A ρ ow Q P gd h q => ?_⟩
  refine sa σ H A ρ ow _ _ gd h fun zs vs H1 hn hz s1 p1 => ?_
  rw [List.append_nil]
  exact fn_core gd s1 p1 (by obtain ⟨_, r, _⟩ := p1; rw [r.len, hn]) hz q
end

/-! ### calls that change things -/
/-- an argument: a thing, or what a name holds (to be changed) -/
inductive AV where
  | v (z : KD) | pl (i : Nat)
def AVs (K : Frg) (A : Addr → Prop) (H : Hp) (σ : L2.St) : List AV → List V → List Addr → Prop
  | [], vs, f => vs = [] ∧ f = []
  | .v z :: r, vs, f => ∃ w ws f1 f2, vs = w :: ws ∧ f = f1 ++ f2 ∧ VR K A H z w f1 ∧ AVs K A H σ r ws f2
  | .pl i :: r, vs, f => ∃ w ws, vs = w :: ws ∧ σ[i]? = some (some w) ∧ AVs K A H σ r ws f
abbrev AEF := Ro → (List AV → Ro → Prop) → (Str → Ro → Prop) → Prop
def AESound (K : Frg) (E : XK) (n : Nat) (t : TA) (f : AEF) : Prop := ∀ (σ : L2.St) (H : Hp) (A : Addr → Prop) (ρ : Ro) (ow : List Addr) (Q : List V → Hp → Prop) (P : List AV → Ro → Prop) (PX : Str → Ro → Prop), Good K A H ρ σ ow → f ρ P PX →
  (∀ avs ρ' vs H' fp ow' A', avs.length = n → P avs ρ' → Stp H ow A H' (fp ++ ow') A' → Good K A' H' ρ' σ ow' → AVs K A' H' σ avs vs fp → (fp ++ ow').Nodup → (∀ a ∈ fp, ¬ A' a) → Q vs H') →
  (∀ C ρ' H' ow' A', PX C ρ' → Stp H ow A H' ow' A' → Good K A' H' ρ' σ ow' → E (.ref (He.ga K C)) none H') → t σ H Q
structure DAE (X : Cx) (E : XK) (es : List Expr) (n : Nat) (f : AEF) : Prop where
  run : ∃ t, PA X es t ∧ AESound X.K E n t f
section
variable {K : Frg} {A B : Addr → Prop} {H H' : Hp} {σ : L2.St}
theorem AVs.len : ∀ {avs : List AV} {vs : List V} {f : List Addr}, AVs K A H σ avs vs f → vs.length = avs.length
  | [], _, _, h => by rw [h.1]; rfl
  | .v z :: r, _, _, ⟨w, ws, f1, f2, e, _, _, t⟩ => by rw [e, List.length_cons, List.length_cons, AVs.len t]
  | .pl i :: r, _, _, ⟨w, ws, e, _, t⟩ => by rw [e, List.length_cons, List.length_cons, AVs.len t]
theorem AVs.mono (m : ∀ a, A a → B a) : ∀ {avs : List AV} {vs : List V} {f : List Addr}, AVs K A H σ avs vs f → AVs K B H σ avs vs f
  | [], _, _, h => h
  | .v z :: r, _, _, ⟨w, ws, f1, f2, e, e2, h, t⟩ => ⟨w, ws, f1, f2, e, e2, h.mono m, AVs.mono m t⟩
  | .pl i :: r, _, _, ⟨w, ws, e, h, t⟩ => ⟨w, ws, e, h, AVs.mono m t⟩
def grab : List AV → Ro → Option (List KD × Ro)
  | [], ρ => some ([], ρ)
  | .v z :: r, ρ => (grab r ρ).map fun q => (z :: q.1, q.2)
  | .pl i :: r, ρ => match ρ[i]? with
    | some (some kd) => (grab r (ρ.set i none)).map fun q => (kd :: q.1, q.2)
    | _ => none
def putB : List Bool → List AV → List KD → Ro → Option Ro
  | true :: ms, .v _ :: r, _ :: ys, ρ => putB ms r ys ρ
  | true :: ms, .pl i :: r, y :: ys, ρ => putB ms r ys (ρ.set i (some y))
  | false :: ms, .v _ :: r, ys, ρ => putB ms r ys ρ
  | [], [], [], ρ => some ρ
  | _, _, _, _ => none
theorem grab_ok : ∀ {avs : List AV} {ρ ρ2 : Ro} {zs : List KD} {vs : List V} {fp ow : List Addr}, grab avs ρ = some (zs, ρ2) → Good K A H ρ σ ow → AVs K A H σ avs vs fp → (fp ++ ow).Nodup → (∀ a ∈ fp, ¬ A a) →
    ∃ M ow2, VRs K A H zs vs M ∧ Good K A H ρ2 σ ow2 ∧ (M ++ ow2).Nodup ∧ (∀ a ∈ M, ¬ A a) ∧ ∀ a ∈ M ++ ow2, a ∈ fp ++ ow
  | [], ρ, ρ2, zs, vs, fp, ow, h, g, r, nd, dis => by
    obtain ⟨e1, e2⟩ := r
    cases h
    subst e1 e2
    exact ⟨[], ow, ⟨rfl, rfl⟩, g, by simpa using nd, fun a h => (nomatch h), fun a h => by simpa using h⟩
  | .v z :: r', ρ, ρ2, zs, vs, fp, ow, h, g, ⟨w, ws, f1, f2, e, e2, hv, t⟩, nd, dis => by
    subst e e2
    have h' : (grab r' ρ).map (fun q => (z :: q.1, q.2)) = some (zs, ρ2) := h
    cases q : grab r' ρ with
    | none => rw [q] at h'; cases h'
    | some p =>
      obtain ⟨zs', ρ2'⟩ := p
      rw [q] at h'
      cases h'
      obtain ⟨n1, n2, n3⟩ := List.nodup_append.mp nd
      obtain ⟨m1, m2, m3⟩ := List.nodup_append.mp n1
      obtain ⟨M, ow2, r1, g2, nd2, dis2, sub⟩ := grab_ok q g t (List.nodup_append.mpr ⟨m2, n2, fun a ha b hb => n3 a (by simp [ha]) b hb⟩) fun a h => dis a (by simp [h])
      refine ⟨f1 ++ M, ow2, ⟨w, ws, f1, M, rfl, rfl, hv, r1⟩, g2, ?_, fun a h => ?_, fun a h => ?_⟩
      · rw [List.append_assoc]
        refine List.nodup_append.mpr ⟨m1, nd2, fun a ha b hb e => ?_⟩
        subst e
        rcases List.mem_append.mp (sub a hb) with z | z
        · exact m3 a ha a z rfl
        · exact n3 a (by simp [ha]) a z rfl
      · rcases List.mem_append.mp h with h | h
        · exact dis a (by simp [h])
        · exact dis2 a h
      · rw [List.append_assoc] at h
        rcases List.mem_append.mp h with h | h
        · simp [h]
        · rcases List.mem_append.mp (sub a h) with z | z <;> simp [z]
  | .pl i :: r', ρ, ρ2, zs, vs, fp, ow, h, g, ⟨w, ws, e, hs, t⟩, nd, dis => by
    subst e
    unfold grab at h
    cases q0 : ρ[i]? with
    | none => rw [q0] at h; cases h
    | some sl =>
      rw [q0] at h
      cases sl with
      | none => cases h
      | some kd =>
        dsimp only at h
        cases q : grab r' (ρ.set i none) with
        | none => rw [q] at h; cases h
        | some p =>
          obtain ⟨zs', ρ2'⟩ := p
          rw [q] at h
          cases h
          obtain ⟨v, fi, ow', hv, g', o, subi⟩ := g.move q0
          rw [hs] at hv
          have ev : w = v := Option.some.inj (Option.some.inj hv)
          subst ev
          obtain ⟨n1, n2, n3⟩ := List.nodup_append.mp nd
          have g'nd := g'.nd
          obtain ⟨M, ow2, r1, g2, nd2, dis2, sub⟩ := grab_ok q g' t (List.nodup_append.mpr ⟨n1, g'nd, fun a ha b hb => n3 a ha b (subi b (by simp [hb]))⟩) dis
          obtain ⟨k1, k2, k3⟩ := List.nodup_append.mp o.nd
          refine ⟨fi ++ M, ow2, ⟨w, ws, fi, M, rfl, rfl, o.rep, r1⟩, g2, ?_, fun a h => ?_, fun a h => ?_⟩
          · rw [List.append_assoc]
            refine List.nodup_append.mpr ⟨k1, nd2, fun a ha b hb e => ?_⟩
            subst e
            rcases List.mem_append.mp (sub a hb) with z | z
            · exact n3 a z a (subi a (by simp [ha])) rfl
            · exact k3 a ha a z rfl
          · rcases List.mem_append.mp h with h | h
            · exact o.dis a h
            · exact dis2 a h
          · rw [List.append_assoc] at h
            rcases List.mem_append.mp h with h | h
            · simp [subi a (by simp [h])]
            · rcases List.mem_append.mp (sub a h) with z | z
              · simp [z]
              · simp [subi a (by simp [z])]
theorem putB_ok {A' : Addr → Prop} {H1 : Hp} : ∀ {ms : List Bool} {avs : List AV} {ys : List KD} {ρ ρ3 : Ro} {vs : List V} {fp M ow : List Addr}, putB ms avs ys ρ = some ρ3 → AVs K A H1 σ avs vs fp → VRs K A' H' ys (sel ms vs) M → Good K A' H' ρ σ ow →
    (M ++ ow).Nodup → (∀ a ∈ M, ¬ A' a) → ∃ ow3, Good K A' H' ρ3 σ ow3 ∧ ∀ a ∈ ow3, a ∈ M ++ ow
  | [], [], [], ρ, ρ3, vs, fp, M, ow, h, _, _, g, _, _ => by cases h; exact ⟨ow, g, fun a h => by simp [h]⟩
  | [], [], _ :: _, _, _, _, _, _, _, h, _, _, _, _, _ => by cases h
  | [], _ :: _, _, _, _, _, _, _, _, h, _, _, _, _, _ => by cases h
  | true :: _, [], _, _, _, _, _, _, _, h, _, _, _, _, _ => by cases h
  | false :: _, [], _, _, _, _, _, _, _, h, _, _, _, _, _ => by cases h
  | false :: _, .pl _ :: _, _, _, _, _, _, _, _, h, _, _, _, _, _ => by cases h
  | true :: _, .v _ :: _, [], _, _, _, _, _, _, h, _, _, _, _, _ => by cases h
  | true :: _, .pl _ :: _, [], _, _, _, _, _, _, h, _, _, _, _, _ => by cases h
  | false :: ms, .v z :: r, ys, ρ, ρ3, vs, fp, M, ow, h, ⟨w, ws, f1, f2, e, e2, hv, t⟩, rM, g, nd, dis => by
    subst e e2
    exact putB_ok (ms := ms) h t rM g nd dis
  | true :: ms, .v z :: r, y :: ys, ρ, ρ3, vs, fp, M, ow, h, ⟨w, ws, f1, f2, e, e2, hv, t⟩, rM, g, nd, dis => by
    subst e e2
    obtain ⟨w', ws', g1, g2, e3, e4, hy, rM'⟩ := rM
    cases e3
    subst e4
    rw [List.append_assoc] at nd
    obtain ⟨_, n2, _⟩ := List.nodup_append.mp nd
    obtain ⟨ow3, g3, sub⟩ := putB_ok (ms := ms) h t rM' g n2 fun a h => dis a (by simp [h])
    exact ⟨ow3, g3, fun a h => by have := sub a h; simp at this ⊢; rcases this with z | z <;> simp [z]⟩
  | true :: ms, .pl i :: r, y :: ys, ρ, ρ3, vs, fp, M, ow, h, ⟨w, ws, e, hs, t⟩, rM, g, nd, dis => by
    subst e
    obtain ⟨w', ws', g1, g2, e3, e4, hy, rM'⟩ := rM
    cases e3
    subst e4
    rw [List.append_assoc] at nd
    obtain ⟨n1, n2, n3⟩ := List.nodup_append.mp nd
    obtain ⟨m1, m2, m3⟩ := List.nodup_append.mp n2
    obtain ⟨ow1, gp, sub1⟩ := g.put (i := i) (kd := y) (v := w) (fp := g1) ⟨hy, List.nodup_append.mpr ⟨n1, m2, fun a ha b hb => n3 a ha b (by simp [hb])⟩, fun a h => dis a (by simp [h])⟩
    rw [set_same hs] at gp
    obtain ⟨ow3, g3, sub⟩ := putB_ok (ms := ms) (ρ := ρ.set i (some y)) h t rM' gp (List.nodup_append.mpr ⟨m1, gp.nd, fun a ha b hb e => by
      subst e
      rcases sub1 a hb with z | z
      · exact m3 a ha a z rfl
      · exact n3 a z a (by simp [ha]) rfl⟩) fun a h => dis a (by simp [h])
    refine ⟨ow3, g3, fun a h => ?_⟩
    rcases List.mem_append.mp (sub a h) with z | z
    · simp [z]
    · rcases sub1 a z with z | z <;> simp [z]
def eFn (ms : List Bool) (c : CF) (f : AEF) : EF := fun ρ P PX => f ρ (fun avs ρ1 => match grab avs ρ1 with
  | some (zs, ρ2) => c zs (fun z ys => match putB ms avs ys ρ2 with | some ρ3 => P z ρ3 | none => False) (fun C ys => match putB ms avs ys ρ2 with | some ρ3 => PX C ρ3 | none => False)
  | none => False) PX
/-- from evaluated arguments to the callee's promise -/
theorem efn_core {E : XK} {n : Nat} {ms : List Bool} {c : CF} {avs : List AV} {ρ ρ2 : Ro} {zs : List KD} {vs : List V} {fp ow ow0 : List Addr} {H0 : Hp} {A0 : Addr → Prop} {Q : VK} {P : KD → Ro → Prop} {PX : Str → Ro → Prop}
    (hg : grab avs ρ = some (zs, ρ2)) (st : Stp H0 ow0 A0 H (fp ++ ow) A) (g : Good K A H ρ σ ow) (r : AVs K A H σ avs vs fp) (nd : (fp ++ ow).Nodup) (dis : ∀ a ∈ fp, ¬ A a) (hl : vs.length = n)
    (hc : c zs (fun z ys => match putB ms avs ys ρ2 with | some ρ3 => P z ρ3 | none => False) (fun C ys => match putB ms avs ys ρ2 with | some ρ3 => PX C ρ3 | none => False))
    (q : ∀ z ρ' v H' fp ow' A', P z ρ' → Stp H0 ow0 A0 H' (fp ++ ow') A' → Good K A' H' ρ' σ ow' → Own K A' H' z v fp ow' → Q v H')
    (qx : ∀ C ρ' H' ow' A', PX C ρ' → Stp H0 ow0 A0 H' ow' A' → Good K A' H' ρ' σ ow' → E (.ref (He.ga K C)) none H') : spOf K n ms c vs H Q E := by
  obtain ⟨M, ow2, rz, g2, nd2, disM, sub⟩ := grab_ok hg g r nd dis
  obtain ⟨k1, k2, k3⟩ := List.nodup_append.mp nd2
  have back : ∀ {ys : List KD} {ρ3 : Ro} {H' : Hp} {fp' M' : List Addr} {A' : Addr → Prop}, putB ms avs ys ρ2 = some ρ3 → Ret K H M A ms vs H' A' M' ys fp' → ∃ ow3, Good K A' H' ρ3 σ ow3 ∧ (∀ a ∈ ow3, a ∈ M' ++ ow2) ∧ Stp H0 ow0 A0 H' (fp' ++ ow3) A' ∧ (∀ a ∈ fp', a ∉ ow3) := fun {ys ρ3 H' fp' M' A'} e rt => by
    have keep : KeepF A ow2 H H' := fun a o e h => rt.stp.same a o e fun z => by
      rcases h with h | h | h
      · exact k3 a z a h rfl
      · exact disM a z h
      · obtain ⟨u, e', m⟩ := rz.mu a z
        rw [e] at e'; cases e'
        exact m.notImm h
    have trk : ∀ a, a ∈ ow2 → ∃ o, H a = some o := fun a h => let ⟨o, e, _⟩ := g2.rep.mu a h; ⟨o, e⟩
    have disA : ∀ a, a ∈ ow2 → ¬ A' a := fun a h z => by
      rcases rt.stp.fr a z with z | z | z
      · exact g2.dis a h z
      · exact k3 a z a h rfl
      · obtain ⟨o, e⟩ := trk a h
        rw [z] at e; cases e
    have g2' : Good K A' H' ρ2 σ ow2 := ⟨(g2.rep.keep keep).mono rt.stp.up, g2.nd, disA, rt.tr⟩
    obtain ⟨f1, f2, f3⟩ := List.nodup_append.mp rt.nd
    have notow2 : ∀ a, a ∈ fp' ++ M' → a ∉ ow2 := fun a h z => by
      rcases rt.stp.own a h with y | y
      · exact k3 a y a z rfl
      · obtain ⟨o, e⟩ := trk a z
        rw [y] at e; cases e
    obtain ⟨ow3, g3, sub3⟩ := putB_ok e r rt.muts g2' (List.nodup_append.mpr ⟨f2, g2.nd, fun a ha b hb e => notow2 a (by simp [ha]) (by rw [e]; exact hb)⟩) fun a h => rt.dis a (by simp [h])
    refine ⟨ow3, g3, sub3, ⟨fun a o e n => ?_, fun a h => ?_, fun a h => rt.stp.up a (st.up a h), fun a h => ?_⟩, fun a ha z => ?_⟩
    · have e1 := st.same a o e n
      refine rt.stp.same a o e1 fun z => ?_
      rcases st.own a (sub a (by simp [z])) with y | y
      · exact n y
      · rw [e] at y; cases y
    · have : a ∈ M ∨ H a = none ∨ a ∈ ow2 := by
        rcases List.mem_append.mp h with h | h
        · rcases rt.stp.own a (by simp [h]) with y | y
          · exact .inl y
          · exact .inr (.inl y)
        · rcases List.mem_append.mp (sub3 a h) with h | h
          · rcases rt.stp.own a (by simp [h]) with y | y
            · exact .inl y
            · exact .inr (.inl y)
          · exact .inr (.inr h)
      rcases this with y | y | y
      · exact st.own a (sub a (by simp [y]))
      · exact st.none y
      · exact st.own a (sub a (by simp [y]))
    · rcases rt.stp.fr a h with y | y | y
      · exact st.fr a y
      · exact .inr (st.own a (sub a (by simp [y])))
      · exact .inr (st.none y)
    · rcases List.mem_append.mp (sub3 a z) with y | y
      · exact f3 a ha a y rfl
      · exact notow2 a (by simp [ha]) y
  refine ⟨hl, zs, A, M, _, _, rz, k1, disM, g.tr, hc, fun z ys v H' fp' M' A' hz rt rv => ?_, fun C ys H' M' A' hz rt => ?_⟩
  · split at hz
    · rename_i ρ3 e
      obtain ⟨ow3, g3, sub3, st3, nin⟩ := back e rt
      obtain ⟨f1, f2, f3⟩ := List.nodup_append.mp rt.nd
      exact q z ρ3 v H' fp' ow3 A' hz st3 g3 ⟨rv, List.nodup_append.mpr ⟨f1, g3.nd, fun a ha b hb e => nin a ha (by rw [e]; exact hb)⟩, fun a h => rt.dis a (by simp [h])⟩
    · exact hz.elim
  · split at hz
    · rename_i ρ3 e
      obtain ⟨ow3, g3, sub3, st3, nin⟩ := back e rt
      exact qx C ρ3 H' ow3 A' hz st3 g3
    · exact hz.elim
end
section
variable {X : Cx} {E : XK} {pos : Pos} {e : Expr} {es : List Expr} {n : Nat} {g : AEF}
theorem dae_nil : DAE X E [] 0 (fun ρ P _ => P [] ρ) :=
  ⟨_, pa_nil, fun σ H A ρ ow Q P PX g h q _ => q [] ρ [] H [] ow A rfl h Stp.refl g ⟨rfl, rfl⟩ g.nd fun a h => (nomatch h)⟩
theorem dae_pl (i : Nat) {x : Str} (t : DAE X E es n g) (hN : X.N[i]? = some x := by rfl) (hv : Vis X.env.scope x := by first | exact Or.inl rfl | exact Or.inr (Or.inl rfl) | exact Or.inr (Or.inr rfl)) (hd : (x == ("__debug__" : Str)) = false := by decide)
    (hcd : (x == ("__classdict__" : Str)) = false := by decide) (hs : starEach (.Name x pos :: es) X.env = (false, eval (.Name x pos) X.env) :: starEach es X.env := by rfl) :
    DAE X E (.Name x pos :: es) (n + 1) (fun ρ P PX => (∃ kd, ρ[i]? = some (some kd)) ∧ g ρ (fun avs ρ' => P (.pl i :: avs) ρ') PX) := by
  obtain ⟨tb, eb, sb⟩ := t.run
  refine ⟨_, pa_cons (pe_var hN hv hd hcd) eb hs, fun σ H A ρ ow Q P PX gd h q qx => ?_⟩
  obtain ⟨⟨kd, e⟩, h⟩ := h
  obtain ⟨v, f, hv, _⟩ := gd.slot e
  refine ⟨v, hv, ?_⟩
  exact sb σ H A ρ ow _ _ _ gd h (fun avs ρ' vs H' fp ow' A' hn hp st g' r nd dis => q _ ρ' _ H' fp ow' A' (by rw [List.length_cons, hn]) hp st g' ⟨v, vs, rfl, hv, r⟩ nd dis) qx
theorem dae_e {f : EF} (h : DE X E e f) (t : DAE X E es n g) (hs : starEach (e :: es) X.env = (false, eval e X.env) :: starEach es X.env := by rfl) :
    DAE X E (e :: es) (n + 1) (fun ρ P PX => f ρ (fun z ρ1 => g ρ1 (fun avs ρ2 => P (.v z :: avs) ρ2) PX) PX) := by
  obtain ⟨ta, ea, sa⟩ := h.run
  obtain ⟨tb, eb, sb⟩ := t.run
  refine ⟨_, pa_cons ea eb hs, fun σ H A ρ ow Q P PX gd h q qx => ?_⟩
  refine sa σ H A ρ ow _ _ _ gd h (fun z ρ1 v H1 fp ow1 A1 h1 st1 g1 o1 => ?_) qx
  have st1' : Stp H ow A H1 ow1 A1 := st1.sub fun a h => by simp [h]
  obtain ⟨n1, n2, n3⟩ := List.nodup_append.mp o1.nd
  refine sb σ H1 A1 ρ1 ow1 _ _ _ g1 h1 (fun avs ρ2 vs H2 fp2 ow2 A2 hn hp st2 g2 r nd dis => ?_) (fun C ρ2 H2 ow2 A2 hx st2 g2 => qx C ρ2 H2 ow2 A2 hx (st1'.trans st2) g2)
  have trk : ∀ a ∈ fp, ∃ o, H1 a = some o := fun a h => let ⟨o, e, _⟩ := o1.rep.mu a h; ⟨o, e⟩
  have kp : KeepF A1 fp H1 H2 := fun a o e h => by
    rcases h with h | h
    · exact st2.same a o e fun z => n3 a h a z rfl
    · exact g1.keepA st2 a o e h
  have notin : ∀ a ∈ fp, a ∉ fp2 ++ ow2 := fun a h z => by
    rcases st2.own a z with y | y
    · exact n3 a h a y rfl
    · obtain ⟨o, e⟩ := trk a h
      rw [y] at e; cases e
  refine q _ ρ2 (v :: vs) H2 (fp ++ fp2) ow2 A2 (by rw [List.length_cons, hn]) hp ?_ g2 ⟨v, vs, fp, fp2, rfl, rfl, (o1.rep.keep kp).mono st2.up, r⟩ ?_ fun a h => ?_
  · have st := st1'.trans st2
    refine ⟨st.same, fun a h => ?_, st.up, st.fr⟩
    rw [List.append_assoc] at h
    rcases List.mem_append.mp h with h | h
    · exact st1.own a (by simp [h])
    · exact st.own a h
  · rw [List.append_assoc]
    exact List.nodup_append.mpr ⟨n1, nd, fun a ha b hb e => notin a ha (by rw [e]; exact hb)⟩
  · rcases List.mem_append.mp h with h | h
    · intro z
      rcases st2.fr a z with y | y | y
      · exact o1.dis a h y
      · exact n3 a h a y rfl
      · obtain ⟨o, e⟩ := trk a h
        rw [y] at e; cases e
    · exact dis a h
variable {CX : CXT} {k m : Nat} {f : Addr} {fd : FuncData} {ps : List Str} {c : CF} {ms : List Bool} {x : Str} {p : Pos}
theorem de_call (F : FnOk X.prog X.w X.K X.mg X.base CX k f fd ps (spOf X.K n ms c)) (hr : Room k X.A) (hg : Gl X x) (hm : X.mg x = some (.ref f)) (hk : PySem.W.keepIn X.K (.ref f) = true) (hb : Binds X.K fd ps []) (hx : Passes CX X E) (ha : DAE X E (e :: es) n g)
    (hdb : (x == ("__debug__" : Str)) = false := by decide) (he : starEach (e :: es) X.env = (false, eval e X.env) :: starEach es X.env := by rfl) (hpl : (backTo pos (starEach es X.env)).any (·.1) = false := by rfl) :
    DE X E (.Call (.Name x p) (e :: es) [] pos) (eFn ms c g) := by
  obtain ⟨t, ea, sa⟩ := ha.run
  refine ⟨_, pe_call F hr hg hm hk hb .nil hx ea hdb he hpl, fun σ H A ρ ow Q P PX gd h q qx => ?_⟩
  refine sa σ H A ρ ow _ _ _ gd h (fun avs ρ1 vs H1 fp ow1 A1 hn hz st1 g1 r nd dis => ?_) qx
  split at hz
  · rename_i zs ρ2 e
    rw [List.append_nil]
    exact efn_core e st1 g1 r nd dis (by rw [r.len, hn]) hz q qx
  · exact hz.elim
end
end DL

/-! DL9: operators over things that change what is one's own; places -/
namespace DL
open PySem PySem.Spec PyProof.Rows L2

section
variable {K : Frg} {A A0 : Addr → Prop} {H H' H0 : Hp} {ρ : Ro} {σ : L2.St} {ow ow0 fp : List Addr}
/-- in flight over things in flight -/
theorem PR.fin {u : V} {z : KD} (st : Stp H0 ow0 A0 H (fp ++ ow) A) (g : Good K A H ρ σ ow) (nd : (fp ++ ow).Nodup) (dis : ∀ a ∈ fp, ¬ A a) (s : Same H H') (p : PR K A (fun a => a ∈ fp ∨ H a = none) H' u z) :
    ∃ f A', Stp H0 ow0 A0 H' (f ++ ow) A' ∧ Good K A' H' ρ σ ow ∧ Own K A' H' z u f ow := by
  obtain ⟨f, r, n, hF⟩ := p
  obtain ⟨n1, n2, n3⟩ := List.nodup_append.mp nd
  have trk : ∀ a ∈ ow, ∃ o, H a = some o := fun a h => let ⟨o, e, _⟩ := g.rep.mu a h; ⟨o, e⟩
  have nin : ∀ a, (a ∈ fp ∨ H a = none) → a ∉ ow := fun a h z => by
    rcases h with h | h
    · exact n3 a h a z rfl
    · obtain ⟨o, e⟩ := trk a z
      rw [h] at e; cases e
  have nA : ∀ a, (a ∈ fp ∨ H a = none) → ¬ A a := fun a h z => by
    rcases h with h | h
    · exact dis a h z
    · obtain ⟨o, e⟩ := g.tr a z
      rw [h] at e; cases e
  have org : ∀ a, (a ∈ fp ∨ H a = none) → a ∈ ow0 ∨ H0 a = none := fun a h => by
    rcases h with h | h
    · exact st.own a (by simp [h])
    · exact st.none h
  by_cases hk : z.1 = .fl ∨ z.1 = .sh ∨ z.1 = .ow
  · refine ⟨f, A, ⟨fun a o e m => s a o (st.same a o e m), fun a h => ?_, st.up, st.fr⟩, g.same s, ⟨?_, List.nodup_append.mpr ⟨n, n2, fun a ha b hb e => nin a (hF a ha) (by rw [e]; exact hb)⟩, fun a h => nA a (hF a h)⟩⟩
    · rcases List.mem_append.mp h with h | h
      · exact org a (hF a h)
      · exact st.own a (by simp [h])
    · obtain ⟨k, d⟩ := z
      rcases hk with rfl | rfl | rfl <;> exact r
  · have e : f = [] := by
      obtain ⟨k, d⟩ := z
      cases k with
      | fl => exact r.1
      | rd => exact r.1
      | sa => exact r.1
      | sh => exact absurd (.inr (.inl rfl)) hk
      | ow => exact absurd (.inr (.inr rfl)) hk
    subst e
    refine ⟨[], fun a => A a ∨ ((a ∈ fp ∨ H a = none) ∧ ∃ o, H' a = some o), ⟨fun a o e m => s a o (st.same a o e m), fun a h => st.own a (by simp at h; simp [h]), fun a h => .inl (st.up a h), fun a h => ?_⟩, ?_, ⟨r.monoT fun a o e h => ?_, by simpa using n2, fun a h => (nomatch h)⟩⟩
    · rcases h with h | h
      · exact st.fr a h
      · exact .inr (org a h.1)
    · refine ⟨(g.rep.keep (KeepF.of_same s)).mono fun _ h => .inl h, n2, fun a h z => ?_, fun a h => ?_⟩
      · rcases z with z | z
        · exact g.dis a h z
        · exact nin a z.1 h
      · rcases h with h | h
        · obtain ⟨o, e⟩ := g.tr a h; exact ⟨o, s a o e⟩
        · exact h.2
    · rcases h with h | h
      · exact .inl h
      · exact .inr ⟨h, o, e⟩
def valsOf : List AV → Option (List KD)
  | [] => some []
  | .v z :: r => (valsOf r).map (z :: ·)
  | .pl _ :: _ => none
theorem AVs.vals : ∀ {avs : List AV} {vs : List V} {f : List Addr} {zs : List KD}, AVs K A H σ avs vs f → valsOf avs = some zs → VRs K A H zs vs f
  | [], _, _, _, h, e => by cases e; exact h
  | .v z :: r, _, _, zs, ⟨w, ws, f1, f2, e, e2, h, t⟩, q => by
    have q' : (valsOf r).map (z :: ·) = some zs := q
    cases q0 : valsOf r with
    | none => rw [q0] at q'; cases q'
    | some zs' =>
      rw [q0] at q'
      cases q'
      exact ⟨w, ws, f1, f2, e, e2, h, AVs.vals t q0⟩
  | .pl i :: r, _, _, _, _, q => by cases q
theorem VRs.prs {zs : List KD} {vs : List V} (r : VRs K A H zs vs fp) (nd : fp.Nodup) : PRs K A (fun a => a ∈ fp ∨ H a = none) H vs zs := ⟨fp, r.mono fun _ h => .inl h, nd, fun _ h => .inl h⟩
end

/-! ### argument lists, by their readings alone -/
theorem ae_nil {K : Frg} {E : XK} : AESound K E 0 tNil (fun ρ P _ => P [] ρ) := fun σ H A ρ ow Q P PX g h q _ => q [] ρ [] H [] ow A rfl h Stp.refl g ⟨rfl, rfl⟩ g.nd fun a h => (nomatch h)
theorem ae_cons {K : Frg} {E : XK} {n : Nat} {ta : TE} {tb : TA} {f : EF} {g : AEF} (sa : ESound K E ta f) (sb : AESound K E n tb g) :
    AESound K E (n + 1) (tCons ta tb) (fun ρ P PX => f ρ (fun z ρ1 => g ρ1 (fun avs ρ2 => P (.v z :: avs) ρ2) PX) PX) := by
  intro σ H A ρ ow Q P PX gd h q qx
  refine sa σ H A ρ ow _ _ _ gd h (fun z ρ1 v H1 fp ow1 A1 h1 st1 g1 o1 => ?_) qx
  have st1' : Stp H ow A H1 ow1 A1 := st1.sub fun a h => by simp [h]
  obtain ⟨n1, n2, n3⟩ := List.nodup_append.mp o1.nd
  refine sb σ H1 A1 ρ1 ow1 _ _ _ g1 h1 (fun avs ρ2 vs H2 fp2 ow2 A2 hn hp st2 g2 r nd dis => ?_) (fun C ρ2 H2 ow2 A2 hx st2 g2 => qx C ρ2 H2 ow2 A2 hx (st1'.trans st2) g2)
  have trk : ∀ a ∈ fp, ∃ o, H1 a = some o := fun a h => let ⟨o, e, _⟩ := o1.rep.mu a h; ⟨o, e⟩
  have kp : KeepF A1 fp H1 H2 := fun a o e h => by
    rcases h with h | h
    · exact st2.same a o e fun z => n3 a h a z rfl
    · exact g1.keepA st2 a o e h
  have notin : ∀ a ∈ fp, a ∉ fp2 ++ ow2 := fun a h z => by
    rcases st2.own a z with y | y
    · exact n3 a h a y rfl
    · obtain ⟨o, e⟩ := trk a h
      rw [y] at e; cases e
  refine q _ ρ2 (v :: vs) H2 (fp ++ fp2) ow2 A2 (by rw [List.length_cons, hn]) hp ?_ g2 ⟨v, vs, fp, fp2, rfl, rfl, (o1.rep.keep kp).mono st2.up, r⟩ ?_ fun a h => ?_
  · have st := st1'.trans st2
    refine ⟨st.same, fun a h => ?_, st.up, st.fr⟩
    rw [List.append_assoc] at h
    rcases List.mem_append.mp h with h | h
    · exact st1.own a (by simp [h])
    · exact st.own a h
  · rw [List.append_assoc]
    exact List.nodup_append.mpr ⟨n1, nd, fun a ha b hb e => notin a ha (by rw [e]; exact hb)⟩
  · rcases List.mem_append.mp h with h | h
    · intro z
      rcases st2.fr a z with y | y | y
      · exact o1.dis a h y
      · exact n3 a h a y rfl
      · obtain ⟨o, e⟩ := trk a h
        rw [y] at e; cases e
    · exact dis a h

def eOp (o : KD → KD → (KD → Prop) → Prop) (fa fb : EF) : EF := fun ρ P PX => fa ρ (fun x ρ1 => fb ρ1 (fun y ρ2 => o x y fun z => P z ρ2) PX) PX
def eUn (o : KD → (KD → Prop) → Prop) (fa : EF) : EF := fun ρ P PX => fa ρ (fun x ρ1 => o x fun z => P z ρ1) PX
def eCallB (o : List KD → (KD → Prop) → Prop) (g : AEF) : EF := fun ρ P PX => g ρ (fun avs ρ1 => match valsOf avs with | some zs => o zs fun z => P z ρ1 | none => False) PX
def eTup (g : AEF) : EF := fun ρ P PX => g ρ (fun avs ρ1 => match valsOf avs with | some zs => P (jT zs, .tup (zs.map (·.2))) ρ1 | none => False) PX
def eLst (g : AEF) : EF := fun ρ P PX => g ρ (fun avs ρ1 => match valsOf avs with | some zs => P (jL zs, .lst (zs.map (·.2))) ρ1 | none => False) PX
def eTest (f : EF) : TEF := fun ρ P PX => f ρ (fun z ρ1 => match z.2 with | .bl b => P b ρ1 | _ => False) PX
def teAnd (f g : TEF) : TEF := fun ρ P PX => f ρ (fun b ρ1 => if b = true then g ρ1 P PX else P false ρ1) PX
def teOr (f g : TEF) : TEF := fun ρ P PX => f ρ (fun b ρ1 => if b = true then P true ρ1 else g ρ1 P PX) PX
def teNot (f : TEF) : TEF := fun ρ P PX => f ρ (fun b ρ1 => P (!b) ρ1) PX
def eIf (t : TEF) (f g : EF) : EF := fun ρ P PX => t ρ (fun b ρ1 => if b = true then f ρ1 P PX else g ρ1 P PX) PX
section
variable {K : Frg} {E : XK} {fa fb : EF} {ta tb : TE}
theorem es_op {r : R2} {o : KD → KD → (KD → Prop) → Prop} (hr : OpS K r o) (sa : ESound K E ta fa) (sb : ESound K E tb fb) : ESound K E (tOp r ta tb) (eOp o fa fb) := by
  intro σ H A ρ ow Q P PX gd h q qx
  have s2 := ae_cons sa (ae_cons sb ae_nil)
  have := s2 σ H A ρ ow (fun vs H2 => match vs with | [x, y] => r x y H2 Q | _ => False) (fun avs ρ2 => match avs with | [.v x, .v y] => o x y fun z => P z ρ2 | _ => False) PX gd h (fun avs ρ2 vs H2 fp ow2 A2 hn hp st g2 rr nd dis => ?_) qx
  · exact this
  · split at hp
    · rename_i x y
      have rz : VRs K A2 H2 [x, y] vs fp := rr.vals rfl
      obtain ⟨v, w, ev, px, py⟩ := (rz.prs (List.nodup_append.mp nd).1).get2
      subst ev
      refine hr A2 _ H2 v w x y _ Q px py (fun a h => .inr h) hp fun z u H3 hz s3 p3 => ?_
      obtain ⟨f, A3, st3, g3, o3⟩ := p3.fin st g2 nd dis s3
      exact q z ρ2 u H3 f ow2 A3 hz st3 g3 o3
    · exact hp.elim
theorem es_un {r : V → Hp → VK → Prop} {o : KD → (KD → Prop) → Prop} (hr : UnS K r o) (sa : ESound K E ta fa) : ESound K E (tUn r ta) (eUn o fa) := by
  intro σ H A ρ ow Q P PX gd h q qx
  refine sa σ H A ρ ow _ _ _ gd h (fun x ρ1 v H1 fp ow1 A1 h1 st1 g1 o1 => ?_) qx
  have rz : VRs K A1 H1 [x] [v] fp := .one o1.rep
  obtain ⟨v', ev, px⟩ := (rz.prs (List.nodup_append.mp o1.nd).1).get1
  cases ev
  refine hr A1 _ H1 v x _ Q px (fun a h => .inr h) h1 fun z u H3 hz s3 p3 => ?_
  obtain ⟨f, A3, st3, g3, o3⟩ := p3.fin st1 g1 o1.nd o1.dis s3
  exact q z ρ1 u H3 f ow1 A3 hz st3 g3 o3
theorem es_call {n : Nat} {r : List V → Hp → VK → Prop} {o : List KD → (KD → Prop) → Prop} {t : TA} {g : AEF} (hr : CallS K r o) (s : AESound K E n t g) : ESound K E (tCB r t) (eCallB o g) := by
  intro σ H A ρ ow Q P PX gd h q qx
  refine s σ H A ρ ow _ _ _ gd h (fun avs ρ2 vs H2 fp ow2 A2 hn hp st g2 rr nd dis => ?_) qx
  split at hp
  · rename_i zs e
    have rz := rr.vals e
    refine hr A2 _ H2 vs zs _ Q (rz.prs (List.nodup_append.mp nd).1) (fun a h => .inr h) hp fun z u H3 hz s3 p3 => ?_
    obtain ⟨f, A3, st3, g3, o3⟩ := p3.fin st g2 nd dis s3
    exact q z ρ2 u H3 f ow2 A3 hz st3 g3 o3
  · exact hp.elim
theorem es_test {f : EF} (s : ESound K E ta f) : TESound K E (tTest ta) (eTest f) := by
  intro σ H A ρ ow Q P PX gd h q qx
  refine s σ H A ρ ow _ _ _ gd h (fun z ρ1 v H1 fp ow1 A1 h1 st1 g1 o1 => ?_) qx
  obtain ⟨k, d⟩ := z
  have r : RA K (fun _ => True) H1 d v := o1.rep.ra (fun _ _ => trivial) (fun _ _ => trivial)
  cases d <;> first
    | exact h1.elim
    | exact ⟨_, r, q _ ρ1 H1 ow1 A1 h1 (st1.sub fun a h => by simp [h]) g1⟩
variable {t u : TT} {f g : TEF}
theorem tes_and (s : TESound K E t f) (s' : TESound K E u g) : TESound K E (L2.tAnd t u) (teAnd f g) := by
  intro σ H A ρ ow Q P PX gd h q qx
  refine s σ H A ρ ow _ _ _ gd h (fun b ρ1 H1 ow1 A1 hb st1 g1 => ?_) qx
  cases b with
  | true => exact s' σ H1 A1 ρ1 ow1 _ _ _ g1 hb (fun b ρ2 H2 ow2 A2 hb st2 g2 => q b ρ2 H2 ow2 A2 hb (st1.trans st2) g2) (fun C ρ2 H2 ow2 A2 hb st2 g2 => qx C ρ2 H2 ow2 A2 hb (st1.trans st2) g2)
  | false => exact q false ρ1 H1 ow1 A1 hb st1 g1
theorem tes_or (s : TESound K E t f) (s' : TESound K E u g) : TESound K E (L2.tOr t u) (teOr f g) := by
  intro σ H A ρ ow Q P PX gd h q qx
  refine s σ H A ρ ow _ _ _ gd h (fun b ρ1 H1 ow1 A1 hb st1 g1 => ?_) qx
  cases b with
  | false => exact s' σ H1 A1 ρ1 ow1 _ _ _ g1 hb (fun b ρ2 H2 ow2 A2 hb st2 g2 => q b ρ2 H2 ow2 A2 hb (st1.trans st2) g2) (fun C ρ2 H2 ow2 A2 hb st2 g2 => qx C ρ2 H2 ow2 A2 hb (st1.trans st2) g2)
  | true => exact q true ρ1 H1 ow1 A1 hb st1 g1
theorem tes_not (s : TESound K E t f) : TESound K E (L2.tNot t) (teNot f) := by
  intro σ H A ρ ow Q P PX gd h q qx
  exact s σ H A ρ ow _ _ _ gd h (fun b ρ1 H1 ow1 A1 hb st1 g1 => q _ ρ1 H1 ow1 A1 hb st1 g1) qx
end
section
variable {X : Cx} {E : XK} {pos : Pos} {a b c e : Expr} {es : List Expr} {fa fb : EF} {n : Nat} {g : AEF}
theorem de_op {op : Operator} {r : R2} {o : KD → KD → (KD → Prop) → Prop} (ho : OpR X (binaryOp op) r) (hr : OpS X.K r o) (ha : DE X E a fa) (hb : DE X E b fb) : DE X E (.BinOp a op b pos) (eOp o fa fb) := by
  obtain ⟨ta, ea, sa⟩ := ha.run
  obtain ⟨tb, eb, sb⟩ := hb.run
  exact ⟨_, pe_op ho ea eb, es_op hr sa sb⟩
theorem de_un {op : UnaryOp} {r : V → Hp → VK → Prop} {o : KD → (KD → Prop) → Prop} (ho : UnR X (unaryOp op) r) (hr : UnS X.K r o) (ha : DE X E a fa) : DE X E (.UnaryOp op a pos) (eUn o fa) := by
  obtain ⟨ta, ea, sa⟩ := ha.run
  exact ⟨_, pe_un ho ea, es_un hr sa⟩
theorem de_cmp {op : CmpOp} {r : R2} {o : KD → KD → (KD → Prop) → Prop} (ho : OpR X (compareOp op) r) (hr : OpS X.K r o) (ha : DE X E a fa) (hb : DE X E b fb) (hm : behindInMarks op b = false) : DE X E (.Compare a [op] [b] pos) (eOp o fa fb) := by
  obtain ⟨ta, ea, sa⟩ := ha.run
  obtain ⟨tb, eb, sb⟩ := hb.run
  exact ⟨_, pe_cmpR ho ea eb hm, es_op hr sa sb⟩
theorem dte_cmp {op : CmpOp} {r : R2} {o : KD → KD → (KD → Prop) → Prop} (ho : OpR X (compareOp op) r) (hr : OpS X.K r o) (ha : DE X E a fa) (hb : DE X E b fb) (hm : behindInMarks op b = false) : DTE X E (.Compare a [op] [b] pos) (eTest (eOp o fa fb)) := by
  obtain ⟨ta, ea, sa⟩ := ha.run
  obtain ⟨tb, eb, sb⟩ := hb.run
  exact ⟨_, pt_cmpR ho ea eb hm, es_test (es_op hr sa sb)⟩
theorem dte_val (h : DE X E e fa) (he : ∀ whole, isTrue e X.env whole = (do let v ← whole; standAt e.pos; holding [v] (truthy v)) := by intro _; rfl) : DTE X E e (eTest fa) := by
  obtain ⟨t, pe, s⟩ := h.run
  exact ⟨_, pt_val pe he, es_test s⟩
structure DWE (X : Cx) (E : XK) (e : Expr) (f : TEF) : Prop where
  run : ∃ t, PW X e t ∧ TESound X.K E t f
variable {ta tb : TEF} {rest : List Expr}
theorem DWE.dt (h : DWE X E e ta) : DTE X E e ta := let ⟨t, a, b⟩ := h.run; ⟨t, a.pt, b⟩
theorem dwe_and1 (h : DTE X E a ta) : DWE X E (.BoolOp .And [a] pos) ta := let ⟨_, e, s⟩ := h.run; ⟨_, pw_and1 e, s⟩
theorem dwe_or1 (h : DTE X E a ta) : DWE X E (.BoolOp .Or [a] pos) ta := let ⟨_, e, s⟩ := h.run; ⟨_, pw_or1 e, s⟩
theorem dwe_and (h : DTE X E a ta) (h' : DWE X E (.BoolOp .And (b :: rest) pos) tb) : DWE X E (.BoolOp .And (a :: b :: rest) pos) (teAnd ta tb) := let ⟨_, e, s⟩ := h.run; let ⟨_, e', s'⟩ := h'.run; ⟨_, pw_and e e', tes_and s s'⟩
theorem dwe_or (h : DTE X E a ta) (h' : DWE X E (.BoolOp .Or (b :: rest) pos) tb) : DWE X E (.BoolOp .Or (a :: b :: rest) pos) (teOr ta tb) := let ⟨_, e, s⟩ := h.run; let ⟨_, e', s'⟩ := h'.run; ⟨_, pw_or e e', tes_or s s'⟩
theorem dte_not (h : DTE X E a ta) : DTE X E (.UnaryOp .Not a pos) (teNot ta) := let ⟨_, e, s⟩ := h.run; ⟨_, pt_not e, tes_not s⟩
theorem de_if (ht : DTE X E c ta) (h : DE X E a fa) (h' : DE X E b fb) : DE X E (.IfExp c a b pos) (eIf ta fa fb) := by
  obtain ⟨_, et, st⟩ := ht.run
  obtain ⟨_, e, s⟩ := h.run
  obtain ⟨_, e', s'⟩ := h'.run
  refine ⟨_, pe_ifExp et e e', fun σ H A ρ ow Q P PX gd h q qx => ?_⟩
  refine st σ H A ρ ow _ _ _ gd h (fun b ρ1 H1 ow1 A1 hb st1 g1 => ?_) qx
  cases b with
  | true => exact s σ H1 A1 ρ1 ow1 _ _ _ g1 hb (fun z ρ2 v H2 fp ow2 A2 hz st2 => q z ρ2 v H2 fp ow2 A2 hz (st1.trans st2)) (fun C ρ2 H2 ow2 A2 hb st2 => qx C ρ2 H2 ow2 A2 hb (st1.trans st2))
  | false => exact s' σ H1 A1 ρ1 ow1 _ _ _ g1 hb (fun z ρ2 v H2 fp ow2 A2 hz st2 => q z ρ2 v H2 fp ow2 A2 hz (st1.trans st2)) (fun C ρ2 H2 ow2 A2 hb st2 => qx C ρ2 H2 ow2 A2 hb (st1.trans st2))
theorem de_tup {k} (h : DAE X E es n g) (hn : n ≤ 1000 := by decide) : DE X E (.Tuple es k pos) (eTup g) := by
  obtain ⟨ta, ea, sa⟩ := h.run
  refine ⟨_, pe_tup ea, fun σ H A ρ ow Q P PX gd h q qx => ?_⟩
  refine sa σ H A ρ ow _ _ _ gd h (fun avs ρ2 vs H2 fp ow2 A2 hz hp st g2 rr nd dis => ⟨by rw [rr.len, hz, sizeLine_eq]; omega, fun p hp' => ?_⟩) qx
  split at hp
  · rename_i zs e
    have rz := (rr.vals e).prs (List.nodup_append.mp nd).1
    obtain ⟨f, A3, st3, g3, o3⟩ := (pr_tupJ rz hp').fin st g2 nd dis (same_upd hp')
    exact q _ ρ2 _ _ f ow2 A3 hp st3 g3 o3
  · exact hp.elim
theorem de_lst (h : DAE X E es n g) (hn : n ≤ 1000 := by decide) : DE X E (.List es pos) (eLst g) := by
  obtain ⟨ta, ea, sa⟩ := h.run
  refine ⟨_, pe_lst ea, fun σ H A ρ ow Q P PX gd h q qx => ?_⟩
  refine sa σ H A ρ ow _ _ _ gd h (fun avs ρ2 vs H2 fp ow2 A2 hz hp st g2 rr nd dis => ⟨by rw [rr.len, hz, sizeLine_eq]; omega, fun p hp' => ?_⟩) qx
  split at hp
  · rename_i zs e
    have rz := (rr.vals e).prs (List.nodup_append.mp nd).1
    obtain ⟨f, A3, st3, g3, o3⟩ := (pr_lstJ rz hp' (.inr hp')).fin st g2 nd dis (same_upd hp')
    exact q _ ρ2 _ _ f ow2 A3 hp st3 g3 o3
  · exact hp.elim
variable {r : List V → Hp → VK → Prop} {o : List KD → (KD → Prop) → Prop} {x : Str} {p : Pos}
theorem de_callB {id : String} (hc : CallR X (.builtin id) r) (hr : CallS X.K r o) (hg : Gl X x) (hm : X.mg x = none) (hv : bootBuiltins x = some (.builtin id)) (ha : DAE X E (e :: es) n g) (hn : x ≠ "__name__" := by decide) (hdb : (x == ("__debug__" : Str)) = false := by decide)
    (he : starEach (e :: es) X.env = (false, eval e X.env) :: starEach es X.env := by rfl) (hpl : (backTo pos (starEach es X.env)).any (·.1) = false := by rfl) : DE X E (.Call (.Name x p) (e :: es) [] pos) (eCallB o g) := by
  obtain ⟨t, ea, sa⟩ := ha.run
  exact ⟨_, pe_callB hc hg hm hv ea hn hdb he hpl, es_call hr sa⟩
theorem de_callTy {T : String} (hc : CallR X (.type T) r) (hr : CallS X.K r o) (hg : Gl X x) (hm : X.mg x = none) (hv : bootBuiltins x = some (.type T)) (ha : DAE X E (e :: es) n g) (hn : x ≠ "__name__" := by decide) (hdb : (x == ("__debug__" : Str)) = false := by decide)
    (he : starEach (e :: es) X.env = (false, eval e X.env) :: starEach es X.env := by rfl) (hpl : (backTo pos (starEach es X.env)).any (·.1) = false := by rfl) : DE X E (.Call (.Name x p) (e :: es) [] pos) (eCallB o g) := by
  obtain ⟨t, ea, sa⟩ := ha.run
  exact ⟨_, pe_callTy hc hg hm hv ea hn hdb he hpl, es_call hr sa⟩
/-- a[i] where i changes things, a a name -/
def eIxS (i : Nat) (f : EF) : EF := fun ρ P PX => (∃ kd, ρ[i]? = some (some kd)) ∧ f ρ (fun y ρ1 => match ρ1[i]? with
  | some (some (k, d)) => oIx (k.rdk, d) y fun z => (match z.1 with | .fl => P z ρ1 | _ => False)
  | _ => False) PX
theorem de_ixS (i : Nat) {x : Str} {p : Pos} {f : EF} (hb : DE X E b f) (hN : X.N[i]? = some x := by rfl) (hv : Vis X.env.scope x := by first | exact Or.inl rfl | exact Or.inr (Or.inl rfl) | exact Or.inr (Or.inr rfl)) (hd : (x == ("__debug__" : Str)) = false := by decide)
    (hcd : (x == ("__classdict__" : Str)) = false := by decide) (hs : PlainIx b := by exact fun _ _ => rfl) : DE X E (.Subscript (.Name x p) b pos) (eIxS i f) := by
  obtain ⟨tb, eb, sb⟩ := hb.run
  refine ⟨_, pe_ix ix_seq (pe_var hN hv hd hcd) eb hs, fun σ H A ρ ow Q P PX gd h q qx => ?_⟩
  obtain ⟨⟨kd, e⟩, h⟩ := h
  obtain ⟨v, f0, hv, _⟩ := gd.slot e
  refine ⟨v, hv, ?_⟩
  refine sb σ H A ρ ow _ _ _ gd h (fun y ρ1 w H1 fp ow1 A1 h1 st1 g1 o1 => ?_) qx
  split at h1
  · rename_i k d e1
    obtain ⟨v', f1, hv', r1, _, s1⟩ := g1.slot e1
    rw [hv] at hv'
    cases hv'
    have px : PR X.K (BB A1 (fp ++ ow1)) (fun a => a ∈ fp ∨ H1 a = none) H1 v (k.rdk, d) := (r1.rdk (F := fun a => a ∈ fp ∨ H1 a = none) (ow := fp ++ ow1) fun a h => by simp [s1 a h])
    have rz : VRs X.K A1 H1 [y] [w] fp := .one o1.rep
    obtain ⟨w', ew, py⟩ := (rz.prs (List.nodup_append.mp o1.nd).1).get1
    cases ew
    have py' : PR X.K (BB A1 (fp ++ ow1)) (fun a => a ∈ fp ∨ H1 a = none) H1 w y := py.mono (fun a h => .inl h) fun a h => h
    refine os_ix _ _ H1 v w _ y _ Q px py' (fun a h => .inr h) h1 fun z u H3 hz s3 p3 => ?_
    obtain ⟨k3, d3⟩ := z
    cases k3 <;> first
      | exact hz.elim
      | skip
    obtain ⟨f3, r3, _⟩ := p3
    obtain ⟨e3, r3⟩ := r3
    exact q _ ρ1 u H3 [] ow1 A1 hz ((st1.sub fun a h => by simp at h; simp [h]).trans (Stp.of_same s3)) (g1.same s3) ⟨⟨rfl, r3⟩, by simpa using g1.nd, fun a h => (nomatch h)⟩
  · exact h1.elim
end
end DL

/-! DL10: places, what is stored there, methods that change things -/
namespace DL
open PySem PySem.Spec PyProof.Rows L2

/-- in the slot i stands w for e, within what is one's own; rb puts another thing there -/
def PlAt (K : Frg) (A : Addr → Prop) (H : Hp) (ρ : Ro) (σ : L2.St) (ow : List Addr) (i : Nat) (k : Kd) (e : D) (rb : D → D) (w : V) : Prop :=
  ∃ d v0 g1 fs g2 fe, ow = g1 ++ (fs ++ g2) ∧ σ[i]? = some (some v0) ∧ Zip K No H d v0 fs rb e w fe ∧ (k = .sh → Shal K H e w ∧ rb = id ∧ w = v0) ∧
    ∀ (H' : Hp) (A' : Addr → Prop) (kd' : KD) (fs' : List Addr), (∀ a, A a → A' a) → KeepF A (g1 ++ g2) H H' → VR K A' H' kd' v0 fs' → RepS K A' H' (ρ.set i (some kd')) σ (g1 ++ (fs' ++ g2))
abbrev PLF := Ro → (Nat → Kd → D → (D → D) → Prop) → Prop
def PLSound (K : Frg) (t : TE) (pl : PLF) : Prop := ∀ (σ : L2.St) (H : Hp) (A : Addr → Prop) (ρ : Ro) (ow : List Addr) (Q : VK) (P : Nat → Kd → D → (D → D) → Prop), Good K A H ρ σ ow → pl ρ P →
  (∀ i k e rb v H', P i k e rb → Same H H' → PlAt K A H' ρ σ ow i k e rb v → Q v H') → t σ H Q
structure DPl (X : Cx) (e : Expr) (pl : PLF) : Prop where
  run : ∃ t, PE X e t ∧ PLSound X.K t pl
section
variable {K : Frg} {A : Addr → Prop} {H H' : Hp} {ρ : Ro} {σ : L2.St} {ow : List Addr} {i : Nat} {k : Kd} {e : D} {rb : D → D} {w : V}
theorem PlAt.same (s : Same H H') (p : PlAt K A H ρ σ ow i k e rb w) : PlAt K A H' ρ σ ow i k e rb w := by
  obtain ⟨d, v0, g1, fs, g2, fe, e1, e2, z, hs, put⟩ := p
  exact ⟨d, v0, g1, fs, g2, fe, e1, e2, z.keep (KeepF.of_same s), fun h => let ⟨a, b⟩ := hs h; ⟨a.same s, b⟩, fun H'' A' kd' fs' m kp r => put H'' A' kd' fs' m (keepF_trans (KeepF.of_same s) kp) r⟩
theorem PlAt.root {d : D} {kd : KD} (g : Good K A H ρ σ ow) (h : ρ[i]? = some (some kd)) (hk : kd.1 = .sh ∨ kd.1 = .ow) : ∃ v, σ[i]? = some (some v) ∧ PlAt K A H ρ σ ow i kd.1 kd.2 id v := by
  obtain ⟨x, f1, f2, f3, hx, e2, ⟨v, ev, r⟩, put⟩ := g.rep.split h
  subst ev
  refine ⟨v, hx, kd.2, v, f1, f2, f3, f2, e2, hx, ?_, fun e => ?_, fun H' A' kd' fs' m kp r' => ?_⟩
  · obtain ⟨k, d⟩ := kd
    rcases hk with rfl | rfl
    · exact Zip.root r.1
    · exact Zip.root r
  · obtain ⟨k, d⟩ := kd
    dsimp only at e
    subst e
    exact ⟨r.2, rfl, rfl⟩
  · have := put H' A' (some kd') (some v) fs' m kp ⟨v, rfl, r'⟩
    rwa [set_same hx] at this
/-- THE CHANGE of a place: e' stands there now -/
theorem PlAt.mut {fa : List Addr} (g : Good K A H ρ σ ow) (p : PlAt K A H ρ σ ow i k e rb w) (hnd : (fa ++ ow).Nodup) (hda : ∀ a ∈ fa, ¬ A a) :
    ∃ fe, R K No H e w fe ∧ (fa ++ fe).Nodup ∧ (∀ a ∈ fe, a ∈ ow) ∧ (k = .sh → Shal K H e w) ∧ ∀ (e' : D) (k' : Kd) (fz : List Addr) (z : KD) (zv : V) (H' : Hp) (fe' : List Addr), (∀ a o, H a = some o → a ∉ fe → H' a = some o) → R K No H' e' w fe' → (k' = .ow ∨ (k' = .sh ∧ k = .sh ∧ Shal K H' e' w)) → VR K A H' z zv fz → (fz ++ fe').Nodup →
      (∀ a ∈ fz ++ fe', a ∈ fe ∨ a ∈ fa ∨ H a = none) → ∃ ow', Stp H (fa ++ ow) A H' (fz ++ ow') A ∧ Good K A H' (ρ.set i (some (k', rb e'))) σ ow' ∧ Own K A H' z zv fz ow' := by
  obtain ⟨d, v0, g1, fs, g2, fe, e1, e2, ⟨f1, f2, ef, r, reb⟩, hs, put⟩ := p
  subst e1 ef
  have gnd := g.nd
  obtain ⟨n1, n2, n3⟩ := List.nodup_append.mp hnd
  refine ⟨fe, r, List.nodup_append.mpr ⟨n1, ?_, fun a ha b hb => n3 a ha b (by simp [hb])⟩, fun a h => by simp [h], fun h => (hs h).1, fun e' k' fz z zv H' fe' hk r' hk' rz nd' hsub => ?_⟩
  · have a1 := (List.nodup_append.mp (List.nodup_append.mp gnd).2.1).1
    exact (List.nodup_append.mp (List.nodup_append.mp a1).2.1).1
  -- the addresses beside fe
  have side : ∀ a, a ∈ g1 ∨ a ∈ f1 ∨ a ∈ f2 ∨ a ∈ g2 → a ∉ fe ∧ a ∉ fa ∧ ∃ o, H a = some o := fun a h => by
    have inow : a ∈ g1 ++ (f1 ++ (fe ++ f2) ++ g2) := by simp only [List.mem_append]; rcases h with h | h | h | h <;> simp [h]
    refine ⟨fun z => ?_, fun z => n3 a z a inow rfl, let ⟨o, e, _⟩ := g.rep.mu a inow; ⟨o, e⟩⟩
    have b1 := List.nodup_append.mp gnd
    have b2 := List.nodup_append.mp b1.2.1
    have b3 := List.nodup_append.mp b2.1
    have b4 := List.nodup_append.mp b3.2.1
    rcases h with h | h | h | h
    · exact b1.2.2 a h a (by simp [z]) rfl
    · exact b3.2.2 a h a (by simp [z]) rfl
    · exact b4.2.2 a z a h rfl
    · exact b2.2.2 a (by simp [z]) a h rfl
  have keepO : ∀ a o, H a = some o → (a ∈ g1 ∨ a ∈ f1 ∨ a ∈ f2 ∨ a ∈ g2 ∨ A a ∨ Imm o) → H' a = some o := fun a o e h => hk a o e fun z => by
    rcases h with h | h | h | h | h | h
    · exact (side a (.inl h)).1 z
    · exact (side a (.inr (.inl h))).1 z
    · exact (side a (.inr (.inr (.inl h)))).1 z
    · exact (side a (.inr (.inr (.inr h)))).1 z
    · exact g.dis a (by simp [z]) h
    · obtain ⟨u, e', m⟩ := R.mu _ _ _ r a z
      rw [e] at e'; cases e'
      exact m.notImm h
  have whole : R K No H' (rb e') v0 (f1 ++ (fe' ++ f2)) := reb H' No e' fe' (fun _ h => h) (fun a o e h => keepO a o e (by
    rcases h with h | h | h
    · rcases List.mem_append.mp h with h | h <;> simp [h]
    · exact h.elim
    · simp [h])) r'
  have vr : VR K A H' (k', rb e') v0 (f1 ++ (fe' ++ f2)) := by
    rcases hk' with rfl | ⟨rfl, hk1, hsh⟩
    · exact whole
    · obtain ⟨_, hrb, hw⟩ := hs hk1
      refine ⟨whole, ?_⟩
      rw [hrb, ← hw]
      exact hsh
  have rep := put H' A (k', rb e') _ (fun _ h => h) (fun a o e h => keepO a o e (by
    rcases h with h | h | h
    · rcases List.mem_append.mp h with h | h <;> simp [h]
    · simp [h]
    · simp [h])) vr
  have news : ∀ a, a ∈ fz ++ fe' → a ∉ g1 ∧ a ∉ f1 ∧ a ∉ f2 ∧ a ∉ g2 := fun a h => by
    have key : ¬ (a ∈ g1 ∨ a ∈ f1 ∨ a ∈ f2 ∨ a ∈ g2) := fun z => by
      obtain ⟨s1, s2, o, s3⟩ := side a z
      rcases hsub a h with y | y | y
      · exact s1 y
      · exact s2 y
      · rw [s3] at y; cases y
    exact ⟨fun z => key (.inl z), fun z => key (.inr (.inl z)), fun z => key (.inr (.inr (.inl z))), fun z => key (.inr (.inr (.inr z)))⟩
  have nA : ∀ a, a ∈ fz ++ fe' → ¬ A a := fun a h z => by
    rcases hsub a h with y | y | y
    · exact g.dis a (by simp [y]) z
    · exact hda a y z
    · obtain ⟨o, e⟩ := g.tr a z
      rw [y] at e; cases e
  have ndow : (g1 ++ (f1 ++ (fe' ++ f2) ++ g2)).Nodup := by
    have b1 := List.nodup_append.mp gnd
    have b2 := List.nodup_append.mp b1.2.1
    have b3 := List.nodup_append.mp b2.1
    have b4 := List.nodup_append.mp b3.2.1
    have c := List.nodup_append.mp nd'
    refine List.nodup_append.mpr ⟨b1.1, List.nodup_append.mpr ⟨List.nodup_append.mpr ⟨b3.1, List.nodup_append.mpr ⟨c.2.1, b4.2.1, fun a ha b hb e => ?_⟩, fun a ha b hb e => ?_⟩, b2.2.1, fun a ha b hb e => ?_⟩, fun a ha b hb e => ?_⟩
    · subst e; exact (news a (by simp [ha])).2.2.1 hb
    · subst e
      rcases List.mem_append.mp hb with hb | hb
      · exact (news a (by simp [hb])).2.1 ha
      · exact b3.2.2 a ha a (by simp [hb]) rfl
    · subst e
      rcases List.mem_append.mp ha with ha | ha
      · exact b2.2.2 a (by simp [ha]) a hb rfl
      · rcases List.mem_append.mp ha with ha | ha
        · exact (news a (by simp [ha])).2.2.2 hb
        · exact b2.2.2 a (by simp [ha]) a hb rfl
    · subst e
      rcases List.mem_append.mp hb with hb | hb
      · rcases List.mem_append.mp hb with hb | hb
        · exact b1.2.2 a ha a (by simp [hb]) rfl
        · rcases List.mem_append.mp hb with hb | hb
          · exact (news a (by simp [hb])).1 ha
          · exact b1.2.2 a ha a (by simp [hb]) rfl
      · exact b1.2.2 a ha a (by simp [hb]) rfl
  have mem : ∀ a, a ∈ g1 ++ (f1 ++ (fe' ++ f2) ++ g2) → a ∈ fe' ∨ (a ∈ g1 ∨ a ∈ f1 ∨ a ∈ f2 ∨ a ∈ g2) := fun a h => by
    simp only [List.mem_append] at h
    rcases h with h | (h | h | h) | h <;> simp [h]
  refine ⟨g1 ++ (f1 ++ (fe' ++ f2) ++ g2), ⟨fun a o e n => hk a o e fun z => n (by simp [z]), fun a h => ?_, fun _ h => h, fun _ h => .inl h⟩, ⟨rep, ndow, fun a h z => ?_, fun a h => ?_⟩, ⟨rz, List.nodup_append.mpr ⟨(List.nodup_append.mp nd').1, ndow, fun a ha b hb e => ?_⟩, fun a h => nA a (by simp [h])⟩⟩
  · have : a ∈ fz ++ fe' ∨ (a ∈ g1 ∨ a ∈ f1 ∨ a ∈ f2 ∨ a ∈ g2) := by
      rcases List.mem_append.mp h with h | h
      · exact .inl (by simp [h])
      · rcases mem a h with h | h
        · exact .inl (by simp [h])
        · exact .inr h
    rcases this with h | h
    · rcases hsub a h with y | y | y
      · exact .inl (by simp [y])
      · exact .inl (by simp [y])
      · exact .inr y
    · exact .inl (by simp only [List.mem_append]; rcases h with h | h | h | h <;> simp [h])
  · rcases mem a h with h | h
    · exact nA a (by simp [h]) z
    · exact g.dis a (by simp only [List.mem_append]; rcases h with h | h | h | h <;> simp [h]) z
  · obtain ⟨o, e⟩ := g.tr a h
    exact ⟨o, keepO a o e (by simp [h])⟩
  · subst e
    rcases mem a hb with y | y
    · exact (List.nodup_append.mp nd').2.2 a ha a y rfl
    · obtain ⟨s1, s2, s3, s4⟩ := news a (by simp [ha])
      rcases y with y | y | y | y
      · exact s1 y
      · exact s2 y
      · exact s3 y
      · exact s4 y
end
/-! ### the places -/
def plVar (i : Nat) : PLF := fun ρ P => match ρ[i]? with
  | some (some (k, d)) => (match k with
    | .sh => P i .sh d id
    | .ow => P i .ow d id
    | _ => False)
  | _ => False
def plIx (pl : PLF) (f : PF) : PLF := fun ρ P => pl ρ fun i k e rb => f ρ fun y => match e, y.2 with
  | .lst ds, .int j => (match ixN ds.length j with
    | some n => (match ds[n]? with | some c => P i .ow c (fun c' => rb (.lst (ds.set n c'))) | none => False)
    | none => False)
  | .tup ds, .int j => (match ixN ds.length j with
    | some n => (match ds[n]? with | some c => P i .ow c (fun c' => rb (.tup (ds.set n c'))) | none => False)
    | none => False)
  | _, _ => False
section
variable {X : Cx} {pos : Pos}
theorem dpl_var (i : Nat) {x : Str} (hN : X.N[i]? = some x := by rfl) (hv : Vis X.env.scope x := by first | exact Or.inl rfl | exact Or.inr (Or.inl rfl) | exact Or.inr (Or.inr rfl)) (hd : (x == ("__debug__" : Str)) = false := by decide)
    (hcd : (x == ("__classdict__" : Str)) = false := by decide) : DPl X (.Name x pos) (plVar i) := by
  refine ⟨_, pe_var hN hv hd hcd, fun σ H A ρ ow Q P g h q => ?_⟩
  unfold plVar at h
  cases e : ρ[i]? with
  | none => rw [e] at h; exact h.elim
  | some s =>
    rw [e] at h
    cases s with
    | none => exact h.elim
    | some kd =>
      obtain ⟨k, d⟩ := kd
      cases k with
      | sh =>
        obtain ⟨v, hv, p⟩ := PlAt.root (d := d) g e (.inl rfl)
        exact ⟨v, hv, q _ _ _ _ v H h (Same.refl H) p⟩
      | ow =>
        obtain ⟨v, hv, p⟩ := PlAt.root (d := d) g e (.inr rfl)
        exact ⟨v, hv, q _ _ _ _ v H h (Same.refl H) p⟩
      | _ => exact h.elim
theorem dpl_ix {a b : Expr} {pl : PLF} {f : PF} (ha : DPl X a pl) (hb : DP X b f) (hs : PlainIx b := by exact fun _ _ => rfl) : DPl X (.Subscript a b pos) (plIx pl f) := by
  obtain ⟨ta, ea, sa⟩ := ha.run
  obtain ⟨tb, eb, sb⟩ := hb.run
  refine ⟨_, pe_ix ix_seq ea eb hs, fun σ H A ρ ow Q P g h q => ?_⟩
  refine sa σ H A ρ ow _ _ g h fun i k e rb v H1 h1 s1 p1 => ?_
  refine sb σ H1 A ρ ow _ _ (g.same s1) h1 fun y w H2 h2 s2 p2 => ?_
  have p3 := p1.same s2
  obtain ⟨ky, dy⟩ := y
  have ry := p2.ra
  obtain ⟨d, v0, g1, fs, g2, fe, e1, e2, z, hsh, put⟩ := p3
  split at h2
  · rename_i ds j q1
    dsimp only at q1
    subst q1
    obtain rfl : w = .int j := ry
    split at h2
    · rename_i n hn
      split at h2
      · rename_i c hc
        obtain ⟨p, vs, w', fc, ev, hp, hl, hw, z'⟩ := z.step_lst hc
        subst ev
        refine .inl ⟨p, vs, j, w', rfl, rfl, .of hp, ?_, q i .ow c _ w' H2 h2 (s1.trans s2) ⟨d, v0, g1, fs, g2, fc, e1, e2, z', (fun h => nomatch h), put⟩⟩
        unfold L2.atI
        rw [hl, hn]
        exact hw
      · exact h2.elim
    · exact h2.elim
  · rename_i ds j q1
    dsimp only at q1
    subst q1
    obtain rfl : w = .int j := ry
    split at h2
    · rename_i n hn
      split at h2
      · rename_i c hc
        obtain ⟨p, vs, w', fc, ev, hp, hl, hw, z'⟩ := z.step_tup hc
        subst ev
        refine .inr (.inl ⟨p, vs, j, w', rfl, rfl, hp, ?_, q i .ow c _ w' H2 h2 (s1.trans s2) ⟨d, v0, g1, fs, g2, fc, e1, e2, z', (fun h => nomatch h), put⟩⟩)
        unfold L2.atI
        rw [hl, hn]
        exact hw
      · exact h2.elim
    · exact h2.elim
  · exact h2.elim
end
/-! ### a[i] = v -/
/-- the kind behind a store of a thing of kind z -/
def nk (k z : Kd) : Kd := match k, z with
  | .sh, .fl => .sh
  | _, _ => .ow
def ownK : Kd → Bool
  | .fl => true
  | .sh => true
  | .ow => true
  | _ => false
/-- by values: what a store makes of e -/
def stIx (e : D) (y z : KD) (k : Kd) (P : Kd → D → Prop) : Prop := ownK z.1 = true ∧ match e, y.2 with
  | .lst ds, .int j => (match ixN ds.length j with
    | some n => P (nk k z.1) (.lst (ds.set n z.2))
    | none => False)
  | _, _ => False
/-- the value first, then place and index -/
def sStIx (fe : EF) (pl : PLF) (fi : PF) : SF := fun D ρ => fe ρ (fun z ρ1 => pl ρ1 fun i k e rb => fi ρ1 fun y => stIx e y z k fun k' e' => D.nx (ρ1.set i (some (k', rb e')))) D.ex
section
variable {K : Frg} {A : Addr → Prop} {H : Hp}
theorem VR.rown {z : KD} {v : V} {f : List Addr} (h : VR K A H z v f) (hk : ownK z.1 = true) : R K No H z.2 v f := by
  obtain ⟨k, d⟩ := z
  cases k with
  | fl => exact h.r (.inl rfl)
  | sh => exact h.r (.inr (.inl rfl))
  | ow => exact h.r (.inr (.inr rfl))
  | _ => cases hk
theorem KeepF.upd {p : Addr} {o : HO} {fp : List Addr} {B : Addr → Prop} (hp : p ∉ fp) (hB : ¬ B p) (hi : ∀ u, H p = some u → ¬ Imm u) : KeepF B fp H (upd H p o) := fun a u e h => by
  rw [upd_ne]
  · exact e
  · intro z
    subst z
    rcases h with h | h | h
    · exact hp h
    · exact hB h
    · exact hi u e h
theorem ixN_lt {n : Nat} {j : Int} {m : Nat} (h : ixN n j = some m) : m < n := (ixN_seq h).2.1
/-- a list item is put -/
theorem list_set {ds : List D} {w : V} {fe fa : List Addr} {n : Nat} {z : D} {zv : V} (r : R K No H (.lst ds) w fe) (rz : R K No H z zv fa) (nd : (fa ++ fe).Nodup) (hn : n < ds.length) :
    ∃ p vs fe', w = .ref p ∧ H p = some (.lst vs) ∧ vs.length = ds.length ∧ p ∈ fe ∧ R K No (upd H p (.lst (vs.set n zv))) (.lst (ds.set n z)) w fe' ∧ fe'.Nodup ∧ (∀ a ∈ fe', a ∈ fe ∨ a ∈ fa) := by
  obtain ⟨p, vs, fps, rfl, rfl, hp, rs⟩ := r
  have hd : ds[n]? = some ds[n] := List.getElem?_eq_getElem hn
  obtain ⟨w0, h1, ho, h3, hw, e3, r1, r2, r3⟩ := Rs.split rs hd
  subst e3
  obtain ⟨n1, n2, n3⟩ := List.nodup_append.mp nd
  obtain ⟨m1, m2⟩ := List.nodup_cons.mp n2
  have nf : p ∉ fa := fun q => n3 p q p (by simp) rfl
  have mu : ∀ u, H p = some u → ¬ Imm u := fun u e => by rw [hp] at e; cases e; exact fun z => z
  have np : p ∉ h1 ∧ p ∉ ho ∧ p ∉ h3 := by
    simp only [List.mem_append, not_or] at m1
    exact m1
  refine ⟨p, vs, p :: (h1 ++ (fa ++ h3)), rfl, hp, rs.len, by simp, ⟨p, vs.set n zv, _, rfl, rfl, upd_same, Rs.put hd hw (Rs.keep _ _ _ (KeepF.upd np.1 (fun z => z) mu) r1) (R.keep _ _ _ (KeepF.upd nf (fun z => z) mu) rz) (Rs.keep _ _ _ (KeepF.upd np.2.2 (fun z => z) mu) r3)⟩, ?_, fun a h => ?_⟩
  · obtain ⟨k1, k2, k3⟩ := List.nodup_append.mp m2
    obtain ⟨l1, l2, l3⟩ := List.nodup_append.mp k2
    refine List.nodup_cons.mpr ⟨by simp [np.1, nf, np.2.2], List.nodup_append.mpr ⟨k1, List.nodup_append.mpr ⟨n1, l2, fun a ha b hb => n3 a ha b (by simp [hb])⟩, fun a ha b hb e => ?_⟩⟩
    subst e
    rcases List.mem_append.mp hb with hb | hb
    · exact n3 a hb a (by simp [ha]) rfl
    · exact k3 a ha a (by simp [hb]) rfl
  · simp only [List.mem_cons, List.mem_append] at h ⊢
    rcases h with h | h | h | h <;> simp [h]
theorem shal_set {ds : List D} {p : Addr} {vs : List V} {n : Nat} {z : D} {zv : V} (h : Shal K H (.lst ds) (.ref p)) (hp : H p = some (.lst vs)) (rz : RA K No H z zv) : Shal K (upd H p (.lst (vs.set n zv))) (.lst (ds.set n z)) (.ref p) := by
  obtain ⟨p', vs', e, hp', r⟩ := h
  cases e
  rw [hp] at hp'; cases hp'
  refine ⟨p, _, rfl, upd_same, RAs.keep (fun a u e h => ?_) _ _ (r.set rz)⟩
  rw [upd_ne]
  · exact e
  · intro z
    subst z
    rcases h with h | h
    · exact h
    · rw [hp] at e; cases e; exact h
end
section
variable {X : Cx} {E : XK} {pr : List Nat} {pos : Pos}
theorem ds_stIx {o ix e : Expr} {p2 : Pos} {fe : EF} {pl : PLF} {fi : PF} (he : DE X E e fe) (ho : DPl X o pl) (hi : DP X ix fi) (hs : swapsWithSole [.Subscript o ix p2] e pos.line X.env = pure false := by rfl) (hw : swappedStores [.Subscript o ix p2] e X.env = pure none := by rfl)
    (h1 : (assignEach [.Subscript o ix p2] X.env).map (·.2) = [assign (.Subscript o ix p2) X.env] := by rfl) (hg : ∀ v, assign (.Subscript o ix p2) X.env v = (do
      let ov ← holding [v] (eval o X.env)
      let iv ← holding [v, ov] (eval ix X.env)
      standAt p2
      holding [v, ov, iv] (setItem ov iv v)
      release [v, ov, iv] []) := by intro _; rfl) : DS X E pr (.Assign [.Subscript o ix p2] e pos) (sStIx fe pl fi) := by
  obtain ⟨te, ee, se⟩ := he.run
  obtain ⟨to, eo, so⟩ := ho.run
  obtain ⟨ti, ei, si⟩ := hi.run
  refine ⟨_, ps_asg ee (pg_sub eo ei set_list hg) hs hw h1, fun σ H A ρ ow T D gd h nx rt ex => ?_⟩
  refine se σ H A ρ ow _ _ _ gd h (fun z ρ1 v H1 fp ow1 A1 h1 st1 g1 o1 => ?_) fun C ρ1 H1 ow1 A1 h1 st1 g1 => ex C ρ1 σ H1 ow1 A1 h1 st1 g1 fun _ _ => rfl
  refine so σ H1 A1 ρ1 ow1 _ _ g1 h1 fun i k e rb w H2 h2 s2 p2 => ?_
  refine si σ H2 A1 ρ1 ow1 _ _ (g1.same s2) h2 fun y yv H3 h3 s3 p3 => ?_
  have s := s2.trans s3
  obtain ⟨hk, h3⟩ := h3
  split at h3
  · rename_i ds j q1
    obtain ⟨ky, dy⟩ := y
    dsimp only at q1
    subst q1
    obtain rfl : yv = .int j := p3.ra
    split at h3
    · rename_i n hn
      have o3 : VR X.K A1 H3 z v fp := o1.rep.same s
      obtain ⟨fe0, r, nd, _, hsh, mtt⟩ := (p2.same s3).mut (g1.same s) o1.nd o1.dis
      obtain ⟨p, vs, fe', ew, hp, hl, hpf, r', nd', sub⟩ := list_set r (o3.rown hk) nd (ixN_lt hn)
      subst ew
      have hk' : nk k z.1 = .ow ∨ (nk k z.1 = .sh ∧ k = .sh ∧ Shal X.K (upd H3 p (.lst (vs.set n v))) (.lst (ds.set n z.2)) (.ref p)) := by
        obtain ⟨kz, dz⟩ := z
        cases k <;> cases kz <;> first
          | exact .inl rfl
          | exact .inr ⟨rfl, rfl, shal_set (hsh rfl) hp o3.2⟩
      obtain ⟨ow', st', g', _⟩ := mtt (.lst (ds.set n z.2)) (nk k z.1) [] (.fl, .non) .non _ fe' (fun a o e n => by rw [upd_ne (fun z => n (by rw [z]; exact hpf))]; exact e) r' hk' ⟨rfl, rfl⟩ nd' fun a h => (sub a (by simpa using h)).elim .inl fun z => .inr (.inl z)
      refine ⟨p, vs, j, n, rfl, rfl, hp, by rw [hl]; exact hn, ?_⟩
      refine nx _ σ _ ow' A1 h3 ?_ g' fun _ _ => rfl
      have stA : Stp H ow A H3 (fp ++ ow1) A1 := (st1.trans (Stp.of_same s))
      exact stA.trans (st'.sub fun a h => by simp [h])
    · exact h3.elim
  · exact h3.elim
end

/-! ### methods that change a list -/
/-- by values: what a method makes of e -/
abbrev MOF := Kd → D → List KD → (KD → Kd → D → Prop) → Prop
def MSound (K : Frg) (r : V → List V → Hp → VK → Prop) (op : MOF) : Prop := ∀ (H : Hp) (A : Addr → Prop) (w : V) (vs : List V) (zs : List KD) (k : Kd) (e : D) (fe fa : List Addr) (P : KD → Kd → D → Prop) (Q : VK), R K No H e w fe → (k = .sh → Shal K H e w) → VRs K A H zs vs fa → (fa ++ fe).Nodup → op k e zs P →
  (∀ z k' e' v H' fz fe', P z k' e' → ownK z.1 = true → (∀ a o, H a = some o → a ∉ fe → H' a = some o) → R K No H' e' w fe' → (k' = .ow ∨ (k' = .sh ∧ k = .sh ∧ Shal K H' e' w)) → VR K A H' z v fz → (fz ++ fe').Nodup → (∀ a ∈ fz ++ fe', a ∈ fe ∨ a ∈ fa ∨ H a = none) → Q v H') → r w vs H Q
def mAppend : MOF := fun k e zs P => match e, zs with
  | .lst ds, [z] => ownK z.1 = true ∧ ds.length < 10000000 ∧ P (.fl, .non) (nk k z.1) (.lst (ds ++ [z.2]))
  | _, _ => False
def mPop : MOF := fun k e zs P => match e, zs with
  | .lst ds, [] => (match ds.getLast? with
    | some d => P (kmv (if k = .sh then .fl else .ow) d) (nk k .fl) (.lst ds.dropLast)
    | none => False)
  | _, _ => False
def mPopAt : MOF := fun k e zs P => match e, zs with
  | .lst ds, [(_, .int j)] => (match ixN ds.length j with
    | some n => (match ds[n]? with
      | some d => P (kmv (if k = .sh then .fl else .ow) d) (nk k .fl) (.lst (ds.eraseIdx n))
      | none => False)
    | none => False)
  | _, _ => False
def mClear : MOF := fun k e zs P => match e, zs with
  | .lst _, [] => P (.fl, .non) (nk k .fl) (.lst [])
  | _, _ => False
def mExtend : MOF := fun k e zs P => match e, zs with
  | .lst ds, [(kz, .lst es)] => (kz = .sh ∨ kz = .sa ∨ kz = .ow) ∧ ds.length + es.length ≤ 10000000 ∧ P (.fl, .non) (nk k (if kz = .ow then .ow else .fl)) (.lst (ds ++ es))
  | _, _ => False
end DL

/-! DL11: methods that change a list -/
namespace DL
open PySem PySem.Spec PyProof.Rows L2
section
variable {K : Frg} {A : Addr → Prop} {H : Hp}
theorem lst_mu {p : Addr} {vs : List V} (hp : H p = some (.lst vs)) : ∀ u, H p = some u → ¬ Imm u := fun u e => by rw [hp] at e; cases e; exact fun z => z
theorem upd_out {p : Addr} {o : HO} {fe : List Addr} (hp : p ∈ fe) : ∀ a u, H a = some u → a ∉ fe → (upd H p o) a = some u := fun a u e n => by
  rw [upd_ne (fun z => n (by rw [z]; exact hp))]
  exact e
theorem keep_upd {p : Addr} {vs : List V} {o : HO} (hp : H p = some (.lst vs)) : Keep No H (upd H p o) := fun a u e h => by
  rw [upd_ne]
  · exact e
  · intro z
    subst z
    rcases h with h | h
    · exact h
    · rw [hp] at e; cases e; exact h
theorem shal_upd {p : Addr} {vs ws : List V} {ds : List D} (hp : H p = some (.lst vs)) (r : RAs K No H ds ws) : Shal K (upd H p (.lst ws)) (.lst ds) (.ref p) := ⟨p, ws, rfl, upd_same, RAs.keep (keep_upd hp) _ _ r⟩
theorem shal_at {p : Addr} {vs : List V} {ds : List D} (h : Shal K H (.lst ds) (.ref p)) (hp : H p = some (.lst vs)) : RAs K No H ds vs := by
  obtain ⟨p', vs', e, hp', r⟩ := h
  cases e
  rw [hp] at hp'; cases hp'
  exact r
theorem nk_cases (k z : Kd) : nk k z = .ow ∨ (nk k z = .sh ∧ k = .sh ∧ z = .fl) := by cases k <;> cases z <;> first | exact .inl rfl | exact .inr ⟨rfl, rfl, rfl⟩
theorem kmv_own (k : Kd) (d : D) : ownK (kmv (if k = .sh then .fl else .ow) d).1 = true := by
  by_cases h : k = .sh
  · rw [if_pos h]; cases d <;> rfl
  · rw [if_neg h]; cases d <;> rfl
theorem ms_append : MSound K rAppend mAppend := by
  intro H A w vs zs k e fe fa P Q r hsh rz nd h q
  unfold mAppend at h
  split at h
  · rename_i ds z
    obtain ⟨hk, hl, hP⟩ := h
    obtain ⟨p, xs, fps, rfl, rfl, hp, rs⟩ := r
    obtain ⟨y, ws, f1, f2, rfl, rfl, hz, e3, e4⟩ := rz
    subst e3 e4
    rw [List.append_nil] at nd
    obtain ⟨n1, n2, n3⟩ := List.nodup_append.mp nd
    obtain ⟨m1, m2⟩ := List.nodup_cons.mp n2
    have nf : p ∉ f1 := fun z => n3 p z p (by simp) rfl
    refine ⟨p, xs, y, rfl, rfl, hp, by rw [rs.len, sizeLine_eq]; omega, ?_⟩
    refine q _ _ _ .non _ [] (p :: (fps ++ f1)) hP rfl (upd_out (by simp)) ⟨p, _, _, rfl, rfl, upd_same, (Rs.keep _ _ _ (KeepF.upd m1 (fun z => z) (lst_mu hp)) rs).append (.one (R.keep _ _ _ (KeepF.upd nf (fun z => z) (lst_mu hp)) (hz.rown hk)))⟩ ?_ ⟨rfl, rfl⟩ ?_ fun a h => ?_
    · rcases nk_cases k z.1 with e | ⟨e1, e2, e3⟩
      · exact .inl e
      · obtain ⟨kz, dz⟩ := z
        dsimp only at e3
        subst e3
        exact .inr ⟨e1, e2, shal_upd hp ((shal_at (hsh e2) hp).append (.one hz.2))⟩
    · refine List.nodup_cons.mpr ⟨by simp [m1, nf], List.nodup_append.mpr ⟨m2, n1, fun a ha b hb e => n3 b hb a (by simp [ha]) e.symm⟩⟩
    · simp only [List.nil_append, List.append_nil, List.mem_cons, List.mem_append] at h ⊢
      rcases h with h | h | h <;> simp [h]
  · exact h.elim
theorem ms_clear : MSound K rClear mClear := by
  intro H A w vs zs k e fe fa P Q r hsh rz nd h q
  unfold mClear at h
  split at h
  · rename_i ds
    obtain ⟨p, xs, fps, rfl, rfl, hp, rs⟩ := r
    obtain ⟨e3, e4⟩ := rz
    subst e3 e4
    refine ⟨p, xs, rfl, rfl, hp, ?_⟩
    refine q _ _ _ .non _ [] [p] h rfl (upd_out (by simp)) ⟨p, [], [], rfl, rfl, upd_same, .nil⟩ ?_ ⟨rfl, rfl⟩ (by simp) fun a h => .inl (by simp at h; simp [h])
    rcases nk_cases k .fl with e | ⟨e1, e2, e3⟩
    · exact .inl e
    · exact .inr ⟨e1, e2, shal_upd hp .nil⟩
  · exact h.elim
/-- one item taken out -/
theorem take_out {ds : List D} {p : Addr} {xs : List V} {fps : List Addr} {k : Kd} {n : Nat} {d : D} (hp : H p = some (.lst xs)) (rs : Rs K No H ds xs fps) (nd : (p :: fps).Nodup) (hsh : k = .sh → Shal K H (.lst ds) (.ref p)) (hk : k = .sh ∨ k = .ow) (hd : ds[n]? = some d) :
    ∃ y fz fps', xs[n]? = some y ∧ VR K A (upd H p (.lst (xs.eraseIdx n))) (kmv (if k = .sh then .fl else .ow) d) y fz ∧ R K No (upd H p (.lst (xs.eraseIdx n))) (.lst (ds.eraseIdx n)) (.ref p) (p :: fps') ∧
      (nk k .fl = .ow ∨ (nk k .fl = .sh ∧ k = .sh ∧ Shal K (upd H p (.lst (xs.eraseIdx n))) (.lst (ds.eraseIdx n)) (.ref p))) ∧ (fz ++ (p :: fps')).Nodup ∧ ∀ a ∈ fz ++ (p :: fps'), a ∈ p :: fps := by
  obtain ⟨y, f1, f2, f3, hy, e, r1, r2, r3⟩ := Rs.split rs hd
  subst e
  obtain ⟨m1, m2⟩ := List.nodup_cons.mp nd
  simp only [List.mem_append, not_or] at m1
  have kp : ∀ {f : List Addr}, p ∉ f → KeepF No f H (upd H p (.lst (xs.eraseIdx n))) := fun h => KeepF.upd h (fun z => z) (lst_mu hp)
  obtain ⟨k1, k2, k3⟩ := List.nodup_append.mp m2
  obtain ⟨l1, l2, l3⟩ := List.nodup_append.mp k2
  refine ⟨y, f2, f1 ++ f3, hy, ?_, ⟨p, _, _, rfl, rfl, upd_same, ?_⟩, ?_, ?_, fun a h => ?_⟩
  · rcases hk with rfl | rfl
    · obtain ⟨y', hy', ry⟩ := (shal_at (hsh rfl) hp).get hd
      rw [hy] at hy'; cases hy'
      have e2 : f2 = [] := R.nil0 _ _ _ ry r2
      subst e2
      exact (RA.keep (keep_upd hp) _ _ ry).kmv0
    · exact (R.keep _ _ _ (kp m1.2.1) r2).kmv
  · rw [List.eraseIdx_eq_take_drop_succ, List.eraseIdx_eq_take_drop_succ]
    have q1 := Rs.keep _ _ _ (kp m1.1) r1
    have q3 := Rs.keep _ _ _ (kp m1.2.2) r3
    rw [List.eraseIdx_eq_take_drop_succ] at q1 q3
    exact q1.append q3
  · rcases nk_cases k .fl with e | ⟨e1, e2, e3⟩
    · exact .inl e
    · exact .inr ⟨e1, e2, shal_upd hp ((shal_at (hsh e2) hp).eraseIdx n)⟩
  · refine List.nodup_append.mpr ⟨l1, List.nodup_cons.mpr ⟨by simp [m1.1, m1.2.2], List.nodup_append.mpr ⟨k1, l2, fun a ha b hb => k3 a ha b (by simp [hb])⟩⟩, fun a ha b hb e => ?_⟩
    subst e
    rcases List.mem_cons.mp hb with hb | hb
    · rw [hb] at ha; exact m1.2.1 ha
    · rcases List.mem_append.mp hb with hb | hb
      · exact k3 a hb a (by simp [ha]) rfl
      · exact l3 a ha a hb rfl
  · simp only [List.mem_append, List.mem_cons] at h ⊢
    rcases h with h | h | h | h <;> simp [h]
theorem ms_popAt : MSound K rPopAt (fun k e zs P => (k = .sh ∨ k = .ow) ∧ (match e with | .lst ds => ds.length ≤ 10000000 | _ => False) ∧ mPopAt k e zs P) := by
  intro H A w vs zs k e fe fa P Q r hsh rz nd h q
  obtain ⟨hk, hl, h⟩ := h
  unfold mPopAt at h
  split at h
  · rename_i ds _ j
    split at h
    · rename_i n hn
      split at h
      · rename_i d hd
        obtain ⟨p, xs, fps, rfl, rfl, hp, rs⟩ := r
        obtain ⟨y, ws, f1, f2, rfl, rfl, hz, e3, e4⟩ := rz
        subst e3 e4
        have hy : y = .int j := hz.ra (B := fun _ => True) (fun _ _ => trivial) (fun _ _ => trivial)
        subst hy
        obtain ⟨n1, n2, n3⟩ := List.nodup_append.mp nd
        obtain ⟨y, fz, fps', hy, v1, r1, s1, nd1, sub⟩ := take_out (A := A) hp rs n2 hsh hk hd
        obtain ⟨q1, q2, q3, q4⟩ := ixN_seq hn
        have hl' : ds.length ≤ 10000000 := hl
        refine ⟨p, xs, j, n, y, rfl, rfl, hp, by omega, by omega, by rw [rs.len]; exact q1, hy, ?_⟩
        exact q _ _ _ y _ fz _ h (kmv_own k d) (upd_out (by simp)) r1 s1 v1 nd1 fun a h => .inl (sub a h)
      · exact h.elim
    · exact h.elim
  · exact h.elim
theorem eraseIdx_last {α : Type} (l : List α) : l.eraseIdx (l.length - 1) = l.dropLast := by
  rw [List.eraseIdx_eq_take_drop_succ, List.dropLast_eq_take]
  cases l with
  | nil => rfl
  | cons a r => simp
theorem ms_pop : MSound K rPop (fun k e zs P => (k = .sh ∨ k = .ow) ∧ mPop k e zs P) := by
  intro H A w vs zs k e fe fa P Q r hsh rz nd h q
  obtain ⟨hk, h⟩ := h
  unfold mPop at h
  split at h
  · rename_i ds
    split at h
    · rename_i d hd
      obtain ⟨p, xs, fps, rfl, rfl, hp, rs⟩ := r
      obtain ⟨e3, e4⟩ := rz
      subst e3 e4
      rw [List.getLast?_eq_getElem?] at hd
      rw [List.nil_append] at nd
      obtain ⟨y, fz, fps', hy, v1, r1, s1, nd1, sub⟩ := take_out (A := A) hp rs nd hsh hk hd
      rw [eraseIdx_last] at r1 s1
      rw [← rs.len, eraseIdx_last] at r1 s1 v1
      refine ⟨p, xs, y, rfl, rfl, hp, by rw [rs.len]; exact hy, ?_⟩
      exact q _ _ _ y _ fz _ h (kmv_own k d) (upd_out (by simp)) r1 s1 v1 nd1 fun a h => .inl (sub a h)
    · exact h.elim
  · exact h.elim
theorem ms_extend : MSound K rExtend mExtend := by
  intro H A w vs zs k e fe fa P Q r hsh rz nd h q
  unfold mExtend at h
  split at h
  · rename_i ds kz es
    obtain ⟨hk, hl, hP⟩ := h
    obtain ⟨p, xs, fps, rfl, rfl, hp, rs⟩ := r
    obtain ⟨y, ws, f1, f2, rfl, rfl, hz, e3, e4⟩ := rz
    subst e3 e4
    rw [List.append_nil] at nd
    obtain ⟨n1, n2, n3⟩ := List.nodup_append.mp nd
    obtain ⟨m1, m2⟩ := List.nodup_cons.mp n2
    have nf : p ∉ f1 := fun z => n3 p z p (by simp) rfl
    -- the other list
    have other : ∃ b us fbs, y = .ref b ∧ H b = some (.lst us) ∧ Rs K No H es us fbs ∧ (∀ a ∈ fbs, a ∈ f1) ∧ fbs.Nodup ∧ (kz ≠ .ow → RAs K No H es us) := by
      rcases hk with rfl | rfl | rfl
      · obtain ⟨b, us, e, hb, ru⟩ := hz.2
        exact ⟨b, us, [], e, hb, Rs.of0 _ _ ru, fun a h => (nomatch h), List.nodup_nil, fun _ => ru⟩
      · obtain ⟨b, us, e, hb, ru⟩ := hz.2.2
        exact ⟨b, us, [], e, hb, Rs.of0 _ _ ru, fun a h => (nomatch h), List.nodup_nil, fun _ => ru⟩
      · obtain ⟨b, us, fbs, e, e2, hb, ru⟩ := (hz : R K No H (.lst es) y f1)
        subst e2
        exact ⟨b, us, fbs, e, hb, ru, fun a h => by simp [h], (List.nodup_cons.mp n1).2, fun z => absurd rfl z⟩
    obtain ⟨b, us, fbs, rfl, hb, ru, sub, ndb, fl⟩ := other
    have nfb : p ∉ fbs := fun z => nf (sub p z)
    refine ⟨p, b, xs, us, rfl, rfl, hp, hb, by rw [rs.len, ru.len]; exact sz7 hl, ?_⟩
    refine q _ _ _ .non _ [] (p :: (fps ++ fbs)) hP rfl (upd_out (by simp)) ⟨p, _, _, rfl, rfl, upd_same, (Rs.keep _ _ _ (KeepF.upd m1 (fun z => z) (lst_mu hp)) rs).append (Rs.keep _ _ _ (KeepF.upd nfb (fun z => z) (lst_mu hp)) ru)⟩ ?_ ⟨rfl, rfl⟩ ?_ fun a h => ?_
    · rcases nk_cases k (if kz = .ow then .ow else .fl) with e | ⟨e1, e2, e3⟩
      · exact .inl e
      · have hne : kz ≠ .ow := fun z => by rw [if_pos z] at e3; cases e3
        exact .inr ⟨e1, e2, shal_upd hp ((shal_at (hsh e2) hp).append (fl hne))⟩
    · refine List.nodup_cons.mpr ⟨by simp [m1, nfb], List.nodup_append.mpr ⟨m2, ndb, fun a ha b hb e => n3 b (sub b hb) a (by simp [ha]) e.symm⟩⟩
    · simp only [List.nil_append, List.append_nil, List.mem_cons, List.mem_append] at h ⊢
      rcases h with h | h | h
      · simp [h]
      · simp [h]
      · exact .inr (.inl (sub a h))
  · exact h.elim
def mRemove : MOF := fun k e zs P => match e, zs with
  | .lst ds, [(_, .int x)] => ∃ (ns : List Int) (j : Nat), ds = ns.map .int ∧ ns[j]? = some x ∧ (∀ m : Nat, m < j → ns[m]? ≠ some x) ∧ P (.fl, .non) (nk k .fl) (.lst ((ns.eraseIdx j).map .int))
  | _, _ => False
theorem RAs.ints : ∀ {ns : List Int} {vs : List V}, RAs K A H (ns.map .int) vs → vs = ns.map V.int
  | [], _, h => h
  | n :: ns, _, ⟨w, ws, e, h, t⟩ => by
    subst e
    rw [show w = V.int n from h, RAs.ints t]
    rfl
theorem Rs.ints : ∀ {ns : List Int} {vs : List V} {f : List Addr}, Rs K A H (ns.map .int) vs f → vs = ns.map V.int ∧ f = []
  | [], _, _, h => h
  | n :: ns, _, _, ⟨w, ws, f1, f2, e, e2, h, t⟩ => by
    obtain ⟨a, b⟩ := Rs.ints t
    subst e e2 a b
    rw [h.1, show w = V.int n from h.2]
    exact ⟨rfl, rfl⟩
theorem RAs.of_ints : ∀ (ns : List Int), RAs K A H (ns.map .int) (ns.map V.int)
  | [] => .nil
  | n :: ns => .cons rfl (RAs.of_ints ns)
theorem ms_remove : MSound K rRemI mRemove := by
  intro H A w vs zs k e fe fa P Q r hsh rz nd h q
  unfold mRemove at h
  split at h
  · rename_i ds _ x
    obtain ⟨ns, j, rfl, hj, hno, hP⟩ := h
    obtain ⟨p, xs, fps, rfl, rfl, hp, rs⟩ := r
    obtain ⟨rfl, rfl⟩ := rs.ints
    obtain ⟨y, ws, f1, f2, rfl, rfl, hz, e3, e4⟩ := rz
    subst e3 e4
    have hy : y = .int x := hz.ra (B := fun _ => True) (fun _ _ => trivial) (fun _ _ => trivial)
    subst hy
    refine ⟨p, ns, x, j, rfl, rfl, hp, hj, hno, ?_⟩
    refine q _ _ _ .non _ [] [p] hP rfl (upd_out (by simp)) ⟨p, _, [], rfl, rfl, upd_same, Rs.of0 _ _ (RAs.of_ints _)⟩ ?_ ⟨rfl, rfl⟩ (by simp) fun a h => .inl (by simp at h; simp [h])
    rcases nk_cases k .fl with e | ⟨e1, e2, e3⟩
    · exact .inl e
    · exact .inr ⟨e1, e2, shal_upd hp (RAs.of_ints _)⟩
  · exact h.elim
end
/-! ### the calls -/
def isL : D → Bool
  | .lst _ => true
  | _ => false
/-- x.m(..): the receiver a name, the arguments may change things -/
def eMthR (op : MOF) (i : Nat) (g : AEF) : EF := fun ρ P PX => (match ρ[i]? with | some (some (_, .lst _)) => True | _ => False) ∧ g ρ (fun avs ρ1 => match valsOf avs with
  | some zs => (match ρ1[i]? with
    | some (some (.sh, d)) => op .sh d zs fun z k' e' => P z (ρ1.set i (some (k', e')))
    | some (some (.ow, d)) => op .ow d zs fun z k' e' => P z (ρ1.set i (some (k', e')))
    | _ => False)
  | none => False) PX
/-- place.m(..): the arguments only read -/
def eMthP (op : MOF) (pl : PLF) (g : PAF) : EF := fun ρ P _ => pl ρ fun i k e rb => isL e = true ∧ g ρ fun zs => op k e zs fun z k' e' => P z (ρ.set i (some (k', rb e')))
section
variable {X : Cx} {E : XK} {o e : Expr} {es : List Expr} {n : Nat} {name : Str} {apos cpos : Pos} {id : String} {r : V → List V → Hp → VK → Prop} {op : MOF}
theorem tyL {K : Frg} {H : Hp} {d : D} {v : V} {f : List Addr} (h : R K No H d v f) (e : isL d = true) : tyV K "list" v H := by
  cases d <;> first
    | (cases e; done)
    | (obtain ⟨p, vs, _, e1, _, hp, _⟩ := h; rw [e1]; exact .inl ⟨rfl, _, .of hp⟩)
theorem VR.own_any {K : Frg} {A B : Addr → Prop} {H : Hp} {z : KD} {v : V} {f : List Addr} (h : VR K A H z v f) (e : ownK z.1 = true) : VR K B H z v f := by
  obtain ⟨k, d⟩ := z
  cases k <;> first
    | exact h
    | cases e
theorem mth_fin {K : Frg} {A A0 B : Addr → Prop} {H H0 : Hp} {ρ : Ro} {σ : L2.St} {ow ow0 fp : List Addr} {i : Nat} {k : Kd} {d : D} {rb : D → D} {w : V} {vs : List V} {zs : List KD} {P : KD → Ro → Prop} {Q : VK} (hm : MSound K r op) (st : Stp H0 ow0 A0 H (fp ++ ow) A) (g : Good K A H ρ σ ow) (pl : PlAt K A H ρ σ ow i k d rb w)
    (rz : VRs K B H zs vs fp) (nd : (fp ++ ow).Nodup) (dis : ∀ a ∈ fp, ¬ A a) (h : op k d zs fun z k' e' => P z (ρ.set i (some (k', rb e'))))
    (q : ∀ z ρ' v H' fp ow' A', P z ρ' → Stp H0 ow0 A0 H' (fp ++ ow') A' → Good K A' H' ρ' σ ow' → Own K A' H' z v fp ow' → Q v H') : r w vs H Q := by
  obtain ⟨fe, re, nde, _, hsh, mtt⟩ := pl.mut g nd dis
  refine hm H B w vs zs k d fe fp _ Q re hsh rz nde h fun z k' e' v H' fz fe' hP ho hk r' hk' vz ndz sub => ?_
  obtain ⟨ow', st', g', o'⟩ := mtt e' k' fz z v H' fe' hk r' hk' (vz.own_any ho) ndz sub
  exact q z _ v H' fz ow' A hP (st.trans st') g' o'
variable {g : AEF}
theorem es_mthR {K : Frg} {i : Nat} {t : TA} (hm : MSound K r op) (s : AESound K E n t g) : ESound K E (tBM K "list" r (tVar i) t) (eMthR op i g) := by
  intro σ H A ρ ow Q P PX gd h q qx
  obtain ⟨h0, h⟩ := h
  split at h0
  · rename_i k ds e0
    obtain ⟨v, f, hv, rv, _, sub⟩ := gd.slot e0
    refine ⟨v, hv, ?_, ?_⟩
    · have ra : RA K (fun _ => True) H (.lst ds) v := rv.ra (fun _ _ => trivial) (fun _ _ => trivial)
      obtain ⟨p, vs, ev, _, hp, _⟩ := ra
      rw [ev]
      exact .inl ⟨rfl, _, .of hp⟩
    · refine s σ H A ρ ow _ _ _ gd h (fun avs ρ1 vs H1 fp ow1 A1 hn h1 st1 g1 rr nd dis => ?_) qx
      split at h1
      · rename_i zs ez
        split at h1
        · rename_i d e1
          obtain ⟨v', hv', pl⟩ := PlAt.root (d := d) g1 e1 (.inl rfl)
          rw [hv] at hv'
          cases hv'
          exact mth_fin hm st1 g1 pl (rr.vals ez) nd dis h1 q
        · rename_i d e1
          obtain ⟨v', hv', pl⟩ := PlAt.root (d := d) g1 e1 (.inr rfl)
          rw [hv] at hv'
          cases hv'
          exact mth_fin hm st1 g1 pl (rr.vals ez) nd dis h1 q
        · exact h1.elim
      · exact h1.elim
  · exact h0.elim
theorem es_mthP {K : Frg} {to : TE} {t : TA} {pl : PLF} {gp : PAF} (hm : MSound K r op) (so : PLSound K to pl) (s : ASound K n t gp) : ESound K E (tBM K "list" r to t) (eMthP op pl gp) := by
  intro σ H A ρ ow Q P PX gd h q qx
  refine so σ H A ρ ow _ _ gd h fun i k e rb w H1 h1 s1 p1 => ?_
  obtain ⟨hl, h1⟩ := h1
  refine ⟨?_, ?_⟩
  · obtain ⟨d, v0, g1, fs, g2, fe, _, _, ⟨_, _, _, re, _⟩, _⟩ := p1
    exact tyL re hl
  · refine s σ H1 A ρ ow _ _ (gd.same s1) h1 fun zs vs H2 hn h2 s2 pr => ?_
    obtain ⟨fp, rz, nd, hF⟩ := pr
    have s12 := s1.trans s2
    refine mth_fin hm (ow0 := ow) (A0 := A) (H0 := H) ⟨fun a o e _ => s12 a o e, fun a h => ?_, fun _ h => h, fun _ h => .inl h⟩ (gd.same s12) (p1.same s2) rz (List.nodup_append.mpr ⟨nd, gd.nd, fun a ha b hb e => ?_⟩) (fun a h z => ?_) h2 q
    · rcases List.mem_append.mp h with h | h
      · exact .inr (s1.free (hF a h))
      · exact .inl h
    · subst e
      obtain ⟨o, e, _⟩ := gd.rep.mu a hb
      rw [s1.free (hF a ha)] at e; cases e
    · obtain ⟨o, e⟩ := gd.tr a z
      rw [s1.free (hF a h)] at e; cases e
section
variable {g : AEF} {gp : PAF} {pl : PLF}
/-- x.m(e, ..), x a name -/
theorem de_mthR (pa : PlainAttrs "list") (slot : PySem.Slot "list" name id) (hty : typeOf (.builtin id) = pure (.type "method_descriptor")) (hm : MtM X id r) (hs : MSound X.K r op) (i : Nat) {x : Str} {px : Pos} (ha : DAE X E (e :: es) n g)
    (hN : X.N[i]? = some x := by rfl) (hv : Vis X.env.scope x := by first | exact Or.inl rfl | exact Or.inr (Or.inl rfl) | exact Or.inr (Or.inr rfl)) (hd : (x == ("__debug__" : Str)) = false := by decide) (hcd : (x == ("__classdict__" : Str)) = false := by decide)
    (hbase : attributeBase (.Name x px) name X.env (eval (.Name x px) X.env) = eval (.Name x px) X.env := by rfl)
    (hfew : ((backTo cpos (starEach (e :: es) X.env)).all (fun x => !x.1) && (backToKw cpos (keywordEach [] X.env)).all (fun x => x.1.isSome)
      && decide ((e :: es).length + ([] : List Keyword).length + (if ([] : List Keyword).isEmpty then 0 else 1) < 30)) = true := by rfl)
    (hline : (apos.endLine == cpos.line) = true := by rfl) (hst : starEach (e :: es) X.env = (false, eval e X.env) :: starEach es X.env := by rfl) (hplain : (backTo cpos (starEach es X.env)).any (·.1) = false := by rfl) :
    DE X E (.Call (.Attribute (.Name x px) name apos) (e :: es) [] cpos) (eMthR op i g) := by
  obtain ⟨t, ea, sa⟩ := ha.run
  exact ⟨_, pe_bm pa slot hty hm (pe_var hN hv hd hcd) ea hbase hfew hline hst hplain, es_mthR hs sa⟩
/-- place.m(e, ..) -/
theorem de_mthP (pa : PlainAttrs "list") (slot : PySem.Slot "list" name id) (hty : typeOf (.builtin id) = pure (.type "method_descriptor")) (hm : MtM X id r) (hs : MSound X.K r op) (ho : DPl X o pl) (ha : DA X (e :: es) n gp)
    (hbase : attributeBase o name X.env (eval o X.env) = eval o X.env := by rfl)
    (hfew : ((backTo cpos (starEach (e :: es) X.env)).all (fun x => !x.1) && (backToKw cpos (keywordEach [] X.env)).all (fun x => x.1.isSome)
      && decide ((e :: es).length + ([] : List Keyword).length + (if ([] : List Keyword).isEmpty then 0 else 1) < 30)) = true := by rfl)
    (hline : (apos.endLine == cpos.line) = true := by rfl) (hst : starEach (e :: es) X.env = (false, eval e X.env) :: starEach es X.env := by rfl) (hplain : (backTo cpos (starEach es X.env)).any (·.1) = false := by rfl) :
    DE X E (.Call (.Attribute o name apos) (e :: es) [] cpos) (eMthP op pl gp) := by
  obtain ⟨t, ea, sa⟩ := ha.run
  obtain ⟨to, eo, so⟩ := ho.run
  exact ⟨_, pe_bm pa slot hty hm eo ea hbase hfew hline hst hplain, es_mthP hs so sa⟩
/-- place.m() -/
theorem de_mth0 (pa : PlainAttrs "list") (slot : PySem.Slot "list" name id) (hty : typeOf (.builtin id) = pure (.type "method_descriptor")) (hm : MtM X id r) (hs : MSound X.K r op) (ho : DPl X o pl)
    (hbase : attributeBase o name X.env (eval o X.env) = eval o X.env := by rfl) (hline : (apos.endLine == cpos.line) = true := by rfl) :
    DE X E (.Call (.Attribute o name apos) [] [] cpos) (eMthP op pl fun _ P => P []) := by
  obtain ⟨to, eo, so⟩ := ho.run
  refine ⟨_, pe_bm0 pa slot hty hm eo hbase hline, ?_⟩
  have s0 : ASound X.K 0 tNil (fun _ P => P []) := fun σ H A ρ ow Q P g h q => q [] [] H rfl h (Same.refl H) .nil
  intro σ H A ρ ow Q P PX gd h q qx
  exact es_mthP (E := E) hs so s0 σ H A ρ ow Q P PX gd h q qx
end
end
end DL

/-! DL12: comprehensions whose element changes things -/
namespace DL
open PySem PySem.Spec PyProof.Rows L2
def tE (K : Frg) (f : EF) : TE := fun σ H Q => ∃ A ρ ow P, Good K A H ρ σ ow ∧ f ρ P (fun _ _ => False) ∧ ∀ z ρ' v H' fp ow' A', P z ρ' → Stp H ow A H' (fp ++ ow') A' → Good K A' H' ρ' σ ow' → Own K A' H' z v fp ow' → Q v H'
theorem DE.can {X : Cx} {E : XK} {e : Expr} {f : EF} (h : DE X E e f) : PE X e (tE X.K f) := by
  obtain ⟨t, pe, s⟩ := h.run
  refine ⟨fun pins st σ H Q I hq => ?_⟩
  obtain ⟨A, ρ, ow, P, g, hf, q⟩ := hq
  exact pe.run pins st σ H Q I (s σ H A ρ ow Q P _ g hf q fun _ _ _ _ _ h => h.elim)
def compE (step : KD → Ro → (Option KD → Ro → Prop) → Prop) : List KD → Ro → List KD → (List KD → Ro → Prop) → Prop
  | [], ρ, acc, P => P acc ρ
  | z :: zs, ρ, acc, P => step z ρ fun r ρ' => match r with
    | some y => compE step zs ρ' (acc ++ [y]) P
    | none => compE step zs ρ' acc P
def stepE (is : List Nat) (g : GF) (tt : PTF) (fe : EF) : KD → Ro → (Option KD → Ro → Prop) → Prop := fun z ρ Q => g z ρ fun ρ1 => tt ρ1 fun b => if b = true then fe ρ1 (fun y ρ2 => Q (some y) (wipeR ρ2 is)) (fun _ _ => False) else Q none (wipeR ρ1 is)
def eLc (src : IF) (is : List Nat) (g : GF) (tt : PTF) (fe : EF) : EF := fun ρ P _ => src (rdOnly ρ) fun zs => zs.length ≤ 10000000 ∧ compE (stepE is g tt fe) zs (wipeR ρ is) [] fun ys ρ' => P (jL ys, .lst (ys.map (·.2))) ρ'
section
variable {K : Frg} {A : Addr → Prop} {H : Hp} {σ τ : L2.St}
theorem RepS.congr : ∀ {ρ : Ro} {σ τ : L2.St} {ow : List Addr}, RepS K A H ρ τ ow → σ.length = τ.length → (∀ (i : Nat) kd, ρ[i]? = some (some kd) → σ[i]? = τ[i]?) → RepS K A H ρ σ ow
  | [], σ, τ, ow, h, hl, _ => by
    obtain ⟨e1, e2⟩ := h
    subst e1
    exact ⟨List.eq_nil_of_length_eq_zero hl, e2⟩
  | s :: ρ, [], τ, ow, ⟨x, τ', f, g, e, e2, h, r⟩, hl, hs => by subst e; cases hl
  | s :: ρ, y :: σ, τ, ow, ⟨x, τ', f, g, e, e2, h, r⟩, hl, hs => by
    subst e e2
    refine ⟨y, σ, f, g, rfl, rfl, ?_, RepS.congr r (by simpa using hl) fun i kd hi => by simpa using hs (i + 1) kd (by simpa using hi)⟩
    cases s with
    | none => exact h
    | some kd =>
      have : y = x := by simpa using hs 0 kd rfl
      rw [this]; exact h
theorem wipeR_get (ρ : Ro) (j : Nat) : ∀ vs : List Nat, (wipeR ρ vs)[j]? = if j ∈ vs ∧ j < ρ.length then some none else ρ[j]?
  | [] => by simp [wipeR]
  | v :: vs => by
    have hl : (wipeR ρ vs).length = ρ.length := by
      have : ∀ is : List Nat, (wipeR ρ is).length = ρ.length := by
        intro is
        induction is with
        | nil => rfl
        | cons a r ih => show ((wipeR ρ r).set a none).length = _; rw [List.length_set, ih]
      exact this vs
    show ((wipeR ρ vs).set v none)[j]? = _
    by_cases hv : v = j
    · subst hv
      by_cases hl' : v < ρ.length
      · rw [List.getElem?_set_self (by rw [hl]; exact hl'), if_pos ⟨List.mem_cons_self, hl'⟩]
      · rw [List.set_eq_of_length_le (by rw [hl]; omega), wipeR_get ρ v vs, if_neg (fun z => hl' z.2), if_neg (fun z => hl' z.2)]
    · rw [List.getElem?_set_ne hv, wipeR_get ρ j vs]
      have : j ∈ v :: vs ↔ j ∈ vs := by simp [Ne.symm hv]
      simp only [this]
theorem wipeR_len (ρ : Ro) : ∀ is : List Nat, (wipeR ρ is).length = ρ.length
  | [] => rfl
  | a :: r => by show ((wipeR ρ r).set a none).length = _; rw [List.length_set, wipeR_len ρ r]
theorem wipeR_idem (ρ : Ro) (vs : List Nat) : wipeR (wipeR ρ vs) vs = wipeR ρ vs := by
  apply List.ext_getElem?
  intro j
  rw [wipeR_get, wipeR_get, wipeR_len]
  by_cases hj : j ∈ vs ∧ j < ρ.length
  · rw [if_pos hj, if_pos hj]
  · rw [if_neg hj]
/-- slots forgotten -/
theorem Good.set0 {ρ : Ro} {ow : List Addr} {i : Nat} (g : Good K A H ρ σ ow) : ∃ ow', Good K A H (ρ.set i none) σ ow' ∧ ∀ a ∈ ow', a ∈ ow := by
  cases e : ρ[i]? with
  | none =>
    rw [List.set_eq_of_length_le (List.getElem?_eq_none_iff.mp e)]
    exact ⟨ow, g, fun _ h => h⟩
  | some s =>
    cases s with
    | none => rw [set_same e]; exact ⟨ow, g, fun _ h => h⟩
    | some kd =>
      obtain ⟨v, fp, ow', _, g', _, sub⟩ := g.move e
      exact ⟨ow', g', fun a h => sub a (by simp [h])⟩
theorem Good.wipeR {ρ : Ro} {ow : List Addr} (g : Good K A H ρ σ ow) : ∀ is : List Nat, ∃ ow', Good K A H (wipeR ρ is) σ ow' ∧ ∀ a ∈ ow', a ∈ ow
  | [] => ⟨ow, g, fun _ h => h⟩
  | i :: is => by
    obtain ⟨ow1, g1, s1⟩ := Good.wipeR g is
    obtain ⟨ow2, g2, s2⟩ := g1.set0 (i := i)
    exact ⟨ow2, g2, fun a h => s1 a (s2 a h)⟩
theorem Good.congr {ρ : Ro} {ow : List Addr} (g : Good K A H ρ τ ow) (hl : σ.length = τ.length) (hs : ∀ (i : Nat) kd, ρ[i]? = some (some kd) → σ[i]? = τ[i]?) : Good K A H ρ σ ow := ⟨g.rep.congr hl hs, g.nd, g.dis, g.tr⟩
theorem es_lc {E : XK} {wi : TI} {src : IF} {is : List Nat} {g : GF} {tt : PTF} {fe : EF} (hs : ISound K wi src) : ESound K E (tLc wi (tG K is g) (tT K tt) (tE K fe) is) (eLc src is g tt fe) := by
  intro σ H A ρ ow Q P PX gd h q _
  refine hs σ H A (rdOnly ρ) [] _ _ (fun a => a ∈ ow) gd.rdOnly (fun a z => ⟨fun h => ?_, gd.rep.mu a z⟩) h fun zs J H1 hz s1 wk => ?_
  · rcases h with h | h
    · exact gd.dis a z h
    · cases h
  obtain ⟨hlen, hc⟩ := hz
  obtain ⟨G, Y, walk, hG, hY⟩ := wk
  intro D hD
  have hD0 : H D = none := s1.free hD
  -- what was read for the source is frozen
  let A1 : Addr → Prop := fun a => A a ∨ Fre2 H H1 a
  have g1 : Good K A1 H1 ρ σ ow := gd.freeze s1
  have nA1 : ¬ A1 D := fun z => by
    rcases z with z | z
    · obtain ⟨o, e⟩ := gd.tr D z; rw [hD0] at e; cases e
    · obtain ⟨_, o, e⟩ := z; rw [hD] at e; cases e
  have nowD : D ∉ ow := fun z => by
    obtain ⟨o, e, _⟩ := gd.rep.mu D z; rw [hD0] at e; cases e
  obtain ⟨ow1, g1w, sub1⟩ := g1.wipeR is
  have g1w' : Good K A1 H1 (DL.wipeR ρ is) (wipe σ is) ow1 := g1w.congr (wipe_length σ is) fun i kd hi => by
    rw [wipeR_get] at hi
    rw [wipe_get]
    by_cases hj : i ∈ is ∧ i < ρ.length
    · rw [if_pos hj] at hi; cases hi
    · have : ¬ (i ∈ is ∧ i < σ.length) := fun z => hj ⟨z.1, by rw [← gd.rep.len]; exact z.2⟩
      rw [if_neg this]
  let P' : List KD → Ro → Prop := fun ys ρ' => P (jL ys, .lst (ys.map (·.2))) ρ'
  let step := stepE is g tt fe
  -- the new list is beside all that
  have updD : ∀ {Hx : Hp} {o : HO} {a : Addr} {u : HO}, a ≠ D → Hx a = some u → (upd Hx D o) a = some u := fun n e => by rw [upd_ne n]; exact e
  refine lc_it walk (fun i Hc => ∃ ρ' ow' A' acc accV fp, Good K A' Hc ρ' (wipe σ is) ow' ∧ Hc D = some (.lst accV) ∧ VRs K A' Hc acc accV fp ∧ (fp ++ ow').Nodup ∧ (∀ a ∈ fp, ¬ A' a) ∧ D ∉ fp ∧ D ∉ ow' ∧ ¬ A' D ∧
    Stp H1 ow A1 Hc (fp ++ ow') A' ∧ compE step (zs.drop i) ρ' acc P' ∧ acc.length ≤ i ∧ DL.wipeR ρ' is = ρ') ?_ ?_ ?_ ?_
  · refine ⟨_, ow1, A1, [], [], [], g1w'.same (same_upd hD), upd_same, ⟨rfl, rfl⟩, g1w'.nd, fun a h => (nomatch h), by simp, fun z => nowD (sub1 D z), nA1, ⟨fun a o e _ => same_upd hD a o e, fun a h => .inl (sub1 a (by simpa using h)), fun _ h => h, fun _ h => .inl h⟩, hc, Nat.le_refl _, wipeR_idem ρ is⟩
  · rintro i H2 _ ⟨ρ', ow', A', acc, accV, fp, g', _, _, _, _, _, _, _, st, _⟩
    exact hG H2 fun a o e n => st.same a o e n
  · rintro i x H2 H3 hi ⟨ρ', ow', A', acc, accV, fp, g', hDv, r, nd, dis, nf, no, nA, st, hcomp, hl, hw⟩ y
    have hzi : zs[i]? = some zs[i] := List.getElem?_eq_getElem hi
    obtain ⟨s3, vz⟩ := hY i H2 x H3 zs[i] hzi (fun a o e n => st.same a o e n) y
    rw [List.drop_eq_getElem_cons hi] at hcomp
    have hstep : step zs[i] ρ' fun r ρ2 => match r with
      | some y => compE step (zs.drop (i + 1)) ρ2 (acc ++ [y]) P'
      | none => compE step (zs.drop (i + 1)) ρ2 acc P' := hcomp
    have hD3 : H3 D = some (.lst accV) := s3 _ _ hDv
    have vb : VR K A' H3 zs[i] x [] := vz.mono fun a h => by
      rcases h with (h | h) | h
      · exact st.up a (.inl h)
      · cases h
      · exact st.up a (.inr h)
    have ndow := (List.nodup_append.mp nd).2.1
    refine ⟨zs[i], [], A', ρ', ow', _, g'.same s3, ⟨vb, by simpa using ndow, fun a h => (nomatch h)⟩, hstep, fun ρ1 σ1 owA h1 gA subA w1 => ⟨w1.trans (wipe_idem σ is), ?_⟩⟩
    have subA' : ∀ a ∈ owA, a ∈ ow' := fun a h => (subA a h).elim id fun z => nomatch z
    have hl1 : σ1.length = σ.length := by rw [← wipe_length σ1 is, w1, wipe_length, wipe_length]
    -- back from the block's slots
    have back : ∀ {ρ2 : Ro} {Hx : Hp} {Ax : Addr → Prop} {owx : List Addr}, Good K Ax Hx ρ2 σ1 owx → ∃ owy, Good K Ax Hx (DL.wipeR ρ2 is) (wipe σ is) owy ∧ ∀ a ∈ owy, a ∈ owx := fun {ρ2 Hx Ax owx} gx => by
      obtain ⟨owy, gy, suby⟩ := gx.wipeR is
      refine ⟨owy, gy.congr (by rw [wipe_length]; exact hl1.symm) fun j kd hj => ?_, suby⟩
      rw [wipeR_get] at hj
      have hn : ¬ (j ∈ is ∧ j < ρ2.length) := fun z => by rw [if_pos z] at hj; cases hj
      have e : (wipe σ1 is)[j]? = (wipe (wipe σ is) is)[j]? := by rw [w1]
      rw [wipe_idem, wipe_get, wipe_get] at e
      have l2 : ρ2.length = σ1.length := gx.rep.len.symm
      rw [wipe_get]
      rw [if_neg (fun z => hn ⟨z.1, by rw [l2]; exact z.2⟩)] at e
      exact e.symm
    refine ⟨A', ρ1, owA, _, gA, h1, fun b H4 h2 s4 => ?_⟩
    have st4 : Stp H1 ow A1 H4 (fp ++ ow') A' := (st.trans (Stp.of_same (s3.trans s4)))
    have r4 := (r.same s3).same s4
    have hD4 : H4 D = some (.lst accV) := s4 _ _ hD3
    cases b with
    | false =>
      rw [if_neg Bool.false_ne_true] at h2
      refine iteF ?_
      obtain ⟨owy, gy, suby⟩ := back (gA.same s4)
      have sb : ∀ a ∈ owy, a ∈ ow' := fun a h => subA' a (suby a h)
      exact ⟨_, owy, A', acc, accV, fp, gy, hD4, r4, List.nodup_append.mpr ⟨(List.nodup_append.mp nd).1, gy.nd, fun a ha b hb => (List.nodup_append.mp nd).2.2 a ha b (sb b hb)⟩, dis, nf, fun z => no (sb D z), nA, st4.sub fun a h => by rcases List.mem_append.mp h with h | h <;> simp [h, sb], h2, by omega, wipeR_idem _ is⟩
    | true =>
      rw [if_pos rfl] at h2
      refine iteT ?_
      refine ⟨A', ρ1, owA, _, gA.same s4, h2, fun z ρ2 v H5 f5 ow5 A5 h3 st5 g5 o5 => ?_⟩
      have nowA : D ∉ owA := fun z => no (subA' D z)
      have hD5 : H5 D = some (.lst accV) := st5.same _ _ hD4 nowA
      obtain ⟨owy, gy, suby⟩ := back g5
      obtain ⟨d1, d2, d3⟩ := List.nodup_append.mp nd
      -- the items made so far stay
      have trk : ∀ a ∈ fp, ∃ o, H4 a = some o := fun a h => let ⟨o, e, _⟩ := r4.mu a h; ⟨o, e⟩
      have nfA : ∀ a ∈ fp, a ∉ owA := fun a h z => d3 a h a (subA' a z) rfl
      have r5 : VRs K A5 H5 acc accV fp := (VRs.keepF (fun a o e h => by
        rcases h with h | h
        · exact st5.same a o e (nfA a h)
        · exact (gA.same s4).keepA st5 a o e h) r4).mono st5.up
      have nfp5 : ∀ a ∈ fp, a ∉ f5 ++ ow5 := fun a h z => by
        rcases st5.own a z with y | y
        · exact nfA a h y
        · obtain ⟨o, e⟩ := trk a h; rw [y] at e; cases e
      have nA5 : ∀ a, (∃ o, H4 a = some o) → a ∉ owA → ¬ A' a → ¬ A5 a := fun a t n1 n2 z => by
        rcases st5.fr a z with y | y | y
        · exact n2 y
        · exact n1 y
        · obtain ⟨o, e⟩ := t; rw [y] at e; cases e
      have nD5 : D ∉ f5 ++ ow5 := fun z => by
        rcases st5.own D z with y | y
        · exact nowA y
        · rw [hD4] at y; cases y
      have nAD5 : ¬ A5 D := nA5 D ⟨_, hD4⟩ nowA nA
      have all := r5.append (VRs.one o5.rep)
      have stAll : Stp H1 ow A1 H5 ((fp ++ f5) ++ ow5) A5 := by
        have stA : Stp H1 ow A1 H4 owA A' := st4.sub fun a h => by simp [subA' a h]
        have stT := stA.trans st5
        refine ⟨stT.same, fun a h => ?_, stT.up, stT.fr⟩
        rw [List.append_assoc] at h
        rcases List.mem_append.mp h with h | h
        · exact st4.own a (by simp [h])
        · exact stT.own a h
      have hkeep : ∀ a u, H5 a = some u → a ≠ D → (upd H5 D (.lst (accV ++ [v]))) a = some u := fun a u e n => updD n e
      refine ⟨accV, hD5, ?_, _, owy, A5, acc ++ [z], accV ++ [v], fp ++ f5, ?_, upd_same, ?_, ?_, fun a h => ?_, ?_, fun z => nD5 (by simp [suby D z]), nAD5, ?_, h3, ?_, wipeR_idem _ is⟩
      · rw [r.len, sizeLine_eq]
        have := hi
        omega
      · exact ⟨gy.rep.keep fun a u e h => hkeep a u e fun z => by
          subst z
          rcases h with h | h | h
          · exact nD5 (by simp [suby _ h])
          · exact nAD5 h
          · rw [hD5] at e; cases e; exact h, gy.nd, gy.dis, fun a h => by
          obtain ⟨o, e⟩ := gy.tr a h
          exact ⟨o, hkeep a o e fun z => nAD5 (by rw [← z]; exact h)⟩⟩
      · exact VRs.keepF (fun a u e h => hkeep a u e fun z => by
          subst z
          rcases h with h | h | h
          · rcases List.mem_append.mp h with h | h
            · exact nf h
            · exact nD5 (by simp [h])
          · exact nAD5 h
          · rw [hD5] at e; cases e; exact h) all
      · rw [List.append_assoc]
        obtain ⟨e1, e2, e3⟩ := List.nodup_append.mp o5.nd
        refine List.nodup_append.mpr ⟨d1, List.nodup_append.mpr ⟨e1, gy.nd, fun a ha b hb => e3 a ha b (suby b hb)⟩, fun a ha b hb e => ?_⟩
        subst e
        refine nfp5 a ha ?_
        rcases List.mem_append.mp hb with hb | hb
        · simp [hb]
        · simp [suby a hb]
      · rcases List.mem_append.mp h with h | h
        · exact nA5 a (trk a h) (nfA a h) (dis a h)
        · exact o5.dis a h
      · intro z
        rcases List.mem_append.mp z with z | z
        · exact nf z
        · exact nD5 (by simp [z])
      · refine ⟨fun a o e n => hkeep a o (stAll.same a o e n) (fun z => by rw [z, hD] at e; cases e), fun a h => stAll.own a (by rcases List.mem_append.mp h with h | h <;> simp only [List.mem_append] at h ⊢ <;> first | exact .inl h | exact .inr (suby a h)), stAll.up, stAll.fr⟩
      · rw [List.length_append]
        show acc.length + 1 ≤ i + 1
        omega
  · rintro H2 ⟨ρ', ow', A', acc, accV, fp, g', hDv, r, nd, dis, nf, no, nA, st, hcomp, hl, hw⟩
    rw [List.drop_eq_nil_of_le (Nat.le_refl _)] at hcomp
    have hP : P (jL acc, .lst (acc.map (·.2))) ρ' := hcomp
    have gσ : Good K A' H2 ρ' σ ow' := g'.congr (wipe_length σ is).symm fun j kd hj => by
      rw [← hw, wipeR_get] at hj
      have hn : ¬ (j ∈ is ∧ j < ρ'.length) := fun z => by rw [if_pos z] at hj; cases hj
      have l2 : ρ'.length = σ.length := by rw [← g'.rep.len, wipe_length]
      rw [wipe_get, if_neg fun z => hn ⟨z.1, by rw [l2]; exact z.2⟩]
    have stH : Stp H ow A H2 ((D :: fp) ++ ow') A' := by
      have s0 : Stp H ow A H1 ow A1 := Stp.freeze s1
      have sT := s0.trans st
      refine ⟨sT.same, fun a h => ?_, sT.up, sT.fr⟩
      rcases List.mem_cons.mp h with h | h
      · rw [h]; exact .inr hD0
      · exact sT.own a h
    have ndD : ((D :: fp) ++ ow').Nodup := List.nodup_cons.mpr ⟨by simp [nf, no], nd⟩
    have disD : ∀ a ∈ D :: fp, ¬ A' a := fun a h => by
      rcases List.mem_cons.mp h with h | h
      · rw [h]; exact nA
      · exact dis a h
    have pr : PR K A' (fun a => a ∈ D :: fp ∨ H2 a = none) H2 (.ref D) (jL acc, .lst (acc.map (·.2))) := by
      have rO : VRs K (Or2 A' (fun a => a ∈ D :: fp ∨ H2 a = none)) H2 acc accV fp := r.mono fun a h => .inl h
      have d1 := (List.nodup_append.mp nd).1
      rcases jT_cases acc with e | e | e
      · have e' : jL acc = .sh := by unfold jL; rw [e]
        rw [e']
        exact ⟨[D], ⟨⟨D, accV, [], rfl, rfl, hDv, Rs.of0 _ _ (rO.fl e).2⟩, D, accV, rfl, hDv, (rO.fl e).2⟩, by simp, fun a q => by rw [List.mem_singleton.mp q]; exact .inl (by simp)⟩
      · have e' : jL acc = .ow := by unfold jL; rw [e]
        rw [e']
        exact ⟨D :: fp, ⟨D, accV, fp, rfl, rfl, hDv, rO.ow (by rw [e]; decide)⟩, List.nodup_cons.mpr ⟨nf, d1⟩, fun a q => .inl q⟩
      · have e' : jL acc = .rd := by unfold jL; rw [e]
        rw [e']
        exact .rd ⟨D, accV, rfl, .inr (.inl (by simp)), hDv, rO.ra (fun _ h => h) fun a q => .inr (.inl (by simp [q]))⟩
    obtain ⟨f, A3, st3, g3, o3⟩ := pr.fin stH gσ ndD disD (Same.refl H2)
    exact q _ ρ' _ H2 f ow' A3 hP st3 g3 o3
end
section
variable {X : Cx} {E : XK} {pos : Pos} {pr : List Nat}
theorem de_lc {elt tg iter : Expr} {ifs : List Expr} {scope : Scope} {own : List (Str × Nat)} {is : List Nat} {src : IF} {g : GF} {tt : PTF} {fe : EF} {E' : XK} (hc : X.calm = true) (hN : X.N.Nodup) (hi : DI X tg iter src) (ok : BlkOk X.N X.env.scope scope own)
    (hg : ∀ (s : Shared) (H : Hp) (C : Addr) (cl : List (Str × Addr)) (fp : List Addr), DG (X.blk s H scope (compEnvC scope cl C X.env) fp) tg is g) (ht : ∀ (s : Shared) (H : Hp) (C : Addr) (cl : List (Str × Addr)) (fp : List Addr), DTs (X.blk s H scope (compEnvC scope cl C X.env) fp) ifs tt)
    (he : ∀ (s : Shared) (H : Hp) (C : Addr) (cl : List (Str × Addr)) (fp : List Addr), DE (X.blk s H scope (compEnvC scope cl C X.env) fp) E' elt fe) (his : own.map (·.2) = is := by rfl) (hs : ∀ x, foldedSetIterable iter X.env x = pure x := by intro _; rfl) :
    DE X E (.ListComp elt [⟨tg, iter, ifs, 0⟩] scope pos) (eLc src is g tt fe) := by
  obtain ⟨t, e, s⟩ := hi.run
  subst his
  exact ⟨_, pe_lc (te := tE X.K fe) (g := tG X.K (own.map (·.2)) g) (tt := tT X.K tt) hc hN e ok (fun s H C cl fp => (hg s H C cl fp).can) (fun s H C cl fp => (ht s H C cl fp).run) (fun s H C cl fp => (he s H C cl fp).can) hs, es_lc s⟩
theorem ds_setLcE (i : Nat) {y : Str} {py spos : Pos} {elt tg iter : Expr} {ifs : List Expr} {scope : Scope} {own : List (Str × Nat)} {is : List Nat} {src : IF} {g : GF} {tt : PTF} {fe : EF} {E' : XK} (hc : X.calm = true) (hN : X.N.Nodup) (hp : i ∉ pr) (hy : X.N[i]? = some y) (hyl : X.env.scope.names.lookup y = some .local)
    (hsw : swapsWith (.ListComp elt [⟨tg, iter, ifs, 0⟩] scope pos) (some (.Name y py)) spos.line X.env = pure true) (hi : DI X tg iter src) (ok : BlkOk X.N X.env.scope scope own)
    (hg : ∀ (s : Shared) (H : Hp) (C : Addr) (cl : List (Str × Addr)) (fp : List Addr), DG (X.blk s H scope (compEnvC scope cl C X.env) fp) tg is g) (ht : ∀ (s : Shared) (H : Hp) (C : Addr) (cl : List (Str × Addr)) (fp : List Addr), DTs (X.blk s H scope (compEnvC scope cl C X.env) fp) ifs tt)
    (he : ∀ (s : Shared) (H : Hp) (C : Addr) (cl : List (Str × Addr)) (fp : List Addr), DE (X.blk s H scope (compEnvC scope cl C X.env) fp) E' elt fe) (his : own.map (·.2) = is := by rfl) (hs : ∀ x, foldedSetIterable iter X.env x = pure x := by intro _; rfl) :
    DS X E pr (.Assign [.Name y py] (.ListComp elt [⟨tg, iter, ifs, 0⟩] scope pos) spos) (sSet i (eLc src is g tt fe)) := by
  obtain ⟨t, e, s⟩ := hi.run
  subst his
  exact ⟨_, ps_setLc (te := tE X.K fe) (g := tG X.K (own.map (·.2)) g) (tt := tT X.K tt) hc hN hy hyl hsw e ok (fun s H C cl fp => (hg s H C cl fp).can) (fun s H C cl fp => (ht s H C cl fp).run) (fun s H C cl fp => (he s H C cl fp).can) hs, ss_set hp (es_lc s)⟩
end
end DL

/-! DL13: built-ins -/
namespace DL
open PySem PySem.Spec PyProof.Rows L2
section
variable {K : Frg} {A B F : Addr → Prop} {H : Hp}
def oLen : List KD → (KD → Prop) → Prop := fun zs P => match zs with
  | [(_, .tup ds)] => P (.fl, .int ds.length)
  | [(_, .lst ds)] => P (.fl, .int ds.length)
  | [(_, .kst ds)] => P (.fl, .int ds.length)
  | [(_, .str z)] => z.length ≤ 10000000 ∧ P (.fl, .int z.length)
  | _ => False
theorem cs_len : CallS K (fun xs H Q => ∃ x n, xs = [x] ∧ LenV K x H n ∧ Q (.int n) H) oLen := by
  intro B F H vs xs P Q pr hF h q
  have go : ∀ (k : Kd) (d : D) (ds : List D), xs = [(k, d)] → d.seq = some ds → P (.fl, .int ds.length) → ∃ x n, vs = [x] ∧ LenV K x H n ∧ Q (.int n) H := fun k d ds e e2 hP => by
    subst e
    obtain ⟨v, ev, p⟩ := pr.get1
    obtain ⟨a, us, ea, t, r⟩ := p.ra.seq e2
    subst ev ea
    refine ⟨_, ds.length, rfl, ?_, q _ _ H hP (Same.refl H) .int⟩
    rcases t with t | t
    · exact .inl ⟨us, t, r.len.symm⟩
    · exact .inr ⟨us, t, r.len.symm⟩
  unfold oLen at h
  split at h
  · exact go _ _ _ rfl rfl h
  · exact go _ _ _ rfl rfl h
  · exact go _ _ _ rfl rfl h
  · rename_i k z
    obtain ⟨v, ev, p⟩ := pr.get1
    have e : v = .str z := p.ra
    subst ev e
    exact ⟨_, z.length, rfl, ⟨sz7 h.1, rfl⟩, q _ _ H h.2 (Same.refl H) .int⟩
  · exact h.elim
def oList : List KD → (KD → Prop) → Prop := fun zs P => match zs with
  | [(k, .tup ds)] => P (kL k, .lst ds)
  | [(k, .lst ds)] => P (kL k, .lst ds)
  | [(k, .kst ds)] => P (kL k, .lst ds)
  | _ => False
theorem cs_list : CallS K (fun xs H Q => ∃ p ys, xs = [.ref p] ∧ (SqL K H p ys ∨ SqT K H p ys) ∧ ∀ l, H l = none → Q (.ref l) (upd H l (.lst ys))) oList := by
  intro B F H vs xs P Q pr hF h q
  have go : ∀ (k : Kd) (d : D) (ds : List D), xs = [(k, d)] → d.seq = some ds → P (kL k, .lst ds) → ∃ p ys, vs = [.ref p] ∧ (SqL K H p ys ∨ SqT K H p ys) ∧ ∀ l, H l = none → Q (.ref l) (upd H l (.lst ys)) := fun k d ds e e2 hP => by
    subst e
    obtain ⟨v, ev, p⟩ := pr.get1
    obtain ⟨a, us, ea, t, r⟩ := p.seq e2
    subst ev ea
    exact ⟨a, us, rfl, t, fun l hl => q _ _ _ hP (same_upd hl) (pr_lst r hl (hF l hl))⟩
  unfold oList at h
  split at h
  · exact go _ _ _ rfl rfl h
  · exact go _ _ _ rfl rfl h
  · exact go _ _ _ rfl rfl h
  · exact h.elim
def oTuple : List KD → (KD → Prop) → Prop := fun zs P => match zs with
  | [(k, .tup ds)] => P (kT k, .tup ds)
  | [(k, .lst ds)] => P (kT k, .tup ds)
  | [(k, .kst ds)] => P (kT k, .tup ds)
  | _ => False
theorem cs_tuple : CallS K (fun xs H Q => ∃ p ys, xs = [.ref p] ∧ ((SqL K H p ys ∧ ∀ l, H l = none → Q (.ref l) (upd H l (.tup ys))) ∨ (SqT K H p ys ∧ Q (.ref p) H))) oTuple := by
  intro B F H vs xs P Q pr hF h q
  have go : ∀ (k : Kd) (d : D) (ds : List D), xs = [(k, d)] → d.seq = some ds → P (kT k, .tup ds) → ∃ p ys, vs = [.ref p] ∧ ((SqL K H p ys ∧ ∀ l, H l = none → Q (.ref l) (upd H l (.tup ys))) ∨ (SqT K H p ys ∧ Q (.ref p) H)) := fun k d ds e e2 hP => by
    subst e
    obtain ⟨v, ev, p⟩ := pr.get1
    obtain ⟨a, us, ea, t, r⟩ := p.seq e2
    subst ev ea
    refine ⟨a, us, rfl, ?_⟩
    rcases t with t | t
    · exact .inl ⟨t, fun l hl => q _ _ _ hP (same_upd hl) (pr_tup r hl)⟩
    · refine .inr ⟨t, q _ _ H hP (Same.refl H) ?_⟩
      unfold kT
      rcases el_cases k with e' | e'
      · rw [e']; exact .fl ⟨a, us, rfl, t, r.elno e'⟩
      · rw [e']; exact .rd ⟨a, us, rfl, t, r.elor⟩
  unfold oTuple at h
  split at h
  · exact go _ _ _ rfl rfl h
  · exact go _ _ _ rfl rfl h
  · exact go _ _ _ rfl rfl h
  · exact h.elim
def oInt : List KD → (KD → Prop) → Prop := fun zs P => match zs with
  | [(_, .int i)] => P (.fl, .int i)
  | [(_, .bl b)] => P (.fl, .int (if b = true then 1 else 0))
  | _ => False
theorem cs_int : CallS K (fun xs H Q => (∃ i, xs = [.int i] ∧ Q (.int i) H) ∨ ∃ k, xs = [.bl k] ∧ Q (.int (if k then 1 else 0)) H) oInt := by
  intro B F H vs xs P Q pr hF h q
  unfold oInt at h
  split at h
  · rename_i k i
    obtain ⟨v, ev, p⟩ := pr.get1
    have e : v = .int i := p.ra
    subst ev e
    exact .inl ⟨i, rfl, q _ _ H h (Same.refl H) .int⟩
  · rename_i k i
    obtain ⟨v, ev, p⟩ := pr.get1
    have e : v = .bl i := p.ra
    subst ev e
    exact .inr ⟨i, rfl, q _ _ H h (Same.refl H) .int⟩
  · exact h.elim
def oAbs : List KD → (KD → Prop) → Prop := fun zs P => match zs with
  | [(_, .int i)] => P (.fl, .int (if i < 0 then -i else i))
  | _ => False
theorem cs_abs : CallS K (fun xs H Q => ∃ i, xs = [.int i] ∧ Q (.int (if i < 0 then -i else i)) H) oAbs := by
  intro B F H vs xs P Q pr hF h q
  unfold oAbs at h
  split at h
  · rename_i k i
    obtain ⟨v, ev, p⟩ := pr.get1
    have e : v = .int i := p.ra
    subst ev e
    exact ⟨i, rfl, q _ _ H h (Same.refl H) .int⟩
  · exact h.elim
def oMax2 : List KD → (KD → Prop) → Prop := fun zs P => match zs with
  | [(_, .int i), (_, .int j)] => P (.fl, .int (if j > i then j else i))
  | _ => False
def oMin2 : List KD → (KD → Prop) → Prop := fun zs P => match zs with
  | [(_, .int i), (_, .int j)] => P (.fl, .int (if j < i then j else i))
  | _ => False
theorem cs_max2 : CallS K (fun xs H Q => ∃ i j, xs = [.int i, .int j] ∧ Q (.int (if j > i then j else i)) H) oMax2 := by
  intro B F H vs xs P Q pr hF h q
  unfold oMax2 at h
  split at h
  · rename_i k i k' j
    obtain ⟨v, w, ev, p, p'⟩ := pr.get2
    have e : v = .int i := p.ra
    have e' : w = .int j := p'.ra
    subst ev e e'
    exact ⟨i, j, rfl, q _ _ H h (Same.refl H) .int⟩
  · exact h.elim
theorem cs_min2 : CallS K (fun xs H Q => ∃ i j, xs = [.int i, .int j] ∧ Q (.int (if j < i then j else i)) H) oMin2 := by
  intro B F H vs xs P Q pr hF h q
  unfold oMin2 at h
  split at h
  · rename_i k i k' j
    obtain ⟨v, w, ev, p, p'⟩ := pr.get2
    have e : v = .int i := p.ra
    have e' : w = .int j := p'.ra
    subst ev e e'
    exact ⟨i, j, rfl, q _ _ H h (Same.refl H) .int⟩
  · exact h.elim
/-- a list of ints -/
def oSum : List KD → (KD → Prop) → Prop := fun zs P => match zs with
  | [(_, .lst ds)] => ∃ ns : List Int, ds = ns.map .int ∧ P (.fl, .int ns.sum)
  | _ => False
def oMaxL : List KD → (KD → Prop) → Prop := fun zs P => match zs with
  | [(_, .lst ds)] => ∃ ns : List Int, ds = ns.map .int ∧ 0 < ns.length ∧ ∀ m, m ∈ ns → (∀ y, y ∈ ns → y ≤ m) → P (.fl, .int m)
  | _ => False
def oMinL : List KD → (KD → Prop) → Prop := fun zs P => match zs with
  | [(_, .lst ds)] => ∃ ns : List Int, ds = ns.map .int ∧ 0 < ns.length ∧ ∀ m, m ∈ ns → (∀ y, y ∈ ns → m ≤ y) → P (.fl, .int m)
  | _ => False
theorem pr_ints {k : Kd} {ns : List Int} {v : V} (p : PR K B F H v (k, .lst (ns.map .int))) : ∃ a, v = .ref a ∧ SqL K H a (ns.map V.int) := by
  obtain ⟨a, us, ea, t, r⟩ := p.lstT
  rw [RAs.ints r.elor] at t
  exact ⟨a, ea, .of t⟩
theorem cs_sum : CallS K (rSum K) oSum := by
  intro B F H vs xs P Q pr hF h q
  unfold oSum at h
  split at h
  · rename_i k ds
    obtain ⟨ns, rfl, hP⟩ := h
    obtain ⟨v, ev, p⟩ := pr.get1
    obtain ⟨a, ea, t⟩ := pr_ints p
    subst ev ea
    exact ⟨a, ns, rfl, t, q _ _ H hP (Same.refl H) .int⟩
  · exact h.elim
theorem cs_maxL : CallS K (rMax K) oMaxL := by
  intro B F H vs xs P Q pr hF h q
  unfold oMaxL at h
  split at h
  · rename_i k ds
    obtain ⟨ns, rfl, hl, hP⟩ := h
    obtain ⟨v, ev, p⟩ := pr.get1
    obtain ⟨a, ea, t⟩ := pr_ints p
    subst ev ea
    exact ⟨a, ns, rfl, t, hl, fun m h1 h2 => q _ _ H (hP m h1 h2) (Same.refl H) .int⟩
  · exact h.elim
theorem cs_minL : CallS K (rMin K) oMinL := by
  intro B F H vs xs P Q pr hF h q
  unfold oMinL at h
  split at h
  · rename_i k ds
    obtain ⟨ns, rfl, hl, hP⟩ := h
    obtain ⟨v, ev, p⟩ := pr.get1
    obtain ⟨a, ea, t⟩ := pr_ints p
    subst ev ea
    exact ⟨a, ns, rfl, t, hl, fun m h1 h2 => q _ _ H (hP m h1 h2) (Same.refl H) .int⟩
  · exact h.elim
def oAll : List KD → (KD → Prop) → Prop := fun zs P => match zs with
  | [(_, .lst ds)] => ∃ bs : List Bool, ds = bs.map .bl ∧ P (.fl, .bl (bs.all id))
  | _ => False
def oAny : List KD → (KD → Prop) → Prop := fun zs P => match zs with
  | [(_, .lst ds)] => ∃ bs : List Bool, ds = bs.map .bl ∧ P (.fl, .bl (bs.any id))
  | _ => False
theorem RAs.bools : ∀ {ns : List Bool} {vs : List V}, RAs K A H (ns.map .bl) vs → vs = ns.map V.bl
  | [], _, h => h
  | n :: ns, _, ⟨w, ws, e, h, t⟩ => by
    subst e
    rw [show w = V.bl n from h, RAs.bools t]
    rfl
theorem pr_bools {k : Kd} {ns : List Bool} {v : V} (p : PR K B F H v (k, .lst (ns.map .bl))) : ∃ a, v = .ref a ∧ SqL K H a (ns.map V.bl) := by
  obtain ⟨a, us, ea, t, r⟩ := p.lstT
  rw [RAs.bools r.elor] at t
  exact ⟨a, ea, .of t⟩
theorem cs_all : CallS K (rAll K) oAll := by
  intro B F H vs xs P Q pr hF h q
  unfold oAll at h
  split at h
  · rename_i k ds
    obtain ⟨ns, rfl, hP⟩ := h
    obtain ⟨v, ev, p⟩ := pr.get1
    obtain ⟨a, ea, t⟩ := pr_bools p
    subst ev ea
    exact ⟨a, ns, rfl, t, q _ _ H hP (Same.refl H) .bl⟩
  · exact h.elim
theorem cs_any : CallS K (rAny K) oAny := by
  intro B F H vs xs P Q pr hF h q
  unfold oAny at h
  split at h
  · rename_i k ds
    obtain ⟨ns, rfl, hP⟩ := h
    obtain ⟨v, ev, p⟩ := pr.get1
    obtain ⟨a, ea, t⟩ := pr_bools p
    subst ev ea
    exact ⟨a, ns, rfl, t, q _ _ H hP (Same.refl H) .bl⟩
  · exact h.elim
def oStr : List KD → (KD → Prop) → Prop := fun zs P => match zs with
  | [(_, .int i)] => i.natAbs.log2 < 1920 ∧ P (.fl, .str (toString i))
  | _ => False
theorem cs_str : CallS K (fun xs H Q => ∃ i, xs = [.int i] ∧ i.natAbs.log2 < 1920 ∧ Q (.str (toString i)) H) oStr := by
  intro B F H vs xs P Q pr hF h q
  unfold oStr at h
  split at h
  · rename_i k i
    obtain ⟨v, ev, p⟩ := pr.get1
    have e : v = .int i := p.ra
    subst ev e
    exact ⟨i, rfl, h.1, q _ _ H h.2 (Same.refl H) .str⟩
  · exact h.elim
end
/-! ### isinstance -/
inductive Bt where
  | int | bool | str | tup | lst | dct
def Bt.nm : Bt → String
  | .int => "int"
  | .bool => "bool"
  | .str => "str"
  | .tup => "tuple"
  | .lst => "list"
  | .dct => "dict"
/-- the answer -/
def isBt : Bt → D → Option Bool
  | .int, .int _ => some true
  | .int, .bl _ => some true
  | .int, .str _ => some false
  | .int, .non => some false
  | .int, .tup _ => some false
  | .int, .lst _ => some false
  | .bool, .int _ => some false
  | .bool, .bl _ => some true
  | .bool, .str _ => some false
  | .bool, .non => some false
  | .bool, .tup _ => some false
  | .bool, .lst _ => some false
  | .str, .int _ => some false
  | .str, .bl _ => some false
  | .str, .str _ => some true
  | .str, .non => some false
  | .str, .tup _ => some false
  | .str, .lst _ => some false
  | .tup, .int _ => some false
  | .tup, .bl _ => some false
  | .tup, .str _ => some false
  | .tup, .non => some false
  | .tup, .tup _ => some true
  | .tup, .lst _ => some false
  | .lst, .int _ => some false
  | .lst, .bl _ => some false
  | .lst, .str _ => some false
  | .lst, .non => some false
  | .lst, .tup _ => some false
  | .lst, .lst _ => some true
  | _, _ => none
def D.tyn : D → String
  | .non => "NoneType"
  | .bl _ => "bool"
  | .int _ => "int"
  | .str _ => "str"
  | .tup _ => "tuple"
  | .lst _ => "list"
  | _ => ""
theorem isBt_ok : ∀ {b : Bt} {d : D} {r : Bool}, isBt b d = some r → kitB d.tyn b.nm = some r := by
  intro b d r h
  cases b <;> cases d <;> first
    | (cases h; done)
    | (have e : r = _ := (Option.some.inj h).symm
       subst e
       show kitB _ _ = some _
       dsimp only [D.tyn, Bt.nm]
       decide +kernel)
theorem RA.tyx {K : Frg} {A : Addr → Prop} {H : Hp} {b : Bt} {d : D} {v : V} {r : Bool} (h : RA K A H d v) (e : isBt b d = some r) : TyX K H v (.type d.tyn) := by
  cases d with
  | non => rw [show v = _ from h]; exact .base .non
  | bl b => rw [show v = _ from h]; exact .base (.bl b)
  | int b => rw [show v = _ from h]; exact .base (.int b)
  | str b => rw [show v = _ from h]; exact .base (.str b)
  | tup ds =>
    obtain ⟨p, vs, ev, t, _⟩ := h
    rw [ev]
    rcases t with (t | ⟨o, t⟩) | ⟨o, its, n, hk, hc, _⟩
    · exact .base (.tup t)
    · exact .fTuple t
    · exact .kTuple hk hc
  | lst ds =>
    obtain ⟨p, vs, ev, _, t, _⟩ := h
    rw [ev]
    exact .base (.lst t)
  | _ => cases b <;> cases e
def pIsI (b : Bt) (f : PF) : PF := fun ρ P => f ρ fun z => match isBt b z.2 with
  | some r => P (.fl, .bl r)
  | none => False
section
variable {X : Cx} {pos : Pos} {e : Expr} {f : PF} {E : XK}
theorem dp_isI (b : Bt) {p p2 : Pos} {x : Str} (h : DP X e f) (hg : Gl X "isinstance") (hm : X.mg "isinstance" = none) (hg2 : Gl X x) (hm2 : X.mg x = none) (hv2 : bootBuiltins x = some (.type b.nm))
    (hs : starEach [e, .Name x p2] X.env = (false, eval e X.env) :: starEach [.Name x p2] X.env := by rfl) (hs2 : starEach [.Name x p2] X.env = (false, eval (.Name x p2) X.env) :: starEach [] X.env := by rfl)
    (hpl : (backTo pos (starEach [.Name x p2] X.env)).any (·.1) = false := by rfl) (hn : x ≠ "__name__" := by decide) (hd : (x == ("__debug__" : Str)) = false := by decide) :
    DP X (.Call (.Name "isinstance" p) [e, .Name x p2] [] pos) (pIsI b f) := by
  obtain ⟨t, pe, s⟩ := h.run
  refine ⟨_, pe_callB call_isi hg hm boot_isinstance (pa_cons pe (pa_cons (pe_bltn (v := .ty b.nm) hg2 hm2 hv2 rfl hn hd) pa_nil hs2) hs) (by decide) (by decide) hs hpl, fun σ H A ρ ow Q P g hf q => ?_⟩
  refine s σ H A ρ ow _ _ g hf fun z v H1 h1 s1 p1 => ?_
  cases er : isBt b z.2 with
  | none => rw [er] at h1; exact h1.elim
  | some r =>
    rw [er] at h1
    refine ⟨v, .ty b.nm, .type z.2.tyn, .type b.nm, r, rfl, ?_, p1.ra.tyx er, kit_ty (isBt_ok er), q _ _ H1 h1 s1 .bl⟩
    constructor
/-! ### list(range(..)) -/
def pLR1 (f : PF) : PF := fun ρ P => f ρ fun z => match z.2 with
  | .int n => n ≤ 1000000 ∧ -1000000 ≤ n ∧ P (.sh, .lst ((List.range n.toNat).map fun i : Nat => .int i))
  | _ => False
def pTR1 (f : PF) : PF := fun ρ P => f ρ fun z => match z.2 with
  | .int n => n ≤ 1000000 ∧ -1000000 ≤ n ∧ P (.fl, .tup ((List.range n.toNat).map fun i : Nat => .int i))
  | _ => False
theorem rg_map (n : Int) : rgV 0 n = ((List.range n.toNat).map fun i : Nat => (i : Int)).map V.int := by
  unfold rgV
  rw [List.map_map]
  simp
theorem rg_D (n : Nat) : ((List.range n).map fun i : Nat => D.int i) = ((List.range n).map fun i : Nat => (i : Int)).map D.int := by
  rw [List.map_map]; rfl
theorem dp_listRg1 {p p2 pos2 : Pos} (h : DP X e f) (hc : X.calm = true) (hg : Gl X "list") (hm : X.mg "list" = none) (hg2 : Gl X "range") (hm2 : X.mg "range" = none) (na : starEach [e] X.env = (false, eval e X.env) :: starEach [] X.env := by rfl)
    (na2 : starEach [.Call (.Name "range" p2) [e] [] pos2] X.env = (false, eval (.Call (.Name "range" p2) [e] [] pos2) X.env) :: starEach [] X.env := by rfl) : DP X (.Call (.Name "list" p) [.Call (.Name "range" p2) [e] [] pos2] [] pos) (pLR1 f) := by
  obtain ⟨t, pe, s⟩ := h.run
  refine ⟨_, pe_listRg hc hg hm (prg_1 hg2 hm2 pe na) na2, fun σ H A ρ ow Q P g hf q => ?_⟩
  refine s σ H A ρ ow _ _ g hf fun z v H1 h1 s1 p1 => ?_
  obtain ⟨k, d⟩ := z
  cases d with
  | int n =>
    obtain ⟨h2, h3, h4⟩ := h1
    obtain rfl : v = .int n := p1.ra
    refine ⟨n, rfl, ⟨by omega, by omega, by omega, by omega, by omega⟩, fun l hl => ?_⟩
    refine q _ _ _ h4 (s1.trans (same_upd hl)) ?_
    have r : RAs X.K (Kd.sh.elA (BB A ow) (Fre H)) H1 ((List.range n.toNat).map fun i : Nat => D.int i) (rgV 0 n) := by
      rw [rg_map, rg_D]
      exact RAs.of_ints _
    exact pr_lst r hl (s1.free hl)
  | _ => exact h1.elim
theorem dp_tupRg1 {p p2 pos2 : Pos} (h : DP X e f) (hc : X.calm = true) (hg : Gl X "tuple") (hm : X.mg "tuple" = none) (hg2 : Gl X "range") (hm2 : X.mg "range" = none) (na : starEach [e] X.env = (false, eval e X.env) :: starEach [] X.env := by rfl)
    (na2 : starEach [.Call (.Name "range" p2) [e] [] pos2] X.env = (false, eval (.Call (.Name "range" p2) [e] [] pos2) X.env) :: starEach [] X.env := by rfl) : DP X (.Call (.Name "tuple" p) [.Call (.Name "range" p2) [e] [] pos2] [] pos) (pTR1 f) := by
  obtain ⟨t, pe, s⟩ := h.run
  refine ⟨_, pe_tupRg hc hg hm (prg_1 hg2 hm2 pe na) na2, fun σ H A ρ ow Q P g hf q => ?_⟩
  refine s σ H A ρ ow _ _ g hf fun z v H1 h1 s1 p1 => ?_
  obtain ⟨k, d⟩ := z
  cases d with
  | int n =>
    obtain ⟨h2, h3, h4⟩ := h1
    obtain rfl : v = .int n := p1.ra
    refine ⟨n, rfl, ⟨by omega, by omega, by omega, by omega, by omega⟩, fun l hl => ?_⟩
    refine q _ _ _ h4 (s1.trans (same_upd hl)) ?_
    have r : RAs X.K (Kd.fl.elA (BB A ow) (Fre H)) H1 ((List.range n.toNat).map fun i : Nat => D.int i) (rgV 0 n) := by
      rw [rg_map, rg_D]
      exact RAs.of_ints _
    exact pr_tup (k := .fl) r hl
  | _ => exact h1.elim
end
end DL

/-! DL14: short names for the generated walks, where the built-in names stand. -/
namespace DL
open PySem PySem.Spec PyProof.Rows L2
abbrev gNil : PAF := fun _ P => P []
abbrev gCons (f : PF) (g : PAF) : PAF := fun ρ P => f ρ fun z => g ρ fun zs => P (z :: zs)
abbrev aNil : AEF := fun ρ P _ => P [] ρ
abbrev aPl (i : Nat) (g : AEF) : AEF := fun ρ P PX => (∃ kd, ρ[i]? = some (some kd)) ∧ g ρ (fun avs ρ' => P (.pl i :: avs) ρ') PX
abbrev aE (f : EF) (g : AEF) : AEF := fun ρ P PX => f ρ (fun z ρ1 => g ρ1 (fun avs ρ2 => P (.v z :: avs) ρ2) PX) PX
abbrev tNilP : PTF := fun _ P => P true
abbrev tNilG : GsF := fun zs ρ P => zs = [] ∧ P ρ
abbrev tConsG (g : GF) (gs : GsF) : GsF := fun zs ρ P => match zs with
  | z :: r => g z ρ fun ρ1 => gs r ρ1 P
  | [] => False
abbrev qPopAt : MOF := fun k e zs P => (k = .sh ∨ k = .ow) ∧ (match e with | .lst ds => ds.length ≤ 10000000 | _ => False) ∧ mPopAt k e zs P
abbrev qPop : MOF := fun k e zs P => (k = .sh ∨ k = .ow) ∧ mPop k e zs P
theorem bt_len : bootBuiltins "len" = some (.builtin "len") := by decide +kernel
theorem bt_list : bootBuiltins "list" = some (.type "list") := by decide +kernel
theorem bt_tuple : bootBuiltins "tuple" = some (.type "tuple") := by decide +kernel
theorem bt_int : bootBuiltins "int" = some (.type "int") := by decide +kernel
theorem bt_bool : bootBuiltins "bool" = some (.type "bool") := by decide +kernel
theorem bt_str : bootBuiltins "str" = some (.type "str") := by decide +kernel
theorem bt_dict : bootBuiltins "dict" = some (.type "dict") := by decide +kernel
theorem bt_abs : bootBuiltins "abs" = some (.builtin "abs") := by decide +kernel
theorem bt_sum : bootBuiltins "sum" = some (.builtin "sum") := by decide +kernel
theorem bt_max : bootBuiltins "max" = some (.builtin "max") := by decide +kernel
theorem bt_min : bootBuiltins "min" = some (.builtin "min") := by decide +kernel
theorem bt_all : bootBuiltins "all" = some (.builtin "all") := by decide +kernel
theorem bt_any : bootBuiltins "any" = some (.builtin "any") := by decide +kernel
theorem bt_sorted : bootBuiltins "sorted" = some (.builtin "sorted") := by decide +kernel
end DL

/-! DL15: how meanings are worked off: loops, comprehensions, tests, items. -/
namespace DL
open PySem PySem.Spec PyProof.Rows L2
theorem ifb {p q : Prop} {b : Bool} (h1 : b = true → p) (h2 : b = false → q) : if b = true then p else q := by
  cases b
  · exact h2 rfl
  · exact h1 rfl
theorem ifd {c : Prop} [Decidable c] {p q : Prop} (h1 : c → p) (h2 : ¬c → q) : if decide c = true then p else q :=
  ifb (fun h => h1 (of_decide_eq_true h)) fun h => h2 (of_decide_eq_false h)
theorem ifdn {c : Prop} [Decidable c] {p q : Prop} (h1 : ¬c → p) (h2 : c → q) : if (!decide c) = true then p else q :=
  ifb (fun h => h1 (of_decide_eq_false (by cases e : decide c with | true => rw [e] at h; cases h | false => rfl))) fun h => h2 (of_decide_eq_true (by cases e : decide c with | false => rw [e] at h; cases h | true => rfl))
theorem forD_at {g : GF} {body : SF} {D : DEnds} (I : Nat → Ro → Prop) : ∀ (zs : List KD) (i0 : Nat) (ρ : Ro), I i0 ρ →
    (∀ (i : Nat) z ρ (N : Ro → Prop), zs[i]? = some z → I (i0 + i) ρ → (∀ ρ', I (i0 + i + 1) ρ' → N ρ') → g z ρ fun ρ1 => body { D with nx := N } ρ1) →
    (∀ ρ, I (i0 + zs.length) ρ → D.nx ρ) → forD g body D zs ρ
  | [], i0, ρ, h, _, e => e ρ h
  | z :: zs, i0, ρ, h, s, e => s 0 z ρ _ rfl h fun ρ' h' => forD_at I zs (i0 + 1) ρ' h' (fun i z ρ N hz hi hn => by
      have e1 : i0 + 1 + i = i0 + (i + 1) := by omega
      rw [e1] at hi hn
      exact s (i + 1) z ρ N hz hi hn) fun ρ hi => by
      have e1 : i0 + 1 + zs.length = i0 + (zs.length + 1) := by omega
      rw [e1] at hi
      exact e ρ hi
/-- a for loop, by what holds ahead of each turn -/
theorem for_ind {g : GF} {body : SF} {D : DEnds} {zs : List KD} {ρ : Ro} (I : Nat → Ro → Prop) (h0 : I 0 ρ)
    (hs : ∀ (i : Nat) z ρ (N : Ro → Prop), zs[i]? = some z → I i ρ → (∀ ρ', I (i + 1) ρ' → N ρ') → g z ρ fun ρ1 => body { D with nx := N } ρ1) (he : ∀ ρ, I zs.length ρ → D.nx ρ) : forD g body D zs ρ :=
  forD_at I zs 0 ρ h0 (fun i z ρ N hz hi hn => hs i z ρ N hz (by rw [Nat.zero_add] at hi; exact hi) (by rw [Nat.zero_add] at hn; exact hn)) fun ρ h => he ρ (by rw [Nat.zero_add] at h; exact h)
theorem range_get {lo : Int} {n i : Nat} {z : KD} (h : (rangeD lo n)[i]? = some z) : i < n ∧ z = (.fl, .int (lo + i)) := by
  refine ⟨?_, rangeD_get h⟩
  have := (List.getElem?_eq_some_iff.mp h).1
  unfold rangeD at this
  rw [List.length_map, List.length_range] at this
  exact this
theorem range_len {lo : Int} {n : Nat} : (rangeD lo n).length = n := by unfold rangeD; rw [List.length_map, List.length_range]
/-- over a range -/
theorem for_range {g : GF} {body : SF} {D : DEnds} {lo : Int} {n : Nat} {ρ : Ro} (I : Nat → Ro → Prop) (h0 : I 0 ρ)
    (hs : ∀ (i : Nat) ρ (N : Ro → Prop), i < n → I i ρ → (∀ ρ', I (i + 1) ρ' → N ρ') → g (.fl, .int (lo + i)) ρ fun ρ1 => body { D with nx := N } ρ1) (he : ∀ ρ, I n ρ → D.nx ρ) : forD g body D (rangeD lo n) ρ :=
  for_ind I h0 (fun i z ρ N hz hi hn => by obtain ⟨a, rfl⟩ := range_get hz; exact hs i ρ N a hi hn) fun ρ h => he ρ (by rw [range_len] at h; exact h)
theorem for_range0 {g : GF} {body : SF} {D : DEnds} {n : Nat} {ρ : Ro} (I : Nat → Ro → Prop) (h0 : I 0 ρ)
    (hs : ∀ (i : Nat) ρ (N : Ro → Prop), i < n → I i ρ → (∀ ρ', I (i + 1) ρ' → N ρ') → g (.fl, .int i) ρ fun ρ1 => body { D with nx := N } ρ1) (he : ∀ ρ, I n ρ → D.nx ρ) : forD g body D (rangeD 0 n) ρ :=
  for_range I h0 (fun i ρ N hi h hn => by rw [Int.zero_add]; exact hs i ρ N hi h hn) he
theorem while_at {t : TEF} {body : SF} {D : DEnds} (I : Nat → Ro → Prop)
    (hs : ∀ m ρ (N : Ro → Prop), I m ρ → (∀ m' ρ', m' < m → I m' ρ' → N ρ') → t ρ (fun b ρ' => if b = true then body { D with nx := N } ρ' else D.nx ρ') D.ex) : ∀ (n m : Nat) (ρ : Ro), m < n → I m ρ → whileD t body D n ρ
  | 0, _, _, h, _ => absurd h (Nat.not_lt_zero _)
  | n + 1, m, ρ, h, hi => hs m ρ _ hi fun m' ρ' hm hi' => while_at I hs n m' ρ' (Nat.lt_of_lt_of_le hm (Nat.le_of_lt_succ h)) hi'
theorem while_ind {t : TEF} {body : SF} {D : DEnds} {ρ : Ro} (I : Nat → Ro → Prop) (m : Nat) (h0 : I m ρ)
    (hs : ∀ m ρ (N : Ro → Prop), I m ρ → (∀ m' ρ', m' < m → I m' ρ' → N ρ') → t ρ (fun b ρ' => if b = true then body { D with nx := N } ρ' else D.nx ρ') D.ex) : sWhile t body D ρ :=
  ⟨m + 1, while_at I hs (m + 1) m ρ (Nat.lt_succ_self m) h0⟩
theorem compL_at {step : KD → (Option KD → Prop) → Prop} {P : List KD → Prop} (I : Nat → List KD → Prop) : ∀ (zs : List KD) (i0 : Nat) (acc : List KD), I i0 acc →
    (∀ (i : Nat) z acc (N : Option KD → Prop), zs[i]? = some z → I (i0 + i) acc → (∀ y, I (i0 + i + 1) (acc ++ [y]) → N (some y)) → (I (i0 + i + 1) acc → N none) → step z N) →
    (∀ acc, I (i0 + zs.length) acc → P acc) → compL step zs acc P
  | [], i0, acc, h, _, e => e acc h
  | z :: zs, i0, acc, h, s, e => by
    have rec_ : ∀ acc', I (i0 + 0 + 1) acc' → compL step zs acc' P := fun acc' h' => compL_at I zs (i0 + 1) acc' h' (fun i z acc N hz hi hn h0 => by
      have e1 : i0 + 1 + i = i0 + (i + 1) := by omega
      rw [e1] at hi hn h0
      exact s (i + 1) z acc N hz hi hn h0) fun acc hi => by
      have e1 : i0 + 1 + zs.length = i0 + (zs.length + 1) := by omega
      rw [e1] at hi
      exact e acc hi
    exact s 0 z acc _ rfl h (fun y hy => rec_ _ hy) fun hy => rec_ _ hy
theorem comp_ind {step : KD → (Option KD → Prop) → Prop} {P : List KD → Prop} {zs : List KD} (I : Nat → List KD → Prop) (h0 : I 0 [])
    (hs : ∀ (i : Nat) z acc (N : Option KD → Prop), zs[i]? = some z → I i acc → (∀ y, I (i + 1) (acc ++ [y]) → N (some y)) → (I (i + 1) acc → N none) → step z N) (he : ∀ acc, I zs.length acc → P acc) : compL step zs [] P :=
  compL_at I zs 0 [] h0 (fun i z acc N hz hi hn h => hs i z acc N hz (by rw [Nat.zero_add] at hi; exact hi) (by rw [Nat.zero_add] at hn; exact hn) (by rw [Nat.zero_add] at h; exact h)) fun ρ h => he ρ (by rw [Nat.zero_add] at h; exact h)
theorem take_succ_map {α β : Type} {zs : List α} {f : α → β} {i : Nat} {z : α} (h : zs[i]? = some z) : (zs.take (i + 1)).map f = (zs.take i).map f ++ [f z] := by
  rw [List.take_add_one, h, List.map_append]; rfl
/-- a comprehension that takes every item -/
theorem comp_map {step : KD → (Option KD → Prop) → Prop} {P : List KD → Prop} {zs : List KD} (f : KD → KD) (hs : ∀ (i : Nat) z (N : Option KD → Prop), zs[i]? = some z → N (some (f z)) → step z N) (he : P (zs.map f)) : compL step zs [] P := by
  refine comp_ind (fun i acc => acc = (zs.take i).map f) rfl (fun i z acc N hz hi hn _ => ?_) fun acc h => ?_
  · refine hs i z N hz (hn _ ?_)
    rw [hi, take_succ_map hz]
  · rw [h, List.take_length]; exact he
/-- a comprehension over a range that takes every item -/
theorem comp_range {step : KD → (Option KD → Prop) → Prop} {P : List KD → Prop} {lo : Int} {n : Nat} (f : Nat → KD) (hs : ∀ (i : Nat) (N : Option KD → Prop), i < n → N (some (f i)) → step (.fl, .int (lo + i)) N) (he : P ((List.range n).map f)) : compL step (rangeD lo n) [] P := by
  refine comp_ind (fun i acc => acc = (List.range i).map f) rfl (fun i z acc N hz hi hn _ => ?_) fun acc h => ?_
  · obtain ⟨a, rfl⟩ := range_get hz
    refine hs i N a (hn _ ?_)
    rw [hi, List.range_succ, List.map_append]; rfl
  · rw [h, range_len]; exact he
theorem comp_range0 {step : KD → (Option KD → Prop) → Prop} {P : List KD → Prop} {n : Nat} (f : Nat → KD) (hs : ∀ (i : Nat) (N : Option KD → Prop), i < n → N (some (f i)) → step (.fl, .int i) N) (he : P ((List.range n).map f)) : compL step (rangeD 0 n) [] P :=
  comp_range f (fun i N hi h => by rw [Int.zero_add]; exact hs i N hi h) he
theorem compE_at {step : KD → Ro → (Option KD → Ro → Prop) → Prop} {P : List KD → Ro → Prop} (I : Nat → Ro → List KD → Prop) : ∀ (zs : List KD) (i0 : Nat) (ρ : Ro) (acc : List KD), I i0 ρ acc →
    (∀ (i : Nat) z ρ acc (N : Option KD → Ro → Prop), zs[i]? = some z → I (i0 + i) ρ acc → (∀ y ρ', I (i0 + i + 1) ρ' (acc ++ [y]) → N (some y) ρ') → (∀ ρ', I (i0 + i + 1) ρ' acc → N none ρ') → step z ρ N) →
    (∀ ρ acc, I (i0 + zs.length) ρ acc → P acc ρ) → compE step zs ρ acc P
  | [], i0, ρ, acc, h, _, e => e ρ acc h
  | z :: zs, i0, ρ, acc, h, s, e => by
    have rec_ : ∀ ρ' acc', I (i0 + 0 + 1) ρ' acc' → compE step zs ρ' acc' P := fun ρ' acc' h' => compE_at I zs (i0 + 1) ρ' acc' h' (fun i z ρ acc N hz hi hn h0 => by
      have e1 : i0 + 1 + i = i0 + (i + 1) := by omega
      rw [e1] at hi hn h0
      exact s (i + 1) z ρ acc N hz hi hn h0) fun ρ acc hi => by
      have e1 : i0 + 1 + zs.length = i0 + (zs.length + 1) := by omega
      rw [e1] at hi
      exact e ρ acc hi
    exact s 0 z ρ acc _ rfl h (fun y ρ' hy => rec_ ρ' _ hy) fun ρ' hy => rec_ ρ' _ hy
theorem compE_ind {step : KD → Ro → (Option KD → Ro → Prop) → Prop} {P : List KD → Ro → Prop} {zs : List KD} {ρ : Ro} (I : Nat → Ro → List KD → Prop) (h0 : I 0 ρ [])
    (hs : ∀ (i : Nat) z ρ acc (N : Option KD → Ro → Prop), zs[i]? = some z → I i ρ acc → (∀ y ρ', I (i + 1) ρ' (acc ++ [y]) → N (some y) ρ') → (∀ ρ', I (i + 1) ρ' acc → N none ρ') → step z ρ N) (he : ∀ ρ acc, I zs.length ρ acc → P acc ρ) : compE step zs ρ [] P :=
  compE_at I zs 0 ρ [] h0 (fun i z ρ acc N hz hi hn h => hs i z ρ acc N hz (by rw [Nat.zero_add] at hi; exact hi) (by rw [Nat.zero_add] at hn; exact hn) (by rw [Nat.zero_add] at h; exact h)) fun ρ acc h => he ρ acc (by rw [Nat.zero_add] at h; exact h)
/-- an effectful comprehension over a range that takes every item -/
theorem compE_range0 {step : KD → Ro → (Option KD → Ro → Prop) → Prop} {P : List KD → Ro → Prop} {n : Nat} {ρ : Ro} (I : Nat → Ro → List KD → Prop) (h0 : I 0 ρ [])
    (hs : ∀ (i : Nat) ρ acc (N : Option KD → Ro → Prop), i < n → I i ρ acc → (∀ y ρ', I (i + 1) ρ' (acc ++ [y]) → N (some y) ρ') → step (.fl, .int i) ρ N) (he : ∀ ρ acc, I n ρ acc → P acc ρ) : compE step (rangeD 0 n) ρ [] P :=
  compE_ind I h0 (fun i z ρ acc N hz hi hn _ => by
    obtain ⟨a, rfl⟩ := range_get hz
    rw [Int.zero_add]
    exact hs i ρ acc N a hi hn) fun ρ acc h => he ρ acc (by rw [range_len] at h; exact h)
/-! items -/
theorem ix_tup {k k' : Kd} {ds : List D} {i : Int} {d : D} {P : KD → Prop} (h : atI ds i = some d) (p : P (kel k d)) : oIx (k, .tup ds) (k', .int i) P := by
  show (match atI ds i with | some d => P (kel k d) | none => False)
  rw [h]; exact p
theorem ix_lst {k k' : Kd} {ds : List D} {i : Int} {d : D} {P : KD → Prop} (h : atI ds i = some d) (p : P (kel k d)) : oIx (k, .lst ds) (k', .int i) P := by
  show (match atI ds i with | some d => P (kel k d) | none => False)
  rw [h]; exact p
theorem ix_kst {k k' : Kd} {ds : List D} {i : Int} {d : D} {P : KD → Prop} (h : atI ds i = some d) (p : P (kel k d)) : oIx (k, .kst ds) (k', .int i) P := by
  show (match atI ds i with | some d => P (kel k d) | none => False)
  rw [h]; exact p
/-- n items, told by their places -/
abbrev tabl {α : Type} (n : Nat) (f : Nat → α) : List α := (List.range n).map f
theorem tabl_get {α : Type} {n : Nat} {f : Nat → α} {i : Nat} (h : i < n) : (tabl n f)[i]? = some (f i) := by
  rw [List.getElem?_map, List.getElem?_range h]; rfl
theorem tabl_at {α : Type} {n : Nat} {f : Nat → α} {i : Nat} (h : i < n) : L2.atI (tabl n f) (i : Int) = some (f i) := atI_nat (tabl_get h)
theorem tabl_len {α : Type} {n : Nat} {f : Nat → α} : (tabl n f).length = n := by rw [List.length_map, List.length_range]
theorem ix_tab {k k' : Kd} {n i : Nat} {f : Nat → D} {P : KD → Prop} (h : i < n) (p : P (kel k (f i))) : oIx (k, .tup (tabl n f)) (k', .int i) P := ix_tup (tabl_at h) p
theorem ix_tabl {k k' : Kd} {n i : Nat} {f : Nat → D} {P : KD → Prop} (h : i < n) (p : P (kel k (f i))) : oIx (k, .lst (tabl n f)) (k', .int i) P := ix_lst (tabl_at h) p
/-- an index within -/
theorem ixN_ok {n : Nat} {i : Nat} (h : i < n) : ixN n (i : Int) = some i := by
  unfold ixN
  rw [if_pos (by omega), if_pos (by omega)]; simp
/-! sums -/
def sumR (n : Nat) (f : Nat → Int) : Int := (tabl n f).sum
theorem sumR_zero (f : Nat → Int) : sumR 0 f = 0 := rfl
theorem sumR_succ (n : Nat) (f : Nat → Int) : sumR (n + 1) f = sumR n f + f n := by
  unfold sumR tabl
  rw [List.range_succ, List.map_append, List.sum_append]
  simp
theorem sumR_congr {n : Nat} {f g : Nat → Int} (h : ∀ i, i < n → f i = g i) : sumR n f = sumR n g := by
  induction n with
  | zero => rfl
  | succ n ih => rw [sumR_succ, sumR_succ, ih fun i hi => h i (Nat.lt_succ_of_lt hi), h n (Nat.lt_succ_self n)]
theorem sumR_add {n : Nat} {f g : Nat → Int} : sumR n (fun i => f i + g i) = sumR n f + sumR n g := by
  induction n with
  | zero => rfl
  | succ n ih => rw [sumR_succ, sumR_succ, sumR_succ, ih]; omega
/-! the law's entry -/
theorem law_in {K : PySem.W.Frag} {c : CF} {H : Hp} {a : Addr} {ns : List Int} (hO : Only H) (hS : SqL K H a (ns.map V.int)) (h : c [(.fl, .kst (ns.map .int))] (fun z _ => z = (.fl, .bl true)) (fun _ _ => False)) :
    spOf K 1 [false] c [.ref a] H (fun v _ => v = .bl true) fun _ _ _ => False := by
  refine ⟨rfl, [(.fl, .kst (ns.map .int))], No, [], _, _, ?_, List.nodup_nil, fun a h => (nomatch h), fun _ h => h.elim, h, fun z ys v H' fp M' A' hz _ r => ?_, fun C ys H' M' A' hx _ => hx⟩
  · refine VRs.one ⟨rfl, a, ns.map V.int, rfl, ?_, RAs.of_ints ns⟩
    rcases hS with hS | hS
    · rcases hS with hS | ⟨o, hS⟩
      · rcases hO a with z | ⟨o, xs, z⟩
        · rw [z] at hS; cases hS
        · rw [z] at hS; cases hS
      · exact .inl (.inr ⟨o, lockd_mk hS⟩)
    · exact .inr hS
  · subst hz
    exact r.2
end DL

/-! DL16: the places where a meaning stops (a proof goes on by a lemma there; all else runs by itself). -/
namespace DL
open PySem PySem.Spec PyProof.Rows L2
theorem hidE {α : Type _} (a : α) : ∃ b, b = a := ⟨a, rfl⟩
/-- the same, but nobody looks in (nor does the kernel) -/
@[irreducible] noncomputable def hid {α : Type _} (a : α) : α := Classical.choose (hidE a)
theorem hid_eq {α : Type _} (a : α) : hid a = a := by unfold hid; exact Classical.choose_spec (hidE a)
noncomputable section
@[irreducible] def xIx : KD → KD → (KD → Prop) → Prop := hid oIx
@[irreducible] def kR1 (j : Int) (P : List KD → Prop) : Prop := hid (-1000000000000 ≤ j ∧ j ≤ 1000000000000 ∧ P (rangeD 0 j.toNat))
@[irreducible] def kR2 (i j : Int) (P : List KD → Prop) : Prop := hid ((-1000000000000 ≤ i ∧ i ≤ 1000000000000 ∧ -1000000000000 ≤ j ∧ j ≤ 1000000000000) ∧ P (rangeD i (j - i).toNat))
@[irreducible] def kLc (step : KD → (Option KD → Prop) → Prop) (zs : List KD) (P : KD → Prop) : Prop := hid (zs.length ≤ 10000000 ∧ compL step zs [] fun ys => P (jL ys, .lst (ys.map (·.2))))
@[irreducible] def kLcE (step : KD → Ro → (Option KD → Ro → Prop) → Prop) (zs : List KD) (ρ : Ro) (P : KD → Ro → Prop) : Prop := hid (zs.length ≤ 10000000 ∧ compE step zs ρ [] fun ys ρ' => P (jL ys, .lst (ys.map (·.2))) ρ')
@[irreducible] def kFor (g : GF) (body : SF) (D : DEnds) (zs : List KD) (ρ : Ro) : Prop := hid (forD g body D zs ρ)
@[irreducible] def sWhileX (t : TEF) (body : SF) : SF := hid (sWhile t body)
@[irreducible] def kPl (e j : D) (P : D → (D → D) → Prop) : Prop := hid (match e, j with
  | .lst ds, .int j => (match ixN ds.length j with
    | some n => (match ds[n]? with | some c => P c (fun c' => .lst (ds.set n c')) | none => False)
    | none => False)
  | .tup ds, .int j => (match ixN ds.length j with
    | some n => (match ds[n]? with | some c => P c (fun c' => .tup (ds.set n c')) | none => False)
    | none => False)
  | _, _ => False)
@[irreducible] def kSt : D → KD → KD → Kd → (Kd → D → Prop) → Prop := hid stIx
@[irreducible] def xPopAt : MOF := hid qPopAt
@[irreducible] def xPop : MOF := hid qPop
@[irreducible] def xExtend : MOF := hid mExtend
@[irreducible] def xRemove : MOF := hid mRemove
@[irreducible] def kLR (n : Int) (P : KD → Prop) : Prop := hid (n ≤ 1000000 ∧ -1000000 ≤ n ∧ P (.sh, .lst ((List.range n.toNat).map fun i : Nat => .int i)))
@[irreducible] def kTR (n : Int) (P : KD → Prop) : Prop := hid (n ≤ 1000000 ∧ -1000000 ≤ n ∧ P (.fl, .tup ((List.range n.toNat).map fun i : Nat => .int i)))
theorem xIx_eq : xIx = oIx := by unfold xIx; simp only [hid_eq]; try rfl
def jR1 (f : PAF) : IF := fun ρ P => f ρ fun zs => match zs with
  | [(_, .int j)] => kR1 j P
  | _ => False
theorem jR1_eq : jR1 = iR1 := by unfold jR1 kR1; simp only [hid_eq]; try rfl
def jR2 (f : PAF) : IF := fun ρ P => f ρ fun zs => match zs with
  | [(_, .int i), (_, .int j)] => kR2 i j P
  | _ => False
theorem jR2_eq : jR2 = iR2 := by unfold jR2 kR2; simp only [hid_eq]; try rfl
def pLcX (src : IF) (is : List Nat) (g : GF) (tt : PTF) (fe : PF) : PF := fun ρ P => src ρ fun zs =>
  kLc (fun z Q => g z (wipeR (rdAll ρ) is) fun ρ1 => tt ρ1 fun b => if b = true then fe ρ1 fun y => Q (some y) else Q none) zs P
theorem pLcX_eq : pLcX = pLc := by unfold pLcX kLc; simp only [hid_eq]; try rfl
def eLcX (src : IF) (is : List Nat) (g : GF) (tt : PTF) (fe : EF) : EF := fun ρ P _ => src (rdOnly ρ) fun zs => kLcE (stepE is g tt fe) zs (wipeR ρ is) P
theorem eLcX_eq : eLcX = eLc := by unfold eLcX kLcE; simp only [hid_eq]; try rfl
def sForX (src : IF) (g : GF) (body : SF) : SF := fun D ρ => src (rdOnly ρ) fun zs => kFor g body D zs ρ
theorem sForX_eq : sForX = sFor := by unfold sForX kFor; simp only [hid_eq]; try rfl
theorem sWhileX_eq : sWhileX = sWhile := by unfold sWhileX; simp only [hid_eq]; try rfl
def plIxX (pl : PLF) (f : PF) : PLF := fun ρ P => pl ρ fun i k e rb => f ρ fun y => kPl e y.2 fun c r => P i .ow c fun c' => rb (r c')
theorem plIxX_eq : plIxX = plIx := by
  unfold plIxX kPl plIx
  funext pl f ρ P
  simp only [hid_eq]
  all_goals (
    refine congrArg _ (funext fun i => funext fun k => funext fun e => funext fun rb => congrArg _ (funext fun y => ?_))
    obtain ⟨ky, dy⟩ := y
    cases e <;> cases dy <;> rfl)
def sStIxX (fe : EF) (pl : PLF) (fi : PF) : SF := fun D ρ => fe ρ (fun z ρ1 => pl ρ1 fun i k e rb => fi ρ1 fun y => kSt e y z k fun k' e' => D.nx (ρ1.set i (some (k', rb e')))) D.ex
theorem sStIxX_eq : sStIxX = sStIx := by unfold sStIxX kSt; simp only [hid_eq]; try rfl
def eIxSX (i : Nat) (f : EF) : EF := fun ρ P PX => (∃ kd, ρ[i]? = some (some kd)) ∧ f ρ (fun y ρ1 => match ρ1[i]? with
  | some (some (k, d)) => xIx (k.rdk, d) y fun z => (match z.1 with | .fl => P z ρ1 | _ => False)
  | _ => False) PX
theorem eIxSX_eq : eIxSX = eIxS := by unfold eIxSX xIx; simp only [hid_eq]; try rfl
def pLR1X (f : PF) : PF := fun ρ P => f ρ fun z => match z.2 with
  | .int n => kLR n P
  | _ => False
theorem pLR1X_eq : pLR1X = pLR1 := by unfold pLR1X kLR; simp only [hid_eq]; try rfl
def pTR1X (f : PF) : PF := fun ρ P => f ρ fun z => match z.2 with
  | .int n => kTR n P
  | _ => False
theorem pTR1X_eq : pTR1X = pTR1 := by unfold pTR1X kTR; simp only [hid_eq]; try rfl
theorem xPopAt_eq : xPopAt = qPopAt := by unfold xPopAt; simp only [hid_eq]; try rfl
theorem xPop_eq : xPop = qPop := by unfold xPop; simp only [hid_eq]; try rfl
theorem xExtend_eq : xExtend = mExtend := by unfold xExtend; simp only [hid_eq]; try rfl
theorem xRemove_eq : xRemove = mRemove := by unfold xRemove; simp only [hid_eq]; try rfl
section
variable {K : Frg}
theorem xs_popAt : MSound K rPopAt xPopAt := xPopAt_eq ▸ ms_popAt
theorem xs_pop : MSound K rPop xPop := xPop_eq ▸ ms_pop
theorem xs_extend : MSound K rExtend xExtend := xExtend_eq ▸ ms_extend
theorem xs_remove : MSound K rRemI xRemove := xRemove_eq ▸ ms_remove
end
theorem DP.as {X : Cx} {e : Expr} {f g : PF} (e2 : g = f) (h : DP X e f) : DP X e g := e2 ▸ h
theorem DE.as {X : Cx} {E : XK} {e : Expr} {f g : EF} (e2 : g = f) (h : DE X E e f) : DE X E e g := e2 ▸ h
theorem DS.as {X : Cx} {E : XK} {pr : List Nat} {e : Stmt} {f g : SF} (e2 : g = f) (h : DS X E pr e f) : DS X E pr e g := e2 ▸ h
theorem DI.as {X : Cx} {tg e : Expr} {f g : IF} (e2 : g = f) (h : DI X tg e f) : DI X tg e g := e2 ▸ h
theorem DPl.as {X : Cx} {e : Expr} {f g : PLF} (e2 : g = f) (h : DPl X e f) : DPl X e g := e2 ▸ h
theorem eqIx (a b : PF) : pOp xIx a b = pOp oIx a b := by rw [xIx_eq]
theorem eqSetLc (i : Nat) (src : IF) (is : List Nat) (g : GF) (tt : PTF) (fe : PF) : sSet i (eP (pLcX src is g tt fe)) = sSet i (eP (pLc src is g tt fe)) := by rw [pLcX_eq]
theorem eqSetLcE (i : Nat) (src : IF) (is : List Nat) (g : GF) (tt : PTF) (fe : EF) : sSet i (eLcX src is g tt fe) = sSet i (eLc src is g tt fe) := by rw [eLcX_eq]
theorem eq1 {α β : Type _} {f g : α → β} (h : f = g) (a : α) : f a = g a := by rw [h]
theorem eq2 {α β γ : Type _} {f g : α → β → γ} (h : f = g) (a : α) (b : β) : f a b = g a b := by rw [h]
theorem eq3 {α β γ δ : Type _} {f g : α → β → γ → δ} (h : f = g) (a : α) (b : β) (c : γ) : f a b c = g a b c := by rw [h]
theorem eq5 {α β γ δ ε ζ : Type _} {f g : α → β → γ → δ → ε → ζ} (h : f = g) (a : α) (b : β) (c : γ) (d : δ) (e : ε) : f a b c d e = g a b c d e := by rw [h]
/-! ### going on -/
theorem go_ix {k k' : Kd} {d0 : D} {ds : List D} {i : Int} {d : D} {P : KD → Prop} (hs : d0.seq = some ds) (h : atI ds i = some d) (p : P (kel k d)) : xIx (k, d0) (k', .int i) P := by
  rw [xIx_eq]
  cases d0 <;> cases hs
  · exact ix_tup h p
  · exact ix_lst h p
  · exact ix_kst h p
/-- an item of n told ones -/
theorem go_tab {k k' : Kd} {n i : Nat} {f : Nat → D} {P : KD → Prop} (h : i < n) (p : P (kel k (f i))) : xIx (k, .tup (tabl n f)) (k', .int i) P := go_ix rfl (tabl_at h) p
theorem go_tabl {k k' : Kd} {n i : Nat} {f : Nat → D} {P : KD → Prop} (h : i < n) (p : P (kel k (f i))) : xIx (k, .lst (tabl n f)) (k', .int i) P := go_ix rfl (tabl_at h) p
theorem go_R1 {j : Int} {n : Nat} {P : List KD → Prop} (hj : j = n) (hn : n ≤ 1000000000) (p : P (rangeD 0 n)) : kR1 j P := by
  unfold kR1; rw [hid_eq]
  subst hj
  refine ⟨by omega, by omega, ?_⟩
  rw [Int.toNat_natCast]; exact p
theorem go_R2 {i j : Int} {n : Nat} {P : List KD → Prop} (hj : j - i = n) (h0 : -1000000000000 ≤ i ∧ i ≤ 1000000000000 ∧ -1000000000000 ≤ j ∧ j ≤ 1000000000000) (p : P (rangeD i n)) : kR2 i j P := by
  unfold kR2; rw [hid_eq]
  refine ⟨h0, ?_⟩
  rw [hj, Int.toNat_natCast]; exact p
theorem jT_fl : ∀ {zs : List KD}, (∀ z ∈ zs, z.1 = .fl) → jT zs = .fl
  | [], _ => rfl
  | z :: zs, h => by
    show jn z.1 (jT zs) = .fl
    rw [h z (List.mem_cons_self ..), jT_fl fun y hy => h y (List.mem_cons_of_mem _ hy)]; rfl
theorem jL_fl {zs : List KD} (h : ∀ z ∈ zs, z.1 = .fl) : jL zs = .sh := by unfold jL; rw [jT_fl h]
theorem jL_flm {α : Type} {zs : List α} {f : α → D} : jL (zs.map fun z => ((.fl, f z) : KD)) = .sh := jL_fl fun z hz => by
  obtain ⟨a, _, rfl⟩ := List.mem_map.mp hz; rfl
theorem snd_flm {α : Type} {k : Kd} {zs : List α} {f : α → D} : (zs.map fun z => ((k, f z) : KD)).map (·.2) = zs.map f := by rw [List.map_map]; rfl
/-- a comprehension of flat items over a range -/
theorem go_Lc0 {step : KD → (Option KD → Prop) → Prop} {n : Nat} {P : KD → Prop} (f : Nat → D) (hn : n ≤ 10000000) (hs : ∀ (i : Nat) (N : Option KD → Prop), i < n → N (some (.fl, f i)) → step (.fl, .int i) N) (h : P (.sh, .lst (tabl n f))) : kLc step (rangeD 0 n) P := by
  unfold kLc; rw [hid_eq]
  refine ⟨by rw [range_len]; exact hn, comp_range0 (fun i => (.fl, f i)) hs ?_⟩
  rw [jL_flm, snd_flm]; exact h
theorem go_Lc {step : KD → (Option KD → Prop) → Prop} {zs : List KD} {P : KD → Prop} (f : KD → D) (hn : zs.length ≤ 10000000) (hs : ∀ (i : Nat) z (N : Option KD → Prop), zs[i]? = some z → N (some (.fl, f z)) → step z N) (h : P (.sh, .lst (zs.map f))) : kLc step zs P := by
  unfold kLc; rw [hid_eq]
  refine ⟨hn, comp_map (fun z => (.fl, f z)) hs ?_⟩
  rw [jL_flm, snd_flm]; exact h
/-- over n told items -/
theorem go_LcT {step : KD → (Option KD → Prop) → Prop} {n : Nat} {k : Kd} {g : Nat → D} {P : KD → Prop} (f : Nat → D) (hn : n ≤ 10000000) (hs : ∀ (i : Nat) (N : Option KD → Prop), i < n → N (some (.fl, f i)) → step (kel k (g i)) N) (h : P (.sh, .lst (tabl n f))) : kLc step ((tabl n g).map (kel k)) P := by
  unfold kLc; rw [hid_eq]
  rw [List.map_map]
  refine ⟨by rw [List.length_map, List.length_range]; exact hn, comp_ind (fun i acc => acc = (List.range i).map fun j => (.fl, f j)) rfl (fun i z acc N hz hi hN _ => ?_) fun acc h2 => ?_⟩
  · have hi' : i < n := by
      have := (List.getElem?_eq_some_iff.mp hz).1
      rw [List.length_map, List.length_range] at this; exact this
    rw [List.getElem?_map, List.getElem?_range hi'] at hz
    have e : kel k (g i) = z := Option.some.inj hz
    subst e
    refine hs i N hi' (hN _ ?_)
    rw [hi, List.range_succ, List.map_append]; rfl
  · rw [List.length_map, List.length_range] at h2
    rw [h2, jL_flm, snd_flm]; exact h
theorem go_For {g : GF} {body : SF} {D : DEnds} {zs : List KD} {ρ : Ro} (I : Nat → Ro → Prop) (h0 : I 0 ρ)
    (hs : ∀ (i : Nat) z ρ (N : Ro → Prop), zs[i]? = some z → I i ρ → (∀ ρ', I (i + 1) ρ' → N ρ') → g z ρ fun ρ1 => body { D with nx := N } ρ1) (he : ∀ ρ, I zs.length ρ → D.nx ρ) : kFor g body D zs ρ := by
  unfold kFor; rw [hid_eq]; exact for_ind I h0 hs he
theorem go_For0 {g : GF} {body : SF} {D : DEnds} {n : Nat} {ρ : Ro} (I : Nat → Ro → Prop) (h0 : I 0 ρ)
    (hs : ∀ (i : Nat) ρ (N : Ro → Prop), i < n → I i ρ → (∀ ρ', I (i + 1) ρ' → N ρ') → g (.fl, .int i) ρ fun ρ1 => body { D with nx := N } ρ1) (he : ∀ ρ, I n ρ → D.nx ρ) : kFor g body D (rangeD 0 n) ρ := by
  unfold kFor; rw [hid_eq]; exact for_range0 I h0 hs he
/-- over n told items -/
theorem go_ForT {g : GF} {body : SF} {D : DEnds} {n : Nat} {k : Kd} {f : Nat → DL.D} {ρ : Ro} (I : Nat → Ro → Prop) (h0 : I 0 ρ)
    (hs : ∀ (i : Nat) ρ (N : Ro → Prop), i < n → I i ρ → (∀ ρ', I (i + 1) ρ' → N ρ') → g (kel k (f i)) ρ fun ρ1 => body { D with nx := N } ρ1) (he : ∀ ρ, I n ρ → D.nx ρ) : kFor g body D ((tabl n f).map (kel k)) ρ := by
  refine go_For I h0 (fun i z ρ N hz hi hN => ?_) fun ρ h => he ρ (by rw [List.length_map, tabl_len] at h; exact h)
  rw [List.map_map] at hz
  have hi' : i < n := by
    have := (List.getElem?_eq_some_iff.mp hz).1
    rw [List.length_map, List.length_range] at this; exact this
  rw [List.getElem?_map, List.getElem?_range hi'] at hz
  have e : kel k (f i) = z := Option.some.inj hz
  subst e
  exact hs i ρ N hi' hi hN
theorem go_While {t : TEF} {body : SF} {D : DEnds} {ρ : Ro} (I : Nat → Ro → Prop) (m : Nat) (h0 : I m ρ)
    (hs : ∀ m ρ (N : Ro → Prop), I m ρ → (∀ m' ρ', m' < m → I m' ρ' → N ρ') → t ρ (fun b ρ' => if b = true then body { D with nx := N } ρ' else D.nx ρ') D.ex) : sWhileX t body D ρ := by
  unfold sWhileX; rw [hid_eq]; exact while_ind I m h0 hs
theorem go_LcE {step : KD → Ro → (Option KD → Ro → Prop) → Prop} {zs : List KD} {ρ : Ro} {P : KD → Ro → Prop} (I : Nat → Ro → List KD → Prop) (hn : zs.length ≤ 10000000) (h0 : I 0 ρ [])
    (hs : ∀ (i : Nat) z ρ acc (N : Option KD → Ro → Prop), zs[i]? = some z → I i ρ acc → (∀ y ρ', I (i + 1) ρ' (acc ++ [y]) → N (some y) ρ') → (∀ ρ', I (i + 1) ρ' acc → N none ρ') → step z ρ N) (he : ∀ ρ acc, I zs.length ρ acc → P (jL acc, .lst (acc.map (·.2))) ρ) : kLcE step zs ρ P := by
  unfold kLcE; rw [hid_eq]; exact ⟨hn, compE_ind I h0 hs fun ρ acc h => he ρ acc h⟩
theorem tabl_succ {α : Type} {n : Nat} {f : Nat → α} : tabl (n + 1) f = tabl n f ++ [f n] := by
  unfold tabl; rw [List.range_succ, List.map_append]; rfl
theorem tabl_congr {α : Type} {n : Nat} {f g : Nat → α} (h : ∀ i, i < n → f i = g i) : tabl n f = tabl n g := List.map_congr_left fun i hi => h i (List.mem_range.mp hi)
theorem kel_fl (d : D) : kel .fl d = (.fl, d) := by cases d <;> rfl
/-- an effectful comprehension of flat items over a range: I tells of the state and the items made so far -/
theorem go_LcE0 {step : KD → Ro → (Option KD → Ro → Prop) → Prop} {n : Nat} {ρ : Ro} {P : KD → Ro → Prop} (I : Nat → (Nat → D) → Ro → Prop) (hn : n ≤ 10000000) (d0 : D) (h0 : I 0 (fun _ => d0) ρ)
    (hc : ∀ i f g ρ, (∀ j, j < i → f j = g j) → I i f ρ → I i g ρ)
    (hs : ∀ (i : Nat) f ρ (N : Option KD → Ro → Prop), i < n → I i f ρ → (∀ d f' ρ', (∀ j, j < i → f' j = f j) → f' i = d → I (i + 1) f' ρ' → N (some (.fl, d)) ρ') → step (.fl, .int i) ρ N) (he : ∀ f ρ, I n f ρ → P (.sh, .lst (tabl n f)) ρ) : kLcE step (rangeD 0 n) ρ P := by
  refine go_LcE (fun i ρ acc => ∃ f, I i f ρ ∧ acc = (List.range i).map fun j => (.fl, f j)) (by rw [range_len]; exact hn) ⟨_, h0, rfl⟩ (fun i z ρ acc N hz hi hN _ => ?_) fun ρ acc h => ?_
  · obtain ⟨hi', rfl⟩ := range_get hz
    rw [Int.zero_add]
    obtain ⟨f, hf, rfl⟩ := hi
    refine hs i f ρ N hi' hf fun d f' ρ' h1 h2 h3 => hN _ ρ' ⟨f', h3, ?_⟩
    rw [List.range_succ, List.map_append]
    refine congr (congrArg _ (List.map_congr_left fun j hj => ?_)) ?_
    · show ((Kd.fl, f j) : KD) = (.fl, f' j)
      rw [h1 j (List.mem_range.mp hj)]
    · show [((Kd.fl, d) : KD)] = [(.fl, f' i)]
      rw [h2]
  · obtain ⟨f, hf, rfl⟩ := h
    rw [jL_flm, snd_flm]
    rw [range_len] at hf ⊢
    exact he f ρ hf
/-- an effectful comprehension over a range whose items are flat and told by α: I of the state, C of the item -/
theorem go_LcEA {α : Type} [Inhabited α] (F : α → D) {step : KD → Ro → (Option KD → Ro → Prop) → Prop} {n : Nat} {ρ : Ro} {P : KD → Ro → Prop} (I : Nat → Ro → Prop) (C : Nat → α → Prop) (hn : n ≤ 10000000) (h0 : I 0 ρ)
    (hs : ∀ (i : Nat) ρ (N : Option KD → Ro → Prop), i < n → I i ρ → (∀ c ρ', C i c → I (i + 1) ρ' → N (some (.fl, F c)) ρ') → step (.fl, .int i) ρ N)
    (he : ∀ (g : Nat → α) ρ, (∀ i, i < n → C i (g i)) → I n ρ → P (.sh, .lst (tabl n fun i => F (g i))) ρ) : kLcE step (rangeD 0 n) ρ P := by
  refine go_LcE (fun i ρ acc => I i ρ ∧ ∃ g : Nat → α, (∀ j, j < i → C j (g j)) ∧ acc = (List.range i).map fun j => (.fl, F (g j))) (by rw [range_len]; exact hn) ⟨h0, fun _ => default, fun j h => absurd h (Nat.not_lt_zero _), rfl⟩ (fun i z ρ acc N hz hi hN _ => ?_) fun ρ acc h => ?_
  · obtain ⟨hi', rfl⟩ := range_get hz
    rw [Int.zero_add]
    obtain ⟨hI, g, hg, rfl⟩ := hi
    refine hs i ρ N hi' hI fun c ρ' h1 h2 => hN _ ρ' ⟨h2, fun j => if j = i then c else g j, fun j hj => ?_, ?_⟩
    · show C j (if j = i then c else g j)
      by_cases e : j = i
      · rw [if_pos e, e]; exact h1
      · rw [if_neg e]; exact hg j (by omega)
    · rw [List.range_succ, List.map_append]
      refine congr (congrArg _ (List.map_congr_left fun j hj => ?_)) ?_
      · have := List.mem_range.mp hj
        show ((Kd.fl, F (g j)) : KD) = (.fl, F (if j = i then c else g j))
        rw [if_neg (by omega)]
      · show [((Kd.fl, F c) : KD)] = [(.fl, F (if i = i then c else g i))]
        rw [if_pos rfl]
  · obtain ⟨hI, g, hg, rfl⟩ := h
    rw [range_len] at hI hg ⊢
    rw [jL_flm, snd_flm]
    exact he g ρ hg hI
/-- n items told, and one more -/
theorem tabl_snoc {α : Type} {n : Nat} {f : Nat → α} {x : α} : tabl n f ++ [x] = tabl (n + 1) fun i => if i = n then x else f i := by
  rw [tabl_succ, if_pos rfl, tabl_congr (f := f) (g := fun i => if i = n then x else f i) fun i hi => by rw [if_neg (by omega)]]
theorem getD_lt {α : Type} {l : List α} {i : Nat} {d : α} (h : i < l.length) : l.getD i d = l[i] := by
  rw [List.getD_eq_getElem?_getD, List.getElem?_eq_getElem h]; rfl
theorem erase_map {α β : Type} (f : α → β) (l : List α) (i : Nat) : (l.map f).eraseIdx i = (l.eraseIdx i).map f := by
  rw [List.eraseIdx_eq_take_drop_succ, List.eraseIdx_eq_take_drop_succ, List.map_append, List.map_take, List.map_drop]
theorem erase_perm {α : Type} {l : List α} {i : Nat} (h : i < l.length) : (l[i] :: l.eraseIdx i).Perm l := by
  have e : l = l.take i ++ l[i] :: l.drop (i + 1) := by
    rw [List.getElem_cons_drop]; exact (List.take_append_drop i l).symm
  rw [List.eraseIdx_eq_take_drop_succ]
  exact List.perm_middle.symm.trans (by rw [← e])
theorem list_tabl {α β : Type} {ps : List α} {n : Nat} (d : α) (f : α → β) (h : ps.length = n) : ps.map f = tabl n fun i => f (ps.getD i d) := by
  refine List.ext_getElem? fun i => ?_
  by_cases hi : i < n
  · rw [tabl_get hi, List.getElem?_map, List.getElem?_eq_getElem (by omega), getD_lt (by omega)]; rfl
  · rw [List.getElem?_eq_none (by rw [List.length_map]; omega), List.getElem?_eq_none (by rw [tabl_len]; omega)]
theorem go_pl {d0 : D} {i : Int} {j : Nat} {ds : List D} {c : D} {P : D → (D → D) → Prop} (hd : d0 = .lst ds) (hj : ixN ds.length i = some j) (hc : ds[j]? = some c) (p : P c fun c' => .lst (ds.set j c')) : kPl d0 (.int i) P := by
  subst hd
  unfold kPl; rw [hid_eq]
  show (match ixN ds.length i with
    | some n => (match ds[n]? with | some c => P c (fun c' => .lst (ds.set n c')) | none => False)
    | none => False)
  rw [hj]
  show (match ds[j]? with | some c => P c (fun c' => .lst (ds.set j c')) | none => False)
  rw [hc]; exact p
theorem go_plT {d0 : D} {i : Int} {j : Nat} {ds : List D} {c : D} {P : D → (D → D) → Prop} (hd : d0 = .tup ds) (hj : ixN ds.length i = some j) (hc : ds[j]? = some c) (p : P c fun c' => .tup (ds.set j c')) : kPl d0 (.int i) P := by
  subst hd
  unfold kPl; rw [hid_eq]
  show (match ixN ds.length i with
    | some n => (match ds[n]? with | some c => P c (fun c' => .tup (ds.set n c')) | none => False)
    | none => False)
  rw [hj]
  show (match ds[j]? with | some c => P c (fun c' => .tup (ds.set j c')) | none => False)
  rw [hc]; exact p
theorem go_st {ds : List D} {k' : Kd} {i : Int} {j : Nat} {z : KD} {k : Kd} {P : Kd → D → Prop} (hz : ownK z.1 = true) (hj : ixN ds.length i = some j) (p : P (nk k z.1) (.lst (ds.set j z.2))) : kSt (.lst ds) (k', .int i) z k P := by
  unfold kSt; rw [hid_eq]
  refine ⟨hz, ?_⟩
  show (match ixN ds.length i with
    | some n => P (nk k z.1) (.lst (ds.set n z.2))
    | none => False)
  rw [hj]; exact p
theorem set_tabl {α : Type} {n j : Nat} {f : Nat → α} {x : α} : (tabl n f).set j x = tabl n fun i => if i = j then x else f i := by
  refine List.ext_getElem? fun i => ?_
  by_cases hi : i < n
  · rw [tabl_get hi]
    by_cases e : i = j
    · subst e
      rw [List.getElem?_set_self (by rw [tabl_len]; exact hi), if_pos rfl]
    · rw [List.getElem?_set_ne (fun h => e h.symm), tabl_get hi, if_neg e]
  · rw [List.getElem?_eq_none (by rw [List.length_set, tabl_len]; omega), List.getElem?_eq_none (by rw [tabl_len]; omega)]
theorem go_stT {n : Nat} {f : Nat → D} {k' : Kd} {j : Nat} {z : KD} {k : Kd} {P : Kd → D → Prop} (hz : ownK z.1 = true) (hj : j < n) (p : P (nk k z.1) (.lst (tabl n fun i => if i = j then z.2 else f i))) : kSt (.lst (tabl n f)) (k', .int j) z k P :=
  go_st hz (by rw [tabl_len]; exact ixN_ok hj) (by rw [set_tabl]; exact p)
theorem go_popAt {k k' : Kd} {ds : List D} {i : Int} {j : Nat} {d : D} {P : KD → Kd → D → Prop} (hk : k = .sh ∨ k = .ow) (hn : ds.length ≤ 10000000) (hj : ixN ds.length i = some j) (hd : ds[j]? = some d) (p : P (kmv (if k = .sh then .fl else .ow) d) (nk k .fl) (.lst (ds.eraseIdx j))) : xPopAt k (.lst ds) [(k', .int i)] P := by
  unfold xPopAt; rw [hid_eq]
  refine ⟨hk, hn, ?_⟩
  show (match ixN ds.length i with
    | some n => (match ds[n]? with
      | some d => P (kmv (if k = .sh then .fl else .ow) d) (nk k .fl) (.lst (ds.eraseIdx n))
      | none => False)
    | none => False)
  rw [hj]
  show (match ds[j]? with
      | some d => P (kmv (if k = .sh then .fl else .ow) d) (nk k .fl) (.lst (ds.eraseIdx j))
      | none => False)
  rw [hd]; exact p
theorem go_pop {k : Kd} {ds : List D} {d : D} {P : KD → Kd → D → Prop} (hk : k = .sh ∨ k = .ow) (hd : ds.getLast? = some d) (p : P (kmv (if k = .sh then .fl else .ow) d) (nk k .fl) (.lst ds.dropLast)) : xPop k (.lst ds) [] P := by
  unfold xPop; rw [hid_eq]
  refine ⟨hk, ?_⟩
  show (match ds.getLast? with
    | some d => P (kmv (if k = .sh then .fl else .ow) d) (nk k .fl) (.lst ds.dropLast)
    | none => False)
  rw [hd]; exact p
theorem go_extend {k kz : Kd} {ds es : List D} {P : KD → Kd → D → Prop} (hk : kz = .sh ∨ kz = .sa ∨ kz = .ow) (hn : ds.length + es.length ≤ 10000000) (p : P (.fl, .non) (nk k (if kz = .ow then .ow else .fl)) (.lst (ds ++ es))) : xExtend k (.lst ds) [(kz, .lst es)] P := by
  unfold xExtend; rw [hid_eq]; exact ⟨hk, hn, p⟩
theorem go_remove {k kz : Kd} {ns : List Int} {x : Int} {j : Nat} {P : KD → Kd → D → Prop} (hj : ns[j]? = some x) (hf : ∀ m : Nat, m < j → ns[m]? ≠ some x) (p : P (.fl, .non) (nk k .fl) (.lst ((ns.eraseIdx j).map .int))) : xRemove k (.lst (ns.map .int)) [(kz, .int x)] P := by
  unfold xRemove; rw [hid_eq]; exact ⟨ns, j, rfl, hj, hf, p⟩
theorem go_LR {n : Nat} {i : Int} {P : KD → Prop} (hi : i = n) (hn : n ≤ 1000000) (p : P (.sh, .lst (tabl n fun i : Nat => .int i))) : kLR i P := by
  subst hi
  unfold kLR; rw [hid_eq]
  refine ⟨by omega, by omega, ?_⟩
  rw [Int.toNat_natCast]; exact p
theorem go_TR {n : Nat} {i : Int} {P : KD → Prop} (hi : i = n) (hn : n ≤ 1000000) (p : P (.fl, .tup (tabl n fun i : Nat => .int i))) : kTR i P := by
  subst hi
  unfold kTR; rw [hid_eq]
  refine ⟨by omega, by omega, ?_⟩
  rw [Int.toNat_natCast]; exact p
/-- the sum of n told ints -/
theorem go_sum {k : Kd} {n : Nat} {g : Nat → Int} {P : KD → Prop} (p : P (.fl, .int (sumR n g))) : oSum [(k, .lst (tabl n fun i => .int (g i)))] P := ⟨tabl n g, by unfold tabl; rw [List.map_map]; rfl, p⟩
end
end DL

/-! DL17: an item by an effectful index. -/
namespace DL
open PySem PySem.Spec PyProof.Rows L2
noncomputable section
section
variable {X : Cx} {E : XK} {pos : Pos} {a b : Expr} {fa fb : EF}
theorem de_ix (ha : DE X E a fa) (hb : DE X E b fb) (hs : PlainIx b := by exact fun _ _ => rfl) : DE X E (.Subscript a b pos) (eOp xIx fa fb) := by
  rw [xIx_eq]
  obtain ⟨ta, ea, sa⟩ := ha.run
  obtain ⟨tb, eb, sb⟩ := hb.run
  exact ⟨_, pe_ix ix_seq ea eb hs, es_op os_ix sa sb⟩
end
theorem go_tabE {k k' : Kd} {n i : Nat} {f : Nat → D} {d : D} {P : KD → Prop} (h : i < n) (e : f i = d) (p : P (kel k d)) : xIx (k, .tup (tabl n f)) (k', .int i) P := by
  subst e; exact go_tab h p
theorem go_tablE {k k' : Kd} {n i : Nat} {f : Nat → D} {d : D} {P : KD → Prop} (h : i < n) (e : f i = d) (p : P (kel k d)) : xIx (k, .lst (tabl n f)) (k', .int i) P := by
  subst e; exact go_tabl h p
/-- over the items of a told list -/
theorem go_ForL {α : Type} {L : List α} {F : α → DL.D} {k : Kd} {g : GF} {body : SF} {D : DEnds} {ρ : Ro} (I : Nat → Ro → Prop) (h0 : I 0 ρ)
    (hs : ∀ (i : Nat) a ρ (N : Ro → Prop), L[i]? = some a → I i ρ → (∀ ρ', I (i + 1) ρ' → N ρ') → g (kel k (F a)) ρ fun ρ1 => body { D with nx := N } ρ1) (he : ∀ ρ, I L.length ρ → D.nx ρ) : kFor g body D ((L.map F).map (kel k)) ρ := by
  refine go_For I h0 (fun i z ρ N hz hi hN => ?_) fun ρ h => he ρ (by rw [List.length_map, List.length_map] at h; exact h)
  rw [List.map_map, List.getElem?_map] at hz
  cases e : L[i]? with
  | none => rw [e] at hz; cases hz
  | some a =>
    rw [e] at hz
    have e2 : kel k (F a) = z := Option.some.inj hz
    subst e2
    exact hs i a ρ N e hi hN
theorem go_LcL {α : Type} {L : List α} {G : α → D} {k : Kd} {step : KD → (Option KD → Prop) → Prop} {P : KD → Prop} (f : α → D) (hn : L.length ≤ 10000000)
    (hs : ∀ (i : Nat) a (N : Option KD → Prop), L[i]? = some a → N (some (.fl, f a)) → step (kel k (G a)) N) (h : P (.sh, .lst (L.map f))) : kLc step ((L.map G).map (kel k)) P := by
  unfold kLc; rw [hid_eq]
  refine ⟨by rw [List.length_map, List.length_map]; exact hn, comp_ind (fun i acc => acc = (L.take i).map fun a => (.fl, f a)) rfl (fun i z acc N hz hi hN _ => ?_) fun acc h2 => ?_⟩
  · rw [List.map_map, List.getElem?_map] at hz
    cases e : L[i]? with
    | none => rw [e] at hz; cases hz
    | some a =>
      rw [e] at hz
      have e2 : kel k (G a) = z := Option.some.inj hz
      subst e2
      refine hs i a N e (hN _ ?_)
      rw [hi, take_succ_map e]
  · rw [List.length_map, List.length_map, List.take_length] at h2
    rw [h2, jL_flm, snd_flm]; exact h
/-- a comprehension over a range that takes those with s -/
theorem go_LcF0 {step : KD → (Option KD → Prop) → Prop} {n : Nat} {P : KD → Prop} (s : Nat → Bool) (f : Nat → D) (hn : n ≤ 10000000)
    (hs : ∀ (i : Nat) (N : Option KD → Prop), i < n → (s i = true → N (some (.fl, f i))) → (s i = false → N none) → step (.fl, .int i) N) (h : P (.sh, .lst (((List.range n).filter s).map f))) : kLc step (rangeD 0 n) P := by
  unfold kLc; rw [hid_eq]
  refine ⟨by rw [range_len]; exact hn, comp_ind (fun i acc => acc = ((List.range i).filter s).map fun j => (.fl, f j)) rfl (fun i z acc N hz hi hN hN0 => ?_) fun acc h2 => ?_⟩
  · obtain ⟨hi', rfl⟩ := range_get hz
    rw [Int.zero_add]
    refine hs i N hi' (fun e => hN _ ?_) fun e => hN0 ?_
    · rw [hi, List.range_succ, List.filter_append, List.map_append]
      show _ = _ ++ List.map _ (List.filter s [i])
      rw [List.filter_cons_of_pos e]; rfl
    · rw [hi, List.range_succ, List.filter_append, List.map_append]
      show _ = _ ++ List.map _ (List.filter s [i])
      rw [List.filter_cons_of_neg (by rw [e]; decide)]; exact (List.append_nil _).symm
  · rw [range_len] at h2
    rw [h2, jL_flm, snd_flm]; exact h
theorem go_sumL {α : Type} {k : Kd} {L : List α} {g : α → Int} {P : KD → Prop} (p : P (.fl, .int (L.map g).sum)) : oSum [(k, .lst (L.map fun a => .int (g a)))] P := ⟨L.map g, by rw [List.map_map]; rfl, p⟩
theorem take_sum {α : Type} {L : List α} {f : α → Int} {i : Nat} {a : α} (h : L[i]? = some a) : ((L.take (i + 1)).map f).sum = ((L.take i).map f).sum + f a := by
  rw [take_succ_map h, List.sum_append]; simp
theorem filter_sum (n : Nat) (s : Nat → Bool) (f : Nat → Int) : (((List.range n).filter s).map f).sum = sumR n fun i => if s i = true then f i else 0 := by
  induction n with
  | zero => rfl
  | succ n ih =>
    rw [List.range_succ, List.filter_append, List.map_append, List.sum_append, ih, sumR_succ]
    cases e : s n
    · rw [List.filter_cons_of_neg (by rw [e]; decide)]; simp
    · rw [List.filter_cons_of_pos e]; simp
/-- an effectful comprehension whose items are flat and told by α: I of the state, C of the item -/
theorem go_LcEG {α : Type} [Inhabited α] (F : α → D) {step : KD → Ro → (Option KD → Ro → Prop) → Prop} {zs : List KD} {n : Nat} {ρ : Ro} {P : KD → Ro → Prop} (z : Nat → KD) (hl : zs.length = n) (hz : ∀ i, i < n → zs[i]? = some (z i)) (I : Nat → Ro → Prop) (C : Nat → α → Prop) (hn : n ≤ 10000000) (h0 : I 0 ρ)
    (hs : ∀ (i : Nat) ρ (N : Option KD → Ro → Prop), i < n → I i ρ → (∀ c ρ', C i c → I (i + 1) ρ' → N (some (.fl, F c)) ρ') → step (z i) ρ N)
    (he : ∀ (g : Nat → α) ρ, (∀ i, i < n → C i (g i)) → I n ρ → P (.sh, .lst (tabl n fun i => F (g i))) ρ) : kLcE step zs ρ P := by
  refine go_LcE (fun i ρ acc => I i ρ ∧ ∃ g : Nat → α, (∀ j, j < i → C j (g j)) ∧ acc = (List.range i).map fun j => (.fl, F (g j))) (by rw [hl]; exact hn) ⟨h0, fun _ => default, fun j h => absurd h (Nat.not_lt_zero _), rfl⟩ (fun i z' ρ acc N hz' hi hN _ => ?_) fun ρ acc h => ?_
  · have hi' : i < n := hl ▸ (List.getElem?_eq_some_iff.mp hz').1
    rw [hz i hi'] at hz'
    cases hz'
    obtain ⟨hI, g, hg, rfl⟩ := hi
    refine hs i ρ N hi' hI fun c ρ' h1 h2 => hN _ ρ' ⟨h2, fun j => if j = i then c else g j, fun j hj => ?_, ?_⟩
    · show C j (if j = i then c else g j)
      by_cases e : j = i
      · rw [if_pos e, e]; exact h1
      · rw [if_neg e]; exact hg j (by omega)
    · rw [List.range_succ, List.map_append]
      refine congr (congrArg _ (List.map_congr_left fun j hj => ?_)) ?_
      · have := List.mem_range.mp hj
        show ((Kd.fl, F (g j)) : KD) = (.fl, F (if j = i then c else g j))
        rw [if_neg (by omega)]
      · show [((Kd.fl, F c) : KD)] = [(.fl, F (if i = i then c else g i))]
        rw [if_pos rfl]
  · obtain ⟨hI, g, hg, rfl⟩ := h
    rw [hl] at hI hg ⊢
    rw [jL_flm, snd_flm]
    exact he g ρ hg hI
theorem go_LcET {α : Type} [Inhabited α] (F : α → D) {step : KD → Ro → (Option KD → Ro → Prop) → Prop} {n : Nat} {k : Kd} {G : Nat → D} {ρ : Ro} {P : KD → Ro → Prop} (I : Nat → Ro → Prop) (C : Nat → α → Prop) (hn : n ≤ 10000000) (h0 : I 0 ρ)
    (hs : ∀ (i : Nat) ρ (N : Option KD → Ro → Prop), i < n → I i ρ → (∀ c ρ', C i c → I (i + 1) ρ' → N (some (.fl, F c)) ρ') → step (kel k (G i)) ρ N)
    (he : ∀ (g : Nat → α) ρ, (∀ i, i < n → C i (g i)) → I n ρ → P (.sh, .lst (tabl n fun i => F (g i))) ρ) : kLcE step ((tabl n G).map (kel k)) ρ P :=
  go_LcEG F (fun i => kel k (G i)) (by rw [List.length_map, tabl_len]) (fun i hi => by rw [List.getElem?_map, tabl_get hi]; rfl) I C hn h0 hs he
/-- one of some items -/
theorem go_ixC {k k' : Kd} {d0 : D} {ds : List D} {i : Int} {P : KD → Prop} (C : D → Prop) (hs : d0.seq = some ds) (h : ∃ d, atI ds i = some d ∧ C d) (p : ∀ d, C d → P (kel k d)) : xIx (k, d0) (k', .int i) P := by
  obtain ⟨d, e, c⟩ := h
  exact go_ix hs e (p d c)
theorem rep_tabl {α : Type} (n : Nat) (x : α) : (List.replicate n [x]).flatten = tabl n fun _ => x := by
  induction n with
  | zero => rfl
  | succ n ih =>
    rw [tabl_succ, ← ih, List.replicate_succ']
    rw [List.flatten_append]; rfl
end
end DL

/-! DL18: enumerate and zip as sources. -/
namespace DL
open PySem PySem.Spec PyProof.Rows L2
open AutoSeq1 (wpAny_loadPart')
theorem enum_newT (l : Addr) (its : Array Value) (n : Nat) (dct : Option Addr) (sl : Array (Option Value)) :
    Meets (Builtin.«enumerate.__new__» ⟨[.type "enumerate", .ref l], []⟩) (fun _ R s => s.heap.get? l = some { cls := .type "tuple", dict := dct, data := .seq its n, slots := sl } ∧
      R (.ok (.ret (.ref (s.heap.push { cls := .type "tuple_iterator", data := .fields #[.ref l, .int 0 0] }).objs.size)))
        { s with heap := (s.heap.push { cls := .type "tuple_iterator", data := .fields #[.ref l, .int 0 0] }).push { cls := .type "enumerate", data := .fields #[.none, .bool false, .ref s.heap.objs.size, rawInt 0, .none, .none] } }) := by
  refine .of_wp fun prog w A R st h => ?_
  obtain ⟨hp, g, d, tk, os⟩ := st
  obtain ⟨hl, h⟩ := h
  have hsub := sub_enumerate
  have hT : Heap.IsTuple (Shared.heap ⟨hp, g, d, tk, os⟩) l its := ⟨_, hl, rfl, n, rfl⟩
  wp_walk using wpAny_loadPart' hl
  refine wpAny_stack_any fun st2 => wpAny_pure ?_
  split
  · rename_i c _ _ _ _ _
    cases (c == Value.type "enumerate") <;> (wp_walk using wpAny_loadPart' hl, wpAny_pyIter_tuple hT; exact ⟨_, rfl, h⟩)
  · wp_walk using wpAny_loadPart' hl, wpAny_pyIter_tuple hT
    exact ⟨_, rfl, h⟩
section
variable {prog : Program} {w : World} {A : Around} {E : Value → Shared → Prop} {s : Shared}
theorem call_enumT {l : Addr} {its : Array Value} {Q : Value → Shared → Prop} (hL : s.heap.IsTuple l its)
    (h : ∀ h', IsEnum h' (s.heap.objs.size + 1) s.heap.objs.size 0 .none → h'.IsTupleIter s.heap.objs.size l 0 →
      (∀ b o, s.heap.get? b = some o → h'.get? b = some o) → Q (.ref (s.heap.objs.size + 1)) { s with heap := h' }) : wpAny (model prog w) A (call (.type "enumerate") [.ref l]) Q E s := by
  obtain ⟨⟨c, dct, dt, sl⟩, hl, hc, n, hd⟩ := hL
  have hc2 : c = .type "tuple" := hc
  have hd2 : dt = .seq its n := hd
  subst hc2 hd2
  refine callType_new F.called_enumerate (by decide) (F.typeCall_enumerate_1 _) (F.newCall_enumerate_1 _) (fun obj => F.args_object_init_2 obj _) F.entry_enumerate_new (enum_newT l its n dct sl) ⟨hl, ?_⟩
  have hz : (s.heap.push { cls := .type "tuple_iterator", data := .fields #[.ref l, .int 0 0] }).objs.size = s.heap.objs.size + 1 := by rw [Heap.size_push]
  show _ ∧ _
  rw [hz]
  have he : IsEnum ((s.heap.push { cls := .type "tuple_iterator", data := .fields #[.ref l, .int 0 0] }).push { cls := .type "enumerate", data := .fields #[.none, .bool false, .ref s.heap.objs.size, rawInt 0, .none, .none] })
      (s.heap.objs.size + 1) s.heap.objs.size 0 .none := by
    have q := Heap.get?_push_size (s.heap.push { cls := .type "tuple_iterator", data := .fields #[.ref l, .int 0 0] }) (o := { cls := .type "enumerate", data := .fields #[.none, .bool false, .ref s.heap.objs.size, rawInt 0, .none, .none] }) rfl
    rw [hz] at q; exact q
  exact ⟨⟨_, he, rfl⟩, h _ he ⟨_, Heap.get?_push_of_some _ (Heap.get?_push_size _ rfl), rfl, rfl⟩ fun b o x => Heap.get?_push_of_some _ (Heap.get?_push_of_some _ x)⟩
theorem pyNext_enumT_end {e it l : Addr} {i : Nat} {its : Array Value} {old : Value} {Q : Option Value → Shared → Prop} (hh : A.handled = none) (he : IsEnum s.heap e it i old) (hit : s.heap.IsTupleIter it l i) (hl : s.heap.IsTuple l its) (hx : its[i]? = none)
    (hQ : ∀ h', Heap.ExtBut it s.heap h' → Q none { s with heap := h' }) : wpAny (model prog w) A (pyNext (.ref e)) Q E s := by
  have hT : s.TypeIs (.ref e) "enumerate" := ⟨_, he, rfl⟩
  unfold pyNext
  refine wpAny_bind (wpAny_attempt (wpAny_callSpecial?_slot (name := Str.ofString "__next__") hT F.slot_enumerate_next (wpAny_call_entry F.slot_enumerate_next hT F.entry_enumerate_next ?_ (F.args_enumerate_next_1 _))))
  show wpAny _ _ (field (.ref e) 2 >>= _) _ _ _
  refine wpAny_bind (wpAny_field he rfl (x := .ref it) rfl (wpAny_bind (wpAny_nextOf_tuple_end hh hit hl hx fun h' x he' hx' => ?_)))
  obtain ⟨o, ho, hc⟩ := hx'
  exact wpAny_bind (wpAny_isInstance (T := "StopIteration") (b := true) ⟨o, ho, hc⟩ isSubtype_stop (wpAny_pure (hQ _ he')))
end
/-- the tuple at a, each item in a new pair with its number -/
def IteT (K : PySem.W.Frag) (a : Addr) : It :=
  ⟨fun i H => ∃ (xs : List V) (x : V), SqT K H a xs ∧ xs[i]? = some x, fun i H v H' => ∃ T x, v = .ref T ∧ H T = none ∧ H' = upd H T (.tup [.int (i : Nat), x]) ∧ ∀ xs, SqT K H a xs → xs[i]? = some x, fun i H => ∃ xs : List V, SqT K H a xs ∧ xs.length ≤ i⟩
theorem turn_enumT {P : Program} {w : World} {K : PySem.W.Frag} {elts : List Expr} {kk : Nat} {tpos : Pos} (a e it : Addr) :
    Turn P w K (.Tuple elts kk tpos) (IteT K a) [e, it] e (fun i h => (∃ old, IsEnum h e it ((i : Nat) : Int) old) ∧ h.IsTupleIter it a i ∧ e ≠ it) where
  mem := by simp
  obj := fun i h st b hb => by
    obtain ⟨⟨old, he⟩, ⟨o, ho, hc, hd⟩, _⟩ := st
    rcases (by simpa using hb : b = e ∨ b = it) with z | z
    · rw [z]; exact ⟨_, he, fun v q => nomatch q⟩
    · rw [z]; exact ⟨o, ho, fun v q => by rw [hd] at q; cases q⟩
  keep := fun i h h' st k => ⟨⟨st.1.choose, k e (by simp) _ st.1.choose_spec⟩, st.2.1.at fun o q => k it (by simp) o q, st.2.2⟩
  item := by
    intro X hP hw hK hc i pins s σ H E I hf st hg
    subst hP hw hK
    obtain ⟨⟨old, he⟩, hit, hne⟩ := st
    obtain ⟨xs, x, hq, hx⟩ := hg
    obtain ⟨its, rv, p, hz⟩ := I.tuple hq
    obtain ⟨u, hu, ru⟩ := rv.get hx
    have hi : i < its.toArray.size := by rw [List.size_toArray]; exact (List.getElem?_eq_some_iff.mp hu).1
    have pT : s.heap.IsTuple a its.toArray := p
    have hai : a ≠ it := fun q => by
      obtain ⟨o, ho, hcl, _⟩ := pT
      obtain ⟨o2, ho2, hc2, _⟩ := hit
      rw [q, ho2] at ho
      cases ho
      rw [hc2] at hcl
      injection hcl with q2
      exact absurd q2 (by decide)
    have hae : e ≠ a := fun q => by
      obtain ⟨o, ho, hcl, _⟩ := pT
      rw [← q, he] at ho
      cases ho
      injection hcl with q2
      exact absurd q2 (by decide)
    have hel : e < s.heap.objs.size := Heap.lt_size he
    have hil : it < s.heap.objs.size := by obtain ⟨_, q, _⟩ := hit; exact Heap.lt_size q
    refine wpAny_pyNext_enum_itemD (Draws.tuple (show X.A.in1.handled = none from I.ok.hd hc) it a hai its.toArray) he ⟨hit, pT⟩ hi hne (by simp [hne, hae]) fun v h' tk hv ho hit' hT hsz hk => ?_
    have ev : v = u := by
      have q : its.toArray[i]? = some u := by simpa using hu
      rw [q] at hv; exact (Option.some.inj hv).symm
    subst ev
    refine ⟨_, rfl, wpAny_letOwnedTupleGo_enum (s := { s with heap := h', toks := tk + 1 }) ho fun h'' he' sb => ?_⟩
    have hT2 : h''.get? s.heap.objs.size = some { cls := .type "tuple", data := .seq #[.int i tk, v] } := (sb.2 _ (Nat.ne_of_gt hel)).trans hT
    have new : ObjOk X.prog X.w (upd H s.heap.objs.size (.tup [.int (i : Nat), x])) h'' s.heap.objs.size (.tup [.int (i : Nat), x]) := ⟨by show 2 ≤ sizeLine; decide, [.int i tk, v], .cons ⟨_, rfl⟩ (.cons ru .nil), ⟨_, hT2, rfl, _, rfl⟩⟩
    have I1 : Inv X pins σ (upd H s.heap.objs.size (.tup [.int (i : Nat), x])) { s with heap := h'', toks := tk + 1 } :=
      I.turnedNew (ch := [e, it]) (fun b ob hb q => (sb.2 b (fun z => hb (by simp [z]))).trans (hk b ob (fun z => hb (by simp [z])) (fun z => hb (by simp [z])) q)) hf (Nat.le_refl _) new
    refine ⟨.ref s.heap.objs.size, _, I1, rfl, ⟨_, x, rfl, I.hok.fresh (Nat.le_refl _), rfl, fun ys hy => by rw [I.tuple_inj hy hq]; exact hx⟩, ⟨⟨v, ?_⟩, hit'.1.at fun o q => (sb.2 it (Ne.symm hne)).trans q, hne⟩, fun b hb => ?_⟩
    · rw [show ((i + 1 : Nat) : Int) = (i : Int) + 1 by omega]; exact he'
    · have hb' : b < s.heap.objs.size := by
        rcases (by simpa using hb : b = e ∨ b = it) with z | z
        · rw [z]; exact hel
        · rw [z]; exact hil
      rw [upd_ne (Nat.ne_of_lt hb')]
      exact (hf b hb).1
  done := by
    intro X hP hw hK hc i pins s σ H E I hf st hg
    subst hP hw hK
    obtain ⟨⟨old, he⟩, hit, hne⟩ := st
    obtain ⟨xs, hq, hx⟩ := hg
    obtain ⟨its, rv, p, hz⟩ := I.tuple hq
    obtain ⟨f0, f1, f2, f3, f4, f5⟩ := hf it (by simp)
    have hl := rv.length
    exact pyNext_enumT_end (I.ok.hd hc) he hit (show s.heap.IsTuple a its.toArray from p) (by simp; omega) fun h' eb => ⟨rfl, I.turned (t' := s.toks) (fun b o hb q => eb b o hb q) f0 f1 f3 f4 f5⟩
  self := fun A i s Q E st h => wpAny_pyIter_enum st.1.choose_spec h
def iEnumT (K : PySem.W.Frag) (ta : TA) : TI := fun σ H R => ta σ H fun vs H1 => ∃ a xs, vs = [.ref a] ∧ ((SqL K H1 a xs ∧ R (Ite K a) H1) ∨ (SqT K H1 a xs ∧ R (IteT K a) H1))
theorem pi_enumA {X : Cx} {e : Expr} {ta : TA} {p pos tpos : Pos} {elts : List Expr} {kk : Nat} (hg : Gl X "enumerate") (hm : X.mg "enumerate" = none) (ha : PA X [e] ta) (hs : starEach [e] X.env = [(false, eval e X.env)] := by rfl) :
    PI X (.Tuple elts kk tpos) (.Call (.Name "enumerate" p) [e] [] pos) (iEnumT X.K ta) := by
  refine ⟨fun pins s σ H R I h => ?_⟩
  refine Call_ (ld_blt I hg hm boot_enumerate (PyProof.Rows.callWith_type1 (thn (ha.run pos pins s σ H _ I h) fun us s1 ⟨vs, H1, I1, r1, q1⟩ => ?_) hs rfl))
  obtain ⟨a, xs, ex, q1⟩ := q1
  subst ex
  cases r1 with
  | cons r rr =>
    cases rr
    cases r
    have fresh2 : ∀ b ∈ [s1.heap.objs.size + 1, s1.heap.objs.size], FpOk X pins H1 b := fun b hb => by
      have hle : s1.heap.objs.size ≤ b := by
        rcases (by simpa using hb : b = s1.heap.objs.size + 1 ∨ b = s1.heap.objs.size) with z | z
        · rw [z]; exact Nat.le_succ _
        · rw [z]; exact Nat.le_refl _
      exact I1.fpOk hle (I1.hok.fresh hle)
    rcases q1 with ⟨hq, q⟩ | ⟨hq, q⟩
    · obtain ⟨its, rv, p', hz⟩ := I1.list hq
      refine call_enumerate_list p'.isList fun h' he hit hsz hk => wpAny_pyIter_enum he ?_
      exact ⟨s1.heap.objs.size + 1, [s1.heap.objs.size + 1, s1.heap.objs.size], _, _, H1, rfl, I1.kept (t' := s1.toks) hk, turn_enum a (s1.heap.objs.size + 1) s1.heap.objs.size, ⟨⟨.none, he⟩, hit, Nat.succ_ne_self _⟩, fresh2, q⟩
    · obtain ⟨its, rv, p', hz⟩ := I1.tuple hq
      refine call_enumT (show s1.heap.IsTuple a its.toArray from p') fun h' he hit hk => wpAny_pyIter_enum he ?_
      exact ⟨s1.heap.objs.size + 1, [s1.heap.objs.size + 1, s1.heap.objs.size], _, _, H1, rfl, I1.kept (t' := s1.toks) hk, turn_enumT a (s1.heap.objs.size + 1) s1.heap.objs.size, ⟨⟨.none, he⟩, hit, Nat.succ_ne_self _⟩, fresh2, q⟩
theorem walk_enumT {K : PySem.W.Frag} {a : Addr} {xs : List V} : Walk (IteT K a) xs.length (fun H => SqT K H a xs) (YPair (fun i => some (.int (i : Nat))) (fun i => xs[i]?)) := by
  refine ⟨fun i _ hi q => ⟨xs, xs[i], q, by simp [hi]⟩, fun _ q => ⟨xs, q, Nat.le_refl _⟩, fun i H v H' _ q y => ?_⟩
  obtain ⟨T, x, h1, h2, h3, h4⟩ := y
  exact ⟨T, .int (i : Nat), x, h1, h2, h3, rfl, h4 xs q⟩
section
variable {K : Frg} {B : Addr → Prop} {H H' : Hp} {Z : Addr → Prop}
theorem OkZ.refl : OkZ Z H H := fun _ _ h _ => h
/-- what is walked: a list or a tuple that stays while the walk goes on -/
theorem seq_src {k : Kd} {d : D} {ds : List D} {v : V} (hz : ∀ a, Z a → ¬ B a ∧ ∃ o, H a = some o ∧ Mu o) (s : Same H H') (p : PR K B (Fre2 H H') H' v (k, d)) (e : d.seq = some ds) :
    ∃ q vs, v = .ref q ∧ RAs K (k.elA B (Fre2 H H')) H' ds vs ∧ ((∀ H2, OkZ Z H' H2 → SqL K H2 q vs) ∨ (∀ H2, OkZ Z H' H2 → SqT K H2 q vs)) := by
  cases d with
  | lst es =>
    cases e
    obtain ⟨q, vs, ev, t, a, r⟩ := p.lp
    exact ⟨q, vs, ev, r, .inl fun H2 ok => .of (ok q _ t (zFre fre2 hz s q _ t (.inl a)))⟩
  | tup es =>
    cases e
    obtain ⟨q, vs, ev, t, r⟩ := p.tupT
    exact ⟨q, vs, ev, r, .inr fun H2 ok => SqT.keep (ok.keep (fre2 (H := H')) hz s) t⟩
  | kst es =>
    cases e
    obtain ⟨q, vs, ev, t, r⟩ := p.kstT
    exact ⟨q, vs, ev, r, .inl fun H2 ok => kst_seq (kst_keep (ok.keep (fre2 (H := H')) hz s) t)⟩
  | _ => cases e
/-- a new pair, read -/
def pairK (k k' : Kd) : Kd := match k.el, k'.el with
  | .fl, .fl => .fl
  | _, _ => .rd
theorem pair_VR {k k' : Kd} {F : Addr → Prop} {T : Addr} {x y : V} {d d' : D} {H2 : Hp} (h1 : RA K (k.elA B F) H2 d x) (h2 : RA K (k'.elA B F) H2 d' y) (hT : H2 T = none) :
    Same H2 (upd H2 T (.tup [x, y])) ∧ VR K (Or2 B F) (upd H2 T (.tup [x, y])) (pairK k k', .tup [d, d']) (.ref T) [] := by
  have sm : Same H2 (upd H2 T (.tup [x, y])) := same_upd hT
  refine ⟨sm, ?_⟩
  have t : SqT K (upd H2 T (.tup [x, y])) T [x, y] := .inl (.inl upd_same)
  rcases el_cases k with e | e <;> rcases el_cases k' with e' | e'
  · have a1 : RA K No H2 d x := by cases k <;> first | exact h1 | cases e
    have a2 : RA K No H2 d' y := by cases k' <;> first | exact h2 | cases e'
    rw [show pairK k k' = .fl by unfold pairK; rw [e, e']]
    exact ⟨rfl, T, [x, y], rfl, t, .cons (a1.same sm) (.one (a2.same sm))⟩
  all_goals (
    have a1 : RA K (Or2 B F) H2 d x := by cases k <;> first | exact h1 | exact h1.no
    have a2 : RA K (Or2 B F) H2 d' y := by cases k' <;> first | exact h2 | exact h2.no
    rw [show pairK k k' = .rd by unfold pairK; rw [e, e']]
    exact ⟨rfl, T, [x, y], rfl, t, .cons (a1.same sm) (.one (a2.same sm))⟩)
def enumD (k : Kd) (ds : List D) : List KD := ds.mapIdx fun i d => (k.el, .tup [.int i, d])
theorem enumD_len {k : Kd} {ds : List D} : (enumD k ds).length = ds.length := List.length_mapIdx
theorem enumD_get {k : Kd} {ds : List D} {i : Nat} {d : D} (h : ds[i]? = some d) : (enumD k ds)[i]? = some (k.el, .tup [.int i, d]) := by
  unfold enumD; rw [List.getElem?_mapIdx, h]; rfl
theorem enumD_of {k : Kd} {ds : List D} {i : Nat} {z : KD} (h : (enumD k ds)[i]? = some z) : ∃ d, ds[i]? = some d ∧ z = (k.el, .tup [.int i, d]) := by
  unfold enumD at h
  rw [List.getElem?_mapIdx] at h
  cases e : ds[i]? with
  | none => rw [e] at h; cases h
  | some d => rw [e] at h; exact ⟨d, rfl, (Option.some.inj h).symm⟩
theorem pairK_fl (k : Kd) : pairK .fl k = k.el := by cases k <;> rfl
theorem walks_pair {J : It} {n : Nat} {G : Hp → Prop} {xs ys : Nat → Option V} {zs : List KD} {k k' : Kd} {F : Addr → Prop} (hw : Walk J n G (YPair xs ys)) (hn : zs.length = n) (hg : ∀ H2, OkZ Z H' H2 → G H2)
    (hi : ∀ i z, zs[i]? = some z → ∃ d d', z = (pairK k k', .tup [d, d']) ∧ ∀ x y, xs i = some x → ys i = some y → ∀ H2, OkZ Z H' H2 → RA K (k.elA B F) H2 d x ∧ RA K (k'.elA B F) H2 d' y) : Walks K J (OkZ Z H') (Or2 B F) zs := by
  subst hn
  refine ⟨_, _, hw, hg, fun i H2 x H3 z hzz ok y => ?_⟩
  obtain ⟨d, d', rfl, f⟩ := hi i z hzz
  obtain ⟨T, x, y, rfl, hT, rfl, ex, ey⟩ := y
  obtain ⟨a1, a2⟩ := f x y ex ey H2 ok
  exact pair_VR a1 a2 hT
end
def iEn (f : PAF) : IF := fun ρ P => f ρ fun zs => match zs with
  | [(k, d)] => (match d.seq with
    | some ds => P (enumD k ds)
    | none => False)
  | _ => False
section
variable {X : Cx}
theorem di_enum {a : Expr} {f : PAF} {p pos tpos : Pos} {elts : List Expr} {kk : Nat} (hg : Gl X "enumerate") (hm : X.mg "enumerate" = none) (ha : DA X [a] 1 f) (hs : starEach [a] X.env = [(false, eval a X.env)] := by rfl) :
    DI X (.Tuple elts kk tpos) (.Call (.Name "enumerate" p) [a] [] pos) (iEn f) := by
  obtain ⟨t, e, s⟩ := ha.run
  refine ⟨_, pi_enumA hg hm e hs, fun σ H A ρ ow R P Z g hz h q => ?_⟩
  refine s σ H A ρ ow _ _ g h fun zs vs H1 _ hh s1 p1 => ?_
  split at hh
  · rename_i k d _
    obtain ⟨v, ev, p2⟩ := p1.get1
    subst ev
    cases e2 : d.seq with
    | none => rw [e2] at hh; exact hh.elim
    | some ds =>
      rw [e2] at hh
      obtain ⟨y, vs, rfl, r, t⟩ := seq_src hz s1 p2.tr e2
      have key : ∀ i z, (enumD k ds)[i]? = some z → ∃ d d', z = (pairK .fl k, .tup [d, d']) ∧ ∀ x y, (some (V.int (i : Nat)) : Option V) = some x → vs[i]? = some y → ∀ H2, OkZ Z H1 H2 → RA X.K (Kd.fl.elA (BB A ow) (Fre2 H H1)) H2 d x ∧ RA X.K (k.elA (BB A ow) (Fre2 H H1)) H2 d' y := fun i z hzz => by
        obtain ⟨d, hd, rfl⟩ := enumD_of hzz
        refine ⟨.int i, d, by rw [pairK_fl], fun x y hx hy H2 ok => ⟨?_, ?_⟩⟩
        · cases hx; rfl
        · obtain ⟨w, hw, rw'⟩ := (elA_keeps (ok.keep (fre2 (H := H1)) hz s1) r).get hd
          rw [hy] at hw
          cases hw
          exact rw'
      have hl : (enumD k ds).length = vs.length := by rw [enumD_len, r.len]
      rcases t with t | t
      · exact ⟨y, vs, rfl, .inl ⟨t H1 .refl, q _ _ H1 hh s1 (walks_pair (k := .fl) (k' := k) walk_enum hl t key)⟩⟩
      · exact ⟨y, vs, rfl, .inr ⟨t H1 .refl, q _ _ H1 hh s1 (walks_pair (k := .fl) (k' := k) walk_enumT hl t key)⟩⟩
  · exact hh.elim
end
end DL

/-! DL19: two names at once, two places at once. -/
namespace DL
open PySem PySem.Spec PyProof.Rows L2
noncomputable section
def sPar (i j : Nat) (g : AEF) : SF := fun D ρ => g ρ (fun avs ρ1 => match avs with
  | [.v a, .v b] => D.nx ((ρ1.set i (some a)).set j (some b))
  | _ => False) D.ex
def sSwap (f : PF) (pl1 : PLF) (f1 : PF) (pl2 : PLF) (f2 : PF) : SF := fun D ρ => f ρ fun z => match z with
  | (.fl, .tup [a, b]) => pl1 ρ fun i k e rb => f1 ρ fun y => kSt e y (.fl, a) k fun k' e' =>
      pl2 (ρ.set i (some (k', rb e'))) fun i2 k2 e2 rb2 => f2 (ρ.set i (some (k', rb e'))) fun y2 => kSt e2 y2 (.fl, b) k2 fun k2' e2' => D.nx ((ρ.set i (some (k', rb e'))).set i2 (some (k2', rb2 e2')))
  | _ => False
section
variable {X : Cx} {E : XK} {pr : List Nat} {pos : Pos}
theorem ds_par (i j : Nat) {x y : Str} {a b : Expr} {g : AEF} {px py pt : Pos} {kt k2 pt2} (hc : X.calm = true) (hN : X.N.Nodup) (ha : DAE X E [a, b] 2 g) (hpi : i ∉ pr := by decide) (hpj : j ∉ pr := by decide) (hij : i ≠ j := by decide) (hi : X.N[i]? = some x := by rfl) (hj : X.N[j]? = some y := by rfl)
    (hx : X.env.scope.names.lookup x = some .local := by rfl) (hy : X.env.scope.names.lookup y = some .local := by rfl)
    (hw : swappedStores [.Tuple [.Name x px, .Name y py] kt pt] (.Tuple [a, b] k2 pt2) X.env = pure (some [x, y]) := by rfl)
    (hs : swapsWithSole [.Tuple [.Name x px, .Name y py] kt pt] (.Tuple [a, b] k2 pt2) pos.line X.env = pure false := by rfl) : DS X E pr (.Assign [.Tuple [.Name x px, .Name y py] kt pt] (.Tuple [a, b] k2 pt2) pos) (sPar i j g) := by
  obtain ⟨ta, ea, sa⟩ := ha.run
  refine ⟨_, ps_par hc hN hi hj hij hx hy ea hw hs, fun σ H A ρ ow T D gd h nx rt ex => ?_⟩
  refine sa σ H A ρ ow _ _ _ gd h (fun avs ρ1 vs H1 fp ow1 A1 hl h1 st1 g1 r nd dis => ?_) fun C ρ1 H1 ow1 A1 h1 st1 g1 => ex C ρ1 σ H1 ow1 A1 h1 st1 g1 fun _ _ => rfl
  split at h1
  · rename_i za zb
    obtain ⟨v, ws, f1, f2, rfl, rfl, r1, w, ws', f3, f4, rfl, rfl, r2, rfl, rfl⟩ := r
    rw [List.append_nil] at nd dis st1
    have nd2 := nd
    rw [List.append_assoc] at nd2
    obtain ⟨n1, n2, n3⟩ := List.nodup_append.mp nd2
    obtain ⟨ow2, g2, s2⟩ := g1.put (i := i) ⟨r1, (List.nodup_append.mpr ⟨n1, (List.nodup_append.mp n2).2.1, fun a ha b hb => n3 a ha b (List.mem_append_right _ hb)⟩), fun a ha => dis a (List.mem_append_left _ ha)⟩
    have hnd : (f3 ++ ow2).Nodup := List.nodup_append.mpr ⟨(List.nodup_append.mp n2).1, g2.nd, fun a ha b hb => by
      rcases s2 b hb with z | z
      · exact (List.nodup_append.mp n2).2.2 a ha b z
      · exact fun e => n3 b z a (List.mem_append_left _ ha) e.symm⟩
    obtain ⟨ow3, g3, s3⟩ := g2.put (i := j) ⟨r2, hnd, fun a ha => dis a (List.mem_append_right _ ha)⟩
    refine ⟨v, w, rfl, nx _ _ H1 ow3 A1 h1 (st1.sub fun a ha => ?_) g3 fun k hk => ?_⟩
    · rcases s3 a ha with z | z
      · rcases s2 a z with z | z
        · exact List.mem_append_right _ z
        · exact List.mem_append_left _ (List.mem_append_left _ z)
      · exact List.mem_append_left _ (List.mem_append_right _ z)
    · rw [set_ne_pr hpj k hk, set_ne_pr hpi k hk]
  · exact h1.elim
theorem gsub_ok {K : Frg} {to ti : TE} {pl : PLF} {fi : PF} {A1 : Addr → Prop} {H1 : Hp} {ρ1 : Ro} {σ : L2.St} {ow1 : List Addr} {z : KD} {v : V} {P : Ro → Prop} {Q : L2.St → Hp → Prop} (so : PLSound K to pl) (si : PSound K ti fi)
    (g1 : Good K A1 H1 ρ1 σ ow1) (o1 : VR K A1 H1 z v []) (h : pl ρ1 fun i k e rb => fi ρ1 fun y => kSt e y z k fun k' e' => P (ρ1.set i (some (k', rb e'))))
    (q : ∀ ρ' H' ow', P ρ' → Good K A1 H' ρ' σ ow' → Stp H1 ow1 A1 H' ow' A1 → Q σ H') : gSub to ti rSetL v σ H1 Q := by
  refine so σ H1 A1 ρ1 ow1 _ _ g1 h fun i k e rb w H2 h2 s2 p2 => ?_
  refine si σ H2 A1 ρ1 ow1 _ _ (g1.same s2) h2 fun y yv H3 h3 s3 p3 => ?_
  have s := s2.trans s3
  unfold kSt at h3
  rw [hid_eq] at h3
  obtain ⟨hk, h3⟩ := h3
  split at h3
  · rename_i ds j q1
    obtain ⟨ky, dy⟩ := y
    dsimp only at q1
    subst q1
    obtain rfl : yv = .int j := p3.ra
    split at h3
    · rename_i n hn
      have o3 : VR K A1 H3 z v [] := o1.same s
      obtain ⟨fe0, r, nd, _, hsh, mtt⟩ := (p2.same s3).mut (fa := []) (g1.same s) (g1.same s).nd fun a h => nomatch h
      obtain ⟨p, vs, fe', ew, hp, hl, hpf, r', nd', sub⟩ := list_set r (o3.rown hk) nd (ixN_lt hn)
      subst ew
      have hk' : nk k z.1 = .ow ∨ (nk k z.1 = .sh ∧ k = .sh ∧ Shal K (upd H3 p (.lst (vs.set n v))) (.lst (ds.set n z.2)) (.ref p)) := by
        obtain ⟨kz, dz⟩ := z
        cases k <;> cases kz <;> first
          | exact .inl rfl
          | exact .inr ⟨rfl, rfl, shal_set (hsh rfl) hp o3.2⟩
      obtain ⟨ow', st', g', _⟩ := mtt (.lst (ds.set n z.2)) (nk k z.1) [] (.fl, .non) .non _ fe' (fun a o e n => by rw [upd_ne (fun z => n (by rw [z]; exact hpf))]; exact e) r' hk' ⟨rfl, rfl⟩ nd' fun a h => (sub a (by simpa using h)).elim .inl fun z => .inr (.inl z)
      refine ⟨p, vs, j, n, rfl, rfl, hp, by rw [hl]; exact hn, ?_⟩
      exact q _ _ ow' h3 g' ((Stp.of_same s).trans (st'.sub fun a h => by simpa using h))
    · exact h3.elim
  · exact h3.elim
theorem ds_swap {o1 i1 o2 i2 : Expr} {es : List Expr} {p1 p2 pt pt2 : Pos} {kt kt2 : Nat} {f : PF} {pl1 pl2 : PLF} {f1 f2 : PF} (hc : X.calm = true) (he : DP X (.Tuple es kt2 pt2) f) (ho1 : DPl X o1 pl1) (hi1 : DP X i1 f1) (ho2 : DPl X o2 pl2) (hi2 : DP X i2 f2)
    (hs : swapsWithSole [.Tuple [.Subscript o1 i1 p1, .Subscript o2 i2 p2] kt pt] (.Tuple es kt2 pt2) pos.line X.env = pure false := by rfl) (hw : swappedStores [.Tuple [.Subscript o1 i1 p1, .Subscript o2 i2 p2] kt pt] (.Tuple es kt2 pt2) X.env = pure none := by rfl)
    (h1 : (assignEach [.Tuple [.Subscript o1 i1 p1, .Subscript o2 i2 p2] kt pt] X.env).map (·.2) = [assign (.Tuple [.Subscript o1 i1 p1, .Subscript o2 i2 p2] kt pt) X.env] := by rfl)
    (hn : (assignEach [.Subscript o1 i1 p1, .Subscript o2 i2 p2] X.env).length = 2 := by rfl) (hst : (assignEach [.Subscript o1 i1 p1, .Subscript o2 i2 p2] X.env).findIdx? (·.1) = none := by rfl)
    (ha1 : (assignEach [.Subscript o1 i1 p1, .Subscript o2 i2 p2] X.env).map (·.2) = assign (.Subscript o1 i1 p1) X.env :: (assignEach [.Subscript o2 i2 p2] X.env).map (·.2) := by rfl)
    (ha2 : (assignEach [.Subscript o2 i2 p2] X.env).map (·.2) = assign (.Subscript o2 i2 p2) X.env :: (assignEach [] X.env).map (·.2) := by rfl)
    (hg1 : ∀ v, assign (.Subscript o1 i1 p1) X.env v = (do
      let a ← holding [v] (eval o1 X.env)
      let b ← holding [v, a] (eval i1 X.env)
      standAt p1
      holding [v, a, b] (setItem a b v)
      release [v, a, b] []) := by intro _; rfl)
    (hg2 : ∀ v, assign (.Subscript o2 i2 p2) X.env v = (do
      let a ← holding [v] (eval o2 X.env)
      let b ← holding [v, a] (eval i2 X.env)
      standAt p2
      holding [v, a, b] (setItem a b v)
      release [v, a, b] []) := by intro _; rfl) :
    DS X E pr (.Assign [.Tuple [.Subscript o1 i1 p1, .Subscript o2 i2 p2] kt pt] (.Tuple es kt2 pt2) pos) (sSwap f pl1 f1 pl2 f2) := by
  obtain ⟨te, ee, se⟩ := he.run
  obtain ⟨to1, eo1, so1⟩ := ho1.run
  obtain ⟨ti1, ei1, si1⟩ := hi1.run
  obtain ⟨to2, eo2, so2⟩ := ho2.run
  obtain ⟨ti2, ei2, si2⟩ := hi2.run
  refine ⟨_, ps_asg ee (pg_tup hc (pgs_cons (pg_sub eo1 ei1 set_list hg1) (pgs_cons (pg_sub eo2 ei2 set_list hg2) pgs_nil ha2) ha1) hn hst) hs hw h1, fun σ H A ρ ow T D gd h nx rt ex => ?_⟩
  refine se σ H A ρ ow _ _ gd h fun z v H1 hz s1 pz => ?_
  split at hz
  · rename_i a b
    obtain ⟨q, vs, rfl, t, r⟩ := pz.tupT
    obtain ⟨x, r1, rfl, rx, y, r2, rfl, ry, r3⟩ := r
    have r3' : r2 = [] := r3
    subst r3'
    refine ⟨q, [x, y], rfl, t, rfl, x, [y], rfl, ?_⟩
    have gd1 := gd.same s1
    refine gsub_ok (K := X.K) (z := (.fl, a)) (P := fun ρ' => pl2 ρ' fun i2 k2 e2 rb2 => f2 ρ' fun y2 => kSt e2 y2 (.fl, b) k2 fun k2' e2' => D.nx (ρ'.set i2 (some (k2', rb2 e2')))) so1 si1 gd1 ⟨rfl, rx⟩ hz fun ρ2 H2 ow2 hz2 g2 st2 => ?_
    refine ⟨y, [], rfl, ?_⟩
    have ky : Keep A H1 H2 := gd1.keepA st2
    refine gsub_ok (K := X.K) (z := (.fl, b)) (P := D.nx) so2 si2 g2 ⟨rfl, RA.keep ky.no _ _ ry⟩ hz2 fun ρ3 H3 ow3 hz3 g3 st3 => ?_
    exact ⟨rfl, nx _ σ H3 ow3 A hz3 ((Stp.of_same s1).trans (st2.trans st3)) g3 fun _ _ => rfl⟩
  · exact hz.elim
end
/-- the kind of a list of n lists -/
def kO : Nat → Kd
  | 0 => .sh
  | _ + 1 => .ow
theorem kO_cases (n : Nat) : kO n = .sh ∨ kO n = .ow := by cases n <;> first | exact .inl rfl | exact .inr rfl
theorem kO_ow {n : Nat} (h : 1 ≤ n) : kO n = .ow := by
  cases n with
  | zero => omega
  | succ n => rfl
theorem jT_ow : ∀ {zs : List KD}, (∀ z ∈ zs, z.1 = .sh ∨ z.1 = .ow) → zs ≠ [] → jT zs = .ow
  | [], _, h => absurd rfl h
  | [z], h, _ => by
    show jn z.1 .fl = .ow
    rcases h z (List.mem_singleton.mpr rfl) with e | e <;> rw [e] <;> rfl
  | z :: y :: zs, h, _ => by
    show jn z.1 (jT (y :: zs)) = .ow
    rw [jT_ow (zs := y :: zs) (fun w hw => h w (List.mem_cons_of_mem _ hw)) (by simp)]
    rcases h z (List.mem_cons_self ..) with e | e <;> rw [e] <;> rfl
theorem jL_sh {n : Nat} {f : Nat → D} : jL ((List.range n).map fun i => ((.sh, f i) : KD)) = kO n := by
  cases n with
  | zero => rfl
  | succ n =>
    unfold jL
    rw [jT_ow (fun z hz => by obtain ⟨a, _, rfl⟩ := List.mem_map.mp hz; exact .inl rfl) (by rw [List.range_succ]; simp)]
    rfl
/-- a comprehension of own lists over a range -/
theorem go_LcS0 {step : KD → (Option KD → Prop) → Prop} {n : Nat} {P : KD → Prop} (f : Nat → D) (hn : n ≤ 10000000) (hs : ∀ (i : Nat) (N : Option KD → Prop), i < n → N (some (.sh, f i)) → step (.fl, .int i) N) (h : P (kO n, .lst (tabl n f))) : kLc step (rangeD 0 n) P := by
  unfold kLc; rw [hid_eq]
  refine ⟨by rw [range_len]; exact hn, comp_range0 (fun i => (.sh, f i)) hs ?_⟩
  rw [jL_sh, snd_flm]; exact h
theorem go_LcST {step : KD → (Option KD → Prop) → Prop} {n : Nat} {k : Kd} {g : Nat → D} {P : KD → Prop} (f : Nat → D) (hn : n ≤ 10000000) (hs : ∀ (i : Nat) (N : Option KD → Prop), i < n → N (some (.sh, f i)) → step (kel k (g i)) N) (h : P (kO n, .lst (tabl n f))) : kLc step ((tabl n g).map (kel k)) P := by
  unfold kLc; rw [hid_eq]
  rw [List.map_map]
  refine ⟨by rw [List.length_map, List.length_range]; exact hn, comp_ind (fun i acc => acc = (List.range i).map fun j => (.sh, f j)) rfl (fun i z acc N hz hi hN _ => ?_) fun acc h2 => ?_⟩
  · have hi' : i < n := by
      have := (List.getElem?_eq_some_iff.mp hz).1
      rw [List.length_map, List.length_range] at this; exact this
    rw [List.getElem?_map, List.getElem?_range hi'] at hz
    have e : kel k (g i) = z := Option.some.inj hz
    subst e
    refine hs i N hi' (hN _ ?_)
    rw [hi, List.range_succ, List.map_append]; rfl
  · rw [List.length_map, List.length_range] at h2
    rw [h2, jL_sh, snd_flm]; exact h
/-- enumerate over n told items -/
theorem enumD_tabl {k : Kd} {n i : Nat} {f : Nat → D} (h : i < n) : (enumD k (tabl n f))[i]? = some (k.el, .tup [.int i, f i]) := enumD_get (tabl_get h)
theorem go_ForEn {g : GF} {body : SF} {D : DEnds} {n : Nat} {k : Kd} {f : Nat → DL.D} {ρ : Ro} (I : Nat → Ro → Prop) (h0 : I 0 ρ)
    (hs : ∀ (i : Nat) ρ (N : Ro → Prop), i < n → I i ρ → (∀ ρ', I (i + 1) ρ' → N ρ') → g (k.el, .tup [.int i, f i]) ρ fun ρ1 => body { D with nx := N } ρ1) (he : ∀ ρ, I n ρ → D.nx ρ) : kFor g body D (enumD k (tabl n f)) ρ := by
  refine go_For I h0 (fun i z ρ N hz hi hN => ?_) fun ρ h => he ρ (by rw [enumD_len, tabl_len] at h; exact h)
  have hi' : i < n := by
    have := (List.getElem?_eq_some_iff.mp hz).1
    rw [enumD_len, tabl_len] at this; exact this
  rw [enumD_tabl hi'] at hz
  cases hz
  exact hs i ρ N hi' hi hN
/-! lists of flat items that stand in another's data -/
theorem RA.no_flat {K : Frg} {A : Addr → Prop} {H : Hp} {d : D} {v : V} (h : RA K A H d v) (e : d.flat1 = true) : RA K No H d v := by
  cases d <;> first | exact h | cases e
theorem RAs.no_flat {K : Frg} {A : Addr → Prop} {H : Hp} : ∀ {ds : List D} {vs : List V}, RAs K A H ds vs → ds.all D.flat1 = true → RAs K No H ds vs
  | [], _, h, _ => h
  | d :: ds, _, ⟨w, ws, e, h, t⟩, c => by
    rw [List.all_cons, Bool.and_eq_true] at c
    exact ⟨w, ws, e, h.no_flat c.1, RAs.no_flat t c.2⟩
def oTupleF : List KD → (KD → Prop) → Prop := fun zs P => match zs with
  | [(_, d)] => (match d.seq with
    | some ds => ds.all D.flat1 = true ∧ P (.fl, .tup ds)
    | none => False)
  | _ => False
def oListF : List KD → (KD → Prop) → Prop := fun zs P => match zs with
  | [(_, d)] => (match d.seq with
    | some ds => ds.all D.flat1 = true ∧ P (.sh, .lst ds)
    | none => False)
  | _ => False
section
variable {K : Frg}
theorem cs_tupleF : CallS K (fun xs H Q => ∃ p ys, xs = [.ref p] ∧ ((SqL K H p ys ∧ ∀ l, H l = none → Q (.ref l) (upd H l (.tup ys))) ∨ (SqT K H p ys ∧ Q (.ref p) H))) oTupleF := by
  intro B F H vs xs P Q pr hF h q
  unfold oTupleF at h
  split at h
  · rename_i k d
    obtain ⟨v, ev, p⟩ := pr.get1
    cases e : d.seq with
    | none => rw [e] at h; exact h.elim
    | some ds =>
      rw [e] at h
      obtain ⟨c, hP⟩ := h
      obtain ⟨a, us, ea, t, r⟩ := p.seq e
      subst ev ea
      refine ⟨a, us, rfl, ?_⟩
      have r0 : RAs K No H ds us := RAs.no_flat (RAs.elor (B := B) (F := F) r) c
      rcases t with t | t
      · exact .inl ⟨t, fun l hl => q _ _ _ hP (same_upd hl) (pr_tup (k := .fl) r0 hl)⟩
      · exact .inr ⟨t, q _ _ H hP (Same.refl H) (.fl ⟨a, us, rfl, t, r0⟩)⟩
  · exact h.elim
theorem cs_listF : CallS K (fun xs H Q => ∃ p ys, xs = [.ref p] ∧ (SqL K H p ys ∨ SqT K H p ys) ∧ ∀ l, H l = none → Q (.ref l) (upd H l (.lst ys))) oListF := by
  intro B F H vs xs P Q pr hF h q
  unfold oListF at h
  split at h
  · rename_i k d
    obtain ⟨v, ev, p⟩ := pr.get1
    cases e : d.seq with
    | none => rw [e] at h; exact h.elim
    | some ds =>
      rw [e] at h
      obtain ⟨c, hP⟩ := h
      obtain ⟨a, us, ea, t, r⟩ := p.seq e
      subst ev ea
      have r0 : RAs K No H ds us := RAs.no_flat (RAs.elor (B := B) (F := F) r) c
      exact ⟨a, us, rfl, t, fun l hl => q _ _ _ hP (same_upd hl) (pr_lst (k := .fl) r0 hl (hF l hl))⟩
  · exact h.elim
end
theorem flat_ints {n : Nat} {f : Nat → Int} : (tabl n fun i => D.int (f i)).all D.flat1 = true :=
  List.all_eq_true.mpr fun d hd => by
    obtain ⟨i, _, rfl⟩ := List.mem_map.mp hd; rfl
theorem go_tabI {k k' : Kd} {n i : Nat} {x : Int} {f : Nat → D} {P : KD → Prop} (e : x = (i : Int)) (h : i < n) (p : P (kel k (f i))) : xIx (k, .tup (tabl n f)) (k', .int x) P := by
  subst e; exact go_tab h p
theorem go_tablI {k k' : Kd} {n i : Nat} {x : Int} {f : Nat → D} {P : KD → Prop} (e : x = (i : Int)) (h : i < n) (p : P (kel k (f i))) : xIx (k, .lst (tabl n f)) (k', .int x) P := by
  subst e; exact go_tabl h p
theorem snocI {n : Nat} {g : Nat → Int} {y : Int} : (tabl n fun j => D.int (g j)) ++ [D.int y] = tabl (n + 1) fun j => D.int (if j = n then y else g j) := by
  rw [tabl_snoc]
  refine tabl_congr fun i _ => ?_
  by_cases q : i = n
  · rw [if_pos q, if_pos q]
  · rw [if_neg q, if_neg q]
end
end DL

/-! DL20: a stop between two statements, where the slots are written out anew. -/
namespace DL
open PySem PySem.Spec PyProof.Rows L2
noncomputable section
@[irreducible] def kNext (f : SF) (D : DEnds) (ρ : Ro) : Prop := hid (f D ρ)
def sBar (f : SF) : SF := fun D ρ => kNext f D ρ
theorem sBar_eq (f : SF) : sBar f = f := by
  unfold sBar kNext
  simp only [hid_eq]
theorem ds_bar {X : Cx} {E : XK} {pr : List Nat} {st : List Stmt} {f : SF} (h : DSs X E pr st f) : DSs X E pr st (sBar f) := (sBar_eq f).symm ▸ h
theorem go_next {f : SF} {D : DEnds} {ρ : Ro} (h : f D ρ) : kNext f D ρ := by
  unfold kNext; rw [hid_eq]; exact h
end
end DL

/-! DL21: for over what an expression with effects tells. -/
namespace DL
open PySem PySem.Spec PyProof.Rows L2
noncomputable section
def sForE (fe : EF) (g : GF) (body : SF) : SF := fun D ρ => fe ρ (fun z ρ1 => match z.2.seq with
  | some ds => kFor g body D (ds.map (kel z.1.rdk)) ρ1
  | none => False) D.ex
section
variable {X : Cx} {E : XK} {pr : List Nat} {pos : Pos}
/-- what is left of a for, when its iterator is J -/
def tForJ (g : TG) (tb : TS) (T : Ends) (J : It) (σ : L2.St) (H1 : Hp) : Prop :=
  ∃ W : Nat → Nat → L2.St → Hp → Prop, (∃ m, W 0 m σ H1) ∧ ∀ (i m : Nat) (σ : L2.St) (H : Hp), W i m σ H → J.stop i H ∧ T.nx σ H ∨ J.go i H ∧ ∃ N : L2.St → Hp → Prop, (∀ (σ' : L2.St) (H' : Hp), N σ' H' → ∃ m', m' < m ∧ W (i + 1) m' σ' H') ∧
    ∀ (x : V) (H' : Hp), J.yld i H x H' → g x σ H' fun σ2 H2 => tb { nx := N, rt := T.rt, bk := T.nx, ct := N } σ2 H2
theorem kFor_eq (g : GF) (f : SF) (D : DEnds) (zs : List KD) (ρ : Ro) : kFor g f D zs ρ = forD g f D zs ρ := by unfold kFor; rw [hid_eq]
theorem for_core {K : Frg} {tgT : TG} {is : List Nat} {g : GF} {tb : TS} {f : SF} {A B : Addr → Prop} {H0 H1 : Hp} {σ : L2.St} {ρ : Ro} {ow ow0 : List Addr} {T : Ends} {D : DEnds} {zs : List KD} {J : It} {A0 : Addr → Prop}
    (sg : GSound K is tgT g) (sb : SSound K E pr tb f) (hpr : (is.all fun i => !pr.contains i) = true) (gd : Good K A H1 ρ σ ow) (st0 : Stp H0 ow0 A0 H1 ow A)
    (wk : Walks K J (OkZ (fun a => a ∈ ow) H1) B zs) (hB : ∀ a, B a → A a) (hz : forD g f D zs ρ)
    (nx : ∀ ρ' σ' H' ow' A', D.nx ρ' → Stp H0 ow0 A0 H' ow' A' → Good K A' H' ρ' σ' ow' → (∀ i ∈ pr, σ'[i]? = σ[i]?) → T.nx σ' H')
    (rt : ∀ z ρ' v σ' H' fp ow' A', D.rt z ρ' → Stp H0 ow0 A0 H' (fp ++ ow') A' → Good K A' H' ρ' σ' ow' → Own K A' H' z v fp ow' → (∀ i ∈ pr, σ'[i]? = σ[i]?) → T.rt v H')
    (ex : ∀ C ρ' σ' H' ow' A', D.ex C ρ' → Stp H0 ow0 A0 H' ow' A' → Good K A' H' ρ' σ' ow' → (∀ i ∈ pr, σ'[i]? = σ[i]?) → E (.ref (He.ga K C)) none H') :
    tForJ tgT tb T J σ H1 := by
  obtain ⟨G, Y, walk, hG, hY⟩ := wk
  refine for_it walk (fun i σ' H' => ∃ ρ' ow' A', Good K A' H' ρ' σ' ow' ∧ Stp H1 ow A H' ow' A' ∧ forD g f D (zs.drop i) ρ' ∧ ∀ j ∈ pr, σ'[j]? = σ[j]?) ⟨ρ, ow, _, gd, Stp.refl, hz, fun _ _ => rfl⟩ ?_ ?_ ?_
  · rintro i σ' H' _ ⟨ρ', ow', A', _, st, _⟩
    exact hG H' fun a o e n => st.same a o e n
  · rintro i x σ' H' H2 hi ⟨ρ', ow', A', g', st, hf, hpr'⟩ y
    have hzi : zs[i]? = some zs[i] := List.getElem?_eq_getElem hi
    obtain ⟨s2, vz⟩ := hY i H' x H2 zs[i] hzi (fun a o e n => st.same a o e n) y
    rw [List.drop_eq_getElem_cons hi] at hf
    have hstep : g zs[i] ρ' fun ρ1 => f { D with nx := fun ρ' => forD g f D (zs.drop (i + 1)) ρ' } ρ1 := hf
    have vA : VR K A' H2 zs[i] x [] := vz.mono fun a h => st.up a (hB a h)
    refine sg x zs[i] [] σ' H2 A' ρ' ow' _ _ (g'.same s2) ⟨vA, by simpa using g'.nd, fun a h => (nomatch h)⟩ hstep fun ρ1 σ1 ow1 h1 g1' sub1 w1 => ?_
    have st1 : Stp H1 ow A H2 ow1 A' := (st.trans (Stp.of_same s2)).sub fun a h => by
      rcases sub1 a h with h | h
      · exact h
      · cases h
    have pr1 : ∀ j ∈ pr, σ1[j]? = σ[j]? := fun j hj => by
      have hl : σ1.length = σ'.length := by rw [← wipe_length σ1 is, w1, wipe_length]
      have e : (wipe σ1 is)[j]? = (wipe σ' is)[j]? := by rw [w1]
      have nj : j ∉ is := fun z => by
        have := List.all_eq_true.mp hpr j z
        simp [hj] at this
      rw [wipe_get, wipe_get, if_neg (fun z => nj z.1), if_neg (fun z => nj z.1)] at e
      exact e.trans (hpr' j hj)
    refine sb σ1 H2 A' ρ1 ow1 _ _ g1' h1 (fun ρ3 σ3 H3 ow3 A3 h3 st3 g3 p3 => ⟨ρ3, ow3, A3, g3, st1.trans st3, h3, fun j hj => (p3 j hj).trans (pr1 j hj)⟩) (fun z ρ3 v σ3 H3 fp ow3 A3 h3 st3 g3 o3 p3 => ?_) (fun C ρ3 σ3 H3 ow3 A3 h3 st3 g3 p3 => ?_)
    · exact rt z ρ3 v σ3 H3 fp ow3 A3 h3 (st0.trans (st1.trans st3)) g3 o3 fun j hj => (p3 j hj).trans (pr1 j hj)
    · exact ex C ρ3 σ3 H3 ow3 A3 h3 (st0.trans (st1.trans st3)) g3 fun j hj => (p3 j hj).trans (pr1 j hj)
  · rintro σ' H' ⟨ρ', ow', A', g', st, hf, hpr'⟩
    rw [List.drop_eq_nil_of_le (Nat.le_refl _)] at hf
    exact nx ρ' σ' H' ow' A' hf (st0.trans st) g' hpr'
theorem ds_forE {tg iter : Expr} {body : List Stmt} {fe : EF} {is : List Nat} {g : GF} {f : SF} (hp : PassesOwn (model X.prog X.w) X.A X.env X.xe) (hc : X.calm = true) (hi : DE X E iter fe) (hg : DG X tg is g) (hb : DSs X E pr body f) (hpr : (is.all fun i => !pr.contains i) = true := by rfl)
    (hs : ∀ x, foldedSetIterable iter X.env x = pure x := by intro _; rfl) : DS X E pr (.For tg iter body [] pos) (sForE fe g f) := by
  obtain ⟨te, pe, se⟩ := hi.run
  obtain ⟨tg', pg, sg⟩ := hg.run
  obtain ⟨tb, pb, sb⟩ := hb.run
  refine ⟨_, ps_for hp hc (pi_seq pe) pg pb hs, fun σ H A ρ ow T D gd h nx rt ex => ?_⟩
  refine se σ H A ρ ow _ _ _ gd h (fun z ρ1 v H1 fp ow1 A1 h1 st1 g1 o1 => ?_) (fun C ρ1 H1 ow1 A1 h1 st1 g1 => ex C ρ1 σ H1 ow1 A1 h1 st1 g1 fun _ _ => rfl)
  have gA : Good X.K (fun a => A1 a ∨ a ∈ fp) H1 ρ1 σ ow1 := ⟨g1.rep.mono fun _ h => .inl h, g1.nd, (fun a h z => by
      rcases z with z | z
      · exact g1.dis a h z
      · exact (List.nodup_append.mp o1.nd).2.2 a z a h rfl), (fun a h => by
      rcases h with h | h
      · exact g1.tr a h
      · obtain ⟨o', e', _⟩ := o1.rep.mu a h; exact ⟨o', e'⟩)⟩
  have vA : VR X.K (fun a => A1 a ∨ a ∈ fp) H1 (z.1.rdk, z.2) v [] := o1.rep.rdk2 fun _ h => h
  have st : Stp H ow A H1 ow1 (fun a => A1 a ∨ a ∈ fp) := st1.trans ⟨fun _ _ e _ => e, fun a h => .inl (List.mem_append_right _ h), fun _ h => .inl h, fun a h => h.elim .inl fun h => .inr (.inl (List.mem_append_left _ h))⟩
  have pz : PR X.K (fun a => A1 a ∨ a ∈ fp) No H1 v (z.1.rdk, z.2) := ⟨[], vA.mono fun _ h => .inl h, List.nodup_nil, fun a h => (nomatch h)⟩
  have hF : ∀ a, No a → H1 a = none := fun _ h => h.elim
  have hZ : ∀ a, a ∈ ow1 → ¬ (fun a => A1 a ∨ a ∈ fp) a ∧ ∃ o, H1 a = some o ∧ Mu o := fun a h => ⟨gA.dis a h, gA.rep.mu a h⟩
  have core : ∀ (J : It) (ds : List DL.D), z.2.seq = some ds → Walks X.K J (OkZ (fun a => a ∈ ow1) H1) (Or2 (fun a => A1 a ∨ a ∈ fp) No) (ds.map (kel z.1.rdk)) → tForJ tg' tb T J σ H1 := fun J ds e wk => by
    rw [e] at h1
    dsimp only at h1
    rw [kFor_eq] at h1
    exact for_core sg sb hpr gA st wk (fun a h => h.elim id fun z => z.elim) h1 nx rt ex
  obtain ⟨k, d⟩ := z
  cases d with
  | lst ds =>
    obtain ⟨p, vs, ev, t, a, r⟩ := pz.lp
    refine ⟨p, ev, .inl ⟨⟨vs, .of t⟩, core _ ds rfl (walks_lst hF hZ (Same.refl H1) (fun H2 ok => .of (ok p _ t ?_)) r)⟩⟩
    exact zFre hF hZ (Same.refl H1) p _ t (.inl a)
  | tup ds =>
    obtain ⟨p, vs, ev, t, r⟩ := pz.tupT
    exact ⟨p, ev, .inr ⟨⟨vs, t⟩, core _ ds rfl (walks_tup hF hZ (Same.refl H1) t r)⟩⟩
  | kst ds =>
    obtain ⟨p, vs, ev, t, r⟩ := pz.kstT
    exact ⟨p, ev, .inl ⟨⟨vs, kst_seq t⟩, core _ ds rfl (walks_lst hF hZ (Same.refl H1) (fun H2 ok => kst_seq (kst_keep (ok.keep hF hZ (Same.refl H1)) t)) r)⟩⟩
  | _ => exact h1.elim
end
end
end DL

/-! DL22: defs entered with no guard on the stack (so that repr can be told). -/
namespace DL
open PySem PySem.Spec PyProof PyProof.Rows L2
/-- room, and no guard -/
structure RoomG (k : Nat) (A : Around) : Prop where
  room : Room k A
  free : A.guards = some []
theorem RoomG.mono {j k : Nat} {A : Around} (h : RoomG k A) (l : j ≤ k) : RoomG j A := ⟨h.room.mono l, h.free⟩
theorem RoomG.units {k : Nat} {A : Around} (h : RoomG k A) : A.units + 64 < cLine := h.room.units
theorem RoomG.deeper {k : Nat} {A : Around} (h : RoomG (k + 1) A) (env : Env) : RoomG k (A.deeper env) := ⟨h.room.deeper env, h.free⟩
structure GOk (P : Program) (w : World) (K : PySem.W.Frag) (mg : Str → Option Value) (base : Heap) (CX : CXT) (k : Nat) (f : Addr) (ps : List Str) (sp : Sp) : Prop where
  len : ∀ (vs : List V) (H : Hp) (Q : VK) (E : XK), sp vs H Q E → vs.length = ps.length
  run : ∀ (A : Around) (outer : List Env) (s : Shared) (H : Hp) (us : List Value) (vs : List V) (Q : VK) (E : XK), RoomG k A → Env0 P w K mg base A outer s H → Vals vs us → sp vs H Q E →
    codeAny (model P w) A (.call (.ref f) { pos := us }) (CR CX outer P w H s Q E) s
theorem GOk.mono {P : Program} {w : World} {K : PySem.W.Frag} {mg : Str → Option Value} {base : Heap} {CX : CXT} {j k : Nat} {f : Addr} {ps : List Str} {sp : Sp} (h : GOk P w K mg base CX j f ps sp) (l : j ≤ k) : GOk P w K mg base CX k f ps sp :=
  ⟨h.len, fun A outer s H us vs Q E hr => h.run A outer s H us vs Q E (hr.mono l)⟩
/-- how a def binds its positional arguments -/
abbrev BndG (x qual : Str) (params : Arguments) (body : List Stmt) (scope : Scope) (ps : List Str) : Prop := ∀ (kV doc pm : Value) (an : Option Addr) (cdv ct : Value) (us : List Value), us.length = ps.length →
  bindArgs (PySem.W.fnOf x qual params body scope .none kV doc pm an cdv ct) ⟨us, []⟩ = pure (ps.zip us)
theorem gok_of {P : Program} {w : World} {K : PySem.W.Frag} {mg : Str → Option Value} {base : Heap} {x qual : Str} {params : Arguments} {body : List Stmt} {scope : Scope} {f : Addr} {fd : FuncData} {CX : CXT} {N ps : List Str} {k : Nat} {sp : Sp}
    (F : FunD K x qual params body scope [] [] f fd) (B : BndG x qual params body scope ps) (S : FnScope N ps scope) (hl : ∀ (vs : List V) (H : Hp) (Q : VK) (E : XK), sp vs H Q E → vs.length = ps.length)
    (hb : ∀ (cdv : Value) (A : Around) (outer : List Env) (s : Shared) (H : Hp) (vs : List V) (Q : VK) (E : XK), RoomG k (A.deeper (envOfC qual scope s.heap.objs.size f cdv)) → sp vs H Q E →
      ∃ t, PSs (cxOf CX P w K mg base N qual scope f cdv A outer s H E) body t ∧ t { nx := fun _ H' => Q V.non H', rt := Q } (L2.start N vs) H) :
    GOk P w K mg base CX (k + 1) f ps sp := by
  refine ⟨hl, fun A outer s H us vs Q E hr E0 hv h => ?_⟩
  obtain ⟨oc, od, dV, kV, doc, pm, an, cdv, ct, osl, efd, hlk, hcd, hdv, _⟩ := F.ex
  have edv : dV = .none := by
    rcases hdv with ⟨_, e⟩ | ⟨e, _⟩
    · exact e
    · exact absurd rfl e
  subst edv efd
  have keep : ∀ b o, base.get? b = some o → s.heap.get? b = some o := fun b o e => (E0.bs b o e).1
  have kin : K.In s.heap := E0.mod.kin.keeps keep
  have lenV : us.length = ps.length := by rw [← hl vs H Q E h, hv.length]
  obtain ⟨t, pt, st⟩ := hb cdv A outer s H vs Q E (hr.deeper _) h
  refine codeAny_call_cells (o := ⟨oc, od, _, osl⟩) (fd := PySem.W.fnOf x qual params body scope .none kV doc pm an cdv ct) (body := body) (binds := ps.zip us) hr.room.depth (kin f _ hlk) rfl (E0.mod.nolimit.keeps keep) (PySem.W.codeRec_of kin hcd) rfl
    (B kV doc pm an cdv ct us lenV) rfl (fun y hy => ?_) (fun s1 hin => ?_) S.co S.gen S.kind
  · have hp := List.of_mem_zip (a := y.1) (b := y.2) hy
    rcases S.par y.1 hp.1 with e | e
    · exact .inl e
    · exact .inr ⟨e, PySem.W.cellsFrom_some _ _ _ (.inl e)⟩
  · have I : L2.Inv (cxOf CX P w K mg base N qual scope f cdv A outer s H E) [] (L2.start N vs) H s1 := inv_start S hr.room.hd E0 (hl vs H Q E h) hv hin
    refine wpAny_mono (pt.run [] s1 _ H _ I st) (fun fl s' hq => ?_) fun e s' hq => hq
    match fl, hq with
    | .next, ⟨σ', H', I', q⟩ => exact ⟨.non, H', I'.os, I'.bare, I'.base, I'.hok, rfl, q⟩
    | .brk, ⟨σ', H', I', q⟩ => exact q.elim
    | .cont, ⟨σ', H', I', q⟩ => exact q.elim
    | .ret u, ⟨v, σ', H', I', r, q⟩ => exact ⟨v, H', I'.os, I'.bare, I'.base, I'.hok, r, q⟩
theorem run_gok {X : Cx} {CX : CXT} {k : Nat} {f : Addr} {ps : List Str} {sp : Sp} {E : XK} {pins : List (Addr × Obj)} {σ : L2.St} {H : Hp} {s : Shared} {Q : VK} {us : List Value} {vs : List V}
    (F : GOk X.prog X.w X.K X.mg X.base CX k f ps sp) (hr : RoomG k X.A) (hx : Passes CX X E) (I : L2.Inv X pins σ H s) (r : Vals vs us) (h : sp vs H Q E) : wpAny (model X.prog X.w) X.A (call (.ref f) us) (EP X pins σ Q) X.xe s := by
  refine wpAny_call (codeAny_mono (F.run X.A X.stack s H us vs Q E hr I.env0 r h) fun rs s' hq => ?_)
  match rs, hq with
  | .error e, hq => exact hx pins σ H s e s' I hq
  | .ok .next, hq => exact hq.elim
  | .ok .brk, hq => exact hq.elim
  | .ok .cont, hq => exact hq.elim
  | .ok (.ret u), hq => exact I.after hq
theorem pe_gok {X : Cx} {CX : CXT} {k : Nat} {f : Addr} {ps : List Str} {sp : Sp} {E : XK} {x : Str} {p pos : Pos} {e : Expr} {es : List Expr} {t : TA}
    (F : GOk X.prog X.w X.K X.mg X.base CX k f ps sp) (hr : RoomG k X.A) (hg : Gl X x) (hm : X.mg x = some (.ref f)) (hk : PySem.W.keepIn X.K (.ref f) = true) (hx : Passes CX X E) (ha : PA X (e :: es) t)
    (hdb : (x == ("__debug__" : Str)) = false) (he : starEach (e :: es) X.env = (false, eval e X.env) :: starEach es X.env) (hpl : (backTo pos (starEach es X.env)).any (·.1) = false) :
    PE X (.Call (.Name x p) (e :: es) [] pos) (tCall sp [] E t) :=
  ⟨fun pins s σ H Q I h => wpAny_Call_Name_kw (ld_glob I hg hm (PySem.W.callWith_K I.ok.mod.kin hk (thn (ha.run pos pins s σ H (fun vs H1 => sp (vs ++ []) H1 Q E) I h) fun us s1 ⟨vs, H1, I1, r, q⟩ =>
    ⟨I1.kIn, run_gok F hr hx I1 r (by have q : sp (vs ++ []) H1 Q E := q; rw [List.append_nil] at q; exact q)⟩) he hpl) hdb)⟩
/-- a def from which nothing is raised -/
theorem cf_okG {P : Program} {w : World} {K : Frg} {mg : Str → Option Value} {base : Heap} {x qual : Str} {params : Arguments} {body : List Stmt} {scope : Scope} {f : Addr} {fd : FuncData} {N ps : List Str} {k n : Nat} {ms : List Bool} {sem : SF} (F : FunD K x qual params body scope [] [] f fd) (B : BndG x qual params body scope ps) (S : FnScope N ps scope) (hm : ms.length = ps.length) (hn : N.length - ps.length = n)
    (hb : ∀ (cdv : Value) (A : Around) (outer : List Env) (s : Shared) (H : Hp) (E : XK), RoomG k (A.deeper (envOfC qual scope s.heap.objs.size f cdv)) → DSs (cxOf CX0 P w K mg base N qual scope f cdv A outer s H E).nox E (prOf ms) body sem) :
    GOk P w K mg base CX0 (k + 1) f ps (spOf K ps.length ms (cfOf n ms sem)) := by
  refine gok_of F B S (fun vs H Q E h => h.1) (fun cdv A outer s H vs Q E hr h => ?_)
  obtain ⟨t, pt, st⟩ := (hb cdv A outer s H E hr).run
  have hl : vs.length = ps.length := h.1
  have st' : SSound K E (prOf ms) t sem := st
  rw [← hl] at h
  exact ⟨t, pt.nox, body_ok st' (by rw [hl]; exact hn) (by rw [hl]; exact hm) h⟩
/-- a def that may raise -/
theorem cf_okXG {P : Program} {w : World} {K : Frg} {mg : Str → Option Value} {base : Heap} {x qual : Str} {params : Arguments} {body : List Stmt} {scope : Scope} {f : Addr} {fd : FuncData} {N ps : List Str} {k n : Nat} {ms : List Bool} {sem : SF} (F : FunD K x qual params body scope [] [] f fd) (B : BndG x qual params body scope ps) (S : FnScope N ps scope) (hm : ms.length = ps.length) (hn : N.length - ps.length = n)
    (hb : ∀ (cdv : Value) (A : Around) (outer : List Env) (s : Shared) (H : Hp) (E : XK), RoomG k (A.deeper (envOfC qual scope s.heap.objs.size f cdv)) → DSs (cxOf (L2.CX P w) P w K mg base N qual scope f cdv A outer s H E) E (prOf ms) body sem) :
    GOk P w K mg base (L2.CX P w) (k + 1) f ps (spOf K ps.length ms (cfOf n ms sem)) := by
  refine gok_of F B S (fun vs H Q E h => h.1) (fun cdv A outer s H vs Q E hr h => ?_)
  obtain ⟨t, pt, st⟩ := (hb cdv A outer s H E hr).run
  have hl : vs.length = ps.length := h.1
  have st' : SSound K E (prOf ms) t sem := st
  rw [← hl] at h
  exact ⟨t, pt, body_ok st' (by rw [hl]; exact hn) (by rw [hl]; exact hm) h⟩
section
variable {X : Cx} {CX : CXT} {k n m : Nat} {f C : Addr} {ps : List Str} {c : CF} {ms : List Bool} {E : XK} {x : Str} {p pos : Pos} {e : Expr} {es : List Expr}
theorem dp_callG {g : PAF} (F : GOk X.prog X.w X.K X.mg X.base CX k f ps (spOf X.K n ms c)) (hr : RoomG k X.A) (hg : Gl X x) (hm : X.mg x = some (.ref f)) (hk : PySem.W.keepIn X.K (.ref f) = true) (hx : Passes CX X E) (ha : DA X (e :: es) n g)
    (hdb : (x == ("__debug__" : Str)) = false := by decide) (he : starEach (e :: es) X.env = (false, eval e X.env) :: starEach es X.env := by rfl) (hpl : (backTo pos (starEach es X.env)).any (·.1) = false := by rfl) :
    DP X (.Call (.Name x p) (e :: es) [] pos) (pFn c g) := by
  obtain ⟨t, ea, sa⟩ := ha.run
  refine ⟨_, pe_gok F hr hg hm hk hx ea hdb he hpl, fun σ H A ρ ow Q P gd h q => ?_⟩
  refine sa σ H A ρ ow _ _ gd h fun zs vs H1 hn hz s1 p1 => ?_
  rw [List.append_nil]
  exact fn_core gd s1 p1 (by obtain ⟨_, r, _⟩ := p1; rw [r.len, hn]) hz q
theorem de_callG {g : AEF} (F : GOk X.prog X.w X.K X.mg X.base CX k f ps (spOf X.K n ms c)) (hr : RoomG k X.A) (hg : Gl X x) (hm : X.mg x = some (.ref f)) (hk : PySem.W.keepIn X.K (.ref f) = true) (hx : Passes CX X E) (ha : DAE X E (e :: es) n g)
    (hdb : (x == ("__debug__" : Str)) = false := by decide) (he : starEach (e :: es) X.env = (false, eval e X.env) :: starEach es X.env := by rfl) (hpl : (backTo pos (starEach es X.env)).any (·.1) = false := by rfl) :
    DE X E (.Call (.Name x p) (e :: es) [] pos) (eFn ms c g) := by
  obtain ⟨t, ea, sa⟩ := ha.run
  refine ⟨_, pe_gok F hr hg hm hk hx ea hdb he hpl, fun σ H A ρ ow Q P PX gd h q qx => ?_⟩
  refine sa σ H A ρ ow _ _ _ gd h (fun avs ρ1 vs H1 fp ow1 A1 hn hz st1 g1 r nd dis => ?_) qx
  split at hz
  · rename_i zs ρ2 e
    rw [List.append_nil]
    exact efn_core e st1 g1 r nd dis (by rw [r.len, hn]) hz q qx
  · exact hz.elim
end
/-! the law's call -/
theorem law_callG {P : Program} {w : World} {K : Frg} {mg mb : Str → Option Value} {CX : CXT} {k : Nat} {fa a : Addr} {x : Str} {sp : Sp} {s1 : Shared} {vs : List Value} {ns : List Int} (KX : K.In s1.heap) (hns : s1.heap.Ns mainGlobals mg) (hb : s1.heap.Ns builtinsNs mb)
    (hbb : ∀ (x : Str), x ≠ ("__name__" : Str) → mb x = bootBuiltins x) (hlim : s1.heap.NoLimit) (hg : s1.gens = #[]) (ha : s1.heap.get? a = some { cls := .type "list", data := .seq vs.toArray }) (hi : IntsAre vs ns) (hl : ns.length ≤ sizeLine) (hr : Room k callerA)
    (F : ∀ base : Heap, K.In base → base.Ns mainGlobals mg → GOk P w K mg base CX k fa [x] sp)
    (hsp : ∀ H : Hp, Only H → SqL K H a (ns.map V.int) → sp [.ref a] H (fun v _ => v = .bl true) fun _ _ _ => False) (hCX : ∀ (H : Hp) (e : Value) (s' : Shared), CX [] H s1 (fun _ _ _ => False) e s' → False) :
    codeAny (model P w) callerA (.call (.ref fa) { pos := [.ref a] }) (fun r s' => r = .ok (.ret (.bool true)) ∧ OldK s1.heap s'.heap ∧ s'.os = s1.os ∧ AllBare s'.gens) s1 := by
  have core : ∀ H : Hp, Only H → SqL K H a (ns.map V.int) → HOk P w H s1.heap → (∀ b, H b ≠ none → b = a) → (H a ≠ none → K.lookup a = none) →
      codeAny (model P w) callerA (.call (.ref fa) { pos := [.ref a] }) (fun r s' => r = .ok (.ret (.bool true)) ∧ OldK s1.heap s'.heap ∧ s'.os = s1.os ∧ AllBare s'.gens) s1 := fun H hO hS hok hA hK => by
    have isN : ∀ b, b ≠ a → H b = none := fun b h => by
      cases e : H b with
      | none => rfl
      | some u => exact absurd (hA b (by rw [e]; simp)) h
    have dictN : ∀ b o es ep, s1.heap.get? b = some o → o.data = .dict es ep → H b = none := fun b o es ep e d => isN b fun eb => by
      subst eb; rw [ha] at e; cases e; cases d
    have nsK : ∀ {b : Addr} {m : Str → Option Value}, s1.heap.Ns b m → (hidT s1.heap H).Ns b m := fun ⟨o, es, ep, e, d, r⟩ => ⟨o, es, ep, hidT_get e (dictN _ o es ep e d), d, r⟩
    have kb : K.In (hidT s1.heap H) := fun b o e => hidT_get (KX b o e) (by
      by_cases eb : b = a
      · subst eb
        cases e2 : H b with
        | none => rfl
        | some u => have := hK (by rw [e2]; simp); rw [this] at e; cases e
      · exact isN b eb)
    have hM : L2.Mod K mg (hidT s1.heap H) := ⟨kb, nsK hns, ⟨mb, nsK hb, hbb⟩, let ⟨mc, h1, h2⟩ := hlim; ⟨mc, nsK h1, h2⟩⟩
    have e0 : Env0 P w K mg (hidT s1.heap H) callerA [] s1 H := ⟨rfl, hM, fun b o e => of_hidT e, Nat.le_of_eq (hidT_size s1.heap H), trivial, fun b h => (nomatch h), hok, AllBare.of_eq hg⟩
    refine codeAny_mono ((F (hidT s1.heap H) kb (nsK hns)).run callerA [] s1 H [.ref a] [.ref a] _ _ ⟨hr, rfl⟩ e0 (Paired.cons rfl Paired.nil) (hsp H hO hS)) fun r s' h => ?_
    match r, h with
    | .error e, h => exact (hCX H e s' h).elim
    | .ok .next, h => exact h.elim
    | .ok .brk, h => exact h.elim
    | .ok .cont, h => exact h.elim
    | .ok (.ret u), ⟨v, H', os, bare, un, hok', r', q⟩ =>
      subst q
      have eu : u = .bool true := r'
      subst eu
      refine ⟨rfl, OldK.of_keep fun b o e => ?_, os, bare⟩
      by_cases eb : H b = none
      · exact un.keep b o e eb (fun z => nomatch z) (fun z => nomatch z)
      · rcases hO b with z | ⟨ob, xs, z⟩
        · exact absurd z eb
        · have o1 := hok b _ z
          have o2 := hok' b _ (un.frzs b ob _ z)
          have e1 : s1.heap.get? b = some ob := o1.1
          have e2 : s'.heap.get? b = some ob := o2.1
          rw [e1] at e; cases e
          exact e2
  have rv := vals_ints hi
  cases hk : K.lookup a with
  | none =>
    refine core (fun b => if b = a then some (.frz { cls := .type "list", data := .seq vs.toArray } (.lst (ns.map V.int))) else none) (fun b => ?_) (.inl (.inr ⟨_, if_pos rfl⟩)) (fun b u (z : (if b = a then some (.frz { cls := .type "list", data := .seq vs.toArray } (.lst (ns.map V.int))) else none) = some u) => ?_) (fun b z => ?_) fun _ => hk
    · by_cases eb : b = a
      · exact .inr ⟨_, _, if_pos eb⟩
      · exact .inl (if_neg eb)
    · by_cases eb : b = a
      · rw [if_pos eb] at z; cases z
        subst eb
        exact ⟨ha, by rw [List.length_map]; exact hl, vs, 0, rv, ha⟩
      · rw [if_neg eb] at z; cases z
    · by_cases eb : b = a
      · exact eb
      · exact absurd (if_neg eb) z
  | some o =>
    have e := KX a o hk
    rw [ha] at e; cases e
    exact core (fun _ => none) (fun _ => .inl rfl) (.inr ⟨_, vs.toArray, 0, hk, rfl, rfl, rfl, by rw [List.size_toArray, hi.length]; exact hl, rv⟩) (fun b u z => nomatch z) (fun b z => absurd rfl z) fun z => absurd rfl z
theorem walk_ofG {l : PySem.W.OpenLaw} {n k : Nat} {q : Program} {loose : List Str} {XP : (Str → Option Value) → Heap → Prop} {YP : World → Heap → Prop} {d : DefRec} {CX : World → CXT} {x : Str} (hn : l.most = some n) (hn2 : n ≤ sizeLine) (hdf : d.params.defaults = []) (hr : Room k callerA)
    (F : ∀ (w : World) (mg : Str → Option Value) (fa : Addr) (h : Heap), YP w h → h.Ns mainGlobals mg → mg d.name = some (.ref fa) →
      ∃ (K : Frg) (sp : Sp), K.In h ∧ (∀ (H : Hp) (a : Addr) (ns : List Int), ns.length ≤ n → Only H → SqL K H a (ns.map V.int) → sp [.ref a] H (fun v _ => v = .bl true) fun _ _ _ => False) ∧ ∀ base : Heap, K.In base → base.Ns mainGlobals mg → GOk l.prog w K mg base (CX w) k fa [x] sp)
    (hCX : ∀ (w : World) (H : Hp) (s : Shared) (e : Value) (s' : Shared), CX w [] H s (fun _ _ _ => False) e s' → False) :
    PySem.W.WalkO q loose XP YP l.row.toRowW d [] fun f vs => call f vs :=
  Att.attach_call hn hdf fun w s0 s1 mg mb fa o pm cd doc a vs ns G Y ho hd hcd hmg hobj hints hlen hg => by
    obtain ⟨K, sp, KX, hsp, hF⟩ := F w mg fa s1.heap Y G.T.g hmg
    exact law_callG KX G.T.g G.T.b G.T.builtins G.T.nolimit hg hobj hints (Nat.le_trans hlen hn2) hr hF (fun H hO hS => hsp H a ns hlen hO hS) fun H e s' => hCX w H s1 e s'
end DL

/-! DL23: repr of tuples and lists of numbers; things without lists taken out of another's data; comparisons in a row of three. -/
namespace DL
open PySem PySem.Spec PyProof PyProof.Rows L2
mutual
/-- repr tells it: numbers of up to seventy figures, truths, None, in tuples and lists -/
def D.wR : D → Bool
  | .non => true
  | .bl _ => true
  | .int i => decide (i.natAbs < 10 ^ 70)
  | .tup ds => D.wRs ds
  | .lst ds => D.wRs ds
  | .kst ds => D.wRs ds
  | _ => false
def D.wRs : List D → Bool
  | [] => true
  | d :: ds => d.wR && D.wRs ds
end
mutual
/-- so long a text at most -/
def D.sR : D → Nat
  | .non => 4
  | .bl _ => 5
  | .int _ => 71
  | .tup ds => D.sRs ds + 3
  | .lst ds => D.sRs ds + 3
  | .kst ds => D.sRs ds + 3
  | _ => 0
def D.sRs : List D → Nat
  | [] => 0
  | d :: ds => d.sR + 2 + D.sRs ds
end
mutual
/-- so deep -/
def D.hR : D → Nat
  | .tup ds => D.hRs ds + 1
  | .lst ds => D.hRs ds + 1
  | .kst ds => D.hRs ds + 1
  | _ => 1
def D.hRs : List D → Nat
  | [] => 0
  | d :: ds => max d.hR (D.hRs ds)
end
theorem shown_int_len {i : Int} (h : i.natAbs < 10 ^ 70) : (PyData.int i).shown.length ≤ 71 := by
  rw [PyData.shown_int, PySem.ofString_length]
  cases i with
  | ofNat n =>
    show (Nat.repr n).length ≤ 71
    exact Nat.le_trans ((Nat.length_repr_le_iff (by decide)).mpr h) (by decide)
  | negSucc n =>
    show ("-" ++ Nat.repr (n + 1)).length ≤ 71
    rw [String.length_append]
    have := (Nat.length_repr_le_iff (n := n + 1) (k := 70) (by decide)).mpr h
    have e : ("-" : String).length = 1 := rfl
    omega
theorem log_ok {n : Nat} (h : n < 10 ^ 70) : n.log2 < 1920 := by
  by_cases e : n = 0
  · subst e; decide
  · exact (Nat.log2_lt e).mpr (Nat.lt_of_lt_of_le h (by decide +kernel))
mutual
theorem D.wR_ok : ∀ d : D, d.wR = true → d.toP.showable = true ∧ d.toP.hasDict = false ∧ d.toP.canLay0 = true ∧ d.toP.shown.length ≤ d.sR ∧ d.toP.depth ≤ d.hR
  | .non, _ => ⟨rfl, rfl, rfl, by decide, by decide⟩
  | .bl b, _ => ⟨rfl, rfl, rfl, by cases b <;> decide, by cases b <;> decide⟩
  | .int i, h => ⟨decide_eq_true (log_ok (of_decide_eq_true h)), rfl, rfl, shown_int_len (of_decide_eq_true h), Nat.le_of_lt (Nat.lt_succ_of_le (Nat.zero_le _))⟩
  | .tup ds, h => by
    obtain ⟨a, b, c, e, f⟩ := D.wRs_ok ds h
    exact ⟨a, b, c, Nat.le_trans (tupleText_len_le _) (Nat.add_le_add_right e 3), Nat.succ_le_succ f⟩
  | .lst ds, h => by
    obtain ⟨a, b, c, e, f⟩ := D.wRs_ok ds h
    exact ⟨a, b, c, Nat.le_trans (listText_len_le _) (Nat.add_le_add_right e 3), Nat.succ_le_succ f⟩
  | .str _, h => by cases h
  | .kst ds, h => by
    obtain ⟨a, b, c, e, f⟩ := D.wRs_ok ds h
    exact ⟨a, b, c, Nat.le_trans (listText_len_le _) (Nat.add_le_add_right e 3), Nat.succ_le_succ f⟩
  | .dcT _ _, h => by cases h
  | .dcK _ _, h => by cases h
  | .obj _ _ _, h => by cases h
  | .fn _, h => by cases h
  | .key _, h => by cases h
  | .tpx _, h => by cases h
  | .lkT _, h => by cases h
  | .any, h => by cases h
  | .frz _, h => by cases h
theorem D.wRs_ok : ∀ ds : List D, D.wRs ds = true → PyData.showableAll (D.toPs ds) = true ∧ PyData.hasDictAll (D.toPs ds) = false ∧ PyData.canLayAll0 (D.toPs ds) = true ∧ ((PyData.shownAll (D.toPs ds)).map (·.length)).sum + 2 * (PyData.shownAll (D.toPs ds)).length ≤ D.sRs ds ∧ PyData.depthAll (D.toPs ds) ≤ D.hRs ds
  | [], _ => ⟨rfl, rfl, rfl, Nat.le_refl _, Nat.le_refl _⟩
  | d :: ds, h => by
    have h' := Bool.and_eq_true_iff.mp (show (d.wR && D.wRs ds) = true from h)
    obtain ⟨a, b, c, e, f⟩ := D.wR_ok d h'.1
    obtain ⟨a', b', c', e', f'⟩ := D.wRs_ok ds h'.2
    refine ⟨?_, ?_, ?_, ?_, ?_⟩
    · show (d.toP.showable && PyData.showableAll (D.toPs ds)) = true
      rw [a, a']; rfl
    · show (d.toP.hasDict || PyData.hasDictAll (D.toPs ds)) = false
      rw [b, b']; rfl
    · show (d.toP.canLay0 && PyData.canLayAll0 (D.toPs ds)) = true
      rw [c, c']; rfl
    · show (List.map (·.length) (d.toP.shown :: PyData.shownAll (D.toPs ds))).sum + 2 * (d.toP.shown :: PyData.shownAll (D.toPs ds)).length ≤ d.sR + 2 + D.sRs ds
      rw [List.map_cons, List.sum_cons, List.length_cons]
      omega
    · show max d.toP.depth (PyData.depthAll (D.toPs ds)) ≤ max d.hR (D.hRs ds)
      omega
end
/-- repr may be asked of it -/
def D.okR (d : D) : Prop := (∃ ds, d.seq = some ds) ∧ d.wR = true ∧ d.sR ≤ 10000000 ∧ d.hR ≤ 50
def rRepr (K : Frg) : List V → Hp → VK → Prop := fun xs H Q => ∃ a d, xs = [.ref a] ∧ Dp K H (.ref a) d ∧ d.showable = true ∧ d.hasDict = false ∧ d.depth ≤ 50 ∧ d.shown.length ≤ 10000000 ∧ Q (.str d.shown) H
theorem call_reprG {X : Cx} {k : Nat} (hr : RoomG k X.A) : CallR X (.builtin "repr") (rRepr X.K) := fun pins s σ H xs us Q I hv h => by
  obtain ⟨a, d, e, dp, h1, h2, h3, h4, q⟩ := h
  subst e
  obtain ⟨u, us', eu, r1, r2⟩ : ∃ u us', us = u :: us' ∧ L2.RelV (.ref a) u ∧ us' = [] := by
    cases hv with
    | cons r t => cases t; exact ⟨_, _, rfl, r, rfl⟩
  subst r2 eu
  have r1 : u = .ref a := r1
  subst r1
  obtain ⟨as, rd⟩ := Dp.reads I d (.ref a) (.ref a) dp rfl
  refine repr_of_reads' rd h1 (fun z => absurd z (by rw [h2]; decide)) hr.free ?_ (fun _ _ e => e) (fun h' u tk ext => ?_) (sz7 h4)
  · have := hr.units
    omega
  · exact ⟨.str d.shown, H, I.kept ext, ⟨u, rfl⟩, q⟩
noncomputable section
def oRepr : List KD → (KD → Prop) → Prop := fun zs P => match zs with
  | [(_, d)] => d.okR ∧ P (.fl, .str d.toP.shown)
  | _ => False
theorem cs_repr {K : Frg} : CallS K (rRepr K) oRepr := by
  intro B F H vs xs P Q pr hF h q
  unfold oRepr at h
  split at h
  · rename_i k d
    obtain ⟨⟨⟨ds, hs⟩, hw, hz, hh⟩, hP⟩ := h
    obtain ⟨v, ev, p⟩ := pr.get1
    subst ev
    obtain ⟨a, us, ea, _, _⟩ := p.seq hs
    subst ea
    obtain ⟨c1, c2, c3, c4, c5⟩ := D.wR_ok d hw
    exact ⟨a, d.toP, rfl, RA.dp _ _ p.ra c3, c1, c2, Nat.le_trans c5 hh, Nat.le_trans c4 hz, q _ _ H hP (Same.refl H) .str⟩
  · exact h.elim
/-! a thing without lists -/
mutual
def _root_.DL.D.imm : D → Bool
  | .non => true
  | .bl _ => true
  | .int _ => true
  | .str _ => true
  | .tup ds => D.imms ds
  | .kst ds => D.imms ds
  | .fn _ => true
  | .key _ => true
  | .tpx _ => true
  | .lkT _ => true
  | _ => false
def _root_.DL.D.imms : List D → Bool
  | [] => true
  | d :: ds => d.imm && D.imms ds
end
mutual
theorem RA.imm_no {K : Frg} {A : Addr → Prop} {H : Hp} : ∀ (d : D) (v : V), RA K A H d v → d.imm = true → RA K No H d v
  | .non, _, h, _ => h
  | .bl _, _, h, _ => h
  | .int _, _, h, _ => h
  | .str _, _, h, _ => h
  | .tup ds, _, ⟨p, vs, e, t, r⟩, c => ⟨p, vs, e, t, RAs.imm_no ds vs r c⟩
  | .kst ds, _, ⟨p, vs, e, t, r⟩, c => ⟨p, vs, e, t, RAs.imm_no ds vs r c⟩
  | .lst _, _, _, c => by cases c
  | .dcT _ _, _, _, c => by cases c
  | .dcK _ _, _, _, c => by cases c
  | .obj _ _ _, _, _, c => by cases c
  | .fn _, _, h, _ => h
  | .key _, _, h, _ => h
  | .tpx _, _, h, _ => h
  | .lkT _, _, h, _ => h
  | .any, _, _, c => by cases c
  | .frz _, _, _, c => by cases c
theorem RAs.imm_no {K : Frg} {A : Addr → Prop} {H : Hp} : ∀ (ds : List D) (vs : List V), RAs K A H ds vs → D.imms ds = true → RAs K No H ds vs
  | [], _, h, _ => h
  | d :: ds, _, ⟨w, ws, e, h, t⟩, c => by
    have c' := Bool.and_eq_true_iff.mp (show (d.imm && D.imms ds) = true from c)
    exact ⟨w, ws, e, RA.imm_no d w h c'.1, RAs.imm_no ds ws t c'.2⟩
end
def pFlat (f : PF) : PF := fun ρ P => f ρ fun z => z.2.imm = true ∧ P (.fl, z.2)
theorem dp_flat {X : Cx} {e : Expr} {f : PF} (h : DP X e f) : DP X e (pFlat f) := by
  obtain ⟨t, a, s⟩ := h.run
  refine ⟨t, a, fun σ H A ρ ow Q P g hh q => ?_⟩
  exact s σ H A ρ ow Q _ g hh fun z v H1 hz s1 p1 => q (.fl, z.2) v H1 hz.2 s1 (.fl (RA.imm_no _ _ p1.ra hz.1))
theorem imms_all : ∀ {ds : List D}, (∀ d ∈ ds, d.imm = true) → D.imms ds = true
  | [], _ => rfl
  | d :: ds, h => by
    show (d.imm && D.imms ds) = true
    rw [h d (List.mem_cons_self ..), imms_all fun e he => h e (List.mem_cons_of_mem _ he)]; rfl
theorem imm_tab {n : Nat} {f : Nat → D} (h : ∀ i, i < n → (f i).imm = true) : (D.tup (tabl n f)).imm = true := imms_all fun d hd => by
  obtain ⟨i, hi, rfl⟩ := List.mem_map.mp hd
  exact h i (List.mem_range.mp hi)
/-! repr's bounds for told items -/
theorem wRs_all : ∀ {ds : List D}, (∀ d ∈ ds, d.wR = true) → D.wRs ds = true
  | [], _ => rfl
  | d :: ds, h => by
    show (d.wR && D.wRs ds) = true
    rw [h d (List.mem_cons_self ..), wRs_all fun e he => h e (List.mem_cons_of_mem _ he)]; rfl
theorem sRs_all {c : Nat} : ∀ {ds : List D}, (∀ d ∈ ds, d.sR ≤ c) → D.sRs ds ≤ ds.length * (c + 2)
  | [], _ => Nat.zero_le _
  | d :: ds, h => by
    show d.sR + 2 + D.sRs ds ≤ (ds.length + 1) * (c + 2)
    have h1 := h d (List.mem_cons_self ..)
    have h2 := sRs_all (c := c) fun e he => h e (List.mem_cons_of_mem _ he)
    rw [Nat.add_mul, Nat.one_mul]
    omega
theorem hRs_all {c : Nat} : ∀ {ds : List D}, (∀ d ∈ ds, d.hR ≤ c) → D.hRs ds ≤ c
  | [], _ => Nat.zero_le _
  | d :: ds, h => by
    show max d.hR (D.hRs ds) ≤ c
    have h1 := h d (List.mem_cons_self ..)
    have h2 := hRs_all (c := c) fun e he => h e (List.mem_cons_of_mem _ he)
    omega
theorem okR_ints {n : Nat} {f : Nat → Int} (hn : n ≤ 1000) (h : ∀ i, i < n → (f i).natAbs < 10 ^ 70) : (D.tup (tabl n fun i => .int (f i))).okR := by
  refine ⟨⟨_, rfl⟩, wRs_all fun d hd => ?_, ?_, ?_⟩
  · obtain ⟨i, hi, rfl⟩ := List.mem_map.mp hd
    exact decide_eq_true (h i (List.mem_range.mp hi))
  · have := sRs_all (c := 71) (ds := tabl n fun i => D.int (f i)) fun d hd => by
      obtain ⟨i, hi, rfl⟩ := List.mem_map.mp hd; exact Nat.le_refl _
    rw [tabl_len] at this
    show D.sRs _ + 3 ≤ _
    omega
  · have := hRs_all (c := 1) (ds := tabl n fun i => D.int (f i)) fun d hd => by
      obtain ⟨i, hi, rfl⟩ := List.mem_map.mp hd; exact Nat.le_refl _
    show D.hRs _ + 1 ≤ 50
    omega
/-! three comparisons in a row -/
def tChain3 (r r' r2 : R2) (ta tb tc td : TE) : TE := fun σ H Q => ta σ H fun x H1 => tb σ H1 fun y H2 => r x y H2 fun z H3 => ∃ k, z = .bl k ∧ (if k = true then tc σ H3 fun w H4 => r' y w H4 fun z' H5 => ∃ k', z' = .bl k' ∧ (if k' = true then td σ H5 fun q H6 => r2 w q H6 Q else Q (.bl false) H5) else Q (.bl false) H3)
theorem pe_chain3 {X : Cx} {a b c d : Expr} {ta tb tc td : TE} {pos : Pos} {op op' op2 : CmpOp} {r r' r2 : R2} (ho : OpR X (compareOp op) r) (ho' : OpR X (compareOp op') r') (ho2 : OpR X (compareOp op2) r2) (ha : PE X a ta) (hb : PE X b tb) (hc : PE X c tc) (hd : PE X d td)
    (hm : lastMarks [op, op', op2] [b, c, d] = false := by rfl) : PE X (.Compare a [op, op', op2] [b, c, d] pos) (tChain3 r r' r2 ta tb tc td) := by
  refine ⟨fun pins s σ H Q I h => Compare_chain (thn (ha.run pins s σ H _ I h) fun v s1 ⟨x, H1, I1, r1, q1⟩ => ?_) hm⟩
  refine chain_link (thn (hb.run pins s1 σ H1 _ I1 q1) fun u s2 ⟨y, H2, I2, r2', q2⟩ => ?_)
  refine thn (ho pins s2 σ H2 x y v u _ I2 r1 r2' q2) fun t s3 ⟨z, H3, I3, r3, k, e, q3⟩ => ?_
  subst e
  have r3 : t = .bool k := r3
  subst r3
  refine wpAny_truthy_bool ?_
  cases k with
  | false => exact ite_ff ⟨.bl false, H3, I3, rfl, q3⟩
  | true =>
    refine ite_tt (chain_link (thn (hc.run pins s3 σ H3 _ I3 q3) fun u' s4 ⟨w, H4, I4, r4, q4⟩ => ?_))
    refine thn (ho' pins s4 σ H4 y w u u' _ I4 r2' r4 q4) fun t' s5 ⟨z', H5, I5, r5, k', e', q5⟩ => ?_
    subst e'
    have r5 : t' = .bool k' := r5
    subst r5
    refine wpAny_truthy_bool ?_
    cases k' with
    | false => exact ite_ff ⟨.bl false, H5, I5, rfl, q5⟩
    | true =>
      exact ite_tt (chain_last (thn (hd.run pins s5 σ H5 _ I5 q5) fun u2 s6 ⟨q, H6, I6, r6, q6⟩ => ho2 pins s6 σ H6 w q u' u2 Q I6 r4 r6 q6))
def pChain3 (o o' o2 : KD → KD → (KD → Prop) → Prop) (fa fb fc fd : PF) : PF := fun ρ P => fa ρ fun x => fb ρ fun y => o x y fun z => match z.2 with
  | .bl k => if k = true then fc ρ fun w => o' y w fun z' => (match z'.2 with
    | .bl k' => if k' = true then fd ρ fun q => o2 w q P else P (.fl, .bl false)
    | _ => False) else P (.fl, .bl false)
  | _ => False
theorem sound_chain3 {K : Frg} {r r' r2 : R2} {o o' o2 : KD → KD → (KD → Prop) → Prop} {ta tb tc td : TE} {fa fb fc fd : PF} (hr : OpS K r o) (hr' : OpS K r' o') (hr2 : OpS K r2 o2) (sa : PSound K ta fa) (sb : PSound K tb fb) (sc : PSound K tc fc) (sd : PSound K td fd) : PSound K (tChain3 r r' r2 ta tb tc td) (pChain3 o o' o2 fa fb fc fd) := by
  intro σ H A ρ ow Q P g h q
  refine sa σ H A ρ ow _ _ g h fun x v H1 hx s1 p1 => ?_
  refine sb σ H1 A ρ ow _ _ (g.same s1) hx fun y w H2 hy s2 p2 => ?_
  refine hr (BB A ow) (Fre H) H2 v w x y _ _ (p1.same s2) (p2.mono (fun _ h => h) s1.fre) (s1.trans s2).fre hy fun z u H3 hz s3 p3 => ?_
  obtain ⟨k, d⟩ := z
  have rr := p3.ra
  have s := (s1.trans s2).trans s3
  cases d <;> first
    | exact hz.elim
    | skip
  rename_i b
  refine ⟨b, rr, ?_⟩
  cases b with
  | false => exact q _ _ H3 hz s .bl
  | true =>
    refine sc σ H3 A ρ ow _ _ (g.same s) hz fun z' v' H4 hz' s4 p4 => ?_
    refine hr' (BB A ow) (Fre H) H4 w v' y z' _ _ (((p2.same s3).same s4).mono (fun _ h => h) s1.fre) (p4.mono (fun _ h => h) s.fre) (s.trans s4).fre hz' fun z2 u2 H5 hz2 s5 p5 => ?_
    obtain ⟨k2, d2⟩ := z2
    have rr2 := p5.ra
    have s' := (s.trans s4).trans s5
    cases d2 <;> first
      | exact hz2.elim
      | skip
    rename_i b2
    refine ⟨b2, rr2, ?_⟩
    cases b2 with
    | false => exact q _ _ H5 hz2 s' .bl
    | true =>
      refine sd σ H5 A ρ ow _ _ (g.same s') hz2 fun z3 v3 H6 hz3 s6 p6 => ?_
      exact hr2 (BB A ow) (Fre H) H6 v' v3 z' z3 P Q (((p4.same s5).same s6).mono (fun _ h => h) s.fre) (p6.mono (fun _ h => h) s'.fre) (s'.trans s6).fre hz3 fun z u H7 hz s7 p7 => q z u H7 hz ((s'.trans s6).trans s7) p7
theorem dp_chain3 {X : Cx} {a b c d : Expr} {pos : Pos} {fa fb fc fd : PF} {op op' op2 : CmpOp} {r r' r2 : R2} {o o' o2 : KD → KD → (KD → Prop) → Prop} (ho : OpR X (compareOp op) r) (ho' : OpR X (compareOp op') r') (ho2 : OpR X (compareOp op2) r2) (hr : OpS X.K r o) (hr' : OpS X.K r' o') (hr2 : OpS X.K r2 o2)
    (ha : DP X a fa) (hb : DP X b fb) (hc : DP X c fc) (hd : DP X d fd) (hm : lastMarks [op, op', op2] [b, c, d] = false := by with_unfolding_all rfl) : DP X (.Compare a [op, op', op2] [b, c, d] pos) (pChain3 o o' o2 fa fb fc fd) := by
  obtain ⟨_, ea, sa⟩ := ha.run
  obtain ⟨_, eb, sb⟩ := hb.run
  obtain ⟨_, ec, sc⟩ := hc.run
  obtain ⟨_, ed, sd⟩ := hd.run
  exact ⟨_, pe_chain3 ho ho' ho2 ea eb ec ed hm, sound_chain3 hr hr' hr2 sa sb sc sd⟩
theorem pt_chain3 {X : Cx} {a b c d : Expr} {ta tb tc td : TE} {pos : Pos} {op op' op2 : CmpOp} {r r' r2 : R2} (ho : OpR X (compareOp op) r) (ho' : OpR X (compareOp op') r') (ho2 : OpR X (compareOp op2) r2) (ha : PE X a ta) (hb : PE X b tb) (hc : PE X c tc) (hd : PE X d td)
    (hm : lastMarks [op, op', op2] [b, c, d] = false := by rfl) : PT X (.Compare a [op, op', op2] [b, c, d] pos) (tTest (tChain3 r r' r2 ta tb tc td)) := by
  refine ⟨fun pins s σ H Q I h => isTrue_chain (thn (ha.run pins s σ H _ I h) fun v s1 ⟨x, H1, I1, r1, q1⟩ => ?_) hm⟩
  refine test_link (thn (hb.run pins s1 σ H1 _ I1 q1) fun u s2 ⟨y, H2, I2, r2', q2⟩ => ?_)
  refine thn (ho pins s2 σ H2 x y v u _ I2 r1 r2' q2) fun t s3 ⟨z, H3, I3, r3, k, e, q3⟩ => ?_
  subst e
  have r3 : t = .bool k := r3
  subst r3
  refine wpAny_truthy_bool ?_
  cases k with
  | false =>
    obtain ⟨k, e, q⟩ := q3
    cases e
    exact ite_ff ⟨H3, I3, q⟩
  | true =>
    refine ite_tt (test_link (thn (hc.run pins s3 σ H3 _ I3 q3) fun u' s4 ⟨w, H4, I4, r4, q4⟩ => ?_))
    refine thn (ho' pins s4 σ H4 y w u u' _ I4 r2' r4 q4) fun t' s5 ⟨z', H5, I5, r5, k', e', q5⟩ => ?_
    subst e'
    have r5 : t' = .bool k' := r5
    subst r5
    refine wpAny_truthy_bool ?_
    cases k' with
    | false =>
      obtain ⟨k, e, q⟩ := q5
      cases e
      exact ite_ff ⟨H5, I5, q⟩
    | true =>
      refine ite_tt (test_last (thn (hd.run pins s5 σ H5 _ I5 q5) fun u2 s6 ⟨q, H6, I6, r6, q6⟩ => ?_))
      refine thn (ho2 pins s6 σ H6 w q u' u2 _ I6 r4 r6 q6) fun t2 s7 ⟨z2, H7, I7, r7, k2, e2, q7⟩ => ?_
      subst e2
      have r7 : t2 = .bool k2 := r7
      subst r7
      exact wpAny_truthy_bool ⟨H7, I7, q7⟩
theorem dt_chain3 {X : Cx} {a b c d : Expr} {pos : Pos} {fa fb fc fd : PF} {op op' op2 : CmpOp} {r r' r2 : R2} {o o' o2 : KD → KD → (KD → Prop) → Prop} (ho : OpR X (compareOp op) r) (ho' : OpR X (compareOp op') r') (ho2 : OpR X (compareOp op2) r2) (hr : OpS X.K r o) (hr' : OpS X.K r' o') (hr2 : OpS X.K r2 o2)
    (ha : DP X a fa) (hb : DP X b fb) (hc : DP X c fc) (hd : DP X d fd) (hm : lastMarks [op, op', op2] [b, c, d] = false := by with_unfolding_all rfl) : DT X (.Compare a [op, op', op2] [b, c, d] pos) (pTest (pChain3 o o' o2 fa fb fc fd)) := by
  obtain ⟨_, ea, sa⟩ := ha.run
  obtain ⟨_, eb, sb⟩ := hb.run
  obtain ⟨_, ec, sc⟩ := hc.run
  obtain ⟨_, ed, sd⟩ := hd.run
  exact ⟨_, pt_chain3 ho ho' ho2 ea eb ec ed hm, sound_test (sound_chain3 hr hr' hr2 sa sb sc sd)⟩
theorem bt_repr : bootBuiltins "repr" = some (.builtin "repr") := by decide +kernel
theorem bt_sorted0 : bootBuiltins "sorted" = some (.builtin "sorted") := bt_sorted
end
end DL

/-! DL24: == of tuples and lists of numbers, truths and None. -/
namespace DL
open PySem PySem.Spec PyProof PyProof.Rows L2
mutual
def D.cL : D → Bool
  | .non => true
  | .bl _ => true
  | .int _ => true
  | .tup ds => D.cLs ds
  | .lst ds => D.cLs ds
  | .kst ds => D.cLs ds
  | _ => false
def D.cLs : List D → Bool
  | [] => true
  | d :: ds => d.cL && D.cLs ds
end
mutual
def D.hL : D → Nat
  | .tup ds => D.hLs ds + 1
  | .lst ds => D.hLs ds + 1
  | .kst ds => D.hLs ds + 1
  | _ => 1
def D.hLs : List D → Nat
  | [] => 0
  | d :: ds => max d.hL (D.hLs ds)
end
mutual
theorem D.cL_ok : ∀ d : D, d.cL = true → d.toP.canLay0 = true ∧ d.toP.depth ≤ d.hL ∧ PyData.eqv d.toP d.toP = true
  | .non, _ => ⟨rfl, by decide, rfl⟩
  | .bl b, _ => ⟨rfl, by cases b <;> decide, by cases b <;> rfl⟩
  | .int i, h => ⟨rfl, Nat.le_of_lt (Nat.lt_succ_of_le (Nat.zero_le _)), (PyData.eqv.eq_5 i i).trans (by simp)⟩
  | .tup ds, h => by
    obtain ⟨a, b, c⟩ := D.cLs_ok ds h
    exact ⟨a, Nat.succ_le_succ b, c⟩
  | .lst ds, h => by
    obtain ⟨a, b, c⟩ := D.cLs_ok ds h
    exact ⟨a, Nat.succ_le_succ b, c⟩
  | .kst ds, h => by
    obtain ⟨a, b, c⟩ := D.cLs_ok ds h
    exact ⟨a, Nat.succ_le_succ b, c⟩
  | .str _, h => by cases h
  | .dcT _ _, h => by cases h
  | .dcK _ _, h => by cases h
  | .obj _ _ _, h => by cases h
  | .fn _, h => by cases h
  | .key _, h => by cases h
  | .tpx _, h => by cases h
  | .lkT _, h => by cases h
  | .any, h => by cases h
  | .frz _, h => by cases h
theorem D.cLs_ok : ∀ ds : List D, D.cLs ds = true → PyData.canLayAll0 (D.toPs ds) = true ∧ PyData.depthAll (D.toPs ds) ≤ D.hLs ds ∧ PyData.eqvAll (D.toPs ds) (D.toPs ds) = true
  | [], _ => ⟨rfl, Nat.le_refl _, rfl⟩
  | d :: ds, h => by
    have h' := Bool.and_eq_true_iff.mp (show (d.cL && D.cLs ds) = true from h)
    obtain ⟨a, b, c⟩ := D.cL_ok d h'.1
    obtain ⟨a', b', c'⟩ := D.cLs_ok ds h'.2
    refine ⟨?_, ?_, ?_⟩
    · show (d.toP.canLay0 && PyData.canLayAll0 (D.toPs ds)) = true
      rw [a, a']; rfl
    · show max d.toP.depth (PyData.depthAll (D.toPs ds)) ≤ max d.hL (D.hLs ds)
      omega
    · show (PyData.eqv d.toP d.toP && PyData.eqvAll (D.toPs ds) (D.toPs ds)) = true
      rw [c, c']; rfl
end
theorem cL_okE {d : D} (h : d.cL = true) (h2 : d.hL ≤ 60) : d.okE := by
  obtain ⟨a, b, _⟩ := D.cL_ok d h
  show (d.toP.canLay0 && decide (d.toP.depth ≤ 64)) = true
  rw [a, decide_eq_true (by omega)]; rfl
theorem cLs_all : ∀ {ds : List D}, (∀ d ∈ ds, d.cL = true) → D.cLs ds = true
  | [], _ => rfl
  | d :: ds, h => by
    show (d.cL && D.cLs ds) = true
    rw [h d (List.mem_cons_self ..), cLs_all fun e he => h e (List.mem_cons_of_mem _ he)]; rfl
theorem hLs_all {c : Nat} : ∀ {ds : List D}, (∀ d ∈ ds, d.hL ≤ c) → D.hLs ds ≤ c
  | [], _ => Nat.zero_le _
  | d :: ds, h => by
    show max d.hL (D.hLs ds) ≤ c
    have h1 := h d (List.mem_cons_self ..)
    have h2 := hLs_all (c := c) fun e he => h e (List.mem_cons_of_mem _ he)
    omega
theorem cLs_tabl {n : Nat} {f : Nat → D} (h : ∀ i, i < n → (f i).cL = true) : D.cLs (tabl n f) = true := cLs_all fun d hd => by
  obtain ⟨i, hi, rfl⟩ := List.mem_map.mp hd
  exact h i (List.mem_range.mp hi)
theorem hLs_tabl {n c : Nat} {f : Nat → D} (h : ∀ i, i < n → (f i).hL ≤ c) : D.hLs (tabl n f) ≤ c := hLs_all fun d hd => by
  obtain ⟨i, hi, rfl⟩ := List.mem_map.mp hd
  exact h i (List.mem_range.mp hi)
theorem eqv_self {d : D} (h : d.cL = true) : PyData.eqv d.toP d.toP = true := (D.cL_ok d h).2.2
theorem toPs_map {α : Type} (f : α → Int) (l : List α) : D.toPs (l.map fun i => .int (f i)) = l.map fun i => PyData.int (f i) := by
  induction l with
  | nil => rfl
  | cons a l ih =>
    show PyData.int (f a) :: D.toPs (l.map fun i => .int (f i)) = _
    rw [ih]; rfl
theorem eqvAll_ints : ∀ (as bs : List Int), PyData.eqvAll (as.map PyData.int) (bs.map PyData.int) = decide (as = bs)
  | [], [] => rfl
  | [], b :: bs => rfl
  | a :: as, [] => rfl
  | a :: as, b :: bs => by
    show (PyData.eqv (.int a) (.int b) && PyData.eqvAll (as.map PyData.int) (bs.map PyData.int)) = _
    rw [PyData.eqv.eq_5, eqvAll_ints as bs, Bool.eq_iff_iff]
    simp
theorem ints_okE {n : Nat} {f : Nat → Int} : (D.tup (tabl n fun i => .int (f i))).okE := cL_okE (cLs_tabl fun _ _ => rfl) (Nat.succ_le_succ (Nat.le_trans (hLs_tabl (c := 1) fun _ _ => Nat.le_refl _) (by decide)))
theorem ints_eqv {n : Nat} {f : Nat → Int} : PyData.eqv (D.tup (tabl n fun i => .int (f i))).toP (D.tup (tabl n fun i => .int (f i))).toP = true := eqv_self (cLs_tabl fun _ _ => rfl)
end DL

/-! DL25: sorted of numbers, both ways; zip of two lists. -/
namespace DL
open PySem PySem.Spec PyProof PyProof.Rows L2
def sortU (ns : List Int) : List Int := ns.mergeSort fun a b => decide (a ≤ b)
theorem sortU_perm (ns : List Int) : (sortU ns).Perm ns := List.mergeSort_perm ns _
theorem sortU_up (ns : List Int) : (sortU ns).Pairwise (· ≤ ·) := (List.pairwise_mergeSort (le := fun a b : Int => decide (a ≤ b)) (fun a b c h1 h2 => decide_eq_true (Int.le_trans (of_decide_eq_true h1) (of_decide_eq_true h2))) (fun a b => by
  rw [Bool.or_eq_true]
  rcases Int.le_total a b with h | h
  · exact .inl (decide_eq_true h)
  · exact .inr (decide_eq_true h)) ns).imp fun h => of_decide_eq_true h
theorem sortU_uniq {ns ns' : List Int} (h : ns'.Perm ns) (s : ns'.Pairwise (· ≤ ·)) : ns' = sortU ns := List.Perm.eq_of_pairwise (fun _ _ _ _ h1 h2 => Int.le_antisymm h1 h2) s (sortU_up ns) (h.trans (sortU_perm ns).symm)
theorem sortD_uniq {ns ns' : List Int} (h : ns'.Perm ns) (s : ns'.Pairwise (· ≥ ·)) : ns' = (sortU ns).reverse := List.Perm.eq_of_pairwise (le := (· ≥ ·)) (fun _ _ _ _ h1 h2 => Int.le_antisymm h2 h1) s (List.pairwise_reverse.mpr (sortU_up ns)) (h.trans ((sortU_perm ns).symm.trans (List.reverse_perm _).symm))
theorem sortU_len (ns : List Int) : (sortU ns).length = ns.length := (sortU_perm ns).length_eq
noncomputable section
def oSorted : List KD → (KD → Prop) → Prop := fun zs P => match zs with
  | [(_, .lst ds)] => ∃ ns : List Int, ds = ns.map .int ∧ P (.sh, .lst ((sortU ns).map .int))
  | _ => False
theorem cs_sorted {K : Frg} : CallS K (rSortedI K) oSorted := by
  intro B F H vs xs P Q pr hF h q
  unfold oSorted at h
  split at h
  · rename_i k ds
    obtain ⟨ns, e, hP⟩ := h
    subst e
    obtain ⟨v, ev, p⟩ := pr.get1
    subst ev
    obtain ⟨a, us, ea, t, r⟩ := p.lstT
    subst ea
    have eu : us = ns.map V.int := r.ints
    subst eu
    refine ⟨a, ns, rfl, .of t, fun ns' l hp hs hl => ?_⟩
    rw [sortU_uniq hp hs]
    exact q _ _ _ hP (same_upd hl) (pr_lst (k := .fl) (RAs.of_ints _) hl (hF l hl))
  · exact h.elim
/-- sorted(e, reverse=True) -/
def rSortedD (K : Frg) : List V → Hp → VK → Prop := fun vs H Q => ∃ (a : Addr) (ns : List Int), vs = [.ref a] ∧ SqL K H a (ns.map V.int) ∧ ∀ (ns' : List Int) (p : Addr), ns'.Perm ns → ns'.Pairwise (· ≥ ·) → H p = none → Q (.ref p) (upd H p (.lst (ns'.map V.int)))
theorem run_sortD {X : Cx} {pins : List (Addr × Obj)} {s : Shared} {σ : L2.St} {H : Hp} {vs : List V} {us : List Value} {Q : VK} (I : L2.Inv X pins σ H s) (r : Vals vs us) (h : rSortedD X.K vs H Q) : wpAny (model X.prog X.w) X.A (call (.builtin "sorted") us [("reverse", .bool true)]) (EP X pins σ Q) X.xe s := by
  obtain ⟨a, ns, e, hs, q⟩ := h
  subst e
  obtain ⟨its, rv, hl, hz⟩ := I.list hs
  rw [r.ref1]
  have hi := rv.ints
  refine sorted_ints_revAny hl.isList hi (by rw [← rv.length]; exact hz) fun out ns' k1 k2 k3 => ?_
  obtain ⟨ep, he'⟩ := sortedAll_at s.heap its out
  have hlen : (ns'.map V.int).length ≤ sizeLine := by rw [List.length_map, k2.length_eq]; rw [List.length_map] at hz; exact hz
  have k3 : ns'.Pairwise (· ≥ ·) := k3
  exact ⟨.ref (s.heap.objs.size + 1), upd H (s.heap.objs.size + 1) (.lst (ns'.map V.int)), I.laid (fun _ _ => sortedAll_old) (Nat.le_succ s.heap.objs.size) ⟨hlen, out.toList, ep, vals_ints k1, he'⟩, rfl, q ns' (s.heap.objs.size + 1) k2 k3 (I.hok.fresh (Nat.le_succ s.heap.objs.size))⟩
theorem pe_sortD {X : Cx} {e : Expr} {t : TA} {p pos p1 p2 : Pos} {k : Nat} (hg : Gl X "sorted") (hm : X.mg "sorted" = none) (ha : PA X [e] t) (hs : starEach [e] X.env = (false, eval e X.env) :: starEach [] X.env := by rfl) :
    PE X (.Call (.Name "sorted" p) [e] [⟨some "reverse", .Constant (.bool true) k p1, p2⟩] pos) (tCB (rSortedD X.K) t) := by
  refine ⟨fun pins s σ H Q I h => ?_⟩
  refine wpAny_Call_Name_kw (ld_blt I hg hm bt_sorted (callWith_builtin_kwB (by rw [hs]; rfl) rfl (evalArgs_kw2 rfl ?_ hs)) (by decide) (by decide))
  refine thn (ha.run pos pins s σ H (fun vs H1 => rSortedD X.K vs H1 Q) I h) fun us s1 ⟨vs, H1, I1, r, q⟩ => ?_
  have pk : PK X [⟨some "reverse", .Constant (.bool true) k p1, p2⟩] (tCons (tC (.bl true)) tNil) := pk_cons pe_bl pk_nil
  refine thn (pk.run pos pins s1 σ H1 (fun ks H2 => ks = [.bl true] ∧ rSortedD X.K vs H2 Q) I1 ⟨rfl, q⟩) fun ks s2 ⟨kv, H2, I2, r2, ek, q2⟩ => ?_
  subst ek
  have e2 : ks = [.bool true] := by
    cases r2 with
    | cons r3 t3 =>
      cases t3
      have r3 : _ = Value.bool true := r3
      rw [r3]
  subst e2
  exact run_sortD I2 r q2
def oSortedD : List KD → (KD → Prop) → Prop := fun zs P => match zs with
  | [(_, .lst ds)] => ∃ ns : List Int, ds = ns.map .int ∧ P (.sh, .lst ((sortU ns).reverse.map .int))
  | _ => False
theorem cs_sortedD {K : Frg} : CallS K (rSortedD K) oSortedD := by
  intro B F H vs xs P Q pr hF h q
  unfold oSortedD at h
  split at h
  · rename_i k ds
    obtain ⟨ns, e, hP⟩ := h
    subst e
    obtain ⟨v, ev, p⟩ := pr.get1
    subst ev
    obtain ⟨a, us, ea, t, r⟩ := p.lstT
    subst ea
    have eu : us = ns.map V.int := r.ints
    subst eu
    refine ⟨a, ns, rfl, .of t, fun ns' l hp hs hl => ?_⟩
    rw [sortD_uniq hp hs]
    exact q _ _ _ hP (same_upd hl) (pr_lst (k := .fl) (RAs.of_ints _) hl (hF l hl))
  · exact h.elim
theorem dp_sortD {X : Cx} {e : Expr} {g : PAF} {p pos p1 p2 : Pos} {k : Nat} (hg : Gl X "sorted") (hm : X.mg "sorted" = none) (ha : DA X [e] 1 g) (hs : starEach [e] X.env = (false, eval e X.env) :: starEach [] X.env := by rfl) :
    DP X (.Call (.Name "sorted" p) [e] [⟨some "reverse", .Constant (.bool true) k p1, p2⟩] pos) (pCall oSortedD g) := by
  obtain ⟨t, ea, sa⟩ := ha.run
  exact ⟨_, pe_sortD hg hm ea hs, sound_call cs_sortedD sa⟩
/-! zip of two lists -/
def zipD (k k' : Kd) (ds es : List D) : List KD := List.zipWith (fun d e => (pairK k k', .tup [d, e])) ds es
def iZp (f : PAF) : IF := fun ρ P => f ρ fun zs => match zs with
  | [(k, .lst ds), (k', .lst es)] => P (zipD k k' ds es)
  | _ => False
theorem zipD_of {k k' : Kd} {ds es : List D} {i : Nat} {z : KD} (h : (zipD k k' ds es)[i]? = some z) : ∃ d e, ds[i]? = some d ∧ es[i]? = some e ∧ z = (pairK k k', .tup [d, e]) := by
  unfold zipD at h
  rw [List.getElem?_zipWith] at h
  cases e1 : ds[i]? with
  | none => rw [e1] at h; cases h
  | some d =>
    cases e2 : es[i]? with
    | none => rw [e1, e2] at h; cases h
    | some e => rw [e1, e2] at h; exact ⟨d, e, rfl, rfl, (Option.some.inj h).symm⟩
theorem zipD_len {k k' : Kd} {ds es : List D} : (zipD k k' ds es).length = min ds.length es.length := List.length_zipWith
theorem di_zip {X : Cx} {a b : Expr} {f : PAF} {p pos tpos : Pos} {elts : List Expr} {kk : Nat} (hg : Gl X "zip") (hm : X.mg "zip" = none) (ha : DA X [a, b] 2 f) (hs : starEach [a, b] X.env = (false, eval a X.env) :: starEach [b] X.env := by rfl) (hpl : (backTo pos (starEach [b] X.env)).any (·.1) = false := by rfl) :
    DI X (.Tuple elts kk tpos) (.Call (.Name "zip" p) [a, b] [] pos) (iZp f) := by
  obtain ⟨t, e, s⟩ := ha.run
  refine ⟨_, pi_zip hg hm e hs hpl, fun σ H A ρ ow R P Z g hz h q => ?_⟩
  refine s σ H A ρ ow _ _ g h fun zs vs H1 _ hh s1 p1 => ?_
  split at hh
  · rename_i k ds k' es _
    obtain ⟨v, w, ev, p2, p3⟩ := p1.get2
    subst ev
    obtain ⟨y, vs, rfl, t, a2, r⟩ := p2.tr.lp
    obtain ⟨y', vs', rfl, t', a3, r'⟩ := p3.tr.lp
    have key : ∀ i z, (zipD k k' ds es)[i]? = some z → ∃ d d', z = (pairK k k', D.tup [d, d']) ∧ ∀ x y, vs[i]? = some x → vs'[i]? = some y → ∀ H2, OkZ Z H1 H2 → RA X.K (k.elA (BB A ow) (Fre2 H H1)) H2 d x ∧ RA X.K (k'.elA (BB A ow) (Fre2 H H1)) H2 d' y := fun i z hzz => by
      obtain ⟨d, e, hd, he, rfl⟩ := zipD_of hzz
      refine ⟨d, e, rfl, fun x y hx hy H2 ok => ⟨?_, ?_⟩⟩
      · obtain ⟨w, hw, rw'⟩ := (elA_keeps (ok.keep (fre2 (H := H1)) hz s1) r).get hd
        rw [hx] at hw
        cases hw
        exact rw'
      · obtain ⟨w, hw, rw'⟩ := (elA_keeps (ok.keep (fre2 (H := H1)) hz s1) r').get he
        rw [hy] at hw
        cases hw
        exact rw'
    have hl : (zipD k k' ds es).length = min vs.length vs'.length := by rw [zipD_len, r.len, r'.len]
    exact ⟨y, y', vs, vs', rfl, .of t, .of t', q _ _ H1 hh s1 (walks_pair (k := k) (k' := k') (walk_zip (K := X.K) (n := (zipD k k' ds es).length) hl) rfl (fun H2 ok => ⟨.of (ok y _ t (zFre fre2 hz s1 y _ t (.inl a2))), .of (ok y' _ t' (zFre fre2 hz s1 y' _ t' (.inl a3)))⟩) key)⟩
  · exact hh.elim
end
end DL

/-! DL26: objects: fields read and stored, places through fields. -/
namespace DL
open PySem PySem.Spec PyProof PyProof.Rows L2
noncomputable section
/-- the field number j of an object of the class C whose fields are NS -/
def oFld (C : Str) (NS : List Str) (j : Nat) (z : KD) (P : KD → Prop) : Prop := match z.2 with
  | .obj C' ns ds => C' = C ∧ ns = NS ∧ (match ds[j]? with | some d => P (kel .rd d) | none => False)
  | _ => False
@[irreducible] def xFld (C : Str) (NS : List Str) (j : Nat) (z : KD) (P : KD → Prop) : Prop := hid (oFld C NS j z P)
theorem go_fld {C : Str} {NS : List Str} {j : Nat} {z : KD} {ds : List D} {d : D} {P : KD → Prop} (hz : z.2 = .obj C NS ds) (hd : ds[j]? = some d) (p : P (kel .rd d)) : xFld C NS j z P := by
  unfold xFld; rw [hid_eq]
  unfold oFld
  rw [hz]
  dsimp only
  rw [hd]
  exact ⟨rfl, rfl, p⟩
def pFld (C : Str) (NS : List Str) (j : Nat) (fa : PF) : PF := fun ρ P => fa ρ fun z => xFld C NS j z P
theorem lookup_at {NS : List Str} : ∀ {fs : List (Str × V)} {j : Nat} {f : Str} {w : V}, fs.map (·.1) = NS → NS.Nodup → NS[j]? = some f → (fs.map (·.2))[j]? = some w → fs.lookup f = some w := by
  intro fs
  induction fs generalizing NS with
  | nil => intro j f w e _ h _; subst e; cases h
  | cons a fs ih =>
    intro j f w e hn hf hw
    subst e
    obtain ⟨x, y⟩ := a
    have hn' := List.nodup_cons.mp hn
    cases j with
    | zero =>
      cases hf; cases hw
      rw [List.lookup_cons]
      simp
    | succ j =>
      have hf' : (fs.map (·.1))[j]? = some f := hf
      have hne : (f == x) = false := by
        rw [beq_eq_false_iff_ne]
        intro z
        subst z
        exact hn'.1 (List.mem_of_getElem? hf')
      rw [List.lookup_cons, hne]
      exact ih rfl hn'.2 hf' hw
theorem lookup_none {f : Str} : ∀ {fs : List (Str × V)}, f ∉ fs.map (·.1) → fs.lookup f = none
  | [], _ => rfl
  | (x, y) :: fs, h => by
    have h' : f ≠ x ∧ f ∉ fs.map (·.1) := by
      rw [List.map_cons, List.mem_cons, not_or] at h; exact h
    rw [List.lookup_cons, beq_eq_false_iff_ne.mpr h'.1]
    exact lookup_none h'.2
theorem putF_at {NS : List Str} : ∀ {fs : List (Str × V)} {j : Nat} {f : Str} {y : V}, fs.map (·.1) = NS → NS.Nodup → NS[j]? = some f → (putF f y fs).map (·.1) = NS ∧ (putF f y fs).map (·.2) = (fs.map (·.2)).set j y := by
  intro fs
  induction fs generalizing NS with
  | nil => intro j f y e _ h; subst e; cases h
  | cons a fs ih =>
    intro j f y e hn hf
    subst e
    obtain ⟨x, v⟩ := a
    have hn' := List.nodup_cons.mp hn
    cases j with
    | zero =>
      cases hf
      have e : putF x y ((x, v) :: fs) = (x, y) :: fs := by
        show (if x = x then (x, y) :: fs else (x, v) :: putF x y fs) = _
        rw [if_pos rfl]
      rw [e]
      exact ⟨rfl, rfl⟩
    | succ j =>
      have hf' : (fs.map (·.1))[j]? = some f := hf
      have hne : ¬ x = f := fun z => hn'.1 (z ▸ List.mem_of_getElem? hf')
      have e : putF f y ((x, v) :: fs) = (x, v) :: putF f y fs := by
        show (if x = f then (x, y) :: fs else (x, v) :: putF f y fs) = _
        rw [if_neg hne]
      obtain ⟨h1, h2⟩ := ih (y := y) rfl hn'.2 hf'
      rw [e]
      exact ⟨congrArg (x :: ·) h1, congrArg (v :: ·) h2⟩
theorem putF_new {f : Str} {y : V} : ∀ {fs : List (Str × V)}, f ∉ fs.map (·.1) → putF f y fs = fs ++ [(f, y)]
  | [], _ => rfl
  | (x, v) :: fs, h => by
    have h' : f ≠ x ∧ f ∉ fs.map (·.1) := by
      rw [List.map_cons, List.mem_cons, not_or] at h; exact h
    show (if x = f then (x, y) :: fs else (x, v) :: putF f y fs) = _
    rw [if_neg fun z => h'.1 z.symm, putF_new h'.2]; rfl
section
variable {X : Cx} {pos : Pos}
theorem dp_fld {e : Expr} {f : Str} {fa : PF} {C : Str} {NS : List Str} {j : Nat} (c : Cls X.K (He.ga X.K C)) (na : NoAttr X.K (He.ga X.K C) f) (hn : NS.Nodup) (hj : NS[j]? = some f) (ha : DP X e fa)
    (hb : attributeBase e f X.env (eval e X.env) = eval e X.env := by rfl) : DP X (.Attribute e f pos) (pFld C NS j fa) := by
  obtain ⟨t, ea, sa⟩ := ha.run
  refine ⟨_, pe_fld ea hb, fun σ H A ρ ow Q P g h q => ?_⟩
  refine sa σ H A ρ ow _ _ g h fun z v H1 hz s1 p1 => ?_
  unfold xFld at hz
  rw [hid_eq] at hz
  unfold oFld at hz
  split at hz
  · rename_i C' ns ds e1
    obtain ⟨ec, en, hz⟩ := hz
    subst ec en
    have ra := p1.ra
    rw [e1] at ra
    obtain ⟨p, dx, fs, rfl, a, hp, en, r⟩ := ra
    split at hz
    · rename_i d hd
      obtain ⟨w, hw, rw'⟩ := r.get hd
      exact ⟨p, _, dx, fs, w, rfl, hp, c, na, lookup_at en hn hj hw, q _ w H1 hz s1 (pr_kel (k := .rd) rw')⟩
    · exact hz.elim
  · exact hz.elim
/-! places -/
def oFldP (C : Str) (NS : List Str) (j : Nat) (i : Nat) (e : D) (rb : D → D) (P : Nat → Kd → D → (D → D) → Prop) : Prop := match e with
  | .obj C' ns ds => C' = C ∧ ns = NS ∧ (match ds[j]? with | some d => P i .ow d (fun c' => rb (.obj C NS (ds.set j c'))) | none => False)
  | _ => False
@[irreducible] def xFldP (C : Str) (NS : List Str) (j : Nat) (i : Nat) (e : D) (rb : D → D) (P : Nat → Kd → D → (D → D) → Prop) : Prop := hid (oFldP C NS j i e rb P)
def plFld (C : Str) (NS : List Str) (j : Nat) (pl : PLF) : PLF := fun ρ P => pl ρ fun i _ e rb => xFldP C NS j i e rb P
theorem go_fldP {C : Str} {NS : List Str} {j i : Nat} {e : D} {rb : D → D} {ds : List D} {d : D} {P : Nat → Kd → D → (D → D) → Prop} (hz : e = .obj C NS ds) (hd : ds[j]? = some d) (p : P i .ow d (fun c' => rb (.obj C NS (ds.set j c')))) : xFldP C NS j i e rb P := by
  subst hz
  unfold xFldP; rw [hid_eq]
  unfold oFldP
  dsimp only
  rw [hd]
  exact ⟨rfl, rfl, p⟩
theorem dpl_fld {e : Expr} {f : Str} {pl : PLF} {C : Str} {NS : List Str} {j : Nat} (c : Cls X.K (He.ga X.K C)) (na : NoAttr X.K (He.ga X.K C) f) (hn : NS.Nodup) (hj : NS[j]? = some f) (ha : DPl X e pl)
    (hb : attributeBase e f X.env (eval e X.env) = eval e X.env := by rfl) : DPl X (.Attribute e f pos) (plFld C NS j pl) := by
  obtain ⟨ta, ea, sa⟩ := ha.run
  refine ⟨_, pe_fld ea hb, fun σ H A ρ ow Q P g h q => ?_⟩
  refine sa σ H A ρ ow _ _ g h fun i k e rb v H1 h1 s1 p1 => ?_
  unfold xFldP at h1
  rw [hid_eq] at h1
  unfold oFldP at h1
  split at h1
  · rename_i C' ns ds
    obtain ⟨ec, en, h1⟩ := h1
    subst ec en
    obtain ⟨d, v0, g1, fs, g2, fe, e1, e2, z, hsh, put⟩ := p1
    split at h1
    · rename_i d' hd
      obtain ⟨p, dx, fs', w', fc, rfl, hp, en, hw, z'⟩ := z.step_obj hd
      exact ⟨p, _, dx, fs', w', rfl, hp, c, na, lookup_at en hn hj hw, q i .ow _ _ w' H1 h1 s1 ⟨d, v0, g1, fs, g2, fc, e1, e2, z', (fun h => nomatch h), put⟩⟩
    · exact h1.elim
  · exact h1.elim
end
/-! stores -/
section
variable {K : Frg} {A : Addr → Prop} {H : Hp}
/-- a field is put -/
theorem obj_set {C : Str} {NS : List Str} {ds : List D} {w : V} {fe fa : List Addr} {j : Nat} {f : Str} {z : D} {zv : V} (r : R K No H (.obj C NS ds) w fe) (rz : R K No H z zv fa) (nd : (fa ++ fe).Nodup) (hN : NS.Nodup) (hj : NS[j]? = some f) (hn : j < ds.length) :
    ∃ p dx fs fe', w = .ref p ∧ H p = some (.ins (He.ga K C) dx fs) ∧ fs.map (·.1) = NS ∧ p ∈ fe ∧ R K No (upd H p (.ins (He.ga K C) dx (putF f zv fs))) (.obj C NS (ds.set j z)) w fe' ∧ fe'.Nodup ∧ (∀ a ∈ fe', a ∈ fe ∨ a ∈ fa) := by
  obtain ⟨p, dx, fs, fps, rfl, rfl, hp, en, rs⟩ := r
  have hd : ds[j]? = some ds[j] := List.getElem?_eq_getElem hn
  obtain ⟨w0, h1, ho, h3, hw, e3, r1, r2, r3⟩ := Rs.split rs hd
  subst e3
  obtain ⟨n1, n2, n3⟩ := List.nodup_append.mp nd
  obtain ⟨m1, m2⟩ := List.nodup_cons.mp n2
  have nf : p ∉ fa := fun q => n3 p q p (by simp) rfl
  have mu : ∀ u, H p = some u → ¬ Imm u := fun u e => by rw [hp] at e; cases e; exact fun z => z
  have np : p ∉ h1 ∧ p ∉ ho ∧ p ∉ h3 := by
    simp only [List.mem_append, not_or] at m1
    exact m1
  obtain ⟨q1, q2⟩ := putF_at (y := zv) en hN hj
  refine ⟨p, dx, fs, p :: (h1 ++ (fa ++ h3)), rfl, hp, en, by simp, ⟨p, dx, putF f zv fs, _, rfl, rfl, upd_same, q1, by
    rw [q2]
    exact Rs.put hd hw (Rs.keep _ _ _ (KeepF.upd np.1 (fun z => z) mu) r1) (R.keep _ _ _ (KeepF.upd nf (fun z => z) mu) rz) (Rs.keep _ _ _ (KeepF.upd np.2.2 (fun z => z) mu) r3)⟩, ?_, fun a h => ?_⟩
  · obtain ⟨k1, k2, k3⟩ := List.nodup_append.mp m2
    obtain ⟨l1, l2, l3⟩ := List.nodup_append.mp k2
    refine List.nodup_cons.mpr ⟨by simp [np.1, nf, np.2.2], List.nodup_append.mpr ⟨k1, List.nodup_append.mpr ⟨n1, l2, fun a ha b hb => n3 a ha b (by simp [hb])⟩, fun a ha b hb e => ?_⟩⟩
    subst e
    rcases List.mem_append.mp hb with hb | hb
    · exact n3 a hb a (by simp [ha]) rfl
    · exact k3 a ha a (by simp [hb]) rfl
  · simp only [List.mem_cons, List.mem_append] at h ⊢
    rcases h with h | h | h | h <;> simp [h]
/-- a new field -/
theorem obj_new {C : Str} {NS : List Str} {ds : List D} {w : V} {fe fa : List Addr} {f : Str} {z : D} {zv : V} (r : R K No H (.obj C NS ds) w fe) (rz : R K No H z zv fa) (nd : (fa ++ fe).Nodup) (hN : f ∉ NS) :
    ∃ p dx fs fe', w = .ref p ∧ H p = some (.ins (He.ga K C) dx fs) ∧ fs.map (·.1) = NS ∧ p ∈ fe ∧ R K No (upd H p (.ins (He.ga K C) dx (putF f zv fs))) (.obj C (NS ++ [f]) (ds ++ [z])) w fe' ∧ fe'.Nodup ∧ (∀ a ∈ fe', a ∈ fe ∨ a ∈ fa) := by
  obtain ⟨p, dx, fs, fps, rfl, rfl, hp, en, rs⟩ := r
  obtain ⟨n1, n2, n3⟩ := List.nodup_append.mp nd
  obtain ⟨m1, m2⟩ := List.nodup_cons.mp n2
  have nf : p ∉ fa := fun q => n3 p q p (by simp) rfl
  have mu : ∀ u, H p = some u → ¬ Imm u := fun u e => by rw [hp] at e; cases e; exact fun z => z
  have e1 : putF f zv fs = fs ++ [(f, zv)] := putF_new (by rw [en]; exact hN)
  refine ⟨p, dx, fs, p :: (fps ++ fa), rfl, hp, en, by simp, ⟨p, dx, putF f zv fs, _, rfl, rfl, upd_same, by rw [e1, List.map_append, en]; rfl, by
    rw [e1, List.map_append]
    exact (Rs.keep _ _ _ (KeepF.upd m1 (fun z => z) mu) rs).append (Rs.one (R.keep _ _ _ (KeepF.upd nf (fun z => z) mu) rz))⟩, ?_, fun a h => ?_⟩
  · refine List.nodup_cons.mpr ⟨by simp [m1, nf], List.nodup_append.mpr ⟨m2, n1, fun a ha b hb e => n3 b hb a (by simp [ha]) e.symm⟩⟩
  · simp only [List.mem_cons, List.mem_append] at h ⊢
    rcases h with h | h | h <;> simp [h]
end
end
end DL

/-! DL27: fields stored. -/
namespace DL
open PySem PySem.Spec PyProof PyProof.Rows L2
noncomputable section
def oFldS (C : Str) (NS : List Str) (j : Nat) (e : D) (z : KD) (P : D → Prop) : Prop := ownK z.1 = true ∧ match e with
  | .obj C' ns ds => C' = C ∧ ns = NS ∧ j < ds.length ∧ P (.obj C NS (ds.set j z.2))
  | _ => False
@[irreducible] def xFldS (C : Str) (NS : List Str) (j : Nat) (e : D) (z : KD) (P : D → Prop) : Prop := hid (oFldS C NS j e z P)
theorem go_fldS {C : Str} {NS : List Str} {j : Nat} {e : D} {z : KD} {ds : List D} {P : D → Prop} (hz : e = .obj C NS ds) (hk : ownK z.1 = true) (hj : j < ds.length) (p : P (.obj C NS (ds.set j z.2))) : xFldS C NS j e z P := by
  subst hz
  unfold xFldS; rw [hid_eq]
  exact ⟨hk, rfl, rfl, hj, p⟩
def oFldN (C : Str) (NS : List Str) (f : Str) (e : D) (z : KD) (P : D → Prop) : Prop := ownK z.1 = true ∧ match e with
  | .obj C' ns ds => C' = C ∧ ns = NS ∧ P (.obj C (NS ++ [f]) (ds ++ [z.2]))
  | _ => False
@[irreducible] def xFldN (C : Str) (NS : List Str) (f : Str) (e : D) (z : KD) (P : D → Prop) : Prop := hid (oFldN C NS f e z P)
theorem go_fldN {C : Str} {NS : List Str} {f : Str} {e : D} {z : KD} {ds : List D} {P : D → Prop} (hz : e = .obj C NS ds) (hk : ownK z.1 = true) (p : P (.obj C (NS ++ [f]) (ds ++ [z.2]))) : xFldN C NS f e z P := by
  subst hz
  unfold xFldN; rw [hid_eq]
  exact ⟨hk, rfl, rfl, p⟩
def sFldS (C : Str) (NS : List Str) (j : Nat) (fe : EF) (pl : PLF) : SF := fun D ρ => fe ρ (fun z ρ1 => pl ρ1 fun i _ e rb => xFldS C NS j e z fun e' => D.nx (ρ1.set i (some (.ow, rb e')))) D.ex
def sFldN (C : Str) (NS : List Str) (f : Str) (fe : EF) (pl : PLF) : SF := fun D ρ => fe ρ (fun z ρ1 => pl ρ1 fun i _ e rb => xFldN C NS f e z fun e' => D.nx (ρ1.set i (some (.ow, rb e')))) D.ex
section
variable {X : Cx} {E : XK} {pr : List Nat} {pos pos' : Pos} {o value : Expr} {f : Str} {C : Str} {NS : List Str} {j : Nat} {fe : EF} {pl : PLF}
theorem ds_fldS (c : Cls X.K (He.ga X.K C)) (na : NoAttr X.K (He.ga X.K C) f) (hn : NS.Nodup) (hj : NS[j]? = some f) (hlen : NS.length < 1000) (he : DE X E value fe) (ho : DPl X o pl) (hs : swapsWith value (some (.Attribute o f pos')) pos.line X.env = pure false := by rfl) :
    DS X E pr (.Assign [.Attribute o f pos'] value pos) (sFldS C NS j fe pl) := by
  obtain ⟨te, ee, se⟩ := he.run
  obtain ⟨to, eo, so⟩ := ho.run
  refine ⟨_, ps_fld eo ee hs, fun σ H A ρ ow T D gd h nx rt ex => ?_⟩
  refine se σ H A ρ ow _ _ _ gd h (fun z ρ1 v H1 fp ow1 A1 h1 st1 g1 o1 => ?_) fun C ρ1 H1 ow1 A1 h1 st1 g1 => ex C ρ1 σ H1 ow1 A1 h1 st1 g1 fun _ _ => rfl
  refine so σ H1 A1 ρ1 ow1 _ _ g1 h1 fun i k e rb w H2 h2 s2 p2 => ?_
  unfold xFldS at h2
  rw [hid_eq] at h2
  obtain ⟨hk, h2⟩ := h2
  split at h2
  · rename_i C' ns ds
    obtain ⟨ec, en, hl, h2⟩ := h2
    subst ec en
    have o2 : VR X.K A1 H2 z v fp := o1.rep.same s2
    obtain ⟨fe0, r, nd, _, hsh, mtt⟩ := p2.mut (g1.same s2) o1.nd o1.dis
    obtain ⟨p, dx, fs, fe', ew, hp, em, hpf, r', nd', sub⟩ := obj_set (zv := v) r (o2.rown hk) nd hn hj hl
    subst ew
    obtain ⟨ow', st', g', _⟩ := mtt (.obj C' ns (ds.set j z.2)) .ow [] (.fl, .non) .non _ fe' (fun a o e n => by rw [upd_ne (fun z => n (by rw [z]; exact hpf))]; exact e) r' (.inl rfl) ⟨rfl, rfl⟩ nd' fun a h => (sub a (by simpa using h)).elim .inl fun z => .inr (.inl z)
    refine ⟨p, _, dx, fs, rfl, hp, c, na, by rw [← List.length_map (·.1), em]; exact hlen, ?_⟩
    refine nx _ σ _ ow' A1 h2 ?_ g' fun _ _ => rfl
    have stA : Stp H ow A H2 (fp ++ ow1) A1 := (st1.trans (Stp.of_same s2))
    exact stA.trans (st'.sub fun a h => by simp [h])
  · exact h2.elim
theorem ds_fldN (c : Cls X.K (He.ga X.K C)) (na : NoAttr X.K (He.ga X.K C) f) (hn : f ∉ NS) (hlen : NS.length < 1000) (he : DE X E value fe) (ho : DPl X o pl) (hs : swapsWith value (some (.Attribute o f pos')) pos.line X.env = pure false := by rfl) :
    DS X E pr (.Assign [.Attribute o f pos'] value pos) (sFldN C NS f fe pl) := by
  obtain ⟨te, ee, se⟩ := he.run
  obtain ⟨to, eo, so⟩ := ho.run
  refine ⟨_, ps_fld eo ee hs, fun σ H A ρ ow T D gd h nx rt ex => ?_⟩
  refine se σ H A ρ ow _ _ _ gd h (fun z ρ1 v H1 fp ow1 A1 h1 st1 g1 o1 => ?_) fun C ρ1 H1 ow1 A1 h1 st1 g1 => ex C ρ1 σ H1 ow1 A1 h1 st1 g1 fun _ _ => rfl
  refine so σ H1 A1 ρ1 ow1 _ _ g1 h1 fun i k e rb w H2 h2 s2 p2 => ?_
  unfold xFldN at h2
  rw [hid_eq] at h2
  obtain ⟨hk, h2⟩ := h2
  split at h2
  · rename_i C' ns ds
    obtain ⟨ec, en, h2⟩ := h2
    subst ec en
    have o2 : VR X.K A1 H2 z v fp := o1.rep.same s2
    obtain ⟨fe0, r, nd, _, hsh, mtt⟩ := p2.mut (g1.same s2) o1.nd o1.dis
    obtain ⟨p, dx, fs, fe', ew, hp, em, hpf, r', nd', sub⟩ := obj_new (zv := v) r (o2.rown hk) nd hn
    subst ew
    obtain ⟨ow', st', g', _⟩ := mtt (.obj C' (ns ++ [f]) (ds ++ [z.2])) .ow [] (.fl, .non) .non _ fe' (fun a o e n => by rw [upd_ne (fun z => n (by rw [z]; exact hpf))]; exact e) r' (.inl rfl) ⟨rfl, rfl⟩ nd' fun a h => (sub a (by simpa using h)).elim .inl fun z => .inr (.inl z)
    refine ⟨p, _, dx, fs, rfl, hp, c, na, by rw [← List.length_map (·.1), em]; exact hlen, ?_⟩
    refine nx _ σ _ ow' A1 h2 ?_ g' fun _ _ => rfl
    have stA : Stp H ow A H2 (fp ++ ow1) A1 := (st1.trans (Stp.of_same s2))
    exact stA.trans (st'.sub fun a h => by simp [h])
  · exact h2.elim
end
end
end DL

/-! DL28: methods of objects, objects made. -/
namespace DL
open PySem PySem.Spec PyProof PyProof.Rows L2
theorem RoomG.make {k : Nat} {A : Around} (h : RoomG (k + 1) A) (C : Addr) (us : List Value) : RoomG k (A.under (Code.builtin "type.__call__" { pos := Value.ref C :: us })) := ⟨h.room.make C us [], by
  unfold Around.under
  dsimp only
  rw [h.free]
  rfl⟩
theorem pe_methG {X : Cx} {CX : CXT} {k : Nat} {f C : Addr} {ps : List Str} {sp : Sp} {E : XK} {m : Str} {pos apos : Pos} {e o : Expr} {es : List Expr} {ta : TE} {t : TA} {pl : Sem Bool} (he : PE X o ta) (c : Cls X.K C) (hm : Meth X.K C m f) (F : GOk X.prog X.w X.K X.mg X.base CX k f ps sp) (hr : RoomG k X.A)
    (hx : Passes CX X E) (ha : PA X (e :: es) t) (hst : starEach (e :: es) X.env = (false, eval e X.env) :: starEach es X.env) (hpl : (backTo pos (starEach es X.env)).any (·.1) = false)
    (ht : eval (.Call (.Attribute o m apos) (e :: es) [] pos) X.env = (do
      let ov ← eval o X.env
      standAt apos.atName
      let (f, first) ← holding [ov] (getMethod ov m pl)
      callWith pos f first (backTo pos (starEach (e :: es) X.env)) (backToKw pos (keywordEach [] X.env)))) : PE X (.Call (.Attribute o m apos) (e :: es) [] pos) (tMeth C m sp [] E ta t) := by
  refine ⟨fun pins s σ H Q I h => W.methodCall_KW (thn (he.run pins s σ H _ I h) fun u s1 ⟨x, H1, I1, rx, a, dx, fs, ex, ea, l, q⟩ => ?_) ht⟩
  subst ex
  have rx : u = .ref a := rx
  subst rx
  refine getmeth_ok I1 ea c hm l (W.callWith_K I.ok.mod.kin hm.kp (thn (ha.run pos pins s1 σ H1 (fun vs H2 => sp (V.ref a :: (vs ++ [])) H2 Q E) I1 q) fun us s2 ⟨vs, H2, I2, r, q2⟩ => ?_) hst hpl)
  have q2 : sp (V.ref a :: (vs ++ [])) H2 Q E := q2
  rw [List.append_nil] at q2
  exact ⟨I2.kIn, run_gok F hr hx I2 (show Vals (V.ref a :: vs) (Value.ref a :: us) from Paired.cons (show L2.RelV (V.ref a) (Value.ref a) from rfl) r) q2⟩
theorem pe_meth0G {X : Cx} {CX : CXT} {k : Nat} {f C : Addr} {ps : List Str} {sp : Sp} {E : XK} {m : Str} {pos apos : Pos} {o : Expr} {ta : TE} {pl : Sem Bool} (he : PE X o ta) (c : Cls X.K C) (hm : Meth X.K C m f) (F : GOk X.prog X.w X.K X.mg X.base CX k f ps sp) (hr : RoomG k X.A)
    (hx : Passes CX X E)
    (ht : eval (.Call (.Attribute o m apos) [] [] pos) X.env = (do
      let ov ← eval o X.env
      standAt apos.atName
      let (f, first) ← holding [ov] (getMethod ov m pl)
      callWith pos f first (backTo pos (starEach [] X.env)) (backToKw pos (keywordEach [] X.env)))) : PE X (.Call (.Attribute o m apos) [] [] pos) (tMeth C m sp [] E ta tNil) := by
  refine ⟨fun pins s σ H Q I h => W.methodCall_KW (thn (he.run pins s σ H _ I h) fun u s1 ⟨x, H1, I1, rx, a, dx, fs, ex, ea, l, q⟩ => ?_) ht⟩
  subst ex
  have rx : u = .ref a := rx
  subst rx
  have q : sp (V.ref a :: ([] ++ [])) H1 Q E := q
  exact getmeth_ok I1 ea c hm l (W.callWith_K0 I1.kIn hm.kp (run_gok F hr hx I1 (show Vals [V.ref a] [Value.ref a] from Paired.cons (show L2.RelV (V.ref a) (Value.ref a) from rfl) Paired.nil) q))
theorem run_makeG {X : Cx} {CX : CXT} {k : Nat} {f C : Addr} {ps : List Str} {sp : Sp} {E : XK} {pins : List (Addr × Obj)} {σ : L2.St} {H : Hp} {s : Shared} {Q : VK} {us : List Value} {vs : List V} (M : Mk X.K C f) (F : GOk X.prog X.w X.K X.mg X.base CX k f ps sp) (hr : RoomG (k + 1) X.A)
    (hx : Passes CX X E) (I : L2.Inv X pins σ H s) (r : Vals vs us) (h : ∀ x dx : Addr, H x = none → H dx = none → dx ≠ x → sp (.ref x :: vs) (upd (upd H dx (.own x)) x (.ins C dx [])) (fun v H2 => v = .non ∧ Q (.ref x) H2) E) :
    wpAny (model X.prog X.w) X.A (call (.ref C) us) (EP X pins σ Q) X.xe s := by
  have hq := h (s.heap.objs.size + 1) s.heap.objs.size (I.hok.fresh (Nat.le_succ _)) (I.hok.fresh (Nat.le_refl _)) (Nat.ne_of_lt (Nat.lt_succ_self _))
  have I2 := I.made (C := C)
  refine wpAny_call (make_map I.kIn M.makes M.init (beq_iff_eq.mp M.fn) (codeAny_mono (F.run _ X.stack _ _ (.ref (s.heap.objs.size + 1) :: us) _ _ E (hr.make C us) (I2.env0.make C us []) (show Vals (V.ref (s.heap.objs.size + 1) :: vs) (Value.ref (s.heap.objs.size + 1) :: us) from Paired.cons (show L2.RelV (V.ref (s.heap.objs.size + 1)) (Value.ref (s.heap.objs.size + 1)) from rfl) r) hq) fun rs s' hq' => ?_))
  match rs, hq' with
  | .error e, hq' => exact hx pins σ _ _ e s' I2 hq'
  | .ok .next, hq' => exact hq'.elim
  | .ok .brk, hq' => exact hq'.elim
  | .ok .cont, hq' => exact hq'.elim
  | .ok (.ret u), hq' =>
    obtain ⟨v, H', I3, rv, ev, q3⟩ := I2.after hq'
    subst ev
    exact ⟨rv, .ref (s.heap.objs.size + 1), H', I3, rfl, q3⟩
theorem pe_makeG {X : Cx} {CX : CXT} {k : Nat} {f C : Addr} {ps : List Str} {sp : Sp} {E : XK} {x : Str} {p pos : Pos} {e : Expr} {es : List Expr} {t : TA} (M : Mk X.K C f) (F : GOk X.prog X.w X.K X.mg X.base CX k f ps sp) (hr : RoomG (k + 1) X.A) (hg : Gl X x) (hm : X.mg x = some (.ref C)) (hx : Passes CX X E) (ha : PA X (e :: es) t)
    (hdb : (x == ("__debug__" : Str)) = false) (he : starEach (e :: es) X.env = (false, eval e X.env) :: starEach es X.env) (hpl : (backTo pos (starEach es X.env)).any (·.1) = false) :
    PE X (.Call (.Name x p) (e :: es) [] pos) (tMake C sp [] E t) :=
  ⟨fun pins s σ H Q I h => wpAny_Call_Name_kw (ld_glob I hg hm (W.callWith_K I.ok.mod.kin M.kp (thn (ha.run pos pins s σ H _ I h) fun us s1 ⟨vs, H1, I1, r, q⟩ =>
    ⟨I1.kIn, run_makeG M F hr hx I1 r fun x dx h1 h2 h3 => by have := q x dx h1 h2 h3; rwa [List.append_nil] at this⟩) he hpl) hdb)⟩
noncomputable section
/-- a method that only reads its object -/
def pMeth (C : Str) (NS : List Str) (c : CF) (fo : PF) (g : PAF) : PF := fun ρ P => fo ρ fun z => (∃ ds, z.2 = .obj C NS ds) ∧ g ρ fun zs => c ((z :: zs).map fun z => (z.1.rdk, z.2)) (fun z _ => P z) (fun _ _ => False)
/-- a method of what the slot i holds -/
def eMeth (i : Nat) (C : Str) (NS : List Str) (ms : List Bool) (c : CF) (g : AEF) : EF := fun ρ P PX => (∃ ds, ρ[i]? = some (some (.ow, .obj C NS ds))) ∧ eFn ms c (aPl i g) ρ P PX
section
variable {X : Cx} {CX : CXT} {E : XK} {k n : Nat} {f : Addr} {ps : List Str} {c : CF} {ms : List Bool} {m : Str} {pos apos : Pos} {o e : Expr} {es : List Expr} {C : Str} {NS : List Str} {pl : Sem Bool}
theorem prs_cons {K : Frg} {B : Addr → Prop} {H0 H1 H2 : Hp} {v : V} {vs : List V} {z : KD} {zs : List KD} (s1 : Same H0 H1) (s2 : Same H1 H2) (p1 : PR K B (Fre H0) H1 v z) (p2 : PRs K B (Fre H1) H2 vs zs) : PRs K B (Fre H0) H2 (v :: vs) (z :: zs) := by
  obtain ⟨f1, a1, b1, c1⟩ := p1
  obtain ⟨f2, a2, b2, c2⟩ := p2
  refine ⟨f1 ++ f2, ⟨v, vs, f1, f2, rfl, rfl, a1.same s2, a2.mono fun a z => z.imp id (s1.fre a)⟩, List.nodup_append.mpr ⟨b1, b2, fun a ha b hb e => ?_⟩, fun a z => ?_⟩
  · subst e
    obtain ⟨o, e, _⟩ := a1.mu a ha
    rw [show H1 a = none from c2 a hb] at e; cases e
  · rcases List.mem_append.mp z with z | z
    · exact c1 a z
    · exact s1.fre a (c2 a z)
theorem dp_meth {fo : PF} {g : PAF} (c' : Cls X.K (He.ga X.K C)) (hm : Meth X.K (He.ga X.K C) m f) (hn : m ∉ NS) (F : GOk X.prog X.w X.K X.mg X.base CX k f ps (spOf X.K (n + 1) ms c)) (hr : RoomG k X.A) (hx : Passes CX X E) (ho : DP X o fo) (ha : DA X (e :: es) n g)
    (hst : starEach (e :: es) X.env = (false, eval e X.env) :: starEach es X.env := by rfl) (hpl : (backTo pos (starEach es X.env)).any (·.1) = false := by rfl)
    (ht : eval (.Call (.Attribute o m apos) (e :: es) [] pos) X.env = (do
      let ov ← eval o X.env
      standAt apos.atName
      let (f, first) ← holding [ov] (getMethod ov m pl)
      callWith pos f first (backTo pos (starEach (e :: es) X.env)) (backToKw pos (keywordEach [] X.env))) := by rfl) : DP X (.Call (.Attribute o m apos) (e :: es) [] pos) (pMeth C NS c fo g) := by
  obtain ⟨to, eo, so⟩ := ho.run
  obtain ⟨t, ea, sa⟩ := ha.run
  refine ⟨_, pe_methG eo c' hm F hr hx ea hst hpl ht, fun σ H A ρ ow Q P gd h q => ?_⟩
  refine so σ H A ρ ow _ _ gd h fun z v H1 hz s1 p1 => ?_
  obtain ⟨⟨ds, ez⟩, hz⟩ := hz
  have ra := p1.ra
  rw [ez] at ra
  obtain ⟨p, dx, fs, rfl, ap, hp, en, r⟩ := ra
  refine ⟨p, dx, fs, rfl, hp, lookup_none (by rw [en]; exact hn), ?_⟩
  refine sa σ H1 A ρ ow _ _ (gd.same s1) hz fun zs vs H2 hl hz2 s2 p2 => ?_
  rw [List.append_nil]
  refine fn_core gd (s1.trans s2) (prs_cons s1 s2 p1 p2) ?_ hz2 q
  rw [List.length_cons]
  obtain ⟨_, rr, _⟩ := p2
  rw [rr.len, hl]
theorem dp_meth0 {fo : PF} (c' : Cls X.K (He.ga X.K C)) (hm : Meth X.K (He.ga X.K C) m f) (hn : m ∉ NS) (F : GOk X.prog X.w X.K X.mg X.base CX k f ps (spOf X.K 1 ms c)) (hr : RoomG k X.A) (hx : Passes CX X E) (ho : DP X o fo)
    (ht : eval (.Call (.Attribute o m apos) [] [] pos) X.env = (do
      let ov ← eval o X.env
      standAt apos.atName
      let (f, first) ← holding [ov] (getMethod ov m pl)
      callWith pos f first (backTo pos (starEach [] X.env)) (backToKw pos (keywordEach [] X.env))) := by rfl) : DP X (.Call (.Attribute o m apos) [] [] pos) (pMeth C NS c fo fun _ P => P []) := by
  obtain ⟨to, eo, so⟩ := ho.run
  refine ⟨_, pe_meth0G eo c' hm F hr hx ht, fun σ H A ρ ow Q P gd h q => ?_⟩
  refine so σ H A ρ ow _ _ gd h fun z v H1 hz s1 p1 => ?_
  obtain ⟨⟨ds, ez⟩, hz⟩ := hz
  have ra := p1.ra
  rw [ez] at ra
  obtain ⟨p, dx, fs, rfl, ap, hp, en, r⟩ := ra
  refine ⟨p, dx, fs, rfl, hp, lookup_none (by rw [en]; exact hn), ?_⟩
  exact fn_core gd s1 (prs_cons s1 (Same.refl H1) p1 .nil) rfl hz q
theorem de_meth (i : Nat) {x : Str} {px : Pos} {g : AEF} (c' : Cls X.K (He.ga X.K C)) (hm : Meth X.K (He.ga X.K C) m f) (hn : m ∉ NS) (F : GOk X.prog X.w X.K X.mg X.base CX k f ps (spOf X.K (n + 1) ms c)) (hr : RoomG k X.A) (hx : Passes CX X E) (ha : DAE X E (e :: es) n g)
    (hN : X.N[i]? = some x := by rfl) (hv : Vis X.env.scope x := by first | exact Or.inl rfl | exact Or.inr (Or.inl rfl) | exact Or.inr (Or.inr rfl)) (hd : (x == ("__debug__" : Str)) = false := by decide) (hcd : (x == ("__classdict__" : Str)) = false := by decide)
    (hst : starEach (e :: es) X.env = (false, eval e X.env) :: starEach es X.env := by rfl) (hpl : (backTo pos (starEach es X.env)).any (·.1) = false := by rfl)
    (ht : eval (.Call (.Attribute (.Name x px) m apos) (e :: es) [] pos) X.env = (do
      let ov ← eval (.Name x px) X.env
      standAt apos.atName
      let (f, first) ← holding [ov] (getMethod ov m pl)
      callWith pos f first (backTo pos (starEach (e :: es) X.env)) (backToKw pos (keywordEach [] X.env))) := by rfl) : DE X E (.Call (.Attribute (.Name x px) m apos) (e :: es) [] pos) (eMeth i C NS ms c g) := by
  obtain ⟨t, ea, sa⟩ := ha.run
  refine ⟨_, pe_methG (pe_var hN hv hd hcd) c' hm F hr hx ea hst hpl ht, fun σ H A ρ ow Q P PX gd h q qx => ?_⟩
  obtain ⟨⟨ds, e0⟩, h⟩ := h
  obtain ⟨_, h⟩ := h
  obtain ⟨v, fv, hv', vr⟩ := gd.slot e0
  have vr : R X.K No H (.obj C NS ds) v fv := vr.1
  obtain ⟨p, dx, fs, fps, ev, _, hp, en, _⟩ := vr
  subst ev
  refine ⟨.ref p, hv', p, dx, fs, rfl, hp, lookup_none (by rw [en]; exact hn), ?_⟩
  refine sa σ H A ρ ow _ _ _ gd h (fun avs ρ1 vs H1 fp ow1 A1 hl hz st1 g1 r nd dis => ?_) qx
  rw [List.append_nil]
  dsimp only at hz
  split at hz
  · rename_i zs ρ2 e1
    exact efn_core (avs := .pl i :: avs) e1 st1 g1 ⟨.ref p, vs, rfl, hv', r⟩ nd dis (by rw [List.length_cons, r.len, hl]) hz q qx
  · exact hz.elim
theorem de_meth0 (i : Nat) {x : Str} {px : Pos} (c' : Cls X.K (He.ga X.K C)) (hm : Meth X.K (He.ga X.K C) m f) (hn : m ∉ NS) (F : GOk X.prog X.w X.K X.mg X.base CX k f ps (spOf X.K 1 ms c)) (hr : RoomG k X.A) (hx : Passes CX X E)
    (hN : X.N[i]? = some x := by rfl) (hv : Vis X.env.scope x := by first | exact Or.inl rfl | exact Or.inr (Or.inl rfl) | exact Or.inr (Or.inr rfl)) (hd : (x == ("__debug__" : Str)) = false := by decide) (hcd : (x == ("__classdict__" : Str)) = false := by decide)
    (ht : eval (.Call (.Attribute (.Name x px) m apos) [] [] pos) X.env = (do
      let ov ← eval (.Name x px) X.env
      standAt apos.atName
      let (f, first) ← holding [ov] (getMethod ov m pl)
      callWith pos f first (backTo pos (starEach [] X.env)) (backToKw pos (keywordEach [] X.env))) := by rfl) : DE X E (.Call (.Attribute (.Name x px) m apos) [] [] pos) (eMeth i C NS ms c aNil) := by
  refine ⟨_, pe_meth0G (pe_var hN hv hd hcd) c' hm F hr hx ht, fun σ H A ρ ow Q P PX gd h q qx => ?_⟩
  obtain ⟨⟨ds, e0⟩, h⟩ := h
  obtain ⟨_, h⟩ := h
  obtain ⟨v, fv, hv', vr⟩ := gd.slot e0
  have vr : R X.K No H (.obj C NS ds) v fv := vr.1
  obtain ⟨p, dx, fs, fps, ev, _, hp, en, _⟩ := vr
  subst ev
  refine ⟨.ref p, hv', p, dx, fs, rfl, hp, lookup_none (by rw [en]; exact hn), ?_⟩
  show spOf X.K 1 ms c ([.ref p]) H Q E
  have hz : (match grab [.pl i] ρ with
    | some (zs, ρ2) => c zs (fun z ys => match putB ms [.pl i] ys ρ2 with | some ρ3 => P z ρ3 | none => False) (fun C ys => match putB ms [.pl i] ys ρ2 with | some ρ3 => PX C ρ3 | none => False)
    | none => False) := h
  split at hz
  · rename_i zs ρ2 e1
    exact efn_core (avs := [.pl i]) (fp := []) e1 Stp.refl gd ⟨.ref p, [], rfl, hv', rfl, rfl⟩ gd.nd (fun a h => (nomatch h)) rfl hz q qx
  · exact hz.elim
end
end
end DL

/-! DL29: objects made. -/
namespace DL
open PySem PySem.Spec PyProof PyProof.Rows L2
noncomputable section
/-- an object of the class C, made by its __init__ with things that are only read -/
def pMake (C : Str) (c : CF) (g : PAF) : PF := fun ρ P => g ρ fun zs => c ((.ow, .obj C [] []) :: zs.map fun z => (z.1.rdk, z.2)) (fun z ys => z = (.fl, .non) ∧ match ys with | [y] => P y | _ => False) (fun _ _ => False)
theorem VRs.same' {K : Frg} {A : Addr → Prop} {H H' : Hp} (s : Same H H') : ∀ {zs : List KD} {vs : List V} {f : List Addr}, VRs K A H zs vs f → VRs K A H' zs vs f
  | [], _, _, h => h
  | z :: zs, _, _, ⟨w, ws, f1, f2, e, e2, h, t⟩ => ⟨w, ws, f1, f2, e, e2, h.same s, VRs.same' s t⟩
theorem make_core {K : Frg} {A : Addr → Prop} {H H0 : Hp} {ow : List Addr} {ρ : Ro} {σ : L2.St} {C : Str} {c : CF} {zs : List KD} {vs : List V} {n : Nat} {x dx : Addr} {Q : VK} {P : KD → Prop} {E : XK} {ms : List Bool} (g : Good K A H0 ρ σ ow) (s : Same H0 H) (pr : PRs K (BB A ow) (Fre H0) H vs zs) (hl : vs.length = n) (hm : ms.all (!·) = true)
    (hx : H x = none) (hdx : H dx = none) (hne : dx ≠ x)
    (hc : c ((.ow, .obj C [] []) :: zs.map fun z => (z.1.rdk, z.2)) (fun z ys => z = (.fl, .non) ∧ match ys with | [y] => P y | _ => False) (fun _ _ => False))
    (q : ∀ z v H', P z → Same H0 H' → PR K (BB A ow) (Fre H0) H' v z → Q v H') :
    spOf K (n + 1) (true :: ms) c (.ref x :: vs) (upd (upd H dx (.own x)) x (.ins (He.ga K C) dx [])) (fun v H2 => v = .non ∧ Q (.ref x) H2) E := by
  obtain ⟨fp, r, nd, hF⟩ := pr
  have sm : Same H (upd (upd H dx (.own x)) x (.ins (He.ga K C) dx [])) := fun a o e => by
    rw [upd_ne (fun z => by rw [z, hx] at e; cases e), upd_ne (fun z => by rw [z, hdx] at e; cases e)]
    exact e
  have r' : VRs K (fun a => Or2 (BB A ow) (Fre H0) a ∧ ∃ o, H a = some o) H (zs.map fun z => (z.1.rdk, z.2)) vs [] :=
    (r.monoT fun a o e h => ⟨h, o, e⟩).view (fun a h => h) (fun a h => ⟨.inr (hF a h), let ⟨o, e, _⟩ := r.mu a h; ⟨o, e⟩⟩)
  refine ⟨by rw [List.length_cons, hl], (.ow, .obj C [] []) :: zs.map (fun z => (z.1.rdk, z.2)), fun a => Or2 (BB A ow) (Fre H0) a ∧ ∃ o, H a = some o, [x], _, _, ⟨.ref x, vs, [x], [], rfl, rfl, (show R K No _ (.obj C [] []) (.ref x) [x] from ⟨x, dx, [], [], rfl, rfl, upd_same, rfl, Rs.nil⟩), VRs.same' sm r'⟩, by simp, fun a h z => ?_, fun a h => ?_, hc, fun z ys v H' fp' M' A' hz rt rv => ?_, fun C ys H' M' A' hx _ => hx.elim⟩
  · have e : a = x := by simpa using h
    subst e
    obtain ⟨_, o, e⟩ := z
    rw [hx] at e; cases e
  · obtain ⟨_, o, e⟩ := h
    exact ⟨o, sm a o e⟩
  · obtain ⟨ez, hz⟩ := hz
    subst ez
    obtain ⟨rfl, rv⟩ := rv
    refine ⟨rv, ?_⟩
    match ys, hz, rt with
    | [y], hz, rt =>
      have s' : Same H H' := fun a o e => rt.stp.same a o (sm a o e) (by
        intro z
        have : a = x := by simpa using z
        rw [this, hx] at e; cases e)
      have hsel : sel (true :: ms) (V.ref x :: vs) = [V.ref x] := by
        show V.ref x :: sel ms vs = _
        rw [sel_none hm]
      have rm := rt.muts
      rw [hsel] at rm
      obtain ⟨w, ws, f1, f2, e1, e2, rw1, e3, e4⟩ := rm
      cases e1
      subst e4
      have e2 : M' = f1 := by rw [e2, List.append_nil]
      subst e2
      refine q y (.ref x) H' hz (s.trans s') ⟨M', rw1.mono fun a h => ?_, by simpa using rt.nd, fun a h => ?_⟩
      · rcases rt.stp.fr a h with h | h | h
        · exact h.1
        · have : a = x := by simpa using h
          rw [this]
          exact .inr (s.free hx)
        · refine .inr (s.free ?_)
          cases e : H a with
          | none => rfl
          | some o => rw [sm a o e] at h; cases h
      · rcases rt.stp.own a (by simp [h]) with h | h
        · have : a = x := by simpa using h
          rw [this]
          exact s.free hx
        · refine s.free ?_
          cases e : H a with
          | none => rfl
          | some o => rw [sm a o e] at h; cases h
section
variable {X : Cx} {CX : CXT} {E : XK} {k n : Nat} {f : Addr} {ps : List Str} {c : CF} {ms : List Bool} {x : Str} {p pos : Pos} {e : Expr} {es : List Expr} {C : Str} {g : PAF}
theorem dp_make (M : Mk X.K (He.ga X.K C) f) (F : GOk X.prog X.w X.K X.mg X.base CX k f ps (spOf X.K (n + 1) (true :: ms) c)) (hms : ms.all (!·) = true) (hr : RoomG (k + 1) X.A) (hg : Gl X x) (hm : X.mg x = some (.ref (He.ga X.K C))) (hx : Passes CX X E) (ha : DA X (e :: es) n g)
    (hdb : (x == ("__debug__" : Str)) = false := by decide) (he : starEach (e :: es) X.env = (false, eval e X.env) :: starEach es X.env := by rfl) (hpl : (backTo pos (starEach es X.env)).any (·.1) = false := by rfl) :
    DP X (.Call (.Name x p) (e :: es) [] pos) (pMake C c g) := by
  obtain ⟨t, ea, sa⟩ := ha.run
  refine ⟨_, pe_makeG M F hr hg hm hx ea hdb he hpl, fun σ H A ρ ow Q P gd h q => ?_⟩
  refine sa σ H A ρ ow _ _ gd h fun zs vs H1 hl hz s1 p1 => ?_
  intro x dx h1 h2 h3
  rw [List.append_nil]
  have hlen : vs.length = n := by
    obtain ⟨_, rr, _⟩ := p1
    rw [rr.len, hl]
  exact make_core gd s1 p1 hlen hms h1 h2 h3 hz q
end
end
end DL

/-! DL30: a module's numbers, statements never come to, numbers of a set, two fields at once, objects made with arguments that change. -/
namespace DL
open PySem PySem.Spec PyProof PyProof.Rows L2
noncomputable section
def sNever : SF := fun _ _ => False
/-- how many unlike numbers (all of them unlike) -/
def pLenSet (f : PF) : PF := fun ρ P => f ρ fun z => match z with
  | (_, .lst ds) => ∃ ns : List Int, ds = ns.map .int ∧ ns.Nodup ∧ ns.length ≤ 4000 ∧ P (.fl, .int ns.length)
  | _ => False
section
variable {X : Cx} {E : XK} {pr : List Nat} {pos : Pos}
theorem dp_gint {x : Str} {i : Int} {p : Pos} (hg : Gl X x) (hm : ∃ t, X.mg x = some (.int i t)) (hd : (x == ("__debug__" : Str)) = false := by decide) : DP X (.Name x p) (pC (.int i)) := by
  obtain ⟨t, hm⟩ := hm
  exact dp_c (v := .int i) (pe_glob (v := .int i) hg hm ⟨t, rfl⟩ hd) fun _ _ => rfl
theorem ds_never {st : Stmt} : DS X E pr st sNever := ⟨_, ps_never, fun σ H A ρ ow T D gd h nx rt ex => h.elim⟩
theorem dp_lenSet {a : Expr} {p p2 q : Pos} {f : PF} (hc : X.calm = true) (hg : Gl X "len") (hm : X.mg "len" = none) (hg2 : Gl X "set") (hm2 : X.mg "set" = none) (ha : DP X a f)
    (na : starEach [a] X.env = (false, eval a X.env) :: starEach [] X.env := by rfl) : DP X (.Call (.Name "len" p) [.Call (.Name "set" p2) [a] [] q] [] pos) (pLenSet f) := by
  obtain ⟨t, ea, sa⟩ := ha.run
  refine ⟨_, RZ.pe_lenSetI hg hm hg2 hm2 ea hc na, fun σ H A ρ ow Q P gd h q => ?_⟩
  refine sa σ H A ρ ow _ _ gd h fun z v H1 hz s1 p1 => ?_
  split at hz
  · rename_i k ds
    obtain ⟨ns, e, nd, hl, hP⟩ := hz
    subst e
    obtain ⟨l, us, ev, t, r⟩ := p1.lstT
    subst ev
    have eu : us = ns.map V.int := r.ints
    subst eu
    exact ⟨l, ns, rfl, .of t, nd, hl, q _ _ H1 hP s1 (.fl rfl)⟩
  · exact hz.elim
/-! two fields at once -/
def gFld (K : PySem.W.Frag) (to : TE) (f : Str) : TG := fun v σ H Q => to σ H fun x H1 => ∃ a C dx fs, x = .ref a ∧ H1 a = some (.ins C dx fs) ∧ Cls K C ∧ NoAttr K C f ∧ fs.length < 1000 ∧ Q σ (upd H1 a (.ins C dx (putF f v fs)))
theorem pg_fld {o : Expr} {f : Str} {to : TE} {p : Pos} (ho : PE X o to) : PG X (.Attribute o f p) (gFld X.K to f) := by
  refine ⟨fun pins s σ H v u Q I r h => ?_⟩
  rw [assign_Attribute]
  refine wpAny_bind (wpAny_holding (thn (ho.run pins s σ H _ I h) fun ov s1 ⟨x, H1, I1, r1, a, C, dx, fs, ex, ea, c, n, l, q1⟩ => ?_))
  subst ex
  obtain rfl : ov = Value.ref a := r1
  refine wpAny_bind (wpAny_standAt (wpAny_bind (wpAny_holding (setattr_ok I1 ea c n l r fun s3 I3 => ?_))))
  exact wpAny_release ⟨σ, _, I3, q1⟩
theorem gfld_ok {K : Frg} {to : TE} {pl : PLF} {A1 : Addr → Prop} {H1 : Hp} {ρ1 : Ro} {σ : L2.St} {ow1 : List Addr} {d : D} {v : V} {P : Ro → Prop} {Q : L2.St → Hp → Prop} {C f : Str} {NS : List Str} {j : Nat} (so : PLSound K to pl)
    (c : Cls K (He.ga K C)) (na : NoAttr K (He.ga K C) f) (hn : NS.Nodup) (hj : NS[j]? = some f) (hlen : NS.length < 1000)
    (g1 : Good K A1 H1 ρ1 σ ow1) (o1 : RA K No H1 d v) (h : pl ρ1 fun i k e rb => xFldS C NS j e (.fl, d) fun e' => P (ρ1.set i (some (.ow, rb e'))))
    (q : ∀ ρ' H' ow', P ρ' → Good K A1 H' ρ' σ ow' → Stp H1 ow1 A1 H' ow' A1 → Q σ H') : gFld K to f v σ H1 Q := by
  refine so σ H1 A1 ρ1 ow1 _ _ g1 h fun i k e rb w H2 h2 s2 p2 => ?_
  unfold xFldS at h2
  rw [hid_eq] at h2
  obtain ⟨hk, h2⟩ := h2
  split at h2
  · rename_i C' ns ds
    obtain ⟨ec, en, hl, h2⟩ := h2
    subst ec en
    have o2 : R K No H2 d v [] := R.of0 _ _ (o1.same s2)
    obtain ⟨fe0, r, nd, _, hsh, mtt⟩ := p2.mut (fa := []) (g1.same s2) (g1.same s2).nd fun a h => nomatch h
    obtain ⟨p, dx, fs, fe', ew, hp, em, hpf, r', nd', sub⟩ := obj_set (zv := v) r o2 nd hn hj hl
    subst ew
    obtain ⟨ow', st', g', _⟩ := mtt (.obj C' ns (ds.set j d)) .ow [] (.fl, .non) .non _ fe' (fun a o e n => by rw [upd_ne (fun z => n (by rw [z]; exact hpf))]; exact e) r' (.inl rfl) ⟨rfl, rfl⟩ nd' fun a h => (sub a (by simpa using h)).elim .inl fun z => .inr (.inl z)
    refine ⟨p, _, dx, fs, rfl, hp, c, na, by rw [← List.length_map (·.1), em]; exact hlen, ?_⟩
    exact q _ _ ow' h2 g' ((Stp.of_same s2).trans (st'.sub fun a h => by simpa using h))
  · exact h2.elim
/-- what is told apart into two things without lists -/
def oTwo (z : KD) (P : D → D → Prop) : Prop := match z.2 with
  | .tup [a, b] => a.imm = true ∧ b.imm = true ∧ P a b
  | _ => False
@[irreducible] def xTwo (z : KD) (P : D → D → Prop) : Prop := hid (oTwo z P)
theorem go_two {z : KD} {a b : D} {P : D → D → Prop} (hz : z.2 = .tup [a, b]) (ha : a.imm = true) (hb : b.imm = true) (p : P a b) : xTwo z P := by
  unfold xTwo; rw [hid_eq]; unfold oTwo; rw [hz]; exact ⟨ha, hb, p⟩
def sFldP (C : Str) (NS : List Str) (j1 j2 : Nat) (fe : EF) (pl1 pl2 : PLF) : SF := fun D ρ => fe ρ (fun z ρ1 => xTwo z fun a b => pl1 ρ1 fun i _ e rb => xFldS C NS j1 e (.fl, a) fun e' =>
  pl2 (ρ1.set i (some (.ow, rb e'))) fun i2 _ e2 rb2 => xFldS C NS j2 e2 (.fl, b) fun e2' => D.nx ((ρ1.set i (some (.ow, rb e'))).set i2 (some (.ow, rb2 e2')))) D.ex
theorem ds_fldP {o1 o2 e : Expr} {f1 f2 : Str} {p1 p2 pt : Pos} {kt : Nat} {C : Str} {NS : List Str} {j1 j2 : Nat} {fe : EF} {pl1 pl2 : PLF} (hc : X.calm = true) (c : Cls X.K (He.ga X.K C)) (na1 : NoAttr X.K (He.ga X.K C) f1) (na2 : NoAttr X.K (He.ga X.K C) f2) (hn : NS.Nodup) (hj1 : NS[j1]? = some f1) (hj2 : NS[j2]? = some f2) (hlen : NS.length < 1000)
    (he : DE X E e fe) (ho1 : DPl X o1 pl1) (ho2 : DPl X o2 pl2)
    (hs : swapsWithSole [.Tuple [.Attribute o1 f1 p1, .Attribute o2 f2 p2] kt pt] e pos.line X.env = pure false := by rfl) (hw : swappedStores [.Tuple [.Attribute o1 f1 p1, .Attribute o2 f2 p2] kt pt] e X.env = pure none := by rfl)
    (h1 : (assignEach [.Tuple [.Attribute o1 f1 p1, .Attribute o2 f2 p2] kt pt] X.env).map (·.2) = [assign (.Tuple [.Attribute o1 f1 p1, .Attribute o2 f2 p2] kt pt) X.env] := by rfl)
    (hn2 : (assignEach [.Attribute o1 f1 p1, .Attribute o2 f2 p2] X.env).length = 2 := by rfl) (hst : (assignEach [.Attribute o1 f1 p1, .Attribute o2 f2 p2] X.env).findIdx? (·.1) = none := by rfl)
    (ha1 : (assignEach [.Attribute o1 f1 p1, .Attribute o2 f2 p2] X.env).map (·.2) = assign (.Attribute o1 f1 p1) X.env :: (assignEach [.Attribute o2 f2 p2] X.env).map (·.2) := by rfl)
    (ha2 : (assignEach [.Attribute o2 f2 p2] X.env).map (·.2) = assign (.Attribute o2 f2 p2) X.env :: (assignEach [] X.env).map (·.2) := by rfl) :
    DS X E pr (.Assign [.Tuple [.Attribute o1 f1 p1, .Attribute o2 f2 p2] kt pt] e pos) (sFldP C NS j1 j2 fe pl1 pl2) := by
  obtain ⟨te, ee, se⟩ := he.run
  obtain ⟨to1, eo1, so1⟩ := ho1.run
  obtain ⟨to2, eo2, so2⟩ := ho2.run
  refine ⟨_, ps_asg ee (pg_tup hc (pgs_cons (pg_fld eo1) (pgs_cons (pg_fld eo2) pgs_nil ha2) ha1) hn2 hst) hs hw h1, fun σ H A ρ ow T D gd h nx rt ex => ?_⟩
  refine se σ H A ρ ow _ _ _ gd h (fun z ρ1 v H1 fp ow1 A1 hz st1 g1 o1 => ?_) fun C ρ1 H1 ow1 A1 h1 st1 g1 => ex C ρ1 σ H1 ow1 A1 h1 st1 g1 fun _ _ => rfl
  unfold xTwo at hz
  rw [hid_eq] at hz
  unfold oTwo at hz
  split at hz
  · rename_i a b ez
    obtain ⟨ia, ib, hz⟩ := hz
    have ra : RA X.K (fun _ => True) H1 z.2 v := o1.rep.ra (fun _ _ => trivial) fun _ _ => trivial
    rw [ez] at ra
    obtain ⟨q, vs, rfl, t, x, ws, rfl, rx, y, ws2, rfl, ry, e0⟩ := ra
    have e0 : ws2 = [] := e0
    subst e0
    have rx' := RA.imm_no _ _ rx ia
    have ry' := RA.imm_no _ _ ry ib
    refine ⟨q, [x, y], rfl, t, rfl, x, [y], rfl, ?_⟩
    refine gfld_ok (P := fun ρ' => pl2 ρ' fun i2 _ e2 rb2 => xFldS C NS j2 e2 (.fl, b) fun e2' => D.nx (ρ'.set i2 (some (.ow, rb2 e2')))) so1 c na1 hn hj1 hlen g1 rx' hz fun ρ2 H2 ow2 hz2 g2 st2 => ?_
    refine ⟨y, [], rfl, ?_⟩
    have ky : Keep A1 H1 H2 := g1.keepA st2
    refine gfld_ok (P := D.nx) so2 c na2 hn hj2 hlen g2 (RA.keep ky.no _ _ ry') hz2 fun ρ3 H3 ow3 hz3 g3 st3 => ?_
    exact ⟨rfl, nx _ σ H3 ow3 A1 hz3 ((st1.sub (ow0 := ow1) fun a h => by simp [h]).trans (st2.trans st3)) g3 fun _ _ => rfl⟩
  · exact hz.elim
end
/-! objects made, their arguments told by what changes -/
theorem AVs.vrs {K : Frg} {A : Addr → Prop} {H : Hp} {σ : L2.St} : ∀ {zs : List KD} {vs : List V} {f : List Addr}, AVs K A H σ (zs.map .v) vs f → VRs K A H zs vs f
  | [], _, _, h => h
  | z :: zs, _, _, ⟨w, ws, f1, f2, e, e2, h, t⟩ => ⟨w, ws, f1, f2, e, e2, h, AVs.vrs t⟩
def eMake (C : Str) (c : CF) (g : AEF) : EF := fun ρ P PX => g ρ (fun avs ρ1 => ∃ zs : List KD, avs = zs.map .v ∧ c ((.ow, .obj C [] []) :: zs) (fun z ys => z = (.fl, .non) ∧ match ys with | [y] => P y ρ1 | _ => False) (fun _ _ => False)) PX
theorem emake_core {K : Frg} {E : XK} {A0 A1 : Addr → Prop} {H0 H1 : Hp} {ow0 ow1 fp : List Addr} {ρ1 : Ro} {σ : L2.St} {C : Str} {c : CF} {zs : List KD} {vs : List V} {n : Nat} {x dx : Addr} {Q : VK} {P : KD → Ro → Prop} {ms : List Bool} (st : Stp H0 ow0 A0 H1 (fp ++ ow1) A1) (g : Good K A1 H1 ρ1 σ ow1) (r : VRs K A1 H1 zs vs fp) (nd : (fp ++ ow1).Nodup) (dis : ∀ a ∈ fp, ¬ A1 a) (hl : vs.length = n) (hm : ms.all (!·) = true)
    (hx : H1 x = none) (hdx : H1 dx = none) (hne : dx ≠ x)
    (hc : c ((.ow, .obj C [] []) :: zs) (fun z ys => z = (.fl, .non) ∧ match ys with | [y] => P y ρ1 | _ => False) (fun _ _ => False))
    (q : ∀ z ρ' v H' fp ow' A', P z ρ' → Stp H0 ow0 A0 H' (fp ++ ow') A' → Good K A' H' ρ' σ ow' → Own K A' H' z v fp ow' → Q v H') :
    spOf K (n + 1) (true :: ms) c (.ref x :: vs) (upd (upd H1 dx (.own x)) x (.ins (He.ga K C) dx [])) (fun v H2 => v = .non ∧ Q (.ref x) H2) E := by
  have sm : Same H1 (upd (upd H1 dx (.own x)) x (.ins (He.ga K C) dx [])) := fun a o e => by
    rw [upd_ne (fun z => by rw [z, hx] at e; cases e), upd_ne (fun z => by rw [z, hdx] at e; cases e)]
    exact e
  have xfp : x ∉ fp := fun z => by
    obtain ⟨o, e, _⟩ := r.mu x z
    rw [hx] at e; cases e
  have n1 := (List.nodup_append.mp nd).1
  have n2 := (List.nodup_append.mp nd).2.1
  have n3 := (List.nodup_append.mp nd).2.2
  refine ⟨by rw [List.length_cons, hl], (.ow, .obj C [] []) :: zs, A1, x :: fp, _, _, ⟨.ref x, vs, [x], fp, rfl, rfl, (show R K No _ (.obj C [] []) (.ref x) [x] from ⟨x, dx, [], [], rfl, rfl, upd_same, rfl, Rs.nil⟩), VRs.same' sm r⟩, List.nodup_cons.mpr ⟨xfp, n1⟩, fun a h z => ?_, fun a h => ?_, hc, fun z ys v H' fp' M' A' hz rt rv => ?_, fun C ys H' M' A' hx _ => hx.elim⟩
  · rcases List.mem_cons.mp h with h | h
    · subst h
      obtain ⟨o, e⟩ := g.tr _ z
      rw [hx] at e; cases e
    · exact dis a h z
  · obtain ⟨o, e⟩ := g.tr a h
    exact ⟨o, sm a o e⟩
  · obtain ⟨ez, hz⟩ := hz
    subst ez
    obtain ⟨rfl, rv⟩ := rv
    refine ⟨rv, ?_⟩
    match ys, hz, rt with
    | [y], hz, rt =>
      have hsel : sel (true :: ms) (V.ref x :: vs) = [V.ref x] := by
        show V.ref x :: sel ms vs = _
        rw [sel_none hm]
      have rm := rt.muts
      rw [hsel] at rm
      obtain ⟨w, ws, f1, f2, e1, e2, rw1, e3, e4⟩ := rm
      cases e1
      subst e4
      have e2 : M' = f1 := by rw [e2, List.append_nil]
      subst e2
      have trk : ∀ a, a ∈ ow1 → ∃ o, H1 a = some o := fun a h => let ⟨o, e, _⟩ := g.rep.mu a h; ⟨o, e⟩
      have xow : x ∉ ow1 := fun z => by
        obtain ⟨o, e⟩ := trk x z
        rw [hx] at e; cases e
      have same' : ∀ a o, H1 a = some o → a ∉ fp → H' a = some o := fun a o e n => rt.stp.same a o (sm a o e) fun z => by
        rcases List.mem_cons.mp z with z | z
        · subst z; rw [hx] at e; cases e
        · exact n z
      have keep : KeepF A1 ow1 H1 H' := fun a o e h => same' a o e fun z => by
        rcases h with h | h | h
        · exact n3 a z a h rfl
        · exact dis a z h
        · obtain ⟨u, e', m⟩ := r.mu a z
          rw [e] at e'; cases e'
          exact m.notImm h
      have hn : ∀ a, (upd (upd H1 dx (.own x)) x (.ins (He.ga K C) dx [])) a = none → H1 a = none := fun a h => by
        cases e : H1 a with
        | none => rfl
        | some o => rw [sm a o e] at h; cases h
      have disA : ∀ a, a ∈ ow1 → ¬ A' a := fun a h z => by
        rcases rt.stp.fr a z with z | z | z
        · exact g.dis a h z
        · rcases List.mem_cons.mp z with z | z
          · subst z; exact xow h
          · exact n3 a z a h rfl
        · obtain ⟨o, e⟩ := trk a h
          rw [hn a z] at e; cases e
      have g2 : Good K A' H' ρ1 σ ow1 := ⟨(g.rep.keep keep).mono rt.stp.up, g.nd, disA, rt.tr⟩
      have ownM : ∀ a, a ∈ M' → a ∈ fp ∨ H1 a = none := fun a h => by
        rcases rt.stp.own a (by simp [h]) with y | y
        · rcases List.mem_cons.mp y with y | y
          · subst y; exact .inr hx
          · exact .inl y
        · exact .inr (hn a y)
      have ndM : (M' ++ ow1).Nodup := List.nodup_append.mpr ⟨by simpa using rt.nd, n2, fun a ha b hb e => by
        subst e
        rcases ownM a ha with y | y
        · exact n3 a y a hb rfl
        · obtain ⟨o, e⟩ := trk a hb
          rw [y] at e; cases e⟩
      refine q y ρ1 (.ref x) H' M' ow1 A' hz ⟨fun a o e n => ?_, fun a h => ?_, fun a h => rt.stp.up a (st.up a h), fun a h => ?_⟩ g2 ⟨rw1, ndM, fun a h => rt.dis a (by simp [h])⟩
      · refine same' a o (st.same a o e n) fun z => ?_
        rcases st.own a (by simp [z]) with y | y
        · exact n y
        · rw [e] at y; cases y
      · rcases List.mem_append.mp h with h | h
        · rcases ownM a h with y | y
          · exact st.own a (by simp [y])
          · exact st.none y
        · exact st.own a (by simp [h])
      · rcases rt.stp.fr a h with y | y | y
        · exact st.fr a y
        · rcases List.mem_cons.mp y with y | y
          · subst y; exact .inr (st.none hx)
          · exact .inr (st.own a (by simp [y]))
        · exact .inr (st.none (hn a y))
section
variable {X : Cx} {CX : CXT} {E : XK} {k n : Nat} {f : Addr} {ps : List Str} {c : CF} {ms : List Bool} {x : Str} {p pos : Pos} {e : Expr} {es : List Expr} {C : Str} {g : AEF}
theorem de_make (M : Mk X.K (He.ga X.K C) f) (F : GOk X.prog X.w X.K X.mg X.base CX k f ps (spOf X.K (n + 1) (true :: ms) c)) (hms : ms.all (!·) = true) (hr : RoomG (k + 1) X.A) (hg : Gl X x) (hm : X.mg x = some (.ref (He.ga X.K C))) (hx : Passes CX X E) (ha : DAE X E (e :: es) n g)
    (hdb : (x == ("__debug__" : Str)) = false := by decide) (he : starEach (e :: es) X.env = (false, eval e X.env) :: starEach es X.env := by rfl) (hpl : (backTo pos (starEach es X.env)).any (·.1) = false := by rfl) :
    DE X E (.Call (.Name x p) (e :: es) [] pos) (eMake C c g) := by
  obtain ⟨t, ea, sa⟩ := ha.run
  refine ⟨_, pe_makeG M F hr hg hm hx ea hdb he hpl, fun σ H A ρ ow Q P PX gd h q qx => ?_⟩
  refine sa σ H A ρ ow _ _ _ gd h (fun avs ρ1 vs H1 fp ow1 A1 hn hz st1 g1 r nd dis => ?_) qx
  obtain ⟨zs, ez, hz⟩ := hz
  subst ez
  intro x dx h1 h2 h3
  rw [List.append_nil]
  exact emake_core st1 g1 r.vrs nd dis (by rw [r.len, hn]) hms h1 h2 h3 hz q
end
end
end DL

/-! DL31: for over a range whose ends are told by what is one's own. -/
namespace DL
open PySem PySem.Spec PyProof PyProof.Rows L2
noncomputable section
def sForR (src : IF) (g : GF) (body : SF) : SF := fun D ρ => src ρ fun zs => kFor g body D zs ρ
section
variable {X : Cx} {E : XK} {pr : List Nat} {pos : Pos} {tg : Expr} {body : List Stmt} {is : List Nat} {g : GF} {f : SF}
theorem ds_forR1 {a : Expr} {fa : PAF} {p pos' : Pos} (hp : PassesOwn (model X.prog X.w) X.A X.env X.xe) (hc : X.calm = true) (hgl : Gl X "range") (hm : X.mg "range" = none) (ha : DA X [a] 1 fa) (hg : DG X tg is g) (hb : DSs X E pr body f) (hpr : (is.all fun i => !pr.contains i) = true := by rfl)
    (hs1 : starEach [a] X.env = [(false, eval a X.env)] := by rfl) (hs : ∀ x, foldedSetIterable (.Call (.Name "range" p) [a] [] pos') X.env x = pure x := by intro _; rfl) : DS X E pr (.For tg (.Call (.Name "range" p) [a] [] pos') body [] pos) (sForR (jR1 fa) g f) := by
  obtain ⟨t, e, s⟩ := ha.run
  obtain ⟨tg', pg, sg⟩ := hg.run
  obtain ⟨tb, pb, sb⟩ := hb.run
  refine ⟨_, ps_for hp hc (pi_range1 hgl hm e hs1) pg pb hs, fun σ H A ρ ow T D gd h nx rt ex => ?_⟩
  refine s σ H A ρ ow _ _ gd h fun zs vs H1 _ hh s1 p1 => ?_
  split at hh
  · unfold kR1 at hh
    rw [hid_eq] at hh
    obtain ⟨h1, h2, h3⟩ := hh
    obtain ⟨v, ev, p2⟩ := p1.get1
    obtain rfl : v = .int _ := p2.ra
    refine ⟨_, ev, by omega, by omega, ?_⟩
    rw [kFor_eq] at h3
    exact for_core sg sb hpr (gd.same s1) (Stp.of_same s1) (B := A) walks_range (fun _ h => h) h3 nx rt ex
  · exact hh.elim
theorem ds_forR2 {a b : Expr} {fa : PAF} {p pos' : Pos} (hp : PassesOwn (model X.prog X.w) X.A X.env X.xe) (hc : X.calm = true) (hgl : Gl X "range") (hm : X.mg "range" = none) (ha : DA X [a, b] 2 fa) (hg : DG X tg is g) (hb : DSs X E pr body f) (hpr : (is.all fun i => !pr.contains i) = true := by rfl)
    (hs1 : starEach [a, b] X.env = [(false, eval a X.env), (false, eval b X.env)] := by rfl) (hs2 : starEach [b] X.env = [(false, eval b X.env)] := by rfl) (hs : ∀ x, foldedSetIterable (.Call (.Name "range" p) [a, b] [] pos') X.env x = pure x := by intro _; rfl) : DS X E pr (.For tg (.Call (.Name "range" p) [a, b] [] pos') body [] pos) (sForR (jR2 fa) g f) := by
  obtain ⟨t, e, s⟩ := ha.run
  obtain ⟨tg', pg, sg⟩ := hg.run
  obtain ⟨tb, pb, sb⟩ := hb.run
  refine ⟨_, ps_for hp hc (pi_range2 hgl hm e hs1 hs2) pg pb hs, fun σ H A ρ ow T D gd h nx rt ex => ?_⟩
  refine s σ H A ρ ow _ _ gd h fun zs vs H1 _ hh s1 p1 => ?_
  split at hh
  · unfold kR2 at hh
    rw [hid_eq] at hh
    obtain ⟨⟨h1, h2, h3, h4⟩, h5⟩ := hh
    obtain ⟨v, w, ev, p2, p3⟩ := p1.get2
    obtain rfl : v = .int _ := p2.ra
    obtain rfl : w = .int _ := p3.ra
    refine ⟨_, _, ev, ⟨by omega, by omega, by omega, by omega⟩, ?_⟩
    rw [kFor_eq] at h5
    exact for_core sg sb hpr (gd.same s1) (Stp.of_same s1) (B := A) walks_range (fun _ h => h) h5 nx rt ex
  · exact hh.elim
end
end
end DL

/-! DL32: refusals: raise, defs that call such as may refuse but do not here, try around a method. -/
namespace DL
open PySem PySem.Spec PyProof PyProof.Rows L2
noncomputable section
/-- an own class of refusals -/
structure ExF (K : Frg) (mg : Str → Option Value) (C : Str) : Prop where
  g : mg C = some (.ref (He.ga K C))
  e : PySem.W.excIn K (He.ga K C) He.veBase "ValueError.__new__" = true ∧ PySem.W.keepIn K (.ref (He.ga K C)) = true ∧ PySem.W.subIn K (.ref (He.ga K C)) (.type "BaseException") = some true ∧ PySem.W.typeIn K (.ref (He.ga K C)) = some (.type "type")
def sRaise (C : Str) : SF := fun D ρ => D.ex C ρ
theorem ds_raise {X : Cx} {E : XK} {pr : List Nat} {C m : Str} {j : Nat} {p p2 pos pos' : Pos} (hc : X.calm = true) (tk : Takes X (fun cls d _ H => E cls d H)) (hg : Gl X C) (f : ExF X.K X.mg C) (hdb : (C == ("__debug__" : Str)) = false := by decide) :
    DS X E pr (.Raise (some (.Call (.Name C p) [.Constant (.str m) j p2] [] pos)) none pos') (sRaise C) :=
  ⟨_, ps_raise hc tk (pmk_own PySem.F.excBase_ValueError f.e.1 f.g f.e.2.1 (raises_own f.e.2.2.1 f.e.2.2.2) hg hdb), fun σ H A ρ ow T D gd h nx rt ex => ex C ρ σ H ow A h Stp.refl gd fun _ _ => rfl⟩
/-- a def that calls such as may refuse, and lets nothing out -/
def cfN (n : Nat) (ms : List Bool) (f : SF) : CF := fun zs Q _ => cfOf n ms f zs Q fun _ _ => False
theorem cf_okN {P : Program} {w : World} {K : Frg} {mg : Str → Option Value} {base : Heap} {x qual : Str} {params : Arguments} {body : List Stmt} {scope : Scope} {f : Addr} {fd : FuncData} {N ps : List Str} {k n : Nat} {ms : List Bool} {sem : SF} (F : FunD K x qual params body scope [] [] f fd) (B : BndG x qual params body scope ps) (S : FnScope N ps scope) (hm : ms.length = ps.length) (hn : N.length - ps.length = n)
    (hb : ∀ (cdv : Value) (A : Around) (outer : List Env) (s : Shared) (H : Hp) (E : XK), RoomG k (A.deeper (envOfC qual scope s.heap.objs.size f cdv)) → DSs (cxOf CX0 P w K mg base N qual scope f cdv A outer s H E).nox E0 (prOf ms) body sem) :
    GOk P w K mg base CX0 (k + 1) f ps (spOf K ps.length ms (cfN n ms sem)) := by
  refine gok_of F B S (fun vs H Q E h => h.1) (fun cdv A outer s H vs Q E hr h => ?_)
  obtain ⟨t, pt, st⟩ := (hb cdv A outer s H E hr).run
  have hl : vs.length = ps.length := h.1
  have st' : SSound K E0 (prOf ms) t sem := st
  obtain ⟨h1, zs, A1, M, Q0, X0, r, nd, dis, tr, hc, hq, hx⟩ := h
  have h2 : spOf K vs.length ms (cfOf n ms sem) vs H Q E0 := ⟨rfl, zs, A1, M, Q0, fun _ _ => False, r, nd, dis, tr, hc, hq, fun _ _ _ _ _ x => x.elim⟩
  exact ⟨t, pt.nox, body_ok st' (by rw [hl]; exact hn) (by rw [hl]; exact hm) h2⟩
/-! try around a method -/
def tMethS (C : Addr) (m : Str) (sp : Sp) (E : L2.St → XK) (ta : TE) : TE := fun σ H Q => ta σ H fun x H1 => ∃ a dx fs, x = .ref a ∧ H1 a = some (.ins C dx fs) ∧ fs.lookup m = none ∧ sp [x] H1 Q (E σ)
theorem run_gokS {X : Cx} {CX : CXT} {k : Nat} {f : Addr} {ps : List Str} {sp : Sp} {E : XK} {pins : List (Addr × Obj)} {σ : L2.St} {H : Hp} {s : Shared} {Q : VK} {us : List Value} {vs : List V}
    (F : GOk X.prog X.w X.K X.mg X.base CX k f ps sp) (hr : RoomG k X.A) (hx : PassesAt CX X σ E) (I : L2.Inv X pins σ H s) (r : Vals vs us) (h : sp vs H Q E) : wpAny (model X.prog X.w) X.A (call (.ref f) us) (EP X pins σ Q) X.xe s := by
  refine wpAny_call (codeAny_mono (F.run X.A X.stack s H us vs Q E hr I.env0 r h) fun rs s' hq => ?_)
  match rs, hq with
  | .error e, hq => exact hx pins H s e s' I hq
  | .ok .next, hq => exact hq.elim
  | .ok .brk, hq => exact hq.elim
  | .ok .cont, hq => exact hq.elim
  | .ok (.ret u), hq => exact I.after hq
theorem pe_meth0GS {X : Cx} {CX : CXT} {k : Nat} {f C : Addr} {ps : List Str} {sp : Sp} {E : L2.St → XK} {m : Str} {pos apos : Pos} {o : Expr} {ta : TE} {pl : Sem Bool} (he : PE X o ta) (c : Cls X.K C) (hm : Meth X.K C m f) (F : GOk X.prog X.w X.K X.mg X.base CX k f ps sp) (hr : RoomG k X.A)
    (hx : ∀ σ, PassesAt CX X σ (E σ))
    (ht : eval (.Call (.Attribute o m apos) [] [] pos) X.env = (do
      let ov ← eval o X.env
      standAt apos.atName
      let (f, first) ← holding [ov] (getMethod ov m pl)
      callWith pos f first (backTo pos (starEach [] X.env)) (backToKw pos (keywordEach [] X.env)))) : PE X (.Call (.Attribute o m apos) [] [] pos) (tMethS C m sp E ta) := by
  refine ⟨fun pins s σ H Q I h => W.methodCall_KW (thn (he.run pins s σ H _ I h) fun u s1 ⟨x, H1, I1, rx, a, dx, fs, ex, ea, l, q⟩ => ?_) ht⟩
  subst ex
  have rx : u = .ref a := rx
  subst rx
  exact getmeth_ok I1 ea c hm l (W.callWith_K0 I1.kIn hm.kp (run_gokS F hr (hx σ) I1 (show Vals [V.ref a] [Value.ref a] from Paired.cons (show L2.RelV (V.ref a) (Value.ref a) from rfl) Paired.nil) q))
def sTryM (i : Nat) (C : Str) (NS : List Str) (ms : List Bool) (c : CF) (CN : Str) (f : SF) : SF := fun D ρ => eMeth i C NS ms c aNil ρ (fun _ ρ' => D.nx ρ') (fun Cx ρ' => Cx = CN ∧ f D ρ')
theorem ds_tryMeth0 {X : Cx} {E : XK} {pr : List Nat} {k : Nat} {f : Addr} {ps : List Str} {c : CF} {ms : List Bool} {m CN C x : Str} {NS : List Str} {px apos pos epos np pos' tpos : Pos} {pl : Sem Bool} {b₀ : Stmt} {suite : List Stmt} {fs : SF} (i : Nat) (c' : Cls X.K (He.ga X.K C)) (hm : Meth X.K (He.ga X.K C) m f) (hn : m ∉ NS) (F : GOk X.prog X.w X.K X.mg X.base (L2.CX X.prog X.w) k f ps (spOf X.K 1 ms c)) (hr : RoomG k X.A)
    (hcn : Gl X CN) (hmg : X.mg CN = some (.ref (He.ga X.K CN))) (hex : PySem.W.exmOne X.K (.ref (He.ga X.K CN)) (.ref (He.ga X.K CN)) = some true)
    (hsu : ∀ (a : Addr) (oe : Obj) (pn : List (Addr × Obj)), DSs (X.suite a ((a, oe) :: pn)) E pr (b₀ :: suite) fs)
    (hs : X.stack = X.env :: X.outer := by rfl) (hf : X.env.frame = some X.env.locals := by rfl) (hdb : (CN == ("__debug__" : Str)) = false := by decide)
    (hN : X.N[i]? = some x := by rfl) (hv : Vis X.env.scope x := by first | exact Or.inl rfl | exact Or.inr (Or.inl rfl) | exact Or.inr (Or.inr rfl)) (hd : (x == ("__debug__" : Str)) = false := by decide) (hcd : (x == ("__classdict__" : Str)) = false := by decide)
    (hsw : swapsWith (.Call (.Attribute (.Name x px) m apos) [] [] pos) none epos.line X.env = pure false := by rfl)
    (ht : eval (.Call (.Attribute (.Name x px) m apos) [] [] pos) X.env = (do
      let ov ← eval (.Name x px) X.env
      standAt apos.atName
      let (f, first) ← holding [ov] (getMethod ov m pl)
      callWith pos f first (backTo pos (starEach [] X.env)) (backToKw pos (keywordEach [] X.env))) := by rfl) :
    DS X E pr (.Try [.Expr (.Call (.Attribute (.Name x px) m apos) [] [] pos) epos] [.ExceptHandler (some (.Name CN np)) none (b₀ :: suite) pos'] [] [] tpos) (sTryM i C NS ms c CN fs) := by
  refine ⟨_, ps_try_only (tb := fun W => tDrop (tMethS (He.ga X.K C) m (spOf X.K 1 ms c) (WE W) (tVar i))) (ts := fun a _ _ D σ H => ∀ (oe : Obj) (pn : List (Addr × Obj)), Classical.choose (hsu a oe pn).run D σ H) (Wout := fun _ _ _ _ => False) hs hf ⟨hcn, hdb, .inl hmg⟩ takes0
    (fun W pn xe tk _ => pss_one (ps_expr (X := X.tr pn xe) (pe_meth0GS (X := X.tr pn xe) (CX := L2.CX X.prog X.w) (pe_var (X := X.tr pn xe) hN hv hd hcd) c' hm F hr (passAt (X := X.tr pn xe) tk) ht) hsw))
    (fun a oe cls d pn _ _ => ⟨fun pins s σ H D I h => (Classical.choose_spec (hsu a oe pn).run).1.run pins s σ H D I (h oe pn)⟩), fun σ H A ρ ow T D gd h nx rt ex => ?_⟩
  obtain ⟨⟨ds, e0⟩, h⟩ := h
  obtain ⟨_, h⟩ := h
  obtain ⟨v, fv, hv', vr⟩ := gd.slot e0
  have vr : R X.K No H (.obj C NS ds) v fv := vr.1
  obtain ⟨p, dx, fs', fps, ev, _, hp, en, _⟩ := vr
  subst ev
  refine ⟨.ref p, hv', p, dx, fs', rfl, hp, lookup_none (by rw [en]; exact hn), ?_⟩
  have hz : (match grab [.pl i] ρ with
    | some (zs, ρ2) => c zs (fun z ys => match putB ms [.pl i] ys ρ2 with | some ρ3 => D.nx ρ3 | none => False) (fun C ys => match putB ms [.pl i] ys ρ2 with | some ρ3 => C = CN ∧ fs D ρ3 | none => False)
    | none => False) := h
  split at hz
  · rename_i zs ρ2 e1
    refine efn_core (P := fun _ ρ' => D.nx ρ') (PX := fun C ρ' => C = CN ∧ fs D ρ') (avs := [.pl i]) (fp := []) e1 Stp.refl gd ⟨.ref p, [], rfl, hv', rfl, rfl⟩ gd.nd (fun a h => (nomatch h)) rfl hz (fun z ρ' v H' fp ow' A' hp st g o => ?_) fun C' ρ' H' ow' A' hp st g => ?_
    · exact nx ρ' σ H' ow' A' hp (st.sub fun a h => by simp [h]) g fun _ _ => rfl
    · obtain ⟨ec, hp⟩ := hp
      subst ec
      refine ⟨true, hex, fun _ a _ oe pn => ?_, fun z => nomatch z⟩
      exact (Classical.choose_spec (hsu a oe pn).run).2 σ H' A' ρ' ow' T D g hp (fun ρ2 σ2 H2 ow2 A2 h2 st2 g2 p2 => nx ρ2 σ2 H2 ow2 A2 h2 (st.trans st2) g2 p2)
        (fun z ρ2 v σ2 H2 fp ow2 A2 h2 st2 g2 o2 p2 => rt z ρ2 v σ2 H2 fp ow2 A2 h2 (st.trans st2) g2 o2 p2) fun C ρ2 σ2 H2 ow2 A2 h2 st2 g2 p2 => ex C ρ2 σ2 H2 ow2 A2 h2 (st.trans st2) g2 p2
  · exact hz.elim
/-! x and y, x or y, what changes things in them -/
def eAndV (f g : EF) : EF := fun ρ P PX => f ρ (fun z ρ1 => match z.2 with
  | .bl true => g ρ1 P PX
  | .bl false => P (.fl, .bl false) ρ1
  | _ => False) PX
def eOrV (f g : EF) : EF := fun ρ P PX => f ρ (fun z ρ1 => match z.2 with
  | .bl false => g ρ1 P PX
  | .bl true => P (.fl, .bl true) ρ1
  | _ => False) PX
section
variable {X : Cx} {E : XK} {a b : Expr} {rest : List Expr} {pos : Pos} {fa fb : EF}
theorem Own.bl {K : Frg} {A : Addr → Prop} {H : Hp} {b : Bool} {ow : List Addr} (nd : ow.Nodup) : Own K A H (.fl, .bl b) (.bl b) [] ow := ⟨⟨rfl, rfl⟩, nd, fun _ h => nomatch h⟩
theorem de_one {op} (h : DE X E a fa) : DE X E (.BoolOp op [a] pos) fa := let ⟨_, e, s⟩ := h.run; ⟨_, pe_one e, s⟩
theorem de_and (h : DE X E a fa) (h' : DE X E (.BoolOp .And (b :: rest) pos) fb) : DE X E (.BoolOp .And (a :: b :: rest) pos) (eAndV fa fb) := by
  obtain ⟨_, e, s⟩ := h.run
  obtain ⟨_, e', s'⟩ := h'.run
  refine ⟨_, pe_and e e', fun σ H A ρ ow Q P PX gd h q qx => ?_⟩
  refine s σ H A ρ ow _ _ _ gd h (fun z ρ1 v H1 fp ow1 A1 hz st1 g1 o1 => ?_) qx
  have ra : RA X.K (fun _ => True) H1 z.2 v := o1.rep.ra (fun _ _ => trivial) fun _ _ => trivial
  split at hz
  · rename_i ez
    rw [ez] at ra
    have ra : v = .bl true := ra
    exact ⟨true, ra, s' σ H1 A1 ρ1 ow1 _ _ _ g1 hz (fun z ρ2 v H2 fp2 ow2 A2 hz st2 g2 o2 => q z ρ2 v H2 fp2 ow2 A2 hz ((st1.sub fun a h => by simp [h]).trans st2) g2 o2) fun C ρ2 H2 ow2 A2 hz st2 g2 => qx C ρ2 H2 ow2 A2 hz ((st1.sub fun a h => by simp [h]).trans st2) g2⟩
  · rename_i ez
    rw [ez] at ra
    have ra : v = .bl false := ra
    exact ⟨false, ra, q _ ρ1 _ H1 [] ow1 A1 hz (st1.sub fun a h => by simpa using .inr h) g1 (Own.bl g1.nd)⟩
  · exact hz.elim
theorem de_or (h : DE X E a fa) (h' : DE X E (.BoolOp .Or (b :: rest) pos) fb) : DE X E (.BoolOp .Or (a :: b :: rest) pos) (eOrV fa fb) := by
  obtain ⟨_, e, s⟩ := h.run
  obtain ⟨_, e', s'⟩ := h'.run
  refine ⟨_, pe_or e e', fun σ H A ρ ow Q P PX gd h q qx => ?_⟩
  refine s σ H A ρ ow _ _ _ gd h (fun z ρ1 v H1 fp ow1 A1 hz st1 g1 o1 => ?_) qx
  have ra : RA X.K (fun _ => True) H1 z.2 v := o1.rep.ra (fun _ _ => trivial) fun _ _ => trivial
  split at hz
  · rename_i ez
    rw [ez] at ra
    have ra : v = .bl false := ra
    exact ⟨false, ra, s' σ H1 A1 ρ1 ow1 _ _ _ g1 hz (fun z ρ2 v H2 fp2 ow2 A2 hz st2 g2 o2 => q z ρ2 v H2 fp2 ow2 A2 hz ((st1.sub fun a h => by simp [h]).trans st2) g2 o2) fun C ρ2 H2 ow2 A2 hz st2 g2 => qx C ρ2 H2 ow2 A2 hz ((st1.sub fun a h => by simp [h]).trans st2) g2⟩
  · rename_i ez
    rw [ez] at ra
    have ra : v = .bl true := ra
    exact ⟨true, ra, q _ ρ1 _ H1 [] ow1 A1 hz (st1.sub fun a h => by simpa using .inr h) g1 (Own.bl g1.nd)⟩
  · exact hz.elim
end
/-! for over a range whose end is told by what changes things -/
def sForRE (fe : EF) (g : GF) (body : SF) : SF := fun D ρ => fe ρ (fun z ρ1 => match z.2 with
  | .int j => kR1 j fun zs => kFor g body D zs ρ1
  | _ => False) D.ex
theorem ds_forRE {X : Cx} {E : XK} {pr : List Nat} {pos : Pos} {tg : Expr} {body : List Stmt} {is : List Nat} {g : GF} {f : SF} {a : Expr} {fe : EF} {p pos' : Pos} (hp : PassesOwn (model X.prog X.w) X.A X.env X.xe) (hc : X.calm = true) (hgl : Gl X "range") (hm : X.mg "range" = none) (ha : DE X E a fe) (hg : DG X tg is g) (hb : DSs X E pr body f) (hpr : (is.all fun i => !pr.contains i) = true := by rfl)
    (hs0 : starEach [a] X.env = (false, eval a X.env) :: starEach [] X.env := by rfl)    (hs1 : starEach [a] X.env = [(false, eval a X.env)] := by rfl) (hs : ∀ x, foldedSetIterable (.Call (.Name "range" p) [a] [] pos') X.env x = pure x := by intro _; rfl) : DS X E pr (.For tg (.Call (.Name "range" p) [a] [] pos') body [] pos) (sForRE fe g f) := by
  obtain ⟨t, e, s⟩ := ha.run
  obtain ⟨tg', pg, sg⟩ := hg.run
  obtain ⟨tb, pb, sb⟩ := hb.run
  refine ⟨_, ps_for hp hc (pi_range1 hgl hm (pa_cons e pa_nil hs0) hs1) pg pb hs, fun σ H A ρ ow T D gd h nx rt ex => ?_⟩
  refine s σ H A ρ ow _ _ _ gd h (fun z ρ1 v H1 fp ow1 A1 hh st1 g1 o1 => ?_) fun C ρ1 H1 ow1 A1 h1 st1 g1 => ex C ρ1 σ H1 ow1 A1 h1 st1 g1 fun _ _ => rfl
  have ra : RA X.K (fun _ => True) H1 z.2 v := o1.rep.ra (fun _ _ => trivial) fun _ _ => trivial
  split at hh
  · rename_i j ez
    unfold kR1 at hh
    rw [hid_eq] at hh
    obtain ⟨h1, h2, h3⟩ := hh
    rw [ez] at ra
    obtain rfl : v = .int _ := ra
    refine ⟨_, rfl, by omega, by omega, ?_⟩
    rw [kFor_eq] at h3
    exact for_core sg sb hpr g1 (st1.sub fun a h => by simp [h]) (B := A1) walks_range (fun _ h => h) h3 nx rt ex
  · exact hh.elim
end
end DL

/-! DL33: defs as things: handed in, held in lists and tuples, called by a name that holds one. -/
namespace DL
open PySem PySem.Spec PyProof PyProof.Rows L2
noncomputable section
theorem dp_gfn {X : Cx} {x : Str} {f : Addr} {p : Pos} (hg : Gl X x) (hm : X.mg x = some (.ref f)) (ef : f = He.ga X.K x) (hd : (x == ("__debug__" : Str)) = false := by decide) : DP X (.Name x p) (pC (.fn x)) := by
  subst ef
  exact dp_c (v := .ref (He.ga X.K x)) (pe_glob (v := .ref _) hg hm rfl hd) fun _ _ => rfl
/-- the defs that a name may hold, with what they promise -/
def FnV (X : Cx) (k n : Nat) (ms : List Bool) (cs : List (Str × CF)) : Prop := ∀ y c, (y, c) ∈ cs → (∃ ps, GOk X.prog X.w X.K X.mg X.base CX0 k (He.ga X.K y) ps (spOf X.K n ms c)) ∧ PySem.W.keepIn X.K (.ref (He.ga X.K y)) = true
theorem fnv_nil {X : Cx} {k n : Nat} {ms : List Bool} : FnV X k n ms [] := fun _ _ h => nomatch h
theorem fnv_cons {X : Cx} {k n j : Nat} {ms : List Bool} {cs : List (Str × CF)} {y : Str} {c : CF} {f : Addr} {ps : List Str} (F : GOk X.prog X.w X.K X.mg X.base CX0 j f ps (spOf X.K n ms c)) (hj : j ≤ k) (ef : f = He.ga X.K y) (kp : PySem.W.keepIn X.K (.ref f) = true) (h : FnV X k n ms cs) : FnV X k n ms ((y, c) :: cs) := fun y' c' hm => by
  rcases List.mem_cons.mp hm with e | hm
  · cases e
    subst ef
    exact ⟨⟨ps, F.mono hj⟩, kp⟩
  · exact h y' c' hm
def tCallG (i : Nat) (S : Addr → Sp → Prop) (t : TA) : TE := fun σ H Q => ∃ f sp, σ[i]? = some (some (.ref f)) ∧ S f sp ∧ t σ H fun vs H1 => sp vs H1 Q (fun _ _ _ => False)
def pFnV (i : Nat) (cs : List (Str × CF)) (g : PAF) : PF := fun ρ P => ∃ y c kd, ρ[i]? = some (some (kd, .fn y)) ∧ (y, c) ∈ cs ∧ pFn c g ρ P
theorem dp_callV {X : Cx} {k n : Nat} {ms : List Bool} {cs : List (Str × CF)} {x : Str} {p pos : Pos} {e : Expr} {es : List Expr} {g : PAF} (i : Nat) (hr : RoomG k X.A) (F : FnV X k n ms cs) (ha : DA X (e :: es) n g)
    (hN : X.N[i]? = some x := by rfl) (hv : Vis X.env.scope x := by first | exact Or.inl rfl | exact Or.inr (Or.inl rfl) | exact Or.inr (Or.inr rfl)) (hdb : (x == ("__debug__" : Str)) = false := by decide) (hcd : (x == ("__classdict__" : Str)) = false := by decide)
    (he : starEach (e :: es) X.env = (false, eval e X.env) :: starEach es X.env := by rfl) (hpl : (backTo pos (starEach es X.env)).any (·.1) = false := by rfl) : DP X (.Call (.Name x p) (e :: es) [] pos) (pFnV i cs g) := by
  obtain ⟨t, ea, sa⟩ := ha.run
  refine ⟨tCallG i (fun f sp => ∃ y c, (y, c) ∈ cs ∧ f = He.ga X.K y ∧ sp = spOf X.K n ms c) t, ⟨fun pins s σ H Q I h => ?_⟩, fun σ H A ρ ow Q P gd h q => ?_⟩
  · obtain ⟨f, sp, hs, ⟨y, c, hm, ef, es'⟩, ht⟩ := h
    subst ef es'
    obtain ⟨⟨ps, Fo⟩, hk⟩ := F y c hm
    refine wpAny_Call_Name_kw (thn ((pe_var (pos := p) hN hv hdb hcd).run pins s σ H (fun v H1 => v = .ref (He.ga X.K y) ∧ H1 = H) I ⟨_, hs, rfl, rfl⟩) fun u s1 ⟨v, H1, I1, r1, q1⟩ => ?_)
    obtain ⟨rfl, rfl⟩ := q1
    cases r1
    refine PySem.W.callWith_K (h₀ := X.base) I.ok.mod.kin hk (thn (ea.run pos pins s1 σ _ _ I1 ht) fun us s2 ⟨vs, H2, I2, r, q⟩ => ⟨I2.kIn, run_gok Fo hr (fun _ _ _ _ _ _ _ z => z.elim) I2 r q⟩) he hpl
  · obtain ⟨y, c, kd, e1, hm, hz⟩ := h
    obtain ⟨v, fv, hv', vr, _⟩ := gd.slot e1
    have ra : RA X.K (fun _ => True) H (.fn y) v := vr.ra (fun _ _ => trivial) fun _ _ => trivial
    obtain rfl : v = .ref (He.ga X.K y) := ra
    refine ⟨_, _, hv', ⟨y, c, hm, rfl, rfl⟩, ?_⟩
    refine sa σ H A ρ ow _ _ gd hz fun zs vs H1 hn hz s1 p1 => ?_
    exact fn_core gd s1 p1 (by obtain ⟨_, r, _⟩ := p1; rw [r.len, hn]) hz q
end
end DL

/-! DL34: zip of a list and a tuple. -/
namespace DL
open PySem PySem.Spec PyProof PyProof.Rows L2
/-! one side of a zip: a list (true) or a tuple (false) -/
def SqB (b : Bool) (K : PySem.W.Frag) (H : Hp) (a : Addr) (xs : List V) : Prop := match b with | true => SqL K H a xs | false => SqT K H a xs
def HpB (b : Bool) (h : Heap) (a : Addr) (its : Array Value) : Prop := match b with | true => h.IsList a its | false => h.IsTuple a its
def ItB (b : Bool) (h : Heap) (it a : Addr) (i : Nat) : Prop := match b with | true => h.IsListIter it a i | false => h.IsTupleIter it a i
def obB (b : Bool) (a : Addr) : Obj := match b with | true => { cls := .type "list_iterator", data := .fields #[.ref a, .int 0 0] } | false => { cls := .type "tuple_iterator", data := .fields #[.ref a, .int 0 0] }
section
variable {b : Bool} {h h' : Heap} {it a : Addr} {i : Nat} {its : Array Value}
theorem ItB.at_ (x : ItB b h it a i) (e : ∀ o, h.get? it = some o → h'.get? it = some o) : ItB b h' it a i := by
  cases b with
  | true => exact Heap.IsListIter.at x e
  | false => exact Heap.IsTupleIter.at x e
theorem ItB.obj (x : ItB b h it a i) : ∃ o, h.get? it = some o ∧ ∀ v, o.data ≠ .cell v := by
  cases b with
  | true => obtain ⟨o, e, _, d⟩ := x; exact ⟨o, e, fun v q => by rw [d] at q; cases q⟩
  | false => obtain ⟨o, e, _, d⟩ := x; exact ⟨o, e, fun v q => by rw [d] at q; cases q⟩
theorem HpB.ne (x : HpB b h a its) (y : ItB b h it a i) : a ≠ it := fun q => by
  cases b with
  | true =>
    obtain ⟨o, ho, hcl, _⟩ := x
    obtain ⟨o2, ho2, hc2, _⟩ := y
    rw [q, ho2] at ho
    cases ho
    rw [hc2] at hcl
    injection hcl with q2
    exact absurd q2 (by decide)
  | false =>
    obtain ⟨o, ho, hcl, _⟩ := x
    obtain ⟨o2, ho2, hc2, _⟩ := y
    rw [q, ho2] at ho
    cases ho
    rw [hc2] at hcl
    injection hcl with q2
    exact absurd q2 (by decide)
theorem HpB.lt (x : HpB b h a its) : a < h.objs.size := by
  cases b with
  | true => obtain ⟨o, ho, _⟩ := x; exact Heap.lt_size ho
  | false => obtain ⟨o, ho, _⟩ := x; exact Heap.lt_size ho
theorem draws_B {prog : Program} {w : World} {A : Around} (hh : A.handled = none) (hne : a ≠ it) : Draws prog w A it [it, a] its.size (fun i v => its[i]? = some v) (fun i h => ItB b h it a i ∧ HpB b h a its) := by
  cases b with
  | true => exact Draws.list hh it a hne its
  | false => exact Draws.tuple hh it a hne its
theorem begins_B : Begins (.ref a) (obB b a) fun h => HpB b h a its := by
  cases b with
  | true => exact begins_list a its
  | false => exact begins_tuple a its
theorem itB_new (e : h.get? it = some (obB b a)) : ItB b h it a 0 := by
  cases b with
  | true => exact ⟨_, e, rfl, rfl⟩
  | false => exact ⟨_, e, rfl, rfl⟩
end
section
variable {X : Cx} {pins : List (Addr × Obj)} {σ : L2.St} {H : Hp} {s : Shared} {b : Bool} {a : Addr} {xs ys : List V}
theorem inv_B (I : L2.Inv X pins σ H s) (h : SqB b X.K H a xs) : ∃ its : List Value, Vals xs its ∧ HpB b s.heap a its.toArray := by
  cases b with
  | true => obtain ⟨its, r, p, _⟩ := I.list h; exact ⟨its, r, p.isList⟩
  | false => obtain ⟨its, r, p, _⟩ := I.tuple h; exact ⟨its, r, p⟩
theorem inj_B (I : L2.Inv X pins σ H s) (h : SqB b X.K H a xs) (h' : SqB b X.K H a ys) : xs = ys := by
  cases b with
  | true => exact I.list_inj h h'
  | false => exact I.tuple_inj h h'
end
def ItzB (b1 b2 : Bool) (K : PySem.W.Frag) (a b : Addr) : It :=
  ⟨fun i H => ∃ (xs ys : List V) (x y : V), SqB b1 K H a xs ∧ SqB b2 K H b ys ∧ xs[i]? = some x ∧ ys[i]? = some y,
    fun i H v H' => ∃ T x y, v = .ref T ∧ H T = none ∧ H' = upd H T (.tup [x, y]) ∧ (∀ xs, SqB b1 K H a xs → xs[i]? = some x) ∧ ∀ ys, SqB b2 K H b ys → ys[i]? = some y,
    fun i H => ∃ xs ys : List V, SqB b1 K H a xs ∧ SqB b2 K H b ys ∧ i ≤ xs.length ∧ i ≤ ys.length ∧ (xs.length = i ∨ ys.length = i)⟩
theorem turn_zipB {b1 b2 : Bool} {P : Program} {w : World} {K : PySem.W.Frag} {elts : List Expr} {kk : Nat} {tpos : Pos} {a b z TI TO i1 i2 : Addr} (D : ZipSep2 z TI TO i1 i2 [i1, a] [i2, b]) :
    Turn P w K (.Tuple elts kk tpos) (ItzB b1 b2 K a b) [z, TI, TO, i1, i2] z (fun i h => IsZip h z TI TO .none ∧ IsTupOf2 h TI (.ref i1) (.ref i2) ∧ (∃ x y, IsTupOf2 h TO x y) ∧ ItB b1 h i1 a i ∧ ItB b2 h i2 b i) where
  mem := by simp
  obj := fun i h st c hc => by
    obtain ⟨hz, hTI, ⟨x, y, hTO⟩, h1, h2⟩ := st
    have e' : c = z ∨ c = TI ∨ c = TO ∨ c = i1 ∨ c = i2 := by simpa using hc
    rcases e' with q | q | q | q | q
    · rw [q]; exact ⟨_, hz, fun v q => nomatch q⟩
    · rw [q]; exact ⟨_, hTI, fun v q => nomatch q⟩
    · rw [q]; exact ⟨_, hTO, fun v q => nomatch q⟩
    · rw [q]; exact h1.obj
    · rw [q]; exact h2.obj
  keep := fun i h h' st k => by
    obtain ⟨hz, hTI, ⟨x, y, hTO⟩, h1, h2⟩ := st
    exact ⟨k z (by simp) _ hz, k TI (by simp) _ hTI, ⟨x, y, k TO (by simp) _ hTO⟩, h1.at_ fun o q => k i1 (by simp) o q, h2.at_ fun o q => k i2 (by simp) o q⟩
  item := by
    intro X hP hw hK hc i pins s σ H E I hf st hg
    subst hP hw hK
    obtain ⟨hz, hTI, ⟨x0, y0, hTO⟩, h1, h2⟩ := st
    obtain ⟨xs, ys, x, y, hqx, hqy, hx, hy⟩ := hg
    obtain ⟨its, rv, p⟩ := inv_B I hqx
    obtain ⟨its2, rv2, p2⟩ := inv_B I hqy
    obtain ⟨u, hu, ru⟩ := rv.get hx
    obtain ⟨u2, hu2, ru2⟩ := rv2.get hy
    have hzl : z < s.heap.objs.size := Heap.lt_size hz
    have hcm : X.A.in1.handled = none := I.ok.hd hc
    refine wpAny_pyNext_zipD2_item D (draws_B (b := b1) (its := its.toArray) hcm (p.ne h1)) (draws_B (b := b2) (its := its2.toArray) hcm (p2.ne h2)) hz hTI hTO ⟨h1, p⟩ ⟨h2, p2⟩ (by rw [List.size_toArray]; exact (List.getElem?_eq_some_iff.mp hu).1) (by rw [List.size_toArray]; exact (List.getElem?_eq_some_iff.mp hu2).1) fun v1 v2 h' tk e1 e2 z' TO' h1' h2' hT hsz hk => ?_
    have ev1 : v1 = u := by
      have q : its.toArray[i]? = some u := by simpa using hu
      rw [q] at e1; exact (Option.some.inj e1).symm
    have ev2 : v2 = u2 := by
      have q : its2.toArray[i]? = some u2 := by simpa using hu2
      rw [q] at e2; exact (Option.some.inj e2).symm
    subst ev1 ev2
    refine ⟨_, rfl, wpAny_letOwnedTupleGo_zip (s := { s with heap := h', toks := tk }) z' fun h'' z'' sb => ?_⟩
    have hT2 : h''.get? s.heap.objs.size = some { cls := .type "tuple", data := .seq #[v1, v2] } := (sb.2 _ (Nat.ne_of_gt hzl)).trans hT
    have new : ObjOk X.prog X.w (upd H s.heap.objs.size (.tup [x, y])) h'' s.heap.objs.size (.tup [x, y]) :=
      ⟨by show 2 ≤ sizeLine; decide, [v1, v2], .cons ru (.cons ru2 .nil), ⟨_, hT2, rfl, _, rfl⟩⟩
    have I1 : Inv X pins σ (upd H s.heap.objs.size (.tup [x, y])) { s with heap := h'', toks := tk } :=
      I.turnedNew (ch := [z, TI, TO, i1, i2]) (fun c o hb q => (sb.2 c (fun q' => hb (by simp [q']))).trans (hk c o (fun q' => hb (by simp [q'])) (fun q' => hb (by simp [q'])) (fun q' => hb (by simp [q'])) (fun q' => hb (by simp [q'])) q)) hf (Nat.le_refl _) new
    refine ⟨.ref s.heap.objs.size, _, I1, rfl, ⟨_, x, y, rfl, I.hok.fresh (Nat.le_refl _), rfl, fun l hl => by rw [inj_B I hl hqx]; exact hx, fun l hl => by rw [inj_B I hl hqy]; exact hy⟩, ⟨z'', ?_, ⟨v1, v2, ?_⟩, ?_, ?_⟩, fun c hcm => ?_⟩
    · exact (sb.2 _ D.TIz).trans (hk _ _ D.TIz D.TITO D.TIi1 D.TIi2 hTI)
    · exact (sb.2 _ D.TOz).trans TO'
    · exact h1'.1.at_ fun o q => (sb.2 _ (Ne.symm D.zi1)).trans q
    · exact h2'.1.at_ fun o q => (sb.2 _ (Ne.symm D.zi2)).trans q
    · have hlt : c < s.heap.objs.size := by
        have e' : c = z ∨ c = TI ∨ c = TO ∨ c = i1 ∨ c = i2 := by simpa using hcm
        rcases e' with q | q | q | q | q
        · rw [q]; exact hzl
        · rw [q]; exact Heap.lt_size hTI
        · rw [q]; exact Heap.lt_size hTO
        · rw [q]; obtain ⟨_, e1, _⟩ := h1.obj; exact Heap.lt_size e1
        · rw [q]; obtain ⟨_, e2, _⟩ := h2.obj; exact Heap.lt_size e2
      rw [upd_ne (Nat.ne_of_lt hlt)]
      exact (hf c hcm).1
  done := by
    intro X hP hw hK hc i pins s σ H E I hf st hg
    subst hP hw hK
    obtain ⟨hz, hTI, ⟨x0, y0, hTO⟩, h1, h2⟩ := st
    obtain ⟨xs, ys, hqx, hqy, hl1, hl2, hend⟩ := hg
    obtain ⟨its, rv, p⟩ := inv_B I hqx
    obtain ⟨its2, rv2, p2⟩ := inv_B I hqy
    have l1 := rv.length
    have l2 := rv2.length
    have hcm : X.A.in1.handled = none := I.ok.hd hc
    exact wpAny_pyNext_zipD2_end D (draws_B (b := b1) (its := its.toArray) hcm (p.ne h1)) (draws_B (b := b2) (its := its2.toArray) hcm (p2.ne h2)) hz hTI hTO ⟨h1, p⟩ ⟨h2, p2⟩ (by rw [List.size_toArray]; omega) (by rw [List.size_toArray]; omega) (by rw [List.size_toArray, List.size_toArray]; omega) fun h' tk hk => ⟨rfl, I.turnedL (t' := tk) (ch := [z, TI, TO, i1, i2]) (fun c o hb q =>
      hk c o (fun q' => hb (by simp [q'])) (fun q' => hb (by simp [q'])) (fun q' => hb (by simp [q'])) (fun q' => hb (by simp [q'])) q) hf⟩
  self := fun A i s Q E st h => wpAny_pyIter_zip st.1 h
def iZipB (K : PySem.W.Frag) (ta : TA) : TI := fun σ H R => ta σ H fun vs H1 => ∃ b1 b2 a b xs ys, vs = [.ref a, .ref b] ∧ SqB b1 K H1 a xs ∧ SqB b2 K H1 b ys ∧ R (ItzB b1 b2 K a b) H1
theorem pi_zipB {X : Cx} {e e2 : Expr} {ta : TA} {p pos tpos : Pos} {elts : List Expr} {kk : Nat} (hg : Gl X "zip") (hm : X.mg "zip" = none) (ha : PA X [e, e2] ta)
    (hs : starEach [e, e2] X.env = (false, eval e X.env) :: starEach [e2] X.env := by rfl) (hpl : (backTo pos (starEach [e2] X.env)).any (·.1) = false := by rfl) :
    PI X (.Tuple elts kk tpos) (.Call (.Name "zip" p) [e, e2] [] pos) (iZipB X.K ta) := by
  refine ⟨fun pins s σ H R I h => ?_⟩
  refine Call_ (ld_blt I hg hm PyProof.Rows.boot_zip (PyProof.Rows.callWith_type1 (thn (ha.run pos pins s σ H _ I h) fun us s1 ⟨vs, H1, I1, r1, q1⟩ => ?_) hs hpl))
  obtain ⟨b1, b2, a, b, xs, ys, ex, hqx, hqy, q⟩ := q1
  subst ex
  cases r1 with
  | cons r rr =>
    cases rr with
    | cons r' rr =>
      cases rr
      cases r
      cases r'
      obtain ⟨its, rv, p1⟩ := inv_B I1 hqx
      obtain ⟨its2, rv2, p2⟩ := inv_B I1 hqy
      refine zip_begins2 (begins_B (b := b1) (a := a) (its := its.toArray)) (begins_B (b := b2) (a := b) (its := its2.toArray)) p1 p2 fun h' hz hTI hTO h1 h2 hsz hk => wpAny_pyIter_zip hz ?_
      have I2 : Inv X pins σ H1 { s1 with heap := h' } := I1.kept (t' := s1.toks) hk
      refine ⟨s1.heap.objs.size + 4, [s1.heap.objs.size + 4, s1.heap.objs.size + 2, s1.heap.objs.size + 3, s1.heap.objs.size, s1.heap.objs.size + 1], _, _, H1, rfl, I2,
        turn_zipB (zip_sep2 (N := s1.heap.objs.size) (fp1 := [a]) (fp2 := [b]) (fun c hc => by rw [List.mem_singleton.mp hc]; exact p1.lt) fun c hc => by rw [List.mem_singleton.mp hc]; exact p2.lt), ⟨hz, hTI, ⟨_, _, hTO⟩, itB_new h1, itB_new h2⟩, fun c hcm => ?_, q⟩
      have e' : c = s1.heap.objs.size + 4 ∨ c = s1.heap.objs.size + 2 ∨ c = s1.heap.objs.size + 3 ∨ c = s1.heap.objs.size ∨ c = s1.heap.objs.size + 1 := by simpa using hcm
      have hle : s1.heap.objs.size ≤ c := by
        rcases e' with z | z | z | z | z
        · rw [z]; exact Nat.le_add_right _ _
        · rw [z]; exact Nat.le_add_right _ _
        · rw [z]; exact Nat.le_add_right _ _
        · rw [z]; exact Nat.le_refl _
        · rw [z]; exact Nat.le_add_right _ _
      exact I1.fpOk hle (I1.hok.fresh hle)
theorem walk_zipB {b1 b2 : Bool} {K : PySem.W.Frag} {a b : Addr} {xs ys : List V} {n : Nat} (hn : n = min xs.length ys.length) : Walk (ItzB b1 b2 K a b) n (fun H => SqB b1 K H a xs ∧ SqB b2 K H b ys) (YPair (fun i => xs[i]?) (fun i => ys[i]?)) := by
  refine ⟨fun i _ hi q => ⟨xs, ys, xs[i]'(by omega), ys[i]'(by omega), q.1, q.2, List.getElem?_eq_getElem _, List.getElem?_eq_getElem _⟩, fun _ q => ⟨xs, ys, q.1, q.2, by omega, by omega, by omega⟩, fun i H v H' _ q y => ?_⟩
  obtain ⟨T, x, y, h1, h2, h3, h4, h5⟩ := y
  exact ⟨T, x, y, h1, h2, h3, h4 xs q.1, h5 ys q.2⟩
noncomputable section
def iZpB (f : PAF) : IF := fun ρ P => f ρ fun zs => match zs with
  | [(k, d), (k', e)] => (match d.seq, e.seq with
    | some ds, some es => P (zipD k k' ds es)
    | _, _ => False)
  | _ => False
theorem di_zipB {X : Cx} {a b : Expr} {f : PAF} {p pos tpos : Pos} {elts : List Expr} {kk : Nat} (hg : Gl X "zip") (hm : X.mg "zip" = none) (ha : DA X [a, b] 2 f) (hs : starEach [a, b] X.env = (false, eval a X.env) :: starEach [b] X.env := by rfl) (hpl : (backTo pos (starEach [b] X.env)).any (·.1) = false := by rfl) :
    DI X (.Tuple elts kk tpos) (.Call (.Name "zip" p) [a, b] [] pos) (iZpB f) := by
  obtain ⟨t, e, s⟩ := ha.run
  refine ⟨_, pi_zipB hg hm e hs hpl, fun σ H A ρ ow R P Z g hz h q => ?_⟩
  refine s σ H A ρ ow _ _ g h fun zs vs H1 _ hh s1 p1 => ?_
  split at hh
  · rename_i k d k' d' _
    obtain ⟨v, w, ev, p2, p3⟩ := p1.get2
    subst ev
    cases e1 : d.seq with
    | none => rw [e1] at hh; exact hh.elim
    | some ds =>
      cases e2 : d'.seq with
      | none => rw [e1, e2] at hh; exact hh.elim
      | some es =>
        rw [e1, e2] at hh
        obtain ⟨y, vs, rfl, r, t⟩ := seq_src hz s1 p2.tr e1
        obtain ⟨y', vs', rfl, r', t'⟩ := seq_src hz s1 p3.tr e2
        have key : ∀ i z, (zipD k k' ds es)[i]? = some z → ∃ d d', z = (pairK k k', D.tup [d, d']) ∧ ∀ x y, vs[i]? = some x → vs'[i]? = some y → ∀ H2, OkZ Z H1 H2 → RA X.K (k.elA (BB A ow) (Fre2 H H1)) H2 d x ∧ RA X.K (k'.elA (BB A ow) (Fre2 H H1)) H2 d' y := fun i z hzz => by
          obtain ⟨d, e, hd, he, rfl⟩ := zipD_of hzz
          refine ⟨d, e, rfl, fun x y hx hy H2 ok => ⟨?_, ?_⟩⟩
          · obtain ⟨w, hw, rw'⟩ := (elA_keeps (ok.keep (fre2 (H := H1)) hz s1) r).get hd
            rw [hx] at hw
            cases hw
            exact rw'
          · obtain ⟨w, hw, rw'⟩ := (elA_keeps (ok.keep (fre2 (H := H1)) hz s1) r').get he
            rw [hy] at hw
            cases hw
            exact rw'
        have hl : (zipD k k' ds es).length = min vs.length vs'.length := by rw [zipD_len, r.len, r'.len]
        have side : ∀ {q : Addr} {us : List V}, ((∀ H2, OkZ Z H1 H2 → SqL X.K H2 q us) ∨ (∀ H2, OkZ Z H1 H2 → SqT X.K H2 q us)) → ∃ b : Bool, ∀ H2, OkZ Z H1 H2 → SqB b X.K H2 q us := fun h => by
          rcases h with h | h
          · exact ⟨true, h⟩
          · exact ⟨false, h⟩
        obtain ⟨b1, t⟩ := side t
        obtain ⟨b2, t'⟩ := side t'
        exact ⟨b1, b2, y, y', vs, vs', rfl, t H1 .refl, t' H1 .refl, q _ _ H1 hh s1 (walks_pair (k := k) (k' := k') (walk_zipB (K := X.K) (n := (zipD k k' ds es).length) hl) rfl (fun H2 ok => ⟨t H2 ok, t' H2 ok⟩) key)⟩
  · exact hh.elim
end
end DL

/-! DL35: lists of the module; texts joined. -/
namespace DL
open PySem PySem.Spec PyProof PyProof.Rows L2
/-! a list of the top -/
def lstB (K : PySem.W.Frag) (p : Str × List He.Dv) : Bool := match K.lookup (He.ga K p.1) with
  | some ⟨.type c, none, .seq its _, _⟩ => decide (c = "list") && (decide (its.size ≤ 100000) && He.relAll (p.2.map (He.Dv.v K)) its.toList)
  | _ => false
abbrev AlL : Type := He.AlD × Bool
def obsL (fa : List He.Fa) (fn : List He.DefD) (ls : List (Str × List He.Dv)) (K : PySem.W.Frag) : AlL := (He.obsD fa fn K, ls.all (lstB K))
def obsLG (n : Nat) (fa : List He.Fa) (fn : List He.DefD) (ls : List (Str × List He.Dv)) (g : Addr → Option Obj) : AlL := obsL fa fn ls (He.frG g (He.asD g n))
def hookL (n : Nat) (fa : List He.Fa) (fn : List He.DefD) (ls : List (Str × List He.Dv)) : PySem.W.Hook where
  α := AlL
  obs := fun s => obsLG n fa fn ls s.heap.get?
  val := fun _ => (He.valD fn, true)
  says := fun _ h => ∃ K : PySem.W.Frag, K.In h ∧ He.SaysD fa fn K ∧ ls.all (lstB K) = true
  of := fun _ _ e => ⟨_, He.frG_in, congrArg (fun z : AlL => z.1) e, congrArg (fun z : AlL => z.2) e⟩
  keeps := fun _ _ _ ⟨K, hK, c⟩ k => ⟨K, PySem.W.Frag.In.keeps hK k, c⟩
theorem obsLG_eq {n : Nat} {fa : List He.Fa} {fn : List He.DefD} {ls : List (Str × List He.Dv)} {g : Addr → Option Obj} {s : Shared} (h : ∀ a, g a = s.heap.get? a) : obsLG n fa fn ls g = (hookL n fa fn ls).obs s := by
  have e : g = s.heap.get? := funext h
  rw [e] <;> rfl
theorem lstB_ok {K : PySem.W.Frag} {ls : List (Str × List He.Dv)} (h : ls.all (lstB K) = true) (i : Nat) {x : Str} {vs : List He.Dv} (e : ls[i]? = some (x, vs) := by rfl) : SqL K (fun _ => none) (He.ga K x) (vs.map (He.Dv.v K)) := by
  have h1 := List.all_eq_true.mp h (x, vs) (List.mem_of_getElem? e)
  unfold lstB at h1
  split at h1
  · rename_i c its n sl q
    have h2 := Bool.and_eq_true_iff.mp h1
    have h3 := Bool.and_eq_true_iff.mp h2.2
    have ec : c = "list" := of_decide_eq_true h2.1
    subst ec
    exact .inr ⟨_, its, n, q, rfl, rfl, rfl, by have := of_decide_eq_true h3.1; rw [sizeLine_eq]; omega, He.relAll_ok h3.2⟩
  · cases h1
noncomputable section
theorem RAs.of_strs {K : Frg} {A : Addr → Prop} {H : Hp} : ∀ ys : List Str, RAs K A H (ys.map .str) (ys.map V.str)
  | [] => .nil
  | y :: ys => .cons rfl (RAs.of_strs ys)
theorem RAs.strs {K : Frg} {A : Addr → Prop} {H : Hp} : ∀ {ys : List Str} {vs : List V}, RAs K A H (ys.map .str) vs → vs = ys.map V.str
  | [], _, h => h
  | y :: ys, _, ⟨w, ws, e, h, r⟩ => by
    have h : w = .str y := h
    rw [e, h, RAs.strs r]; rfl
theorem dp_glst {X : Cx} {x : Str} {ys : List Str} {p : Pos} (hg : Gl X x) (hm : X.mg x = some (.ref (He.ga X.K x))) (l : SqL X.K (fun _ => none) (He.ga X.K x) (ys.map V.str)) (hd : (x == ("__debug__" : Str)) = false := by decide) : DP X (.Name x p) (pC (.kst (ys.map .str))) := by
  refine dp_c (v := .ref (He.ga X.K x)) (pe_glob (v := .ref _) hg hm rfl hd) fun A H => ⟨_, _, rfl, ?_, RAs.of_strs ys⟩
  rcases l with l | l
  · rcases l with l | ⟨o, l⟩ <;> cases l
  · exact .inr l
/-! texts joined -/
def pJoin (fo fe : PF) : PF := fun ρ P => fo ρ fun x => match x.2 with
  | .str a => fe ρ fun y => ∃ ys : List Str, y.2.seq = some (ys.map .str) ∧ (ys.map (·.length)).sum + ys.length * a.length ≤ 16777216 ∧ P (.fl, .str (Txt.join a ys))
  | _ => False
theorem dp_join {X : Cx} {o e : Expr} {fo fe : PF} {apos pos : Pos} (ho : DP X o fo) (he : DP X e fe) (hs : starEach [e] X.env = [(false, eval e X.env)] := by rfl) (hbase : attributeBase o "join" X.env (eval o X.env) = eval o X.env := by rfl) (hline : (apos.endLine == pos.line) = true := by rfl) :
    DP X (.Call (.Attribute o "join" apos) [e] [] pos) (pJoin fo fe) := by
  obtain ⟨to, eo, so⟩ := ho.run
  obtain ⟨te, ee, se⟩ := he.run
  refine ⟨_, pe_join eo ee hs hbase hline, fun σ H A ρ ow Q P g h q => ?_⟩
  refine so σ H A ρ ow _ _ g h fun x v H1 hx s1 p1 => ?_
  split at hx
  · rename_i a ex
    have r1 := p1.ra
    rw [ex] at r1
    obtain rfl : v = .str a := r1
    refine ⟨⟨a, rfl⟩, ?_⟩
    refine se σ H1 A ρ ow _ _ (g.same s1) hx fun y w H2 hy s2 p2 => ?_
    obtain ⟨ys, ey, hl, hP⟩ := hy
    obtain ⟨q', us, rfl, t, r⟩ := p2.seq ey
    have eu : us = ys.map V.str := r.strs
    subst eu
    exact ⟨a, q', ys, rfl, rfl, t, hl, q _ _ H2 hP (s1.trans s2) .str⟩
  · exact hx.elim
end
end DL

/-! DL36: texts taken apart, places in lists. -/
namespace DL
open PySem PySem.Spec PyProof PyProof.Rows L2
noncomputable section
theorem dp_gstr {X : Cx} {x z : Str} {p : Pos} (hg : Gl X x) (hm : ∃ t, X.mg x = some (.str z t)) (hd : (x == ("__debug__" : Str)) = false := by decide) : DP X (.Name x p) (pC (.str z)) := by
  obtain ⟨t, hm⟩ := hm
  exact dp_c (v := .str z) (pe_glob (v := .str z) hg hm ⟨t, rfl⟩ hd) fun _ _ => rfl
def pSplit (fo fe : PF) : PF := fun ρ P => fo ρ fun x => match x.2 with
  | .str a => fe ρ fun y => match y.2 with
    | .str b => (b.length == 0) = false ∧ a.length + 2 ≤ 10000000 ∧ P (.sh, .lst ((Txt.split a b).map .str))
    | _ => False
  | _ => False
theorem dp_split {X : Cx} {o e : Expr} {fo fe : PF} {apos pos : Pos} (ho : DP X o fo) (he : DP X e fe) (hs : starEach [e] X.env = [(false, eval e X.env)] := by rfl) (hbase : attributeBase o "split" X.env (eval o X.env) = eval o X.env := by rfl) (hline : (apos.endLine == pos.line) = true := by rfl) :
    DP X (.Call (.Attribute o "split" apos) [e] [] pos) (pSplit fo fe) := by
  obtain ⟨to, eo, so⟩ := ho.run
  obtain ⟨te, ee, se⟩ := he.run
  refine ⟨_, pe_split eo ee hs hbase hline, fun σ H A ρ ow Q P g h q => ?_⟩
  refine so σ H A ρ ow _ _ g h fun x v H1 hx s1 p1 => ?_
  split at hx
  · rename_i a ex
    have r1 := p1.ra
    rw [ex] at r1
    obtain rfl : v = .str a := r1
    refine ⟨⟨a, rfl⟩, ?_⟩
    refine se σ H1 A ρ ow _ _ (g.same s1) hx fun y w H2 hy s2 p2 => ?_
    split at hy
    · rename_i b ey
      obtain ⟨h1, h2, hP⟩ := hy
      have r2 := p2.ra
      rw [ey] at r2
      obtain rfl : w = .str b := r2
      refine ⟨a, b, rfl, rfl, h1, by rw [sizeLine_eq]; omega, fun l hl => ?_⟩
      exact q _ _ _ hP ((s1.trans s2).trans (same_upd hl)) (pr_lst (k := .fl) (RAs.of_strs _) hl ((s1.trans s2).free hl))
    · exact hy.elim
  · exact hx.elim
/-- int(a text) -/
def oIntS : List KD → (KD → Prop) → Prop := fun zs P => match zs with
  | [(_, .str a)] => ∃ n, PySem.intText? a = some n ∧ a.length ≤ 640 ∧ P (.fl, .int n)
  | _ => False
theorem cs_intS {K : Frg} : CallS K (fun xs H Q => ∃ a n, xs = [.str a] ∧ PySem.intText? a = some n ∧ a.length ≤ 640 ∧ Q (.int n) H) oIntS := by
  intro B F H vs xs P Q pr hF h q
  unfold oIntS at h
  split at h
  · rename_i k a
    obtain ⟨n, h1, h2, hP⟩ := h
    obtain ⟨v, ev, p⟩ := pr.get1
    have e : v = .str a := p.ra
    subst ev e
    exact ⟨a, n, rfl, h1, h2, q _ _ H hP (Same.refl H) .int⟩
  · exact h.elim
/-- a list's first place of a thing -/
def pIndex (fo fe : PF) : PF := fun ρ P => fo ρ fun x => (∃ ds, x.2 = .lst ds ∨ x.2 = .kst ds) ∧ fe ρ fun y => ∃ ds j d, x.2.seq = some ds ∧ y.2.flat1 = true ∧ ds.all D.flat1 = true ∧ ds[j]? = some d ∧ eqD1 d y.2 = true ∧ (∀ (m : Nat) d', m < j → ds[m]? = some d' → eqD1 d' y.2 = false) ∧ P (.fl, .int (j : Nat))
theorem dp_index {X : Cx} {o e : Expr} {fo fe : PF} {apos cpos : Pos} (ho : DP X o fo) (he : DP X e fe)
    (hbase : attributeBase o "index" X.env (eval o X.env) = eval o X.env := by rfl)
    (hfew : ((backTo cpos (starEach [e] X.env)).all (fun x => !x.1) && (backToKw cpos (keywordEach [] X.env)).all (fun x => x.1.isSome)
      && decide ([e].length + ([] : List Keyword).length + (if ([] : List Keyword).isEmpty then 0 else 1) < 30)) = true := by rfl)
    (hline : (apos.endLine == cpos.line) = true := by rfl) (hst : starEach [e] X.env = (false, eval e X.env) :: starEach [] X.env := by rfl) (hplain : (backTo cpos (starEach [] X.env)).any (·.1) = false := by rfl) :
    DP X (.Call (.Attribute o "index" apos) [e] [] cpos) (pIndex fo fe) := by
  obtain ⟨to, eo, so⟩ := ho.run
  obtain ⟨te, ee, se⟩ := he.run
  refine ⟨_, pe_bm PySem.F.plainAttrs_list PySem.F.slot_list_index PySem.F.type_list_index mt_index eo (pa_cons ee pa_nil hst) hbase hfew hline hst hplain, fun σ H A ρ ow Q P g h q => ?_⟩
  refine so σ H A ρ ow _ _ g h fun x v H1 hx s1 p1 => ?_
  obtain ⟨⟨ds0, hk⟩, hx⟩ := hx
  have hl : ∃ l us, v = .ref l ∧ SqL X.K H1 l us ∧ RAs X.K (fun a => BB A ow a ∨ Fre H a ∨ True) H1 ds0 us := by
    obtain ⟨k, d⟩ := x
    rcases hk with hk | hk
    · dsimp only at hk
      subst hk
      obtain ⟨l, us, ev, t, r⟩ := p1.lstT
      exact ⟨l, us, ev, .of t, RAs.mono (fun _ _ => .inr (.inr trivial)) _ _ r⟩
    · dsimp only at hk
      subst hk
      obtain ⟨l, us, ev, t, r⟩ := p1.kstT
      exact ⟨l, us, ev, kst_seq t, RAs.mono (fun _ _ => .inr (.inr trivial)) _ _ r⟩
  have hseq : x.2.seq = some ds0 := by
    rcases hk with hk | hk <;> rw [hk] <;> rfl
  obtain ⟨l, us, ev, t, r⟩ := hl
  subst ev
  refine ⟨.inl ⟨rfl, us, t⟩, ?_⟩
  refine se σ H1 A ρ ow _ _ (g.same s1) hx fun y w H2 hy s2 p2 => ?_
  obtain ⟨ds, j, d, e1, h1, h2, h3, h4, h5, hP⟩ := hy
  rw [hseq] at e1
  cases e1
  have t2 : SqL X.K H2 l us := by
    rcases t with t | t
    · exact .inl (Rd.same s2 t)
    · exact .inr t
  have r2 := RAs.same s2 r
  obtain ⟨w', hw, rw'⟩ := r2.get h3
  have ry : RA X.K (fun a => BB A ow a ∨ Fre H a ∨ True) H2 y.2 w := RA.mono (fun _ _ => .inr (.inr trivial)) _ _ p2.ra
  have fd : ∀ {d : D}, d ∈ ds0 → d.flat1 = true := fun hd => List.all_eq_true.mp h2 _ hd
  refine ⟨l, us, w, j, w', rfl, rfl, t2, RA.flat1 ry h1, RAs.flat1 r2 h2, hw, by rw [RA.eq1 rw' ry (fd (List.mem_of_getElem? h3)) h1]; exact h4, fun m z' hm hz => ?_, q _ _ H2 hP (s1.trans s2) .int⟩
  obtain ⟨d', hd', rd'⟩ := r2.getV hz
  rw [RA.eq1 rd' ry (fd (List.mem_of_getElem? hd')) h1]
  exact h5 m d' hm hd'
end
end DL

/-! DL37: the signs of a text; comprehensions of own lists over any list. -/
namespace DL
open PySem PySem.Spec PyProof PyProof.Rows L2
noncomputable section
def signsD (x : Str) : List KD := x.cps.toList.map fun c => (.fl, .str ⟨#[c]⟩)
theorem walks_str {K : Frg} {A : Addr → Prop} {Ok : Hp → Prop} {x : Str} : Walks K (Its x) Ok A (signsD x) := by
  have hl : (signsD x).length = x.cps.size := by unfold signsD; rw [List.length_map]; rfl
  refine ⟨fun _ => True, fun i H v H' => H' = H ∧ ∃ c, x.cps[i]? = some c ∧ v = .str ⟨#[c]⟩, ⟨fun i _ hi _ => by rw [hl] at hi; exact hi, fun _ _ => by rw [hl]; exact Nat.le_refl _, fun i H v H' _ _ y => y⟩, fun _ _ => trivial, fun i H v H2 z hz _ y => ?_⟩
  obtain ⟨e, c, hc, ev⟩ := y
  subst e ev
  have e2 : z = (.fl, .str ⟨#[c]⟩) := by
    unfold signsD at hz
    rw [List.getElem?_map] at hz
    have hc' : x.cps.toList[i]? = some c := by rw [Array.getElem?_toList]; exact hc
    rw [hc'] at hz
    exact (Option.some.inj hz).symm
  subst e2
  exact ⟨Same.refl _, rfl, rfl⟩
def iSt (f : PF) : IF := fun ρ P => f ρ fun z => match z.2 with
  | .str x => P (signsD x)
  | _ => False
theorem di_str {X : Cx} {tg e : Expr} {f : PF} (he : DP X e f) : DI X tg e (iSt f) := by
  obtain ⟨t, a, s⟩ := he.run
  refine ⟨_, pi_str a, fun σ H A ρ ow R P Z g hz h q => ?_⟩
  refine s σ H A ρ ow _ _ g h fun z v H1 hh s1 p1 => ?_
  split at hh
  · rename_i x ex
    have r := p1.ra
    rw [ex] at r
    exact ⟨x, r, q _ _ H1 hh s1 walks_str⟩
  · exact hh.elim
theorem jL_ow {zs : List KD} (h : ∀ z ∈ zs, z.1 = .sh ∨ z.1 = .ow) (hn : zs ≠ []) : jL zs = .ow := by
  unfold jL
  rw [jT_ow h hn]
/-- a comprehension of own things over a list that is not empty -/
theorem go_LcO {step : KD → (Option KD → Prop) → Prop} {zs : List KD} {P : KD → Prop} (k : Kd) (f : KD → D) (hk : k = .sh ∨ k = .ow) (hn : zs.length ≤ 10000000) (h0 : zs ≠ []) (hs : ∀ (i : Nat) z (N : Option KD → Prop), zs[i]? = some z → N (some (k, f z)) → step z N) (h : P (.ow, .lst (zs.map f))) : kLc step zs P := by
  unfold kLc; rw [hid_eq]
  refine ⟨hn, comp_map (fun z => (k, f z)) hs ?_⟩
  rw [jL_ow (fun z hz => by obtain ⟨a, _, rfl⟩ := List.mem_map.mp hz; exact hk) (by simpa using h0), snd_flm]
  exact h
end
end DL

/-! DL38: dict records: values read and stored under text keys, places through them. -/
namespace DL
open PySem PySem.Spec PyProof PyProof.Rows L2
noncomputable section
/-! the value under a key -/
theorem valV_at {ks : List Key} : ∀ {kvs : List (Key × V)} {j : Nat} {k : Key} {w : V}, kvs.map (·.1) = ks → ks.Nodup → ks[j]? = some k → (kvs.map (·.2))[j]? = some w → valV kvs k = some w := by
  intro kvs
  induction kvs generalizing ks with
  | nil => intro j f w e _ h _; subst e; cases h
  | cons a fs ih =>
    intro j f w e hn hf hw
    subst e
    obtain ⟨x, y⟩ := a
    have hn' := List.nodup_cons.mp hn
    cases j with
    | zero =>
      cases hf; cases hw
      exact valV_pos (p := (x, y)) rfl
    | succ j =>
      have hf' : (fs.map (·.1))[j]? = some f := hf
      have hne : ¬ x = f := fun z => hn'.1 (z ▸ List.mem_of_getElem? hf')
      rw [valV_neg (p := (x, y)) hne]
      exact ih rfl hn'.2 hf' hw
theorem putK_at {ks : List Key} {kvs : List (Key × V)} {j : Nat} {k : Key} {y : V} (e : kvs.map (·.1) = ks) (hn : ks.Nodup) (hj : ks[j]? = some k) : (putK kvs k y).map (·.1) = ks ∧ (putK kvs k y).map (·.2) = (kvs.map (·.2)).set j y := by
  have hany : (kvs.any fun kv => decide (kv.1 = k)) = true := by
    subst e
    rw [List.getElem?_map] at hj
    cases q : kvs[j]? with
    | none => rw [q] at hj; cases hj
    | some p =>
      rw [q] at hj
      exact List.any_eq_true.mpr ⟨p, List.mem_of_getElem? q, decide_eq_true (Option.some.inj hj)⟩
  unfold putK
  rw [if_pos hany]
  clear hany
  subst e
  induction kvs generalizing j with
  | nil => cases hj
  | cons a fs ih =>
    obtain ⟨x, v⟩ := a
    have hn' := List.nodup_cons.mp hn
    have rest : ∀ {l : List (Key × V)} {k : Key}, k ∉ l.map (·.1) → l.map (fun kv => if kv.1 = k then (kv.1, y) else kv) = l := fun {l k} h => by
      induction l with
      | nil => rfl
      | cons b l ih2 =>
        have h' : k ≠ b.1 ∧ k ∉ l.map (·.1) := by rw [List.map_cons, List.mem_cons, not_or] at h; exact h
        rw [List.map_cons, if_neg (fun z => h'.1 z.symm), ih2 h'.2]
    cases j with
    | zero =>
      cases hj
      rw [List.map_cons, if_pos rfl, rest hn'.1]
      exact ⟨rfl, rfl⟩
    | succ j =>
      have hj' : (fs.map (·.1))[j]? = some k := hj
      have hne : ¬ x = k := fun z => hn'.1 (z ▸ List.mem_of_getElem? hj')
      obtain ⟨h1, h2⟩ := ih hn'.2 hj'
      rw [List.map_cons, if_neg hne]
      exact ⟨congrArg (x :: ·) h1, congrArg (v :: ·) h2⟩
/-! read -/
def oKey (k : Key) (z : KD) (P : KD → Prop) : Prop := match z.2 with
  | .dcK ks ds => ∃ (j : Nat) (d : D), ks.Nodup ∧ ks[j]? = some k ∧ ds[j]? = some d ∧ P (kel .rd d)
  | _ => False
@[irreducible] def xKey (k : Key) (z : KD) (P : KD → Prop) : Prop := hid (oKey k z P)
theorem go_key {k : Key} {z : KD} {ks : List Key} {ds : List D} {j : Nat} {d : D} {P : KD → Prop} (hz : z.2 = .dcK ks ds) (hn : ks.Nodup) (hk : ks[j]? = some k) (hd : ds[j]? = some d) (p : P (kel .rd d)) : xKey k z P := by
  unfold xKey; rw [hid_eq]
  unfold oKey
  rw [hz]
  exact ⟨j, d, hn, hk, hd, p⟩
def pKey (k : Str) (fa : PF) : PF := fun ρ P => fa ρ fun z => xKey (.inr k) z P
section
variable {X : Cx} {pos ip : Pos}
theorem dp_key {o : Expr} {k : Str} {jj} {fa : PF} (hu : X.A.units + 64 < cLine) (ha : DP X o fa) (hs : NoSl (.Constant (.str k) jj ip) := by exact fun _ _ => rfl) : DP X (.Subscript o (.Constant (.str k) jj ip) pos) (pKey k fa) := by
  obtain ⟨t, ea, sa⟩ := ha.run
  refine ⟨_, pe_dget (by omega) ea (pe_str (x := k)) hs, fun σ H A ρ ow Q P g h q => ?_⟩
  refine sa σ H A ρ ow _ _ g h fun z v H1 hz s1 p1 => ?_
  unfold xKey at hz
  rw [hid_eq] at hz
  unfold oKey at hz
  split at hz
  · rename_i ks ds e1
    obtain ⟨j, d, hn, hk, hd, hz⟩ := hz
    have ra := p1.ra
    rw [e1] at ra
    obtain ⟨p, kvs, rfl, a, hp, en, r⟩ := ra
    obtain ⟨w, hw, rw'⟩ := r.get hd
    exact ⟨p, w, rfl, .inl ⟨kvs, .inr k, hp, rfl, (valV_at en hn hk hw).symm⟩, q _ w H1 hz s1 (pr_kel (k := .rd) rw')⟩
  · exact hz.elim
/-! places -/
def oKeyP (k : Key) (i : Nat) (e : D) (rb : D → D) (P : Nat → Kd → D → (D → D) → Prop) : Prop := match e with
  | .dcK ks ds => ∃ (j : Nat) (d : D), ks.Nodup ∧ ks[j]? = some k ∧ ds[j]? = some d ∧ P i .ow d (fun c' => rb (.dcK ks (ds.set j c')))
  | _ => False
@[irreducible] def xKeyP (k : Key) (i : Nat) (e : D) (rb : D → D) (P : Nat → Kd → D → (D → D) → Prop) : Prop := hid (oKeyP k i e rb P)
def plKey (k : Str) (pl : PLF) : PLF := fun ρ P => pl ρ fun i _ e rb => xKeyP (.inr k) i e rb P
theorem go_keyP {k : Key} {i : Nat} {e : D} {rb : D → D} {ks : List Key} {ds : List D} {j : Nat} {d : D} {P : Nat → Kd → D → (D → D) → Prop} (hz : e = .dcK ks ds) (hn : ks.Nodup) (hk : ks[j]? = some k) (hd : ds[j]? = some d) (p : P i .ow d (fun c' => rb (.dcK ks (ds.set j c')))) : xKeyP k i e rb P := by
  subst hz
  unfold xKeyP; rw [hid_eq]
  exact ⟨j, d, hn, hk, hd, p⟩
theorem dpl_key {o : Expr} {k : Str} {jj} {pl : PLF} (hu : X.A.units + 64 < cLine) (ha : DPl X o pl) (hs : NoSl (.Constant (.str k) jj ip) := by exact fun _ _ => rfl) : DPl X (.Subscript o (.Constant (.str k) jj ip) pos) (plKey k pl) := by
  obtain ⟨ta, ea, sa⟩ := ha.run
  refine ⟨_, pe_dget (by omega) ea (pe_str (x := k)) hs, fun σ H A ρ ow Q P g h q => ?_⟩
  refine sa σ H A ρ ow _ _ g h fun i kd e rb v H1 h1 s1 p1 => ?_
  unfold xKeyP at h1
  rw [hid_eq] at h1
  unfold oKeyP at h1
  split at h1
  · rename_i ks ds
    obtain ⟨j, d', hn, hk, hd, h1⟩ := h1
    obtain ⟨d, v0, g1, fs, g2, fe, e1, e2, z, hsh, put⟩ := p1
    obtain ⟨p, kvs, w', fc, rfl, hp, en, hw, z'⟩ := z.step_dcK hd
    exact ⟨p, w', rfl, .inl ⟨kvs, .inr k, .inl hp, rfl, (valV_at en hn hk hw).symm⟩, q i .ow _ _ w' H1 h1 s1 ⟨d, v0, g1, fs, g2, fc, e1, e2, z', (fun h => nomatch h), put⟩⟩
  · exact h1.elim
end
/-! stores -/
section
variable {K : Frg} {H : Hp}
theorem dcK_set {ks : List Key} {ds : List D} {w : V} {fe fa : List Addr} {j : Nat} {k : Key} {z : D} {zv : V} (r : R K No H (.dcK ks ds) w fe) (rz : R K No H z zv fa) (nd : (fa ++ fe).Nodup) (hN : ks.Nodup) (hj : ks[j]? = some k) (hn : j < ds.length) :
    ∃ p kvs fe', w = .ref p ∧ H p = some (.dK kvs) ∧ kvs.map (·.1) = ks ∧ p ∈ fe ∧ R K No (upd H p (.dK (putK kvs k zv))) (.dcK ks (ds.set j z)) w fe' ∧ fe'.Nodup ∧ (∀ a ∈ fe', a ∈ fe ∨ a ∈ fa) := by
  obtain ⟨p, fs, fps, rfl, rfl, hp, en, rs⟩ := r
  have hd : ds[j]? = some ds[j] := List.getElem?_eq_getElem hn
  obtain ⟨w0, h1, ho, h3, hw, e3, r1, r2, r3⟩ := Rs.split rs hd
  subst e3
  obtain ⟨n1, n2, n3⟩ := List.nodup_append.mp nd
  obtain ⟨m1, m2⟩ := List.nodup_cons.mp n2
  have nf : p ∉ fa := fun q => n3 p q p (by simp) rfl
  have mu : ∀ u, H p = some u → ¬ Imm u := fun u e => by rw [hp] at e; cases e; exact fun z => z
  have np : p ∉ h1 ∧ p ∉ ho ∧ p ∉ h3 := by
    simp only [List.mem_append, not_or] at m1
    exact m1
  obtain ⟨q1, q2⟩ := putK_at (y := zv) en hN hj
  refine ⟨p, fs, p :: (h1 ++ (fa ++ h3)), rfl, hp, en, by simp, ⟨p, putK fs k zv, _, rfl, rfl, upd_same, q1, by
    rw [q2]
    exact Rs.put hd hw (Rs.keep _ _ _ (KeepF.upd np.1 (fun z => z) mu) r1) (R.keep _ _ _ (KeepF.upd nf (fun z => z) mu) rz) (Rs.keep _ _ _ (KeepF.upd np.2.2 (fun z => z) mu) r3)⟩, ?_, fun a h => ?_⟩
  · obtain ⟨k1, k2, k3⟩ := List.nodup_append.mp m2
    obtain ⟨l1, l2, l3⟩ := List.nodup_append.mp k2
    refine List.nodup_cons.mpr ⟨by simp [np.1, nf, np.2.2], List.nodup_append.mpr ⟨k1, List.nodup_append.mpr ⟨n1, l2, fun a ha b hb => n3 a ha b (by simp [hb])⟩, fun a ha b hb e => ?_⟩⟩
    subst e
    rcases List.mem_append.mp hb with hb | hb
    · exact n3 a hb a (by simp [ha]) rfl
    · exact k3 a ha a (by simp [hb]) rfl
  · simp only [List.mem_cons, List.mem_append] at h ⊢
    rcases h with h | h | h | h <;> simp [h]
end
def oKeyS (k : Key) (e : D) (z : D) (P : D → Prop) : Prop := match e with
  | .dcK ks ds => ∃ (j : Nat), ks.Nodup ∧ ks.length < 1000 ∧ ks[j]? = some k ∧ j < ds.length ∧ P (.dcK ks (ds.set j z))
  | _ => False
@[irreducible] def xKeyS (k : Key) (e : D) (z : D) (P : D → Prop) : Prop := hid (oKeyS k e z P)
theorem go_keyS {k : Key} {e z : D} {ks : List Key} {ds : List D} {j : Nat} {P : D → Prop} (hz : e = .dcK ks ds) (hn : ks.Nodup) (hl : ks.length < 1000) (hk : ks[j]? = some k) (hj : j < ds.length) (p : P (.dcK ks (ds.set j z))) : xKeyS k e z P := by
  subst hz
  unfold xKeyS; rw [hid_eq]
  exact ⟨j, hn, hl, hk, hj, p⟩
/-- one's own parts of a pair -/
def oTwoO (z : KD) (P : D → D → Prop) : Prop := ownK z.1 = true ∧ match z.2 with
  | .tup [a, b] => P a b
  | _ => False
@[irreducible] def xTwoO (z : KD) (P : D → D → Prop) : Prop := hid (oTwoO z P)
theorem go_twoO {z : KD} {a b : D} {P : D → D → Prop} (hz : z.2 = .tup [a, b]) (hk : ownK z.1 = true) (p : P a b) : xTwoO z P := by
  unfold xTwoO; rw [hid_eq]; unfold oTwoO; rw [hz]; exact ⟨hk, p⟩
def sKeyP (k1 k2 : Str) (fe : EF) (pl1 pl2 : PLF) : SF := fun D ρ => fe ρ (fun z ρ1 => xTwoO z fun a b => pl1 ρ1 fun i _ e rb => xKeyS (.inr k1) e a fun e' =>
  pl2 (ρ1.set i (some (.ow, rb e'))) fun i2 _ e2 rb2 => xKeyS (.inr k2) e2 b fun e2' => D.nx ((ρ1.set i (some (.ow, rb e'))).set i2 (some (.ow, rb2 e2')))) D.ex
theorem gkey_ok {K : Frg} {to : TE} {pl : PLF} {A1 : Addr → Prop} {H1 : Hp} {ρ1 : Ro} {σ : L2.St} {ow1 fa fb : List Addr} {d b : D} {v vb : V} {P : Ro → Prop} {Q : L2.St → Hp → Prop} {k : Str} (so : PLSound K to pl)
    (g1 : Good K A1 H1 ρ1 σ ow1) (o1 : R K No H1 d v fa) (ob : R K No H1 b vb fb) (nd : ((fa ++ fb) ++ ow1).Nodup) (dis : ∀ a ∈ fa ++ fb, ¬ A1 a) (h : pl ρ1 fun i _ e rb => xKeyS (.inr k) e d fun e' => P (ρ1.set i (some (.ow, rb e'))))
    (q : ∀ ρ' H' ow', P ρ' → Good K A1 H' ρ' σ ow' → Stp H1 ((fa ++ fb) ++ ow1) A1 H' (fb ++ ow') A1 → Own K A1 H' (.ow, b) vb fb ow' → Q σ H') : gSub to (tC (.str k)) rSetD v σ H1 Q := by
  refine so σ H1 A1 ρ1 ow1 _ _ g1 h fun i kd e rb w H2 h2 s2 p2 => ?_
  unfold xKeyS at h2
  rw [hid_eq] at h2
  unfold oKeyS at h2
  split at h2
  · rename_i ks ds
    obtain ⟨j, hN, hlen, hj, hl, h2⟩ := h2
    have o2 : R K No H2 d v fa := R.keep _ _ _ (KeepF.of_same s2) o1
    have ob2 : R K No H2 b vb fb := R.keep _ _ _ (KeepF.of_same s2) ob
    obtain ⟨fe0, r, nd0, hin, hsh, mtt⟩ := p2.mut (fa := fa ++ fb) (g1.same s2) nd dis
    obtain ⟨n1, n2, n3⟩ := List.nodup_append.mp nd0
    obtain ⟨m1, m2, m3⟩ := List.nodup_append.mp n1
    obtain ⟨p, kvs, fe', ew, hp, em, hpf, r', nd', sub⟩ := dcK_set (zv := v) r o2 (List.nodup_append.mpr ⟨m1, n2, fun a ha b hb => n3 a (by simp [ha]) b hb⟩) hN hj hl
    subst ew
    have pb : p ∉ fb := fun z => n3 p (by simp [z]) p hpf rfl
    have mu : ∀ u, H2 p = some u → ¬ Imm u := fun u e => by rw [hp] at e; cases e; exact fun z => z
    have ob3 : R K No (upd H2 p (.dK (putK kvs (.inr k) v))) b vb fb := R.keep _ _ _ (KeepF.upd pb (fun z => z) mu) ob2
    obtain ⟨ow', st', g', o'⟩ := mtt (.dcK ks (ds.set j d)) .ow fb (.ow, b) vb _ fe' (fun a o e n => by rw [upd_ne (fun z => n (by rw [z]; exact hpf))]; exact e) r' (.inl rfl) ob3 (List.nodup_append.mpr ⟨m2, nd', fun a ha b hb e => by
      subst e
      rcases sub a hb with z | z
      · exact n3 a (by simp [ha]) a z rfl
      · exact m3 a z a ha rfl⟩) fun a h => by
        rcases List.mem_append.mp h with h | h
        · exact .inr (.inl (by simp [h]))
        · exact (sub a h).elim .inl fun z => .inr (.inl (by simp [z]))
    refine ⟨p, _, rfl, .inl ⟨kvs, .inr k, hp, rfl, ?_, rfl⟩, ?_⟩
    · rw [← List.length_map (·.1), em, sizeLine_eq]; omega
    · exact q _ _ ow' h2 g' ((Stp.of_same s2).trans st') o'
  · exact h2.elim
section
variable {X : Cx} {E : XK} {pr : List Nat} {pos : Pos}
theorem ds_keyP {o1 o2 e : Expr} {k1 k2 : Str} {j1 j2} {i1 i2 p1 p2 pt : Pos} {kt : Nat} {fe : EF} {pl1 pl2 : PLF} (hc : X.calm = true) (hu : X.A.units + 64 < cLine)
    (he : DE X E e fe) (ho1 : DPl X o1 pl1) (ho2 : DPl X o2 pl2)
    (hs : swapsWithSole [.Tuple [.Subscript o1 (.Constant (.str k1) j1 i1) p1, .Subscript o2 (.Constant (.str k2) j2 i2) p2] kt pt] e pos.line X.env = pure false := by rfl) (hw : swappedStores [.Tuple [.Subscript o1 (.Constant (.str k1) j1 i1) p1, .Subscript o2 (.Constant (.str k2) j2 i2) p2] kt pt] e X.env = pure none := by rfl)
    (h1 : (assignEach [.Tuple [.Subscript o1 (.Constant (.str k1) j1 i1) p1, .Subscript o2 (.Constant (.str k2) j2 i2) p2] kt pt] X.env).map (·.2) = [assign (.Tuple [.Subscript o1 (.Constant (.str k1) j1 i1) p1, .Subscript o2 (.Constant (.str k2) j2 i2) p2] kt pt) X.env] := by rfl)
    (hn2 : (assignEach [.Subscript o1 (.Constant (.str k1) j1 i1) p1, .Subscript o2 (.Constant (.str k2) j2 i2) p2] X.env).length = 2 := by rfl) (hst : (assignEach [.Subscript o1 (.Constant (.str k1) j1 i1) p1, .Subscript o2 (.Constant (.str k2) j2 i2) p2] X.env).findIdx? (·.1) = none := by rfl)
    (ha1 : (assignEach [.Subscript o1 (.Constant (.str k1) j1 i1) p1, .Subscript o2 (.Constant (.str k2) j2 i2) p2] X.env).map (·.2) = assign (.Subscript o1 (.Constant (.str k1) j1 i1) p1) X.env :: (assignEach [.Subscript o2 (.Constant (.str k2) j2 i2) p2] X.env).map (·.2) := by rfl)
    (ha2 : (assignEach [.Subscript o2 (.Constant (.str k2) j2 i2) p2] X.env).map (·.2) = assign (.Subscript o2 (.Constant (.str k2) j2 i2) p2) X.env :: (assignEach [] X.env).map (·.2) := by rfl) :
    DS X E pr (.Assign [.Tuple [.Subscript o1 (.Constant (.str k1) j1 i1) p1, .Subscript o2 (.Constant (.str k2) j2 i2) p2] kt pt] e pos) (sKeyP k1 k2 fe pl1 pl2) := by
  obtain ⟨te, ee, se⟩ := he.run
  obtain ⟨to1, eo1, so1⟩ := ho1.run
  obtain ⟨to2, eo2, so2⟩ := ho2.run
  refine ⟨_, ps_asg ee (pg_tup hc (pgs_cons (pg_sub eo1 (pe_str (x := k1)) (set_dict (by omega))) (pgs_cons (pg_sub eo2 (pe_str (x := k2)) (set_dict (by omega))) pgs_nil ha2) ha1) hn2 hst) hs hw h1, fun σ H A ρ ow T D gd h nx rt ex => ?_⟩
  refine se σ H A ρ ow _ _ _ gd h (fun z ρ1 v H1 fp ow1 A1 hz st1 g1 o1 => ?_) fun C ρ1 H1 ow1 A1 h1 st1 g1 => ex C ρ1 σ H1 ow1 A1 h1 st1 g1 fun _ _ => rfl
  unfold xTwoO at hz
  rw [hid_eq] at hz
  unfold oTwoO at hz
  obtain ⟨hk, hz⟩ := hz
  split at hz
  · rename_i a b ez
    have r0 : R X.K No H1 z.2 v fp := o1.rep.rown hk
    rw [ez] at r0
    obtain ⟨q, vs, rfl, t, x, ws, fa, f2, rfl, ef, rx, y, ws2, fb, f3, rfl, ef2, ry, e0, e00⟩ := r0
    subst e0 e00 ef2 ef
    have nd := o1.nd
    have dis := o1.dis
    rw [List.append_nil] at nd dis st1
    refine ⟨q, [x, y], rfl, t, rfl, x, [y], rfl, ?_⟩
    refine gkey_ok (P := fun ρ' => pl2 ρ' fun i2 _ e2 rb2 => xKeyS (.inr k2) e2 b fun e2' => D.nx (ρ'.set i2 (some (.ow, rb2 e2')))) so1 g1 rx ry nd dis hz fun ρ2 H2 ow2 hz2 g2 st2 o2 => ?_
    refine ⟨y, [], rfl, ?_⟩
    have nd2 := o2.nd
    refine gkey_ok (fb := []) (b := .non) (vb := .non) (P := D.nx) so2 g2 o2.rep ⟨rfl, rfl⟩ (by rw [List.append_nil]; exact nd2) (by rw [List.append_nil]; exact o2.dis) hz2 fun ρ3 H3 ow3 hz3 g3 st3 _ => ?_
    rw [List.append_nil] at st3
    exact ⟨rfl, nx _ σ H3 ow3 A1 hz3 (st1.trans (st2.trans st3)) g3 fun _ _ => rfl⟩
  · exact hz.elim
end
end
end DL

/-! DL39: a list within one's own thing changed through another name; dict displays; a pair put to a list. -/
namespace DL
open PySem PySem.Spec PyProof PyProof.Rows L2
noncomputable section
/-! another name for a list within -/
section
variable {K : Frg} {A : Addr → Prop} {H : Hp} {ρ : Ro} {σ : L2.St} {ow : List Addr} {i x : Nat} {k : Kd} {e : D} {rb : D → D} {w : V}
theorem R.full : ∀ {d : D} {v : V} {fp : List Addr}, R K No H d v fp → fp ≠ [] → v ≠ .non := fun {d v fp} h n => by
  cases d <;> first
    | exact absurd h.1 n
    | (obtain ⟨p, _, _, _, ev, _⟩ := h; rw [show v = _ from ev]; exact fun z => nomatch z)
    | (obtain ⟨p, _, _, ev, _⟩ := h; rw [show v = _ from ev]; exact fun z => nomatch z)
    | (obtain ⟨p, _, ev, _⟩ := h; rw [show v = _ from ev]; exact fun z => nomatch z)
theorem isL_full {e : D} {w : V} {fe : List Addr} (h : R K No H e w fe) (l : isL e = true) : fe ≠ [] := by
  cases e <;> first
    | (cases l; done)
    | (obtain ⟨p, vs, fps, _, e2, _⟩ := h; rw [e2]; exact fun z => nomatch z)
theorem bor_in (gd : Good K A H ρ σ ow) (p : PlAt K A H ρ σ ow i k e rb w) (l : isL e = true) (hix : i ≠ x) :
    ∃ ow1, Good K A H ((ρ.set i (some (.fl, .any))).set x (some (.ow, e))) (σ.set x (some w)) ow1 ∧ ∀ (σ' : L2.St) (H' : Hp) (fz ow' : List Addr) (A' : Addr → Prop) (ρ' : Ro) (e' : D) (z : KD) (zv : V), Stp H ow1 A H' (fz ++ ow') A' → Good K A' H' ρ' σ' ow' → Own K A' H' z zv fz ow' →
      ρ'[x]? = some (some (.ow, e')) → σ'[i]? = (σ.set x (some w))[i]? → σ'[x]? = (σ.set x (some w))[x]? → x < σ.length → ∃ ow2, Good K A' H' ((ρ'.set x none).set i (some (.ow, rb e'))) σ' ow2 ∧ Stp H ow A H' (fz ++ ow2) A' ∧ Own K A' H' z zv fz ow2 := by
  obtain ⟨d, v0, g1, fs, g2, fe, e1, e2, ⟨f1, f2, ef, r, reb⟩, hs, put⟩ := p
  subst e1 ef
  have gnd := gd.nd
  have r0 : R K No H (rb e) v0 (f1 ++ (fe ++ f2)) := reb H No e fe (fun _ h => h) (fun a o e _ => e) r
  have hv0 : v0 ≠ .non := r0.full fun z => by
    have := isL_full r l
    simp only [List.append_eq_nil_iff] at z
    exact this z.2.1
  have rep1 : RepS K A H (ρ.set i (some (.fl, .any))) σ (g1 ++ ([] ++ g2)) := put H A (.fl, .any) [] (fun _ h => h) (fun a o e _ => e) ⟨rfl, hv0⟩
  rw [List.nil_append] at rep1
  have b1 := List.nodup_append.mp gnd
  have b2 := List.nodup_append.mp b1.2.1
  have b3 := List.nodup_append.mp b2.1
  have b4 := List.nodup_append.mp b3.2.1
  have good1 : Good K A H (ρ.set i (some (.fl, .any))) σ (g1 ++ g2) := ⟨rep1, List.nodup_append.mpr ⟨b1.1, b2.2.1, fun a ha b hb => b1.2.2 a ha b (by simp [hb])⟩, fun a h => gd.dis a (by rcases List.mem_append.mp h with h | h <;> simp [h]), gd.tr⟩
  have own1 : Own K A H (.ow, e) w fe (g1 ++ g2) := ⟨r, List.nodup_append.mpr ⟨b4.1, good1.nd, fun a ha b hb e => by
    subst e
    rcases List.mem_append.mp hb with h | h
    · exact b1.2.2 a h a (by simp [ha]) rfl
    · exact b2.2.2 a (by simp [ha]) a h rfl⟩, fun a h => gd.dis a (by simp [h])⟩
  obtain ⟨ow1, good2, sub1⟩ := good1.put (i := x) own1
  refine ⟨ow1, good2, fun σ' H' fz ow' A' ρ' e' z zv st g' oz hx hi hw hlt => ?_⟩
  have inow : ∀ a ∈ ow1, a ∈ g1 ++ (f1 ++ (fe ++ f2) ++ g2) := fun a h => by
    rcases sub1 a h with h | h
    · rcases List.mem_append.mp h with h | h <;> simp [h]
    · simp [h]
  -- what stands beside the list
  have side : ∀ a, a ∈ f1 ++ f2 → a ∉ ow1 ∧ (∃ o, H a = some o) ∧ ¬ A a := fun a h => by
    have hin : a ∈ g1 ++ (f1 ++ (fe ++ f2) ++ g2) := by rcases List.mem_append.mp h with h | h <;> simp [h]
    refine ⟨fun z => ?_, let ⟨o, e, _⟩ := gd.rep.mu a hin; ⟨o, e⟩, gd.dis a hin⟩
    rcases sub1 a z with y | y
    · rcases List.mem_append.mp y with y | y
      · exact b1.2.2 a y a (by rcases List.mem_append.mp h with h | h <;> simp [h]) rfl
      · exact b2.2.2 a (by rcases List.mem_append.mp h with h | h <;> simp [h]) a y rfl
    · rcases List.mem_append.mp h with h | h
      · exact b3.2.2 a h a (by simp [y]) rfl
      · exact b4.2.2 a y a h rfl
  have kp : KeepF No (f1 ++ f2) H H' := fun a o ea h => st.same a o ea fun z => by
    rcases h with h | h | h
    · exact (side a h).1 z
    · exact h
    · obtain ⟨u, e', m⟩ := good2.rep.mu a z
      rw [ea] at e'; cases e'
      exact m.notImm h
  obtain ⟨w', fe', ow'', hw', g'', o'', sub''⟩ := g'.move hx
  rw [List.getElem?_set_self hlt] at hw
  rw [hw] at hw'
  cases hw'
  have whole : R K No H' (rb e') v0 (f1 ++ (fe' ++ f2)) := reb H' No e' fe' (fun _ h => h) kp o''.rep
  have org : ∀ a, a ∈ fz ++ ow' → a ∈ ow1 ∨ H a = none := st.own
  have far : ∀ a, a ∈ f1 ++ f2 → a ∉ fz ++ ow' := fun a h z => by
    obtain ⟨s1, ⟨o, s2⟩, _⟩ := side a h
    rcases org a z with y | y
    · exact s1 y
    · rw [s2] at y; cases y
  obtain ⟨k1, k2, k3⟩ := List.nodup_append.mp o''.nd
  have c1 : ∀ a ∈ fe', a ∈ fz ++ ow' := fun a h => by simp [sub'' a (by simp [h])]
  have c2 : ∀ a ∈ ow'', a ∈ fz ++ ow' := fun a h => by simp [sub'' a (by simp [h])]
  have own2 : Own K A' H' (.ow, rb e') v0 (f1 ++ (fe' ++ f2)) ow'' := by
    refine ⟨whole, ?_, fun a h z => ?_⟩
    · refine List.nodup_append.mpr ⟨List.nodup_append.mpr ⟨b3.1, List.nodup_append.mpr ⟨k1, b4.2.1, fun a ha b hb e => ?_⟩, fun a ha b hb e => ?_⟩, k2, fun a ha b hb e => ?_⟩
      · subst e; exact far a (by simp [hb]) (c1 a ha)
      · subst e
        rcases List.mem_append.mp hb with hb | hb
        · exact far a (by simp [ha]) (c1 a hb)
        · exact b3.2.2 a ha a (by simp [hb]) rfl
      · subst e
        simp only [List.mem_append] at ha
        rcases ha with ha | ha | ha
        · exact far a (by simp [ha]) (c2 a hb)
        · exact k3 a ha a hb rfl
        · exact far a (by simp [ha]) (c2 a hb)
    · simp only [List.mem_append] at h
      have aux : a ∈ f1 ++ f2 → False := fun h => by
        obtain ⟨s1, ⟨o, s2⟩, s3⟩ := side a h
        rcases st.fr a z with y | y | y
        · exact s3 y
        · exact s1 y
        · rw [s2] at y; cases y
      rcases h with h | h | h
      · exact aux (by simp [h])
      · exact o''.dis a h z
      · exact aux (by simp [h])
  obtain ⟨ow2, g2', sub2⟩ := g''.put (i := i) own2
  have es : σ'.set i (some v0) = σ' := set_same (by rw [hi, List.getElem?_set_ne (fun z => hix z.symm)]; exact e2)
  rw [es] at g2'
  obtain ⟨z1, z2, z3⟩ := List.nodup_append.mp oz.nd
  have c3 : ∀ a ∈ ow2, a ∉ fz := fun a h z => by
    rcases sub2 a h with h | h
    · exact z3 a z a (sub'' a (by simp [h])) rfl
    · simp only [List.mem_append] at h
      rcases h with h | h | h
      · exact far a (by simp [h]) (by simp [z])
      · exact z3 a z a (sub'' a (by simp [h])) rfl
      · exact far a (by simp [h]) (by simp [z])
  refine ⟨ow2, g2', ⟨fun a o ea h => st.same a o ea fun z => h (inow a z), fun a h => ?_, st.up, fun a h => ?_⟩, ⟨oz.rep, List.nodup_append.mpr ⟨z1, g2'.nd, fun a ha b hb e => c3 b hb (e ▸ ha)⟩, oz.dis⟩⟩
  · have up : a ∈ fz ++ ow' → a ∈ g1 ++ (f1 ++ (fe ++ f2) ++ g2) ∨ H a = none := fun h => (org a h).elim (fun z => .inl (inow a z)) .inr
    rcases List.mem_append.mp h with h | h
    · exact up (by simp [h])
    · rcases sub2 a h with h | h
      · exact up (c2 a h)
      · simp only [List.mem_append] at h
        rcases h with h | h | h
        · exact .inl (by simp [h])
        · exact up (c1 a h)
        · exact .inl (by simp [h])
  · rcases st.fr a h with y | y | y
    · exact .inl y
    · exact .inr (.inl (inow a y))
    · exact .inr (.inr y)
end
def borBack (i x : Nat) (rb : D → D) (ρ : Ro) (P : Ro → Prop) : Prop := match ρ[x]? with
  | some (some (.ow, e')) => P ((ρ.set x none).set i (some (.ow, rb e')))
  | _ => False
/-- x = a list within what i holds, and so on -/
def sBor (i x : Nat) (pl : PLF) (f : SF) : SF := fun D ρ => x < ρ.length ∧ pl ρ fun i' _ e rb => i' = i ∧ isL e = true ∧ f
  { nx := fun ρ' => borBack i x rb ρ' D.nx
    rt := fun z ρ' => borBack i x rb ρ' (D.rt z)
    ex := fun C ρ' => borBack i x rb ρ' (D.ex C) } ((ρ.set i (some (.fl, .any))).set x (some (.ow, e)))
section
variable {X : Cx} {E : XK} {pr : List Nat} {pos : Pos}
theorem borBack_of {i x : Nat} {rb : D → D} {ρ : Ro} {P : Ro → Prop} (h : borBack i x rb ρ P) : ∃ e', ρ[x]? = some (some (.ow, e')) ∧ P ((ρ.set x none).set i (some (.ow, rb e'))) := by
  unfold borBack at h
  split at h
  · rename_i e' q; exact ⟨e', q, h⟩
  · exact h.elim
theorem dss_bor (i x : Nat) {y : Str} {pos' : Pos} {o : Expr} {rest : List Stmt} {pl : PLF} {f : SF} (hN : X.N.Nodup) (ho : DPl X o pl) (hr : DSs X E (i :: x :: pr) rest f) (hp : x ∉ pr := by decide) (hix : i ≠ x := by decide) (hi : X.N[x]? = some y := by rfl) (hx : Loc X.env.scope y := by first | exact Or.inl rfl | exact Or.inr rfl)
    (hs : swapsWith o (some (.Name y pos')) pos.line X.env = pure false := by rfl) (hf : X.fn y = true ∨ X.env.scope.names.lookup y = some .local := by first | exact .inl rfl | exact .inr rfl) : DSs X E pr (.Assign [.Name y pos'] o pos :: rest) (sBor i x pl f) := by
  obtain ⟨to, eo, so⟩ := ho.run
  obtain ⟨t, a, s⟩ := hr.run
  refine ⟨_, pss_cons (ps_set hN hi hx eo hs hf) a, fun σ H A ρ ow T D gd h nx rt ex => ?_⟩
  obtain ⟨hlt, h⟩ := h
  have hlt' : x < σ.length := by rw [gd.rep.len]; exact hlt
  refine so σ H A ρ ow _ _ gd h fun i' k e rb w H1 h1 s1 p1 => ?_
  obtain ⟨ei, hl, h1⟩ := h1
  subst ei
  obtain ⟨ow1, g1, back⟩ := bor_in (x := x) (gd.same s1) p1 hl hix
  have prs : ∀ {σ' : L2.St}, (∀ j ∈ i' :: x :: pr, σ'[j]? = (σ.set x (some w))[j]?) → ∀ j ∈ pr, σ'[j]? = σ[j]? := fun {σ'} h j hj => by
    rw [h j (by simp [hj]), List.getElem?_set_ne fun z => hp (by rw [z]; exact hj)]
  refine s (σ.set x (some w)) H1 A _ ow1 { T with nx := T.nx } _ g1 h1 (fun ρ' σ' H' ow' A' hb st g p => ?_) (fun z ρ' v σ' H' fp ow' A' hb st g oz p => ?_) fun C ρ' σ' H' ow' A' hb st g p => ?_
  · obtain ⟨e', q, hb⟩ := borBack_of hb
    obtain ⟨ow2, g2, st2, _⟩ := back σ' H' [] ow' A' ρ' e' (.fl, .non) .non st g ⟨⟨rfl, rfl⟩, g.nd, fun a h => nomatch h⟩ q (p i' (by simp)) (p x (by simp)) hlt'
    exact nx _ σ' H' ow2 A' hb ((Stp.of_same s1).trans st2) g2 (prs p)
  · obtain ⟨e', q, hb⟩ := borBack_of hb
    obtain ⟨ow2, g2, st2, oz2⟩ := back σ' H' fp ow' A' ρ' e' z v st g oz q (p i' (by simp)) (p x (by simp)) hlt'
    exact rt z _ v σ' H' fp ow2 A' hb ((Stp.of_same s1).trans st2) g2 oz2 (prs p)
  · obtain ⟨e', q, hb⟩ := borBack_of hb
    obtain ⟨ow2, g2, st2, _⟩ := back σ' H' [] ow' A' ρ' e' (.fl, .non) .non st g ⟨⟨rfl, rfl⟩, g.nd, fun a h => nomatch h⟩ q (p i' (by simp)) (p x (by simp)) hlt'
    exact ex C _ σ' H' ow2 A' hb ((Stp.of_same s1).trans st2) g2 (prs p)
end
/-! dict displays with text keys -/
theorem mergeK_all : ∀ {more kvs : List (Key × V)}, ((kvs ++ more).map (·.1)).Nodup → mergeK kvs more = kvs ++ more
  | [], kvs, _ => by rw [List.append_nil]; rfl
  | p :: more, kvs, h => by
    have hp : (kvs.any fun kv => decide (kv.1 = p.1)) = false := by
      rw [Bool.eq_false_iff]
      intro z
      obtain ⟨q, hq, e⟩ := List.any_eq_true.mp z
      have e := of_decide_eq_true e
      rw [List.map_append] at h
      exact (List.nodup_append.mp h).2.2 q.1 (List.mem_map_of_mem hq) p.1 (by simp) e
    have e1 : putK kvs p.1 p.2 = kvs ++ [p] := by
      unfold putK
      rw [if_neg (by rw [hp]; exact Bool.false_ne_true)]
    show mergeK (putK kvs p.1 p.2) more = _
    rw [e1, mergeK_all (by rw [List.append_assoc]; exact h), List.append_assoc]; rfl
/-- pairs, their keys told -/
structure PKs (X : Cx) (pos : Pos) (keys : List (Option Expr)) (values : List Expr) (ks : List Str) (t : TA) : Prop where
  run : ∃ trs, PPs X pos keys values trs ∧ tPairs trs = fun σ H Q => t σ H fun vs H' => Q ((ks.map V.str).zip vs) H'
def kvsOf : List Str → List V → List (Key × V)
  | k :: ks, v :: vs => (.inr k, v) :: kvsOf ks vs
  | _, _ => []
theorem kvs_zip : ∀ {ks : List Str} {vs : List V}, (ks.map V.str).zip vs = (kvsOf ks vs).map fun kv => (kV kv.1, kv.2)
  | [], vs => by cases vs <;> rfl
  | k :: ks, [] => rfl
  | k :: ks, v :: vs => congrArg (_ :: ·) (kvs_zip (ks := ks) (vs := vs))
theorem kvs_keys : ∀ {ks : List Str} {vs : List V}, vs.length = ks.length → (kvsOf ks vs).map (·.1) = ks.map .inr
  | [], vs, _ => by cases vs <;> rfl
  | k :: ks, [], h => by cases h
  | k :: ks, v :: vs, h => congrArg (_ :: ·) (kvs_keys (Nat.succ.inj h))
theorem kvs_vals : ∀ {ks : List Str} {vs : List V}, vs.length = ks.length → (kvsOf ks vs).map (·.2) = vs
  | [], [], _ => rfl
  | [], _ :: _, h => by cases h
  | k :: ks, [], h => by cases h
  | k :: ks, v :: vs, h => congrArg (_ :: ·) (kvs_vals (Nat.succ.inj h))
def eDsp (ks : List Str) (g : AEF) : EF := fun ρ P PX => g ρ (fun avs ρ1 => match valsOf avs with | some zs => zs.all (fun z => ownK z.1) = true ∧ P (.ow, .dcK (ks.map .inr) (zs.map (·.2))) ρ1 | none => False) PX
theorem VRs.rs {K : Frg} {A : Addr → Prop} {H : Hp} : ∀ {zs : List KD} {vs : List V} {fp : List Addr}, VRs K A H zs vs fp → zs.all (fun z => ownK z.1) = true → Rs K No H (zs.map (·.2)) vs fp
  | [], _, _, h, _ => h
  | z :: zs, _, _, ⟨w, ws, f1, f2, e, e2, h, t⟩, c => by
    have c' := Bool.and_eq_true_iff.mp (show (ownK z.1 && zs.all fun z => ownK z.1) = true from c)
    exact ⟨w, ws, f1, f2, e, e2, VR.rown h c'.1, VRs.rs t c'.2⟩
section
variable {X : Cx} {E : XK} {pos : Pos}
structure DPK (X : Cx) (E : XK) (pos : Pos) (keys : List (Option Expr)) (values : List Expr) (ks : List Str) (n : Nat) (g : AEF) : Prop where
  run : ∃ t, PKs X pos keys values ks t ∧ AESound X.K E n t g
theorem dpk_nil : DPK X E pos [] [] [] 0 aNil := ⟨tNil, ⟨[], pps_nil, rfl⟩, ae_nil⟩
theorem dpk_cons {k : Str} {j} {ip : Pos} {keys : List (Option Expr)} {v : Expr} {values : List Expr} {ks : List Str} {n : Nat} {f : EF} {g : AEF} (hv : DE X E v f) (hr : DPK X E pos keys values ks n g) :
    DPK X E pos (some (.Constant (.str k) j ip) :: keys) (v :: values) (k :: ks) (n + 1) (aE f g) := by
  obtain ⟨tv, ev, sv⟩ := hv.run
  obtain ⟨t, ⟨trs, er, tr⟩, sr⟩ := hr.run
  refine ⟨tCons tv t, ⟨(tC (.str k), tv) :: trs, pps_cons (pe_str (x := k)) ev er, ?_⟩, ae_cons sv sr⟩
  funext σ H Q
  show (tv σ H fun y H2 => tPairs trs σ H2 fun ps H3 => Q ((.str k, y) :: ps) H3) = _
  rw [tr]
  rfl
theorem de_dsp {keys : List (Option Expr)} {values : List Expr} {ks : List Str} {n : Nat} {g : AEF} (h : DPK X E pos keys values ks n g) (hn : ks.Nodup := by decide +kernel) (hall : keys.all (·.isSome) = true := by rfl) (hl : keys.length = values.length := by rfl) (h0 : keys ≠ [] := by exact fun z => nomatch z) (h15 : keys.length ≤ 15 := by decide) (hk : ks.length = n := by rfl) (hk2 : n ≤ 15 := by decide) :
    DE X E (.Dict keys values pos) (eDsp ks g) := by
  obtain ⟨t, ⟨trs, er, tr⟩, sr⟩ := h.run
  refine ⟨_, pe_disp er hall hl h0 h15, fun σ H A ρ ow Q P PX gd h q qx p hp => ?_⟩
  rw [tr]
  have s0 : Same H (upd H p (.dK [])) := same_upd hp
  refine sr σ (upd H p (.dK [])) A ρ ow _ _ _ (gd.same s0) h (fun avs ρ2 vs H2 fp ow2 A2 hz hP st g2 rr nd dis => ?_) fun C ρ2 H2 ow2 A2 hx st g2 => ?_
  · have pow : p ∉ ow := fun z => by
      obtain ⟨o, e, _⟩ := gd.rep.mu p z
      rw [hp] at e; cases e
    have hp2 : H2 p = some (.dK []) := st.same p _ upd_same pow
    have tp : (upd H p (.dK [])) p = some (.dK []) := upd_same
    have pfp : p ∉ fp ++ ow2 := fun z => by
      rcases st.own p z with y | y
      · exact pow y
      · rw [tp] at y; cases y
    have pA : ¬ A2 p := fun z => by
      rcases st.fr p z with y | y | y
      · obtain ⟨o, e⟩ := gd.tr p y
        rw [hp] at e; cases e
      · exact pow y
      · rw [tp] at y; cases y
    split at hP
    · rename_i zs ez
      obtain ⟨hown, hP⟩ := hP
      have rz := rr.vals ez
      have lvs : vs.length = ks.length := by rw [rr.len, hz, hk]
      have mm : mergeK [] (kvsOf ks vs) = kvsOf ks vs := mergeK_all (by
        rw [List.nil_append, kvs_keys lvs]
        exact hn.map _ fun a b h e => h (Sum.inr.inj e))
      refine ⟨hp2, kvsOf ks vs, kvs_zip, ?_, ?_⟩
      · have : (kvsOf ks vs).length = ks.length := by
          have := congrArg List.length (kvs_keys lvs)
          simpa using this
        omega
      · rw [mm]
        have mu : ∀ u, H2 p = some u → ¬ Imm u := fun u e => by rw [hp2] at e; cases e; exact fun z => z
        have pf : p ∉ fp := fun z => pfp (by simp [z])
        have po : p ∉ ow2 := fun z => pfp (by simp [z])
        have rs : Rs X.K No (upd H2 p (.dK (kvsOf ks vs))) (zs.map (·.2)) vs fp := Rs.keep _ _ _ (KeepF.upd pf (fun z => z) mu) (rz.rs hown)
        have whole : R X.K No (upd H2 p (.dK (kvsOf ks vs))) (.dcK (ks.map .inr) (zs.map (·.2))) (.ref p) (p :: fp) := ⟨p, kvsOf ks vs, fp, rfl, rfl, upd_same, kvs_keys lvs, by rw [kvs_vals lvs]; exact rs⟩
        have kA : KeepF A2 ow2 H2 (upd H2 p (.dK (kvsOf ks vs))) := KeepF.upd po pA mu
        refine q _ ρ2 _ _ (p :: fp) ow2 A2 hP ⟨fun a o e n => ?_, fun a h => ?_, st.up, fun a h => ?_⟩ ⟨RepS.keep kA g2.rep, g2.nd, g2.dis, fun a h => ?_⟩ ⟨whole, ?_, fun a h => ?_⟩
        · have ne : a ≠ p := fun z => by rw [z, hp] at e; cases e
          rw [upd_ne ne]
          exact st.same a o (by rw [upd_ne ne]; exact e) n
        · rcases List.mem_append.mp h with h | h
          · rcases List.mem_cons.mp h with h | h
            · rw [h]; exact .inr hp
            · exact (st.own a (by simp [h])).imp id s0.free
          · exact (st.own a (by simp [h])).imp id s0.free
        · rcases st.fr a h with y | y | y
          · exact .inl y
          · exact .inr (.inl y)
          · exact .inr (.inr (s0.free y))
        · obtain ⟨o, e⟩ := g2.tr a h
          by_cases z : a = p
          · rw [z]; exact ⟨_, upd_same⟩
          · exact ⟨o, by rw [upd_ne z]; exact e⟩
        · exact List.nodup_cons.mpr ⟨pfp, nd⟩
        · rcases List.mem_cons.mp h with h | h
          · rw [h]; exact pA
          · exact dis a h
    · exact hP.elim
  · refine qx C ρ2 H2 ow2 A2 hx ⟨fun a o e n => st.same a o (s0 a o e) n, fun a h => ?_, st.up, fun a h => ?_⟩ g2
    · exact (st.own a h).imp id s0.free
    · rcases st.fr a h with y | y | y
      · exact .inl y
      · exact .inr (.inl y)
      · exact .inr (.inr (s0.free y))
end
/-! a pair put to a list within: its first part moved in -/
/-- pl.append((x, e)) -/
def eAppMv (pl : PLF) (j : Nat) (f : PF) : EF := fun ρ P _ => match ρ[j]? with
  | some (some kd) => ownK kd.1 = true ∧ pl (ρ.set j none) fun i k e rb => isL e = true ∧ f (ρ.set j none) fun z => ownK z.1 = true ∧ (match e with
    | .lst ds => ds.length < 10000000 ∧ P (.fl, .non) ((ρ.set j none).set i (some (nk k .ow, rb (.lst (ds ++ [.tup [kd.2, z.2]])))))
    | _ => False)
  | _ => False
section
variable {X : Cx} {E : XK} {pos cpos apos px tpos : Pos}
theorem de_appMv (j : Nat) {o e2 : Expr} {x : Str} {kt : Nat} {name : Str} {id : String} {r : V → List V → Hp → VK → Prop} {pl : PLF} {f : PF} (pa : PlainAttrs "list") (slot : PySem.Slot "list" name id) (hty : typeOf (.builtin id) = pure (.type "method_descriptor")) (hm : MtM X id r) (hs : MSound X.K r mAppend) (ho : DPl X o pl) (hf : DP X e2 f)
    (hN : X.N[j]? = some x := by rfl) (hv : Vis X.env.scope x := by first | exact Or.inl rfl | exact Or.inr (Or.inl rfl) | exact Or.inr (Or.inr rfl)) (hd : (x == ("__debug__" : Str)) = false := by decide) (hcd : (x == ("__classdict__" : Str)) = false := by decide)
    (hbase : attributeBase o name X.env (eval o X.env) = eval o X.env := by rfl)
    (hfew : ((backTo cpos (starEach [.Tuple [.Name x px, e2] kt tpos] X.env)).all (fun x => !x.1) && (backToKw cpos (keywordEach [] X.env)).all (fun x => x.1.isSome)
      && decide (([.Tuple [.Name x px, e2] kt tpos] : List Expr).length + ([] : List Keyword).length + (if ([] : List Keyword).isEmpty then 0 else 1) < 30)) = true := by rfl)
    (hline : (apos.endLine == cpos.line) = true := by rfl) (hst : starEach [.Tuple [.Name x px, e2] kt tpos] X.env = (false, eval (.Tuple [.Name x px, e2] kt tpos) X.env) :: starEach [] X.env := by rfl) (hplain : (backTo cpos (starEach [] X.env)).any (·.1) = false := by rfl) (hst2 : starEach [e2] X.env = (false, eval e2 X.env) :: starEach [] X.env := by rfl) :
    DE X E (.Call (.Attribute o name apos) [.Tuple [.Name x px, e2] kt tpos] [] cpos) (eAppMv pl j f) := by
  obtain ⟨to, eo, so⟩ := ho.run
  obtain ⟨t2, ee, s2⟩ := hf.run
  refine ⟨_, pe_bm pa slot hty hm eo (pa_cons (pe_tup (pa_cons (pe_var hN hv hd hcd) (pa_cons ee pa_nil hst2))) pa_nil) hbase hfew hline hst hplain, fun σ H A ρ ow Q P PX gd h q qx => ?_⟩
  unfold eAppMv at h
  split at h
  · rename_i kd ej
    obtain ⟨hown, h⟩ := h
    obtain ⟨v, fp, ow', hvj, g', oj, sub⟩ := gd.move ej
    refine so σ H A (ρ.set j none) ow' _ _ g' h fun i k e rb w H1 h1 s1 p1 => ?_
    obtain ⟨hl, h1⟩ := h1
    refine ⟨?_, ?_⟩
    · obtain ⟨d, v0, g1, fs, g2, fe, _, _, ⟨_, _, _, re, _⟩, _⟩ := p1
      exact tyL re hl
    refine ⟨v, hvj, ?_⟩
    refine s2 σ H1 A (ρ.set j none) ow' _ _ (g'.same s1) h1 fun z u H2 hz s2' pz => ?_
    obtain ⟨hzo, hz⟩ := hz
    refine ⟨by rw [sizeLine_eq, List.length_cons, List.length_cons, List.length_nil]; omega, fun p hp => ?_⟩
    split at hz
    · rename_i ds
      obtain ⟨hlen, hz⟩ := hz
      obtain ⟨fz, rz, ndz, hFz⟩ := pz
      have s12 := s1.trans s2'
      have s3 : Same H2 (upd H2 p (.tup [v, u])) := same_upd hp
      have s13 := s12.trans s3
      have rk : R X.K No (upd H2 p (.tup [v, u])) kd.2 v fp := R.keep _ _ _ (KeepF.of_same s13) (oj.rep.rown hown)
      have rz' : R X.K No (upd H2 p (.tup [v, u])) z.2 u fz := R.keep _ _ _ (KeepF.of_same s3) (rz.rown hzo)
      have rt : R X.K No (upd H2 p (.tup [v, u])) (.tup [kd.2, z.2]) (.ref p) (fp ++ fz) := ⟨p, [v, u], rfl, .inl (.inl upd_same), Rs.cons rk (Rs.one rz')⟩
      have trk : ∀ a ∈ fp ++ ow', ∃ o, H a = some o := fun a h => let ⟨o, e, _⟩ := gd.rep.mu a (sub a h); ⟨o, e⟩
      have fzn : ∀ a ∈ fz, H a = none := fun a h => s1.free (hFz a h)
      obtain ⟨n1, n2, n3⟩ := List.nodup_append.mp oj.nd
      have fz' : ∀ a ∈ fz, a ∉ fp ++ ow' := fun a h y => by
        obtain ⟨o, e⟩ := trk a y
        rw [fzn a h] at e; cases e
      refine mth_fin (B := No) (fp := fp ++ fz) (vs := [.ref p]) (zs := [(.ow, .tup [kd.2, z.2])]) (P := P) hs (ow0 := ow) (A0 := A) (H0 := H) ⟨fun a o e n => s13 a o e, fun a h => ?_, fun _ h => h, fun _ h => .inl h⟩ (g'.same s13) (p1.same (s2'.trans s3)) ⟨.ref p, [], fp ++ fz, [], rfl, (List.append_nil _).symm, rt, rfl, rfl⟩ ?_ (fun a h y => ?_) ⟨rfl, hlen, hz⟩ q
      · simp only [List.mem_append] at h
        rcases h with (h | h) | h
        · exact .inl (sub a (by simp [h]))
        · exact .inr (fzn a h)
        · exact .inl (sub a (by simp [h]))
      · refine List.nodup_append.mpr ⟨List.nodup_append.mpr ⟨n1, ndz, fun a ha b hb e => fz' b hb (by rw [← e]; simp [ha])⟩, n2, fun a ha b hb e => ?_⟩
        subst e
        rcases List.mem_append.mp ha with h | h
        · exact n3 a h a hb rfl
        · exact fz' a h (by simp [hb])
      · rcases List.mem_append.mp h with h | h
        · exact oj.dis a h y
        · obtain ⟨o, e⟩ := gd.tr a y
          rw [fzn a h] at e; cases e
    · exact hz.elim
  · exact h.elim
end
end
end DL

/-! DL40: one's own thing only read for a while. -/
namespace DL
open PySem PySem.Spec PyProof PyProof.Rows L2
noncomputable section
def cln1 : Sl → Sl
  | some (.rd, _) => none
  | some (.sa, _) => none
  | s => s
def cln (ρ : Ro) : Ro := ρ.map cln1
theorem cln_rep {K : Frg} {A B : Addr → Prop} {H : Hp} : ∀ {ρ : Ro} {σ : L2.St} {ow : List Addr}, RepS K A H ρ σ ow → RepS K B H (cln ρ) σ ow
  | [], _, _, h => h
  | s :: ρ, _, _, ⟨x, σ', f, g, e, e2, h, r⟩ => by
    refine ⟨x, σ', f, g, e, e2, ?_, cln_rep r⟩
    match s, h with
    | none, h => exact h
    | some (.fl, d), h => exact h
    | some (.sh, d), h => exact h
    | some (.ow, d), h => exact h
    | some (.rd, d), ⟨v, _, h⟩ => exact h.1
    | some (.sa, d), ⟨v, _, h⟩ => exact h.1
def vwBack (i : Nat) (d : D) (ρ : Ro) (P : Ro → Prop) : Prop := P ((cln ρ).set i (some (.ow, d)))
/-- what i holds is only read in this statement -/
def sVw (i : Nat) (f : SF) : SF := fun D ρ => match ρ[i]? with
  | some (some (.ow, d)) => f
    { nx := fun ρ' => vwBack i d ρ' D.nx
      rt := fun z ρ' => ownK z.1 = true ∧ vwBack i d ρ' (D.rt z)
      ex := fun C ρ' => vwBack i d ρ' (D.ex C) } (ρ.set i (some (.rd, d)))
  | _ => False
theorem vw_in {K : Frg} {A : Addr → Prop} {H : Hp} {ρ : Ro} {σ : L2.St} {ow : List Addr} {i : Nat} {d : D} (gd : Good K A H ρ σ ow) (e : ρ[i]? = some (some (.ow, d))) :
    ∃ A1 ow1, Good K A1 H (ρ.set i (some (.rd, d))) σ ow1 ∧ ∀ (σ' : L2.St) (H' : Hp) (fz ow' : List Addr) (A' : Addr → Prop) (ρ' : Ro) (z : KD) (zv : V), Stp H ow1 A1 H' (fz ++ ow') A' → Good K A' H' ρ' σ' ow' → Own K A' H' z zv fz ow' → ownK z.1 = true → σ'[i]? = σ[i]? →
      ∃ A2 ow2, Good K A2 H' ((cln ρ').set i (some (.ow, d))) σ' ow2 ∧ Stp H ow A H' (fz ++ ow2) A2 ∧ Own K A2 H' z zv fz ow2 := by
  obtain ⟨v, fs, ow0, hv, g0, o0, sub⟩ := gd.move e
  obtain ⟨n1, n2, n3⟩ := List.nodup_append.mp o0.nd
  have trk : ∀ a ∈ fs, ∃ o, H a = some o := fun a h => let ⟨o, e, _⟩ := gd.rep.mu a (sub a (by simp [h])); ⟨o, e⟩
  have g1 : Good K (fun a => A a ∨ a ∈ fs) H (ρ.set i none) σ ow0 := ⟨g0.rep.mono fun _ h => .inl h, g0.nd, fun a h z => by
    rcases z with z | z
    · exact g0.dis a h z
    · exact n3 a z a h rfl, fun a h => by
    rcases h with h | h
    · exact g0.tr a h
    · exact trk a h⟩
  have r0 : R K No H d v fs := o0.rep
  have o1 : Own K (fun a => A a ∨ a ∈ fs) H (.rd, d) v [] ow0 := ⟨⟨rfl, o0.rep.ra (fun a h => .inl h) fun a h => .inr h⟩, by simpa using g0.nd, fun a h => nomatch h⟩
  obtain ⟨ow1, g2, sub1⟩ := g1.put (i := i) o1
  have es : σ.set i (some v) = σ := set_same hv
  rw [es, List.set_set] at g2
  have in1 : ∀ a ∈ ow1, a ∈ ow0 := fun a h => (sub1 a h).elim id fun z => nomatch z
  refine ⟨_, ow1, g2, fun σ' H' fz ow' A' ρ' z zv st g' oz hk hi => ?_⟩
  have far : ∀ a ∈ fs, a ∉ fz ++ ow' := fun a h z => by
    rcases st.own a z with y | y
    · exact n3 a h a (in1 a y) rfl
    · obtain ⟨o, e⟩ := trk a h
      rw [y] at e; cases e
  have kp : KeepF No fs H H' := fun a o ea h => st.same a o ea fun z => by
    rcases h with h | h | h
    · exact n3 a h a (in1 a z) rfl
    · exact h
    · obtain ⟨u, e', m⟩ := g2.rep.mu a z
      rw [ea] at e'; cases e'
      exact m.notImm h
  have g3 : Good K (fun a => A' a ∧ a ∉ fs) H' (cln ρ') σ' ow' := ⟨cln_rep g'.rep, g'.nd, fun a h y => g'.dis a h y.1, fun a h => g'.tr a h.1⟩
  have o3 : Own K (fun a => A' a ∧ a ∉ fs) H' (.ow, d) v fs ow' := ⟨R.keep _ _ _ kp r0, List.nodup_append.mpr ⟨n1, g'.nd, fun a ha b hb e => far a ha (by rw [e]; simp [hb])⟩, fun a h y => y.2 h⟩
  obtain ⟨ow2, g4, sub4⟩ := g3.put (i := i) o3
  have es2 : σ'.set i (some v) = σ' := set_same (by rw [hi]; exact hv)
  rw [es2] at g4
  obtain ⟨z1, z2, z3⟩ := List.nodup_append.mp oz.nd
  refine ⟨_, ow2, g4, ⟨fun a o ea h => st.same a o ea fun y => h (sub a (by simp [in1 a y])), fun a h => ?_, fun a h => ⟨st.up a (.inl h), fun y => gd.dis a (sub a (by simp [y])) h⟩, fun a h => ?_⟩, ⟨VR.own_any oz.rep hk, List.nodup_append.mpr ⟨z1, g4.nd, fun a ha b hb e => ?_⟩, fun a h y => oz.dis a h y.1⟩⟩
  · have up : a ∈ fz ++ ow' → a ∈ ow ∨ H a = none := fun h => (st.own a h).imp (fun y => sub a (by simp [in1 a y])) id
    rcases List.mem_append.mp h with h | h
    · exact up (by simp [h])
    · rcases sub4 a h with h | h
      · exact up (by simp [h])
      · exact .inl (sub a (by simp [h]))
  · rcases st.fr a h.1 with y | y | y
    · exact .inl (y.resolve_right h.2)
    · exact .inr (.inl (sub a (by simp [in1 a y])))
    · exact .inr (.inr y)
  · subst e
    rcases sub4 a hb with h | h
    · exact z3 a ha a h rfl
    · exact far a h (by simp [ha])
section
variable {X : Cx} {E : XK} {pr : List Nat} {st : Stmt} {f : SF}
theorem ds_vw (i : Nat) (h : DS X E (i :: pr) st f) : DS X E pr st (sVw i f) := by
  obtain ⟨t, a, s⟩ := h.run
  refine ⟨t, a, fun σ H A ρ ow T D gd h nx rt ex => ?_⟩
  unfold sVw at h
  split at h
  · rename_i d e
    obtain ⟨A1, ow1, g1, back⟩ := vw_in gd e
    refine s σ H A1 _ ow1 T _ g1 h (fun ρ' σ' H' ow' A' hb st g p => ?_) (fun z ρ' v σ' H' fp ow' A' hb st g oz p => ?_) fun C ρ' σ' H' ow' A' hb st g p => ?_
    · obtain ⟨A2, ow2, g2, st2, _⟩ := back σ' H' [] ow' A' ρ' (.fl, .non) .non st g ⟨⟨rfl, rfl⟩, g.nd, fun a h => nomatch h⟩ rfl (p i (by simp))
      exact nx _ σ' H' ow2 A2 hb st2 g2 fun j hj => p j (by simp [hj])
    · obtain ⟨hk, hb⟩ := hb
      obtain ⟨A2, ow2, g2, st2, oz2⟩ := back σ' H' fp ow' A' ρ' z v st g oz hk (p i (by simp))
      exact rt z _ v σ' H' fp ow2 A2 hb st2 g2 oz2 fun j hj => p j (by simp [hj])
    · obtain ⟨A2, ow2, g2, st2, _⟩ := back σ' H' [] ow' A' ρ' (.fl, .non) .non st g ⟨⟨rfl, rfl⟩, g.nd, fun a h => nomatch h⟩ rfl (p i (by simp))
      exact ex C _ σ' H' ow2 A2 hb st2 g2 fun j hj => p j (by simp [hj])
  · exact h.elim
end
end
end DL

/-! DL41: a list taken out of its place; calls that change what stands at a place. -/
namespace DL
open PySem PySem.Spec PyProof PyProof.Rows L2
noncomputable section
/-- the list at a place, moved out (an untold thing is left) -/
def eTk (pl : PLF) : EF := fun ρ P _ => pl ρ fun i _ e rb => isL e = true ∧ P (.ow, e) (ρ.set i (some (.ow, rb .any)))
/-- a call whose first argument, a place, it changes -/
def eFnP (c : CF) (pl : PLF) (g : PAF) : EF := fun ρ P _ => pl ρ fun i _ e rb => g ρ fun zs => zs.all (fun z => decide (z.1 = .fl)) = true ∧ c ((.ow, e) :: zs) (fun z ys => ownK z.1 = true ∧ match ys with | [(.ow, e')] => P z (ρ.set i (some (.ow, rb e'))) | _ => False) fun _ _ => False
theorem VRs.fls {K : Frg} {A B : Addr → Prop} {H : Hp} : ∀ {zs : List KD} {vs : List V} {fp : List Addr}, VRs K A H zs vs fp → zs.all (fun z => decide (z.1 = .fl)) = true → VRs K B H zs vs []
  | [], _, _, h, _ => ⟨h.1, rfl⟩
  | z :: zs, _, _, ⟨w, ws, f1, f2, e, e2, h, t⟩, c => by
    have c' := Bool.and_eq_true_iff.mp (show (decide (z.1 = .fl) && zs.all fun z => decide (z.1 = .fl)) = true from c)
    obtain ⟨k, d⟩ := z
    have hk : k = .fl := of_decide_eq_true c'.1
    subst hk
    exact ⟨w, ws, [], [], e, rfl, ⟨rfl, h.2⟩, VRs.fls t c'.2⟩
section
variable {X : Cx} {E : XK} {CX : CXT} {k m : Nat} {f : Addr} {ps : List Str} {c : CF} {ms : List Bool} {x : Str} {p pos : Pos} {e : Expr} {es : List Expr} {g : PAF} {pl : PLF}
theorem de_tk (ho : DPl X e pl) : DE X E e (eTk pl) := by
  obtain ⟨to, eo, so⟩ := ho.run
  refine ⟨_, eo, fun σ H A ρ ow Q P PX gd h q qx => ?_⟩
  refine so σ H A ρ ow _ _ gd h fun i k e rb w H1 h1 s1 p1 => ?_
  obtain ⟨hl, h1⟩ := h1
  have g1 := gd.same s1
  obtain ⟨fe, re, nde, hin, _, mtt⟩ := p1.mut (fa := []) g1 (by simpa using gd.nd) fun a h => nomatch h
  have hw : w ≠ .non := R.full re (isL_full re hl)
  obtain ⟨ow', st', g', o'⟩ := mtt .any .ow fe (.ow, e) w H1 [] (fun a o e _ => e) ⟨rfl, hw⟩ (.inl rfl) re (by simpa using nde) fun a h => .inl (by simpa using h)
  exact q _ _ w H1 fe ow' A h1 ((Stp.of_same s1).trans (st'.sub fun a h => h)) g' o'
theorem de_callP (F : GOk X.prog X.w X.K X.mg X.base CX k f ps (spOf X.K (m + 1) (true :: ms) c)) (hr : RoomG k X.A) (hg : Gl X x) (hm : X.mg x = some (.ref f)) (hk : PySem.W.keepIn X.K (.ref f) = true) (hx : Passes CX X E) (hms : ms.all (!·) = true) (ho : DPl X e pl) (ha : DA X es m g)
    (hdb : (x == ("__debug__" : Str)) = false := by decide) (he : starEach (e :: es) X.env = (false, eval e X.env) :: starEach es X.env := by rfl) (hpl : (backTo pos (starEach es X.env)).any (·.1) = false := by rfl) :
    DE X E (.Call (.Name x p) (e :: es) [] pos) (eFnP c pl g) := by
  obtain ⟨to, eo, so⟩ := ho.run
  obtain ⟨t, ea, sa⟩ := ha.run
  refine ⟨_, pe_gok F hr hg hm hk hx (pa_cons eo ea he) hdb he hpl, fun σ H A ρ ow Q P PX gd h q qx => ?_⟩
  refine so σ H A ρ ow _ _ gd h fun i k e rb w H1 h1 s1 p1 => ?_
  refine sa σ H1 A ρ ow _ _ (gd.same s1) h1 fun zs vs H2 hn hz s2 pr => ?_
  show spOf X.K (m + 1) (true :: ms) c ((w :: vs) ++ []) H2 Q E
  rw [List.append_nil]
  obtain ⟨hfl, hc⟩ := hz
  obtain ⟨fp, rz, _, _⟩ := pr
  have s12 := s1.trans s2
  have g2 := gd.same s12
  obtain ⟨fe, re, nde, hin, _, mtt⟩ := (p1.same s2).mut (fa := []) g2 (by simpa using gd.nd) fun a h => nomatch h
  refine ⟨by rw [List.length_cons, rz.len, hn], (.ow, e) :: zs, A, fe, _, _, ⟨w, vs, fe, [], rfl, (List.append_nil _).symm, re, rz.fls hfl⟩, by simpa using nde, fun a h => g2.dis a (hin a h), g2.tr, hc, fun z ys v H' fp' M' A' hz rt rv => ?_, fun C ys H' M' A' hx _ => hx.elim⟩
  obtain ⟨hk, hz⟩ := hz
  split at hz
  · rename_i e'
    have hmu := rt.muts
    have es : sel (true :: ms) (w :: vs) = w :: sel ms vs := rfl
    rw [es, sel_none hms] at hmu
    obtain ⟨w', ws, f1, f2, ew, ef, hr1, e1, e2⟩ := hmu
    cases ew
    subst e2
    rw [List.append_nil] at ef
    subst ef
    obtain ⟨ow', st', g', o'⟩ := mtt e' .ow fp' z v H' M' rt.stp.same hr1 (.inl rfl) (VR.own_any rv hk) rt.nd fun a h => (rt.stp.own a h).imp id .inr
    exact q z _ v H' fp' ow' A hz ((Stp.of_same s12).trans (st'.sub fun a h => h)) g' o'
  · exact hz.elim
end
end
end DL

/-! DL42: slices of lists of flat items that stand in another's data. -/
namespace DL
open PySem PySem.Spec PyProof PyProof.Rows L2
noncomputable section
def pSlF (f : PF) (g h : POF) : PF := fun ρ P => f ρ fun z => g ρ fun lo => h ρ fun hi => match z with
  | (_, .lst ds) => (cutD ds lo hi).all D.flat1 = true ∧ P (.sh, .lst (cutD ds lo hi))
  | _ => False
section
variable {X : Cx} {pos : Pos} {a : Expr} {fa : PF}
theorem dp_slF {lo hi : Option Expr} {g h : POF} {p2 : Pos} (ha : DP X a fa) (hl : DO X lo g) (hh : DO X hi h) : DP X (.Subscript a (.Slice lo hi none p2) pos) (pSlF fa g h) := by
  obtain ⟨ta, ea, sa⟩ := ha.run
  obtain ⟨tl, el, sl⟩ := hl.run
  obtain ⟨th, eh, sh⟩ := hh.run
  refine ⟨_, pe_slice (r := rSlAll X.K) (SlR.or sl_list sl_tupA) ea el eh, fun σ H A ρ ow Q P gd hf q => ?_⟩
  refine sa σ H A ρ ow _ _ gd hf fun z v H1 hz s1 p1 => ?_
  refine sl σ H1 A ρ ow _ _ (gd.same s1) hz fun l H2 hl s2 => ?_
  refine sh σ H2 A ρ ow _ _ (gd.same (s1.trans s2)) hl fun u H3 hu s3 => ?_
  obtain ⟨k, d⟩ := z
  have p3 := (p1.same s2).same s3
  have s : Same H H3 := (s1.trans s2).trans s3
  cases d with
  | lst ds =>
    obtain ⟨p, vs, e, t, r⟩ := p3.lstT
    obtain ⟨hc, hu⟩ := hu
    refine .inl ⟨p, vs, e, .of t, fun pp hp => ?_⟩
    exact q _ _ _ hu (s.trans (same_upd hp)) (pr_lst (k := .fl) (RAs.no_flat (RAs.elor (B := BB A ow) (F := Fre H) (r.cut l u)) hc) hp (s.fre pp hp))
  | _ => exact hu.elim
end
end
end DL

/-! DL43: one's own list of flat items only read for a while. -/
namespace DL
open PySem PySem.Spec PyProof PyProof.Rows L2
noncomputable section
def vsBack (i : Nat) (d : D) (ρ : Ro) (P : Ro → Prop) : Prop := P ((cln ρ).set i (some (.sh, d)))
/-- what i holds is only read in this statement -/
def sVs (i : Nat) (f : SF) : SF := fun D ρ => match ρ[i]? with
  | some (some (.sh, d)) => f
    { nx := fun ρ' => vsBack i d ρ' D.nx
      rt := fun z ρ' => ownK z.1 = true ∧ vsBack i d ρ' (D.rt z)
      ex := fun C ρ' => vsBack i d ρ' (D.ex C) } (ρ.set i (some (.sa, d)))
  | _ => False
theorem vs_in {K : Frg} {A : Addr → Prop} {H : Hp} {ρ : Ro} {σ : L2.St} {ow : List Addr} {i : Nat} {d : D} (gd : Good K A H ρ σ ow) (e : ρ[i]? = some (some (.sh, d))) :
    ∃ A1 ow1, Good K A1 H (ρ.set i (some (.sa, d))) σ ow1 ∧ ∀ (σ' : L2.St) (H' : Hp) (fz ow' : List Addr) (A' : Addr → Prop) (ρ' : Ro) (z : KD) (zv : V), Stp H ow1 A1 H' (fz ++ ow') A' → Good K A' H' ρ' σ' ow' → Own K A' H' z zv fz ow' → ownK z.1 = true → σ'[i]? = σ[i]? →
      ∃ A2 ow2, Good K A2 H' ((cln ρ').set i (some (.sh, d))) σ' ow2 ∧ Stp H ow A H' (fz ++ ow2) A2 ∧ Own K A2 H' z zv fz ow2 := by
  obtain ⟨v, fs, ow0, hv, g0, o0, sub⟩ := gd.move e
  obtain ⟨n1, n2, n3⟩ := List.nodup_append.mp o0.nd
  have trk : ∀ a ∈ fs, ∃ o, H a = some o := fun a h => let ⟨o, e, _⟩ := gd.rep.mu a (sub a (by simp [h])); ⟨o, e⟩
  have g1 : Good K (fun a => A a ∨ a ∈ fs) H (ρ.set i none) σ ow0 := ⟨g0.rep.mono fun _ h => .inl h, g0.nd, fun a h z => by
    rcases z with z | z
    · exact g0.dis a h z
    · exact n3 a z a h rfl, fun a h => by
    rcases h with h | h
    · exact g0.tr a h
    · exact trk a h⟩
  have o1 : Own K (fun a => A a ∨ a ∈ fs) H (.sa, d) v [] ow0 := ⟨o0.rep.view (fun a h => .inl h) fun a h => .inr h, by simpa using g0.nd, fun a h => nomatch h⟩
  obtain ⟨ow1, g2, sub1⟩ := g1.put (i := i) o1
  have es : σ.set i (some v) = σ := set_same hv
  rw [es, List.set_set] at g2
  have in1 : ∀ a ∈ ow1, a ∈ ow0 := fun a h => (sub1 a h).elim id fun z => nomatch z
  refine ⟨_, ow1, g2, fun σ' H' fz ow' A' ρ' z zv st g' oz hk hi => ?_⟩
  have far : ∀ a ∈ fs, a ∉ fz ++ ow' := fun a h z => by
    rcases st.own a z with y | y
    · exact n3 a h a (in1 a y) rfl
    · obtain ⟨o, e⟩ := trk a h
      rw [y] at e; cases e
  have kp : KeepF A fs H H' := fun a o ea h => st.same a o ea fun z => by
    rcases h with h | h | h
    · exact n3 a h a (in1 a z) rfl
    · exact gd.dis a (sub a (by simp [in1 a z])) h
    · obtain ⟨u, e', m⟩ := g2.rep.mu a z
      rw [ea] at e'; cases e'
      exact m.notImm h
  have g3 : Good K (fun a => A' a ∧ a ∉ fs) H' (cln ρ') σ' ow' := ⟨cln_rep g'.rep, g'.nd, fun a h y => g'.dis a h y.1, fun a h => g'.tr a h.1⟩
  have o3 : Own K (fun a => A' a ∧ a ∉ fs) H' (.sh, d) v fs ow' := ⟨VR.own_any (o0.rep.keep kp) rfl, List.nodup_append.mpr ⟨n1, g'.nd, fun a ha b hb e => far a ha (by rw [e]; simp [hb])⟩, fun a h y => y.2 h⟩
  obtain ⟨ow2, g4, sub4⟩ := g3.put (i := i) o3
  have es2 : σ'.set i (some v) = σ' := set_same (by rw [hi]; exact hv)
  rw [es2] at g4
  obtain ⟨z1, z2, z3⟩ := List.nodup_append.mp oz.nd
  refine ⟨_, ow2, g4, ⟨fun a o ea h => st.same a o ea fun y => h (sub a (by simp [in1 a y])), fun a h => ?_, fun a h => ⟨st.up a (.inl h), fun y => gd.dis a (sub a (by simp [y])) h⟩, fun a h => ?_⟩, ⟨VR.own_any oz.rep hk, List.nodup_append.mpr ⟨z1, g4.nd, fun a ha b hb e => ?_⟩, fun a h y => oz.dis a h y.1⟩⟩
  · have up : a ∈ fz ++ ow' → a ∈ ow ∨ H a = none := fun h => (st.own a h).imp (fun y => sub a (by simp [in1 a y])) id
    rcases List.mem_append.mp h with h | h
    · exact up (by simp [h])
    · rcases sub4 a h with h | h
      · exact up (by simp [h])
      · exact .inl (sub a (by simp [h]))
  · rcases st.fr a h.1 with y | y | y
    · exact .inl (y.resolve_right h.2)
    · exact .inr (.inl (sub a (by simp [in1 a y])))
    · exact .inr (.inr y)
  · subst e
    rcases sub4 a hb with h | h
    · exact z3 a ha a h rfl
    · exact far a h (by simp [ha])
section
variable {X : Cx} {E : XK} {pr : List Nat} {st : Stmt} {f : SF}
theorem ds_vs (i : Nat) (h : DS X E (i :: pr) st f) : DS X E pr st (sVs i f) := by
  obtain ⟨t, a, s⟩ := h.run
  refine ⟨t, a, fun σ H A ρ ow T D gd h nx rt ex => ?_⟩
  unfold sVs at h
  split at h
  · rename_i d e
    obtain ⟨A1, ow1, g1, back⟩ := vs_in gd e
    refine s σ H A1 _ ow1 T _ g1 h (fun ρ' σ' H' ow' A' hb st g p => ?_) (fun z ρ' v σ' H' fp ow' A' hb st g oz p => ?_) fun C ρ' σ' H' ow' A' hb st g p => ?_
    · obtain ⟨A2, ow2, g2, st2, _⟩ := back σ' H' [] ow' A' ρ' (.fl, .non) .non st g ⟨⟨rfl, rfl⟩, g.nd, fun a h => nomatch h⟩ rfl (p i (by simp))
      exact nx _ σ' H' ow2 A2 hb st2 g2 fun j hj => p j (by simp [hj])
    · obtain ⟨hk, hb⟩ := hb
      obtain ⟨A2, ow2, g2, st2, oz2⟩ := back σ' H' fp ow' A' ρ' z v st g oz hk (p i (by simp))
      exact rt z _ v σ' H' fp ow2 A2 hb st2 g2 oz2 fun j hj => p j (by simp [hj])
    · obtain ⟨A2, ow2, g2, st2, _⟩ := back σ' H' [] ow' A' ρ' (.fl, .non) .non st g ⟨⟨rfl, rfl⟩, g.nd, fun a h => nomatch h⟩ rfl (p i (by simp))
      exact ex C _ σ' H' ow2 A2 hb st2 g2 fun j hj => p j (by simp [hj])
  · exact h.elim
end
end
end DL

/-! DL44: tuples of numbers told by their numbers (.key: tracked, .tpx: its object known), tuple.index, max and min of tuples. -/
namespace DL
open PySem PySem.Spec PyProof PyProof.Rows L2
noncomputable section
/-- as a plain tuple -/
def D.wk : D → D
  | .key ns => .tup (ns.map .int)
  | .tpx ns => .tup (ns.map .int)
  | d => d
section
variable {K : Frg} {A B F : Addr → Prop} {H : Hp}
theorem RA.wk {d : D} {v : V} (h : RA K A H d v) : RA K A H d.wk v := by
  cases d with
  | key ns =>
    obtain ⟨p, e, t⟩ := h
    exact ⟨p, _, e, .inl (.inl t), RAs.of_ints _⟩
  | tpx ns =>
    obtain ⟨p, o, e, t, _⟩ := h
    exact ⟨p, _, e, .inl (.inr ⟨o, t⟩), RAs.of_ints _⟩
  | _ => exact h
theorem VR.wk {k : Kd} {d : D} {v : V} {f : List Addr} (h : VR K A H (k, d) v f) : VR K A H (k, d.wk) v f := by
  cases d with
  | key ns =>
    cases k with
    | fl => exact ⟨h.1, RA.wk h.2⟩
    | rd => exact ⟨h.1, RA.wk h.2⟩
    | sa => exact h.2.2.elim
    | sh => exact h.2.elim
    | ow => obtain ⟨e, h⟩ := h; subst e; exact R.of0 _ _ (RA.wk h)
  | tpx ns =>
    cases k with
    | fl => exact ⟨h.1, RA.wk h.2⟩
    | rd => exact ⟨h.1, RA.wk h.2⟩
    | sa => exact h.2.2.elim
    | sh => exact h.2.elim
    | ow => obtain ⟨e, h⟩ := h; subst e; exact R.of0 _ _ (RA.wk h)
  | _ => exact h
theorem PR.wk {z : KD} {v : V} (h : PR K B F H v z) : PR K B F H v (z.1, z.2.wk) := let ⟨fp, a, b, c⟩ := h; ⟨fp, VR.wk a, b, c⟩
end
def pWk (f : PF) : PF := fun ρ P => f ρ fun z => P (z.1, z.2.wk)
theorem dp_wk {X : Cx} {e : Expr} {f : PF} (h : DP X e f) : DP X e (pWk f) := by
  obtain ⟨t, a, s⟩ := h.run
  exact ⟨t, a, fun σ H A ρ ow Q P g h q => s σ H A ρ ow Q (fun z => P (z.1, z.2.wk)) g h fun z v H1 hz s1 p1 => q _ v H1 hz s1 p1.wk⟩

/-! tuple(a list of numbers), told by its numbers -/
def oTupleK : List KD → (KD → Prop) → Prop := fun zs P => match zs with
  | [(_, .lst ds)] => ∃ ns : List Int, ds = ns.map .int ∧ P (.fl, .key ns)
  | _ => False
def oTupleX : List KD → (KD → Prop) → Prop := fun zs P => match zs with
  | [(_, .lst ds)] => ∃ ns : List Int, ds = ns.map .int ∧ P (.fl, .tpx ns)
  | _ => False
theorem cs_tupleK {K : Frg} : CallS K (fun xs H Q => ∃ p ys, xs = [.ref p] ∧ ((SqL K H p ys ∧ ∀ l, H l = none → Q (.ref l) (upd H l (.tup ys))) ∨ (SqT K H p ys ∧ Q (.ref p) H))) oTupleK := by
  intro B F H vs xs P Q pr hF h q
  unfold oTupleK at h
  split at h
  · rename_i k ds
    obtain ⟨ns, rfl, hP⟩ := h
    obtain ⟨v, ev, p⟩ := pr.get1
    obtain ⟨a, ea, t⟩ := pr_ints p
    subst ev ea
    exact ⟨a, _, rfl, .inl ⟨t, fun l hl => q _ _ _ hP (same_upd hl) (.fl ⟨l, rfl, upd_same⟩)⟩⟩
  · exact h.elim
def rTupX (K : Frg) : List V → Hp → VK → Prop := fun xs H Q => ∃ p ys, xs = [.ref p] ∧ SqL K H p ys ∧ ∀ l o, o.dict = none → H l = none → Q (.ref l) (upd H l (.frz o (.tup ys)))
theorem call_tuple_ofX {X : Cx} : CallR X (.type "tuple") (rTupX X.K) := by
  intro pins s σ H xs us Q I r h
  obtain ⟨p, ys, rfl, hq, q⟩ := h
  obtain ⟨u, rfl, rx⟩ := vals1 r
  cases rx
  obtain ⟨its, r', pl, hz⟩ := I.list hq
  have hlen := r'.length
  refine call_tuple_list pl.isList (fun h' kp => ?_) (by simp only [List.size_toArray] <;> omega)
  have I1 : Inv X pins σ H { s with heap := h' } := I.kept (t' := s.toks) kp
  have I2 : Inv X pins σ (upd H h'.objs.size (.frz { cls := .type "tuple", data := .seq its.toArray } (.tup ys))) { s with heap := h'.push { cls := .type "tuple", data := .seq its.toArray } } :=
    I1.laid (t' := s.toks) (fun b o e => Heap.get?_push_of_some _ e) (Nat.le_refl _) (show ObjOk X.prog X.w _ _ _ (.frz _ (.tup ys)) from ⟨Heap.get?_push_size _ rfl, hz, its, r', IsTup.new _ _⟩)
  exact ⟨.ref h'.objs.size, _, I2, rfl, q _ _ rfl (I1.hok.fresh (Nat.le_refl _))⟩
theorem cs_tupleX {K : Frg} : CallS K (rTupX K) oTupleX := by
  intro B F H vs xs P Q pr hF h q
  unfold oTupleX at h
  split at h
  · rename_i k ds
    obtain ⟨ns, rfl, hP⟩ := h
    obtain ⟨v, ev, p⟩ := pr.get1
    obtain ⟨a, ea, t⟩ := pr_ints p
    subst ev ea
    exact ⟨a, _, rfl, t, fun l o ho hl => q _ _ _ hP (same_upd hl) (.fl ⟨l, o, rfl, upd_same, ho⟩)⟩
  · exact h.elim

/-! t.index(x) -/
def rIndexT (K : Frg) : V → List V → Hp → VK → Prop := fun x xs H Q => ∃ (a : Addr) (ns : List Int) (i : Int), x = V.ref a ∧ xs = [V.int i] ∧ SqT K H a (ns.map V.int) ∧ i ∈ ns ∧ Q (.int (ns.idxOf i : Nat)) H
theorem mt_indexT {X : Cx} : MtR X "tuple.index" (rIndexT X.K) := by
  intro pins s σ H x xs v us Q I rx rxs h
  obtain ⟨a, ns, i, rfl, rfl, hs, hi, q⟩ := h
  cases rx
  obtain ⟨u, rfl, ru⟩ := vals1 rxs
  obtain ⟨t, rfl⟩ := ru
  obtain ⟨its, rv, hl, _⟩ := I.tuple hs
  exact SeqAt.tuple_index_ints (show s.heap.IsTuple a its.toArray from hl) rv.ints hi ⟨.int _, H, I.tok _, ⟨_, rfl⟩, q⟩
def pIndexT (fo fe : PF) : PF := fun ρ P => fo ρ fun x => (∃ ns, x.2 = .tpx ns) ∧ fe ρ fun y => ∃ ns i, x.2 = .tpx ns ∧ y.2 = .int i ∧ i ∈ ns ∧ P (.fl, .int (ns.idxOf i : Nat))
section
variable {X : Cx} {o e : Expr} {es : List Expr} {to : TE} {t : TA} {name : Str} {apos cpos : Pos} {id : String} {r : V → List V → Hp → VK → Prop}
def tBMT (r : V → List V → Hp → VK → Prop) (to : TE) (t : TA) : TE := fun σ H Q => to σ H fun x H1 => (∃ a ob us, x = .ref a ∧ H1 a = some (.frz ob (.tup us)) ∧ ob.dict = none) ∧ t σ H1 fun xs H2 => r x xs H2 Q
theorem pe_bmT (ho : PE X o to) (ha : PA X (e :: es) t)
    (hbase : attributeBase o "index" X.env (eval o X.env) = eval o X.env := by rfl)
    (hfew : ((backTo cpos (starEach (e :: es) X.env)).all (fun x => !x.1) && (backToKw cpos (keywordEach [] X.env)).all (fun x => x.1.isSome)
      && decide ((e :: es).length + ([] : List Keyword).length + (if ([] : List Keyword).isEmpty then 0 else 1) < 30)) = true := by rfl)
    (hline : (apos.endLine == cpos.line) = true := by rfl) (hs : starEach (e :: es) X.env = (false, eval e X.env) :: starEach es X.env := by rfl) (hplain : (backTo cpos (starEach es X.env)).any (·.1) = false := by rfl) :
    PE X (.Call (.Attribute o "index" apos) (e :: es) [] cpos) (tBMT (rIndexT X.K) to t) := by
  refine ⟨fun pins s σ H Q I h => ?_⟩
  refine wpAny_Call_method_late hbase hfew hline rfl (thn (ho.run pins s σ H _ I h) fun v s1 ⟨x, H1, I1, r1, ⟨a, ob, ws, ex, hx, hd⟩, q1⟩ => ?_)
  subst ex
  have hv : v = Value.ref a := r1
  subst hv
  have hob : s1.heap.get? a = some ob := (I1.hok a _ hx).1
  have hc : ob.cls = .type "tuple" := by
    obtain ⟨_, _, _, _, o', ho', hc', _⟩ := I1.hok a _ hx
    rw [hob] at ho'; cases ho'
    exact hc'
  refine ⟨"tuple", "tuple.index", PySem.F.plainAttrs_tuple, PySem.F.slot_tuple_index, PySem.F.type_tuple_index, ⟨ob, hob, hc⟩, fun b e => by cases e; exact ⟨ob, hob, hd⟩, ?_⟩
  have hA := ha.run cpos pins s1 σ H1 _ I1 q1
  rw [hs] at hA ⊢
  refine Calls.callWith_builtin (by show (false || (backTo cpos (starEach es X.env)).any (·.1)) = false; rw [hplain] <;> rfl) (Calls.evalArgs_plain ?_)
  exact thn hA fun us s2 ⟨vs, H2, I2, r2, q2⟩ => mt_indexT pins s2 σ H2 (.ref a) vs (.ref a) us Q I2 rfl r2 q2
theorem dp_indexT {fo fe : PF} (ho : DP X o fo) (he : DP X e fe)
    (hbase : attributeBase o "index" X.env (eval o X.env) = eval o X.env := by rfl)
    (hfew : ((backTo cpos (starEach [e] X.env)).all (fun x => !x.1) && (backToKw cpos (keywordEach [] X.env)).all (fun x => x.1.isSome)
      && decide ([e].length + ([] : List Keyword).length + (if ([] : List Keyword).isEmpty then 0 else 1) < 30)) = true := by rfl)
    (hline : (apos.endLine == cpos.line) = true := by rfl) (hst : starEach [e] X.env = (false, eval e X.env) :: starEach [] X.env := by rfl) (hplain : (backTo cpos (starEach [] X.env)).any (·.1) = false := by rfl) :
    DP X (.Call (.Attribute o "index" apos) [e] [] cpos) (pIndexT fo fe) := by
  obtain ⟨to, eo, so⟩ := ho.run
  obtain ⟨te, ee, se⟩ := he.run
  refine ⟨_, pe_bmT eo (pa_cons ee pa_nil hst) hbase hfew hline hst hplain, fun σ H A ρ ow Q P g h q => ?_⟩
  refine so σ H A ρ ow _ _ g h fun x v H1 hx s1 p1 => ?_
  obtain ⟨⟨ns, ex⟩, hx⟩ := hx
  have ra := p1.ra
  rw [ex] at ra
  obtain ⟨p, ob, rfl, hp, hd⟩ := ra
  refine ⟨⟨p, ob, _, rfl, hp, hd⟩, ?_⟩
  refine se σ H1 A ρ ow _ _ (g.same s1) hx fun y w H2 hy s2 p2 => ?_
  obtain ⟨ns', i, e1, e2, hi, hP⟩ := hy
  rw [ex] at e1
  cases e1
  have r2 := p2.ra
  rw [e2] at r2
  obtain rfl : w = .int i := r2
  exact ⟨p, ns, i, rfl, rfl, .inl (.inr ⟨ob, s2 p _ hp⟩), hi, q _ _ H2 hP (s1.trans s2) .int⟩
end

/-! max, min of a tuple of numbers -/
section
variable {prog : Program} {w : World} {A : Around} {E : Value → Shared → Prop} {s : Shared} {l : Addr} {xs : Array (Int × Tok)} {its : List Value} {ns : List Int} {Q : Value → Shared → Prop}
theorem iter_intTup (hl : s.heap.IsTuple l (intItems xs))
    (h : ∀ s₂ : Shared, s₂ = { s with heap := s.heap.push { cls := .type "tuple_iterator", data := .fields #[.ref l, .int 0 0] } } →
      (s₂.heap.IsTupleIter s.heap.objs.size l 0 ∧ s₂.heap.IsTuple l (intItems xs)) → (∀ b ∈ [s.heap.objs.size, l], b < s₂.heap.objs.size) → l ≠ s.heap.objs.size → Q (.ref s.heap.objs.size) s₂) :
    wpAny (model prog w) A (pyIter (.ref l)) Q E s := by
  have hlt : l < s.heap.objs.size := by obtain ⟨_, e, _⟩ := hl; exact Heap.lt_size e
  refine wpAny_pyIter_tuple hl (h _ rfl ⟨⟨_, Heap.get?_push_size _ rfl, rfl, rfl⟩, hl.push _⟩ (fun b hb => ?_) (Nat.ne_of_lt hlt))
  show b < (s.heap.push _).objs.size
  rw [Heap.size_push]
  rcases List.mem_cons.mp hb with rfl | hb
  · exact Nat.lt_succ_self _
  · rcases List.mem_cons.mp hb with rfl | hb
    · exact Nat.lt_succ_of_lt hlt
    · cases hb
theorem oldT {h' : Heap} (hk : ∀ b o, b ∉ [s.heap.objs.size] → (s.heap.push { cls := .type "tuple_iterator", data := .fields #[.ref l, .int 0 0] }).get? b = some o → h'.get? b = some o) :
    ∀ b o, s.heap.get? b = some o → h'.get? b = some o := fun b o e => by
  refine hk b o (fun hm => ?_) (Heap.get?_push_of_some _ e)
  rcases List.mem_cons.mp hm with e1 | hm
  · exact absurd (e1 ▸ Heap.lt_size e) (Nat.lt_irrefl _)
  · cases hm
theorem max_rawT (hh : A.handled = none) (hl : s.heap.IsTuple l its.toArray) (hi : IntsAre its ns) (hne : 0 < ns.length)
    (h : ∀ h' tk M t', (∀ b o, s.heap.get? b = some o → h'.get? b = some o) → M ∈ ns → (∀ a, a ∈ ns → a ≤ M) → Q (.int M t') { s with heap := h', toks := tk }) : wpAny (model prog w) A (call (.builtin "max") [.ref l]) Q E s := by
  obtain ⟨xs, e⟩ := hi.allInts.items
  have hn : numsOf (intItems xs).toList = ns := by rw [← e]; exact hi.numsOf
  rw [nums_intItems] at hn
  subst hn
  rw [e] at hl
  have hsz : 0 < xs.size := by simpa using hne
  refine call_max_walk (iter_intTup hl fun s₂ e st hfp hlI => ?_)
  subst e
  refine ⟨_, _, _, _, _, _, _, rfl, Walks.tuple (A := A.in1) hh _ l hlI (intItems xs), st, hfp, by simpa [intItems] using hsz, CmpOf.ints_gt (numAt xs) (fun _ _ => intItems_at), fun v h' tk hP hk => ?_⟩
  have hv : (intItems xs)[argBest (fun i j => decide (numAt xs i > numAt xs j)) (xs.size - 1)]? = some v := by simpa [intItems] using hP
  obtain ⟨t, rfl⟩ := intItems_at hv
  obtain ⟨h1, h2⟩ := argBest_gt (numAt xs) (xs.size - 1)
  refine h h' tk _ t (oldT hk) ?_ fun a ha => ?_
  · rw [numAt_eq]; exact PySem.getD_mem (by rw [List.length_map, Array.length_toList]; omega)
  · obtain ⟨j, hj, rfl⟩ := mem_getD ha
    rw [List.length_map, Array.length_toList] at hj
    rw [← numAt_eq]; exact h2 j (by omega)
theorem min_rawT (hh : A.handled = none) (hl : s.heap.IsTuple l its.toArray) (hi : IntsAre its ns) (hne : 0 < ns.length)
    (h : ∀ h' tk M t', (∀ b o, s.heap.get? b = some o → h'.get? b = some o) → M ∈ ns → (∀ a, a ∈ ns → M ≤ a) → Q (.int M t') { s with heap := h', toks := tk }) : wpAny (model prog w) A (call (.builtin "min") [.ref l]) Q E s := by
  obtain ⟨xs, e⟩ := hi.allInts.items
  have hn : numsOf (intItems xs).toList = ns := by rw [← e]; exact hi.numsOf
  rw [nums_intItems] at hn
  subst hn
  rw [e] at hl
  have hsz : 0 < xs.size := by simpa using hne
  refine call_min_walk (iter_intTup hl fun s₂ e st hfp hlI => ?_)
  subst e
  refine ⟨_, _, _, _, _, _, _, rfl, Walks.tuple (A := A.in1) hh _ l hlI (intItems xs), st, hfp, by simpa [intItems] using hsz, CmpOf.ints_lt (numAt xs) (fun _ _ => intItems_at), fun v h' tk hP hk => ?_⟩
  have hv : (intItems xs)[argBest (fun i j => decide (numAt xs i < numAt xs j)) (xs.size - 1)]? = some v := by simpa [intItems] using hP
  obtain ⟨t, rfl⟩ := intItems_at hv
  obtain ⟨h1, h2⟩ := argBest_lt (numAt xs) (xs.size - 1)
  refine h h' tk _ t (oldT hk) ?_ fun a ha => ?_
  · rw [numAt_eq]; exact PySem.getD_mem (by rw [List.length_map, Array.length_toList]; omega)
  · obtain ⟨j, hj, rfl⟩ := mem_getD ha
    rw [List.length_map, Array.length_toList] at hj
    rw [← numAt_eq]; exact h2 j (by omega)
end
def rMaxT (K : Frg) : List V → Hp → VK → Prop := fun vs H Q => ∃ (a : Addr) (ns : List Int), vs = [V.ref a] ∧ SqT K H a (ns.map V.int) ∧ 0 < ns.length ∧ ∀ m, m ∈ ns → (∀ y, y ∈ ns → y ≤ m) → Q (.int m) H
def rMinT (K : Frg) : List V → Hp → VK → Prop := fun vs H Q => ∃ (a : Addr) (ns : List Int), vs = [V.ref a] ∧ SqT K H a (ns.map V.int) ∧ 0 < ns.length ∧ ∀ m, m ∈ ns → (∀ y, y ∈ ns → m ≤ y) → Q (.int m) H
theorem cr_maxT {X : Cx} (hc : X.calm = true) : CallR X (.builtin "max") (rMaxT X.K) := by
  intro pins s σ H vs us Q I r h
  obtain ⟨a, ns, rfl, hs, hne, q⟩ := h
  obtain ⟨its, rv, hl, _⟩ := I.tuple hs
  rw [Vals.ref1 r]
  exact max_rawT (I.ok.hd hc) hl rv.ints hne fun h' tk m t' hk h1 h2 => ⟨.int _, H, I.kept hk, ⟨_, rfl⟩, q m h1 h2⟩
theorem cr_minT {X : Cx} (hc : X.calm = true) : CallR X (.builtin "min") (rMinT X.K) := by
  intro pins s σ H vs us Q I r h
  obtain ⟨a, ns, rfl, hs, hne, q⟩ := h
  obtain ⟨its, rv, hl, _⟩ := I.tuple hs
  rw [Vals.ref1 r]
  exact min_rawT (I.ok.hd hc) hl rv.ints hne fun h' tk m t' hk h1 h2 => ⟨.int _, H, I.kept hk, ⟨_, rfl⟩, q m h1 h2⟩
def oMaxT : List KD → (KD → Prop) → Prop := fun zs P => match zs with
  | [(_, .tup ds)] => ∃ ns : List Int, ds = ns.map .int ∧ 0 < ns.length ∧ ∀ m, m ∈ ns → (∀ y, y ∈ ns → y ≤ m) → P (.fl, .int m)
  | _ => False
def oMinT : List KD → (KD → Prop) → Prop := fun zs P => match zs with
  | [(_, .tup ds)] => ∃ ns : List Int, ds = ns.map .int ∧ 0 < ns.length ∧ ∀ m, m ∈ ns → (∀ y, y ∈ ns → m ≤ y) → P (.fl, .int m)
  | _ => False
theorem pr_intsT {K : Frg} {B F : Addr → Prop} {H : Hp} {k : Kd} {ns : List Int} {v : V} (p : PR K B F H v (k, .tup (ns.map .int))) : ∃ a, v = .ref a ∧ SqT K H a (ns.map V.int) := by
  obtain ⟨a, us, ea, t, r⟩ := p.tupT
  rw [RAs.ints r.elor] at t
  exact ⟨a, ea, t⟩
theorem cs_maxT {K : Frg} : CallS K (rMaxT K) oMaxT := by
  intro B F H vs xs P Q pr hF h q
  unfold oMaxT at h
  split at h
  · rename_i k ds
    obtain ⟨ns, rfl, hl, hP⟩ := h
    obtain ⟨v, ev, p⟩ := pr.get1
    obtain ⟨a, ea, t⟩ := pr_intsT p
    subst ev ea
    exact ⟨a, ns, rfl, t, hl, fun m h1 h2 => q _ _ H (hP m h1 h2) (Same.refl H) .int⟩
  · exact h.elim
theorem cs_minT {K : Frg} : CallS K (rMinT K) oMinT := by
  intro B F H vs xs P Q pr hF h q
  unfold oMinT at h
  split at h
  · rename_i k ds
    obtain ⟨ns, rfl, hl, hP⟩ := h
    obtain ⟨v, ev, p⟩ := pr.get1
    obtain ⟨a, ea, t⟩ := pr_intsT p
    subst ev ea
    exact ⟨a, ns, rfl, t, hl, fun m h1 h2 => q _ _ H (hP m h1 h2) (Same.refl H) .int⟩
  · exact h.elim
end
end DL

/-! DL45: dicts whose keys are tuples of numbers, their values numbers: made, read, stored to, locked and walked. -/
namespace DL
open PySem PySem.Spec PyProof PyProof.Rows L2
noncomputable section
abbrev TD := List (List Int × Int)
abbrev lowK (k : List Int) : List Key := k.map Sum.inl
def lowT (kvs : TD) : List (List Key × V) := kvs.map fun x => (lowK x.1, V.int x.2)
def dtD (kvs : TD) : D := .dcT (kvs.map fun x => lowK x.1) (kvs.map fun x => .int x.2)
def look (kvs : TD) (k : List Int) : Option Int := (kvs.find? fun x => decide (x.1 = k)).map (·.2)
def putI (kvs : TD) (k : List Int) (i : Int) : TD := if (kvs.any fun x => decide (x.1 = k)) = true then kvs.map (fun x => if x.1 = k then (x.1, i) else x) else kvs ++ [(k, i)]
theorem lowK_inj {a b : List Int} : (lowK a = lowK b) ↔ a = b := List.map_inj_right fun _ _ z => Sum.inl.inj z
theorem lowK_kV (a : List Int) : (lowK a).map kV = a.map V.int := by rw [List.map_map]; rfl
theorem valV_lowT (k : List Int) : ∀ kvs : TD, valV (lowT kvs) (lowK k) = (look kvs k).map V.int
  | [] => rfl
  | x :: kvs => by
    by_cases e : x.1 = k
    · have h1 : look (x :: kvs) k = some x.2 := by unfold look; rw [List.find?_cons, decide_eq_true e]; rfl
      rw [h1]
      exact valV_pos (p := (lowK x.1, V.int x.2)) (lowK_inj.mpr e)
    · have h1 : look (x :: kvs) k = look kvs k := by unfold look; rw [List.find?_cons, decide_eq_false e]
      rw [h1, ← valV_lowT k kvs]
      exact valV_neg (p := (lowK x.1, V.int x.2)) fun z => e (lowK_inj.mp z)
theorem putK_lowT (kvs : TD) (k : List Int) (i : Int) : putK (lowT kvs) (lowK k) (V.int i) = lowT (putI kvs k i) := by
  have e : ((lowT kvs).any fun kv => decide (kv.1 = lowK k)) = (kvs.any fun x => decide (x.1 = k)) := by
    unfold lowT
    rw [List.any_map]
    congr 1
    funext x
    exact decide_eq_decide.mpr lowK_inj
  unfold putK putI
  rw [e]
  by_cases c : (kvs.any fun x => decide (x.1 = k)) = true
  · rw [if_pos c, if_pos c]
    unfold lowT
    rw [List.map_map, List.map_map]
    refine List.map_congr_left fun x _ => ?_
    show (if lowK x.1 = lowK k then (lowK x.1, V.int i) else (lowK x.1, V.int x.2)) = (lowK (if x.1 = k then (x.1, i) else x).1, V.int (if x.1 = k then (x.1, i) else x).2)
    by_cases e : x.1 = k
    · rw [if_pos (lowK_inj.mpr e), if_pos e]
    · rw [if_neg (fun z => e (lowK_inj.mp z)), if_neg e]
  · rw [if_neg c, if_neg c]
    unfold lowT
    rw [List.map_append]; rfl
theorem low_eq {kvs : TD} : ∀ {kv2 : List (List Key × V)}, kv2.map (·.1) = (kvs.map fun x => lowK x.1) → kv2.map (·.2) = (kvs.map fun x => V.int x.2) → kv2 = lowT kvs := by
  induction kvs with
  | nil => intro kv2 h _; exact List.map_eq_nil_iff.mp h
  | cons x kvs ih =>
    intro kv2 h1 h2
    cases kv2 with
    | nil => cases h1
    | cons y r =>
      obtain ⟨a, b⟩ := y
      rw [List.map_cons, List.map_cons] at h1 h2
      have a1 := (List.cons.inj h1).1
      have a2 := (List.cons.inj h2).1
      dsimp only at a1 a2
      rw [ih (List.cons.inj h1).2 (List.cons.inj h2).2, a1, a2]; rfl
theorem low_keys {kvs : TD} : (lowT kvs).map (·.1) = (kvs.map fun x => lowK x.1) := by unfold lowT; rw [List.map_map]; rfl
theorem low_vals {kvs : TD} : (lowT kvs).map (·.2) = (kvs.map fun x => V.int x.2) := by unfold lowT; rw [List.map_map]; rfl
theorem low_len {kvs : TD} : (lowT kvs).length = kvs.length := List.length_map ..
section
variable {K : Frg} {A B F : Addr → Prop} {H : Hp} {kvs : TD} {v : V} {fp : List Addr}
theorem RAs.intv : ∀ {kvs : TD} {vs : List V}, RAs K A H (kvs.map fun x => .int x.2) vs → vs = kvs.map fun x => V.int x.2
  | [], _, h => h
  | x :: kvs, _, ⟨w, ws, e, h, t⟩ => by
    have e1 : w = V.int x.2 := h
    rw [e, e1, RAs.intv (kvs := kvs) t]; rfl
theorem RAs.of_intv : ∀ {kvs : TD}, RAs K A H (kvs.map fun x => .int x.2) (kvs.map fun x => V.int x.2)
  | [] => rfl
  | x :: kvs => ⟨_, _, rfl, rfl, RAs.of_intv (kvs := kvs)⟩
theorem RA.dt (h : RA K A H (dtD kvs) v) : ∃ p, v = .ref p ∧ A p ∧ Rd H p (.dT (lowT kvs)) := by
  obtain ⟨p, k2, e, a, t, e1, r⟩ := h
  refine ⟨p, e, a, ?_⟩
  rw [← low_eq e1 (RAs.intv r)]; exact t
theorem R.dt (h : R K A H (dtD kvs) v fp) : ∃ p, v = .ref p ∧ fp = [p] ∧ H p = some (.dT (lowT kvs)) := by
  obtain ⟨p, k2, fps, e, e2, t, e1, r⟩ := h
  have z : RAs K (fun _ => True) H (kvs.map fun x => .int x.2) (k2.map (·.2)) := Rs.ra (fun _ _ => trivial) _ _ _ (fun _ _ => trivial) r
  have e3 : fps = [] := Rs.nil0 (K := K) (A := A) (H := H) (H' := H) _ fps ⟨_, RAs.of_intv⟩ ⟨_, r⟩
  subst e3
  exact ⟨p, e, e2, by rw [← low_eq e1 (RAs.intv z)]; exact t⟩
theorem R.of_dt {p : Addr} (h : H p = some (.dT (lowT kvs))) : R K A H (dtD kvs) (.ref p) [p] :=
  ⟨p, lowT kvs, [], rfl, rfl, h, low_keys, by rw [low_vals]; exact Rs.of0 _ _ RAs.of_intv⟩
end
/-- a dict, one's own or locked -/
def isT (d : D) (kvs : TD) : Prop := d = dtD kvs ∨ d = .lkT kvs
theorem RA.isT {K : Frg} {A : Addr → Prop} {H : Hp} {d : D} {kvs : TD} {v : V} (e : isT d kvs) (h : RA K A H d v) : ∃ p, v = .ref p ∧ Rd H p (.dT (lowT kvs)) := by
  rcases e with e | e
  · subst e
    obtain ⟨p, e, _, t⟩ := RA.dt h
    exact ⟨p, e, t⟩
  · subst e
    obtain ⟨p, o, e, t⟩ := h
    exact ⟨p, e, .inr ⟨o, t⟩⟩
/-! d[k], d.get(k, x) -/
def oGetK (x y : KD) (P : KD → Prop) : Prop := ∃ kvs ns i, isT x.2 kvs ∧ y.2 = .key ns ∧ look kvs ns = some i ∧ P (.fl, .int i)
@[irreducible] def xGetK (x y : KD) (P : KD → Prop) : Prop := hid (oGetK x y P)
theorem go_getK {x y : KD} {P : KD → Prop} {kvs : TD} {ns : List Int} {i : Int} (hx : isT x.2 kvs) (hy : y.2 = .key ns) (hi : look kvs ns = some i) (p : P (.fl, .int i)) : xGetK x y P := by
  unfold xGetK; rw [hid_eq]; exact ⟨kvs, ns, i, hx, hy, hi, p⟩
def pGetK (fo fk : PF) : PF := fun ρ P => fo ρ fun x => fk ρ fun y => xGetK x y P
def oIsT (x : KD) (P : TD → Prop) : Prop := ∃ kvs, isT x.2 kvs ∧ P kvs
@[irreducible] def xIsT (x : KD) (P : TD → Prop) : Prop := hid (oIsT x P)
theorem go_isT {x : KD} {P : TD → Prop} {kvs : TD} (hx : isT x.2 kvs) (p : P kvs) : xIsT x P := by
  unfold xIsT; rw [hid_eq]; exact ⟨kvs, hx, p⟩
def oGet2K (kvs : TD) (y z : KD) (P : KD → Prop) : Prop := ∃ ns j, y.2 = .key ns ∧ z.2 = .int j ∧ P (.fl, .int ((look kvs ns).getD j))
@[irreducible] def xGet2K (kvs : TD) (y z : KD) (P : KD → Prop) : Prop := hid (oGet2K kvs y z P)
theorem go_get2K {kvs : TD} {y z : KD} {P : KD → Prop} {ns : List Int} {j : Int} (hy : y.2 = .key ns) (hz : z.2 = .int j) (p : P (.fl, .int ((look kvs ns).getD j))) : xGet2K kvs y z P := by
  unfold xGet2K; rw [hid_eq]; exact ⟨ns, j, hy, hz, p⟩
def pGet2K (fo fk fx : PF) : PF := fun ρ P => fo ρ fun x => xIsT x fun kvs => fk ρ fun y => fx ρ fun z => xGet2K kvs y z P
section
variable {X : Cx} {pos ip : Pos}
theorem dgetT {H : Hp} {p b : Addr} {kvs : TD} {ns : List Int} (h : Rd H p (.dT (lowT kvs))) (hb : H b = some (.tup (ns.map V.int))) : DGet H p (.ref b) ((look kvs ns).map V.int) :=
  .inr ⟨lowT kvs, lowK ns, b, h, rfl, by rw [lowK_kV]; exact hb, (valV_lowT ns kvs).symm⟩
theorem dp_getK {o k : Expr} {fo fk : PF} (hu : X.A.units + 64 < cLine) (ho : DP X o fo) (hk : DP X k fk) (hs : NoSl k := by exact fun _ _ => rfl) : DP X (.Subscript o k pos) (pGetK fo fk) := by
  obtain ⟨t, ea, sa⟩ := ho.run
  obtain ⟨u, eb, sb⟩ := hk.run
  refine ⟨_, pe_dget (by omega) ea eb hs, fun σ H A ρ ow Q P g h q => ?_⟩
  refine sa σ H A ρ ow _ _ g h fun x v H1 hx s1 p1 => ?_
  refine sb σ H1 A ρ ow _ _ (g.same s1) hx fun y w H2 hy s2 p2 => ?_
  unfold xGetK at hy
  rw [hid_eq] at hy
  obtain ⟨kvs, ns, i, ex, ey, hi, hP⟩ := hy
  obtain ⟨p, rfl, t1⟩ := RA.isT ex p1.ra
  have r2 := p2.ra
  rw [ey] at r2
  obtain ⟨b, rfl, hb⟩ := r2
  refine ⟨p, .int i, rfl, ?_, q _ _ H2 hP (s1.trans s2) .int⟩
  have := dgetT (Rd.same s2 t1) hb
  rwa [hi] at this
theorem dp_get2K {o k d : Expr} {fo fk fx : PF} {apos cpos : Pos} (hu : X.A.units + 64 < cLine) (ho : DP X o fo) (hk : DP X k fk) (hd : DP X d fx) (m : M2 X o "get" apos k d cpos) : DP X (.Call (.Attribute o "get" apos) [k, d] [] cpos) (pGet2K fo fk fx) := by
  obtain ⟨t, ea, sa⟩ := ho.run
  obtain ⟨u, eb, sb⟩ := hk.run
  obtain ⟨w, ec, sc⟩ := hd.run
  refine ⟨_, pe_dget2 (by omega) ea eb ec m, fun σ H A ρ ow Q P g h q => ?_⟩
  refine sa σ H A ρ ow _ _ g h fun x v H1 hx s1 p1 => ?_
  unfold xIsT at hx
  rw [hid_eq] at hx
  obtain ⟨kvs, ex, hx⟩ := hx
  obtain ⟨p, rfl, t1⟩ := RA.isT ex p1.ra
  refine ⟨p, rfl, .inr ⟨_, t1⟩, ?_⟩
  refine sb σ H1 A ρ ow _ _ (g.same s1) hx fun y w H2 hy s2 p2 => ?_
  refine sc σ H2 A ρ ow _ _ (g.same (s1.trans s2)) hy fun z w3 H3 hz s3 p3 => ?_
  unfold xGet2K at hz
  rw [hid_eq] at hz
  obtain ⟨ns, j, ey, ez, hP⟩ := hz
  have r2 := p2.ra
  rw [ey] at r2
  obtain ⟨b, rfl, hb⟩ := r2
  have r3 := p3.ra
  rw [ez] at r3
  obtain rfl : w3 = .int j := r3
  refine ⟨_, dgetT (Rd.same (s2.trans s3) t1) (s3 b _ hb), ?_⟩
  have e : ((look kvs ns).map V.int).getD (.int j) = .int ((look kvs ns).getD j) := by cases look kvs ns <;> rfl
  rw [e]
  exact q _ _ H3 hP ((s1.trans s2).trans s3) .int
/-! made -/
def pDNewT : PF := fun _ P => P (.ow, dtD [])
theorem pr_dt {K : Frg} {B F : Addr → Prop} {H : Hp} {p : Addr} {kvs : TD} (h : H p = some (.dT (lowT kvs))) (hF : F p) : PR K B F H (.ref p) (.ow, dtD kvs) :=
  ⟨[p], R.of_dt h, by simp, fun a z => by rw [List.mem_singleton.mp z]; exact hF⟩
theorem dp_dnewT : DP X (.Dict [] [] pos) pDNewT :=
  ⟨_, pe_dnewT, fun σ H A ρ ow Q P g h q p hp => q _ _ _ h (same_upd hp) (pr_dt (kvs := []) upd_same hp)⟩
/-! {(): x} -/
def tDisp1 (tv : TE) : TE := fun σ H Q => ∀ p b, H p = none → (upd H p (.dT [])) b = none → tv σ (upd (upd H p (.dT [])) b (.tup [])) fun y H2 => H2 p = some (.dT []) ∧ H2 b = some (.tup []) ∧ Q (.ref p) (upd H2 p (.dT [([], y)]))
theorem pe_disp1 {v : Expr} {kk : Nat} {tp : Pos} {tv : TE} (hu : X.A.units + 64 < cLine) (hv : PE X v tv) : PE X (.Dict [some (.Tuple [] kk tp)] [v] pos) (tDisp1 tv) := by
  refine ⟨fun pins s σ H Q I q => ?_⟩
  have hroom : (tupleKind (mixKind X.prog X.w)).room X.A := by
    have : X.A.units < cLine := by omega
    exact this
  have hn := I.hok.fresh (Nat.le_refl s.heap.objs.size)
  have I1 := I.laid (a := s.heap.objs.size) (o := .dT []) (h' := s.heap.push { cls := .type "dict", data := .dict #[] }) (t' := s.toks) (fun _ _ q => Heap.get?_push_of_some _ q) (Nat.le_refl _) (dt_empty s.heap I.big)
  rw [arm_eval_Dict, show (evalEachOpt [some (Expr.Tuple [] kk tp)] X.env).zip ((evalEach [v] X.env).map fun v => do let x ← v; standAt pos; pure x) = (pairTrees [some (Expr.Tuple [] kk tp)] [v] X.env pos).map fun p => (some p.1, p.2) from zip_pairTrees _ _ _ _ rfl rfl,
    dictDisplay_pairs _ (fun z => by have := pairTrees_length [some (Expr.Tuple [] kk tp)] [v] X.env pos rfl rfl; rw [z] at this; cases this) (by rw [pairTrees_length _ _ _ _ rfl rfl]; exact Nat.le_of_ble_eq_true rfl)]
  refine wpAny_bind (wpAny_standAt (wpAny_bind (wpAny_subDictH (knd := tupleKind (mixKind X.prog X.w)) hroom (by rw [pairTrees_length _ _ _ _ rfl rfl]; exact Nat.le_of_ble_eq_true rfl) ?_)))
  refine pairTrees_cons_walk (thn ((pe_tup pa_nil).run pins _ σ _ (fun x H1 => ∃ b, x = .ref b ∧ (upd H s.heap.objs.size (.dT [])) b = none ∧ H1 = upd (upd H s.heap.objs.size (.dT [])) b (.tup [])) I1 ?_) fun u s1 ⟨x, H1, I2, rx, b, ex, hb, eH⟩ => ?_)
  · exact ⟨Nat.zero_le _, fun b hb => ⟨b, rfl, hb, rfl⟩⟩
  subst ex eH
  have hu' : u = Value.ref b := rx
  subst hu'
  refine thn (hv.run pins s1 σ _ _ I2 (q _ b hn hb)) fun w s2 ⟨y, H2, I3, ry, e1, e2, q2⟩ => ?_
  refine pairTrees_nil_walk ?_
  obtain ⟨z, hd, xs, rel, dd⟩ := dt_of I3.hok e1
  cases rel
  refine ⟨[([], b, w)], ⟨rfl, rfl, key_of (ks := []) I3.hok e2, True.intro⟩, dd, fun h' tk dd' hs => ?_⟩
  have es : storedAllH [] [(([] : List Key), b, w)] = [([], b, w)] := rfl
  rw [es] at dd'
  obtain ⟨qq, es', ep, hq, h2, h3, h4, _, h5⟩ := dd'
  refine wpAny_pure ⟨.ref s.heap.objs.size, _, d_write (ob := .dT [([], y)]) I3 (by rw [e1]; exact True.intro) hs ⟨qq, hq⟩ ⟨by show 1 ≤ sizeLine; rw [sizeLine_eq]; omega, hd, [([], b, w)], .cons ⟨rfl, ?_, ry⟩ .nil, qq, es', ep, hq, h2, h3, h4, h5⟩, rfl, q2⟩
  rw [upd_ne (fun z : b = s.heap.objs.size => by rw [z] at e2; rw [e1] at e2; cases e2)]
  exact e2
def oDisp1 (z : KD) (P : KD → Prop) : Prop := match z.2 with
  | .int i => P (.ow, dtD [([], i)])
  | _ => False
def pDisp1 (fv : PF) : PF := fun ρ P => fv ρ fun z => oDisp1 z P
theorem dp_disp1 {v : Expr} {kk : Nat} {tp : Pos} {fv : PF} (hu : X.A.units + 64 < cLine) (hv : DP X v fv) : DP X (.Dict [some (.Tuple [] kk tp)] [v] pos) (pDisp1 fv) := by
  obtain ⟨t, ea, sa⟩ := hv.run
  refine ⟨_, pe_disp1 hu ea, fun σ H A ρ ow Q P g h q p b hp hb => ?_⟩
  have s0 : Same H (upd (upd H p (.dT [])) b (.tup [])) := (same_upd hp).trans (same_upd hb)
  refine sa σ _ A ρ ow _ _ (g.same s0) h fun z w H2 hz s2 p2 => ?_
  unfold oDisp1 at hz
  split at hz
  · rename_i i ez
    have r2 := p2.ra
    rw [ez] at r2
    obtain rfl : w = .int i := r2
    have e1 : H2 p = some (.dT []) := s2 p _ (by
      rw [upd_ne (fun z => by rw [← z] at hb; rw [upd_same] at hb; cases hb)]; exact upd_same)
    refine ⟨e1, s2 b _ upd_same, q _ _ _ hz (fun a o e => ?_) (pr_dt (kvs := [([], i)]) upd_same hp)⟩
    rw [upd_ne (fun z => by rw [z, hp] at e; cases e)]
    exact s2 a o (s0 a o e)
  · exact hz.elim
end
/-! d[k] = x -/
def oPutK (e : D) (y z : KD) (P : D → Prop) : Prop := ∃ kvs ns i, e = dtD kvs ∧ y.2 = .key ns ∧ z.2 = .int i ∧ kvs.length < 10000000 ∧ P (dtD (putI kvs ns i))
@[irreducible] def xPutK (e : D) (y z : KD) (P : D → Prop) : Prop := hid (oPutK e y z P)
theorem go_putK {e : D} {y z : KD} {P : D → Prop} {kvs : TD} {ns : List Int} {i : Int} (he : e = dtD kvs) (hy : y.2 = .key ns) (hz : z.2 = .int i) (hl : kvs.length < 10000000) (p : P (dtD (putI kvs ns i))) : xPutK e y z P := by
  unfold xPutK; rw [hid_eq]; exact ⟨kvs, ns, i, he, hy, hz, hl, p⟩
def sPutK (fe : EF) (pl : PLF) (fk : PF) : SF := fun D ρ => fe ρ (fun z ρ1 => pl ρ1 fun i _ e rb => fk ρ1 fun y => xPutK e y z fun e' => D.nx (ρ1.set i (some (.ow, rb e')))) D.ex
section
variable {X : Cx} {E : XK} {pr : List Nat} {pos : Pos}
theorem ds_putK {o ix e : Expr} {p2 : Pos} {fe : EF} {pl : PLF} {fi : PF} (hu : X.A.units + 64 < cLine) (he : DE X E e fe) (ho : DPl X o pl) (hi : DP X ix fi) (hs : swapsWithSole [.Subscript o ix p2] e pos.line X.env = pure false := by rfl) (hw : swappedStores [.Subscript o ix p2] e X.env = pure none := by rfl)
    (h1 : (assignEach [.Subscript o ix p2] X.env).map (·.2) = [assign (.Subscript o ix p2) X.env] := by rfl) (hg : ∀ v, assign (.Subscript o ix p2) X.env v = (do
      let ov ← holding [v] (eval o X.env)
      let iv ← holding [v, ov] (eval ix X.env)
      standAt p2
      holding [v, ov, iv] (setItem ov iv v)
      release [v, ov, iv] []) := by intro _; rfl) : DS X E pr (.Assign [.Subscript o ix p2] e pos) (sPutK fe pl fi) := by
  obtain ⟨te, ee, se⟩ := he.run
  obtain ⟨to, eo, so⟩ := ho.run
  obtain ⟨ti, ei, si⟩ := hi.run
  refine ⟨_, ps_asg ee (pg_sub eo ei (set_dict (by omega)) hg) hs hw h1, fun σ H A ρ ow T D gd h nx rt ex => ?_⟩
  refine se σ H A ρ ow _ _ _ gd h (fun z ρ1 v H1 fp ow1 A1 h1 st1 g1 o1 => ?_) fun C ρ1 H1 ow1 A1 h1 st1 g1 => ex C ρ1 σ H1 ow1 A1 h1 st1 g1 fun _ _ => rfl
  refine so σ H1 A1 ρ1 ow1 _ _ g1 h1 fun i k e rb w H2 h2 s2 p2 => ?_
  refine si σ H2 A1 ρ1 ow1 _ _ (g1.same s2) h2 fun y yv H3 h3 s3 p3 => ?_
  have s := s2.trans s3
  unfold xPutK at h3
  rw [hid_eq] at h3
  obtain ⟨kvs, ns, n, ek, ey, ez, hl, h3⟩ := h3
  subst ek
  have ry := p3.ra
  rw [ey] at ry
  obtain ⟨b, rfl, hb⟩ := ry
  have rz : RA X.K (fun _ => True) H3 z.2 v := (o1.rep.same s).ra (fun _ _ => trivial) fun _ _ => trivial
  rw [ez] at rz
  obtain rfl : v = .int n := rz
  obtain ⟨fe0, r, nd, _, hsh, mtt⟩ := (p2.same s3).mut (g1.same s) o1.nd o1.dis
  obtain ⟨p, ew, ef, hp⟩ := R.dt r
  subst ew ef
  obtain ⟨ow', st', g', _⟩ := mtt (dtD (putI kvs ns n)) .ow [] (.fl, .non) .non (upd H3 p (.dT (putK (lowT kvs) (lowK ns) (.int n)))) [p] (fun a o e n => by rw [upd_ne (fun z => n (by simp [z]))]; exact e)
    (by rw [putK_lowT]; exact R.of_dt upd_same) (.inl rfl) ⟨rfl, rfl⟩ (by simp) fun a h => .inl (by simpa using h)
  refine ⟨p, _, rfl, .inr ⟨lowT kvs, lowK ns, b, hp, rfl, by rw [lowK_kV]; exact hb, by rw [low_len, sizeLine_eq]; omega, rfl⟩, ?_⟩
  refine nx _ σ _ ow' A1 h3 ?_ g' fun _ _ => rfl
  have stA : Stp H ow A H3 (fp ++ ow1) A1 := (st1.trans (Stp.of_same s))
  exact stA.trans (st'.sub fun a h => by simp [h])
/-! locked, and walked -/
def oLck (sl : Option Sl) (P : TD → Prop) : Prop := match sl with
  | some (some (.ow, d)) => ∃ kvs, d = dtD kvs ∧ P kvs
  | _ => False
@[irreducible] def xLck (sl : Option Sl) (P : TD → Prop) : Prop := hid (oLck sl P)
theorem go_lck {sl : Option Sl} {P : TD → Prop} {kvs : TD} (e : sl = some (some (.ow, dtD kvs))) (p : P kvs) : xLck sl P := by
  unfold xLck; rw [hid_eq]; subst e; exact ⟨kvs, rfl, p⟩
def sLck (i : Nat) (f : SF) : SF := fun D ρ => xLck ρ[i]? fun kvs => f D (ρ.set i (some (.fl, .lkT kvs)))
def tLckP (t : TS) : TS := fun D σ H => ∃ d u, H d = some u ∧ Mut (some u) ∧ ∀ od, t D σ (upd H d (.frz od u))
theorem pss_lckP {st : List Stmt} {t : TS} (h : PSs X st t) : PSs X st (tLckP t) := by
  refine ⟨fun pins s σ H D I hw => ?_⟩
  obtain ⟨d, u, hd, mu, hw⟩ := hw
  obtain ⟨od, I1⟩ := I.lock hd mu
  exact h.run pins s σ _ _ I1 (hw od)
theorem ds_lck (i : Nat) {st : List Stmt} {f : SF} (h : DSs X E pr st f) : DSs X E pr st (sLck i f) := by
  obtain ⟨t, a, s⟩ := h.run
  refine ⟨_, pss_lckP a, fun σ H A ρ ow T D gd h nx rt ex => ?_⟩
  unfold sLck xLck at h
  rw [hid_eq] at h
  unfold oLck at h
  split at h
  · rename_i d e
    obtain ⟨kvs, ed, h⟩ := h
    subst ed
    obtain ⟨v, fp, ow', hv, g', o, sub⟩ := gd.move e
    obtain ⟨p, ev, ef, hp⟩ := R.dt (o.rep.rown rfl)
    subst ev ef
    refine ⟨p, _, hp, True.intro, fun od => ?_⟩
    have mu : ∀ u, H p = some u → ¬ Imm u := fun u e => by rw [hp] at e; cases e; exact fun z => z
    have npo : p ∉ ow' := fun z => (List.nodup_append.mp o.nd).2.2 p (by simp) p z rfl
    have npA : ¬ A p := o.dis p (by simp)
    have g1 : Good X.K A (upd H p (.frz od (.dT (lowT kvs)))) (ρ.set i none) σ ow' := ⟨g'.rep.keep (KeepF.upd npo npA mu), g'.nd, g'.dis, fun a h => by
      by_cases c : a = p
      · exact ⟨_, by rw [c]; exact upd_same⟩
      · rw [upd_ne c]; exact g'.tr a h⟩
    obtain ⟨ow2, g2, sub2⟩ := g1.put (i := i) (kd := (.fl, .lkT kvs)) (v := .ref p) (fp := []) ⟨⟨rfl, p, od, rfl, upd_same⟩, by simpa using g'.nd, fun a h => nomatch h⟩
    rw [List.set_set, set_same hv] at g2
    have st1 : Stp H ow A (upd H p (.frz od (.dT (lowT kvs)))) ow2 A := ⟨fun a o e n => by
        rw [upd_ne (fun z => n (by rw [z]; exact sub p (by simp)))]; exact e, (fun a h => by
        rcases sub2 a h with z | z
        · exact .inl (sub a (by simp [z]))
        · cases z), fun _ h => h, fun a h => .inl h⟩
    exact s σ _ _ _ ow2 T D g2 h (fun ρ2 σ2 H2 ow2 A2 h2 st2 => nx ρ2 σ2 H2 ow2 A2 h2 (st1.trans st2)) (fun z ρ2 v σ2 H2 fp ow2 A2 h2 st2 => rt z ρ2 v σ2 H2 fp ow2 A2 h2 (st1.trans st2)) (fun C ρ2 σ2 H2 ow2 A2 h2 st2 => ex C ρ2 σ2 H2 ow2 A2 h2 (st1.trans st2))
  · exact h.elim
def keysD (kvs : TD) : List KD := kvs.map fun x => (.fl, .key x.1)
def iLk (f : PF) : IF := fun ρ P => f ρ fun z => match z.2 with
  | .lkT kvs => P (keysD kvs)
  | _ => False
theorem walks_lk {K : Frg} {B : Addr → Prop} {H H' : Hp} {Z F : Addr → Prop} {p : Addr} {o : Obj} {kvs : TD} (hF : ∀ a, F a → H a = none) (hz : ∀ a, Z a → ¬ B a ∧ ∃ o, H a = some o ∧ Mu o) (s : Same H H') (t : H' p = some (.frz o (.dT (lowT kvs)))) :
    Walks K (Itkt p o (lowT kvs)) (OkZ Z H') (Or2 B F) (keysD kvs) := by
  have hl : (keysD kvs).length = (lowT kvs).length := by unfold keysD lowT; rw [List.length_map, List.length_map]
  refine ⟨_, _, by rw [hl]; exact walk_keysT, fun H2 ok => ok p _ t (zFre hF hz s p _ t (.inr trivial)), fun i H2 x H3 z hzz ok y => ?_⟩
  obtain ⟨e, k, v, q, hk, ex, hq⟩ := y
  subst e ex
  unfold keysD at hzz
  unfold lowT at hk
  rw [List.getElem?_map] at hzz hk
  cases e : kvs[i]? with
  | none => rw [e] at hzz; cases hzz
  | some kv =>
    rw [e] at hzz hk
    cases hzz
    cases hk
    exact ⟨Same.refl _, rfl, q, rfl, by rw [← lowK_kV]; exact hq⟩
theorem di_lk {tg e : Expr} {f : PF} (he : DP X e f) : DI X tg e (iLk f) := by
  obtain ⟨t, a, s⟩ := he.run
  refine ⟨_, pi_keys a, fun σ H A ρ ow R P Z g hz h q => ?_⟩
  refine s σ H A ρ ow _ _ g h fun z v H1 hh s1 p1 => ?_
  split at hh
  · rename_i kvs ez
    have ra := p1.ra
    rw [ez] at ra
    obtain ⟨p, o, rfl, t⟩ := ra
    exact ⟨p, o, rfl, .inr ⟨_, t, q _ _ H1 hh s1 (walks_lk fre2 hz s1 t)⟩⟩
  · exact hh.elim
end
end
end DL

/-! DL46: tuple(range(n)) as a key; sorted of a tuple of numbers. -/
namespace SrtO
open PySem PyProof.Rows Srt
section
variable {prog : Program} {w : World} {A : Around} {E : Value → Shared → Prop} {s : Shared}
theorem collect_tup {l : Addr} {vs : List Value} {Q : List Value → Shared → Prop} (hl : s.heap.IsTuple l vs.toArray)
    (h : Q vs { s with heap := (s.heap.push (seqObj "list" #[] 0)).update s.heap.objs.size (Obj.mapSeq (· ++ vs.toArray)) }) (hsz : vs.length ≤ sizeLine) :
    wpAny (model prog w) A (collect (.ref l)) Q E s := by
  obtain ⟨o, ho, hc, n, hd⟩ := id hl
  unfold collect
  refine wpAny_bind (wpAny_runValue (codeAny_builtin entry_proto_collect' ?_))
  show wpAny _ _ (do again (.builtin "list.__iadd__" ⟨[← newList [], .ref l], []⟩)) _ _ s
  refine wpAny_bind (wpAny_newList (wpAny_pure ⟨Code.quiet_builtin _ (by decide +kernel), codeAny_builtin entry_list_iadd' ?_⟩))
  show wpAny _ _ (Builtin.List.listExtendWith (.ref s.heap.objs.size) (.ref l) (.ref s.heap.objs.size)) _ _ { s with heap := s.heap.push (seqObj "list" #[] 0) }
  unfold Builtin.List.listExtendWith
  have ho' : (s.heap.push (seqObj "list" #[] 0)).get? l = some o := Heap.get?_push_of_some _ ho
  refine wpAny_bind (wpAny_typeOf (T := "tuple") ⟨o, ho', hc⟩ ?_)
  have ht : (Value.type "tuple" == Value.type "tuple") = true := by rfl
  rw [if_pos (by rw [ht]; simp)]
  refine wpAny_bind (listItems_at ho' hd ?_)
  refine wpAny_bind (listItems_at (xs := #[]) (n := 0) (Heap.get?_push_size _ rfl) rfl ?_)
  rw [if_neg (by simp)]
  refine wpAny_bind (listUpdate_at (xs := #[]) (n := 0) (Heap.get?_push_size _ rfl) rfl ?_ (Nat.zero_le _) (by show (#[] ++ vs.toArray).size ≤ sizeLine + 1; simp only [Array.size_append, List.size_toArray, List.length_nil]; omega))
  refine wpAny_pure ?_
  show wpAny (model prog w) A (do
      let o ← load s.heap.objs.size
      match o.data with
      | .seq xs _ => pure xs.toList
      | _ => unsupported "internal:collect") Q E { s with heap := (s.heap.push (seqObj "list" #[] 0)).update s.heap.objs.size (Obj.mapSeq (· ++ vs.toArray)) }
  refine wpAny_bind (wpAny_load (get?_update_seq (Heap.get?_push_size _ rfl) _) ?_)
  show wpAny _ _ (pure ((#[] : Array Value) ++ vs.toArray).toList) Q E _
  rw [show ((#[] : Array Value) ++ vs.toArray).toList = vs by simp]
  exact wpAny_pure h
theorem sorted_ordT {l : Addr} {vs : List Value} {ltv : Value → Value → Bool} {Q : Value → Shared → Prop} (O : Swo ltv) (hl : s.heap.IsTuple l vs.toArray) (hz : vs.length ≤ sizeLine)
    (hS : 2 ≤ vs.length → ∀ (h₁ : Heap) (a : Addr), h₁.get? a = some (seqObj "list" vs.toArray 0) → (∀ b o, s.heap.get? b = some o → b ≠ a ∧ h₁.get? b = some o) → SortableO prog w A.in1.in1 { s with heap := h₁ } a vs ltv)
    (h : ∀ out : List Value, Srtd ltv out → Stb ltv out vs → Q (.ref (s.heap.objs.size + 1)) { s with heap := sortedAll s.heap vs out.toArray }) :
    wpAny (model prog w) A (call (.builtin "sorted") [.ref l]) Q E s := by
  refine Calls.call_function_entry kind_sorted plain_sorted entry_sorted (args_sorted1 _) ?_
  unfold Builtin.«sorted»
  refine wpAny_bind (m := checkCount "sorted" 1 1 _) (wpAny_pure ?_)
  refine wpAny_bind (collect_tup hl ?_ hz)
  refine wpAny_bind (wpAny_newList ?_ hz)
  have hsz : ((s.heap.push (seqObj "list" #[] 0)).update s.heap.objs.size (Obj.mapSeq (· ++ vs.toArray))).objs.size = s.heap.objs.size + 1 := by
    rw [Heap.size_update, size_push']
  have hoL : (((s.heap.push (seqObj "list" #[] 0)).update s.heap.objs.size (Obj.mapSeq (· ++ vs.toArray))).push (seqObj "list" vs.toArray 0)).get? (s.heap.objs.size + 1) = some (seqObj "list" vs.toArray 0) := by
    rw [← hsz]; exact Heap.get?_push_size _ rfl
  have keep : ∀ b o, s.heap.get? b = some o → b ≠ s.heap.objs.size + 1 ∧ (((s.heap.push (seqObj "list" #[] 0)).update s.heap.objs.size (Obj.mapSeq (· ++ vs.toArray))).push (seqObj "list" vs.toArray 0)).get? b = some o := fun b o q => by
    have hlt : b < s.heap.objs.size := Heap.lt_size q
    refine ⟨Nat.ne_of_lt (Nat.lt_succ_of_lt hlt), Heap.get?_push_of_some _ ?_⟩
    rw [Heap.get?_update_ne _ _ _ _ (Nat.ne_of_lt hlt)]
    exact Heap.get?_push_of_some _ q
  show wpAny _ _ _ _ _ { s with heap := ((s.heap.push (seqObj "list" #[] 0)).update s.heap.objs.size (Obj.mapSeq (· ++ vs.toArray))).push (seqObj "list" vs.toArray 0) }
  rw [hsz]
  refine wpAny_bind (wpAny_holding (wpAny_call_entry slot_list_sort ⟨_, hoL, rfl⟩ entry_list_sort (list_sort_ord O hoL hz (fun h2 => hS h2 _ _ hoL keep) fun out hs hb => ⟨_, rfl, ?_⟩) (args_list_sort _)))
  exact wpAny_pure ⟨_, rfl, h out hs hb⟩
end
end SrtO
namespace DL
open PySem PySem.Spec PyProof PyProof.Rows L2
def rSortedT (K : Frg) : List V → Hp → VK → Prop := fun vs H Q => ∃ (a : Addr) (ns : List Int), vs = [V.ref a] ∧ SqT K H a (ns.map V.int) ∧
  ∀ (ns' : List Int) (p : Addr), ns'.Perm ns → ns'.Pairwise (· ≤ ·) → H p = none → Q (.ref p) (upd H p (.lst (ns'.map V.int)))
theorem cr_sortedT {X : Cx} : CallR X (.builtin "sorted") (rSortedT X.K) := by
  intro pins s σ H vs us Q I r h
  obtain ⟨a, ns, rfl, hs, q⟩ := h
  obtain ⟨its, rv, hl, hz⟩ := I.tuple hs
  rw [Vals.ref1 r]
  have hi := rv.ints
  refine SrtO.sorted_ordT SrtO.swo_int hl (by rw [← rv.length]; exact hz) (fun h2 h₁ a' _ _ => SrtO.ints_sortable hi h2) fun out h1 h2 => ?_
  obtain ⟨k1, k2, k3⟩ := SrtO.ints_out hi h1 h2
  obtain ⟨ep, he'⟩ := PyProof.Rows.sortedAll_at s.heap its out.toArray
  have hlen : ((out.map SrtO.iv).map V.int).length ≤ sizeLine := by
    rw [List.length_map, k2.length_eq]
    rw [List.length_map] at hz
    exact hz
  exact ⟨.ref _, upd H (s.heap.objs.size + 1) (.lst ((out.map SrtO.iv).map V.int)), I.laid (t' := s.toks) (fun _ _ => PyProof.Rows.sortedAll_old) (Nat.le_succ _) ⟨hlen, out, ep, vals_of_ints k1, he'⟩, rfl, q _ _ k2 k3 (I.hok.fresh (Nat.le_succ _))⟩
noncomputable section
def oSortedT : List KD → (KD → Prop) → Prop := fun zs P => match zs with
  | [(_, .tup ds)] => ∃ ns : List Int, ds = ns.map .int ∧ P (.sh, .lst ((sortU ns).map .int))
  | _ => False
theorem cs_sortedT {K : Frg} : CallS K (rSortedT K) oSortedT := by
  intro B F H vs xs P Q pr hF h q
  unfold oSortedT at h
  split at h
  · rename_i k ds
    obtain ⟨ns, e, hP⟩ := h
    subst e
    obtain ⟨v, ev, p⟩ := pr.get1
    subst ev
    obtain ⟨a, ea, t⟩ := pr_intsT p
    subst ea
    refine ⟨a, ns, rfl, t, fun ns' l hp hs hl => ?_⟩
    rw [sortU_uniq hp hs]
    exact q _ _ _ hP (same_upd hl) (pr_lst (k := .fl) (RAs.of_ints _) hl (hF l hl))
  · exact h.elim
end
end DL
namespace DL
open PySem PySem.Spec PyProof PyProof.Rows L2
noncomputable section
def pTRK (f : PF) : PF := fun ρ P => f ρ fun z => match z.2 with
  | .int n => n ≤ 1000000 ∧ -1000000 ≤ n ∧ P (.fl, .key ((List.range n.toNat).map fun i : Nat => (i : Int)))
  | _ => False
section
variable {X : Cx} {e : Expr} {f : PF} {pos : Pos}
theorem dp_tupRgK {p p2 pos2 : Pos} (h : DP X e f) (hc : X.calm = true) (hg : Gl X "tuple") (hm : X.mg "tuple" = none) (hg2 : Gl X "range") (hm2 : X.mg "range" = none) (na : starEach [e] X.env = (false, eval e X.env) :: starEach [] X.env := by rfl)
    (na2 : starEach [.Call (.Name "range" p2) [e] [] pos2] X.env = (false, eval (.Call (.Name "range" p2) [e] [] pos2) X.env) :: starEach [] X.env := by rfl) : DP X (.Call (.Name "tuple" p) [.Call (.Name "range" p2) [e] [] pos2] [] pos) (pTRK f) := by
  obtain ⟨t, pe, s⟩ := h.run
  refine ⟨_, pe_tupRg hc hg hm (prg_1 hg2 hm2 pe na) na2, fun σ H A ρ ow Q P g hf q => ?_⟩
  refine s σ H A ρ ow _ _ g hf fun z v H1 h1 s1 p1 => ?_
  obtain ⟨k, d⟩ := z
  cases d with
  | int n =>
    obtain ⟨h2, h3, h4⟩ := h1
    obtain rfl : v = .int n := p1.ra
    refine ⟨n, rfl, ⟨by omega, by omega, by omega, by omega, by omega⟩, fun l hl => ?_⟩
    exact q _ _ _ h4 (s1.trans (same_upd hl)) (.fl ⟨l, rfl, by rw [← rg_map]; exact upd_same⟩)
  | _ => exact h1.elim
end
end
end DL

/-! DL47: min of the values of a dict whose keys are tuples. -/
namespace DL
open PySem PySem.Spec PyProof PyProof.Rows L2
theorem KT.at' {H : Hp} {kvs : List (List Key × V)} {xs : List (List Key × Addr × Value)} (r : KT H kvs xs) : ∀ {i : Nat} {y : List Key × Addr × Value}, xs[i]? = some y → ∃ x, kvs[i]? = some x ∧ RelV x.2 y.2.2 := by
  unfold KT at r
  induction r with
  | nil => intro i y e; simp at e
  | @cons p q ps qs h t ih =>
    intro i y e
    cases i with
    | zero =>
      have e' := Option.some.inj (show some q = some y from e)
      subst e'
      exact ⟨p, rfl, h.2.2⟩
    | succ i =>
      obtain ⟨x, h1, h2⟩ := ih (i := i) (by simpa using e)
      exact ⟨x, by simpa using h1, h2⟩
def tMinValsT (td : TE) : TE := fun σ H Q => td σ H fun x H1 => ∃ a kvs is, x = V.ref a ∧ Rd H1 a (.dT kvs) ∧ kvs.map (·.2) = is.map V.int ∧ is ≠ [] ∧ ∀ m, m ∈ is → (∀ j ∈ is, m ≤ j) → Q (.int m) H1
section
variable {X : Cx} {o : Expr} {p pos apos mpos : Pos} {td : TE}
theorem pe_minValsT (hc : X.calm = true) (hg : Gl X "min") (hm : X.mg "min" = none) (hd : PE X o td) (hbase : attributeBase o "values" X.env (eval o X.env) = eval o X.env := by rfl) (hline : (apos.endLine == mpos.line) = true := by rfl)
    (hse : starEach [Expr.Call (.Attribute o "values" apos) [] [] mpos] X.env = [(false, eval (Expr.Call (.Attribute o "values" apos) [] [] mpos) X.env)] := by rfl) :
    PE X (.Call (.Name "min" p) [.Call (.Attribute o "values" apos) [] [] mpos] [] pos) (tMinValsT td) := by
  refine ⟨fun pins s σ H Q I h => ?_⟩
  refine wpAny_Call_Name_kw (ld_blt I hg hm (u := .builtin "min") (by first | rfl | decide +kernel) ?_ (by first | decide +kernel | decide) (by first | decide +kernel | decide))
  rw [hse]
  refine PySem.callWith_builtin1 (wpAny_Call_method0_late hbase hline (thn (hd.run pins s σ H _ I h) fun v s1 ⟨x, H1, I1, r1, a, kvs, is, ex, ha, hv, hne, q⟩ => ?_))
  subst ex
  have hva : v = Value.ref a := r1
  subst hva
  obtain ⟨_, hsys, xs, rel, dof⟩ := dt_rd I1.hok ha
  obtain ⟨es, ep, raw, hsz0, hent⟩ := dof.raw
  have raw' := raw
  obtain ⟨ob, ho, ex, hdat⟩ := raw'
  refine ⟨"dict", "dict.values", F.plainAttrs_dict, F.slot_dict_values, F.type_dict_values, ⟨ob, ho, ex.1⟩, fun b e => ?_, Calls.callWith_builtin rfl (PySem.evalArgs_none ?_)⟩
  · cases e
    exact ⟨ob, ho, ex.2.1⟩
  refine call_meetsIn F.slot_dict_values ⟨ob, ho, ex.1⟩ F.entry_dict_values (F.args_dict_values_1 _) (meets_dict_values_raw a hsys) ⟨⟨es, ep, raw⟩, ?_⟩
  have k1 : ∀ b u, s1.heap.get? b = some u → (s1.heap.push { cls := .type "dict_values", data := .fields #[.ref a] }).get? b = some u := fun b u e => Heap.get?_push_of_some _ e
  have raw1 : (s1.heap.push { cls := .type "dict_values", data := .fields #[.ref a] }).DictRaw a es ep := raw.at fun o e => k1 a o e
  have hlv : xs.length = is.length := by
    have e1 := congrArg List.length hv
    rw [List.length_map, List.length_map] at e1
    rw [← e1]
    exact (Paired.length rel).symm
  have hlen : 0 < es.size := by
    rw [hsz0, hlv]
    exact List.length_pos_iff.mpr hne
  have hval : ∀ (i : Nat) (v : Value), (∃ y, xs[i]? = some y ∧ v = y.2.2) → ∃ t, v = Value.int (is.getD i 0) t := fun i v ⟨y, hk, ev⟩ => by
    subst ev
    obtain ⟨x, h1, h2⟩ := KT.at' rel hk
    have e1 : (kvs.map (·.2))[i]? = some x.2 := by rw [List.getElem?_map, h1] <;> rfl
    rw [hv, List.getElem?_map] at e1
    obtain ⟨j, hj, e2⟩ := Option.map_eq_some_iff.mp e1
    rw [← e2] at h2
    obtain ⟨t, e3⟩ := h2
    refine ⟨t, ?_⟩
    rw [e3, List.getD_eq_getElem?_getD, hj] <;> rfl
  refine call_min_walk (wpAny_pyIter_values_raw (v := s1.heap.objs.size) (d := a) ⟨_, Heap.get?_push_size _ rfl, rfl, rfl⟩ raw1 ?_)
  have hlt : a < s1.heap.objs.size := Heap.lt_size ho
  have hsz : (s1.heap.push { cls := .type "dict_values", data := .fields #[.ref a] }).objs.size = s1.heap.objs.size + 1 := Heap.size_push _ _
  refine ⟨_, _, _, _, _, _, _, rfl, Walks.valuesH (A := X.A.in1) (xs := xs) (I.ok.hd hc) (s1.heap.push { cls := .type "dict_values", data := .fields #[.ref a] }).objs.size a (by rw [hsz]; exact Nat.ne_of_lt (Nat.lt_succ_of_lt hlt)) es ep (fun i hi => let ⟨y, h1, h2, h3, _⟩ := hent i hi; ⟨y, h1, h2, h3⟩),
    ⟨⟨_, Heap.get?_push_size _ rfl, rfl, rfl⟩, raw1.at fun u e => Heap.get?_push_of_some _ e⟩, fun b hb => ?_, hlen, CmpOf.ints_lt (fun i => is.getD i 0) hval, fun v h' tk hP hk => ?_⟩
  · show b < ((s1.heap.push _).push _).objs.size
    rw [Heap.size_push, Heap.size_push]
    rw [hsz] at hb
    rcases List.mem_cons.mp hb with e | hb
    · rw [e]
      exact Nat.lt_succ_self _
    · have e : b = a := List.mem_singleton.mp hb
      rw [e]
      exact Nat.lt_succ_of_lt (Nat.lt_succ_of_lt hlt)
  · obtain ⟨t, rfl⟩ := hval _ v hP
    obtain ⟨b1, b2⟩ := argBest_lt (fun i => is.getD i 0) (es.size - 1)
    refine ⟨.int _, H1, I1.kept (t' := tk) fun b u e => hk b u (fun hmem => ?_) (Heap.get?_push_of_some _ (k1 b u e)), ⟨t, rfl⟩, q _ ?_ fun j hj => ?_⟩
    · have e1 : b = (s1.heap.push { cls := .type "dict_values", data := .fields #[.ref a] }).objs.size := List.mem_singleton.mp hmem
      have e2 := Heap.lt_size e
      rw [hsz] at e1
      rw [e1] at e2
      exact absurd e2 (Nat.not_lt.mpr (Nat.le_succ _))
    · have hb : argBest (fun i j => decide (is.getD i 0 < is.getD j 0)) (es.size - 1) < is.length := by omega
      rw [List.getD_eq_getElem?_getD, List.getElem?_eq_getElem hb]
      exact List.getElem_mem hb
    · obtain ⟨i, hi, e⟩ := List.mem_iff_getElem.mp hj
      have e2 : is.getD i 0 = j := by rw [List.getD_eq_getElem?_getD, List.getElem?_eq_getElem hi, ← e] <;> rfl
      rw [← e2]
      exact b2 i (by omega)
end
noncomputable section
def oMinK (x : KD) (P : KD → Prop) : Prop := ∃ kvs, isT x.2 kvs ∧ kvs ≠ [] ∧ ∀ m, m ∈ kvs.map (·.2) → (∀ j ∈ kvs.map (·.2), m ≤ j) → P (.fl, .int m)
@[irreducible] def xMinK (x : KD) (P : KD → Prop) : Prop := hid (oMinK x P)
theorem go_minK {x : KD} {P : KD → Prop} {kvs : TD} (hx : isT x.2 kvs) (hn : kvs ≠ []) (p : ∀ m, m ∈ kvs.map (·.2) → (∀ j ∈ kvs.map (·.2), m ≤ j) → P (.fl, .int m)) : xMinK x P := by
  unfold xMinK; rw [hid_eq]; exact ⟨kvs, hx, hn, p⟩
def pMinK (fo : PF) : PF := fun ρ P => fo ρ fun x => xMinK x P
theorem dp_minK {X : Cx} {o : Expr} {p pos apos mpos : Pos} {fo : PF} (hc : X.calm = true) (hg : Gl X "min") (hm : X.mg "min" = none) (ho : DP X o fo) (hbase : attributeBase o "values" X.env (eval o X.env) = eval o X.env := by rfl) (hline : (apos.endLine == mpos.line) = true := by rfl)
    (hse : starEach [Expr.Call (.Attribute o "values" apos) [] [] mpos] X.env = [(false, eval (Expr.Call (.Attribute o "values" apos) [] [] mpos) X.env)] := by rfl) :
    DP X (.Call (.Name "min" p) [.Call (.Attribute o "values" apos) [] [] mpos] [] pos) (pMinK fo) := by
  obtain ⟨t, ea, sa⟩ := ho.run
  refine ⟨_, pe_minValsT hc hg hm ea hbase hline hse, fun σ H A ρ ow Q P g h q => ?_⟩
  refine sa σ H A ρ ow _ _ g h fun x v H1 hx s1 p1 => ?_
  unfold xMinK at hx
  rw [hid_eq] at hx
  obtain ⟨kvs, ex, hn, hP⟩ := hx
  obtain ⟨a, rfl, t1⟩ := RA.isT ex p1.ra
  refine ⟨a, lowT kvs, kvs.map (·.2), rfl, t1, by rw [low_vals, List.map_map]; rfl, fun z => hn (List.map_eq_nil_iff.mp z), fun m h1 h2 => q _ _ H1 (hP m h1 h2) s1 .int⟩
end
end DL

/-! DL48: lists locked for good (.kst): own lists of what never changes, new lists within an expression; locked lists added, summed, turned about. -/
namespace DL
open PySem PySem.Spec PyProof PyProof.Rows L2
/-! list + list, both by values -/

theorem q_addG (l : Addr) (items : Array Value) (n : Nat) (d1 : Option Addr) (s1 : Array (Option Value)) (b : Addr) (items2 : Array Value) (n2 : Nat) (d2 : Option Addr) (s2 : Array (Option Value)) (hc0 : items.size + items2.size ≤ sizeLine) :
    Meets (Builtin.«list.__add__» ⟨[.ref l, .ref b], []⟩) (fun _ R s => s.heap.get? l = some { cls := .type "list", dict := d1, data := .seq items n, slots := s1 } ∧ s.heap.get? b = some { cls := .type "list", dict := d2, data := .seq items2 n2, slots := s2 } ∧ R (.ok (.ret (Value.ref s.heap.objs.size))) { s with heap := s.heap.push { cls := Value.type "list", data := Data.seq (items ++ items2) }, toks := s.toks }) :=
  .of_wp fun prog w A R s h => by obtain ⟨hp, g, d, tk, os⟩ := s; obtain ⟨hl, hb, h⟩ := h; have f1 := AutoSeq1.idx_int; have f2 := AutoSeq1.sub_tuple_tuple; have f3 := AutoSeq1.sub_list_list; have f4 := AutoSeq1.sub_tuple_list; have f5 := AutoSeq1.sub_list_tuple; wp_walk using AutoSeq1.wpAny_loadPart' hl, AutoSeq1.wpAny_loadPart' hb; exact ⟨_, rfl, h⟩
def rCatK (K : Frg) : R2 := fun x y H Q => ∃ l b xs zs, x = .ref l ∧ y = .ref b ∧ SqL K H l xs ∧ SqL K H b zs ∧ xs.length + zs.length ≤ sizeLine ∧ ∀ p, H p = none → Q (.ref p) (upd H p (.lst (xs ++ zs)))
theorem op_catK {X : Cx} : OpR X (binaryOp .Add) (rCatK X.K) := by
  intro pins s σ H x y v u Q I rx ry h
  obtain ⟨l, b, xs, zs, rfl, rfl, hH, hB, hz, q⟩ := h
  cases rx
  cases ry
  obtain ⟨its, r, ⟨⟨c1, d1, t1, s1⟩, n, e, hc, _, hd⟩, _⟩ := I.list hH
  obtain ⟨its2, r2, ⟨⟨c2, d2, t2, s2⟩, n2, e2, hc2, _, hd2⟩, _⟩ := I.list hB
  simp only at hc hd hc2 hd2
  subst hc hd hc2 hd2
  have h1 := r.length
  have h2 := r2.length
  refine concat_meets ⟨_, e, rfl⟩ ⟨_, e2, rfl⟩ noFill_list_add seq_list_add F.slot_list_add F.entry_list_add (F.args_list_add_2 _ _) (q_addG l its.toArray n d1 s1 b its2.toArray n2 d2 s2 (by simp only [List.size_toArray]; omega)) ⟨e, e2, ?_⟩
  have ea : its.toArray ++ its2.toArray = (its ++ its2).toArray := by simp
  rw [ea]
  exact ⟨.ref _, _, I.lnew (t' := s.toks) (r.append r2) (by rw [List.length_append]; omega), rfl, q _ I.fresh⟩
noncomputable section
def D.lsq : D → Option (List D)
  | .lst ds => some ds
  | .kst ds => some ds
  | _ => none
theorem PR.lsq {K : Frg} {B F : Addr → Prop} {H : Hp} {k : Kd} {d : D} {ds : List D} {v : V} (h : PR K B F H v (k, d)) (e : d.lsq = some ds) : ∃ p vs, v = .ref p ∧ SqL K H p vs ∧ RAs K (k.elA B F) H ds vs := by
  cases d with
  | lst ds' =>
    cases e
    obtain ⟨p, vs, ev, t, r⟩ := h.lstT
    exact ⟨p, vs, ev, .of t, r⟩
  | kst ds' =>
    cases e
    obtain ⟨p, vs, ev, t, r⟩ := h.kstT
    exact ⟨p, vs, ev, kst_seq t, r⟩
  | _ => cases e
/-- lists of flat items added -/
def oAddK : KD → KD → (KD → Prop) → Prop := fun x y P => match x.2.lsq, y.2.lsq with
  | some a, some b => a.all D.flat1 = true ∧ b.all D.flat1 = true ∧ a.length + b.length ≤ 10000000 ∧ P (.sh, .lst (a ++ b))
  | _, _ => False
theorem os_addK {K : Frg} : OpS K (rCatK K) oAddK := by
  intro B F H v w x y P Q px py hF h q
  obtain ⟨k, d⟩ := x
  obtain ⟨k', d'⟩ := y
  unfold oAddK at h
  split at h
  · rename_i a b e1 e2
    obtain ⟨h1, h2, h3, hP⟩ := h
    obtain ⟨p, vs, rfl, t, r⟩ := px.lsq e1
    obtain ⟨p', vs', rfl, t', r'⟩ := py.lsq e2
    have r0 : RAs K No H a vs := RAs.no_flat (RAs.elor (B := B) (F := F) r) h1
    have r0' : RAs K No H b vs' := RAs.no_flat (RAs.elor (B := B) (F := F) r') h2
    exact ⟨p, p', vs, vs', rfl, rfl, t, t', by rw [r.len, r'.len]; exact sz7 h3, fun l hl => q _ _ _ hP (same_upd hl) (pr_lst (k := .fl) (r0.append r0') hl (hF l hl))⟩
  · exact h.elim
/-- sum of a list, locked or not -/
def oSumK : List KD → (KD → Prop) → Prop := fun zs P => match zs with
  | [(_, d)] => (match d.lsq with
    | some ds => ∃ ns : List Int, ds = ns.map .int ∧ P (.fl, .int ns.sum)
    | none => False)
  | _ => False
theorem cs_sumK {K : Frg} : CallS K (rSum K) oSumK := by
  intro B F H vs xs P Q pr hF h q
  unfold oSumK at h
  split at h
  · rename_i k d
    split at h
    · rename_i ds e
      obtain ⟨ns, rfl, hP⟩ := h
      obtain ⟨v, ev, p⟩ := pr.get1
      obtain ⟨a, us, ea, t, r⟩ := p.lsq e
      subst ev ea
      rw [RAs.ints (RAs.elor (B := B) (F := F) r)] at t
      exact ⟨a, ns, rfl, t, q _ _ H hP (Same.refl H) .int⟩
    · exact h.elim
  · exact h.elim
section
variable {X : Cx} {pos : Pos} {a : Expr} {fa : PF}
/-- x[::-1], a list of flat items -/
def pRev (f : PF) : PF := fun ρ P => f ρ fun z => match z.2.lsq with
  | some ds => ds.all D.flat1 = true ∧ P (.sh, .lst ds.reverse)
  | none => False
theorem dp_rev {k : Nat} {p1 p2 p3 : Pos} (ha : DP X a fa) : DP X (.Subscript a (.Slice none none (some (.UnaryOp .USub (.Constant (.int 1) k p1) p2)) p3) pos) (pRev fa) := by
  obtain ⟨ta, ea, sa⟩ := ha.run
  refine ⟨_, pe_revL ea, fun σ H A ρ ow Q P gd hf q => ?_⟩
  refine sa σ H A ρ ow _ _ gd hf fun z v H1 hz s1 p1 => ?_
  obtain ⟨kz, d⟩ := z
  split at hz
  · rename_i ds e
    obtain ⟨hc, hP⟩ := hz
    obtain ⟨p, vs, rfl, t, r⟩ := p1.lsq e
    have r0 : RAs X.K No H1 ds vs := RAs.no_flat (RAs.elor (B := BB A ow) (F := Fre H) r) hc
    exact ⟨p, vs, rfl, t, fun l hl => q _ _ _ hP (s1.trans (same_upd hl)) (pr_lst (k := .fl) r0.reverse hl (s1.free hl))⟩
  · exact hz.elim
/-- a new list, locked at once -/
def tLkP (t : TE) : TE := fun σ H Q => t σ H fun x H1 => ∃ a u, x = .ref a ∧ H1 a = some u ∧ Mut (some u) ∧ ∀ od, Q x (upd H1 a (.frz od u))
theorem pe_lkP {e : Expr} {t : TE} (he : PE X e t) : PE X e (tLkP t) :=
  ⟨fun pins s σ H Q I h => thn (he.run pins s σ H _ I h) fun v s1 ⟨x, H1, I1, r, a, u, ex, hu, mu, q⟩ => let ⟨od, I2⟩ := I1.lock hu mu; ⟨x, _, I2, r, q od⟩⟩
def pLk (f : PF) : PF := fun ρ P => f ρ fun z => match z with
  | (.sh, .lst ds) => P (.fl, .kst ds)
  | _ => False
theorem dp_lk {e : Expr} {f : PF} (he : DP X e f) : DP X e (pLk f) := by
  obtain ⟨ta, ea, sa⟩ := he.run
  refine ⟨_, pe_lkP ea, fun σ H A ρ ow Q P gd hf q => ?_⟩
  refine sa σ H A ρ ow _ _ gd hf fun z v H1 hz s1 p1 => ?_
  split at hz
  · rename_i ds
    obtain ⟨fp, ⟨hr, hs⟩, nd, hF⟩ := p1
    obtain ⟨p, vs, fps, rfl, rfl, hp, rs⟩ := hr
    obtain ⟨p', vs', e', hp', r0⟩ := hs
    cases e'
    rw [hp] at hp'; cases hp'
    have hpn : H p = none := hF p (by simp)
    refine ⟨p, _, rfl, hp, True.intro, fun od => ?_⟩
    have sm : Same H (upd H1 p (.frz od (.lst vs))) := fun b o e => by
      rw [upd_ne (fun z => by rw [z, hpn] at e; cases e)]
      exact s1 b o e
    refine q _ _ _ hz sm (.fl ⟨p, vs, rfl, .inl (.inr ⟨od, lockd_mk upd_same⟩), RAs.keep (fun b o e h => ?_) _ _ r0⟩)
    rcases h with h | h
    · exact h.elim
    · rw [upd_ne (fun z => by rw [z, hp] at e; cases e; exact h)]
      exact e
  · exact hz.elim
end
/-- one's own list of what never changes, locked -/
def oLkL (sl : Option Sl) (P : List D → Prop) : Prop := match sl with
  | some (some (k, .lst ds)) => (k = .sh ∨ k = .ow) ∧ D.imms ds = true ∧ P ds
  | _ => False
@[irreducible] def xLkL (sl : Option Sl) (P : List D → Prop) : Prop := hid (oLkL sl P)
theorem go_lkL {sl : Option Sl} {P : List D → Prop} {k : Kd} {ds : List D} (e : sl = some (some (k, .lst ds))) (hk : k = .sh ∨ k = .ow) (hi : D.imms ds = true) (p : P ds) : xLkL sl P := by
  unfold xLkL; rw [hid_eq]; subst e; exact ⟨hk, hi, p⟩
def sLkL (i : Nat) (f : SF) : SF := fun D ρ => xLkL ρ[i]? fun ds => f D (ρ.set i (some (.fl, .kst ds)))
section
variable {X : Cx} {E : XK} {pr : List Nat}
theorem ds_lkL (i : Nat) {st : List Stmt} {f : SF} (h : DSs X E pr st f) : DSs X E pr st (sLkL i f) := by
  obtain ⟨t, a, s⟩ := h.run
  refine ⟨_, pss_lckP a, fun σ H A ρ ow T D gd h nx rt ex => ?_⟩
  unfold sLkL xLkL at h
  rw [hid_eq] at h
  unfold oLkL at h
  split at h
  · rename_i k ds e
    obtain ⟨hk, hi, h⟩ := h
    obtain ⟨v, fp, ow', hv, g', o, sub⟩ := gd.move e
    obtain ⟨p, vs, fps, ev, ef, hp, rs⟩ := o.rep.rown (show ownK k = true by rcases hk with e | e <;> rw [e] <;> rfl)
    subst ev
    have r1 : RAs X.K (fun _ => True) H ds vs := Rs.ra (fun _ _ => trivial) _ _ _ (fun _ _ => trivial) rs
    have r0 := RAs.imm_no ds vs r1 hi
    have e3 : fps = [] := Rs.nil0 (K := X.K) (A := No) (H := H) (H' := H) _ fps ⟨_, r0⟩ ⟨_, rs⟩
    subst e3 ef
    refine ⟨p, _, hp, True.intro, fun od => ?_⟩
    have mu : ∀ u, H p = some u → ¬ Imm u := fun u e => by rw [hp] at e; cases e; exact fun z => z
    have npo : p ∉ ow' := fun z => (List.nodup_append.mp o.nd).2.2 p (by simp) p z rfl
    have npA : ¬ A p := o.dis p (by simp)
    have g1 : Good X.K A (upd H p (.frz od (.lst vs))) (ρ.set i none) σ ow' := ⟨g'.rep.keep (KeepF.upd npo npA mu), g'.nd, g'.dis, fun a h => by
      by_cases c : a = p
      · exact ⟨_, by rw [c]; exact upd_same⟩
      · rw [upd_ne c]; exact g'.tr a h⟩
    have rk : RA X.K No (upd H p (.frz od (.lst vs))) (.kst ds) (.ref p) := ⟨p, vs, rfl, .inl (.inr ⟨od, lockd_mk upd_same⟩), RAs.keep (fun b o e h => by
      rcases h with h | h
      · exact h.elim
      · rw [upd_ne (fun z => by rw [z] at e; exact mu o e h)]; exact e) _ _ r0⟩
    obtain ⟨ow2, g2, sub2⟩ := g1.put (i := i) (kd := (.fl, .kst ds)) (v := .ref p) (fp := []) ⟨⟨rfl, rk⟩, by simpa using g'.nd, fun a h => nomatch h⟩
    rw [List.set_set, set_same hv] at g2
    have st1 : Stp H ow A (upd H p (.frz od (.lst vs))) ow2 A := ⟨fun a o e n => by
        rw [upd_ne (fun z => n (by rw [z]; exact sub p (by simp)))]; exact e, (fun a h => by
        rcases sub2 a h with z | z
        · exact .inl (sub a (by simp [z]))
        · cases z), fun _ h => h, fun a h => .inl h⟩
    exact s σ _ _ _ ow2 T D g2 h (fun ρ2 σ2 H2 ow2 A2 h2 st2 => nx ρ2 σ2 H2 ow2 A2 h2 (st1.trans st2)) (fun z ρ2 v σ2 H2 fp ow2 A2 h2 st2 => rt z ρ2 v σ2 H2 fp ow2 A2 h2 (st1.trans st2)) (fun C ρ2 σ2 H2 ow2 A2 h2 st2 => ex C ρ2 σ2 H2 ow2 A2 h2 (st1.trans st2))
  · exact h.elim
end
end
end DL

/-! DL49: three names at once. -/
namespace DL
open PySem PySem.Spec PyProof.Rows L2
noncomputable section
def sPar3 (i j l : Nat) (g : AEF) : SF := fun D ρ => g ρ (fun avs ρ1 => match avs with
  | [.v a, .v b, .v c] => D.nx (((ρ1.set i (some a)).set j (some b)).set l (some c))
  | _ => False) D.ex
section
variable {X : Cx} {E : XK} {pr : List Nat} {pos : Pos}
theorem ds_par3 (i j l : Nat) {x y z : Str} {a b c : Expr} {g : AEF} {px py pz pt : Pos} {kt k2 pt2} (hc : X.calm = true) (hN : X.N.Nodup) (ha : DAE X E [a, b, c] 3 g) (hpi : i ∉ pr := by decide) (hpj : j ∉ pr := by decide) (hpl : l ∉ pr := by decide) (hij : i ≠ j := by decide) (hil : i ≠ l := by decide) (hjl : j ≠ l := by decide)
    (hi : X.N[i]? = some x := by rfl) (hj : X.N[j]? = some y := by rfl) (hl' : X.N[l]? = some z := by rfl)
    (hx : X.env.scope.names.lookup x = some .local := by rfl) (hy : X.env.scope.names.lookup y = some .local := by rfl) (hz : X.env.scope.names.lookup z = some .local := by rfl)
    (hw : swappedStores [.Tuple [.Name x px, .Name y py, .Name z pz] kt pt] (.Tuple [a, b, c] k2 pt2) X.env = pure (some [x, y, z]) := by rfl)
    (hs : swapsWithSole [.Tuple [.Name x px, .Name y py, .Name z pz] kt pt] (.Tuple [a, b, c] k2 pt2) pos.line X.env = pure false := by rfl) : DS X E pr (.Assign [.Tuple [.Name x px, .Name y py, .Name z pz] kt pt] (.Tuple [a, b, c] k2 pt2) pos) (sPar3 i j l g) := by
  obtain ⟨ta, ea, sa⟩ := ha.run
  refine ⟨_, ps_par3 hc hN hi hj hl' hij hil hjl hx hy hz ea hw hs, fun σ H A ρ ow T D gd h nx rt ex => ?_⟩
  refine sa σ H A ρ ow _ _ _ gd h (fun avs ρ1 vs H1 fp ow1 A1 hl h1 st1 g1 r nd dis => ?_) fun C ρ1 H1 ow1 A1 h1 st1 g1 => ex C ρ1 σ H1 ow1 A1 h1 st1 g1 fun _ _ => rfl
  split at h1
  · rename_i za zb zc
    obtain ⟨u, ws, f1, q1, rfl, rfl, r1, v, ws', f2, q2, rfl, rfl, r2, w, ws2, f3, q3, rfl, rfl, r3, rfl, rfl⟩ := r
    rw [List.append_nil] at nd dis st1
    have nd2 := nd
    rw [List.append_assoc, List.append_assoc] at nd2
    obtain ⟨n1, n2, n3⟩ := List.nodup_append.mp nd2
    obtain ⟨m1, m2, m3⟩ := List.nodup_append.mp n2
    obtain ⟨k1, k2', k3⟩ := List.nodup_append.mp m2
    obtain ⟨ow2, g2, s2⟩ := g1.put (i := i) ⟨r1, (List.nodup_append.mpr ⟨n1, k2', fun a ha b hb => n3 a ha b (List.mem_append_right _ (List.mem_append_right _ hb))⟩), fun a ha => dis a (List.mem_append_left _ ha)⟩
    obtain ⟨ow3, g3, s3⟩ := g2.put (i := j) ⟨r2, (List.nodup_append.mpr ⟨m1, g2.nd, fun a ha b hb => by
      rcases s2 b hb with z | z
      · exact m3 a ha b (List.mem_append_right _ z)
      · exact fun e => n3 b z a (List.mem_append_left _ ha) e.symm⟩), fun a ha => dis a (List.mem_append_right _ (List.mem_append_left _ ha))⟩
    obtain ⟨ow4, g4, s4⟩ := g3.put (i := l) ⟨r3, (List.nodup_append.mpr ⟨k1, g3.nd, fun a ha b hb => by
      rcases s3 b hb with z | z
      · rcases s2 b z with z | z
        · exact k3 a ha b z
        · exact fun e => n3 b z a (List.mem_append_right _ (List.mem_append_left _ ha)) e.symm
      · exact fun e => m3 b z a (List.mem_append_left _ ha) e.symm⟩), fun a ha => dis a (List.mem_append_right _ (List.mem_append_right _ ha))⟩
    refine ⟨u, v, w, rfl, nx _ _ H1 ow4 A1 h1 (st1.sub fun a ha => ?_) g4 fun k hk => ?_⟩
    · rcases s4 a ha with z | z
      · rcases s3 a z with z | z
        · rcases s2 a z with z | z
          · exact List.mem_append_right _ z
          · exact List.mem_append_left _ (List.mem_append_left _ z)
        · exact List.mem_append_left _ (List.mem_append_right _ (List.mem_append_left _ z))
      · exact List.mem_append_left _ (List.mem_append_right _ (List.mem_append_right _ z))
    · rw [set_ne_pr hpl k hk, set_ne_pr hpj k hk, set_ne_pr hpi k hk]
  · exact h1.elim
end
end
end DL

/-! DL50: min of a list of data (tuples of numbers, nested), min of two of them. -/
namespace DL
open PySem PySem.Spec PyProof.Rows L2
open PySem.W (AlikeAll alike dataLt minD reads_keeps readsAll_len iter_listW iter_tupleW cmpIn_lt moved_old argBest_fold alikeAll dataLt_ints dataLt_tuple rowLt)
noncomputable section
section
variable {prog : Program} {w : World} {A : Around} {E : Value → Shared → Prop} {s : Shared}
theorem min_two_data {a b : Value} {x y : PyData} {as bs : List Addr} {Q : Value → Shared → Prop} (hh : A.handled = none) (ra : Reads s.heap a x as) (rb : Reads s.heap b y bs) (ha : AlikeAll [x, y]) (hu : A.units + 1 + PyData.depthAll [x, y] < cLine)
    (h : ∀ h' tk, (∀ c o, s.heap.get? c = some o → h'.get? c = some o) → Q (if dataLt y x = true then b else a) { s with heap := h', toks := tk }) : wpAny (model prog w) A (call (.builtin "min") [a, b]) Q E s := by
  have hname : (toString "min" ++ toString ".loop" : String) = "min.loop" := by decide
  refine call_function_tree F.kind_min F.plain_min F.entry_min (F.args_min2 _ _) ?_
  show wpAny _ A.in1 (Builtin.Builtins.bindParams "min" ["key", "default"] 0 ⟨[], []⟩ >>= _) _ _ s
  refine wpAny_bind (wpAny_of_eq (show Builtin.Builtins.bindParams "min" ["key", "default"] 0 ⟨[], []⟩ = pure [none, none] from rfl) ?_)
  show wpAny _ A.in1 (newTuple [a, b] >>= _) _ _ s
  refine wpAny_bind (wpAny_newObj_type ?_)
  have k1 : ∀ c o, s.heap.get? c = some o → (s.heap.push { cls := .type "tuple", data := .seq #[a, b] }).get? c = some o := fun c o e => Heap.get?_push_of_some _ e
  have hr : ReadsAll (s.heap.push { cls := .type "tuple", data := .seq #[a, b] }) (#[a, b] : Array Value).toList [x, y] _ := .cons (reads_keeps k1 ra) (.cons (reads_keeps k1 rb) .nil)
  have hT : (s.heap.push { cls := .type "tuple", data := .seq #[a, b] }).IsTuple s.heap.objs.size #[a, b] := ⟨_, Heap.get?_push_size _ rfl, rfl, 0, rfl⟩
  refine wpAny_bind (iter_tupleW (A := A.in1) (s := { s with heap := s.heap.push { cls := .type "tuple", data := .seq #[a, b] } }) hh hT fun s₂ e W st hfp hw hk => ?_)
  refine wpAny_bind (wpAny_newObj_type ?_)
  have hSf : s₂.heap.objs.size ∉ [_, _] := fun hm => Nat.lt_irrefl _ (hfp _ hm)
  rw [hname]
  refine wpAny_pure ⟨plainId_quiet F.plain_min_loop _, codeAny_min_loop_firstH W _ hw _ (cmpIn_lt (A := A.in1) (s := { s with heap := s.heap.push { cls := .type "tuple", data := .seq #[a, b] } }) hr ha (by show A.units + 1 + _ < _; exact hu)) s₂.heap.objs.size hSf (fresh_in hk) _ (by show 0 < 2; decide) (fun b o e => Heap.get?_push_of_some _ (hk b o e)) (W.frame 0 s₂ _ s₂.toks st (Nat.le_refl _) fun b _ o e => Heap.get?_push_of_some _ e) (Heap.get?_push_size _ rfl) fun v s' hP hm => ?_⟩
  obtain ⟨h', tk, rfl, hk'⟩ := moved_old e rfl (Moved.drop_new (tk := s₂.toks) hm (Nat.le_refl _))
  have hv : v = if dataLt y x = true then b else a := by
    have hP' : (#[a, b] : Array Value)[argBest (fun i j => dataLt (([x, y] : List PyData).getD i .none) (([x, y] : List PyData).getD j .none)) 1]? = some v := hP
    by_cases c : dataLt y x = true
    · rw [if_pos c]
      have e : argBest (fun i j => dataLt (([x, y] : List PyData).getD i .none) (([x, y] : List PyData).getD j .none)) 1 = 1 := by
        show (if dataLt y x = true then 1 else 0) = 1
        rw [if_pos c]
      rw [e] at hP'
      exact (Option.some.inj hP').symm
    · rw [if_neg c]
      have e : argBest (fun i j => dataLt (([x, y] : List PyData).getD i .none) (([x, y] : List PyData).getD j .none)) 1 = 0 := by
        show (if dataLt y x = true then 1 else 0) = 0
        rw [if_neg c]
      rw [e] at hP'
      exact (Option.some.inj hP').symm
  rw [hv]
  exact h h' tk fun c o e => hk' c o (k1 c o e)
/-- min of a list of data: the one of that place -/
theorem min_list_at {l : Addr} {vs : Array Value} {x : PyData} {xs : List PyData} {as : List Addr} {Q : Value → Shared → Prop} (hh : A.handled = none) (hl : s.heap.IsList l vs) (hr : ReadsAll s.heap vs.toList (x :: xs) as) (ha : AlikeAll (x :: xs)) (hu : A.units + 1 + PyData.depthAll (x :: xs) < cLine)
    (h : ∀ (i : Nat) v h' tk, vs[i]? = some v → (x :: xs).getD i .none = minD x xs → (∀ b o, s.heap.get? b = some o → h'.get? b = some o) → Q v { s with heap := h', toks := tk }) :
    wpAny (model prog w) A (call (.builtin "min") [.ref l]) Q E s := by
  have hn : vs.size = xs.length + 1 := readsAll_len hr
  refine call_min_walkH (iter_listW (A := A.in1) hh hl fun s₂ e W st hfp hw hk => ?_)
  refine ⟨_, _, _, _, _, _, _, s.heap, _, rfl, W, st, hfp, by omega, hw, hk, cmpIn_lt (A := A.in1) hr ha (by show A.units + 1 + _ < _; exact hu), fun v s' hP m => ?_⟩
  obtain ⟨h', tk, rfl, hk'⟩ := moved_old e rfl m
  have e1 : vs.size - 1 = xs.length := by omega
  have e2 := (argBest_fold dataLt PyData.none x xs xs.length (Nat.le_refl _)).2
  rw [List.take_length] at e2
  refine h _ v h' tk hP ?_ hk'
  rw [e1]
  unfold minD
  exact e2
end
def rMinD (K : Frg) : List V → Hp → VK → Prop := fun vs H Q => ∃ (a : Addr) (us : List V) (x : PyData) (xs : List PyData), vs = [V.ref a] ∧ SqL K H a us ∧ DpAll K H us (x :: xs) ∧ AlikeAll (x :: xs) ∧ PyData.depthAll (x :: xs) < 60 ∧ ∀ (i : Nat) u, us[i]? = some u → (x :: xs).getD i .none = minD x xs → Q u H
def rMin2D (K : Frg) : List V → Hp → VK → Prop := fun vs H Q => ∃ (u v : V) (x y : PyData), vs = [u, v] ∧ Dp K H u x ∧ Dp K H v y ∧ AlikeAll [x, y] ∧ PyData.depthAll [x, y] < 60 ∧ Q (if dataLt y x = true then v else u) H
theorem vals_get {us : List V} {its : List Value} (r : Vals us its) {i : Nat} {v : Value} (h : its[i]? = some v) : ∃ u, us[i]? = some u ∧ RelV u v := by
  induction r generalizing i with
  | nil => cases h
  | cons p q ih =>
    cases i with
    | zero => cases Option.some.inj h; exact ⟨_, rfl, p⟩
    | succ i => exact ih h
theorem cr_minD {X : Cx} (hc : X.calm = true) (hu : X.A.units + 64 < cLine) : CallR X (.builtin "min") (rMinD X.K) := by
  intro pins s σ H vs us Q I r h
  obtain ⟨a, ws, x, xs, rfl, hs, hd, ha, hdp, q⟩ := h
  obtain ⟨its, rv, hl, _⟩ := I.list hs
  rw [Vals.ref1 r]
  obtain ⟨as, hr⟩ := Dp.readsAll I (x :: xs) _ its hd rv
  exact min_list_at (I.ok.hd hc) hl.isList hr ha (by omega) fun i v h' tk hi hm hk => by
    obtain ⟨u, e1, r1⟩ := vals_get rv (by simpa using hi)
    exact ⟨u, H, I.kept hk, r1, q i u e1 hm⟩
theorem cr_min2D {X : Cx} (hc : X.calm = true) (hu : X.A.units + 64 < cLine) : CallR X (.builtin "min") (rMin2D X.K) := by
  intro pins s σ H vs us Q I r h
  obtain ⟨u, v, x, y, rfl, hx, hy, ha, hdp, q⟩ := h
  obtain ⟨u', v', rfl, r1, r2⟩ := vals2 r
  obtain ⟨as, ra⟩ := Dp.reads I x u u' hx r1
  obtain ⟨bs, rb⟩ := Dp.reads I y v v' hy r2
  refine min_two_data (I.ok.hd hc) ra rb ha (by omega) fun h' tk hk => ⟨_, H, I.kept hk, ?_, q⟩
  by_cases c : dataLt y x = true
  · rw [if_pos c, if_pos c]; exact r2
  · rw [if_neg c, if_neg c]; exact r1
/-! tuples of numbers -/
abbrev tI (ns : List Int) : D := .tup (ns.map .int)
abbrev pI (ns : List Int) : PyData := .tuple (ns.map .int)
theorem lt_pI (xs ys : List Int) : dataLt (pI xs) (pI ys) = decide (xs < ys) := by
  rw [dataLt_tuple]; exact dataLt_ints xs ys
theorem alike_ints : ∀ xs ys : List Int, alikeAll (xs.map .int) (ys.map .int) = true
  | [], _ => by rw [List.map_nil, alikeAll]
  | _ :: _, [] => by rw [List.map_nil, List.map_cons, alikeAll]
  | x :: xs, y :: ys => by
    rw [List.map_cons, List.map_cons, alikeAll, alike_ints xs ys, alike]; rfl
theorem alike_pI (nss : List (List Int)) : AlikeAll (nss.map pI) := by
  constructor
  · intro x hx y hy
    obtain ⟨a, _, rfl⟩ := List.mem_map.mp hx
    obtain ⟨b, _, rfl⟩ := List.mem_map.mp hy
    rw [alike]; exact alike_ints a b
  · intro x hx e
    obtain ⟨a, _, rfl⟩ := List.mem_map.mp hx
    cases e
theorem depth_ints : ∀ xs : List Int, PyData.depthAll (xs.map .int) ≤ 1
  | [] => by rw [List.map_nil, PyData.depthAll]; decide
  | x :: xs => by
    have := depth_ints xs
    rw [List.map_cons, PyData.depthAll, PyData.depth]
    omega
theorem depth_pI : ∀ nss : List (List Int), PyData.depthAll (nss.map pI) ≤ 3
  | [] => by rw [List.map_nil, PyData.depthAll]; decide
  | x :: xs => by
    have := depth_pI xs
    have := depth_ints x
    rw [List.map_cons, PyData.depthAll, PyData.depth]
    omega
def minI (x : List Int) (xs : List (List Int)) : List Int := xs.foldl (fun a y => if y < a then y else a) x
theorem minD_pI : ∀ (xs : List (List Int)) (x : List Int), minD (pI x) (xs.map pI) = pI (minI x xs)
  | [], _ => rfl
  | y :: xs, x => by
    show minD (if dataLt (pI y) (pI x) = true then pI y else pI x) (xs.map pI) = pI (minI (if y < x then y else x) xs)
    rw [lt_pI]
    by_cases c : y < x
    · rw [if_pos (decide_eq_true c), if_pos c]; exact minD_pI xs y
    · rw [if_neg (by rw [decide_eq_false c]; decide), if_neg c]; exact minD_pI xs x
theorem minI_low : ∀ (xs : List (List Int)) (x : List Int), minI x xs ≤ x ∧ ∀ y ∈ xs, minI x xs ≤ y
  | [], x => ⟨List.le_refl x, fun y h => nomatch h⟩
  | y :: xs, x => by
    show minI (if y < x then y else x) xs ≤ x ∧ ∀ z ∈ y :: xs, minI (if y < x then y else x) xs ≤ z
    by_cases c : y < x
    · rw [if_pos c]
      obtain ⟨h1, h2⟩ := minI_low xs y
      refine ⟨List.le_trans h1 (List.le_of_lt c), fun z hz => ?_⟩
      rcases List.mem_cons.mp hz with rfl | hz
      · exact h1
      · exact h2 z hz
    · rw [if_neg c]
      obtain ⟨h1, h2⟩ := minI_low xs x
      refine ⟨h1, fun z hz => ?_⟩
      rcases List.mem_cons.mp hz with rfl | hz
      · exact List.le_trans h1 (List.not_lt.mp c)
      · exact h2 z hz
theorem pI_inj {xs ys : List Int} (h : pI xs = pI ys) : xs = ys := by
  have h : xs.map PyData.int = ys.map PyData.int := by injection h
  exact List.map_inj_right (fun a b e => by injection e) |>.mp h
theorem dp_ints {K : Frg} {H : Hp} : ∀ ns : List Int, DpAll K H (ns.map V.int) (ns.map .int)
  | [] => .nil
  | n :: ns => .cons (.int n) (dp_ints ns)
theorem RA.dpI {K : Frg} {A : Addr → Prop} {H : Hp} {ns : List Int} {v : V} (h : RA K A H (tI ns) v) : Dp K H v (pI ns) ∧ RA K No H (tI ns) v := by
  obtain ⟨p, vs, e, t, r⟩ := h
  subst e
  have e := RAs.ints r
  subst e
  exact ⟨.tup t (dp_ints ns), p, _, rfl, t, RAs.of_ints ns⟩
theorem RAs.dpI {K : Frg} {A : Addr → Prop} {H : Hp} : ∀ {nss : List (List Int)} {vs : List V}, RAs K A H (nss.map tI) vs → DpAll K H vs (nss.map pI)
  | [], _, h => by rw [show _ = [] from h]; exact .nil
  | ns :: nss, _, ⟨w, ws, e, h, t⟩ => by subst e; exact .cons h.dpI.1 (RAs.dpI t)
def oMinI : List KD → (KD → Prop) → Prop := fun zs P => match zs with
  | [(_, .lst ds)] => ∃ nss : List (List Int), ds = nss.map tI ∧ nss ≠ [] ∧ ∀ m ∈ nss, (∀ y ∈ nss, m ≤ y) → P (.fl, tI m)
  | _ => False
def oMin2I : List KD → (KD → Prop) → Prop := fun zs P => match zs with
  | [(_, .tup a), (_, .tup b)] => ∃ xs ys : List Int, a = xs.map .int ∧ b = ys.map .int ∧ P (.fl, tI (if ys < xs then ys else xs))
  | _ => False
theorem cs_minI {K : Frg} : CallS K (rMinD K) oMinI := by
  intro B F H vs xs P Q pr hF h q
  unfold oMinI at h
  split at h
  · rename_i k ds
    obtain ⟨nss, rfl, hne, hP⟩ := h
    obtain ⟨v, ev, p⟩ := pr.get1
    obtain ⟨a, us, ea, t, r⟩ := p.lstT
    subst ev ea
    cases nss with
    | nil => exact absurd rfl hne
    | cons x xs =>
      have r := r.elor
      have hd := depth_pI (x :: xs)
      refine ⟨a, us, pI x, xs.map pI, rfl, .of t, RAs.dpI r, alike_pI (x :: xs), by
        rw [List.map_cons] at hd; omega, fun i u hu hm => ?_⟩
      obtain ⟨d, e1, r1⟩ := r.getV hu
      rw [List.getElem?_map] at e1
      cases e2 : (x :: xs)[i]? with
      | none => rw [e2] at e1; cases e1
      | some m =>
        rw [e2] at e1
        cases Option.some.inj e1
        rw [minD_pI] at hm
        have e3 : (pI x :: xs.map pI).getD i .none = pI m := by
          rw [← List.map_cons (f := pI), List.getD_eq_getElem?_getD, List.getElem?_map, e2]; rfl
        have e4 : m = minI x xs := pI_inj (e3.symm.trans hm)
        obtain ⟨l1, l2⟩ := minI_low xs x
        refine q _ _ H (hP m (List.mem_of_getElem? e2) fun y hy => ?_) (Same.refl H) (.fl r1.dpI.2)
        rw [e4]
        rcases List.mem_cons.mp hy with rfl | hy
        · exact l1
        · exact l2 y hy
  · exact h.elim
theorem cs_min2I {K : Frg} : CallS K (rMin2D K) oMin2I := by
  intro B F H vs xs P Q pr hF h q
  unfold oMin2I at h
  split at h
  · rename_i k a k' b
    obtain ⟨xs, ys, rfl, rfl, hP⟩ := h
    obtain ⟨u, v, ev, p, p'⟩ := pr.get2
    subst ev
    have h1 := (show RA _ _ _ (tI xs) u from p.ra).dpI
    have h2 := (show RA _ _ _ (tI ys) v from p'.ra).dpI
    have hd := depth_pI [xs, ys]
    refine ⟨u, v, pI xs, pI ys, rfl, h1.1, h2.1, alike_pI [xs, ys], by
      have : PyData.depthAll [pI xs, pI ys] ≤ 3 := hd
      omega, ?_⟩
    rw [lt_pI]
    by_cases c : ys < xs
    · rw [if_pos (decide_eq_true c)]
      rw [if_pos c] at hP
      exact q _ _ H hP (Same.refl H) (.fl h2.2)
    · rw [if_neg (by rw [decide_eq_false c]; decide)]
      rw [if_neg c] at hP
      exact q _ _ H hP (Same.refl H) (.fl h1.2)
  · exact h.elim
end
end DL

/-! DL51: two items of one's own list of lists exchanged (xs[i], xs[j] = xs[j], xs[i]). -/
namespace DL
open PySem PySem.Spec PyProof.Rows L2
noncomputable section
section
variable {K : Frg} {A : Addr → Prop} {H : Hp}
def RsF (K : Frg) (A : Addr → Prop) (H : Hp) (ds : List D) (vs : List V) (fs : List (List Addr)) : Prop := vs.length = ds.length ∧ fs.length = ds.length ∧ ∀ (i : Nat) d v f, ds[i]? = some d → vs[i]? = some v → fs[i]? = some f → R K A H d v f
theorem rs_to : ∀ {ds : List D} {vs : List V} {fp : List Addr}, Rs K A H ds vs fp → ∃ fs, fp = fs.flatten ∧ RsF K A H ds vs fs
  | [], _, _, ⟨e, e2⟩ => by subst e e2; exact ⟨[], rfl, rfl, rfl, fun i d v f h => by simp at h⟩
  | d :: ds, _, _, ⟨w, ws, f1, f2, e, e2, r, rs⟩ => by
    subst e e2
    obtain ⟨fs, e3, h1, h2, h3⟩ := rs_to rs
    subst e3
    refine ⟨f1 :: fs, rfl, by simp [h1], by simp [h2], fun i d' v f a b c => ?_⟩
    cases i with
    | zero => cases Option.some.inj a; cases Option.some.inj b; cases Option.some.inj c; exact r
    | succ i => exact h3 i d' v f a b c
theorem rs_of : ∀ {ds : List D} {vs : List V} {fs : List (List Addr)}, RsF K A H ds vs fs → Rs K A H ds vs fs.flatten
  | [], vs, fs, ⟨h1, h2, _⟩ => by
    have e1 : vs = [] := List.eq_nil_of_length_eq_zero h1
    have e2 : fs = [] := List.eq_nil_of_length_eq_zero h2
    subst e1 e2
    exact .nil
  | d :: ds, [], _, ⟨h1, _, _⟩ => by simp at h1
  | d :: ds, v :: vs, [], ⟨_, h2, _⟩ => by simp at h2
  | d :: ds, v :: vs, f :: fs, ⟨h1, h2, h3⟩ => .cons (h3 0 d v f rfl rfl rfl) (rs_of ⟨by simpa using h1, by simpa using h2, fun i d v f a b c => h3 (i + 1) d v f a b c⟩)
def swpL {α : Type} (l : List α) (m k : Nat) (x y : α) : List α := (l.set m y).set k x
theorem swpL_get {α : Type} {l : List α} {m k i : Nat} {x y z : α} (hm : l[m]? = some x) (hk : l[k]? = some y) (h : (swpL l m k x y)[i]? = some z) : (i = k ∧ z = x) ∨ (i ≠ k ∧ i = m ∧ z = y) ∨ (i ≠ k ∧ i ≠ m ∧ l[i]? = some z) := by
  have lm := (List.getElem?_eq_some_iff.mp hm).1
  have lk := (List.getElem?_eq_some_iff.mp hk).1
  unfold swpL at h
  rw [List.getElem?_set] at h
  by_cases e : k = i
  · rw [if_pos e, if_pos (by rw [List.length_set]; omega)] at h
    exact .inl ⟨e.symm, (Option.some.inj h).symm⟩
  · rw [if_neg e, List.getElem?_set] at h
    by_cases e2 : m = i
    · rw [if_pos e2, if_pos (by omega)] at h
      exact .inr (.inl ⟨fun z => e z.symm, e2.symm, (Option.some.inj h).symm⟩)
    · rw [if_neg e2] at h
      exact .inr (.inr ⟨fun z => e z.symm, fun z => e2 z.symm, h⟩)
theorem swpL_perm {α : Type} {l : List α} {m k : Nat} {x y : α} (hm : l[m]? = some x) (hk : l[k]? = some y) : (swpL l m k x y).Perm l := by
  obtain ⟨lm, em⟩ := List.getElem?_eq_some_iff.mp hm
  obtain ⟨lk, ek⟩ := List.getElem?_eq_some_iff.mp hk
  subst em ek
  exact List.set_set_perm lm lk
theorem swpL_len {α : Type} {l : List α} {m k : Nat} {x y : α} : (swpL l m k x y).length = l.length := by unfold swpL; rw [List.length_set, List.length_set]
theorem RsF.swap {ds : List D} {vs : List V} {fs : List (List Addr)} {m k : Nat} {dm dk : D} {vm vk : V} {fm fk : List Addr} (h : RsF K A H ds vs fs) (d1 : ds[m]? = some dm) (d2 : ds[k]? = some dk) (v1 : vs[m]? = some vm) (v2 : vs[k]? = some vk) (f1 : fs[m]? = some fm) (f2 : fs[k]? = some fk) :
    RsF K A H (swpL ds m k dm dk) (swpL vs m k vm vk) (swpL fs m k fm fk) := by
  obtain ⟨h1, h2, h3⟩ := h
  refine ⟨by rw [swpL_len, swpL_len, h1], by rw [swpL_len, swpL_len, h2], fun i d v f a b c => ?_⟩
  rcases swpL_get d1 d2 a with ⟨e, rfl⟩ | ⟨e, e', rfl⟩ | ⟨e, e', a⟩
  · rcases swpL_get v1 v2 b with ⟨_, rfl⟩ | ⟨n, _, _⟩ | ⟨n, _, _⟩
    · rcases swpL_get f1 f2 c with ⟨_, rfl⟩ | ⟨n, _, _⟩ | ⟨n, _, _⟩
      · exact h3 m _ _ _ d1 v1 f1
      · exact absurd e n
      · exact absurd e n
    · exact absurd e n
    · exact absurd e n
  · rcases swpL_get v1 v2 b with ⟨n, _⟩ | ⟨_, _, rfl⟩ | ⟨_, n, _⟩
    · exact absurd n e
    · rcases swpL_get f1 f2 c with ⟨n, _⟩ | ⟨_, _, rfl⟩ | ⟨_, n, _⟩
      · exact absurd n e
      · exact h3 k _ _ _ d2 v2 f2
      · exact absurd e' n
    · exact absurd e' n
  · rcases swpL_get v1 v2 b with ⟨n, _⟩ | ⟨_, n, _⟩ | ⟨_, _, b⟩
    · exact absurd n e
    · exact absurd n e'
    · rcases swpL_get f1 f2 c with ⟨n, _⟩ | ⟨_, n, _⟩ | ⟨_, _, c⟩
      · exact absurd n e
      · exact absurd n e'
      · exact h3 i _ _ _ a b c
end
def sSwR (x i j : Nat) : SF := fun D ρ => match ρ[x]?, ρ[i]?, ρ[j]? with
  | some (some (.ow, .lst ds)), some (some (_, .int a)), some (some (_, .int b)) => ∃ m k u w, ixN ds.length a = some m ∧ ixN ds.length b = some k ∧ ds[m]? = some u ∧ ds[k]? = some w ∧ D.nx (ρ.set x (some (.ow, .lst (swpL ds m k u w))))
  | _, _, _ => False
@[irreducible] def sSwRX (x i j : Nat) : SF := fun D ρ => hid (sSwR x i j D ρ)
theorem eqSwR (x i j : Nat) : sSwRX x i j = sSwR x i j := by unfold sSwRX; funext D ρ; rw [hid_eq]
theorem go_swR {x i j : Nat} {D : DEnds} {ρ : Ro} (h : sSwR x i j D ρ) : sSwRX x i j D ρ := by rw [eqSwR]; exact h
theorem at_ixN {α : Type} {xs : List α} {i : Int} {j : Nat} {x : α} (h : ixN xs.length i = some j) (e : xs[j]? = some x) : atI xs i = some x := by
  unfold atI; rw [h]; exact e
section
variable {X : Cx} {E : XK} {pr : List Nat} {pos : Pos}
theorem ds_swR (x i j : Nat) {nx ni nj : Str} {q1 q2 q3 q4 q5 q6 q7 q8 p1 p2 p3 p4 pt pt2 : Pos} {kt kt2 : Nat} (hc : X.calm = true)
    (ex : X.N[x]? = some nx := by rfl) (ei : X.N[i]? = some ni := by rfl) (ej : X.N[j]? = some nj := by rfl)
    (vx : Vis X.env.scope nx := by first | exact Or.inl rfl | exact Or.inr (Or.inl rfl) | exact Or.inr (Or.inr rfl)) (vi : Vis X.env.scope ni := by first | exact Or.inl rfl | exact Or.inr (Or.inl rfl) | exact Or.inr (Or.inr rfl)) (vj : Vis X.env.scope nj := by first | exact Or.inl rfl | exact Or.inr (Or.inl rfl) | exact Or.inr (Or.inr rfl))
    (dx : (nx == ("__debug__" : Str)) = false := by decide) (di : (ni == ("__debug__" : Str)) = false := by decide) (dj : (nj == ("__debug__" : Str)) = false := by decide)
    (cx : (nx == ("__classdict__" : Str)) = false := by decide) (ci : (ni == ("__classdict__" : Str)) = false := by decide) (cj : (nj == ("__classdict__" : Str)) = false := by decide)
    (hpx : x ∉ pr := by decide)
    (ls1 : PlainIx (.Name nj q6) := by exact fun _ _ => rfl) (ls2 : PlainIx (.Name ni q8) := by exact fun _ _ => rfl)
    (hst1 : starEach [.Subscript (.Name nx q5) (.Name nj q6) p3, .Subscript (.Name nx q7) (.Name ni q8) p4] X.env = (false, eval (.Subscript (.Name nx q5) (.Name nj q6) p3) X.env) :: starEach [.Subscript (.Name nx q7) (.Name ni q8) p4] X.env := by rfl)
    (hst2 : starEach [.Subscript (.Name nx q7) (.Name ni q8) p4] X.env = (false, eval (.Subscript (.Name nx q7) (.Name ni q8) p4) X.env) :: starEach [] X.env := by rfl)
    (hs : swapsWithSole [.Tuple [.Subscript (.Name nx q1) (.Name ni q2) p1, .Subscript (.Name nx q3) (.Name nj q4) p2] kt pt] (.Tuple [.Subscript (.Name nx q5) (.Name nj q6) p3, .Subscript (.Name nx q7) (.Name ni q8) p4] kt2 pt2) pos.line X.env = pure false := by rfl)
    (hw : swappedStores [.Tuple [.Subscript (.Name nx q1) (.Name ni q2) p1, .Subscript (.Name nx q3) (.Name nj q4) p2] kt pt] (.Tuple [.Subscript (.Name nx q5) (.Name nj q6) p3, .Subscript (.Name nx q7) (.Name ni q8) p4] kt2 pt2) X.env = pure none := by rfl)
    (h1 : (assignEach [.Tuple [.Subscript (.Name nx q1) (.Name ni q2) p1, .Subscript (.Name nx q3) (.Name nj q4) p2] kt pt] X.env).map (·.2) = [assign (.Tuple [.Subscript (.Name nx q1) (.Name ni q2) p1, .Subscript (.Name nx q3) (.Name nj q4) p2] kt pt) X.env] := by rfl)
    (hn : (assignEach [.Subscript (.Name nx q1) (.Name ni q2) p1, .Subscript (.Name nx q3) (.Name nj q4) p2] X.env).length = 2 := by rfl) (hst : (assignEach [.Subscript (.Name nx q1) (.Name ni q2) p1, .Subscript (.Name nx q3) (.Name nj q4) p2] X.env).findIdx? (·.1) = none := by rfl)
    (ha1 : (assignEach [.Subscript (.Name nx q1) (.Name ni q2) p1, .Subscript (.Name nx q3) (.Name nj q4) p2] X.env).map (·.2) = assign (.Subscript (.Name nx q1) (.Name ni q2) p1) X.env :: (assignEach [.Subscript (.Name nx q3) (.Name nj q4) p2] X.env).map (·.2) := by rfl)
    (ha2 : (assignEach [.Subscript (.Name nx q3) (.Name nj q4) p2] X.env).map (·.2) = assign (.Subscript (.Name nx q3) (.Name nj q4) p2) X.env :: (assignEach [] X.env).map (·.2) := by rfl)
    (hg1 : ∀ v, assign (.Subscript (.Name nx q1) (.Name ni q2) p1) X.env v = (do
      let a ← holding [v] (eval (.Name nx q1) X.env)
      let b ← holding [v, a] (eval (.Name ni q2) X.env)
      standAt p1
      holding [v, a, b] (setItem a b v)
      release [v, a, b] []) := by intro _; rfl)
    (hg2 : ∀ v, assign (.Subscript (.Name nx q3) (.Name nj q4) p2) X.env v = (do
      let a ← holding [v] (eval (.Name nx q3) X.env)
      let b ← holding [v, a] (eval (.Name nj q4) X.env)
      standAt p2
      holding [v, a, b] (setItem a b v)
      release [v, a, b] []) := by intro _; rfl) :
    DS X E pr (.Assign [.Tuple [.Subscript (.Name nx q1) (.Name ni q2) p1, .Subscript (.Name nx q3) (.Name nj q4) p2] kt pt] (.Tuple [.Subscript (.Name nx q5) (.Name nj q6) p3, .Subscript (.Name nx q7) (.Name ni q8) p4] kt2 pt2) pos) (sSwR x i j) := by
  have pvx : ∀ q, PE X (.Name nx q) (tVar x) := fun q => pe_var ex vx dx cx
  have pvi : ∀ q, PE X (.Name ni q) (tVar i) := fun q => pe_var ei vi di ci
  have pvj : ∀ q, PE X (.Name nj q) (tVar j) := fun q => pe_var ej vj dj cj
  refine ⟨_, ps_asg (pe_tup (pa_cons (pe_ix ix_seq (pvx q5) (pvj q6) ls1) (pa_cons (pe_ix ix_seq (pvx q7) (pvi q8) ls2) pa_nil hst2) hst1)) (pg_tup hc (pgs_cons (pg_sub (pvx q1) (pvi q2) set_list hg1) (pgs_cons (pg_sub (pvx q3) (pvj q4) set_list hg2) pgs_nil ha2) ha1) hn hst) hs hw h1, fun σ H A ρ ow T D gd h nx rt exc => ?_⟩
  unfold sSwR at h
  split at h
  · rename_i ds ki a kj b rx ri rj
    obtain ⟨m, k, u, w, hm, hk, hu, hw', h⟩ := h
    obtain ⟨v, hv, pl⟩ := PlAt.root (d := .lst ds) gd rx (.inr rfl)
    obtain ⟨vi', fi, hvi, ri', _, si⟩ := gd.slot ri
    obtain ⟨vj', fj, hvj, rj', _, sj⟩ := gd.slot rj
    have evi : vi' = .int a := (VR.rdk (F := No) ri' si).ra
    have evj : vj' = .int b := (VR.rdk (F := No) rj' sj).ra
    subst evi evj
    obtain ⟨fe, r, nd, hfe, _, mtt⟩ := pl.mut (fa := []) gd gd.nd fun a h => nomatch h
    obtain ⟨p, vs, fps, rfl, rfl, hp, rs⟩ := r
    obtain ⟨fs, efs, hF⟩ := rs_to rs
    subst efs
    obtain ⟨l1, l2, l3⟩ := hF
    have lm := (List.getElem?_eq_some_iff.mp hu).1
    have lk := (List.getElem?_eq_some_iff.mp hw').1
    have vm : vs[m]? = some vs[m] := List.getElem?_eq_getElem (by omega)
    have vk : vs[k]? = some vs[k] := List.getElem?_eq_getElem (by omega)
    have fm : fs[m]? = some fs[m] := List.getElem?_eq_getElem (by omega)
    have fk : fs[k]? = some fs[k] := List.getElem?_eq_getElem (by omega)
    have sq : SqL X.K H p vs := .of hp
    refine ⟨_, hv, _, hvj, .inl ⟨p, vs, b, vs[k], rfl, rfl, sq, at_ixN (by rw [l1]; exact hk) vk, ?_⟩⟩
    refine ⟨_, hv, _, hvi, .inl ⟨p, vs, a, vs[m], rfl, rfl, sq, at_ixN (by rw [l1]; exact hm) vm, ?_⟩⟩
    refine ⟨by rw [sizeLine_eq]; show 2 ≤ 16777216; decide, fun q hq => ?_⟩
    have npq : p ≠ q := fun e => by rw [e, hq] at hp; cases hp
    have hp1 : upd H q (.tup [vs[k], vs[m]]) p = some (.lst vs) := by rw [upd_ne npq]; exact hp
    refine ⟨q, [vs[k], vs[m]], rfl, .inl (.inl upd_same), rfl, vs[k], [vs[m]], rfl, ?_⟩
    refine ⟨_, hv, _, hvi, p, vs, a, m, rfl, rfl, hp1, by rw [l1]; exact hm, vs[m], [], rfl, ?_⟩
    refine ⟨_, hv, _, hvj, p, vs.set m vs[k], b, k, rfl, rfl, upd_same, by rw [List.length_set, l1]; exact hk, rfl, ?_⟩
    have nd1 := (List.nodup_cons.mp (show (p :: fs.flatten).Nodup from nd))
    have pm : (swpL fs m k fs[m] fs[k]).flatten.Perm fs.flatten := (swpL_perm fm fk).flatten
    have hsw := RsF.swap ⟨l1, l2, l3⟩ hu hw' vm vk fm fk
    have mu : ∀ u, H p = some u → ¬ Imm u := fun u e => by rw [hp] at e; cases e; exact fun z => z
    have keepF : KeepF No (swpL fs m k fs[m] fs[k]).flatten H (upd (upd (upd H q (.tup [vs[k], vs[m]])) p (.lst (vs.set m vs[k]))) p (.lst ((vs.set m vs[k]).set k vs[m]))) := fun c o e hc => by
      have ncp : c ≠ p := fun z => by
        subst z
        rcases hc with hc | hc | hc
        · exact nd1.1 (pm.mem_iff.mp hc)
        · exact hc
        · exact mu o e hc
      have ncq : c ≠ q := fun z => by rw [z, hq] at e; cases e
      rw [upd_ne ncp, upd_ne ncp, upd_ne ncq]; exact e
    have r' : R X.K No (upd (upd (upd H q (.tup [vs[k], vs[m]])) p (.lst (vs.set m vs[k]))) p (.lst ((vs.set m vs[k]).set k vs[m]))) (.lst (swpL ds m k u w)) (.ref p) (p :: (swpL fs m k fs[m] fs[k]).flatten) :=
      ⟨p, swpL vs m k vs[m] vs[k], _, rfl, rfl, upd_same, Rs.keep _ _ _ keepF (rs_of hsw)⟩
    have nd' : (p :: (swpL fs m k fs[m] fs[k]).flatten).Nodup := List.nodup_cons.mpr ⟨fun h => nd1.1 (pm.mem_iff.mp h), pm.nodup_iff.mpr nd1.2⟩
    obtain ⟨ow', st', g', _⟩ := mtt (.lst (swpL ds m k u w)) .ow [] (.fl, .non) .non _ _ (fun c o e n => by
      have ncp : c ≠ p := fun z => n (by rw [z]; exact List.mem_cons_self)
      have ncq : c ≠ q := fun z => by rw [z, hq] at e; cases e
      rw [upd_ne ncp, upd_ne ncp, upd_ne ncq]; exact e) r' (.inl rfl) ⟨rfl, rfl⟩ nd' fun c hc => by
        rcases List.mem_cons.mp hc with z | z
        · exact .inl (by rw [z]; exact List.mem_cons_self)
        · exact .inl (List.mem_cons_of_mem _ (pm.mem_iff.mp z))
    exact nx _ σ _ ow' A h (st'.sub fun a h => by simpa using h) g' fun c hc => rfl
  · exact h.elim
end
end
end DL

/-! DL52: lists of what never changes (tuples): added, turned about; x in such a list; min of any data. -/
namespace DL
open PySem PySem.Spec PyProof.Rows L2
open PySem.W (AlikeAll minD)
theorem RoomG.units65 {k : Nat} {A : Around} (h : RoomG k A) : A.units + 65 < cLine := by have := h.room.un; omega
noncomputable section
def oAddM : KD → KD → (KD → Prop) → Prop := fun x y P => match x.2.lsq, y.2.lsq with
  | some a, some b => D.imms a = true ∧ D.imms b = true ∧ a.length + b.length ≤ 10000000 ∧ P (.sh, .lst (a ++ b))
  | _, _ => False
theorem os_addM {K : Frg} : OpS K (rCatK K) oAddM := by
  intro B F H v w x y P Q px py hF h q
  obtain ⟨k, d⟩ := x
  obtain ⟨k', d'⟩ := y
  unfold oAddM at h
  split at h
  · rename_i a b e1 e2
    obtain ⟨h1, h2, h3, hP⟩ := h
    obtain ⟨p, vs, rfl, t, r⟩ := px.lsq e1
    obtain ⟨p', vs', rfl, t', r'⟩ := py.lsq e2
    have r0 : RAs K No H a vs := RAs.imm_no a vs (RAs.elor (B := B) (F := F) r) h1
    have r0' : RAs K No H b vs' := RAs.imm_no b vs' (RAs.elor (B := B) (F := F) r') h2
    exact ⟨p, p', vs, vs', rfl, rfl, t, t', by rw [r.len, r'.len]; exact sz7 h3, fun l hl => q _ _ _ hP (same_upd hl) (pr_lst (k := .fl) (r0.append r0') hl (hF l hl))⟩
  · exact h.elim
def oInM (neg : Bool) : KD → KD → (KD → Prop) → Prop := fun x y P => match y.2.lsq with
  | some ds => x.2.okE ∧ (D.lst ds).okE ∧ P (.fl, .bl (if neg then !((D.toPs ds).any fun z => PyData.eqv z x.2.toP) else (D.toPs ds).any fun z => PyData.eqv z x.2.toP))
  | none => False
theorem lsq_toP {d : D} {ds : List D} (e : d.lsq = some ds) : d.toP = (D.lst ds).toP := by
  cases d with
  | lst a => cases e; rfl
  | kst a => cases e; rfl
  | _ => cases e
theorem os_inM {K : Frg} : OpS K (rInD K) (oInM false) := by
  intro B F H v w x y P Q px py hF h q
  unfold oInM at h
  split at h
  · rename_i ds e
    obtain ⟨h1, h2, hP⟩ := h
    have hy : Dp K H w y.2.toP := py.dp (by unfold D.okE; rw [lsq_toP e]; exact h2)
    rw [lsq_toP e] at hy
    exact ⟨x.2.toP, D.toPs ds, px.dp h1, hy, h1, h2, q _ _ _ hP (Same.refl H) .bl⟩
  · exact h.elim
theorem os_inMn {K : Frg} : OpS K (rNotInD K) (oInM true) := by
  intro B F H v w x y P Q px py hF h q
  unfold oInM at h
  split at h
  · rename_i ds e
    obtain ⟨h1, h2, hP⟩ := h
    have hy : Dp K H w y.2.toP := py.dp (by unfold D.okE; rw [lsq_toP e]; exact h2)
    rw [lsq_toP e] at hy
    exact ⟨x.2.toP, D.toPs ds, px.dp h1, hy, h1, h2, q _ _ _ hP (Same.refl H) .bl⟩
  · exact h.elim
def oMinA : List KD → (KD → Prop) → Prop := fun zs P => match zs with
  | [(_, .lst ds)] => ds ≠ [] ∧ D.imms ds = true ∧ PyData.canLayAll0 (D.toPs ds) = true ∧ AlikeAll (D.toPs ds) ∧ PyData.depthAll (D.toPs ds) < 60 ∧ ∀ d ∈ ds, P (.fl, d)
  | _ => False
theorem cs_minA {K : Frg} : CallS K (rMinD K) oMinA := by
  intro B F H vs xs P Q pr hF h q
  unfold oMinA at h
  split at h
  · rename_i k ds
    obtain ⟨hne, hi, hc, ha, hd, hP⟩ := h
    obtain ⟨v, ev, p⟩ := pr.get1
    obtain ⟨a, us, ea, t, r⟩ := p.lstT
    subst ev ea
    cases ds with
    | nil => exact absurd rfl hne
    | cons x xs =>
      have r := r.elor
      refine ⟨a, us, x.toP, D.toPs xs, rfl, .of t, RAs.dp _ _ r hc, ha, hd, fun i u hu hm => ?_⟩
      obtain ⟨d, e1, r1⟩ := r.getV hu
      have r2 := RAs.imm_no _ _ r hi
      obtain ⟨w, e2, r3⟩ := r2.get e1
      rw [hu] at e2
      cases Option.some.inj e2
      exact q _ _ H (hP d (List.mem_of_getElem? e1)) (Same.refl H) (.fl r3)
  · exact h.elim
section
variable {X : Cx} {pos : Pos} {a : Expr} {fa : PF}
def pRevM (f : PF) : PF := fun ρ P => f ρ fun z => match z.2.lsq with
  | some ds => D.imms ds = true ∧ P (.sh, .lst ds.reverse)
  | none => False
theorem dp_revM {k : Nat} {p1 p2 p3 : Pos} (ha : DP X a fa) : DP X (.Subscript a (.Slice none none (some (.UnaryOp .USub (.Constant (.int 1) k p1) p2)) p3) pos) (pRevM fa) := by
  obtain ⟨ta, ea, sa⟩ := ha.run
  refine ⟨_, pe_revL ea, fun σ H A ρ ow Q P gd hf q => ?_⟩
  refine sa σ H A ρ ow _ _ gd hf fun z v H1 hz s1 p1 => ?_
  obtain ⟨kz, d⟩ := z
  split at hz
  · rename_i ds e
    obtain ⟨hc, hP⟩ := hz
    obtain ⟨p, vs, rfl, t, r⟩ := p1.lsq e
    have r0 : RAs X.K No H1 ds vs := RAs.imm_no ds vs (RAs.elor (B := BB A ow) (F := Fre H) r) hc
    exact ⟨p, vs, rfl, t, fun l hl => q _ _ _ hP (s1.trans (same_upd hl)) (pr_lst (k := .fl) r0.reverse hl (s1.free hl))⟩
  · exact hz.elim
end
end
end DL

/-! DL53: t[::-1] of a tuple; a list locked for good if it is not yet. -/
namespace HT
open PySem PySem.Spec PyProof.Rows
section
variable {prog : Program} {w : World} {A : Around} {E : Value → Shared → Prop} {s : Shared}
theorem sliceApplied_rev {sl : Addr} {vs : Value} {n : Nat} {Q : Int × Int × Nat → Shared → Prop} (hs : s.heap.IsSliceOf sl .none .none vs) (ps : IsPart vs (some (-1)))
    (h : Q ((n : Int) - 1, -1, n) s) : wpAny (model prog w) A (Builtin.Slice.sliceApplied (.ref sl) (pure (n : Int))) Q E s := by
  obtain ⟨os, hos, hcs, hds⟩ := id hs
  unfold Builtin.Slice.sliceApplied Builtin.Slice.sliceFields
  refine wpAny_bind (wpAny_bind (wpAny_field hos hds (x := .none) rfl (wpAny_bind (wpAny_field hos hds (x := .none) rfl (wpAny_bind (wpAny_field hos hds (x := vs) rfl (wpAny_pure ?_)))))))
  refine wpAny_bind (slicePart_ ps ?_)
  show wpAny _ _ (if ((-1 : Int) == 0) = true then _ else _) _ _ s
  rw [if_neg (by decide)]
  refine wpAny_bind (slicePart_none (wpAny_bind (slicePart_none (wpAny_bind (wpAny_pure ?_)))))
  show wpAny _ _ (pure ((n : Int) - 1, (-1 : Int), Builtin.Slice.slicePlaces ((n : Int) - 1) (-1) (-1))) _ _ s
  have e : Builtin.Slice.slicePlaces ((n : Int) - 1) (-1) (-1) = n := by
    unfold Builtin.Slice.slicePlaces
    have h1 : ¬ ((-1 : Int) > 0) := by omega
    simp only [h1, if_false]
    have h2 : (-(-1 : Int)) = 1 := by decide
    rw [h2, Int.ediv_one]
    split <;> omega
  rw [e]
  exact wpAny_pure h
theorem fm_congr {α β : Type} {f g : α → Option β} : ∀ {l : List α}, (∀ x ∈ l, f x = g x) → l.filterMap f = l.filterMap g
  | [], _ => rfl
  | x :: l, h => by rw [List.filterMap_cons, List.filterMap_cons, h x List.mem_cons_self, fm_congr fun y hy => h y (List.mem_cons_of_mem _ hy)]
theorem pick_rev (xs : Array Value) : ((List.range xs.size).filterMap fun (m : Nat) => xs[(((xs.size : Int) - 1) + (m : Int) * (-1)).toNat]?).toArray = xs.toList.reverse.toArray := by
  rw [← PySem.W.krv_pick]
  unfold slicePick
  rw [PySem.W.krv_bounds]
  show _ = ((sliceRange ((xs.size : Int) - 1) (-1) (-1)).filterMap (xs[·]?)).toArray
  rw [PySem.W.krv_sliceRange, List.filterMap_map]
  congr 1
  refine fm_congr fun m hm => ?_
  have := List.mem_range.mp hm
  show xs[(((xs.size : Int) - 1) + (m : Int) * (-1)).toNat]? = xs[xs.size - 1 - m]?
  rw [show (((xs.size : Int) - 1) + (m : Int) * (-1)).toNat = xs.size - 1 - m by omega]
theorem getItem_tuple_rev {t sl : Addr} {items : Array Value} {vs : Value} {Q : Value → Shared → Prop} (ht : IsTup s.heap t items) (hs : s.heap.IsSliceOf sl .none .none vs) (ps : IsPart vs (some (-1)))
    (h : Q (.ref s.heap.objs.size) { s with heap := s.heap.push { cls := .type "tuple", data := .seq items.toList.reverse.toArray } })
    (hsz : items.size ≤ sizeLine) : wpAny (model prog w) A (getItem (.ref t) (.ref sl)) Q E s := by
  have htake : sizeOk (.seq items.toList.reverse.toArray) := by
    show items.toList.reverse.toArray.size ≤ sizeLine
    rw [List.size_toArray, List.length_reverse, Array.length_toList]
    omega
  obtain ⟨os, hos, hcs, hds⟩ := id hs
  have hTs : s.TypeIs (.ref sl) "slice" := ⟨os, hos, hcs⟩
  unfold getItem
  try with_reducible refine wpAny_holding ?_
  first | refine wpAny_bind (wpAny_pure ?_) | skip
  refine wpAny_bind (wpAny_sequenceKey ht.typeIs (by decide) ?_)
  refine wpAny_bind (wpAny_callSpecial?_slot (name := Str.ofString "__getitem__") ht.typeIs PyProof.Rows.slot_tuple_getitem
    (wpAny_call_entry PyProof.Rows.slot_tuple_getitem ht.typeIs entry_tuple_getitem ?_ (args_tuple_getitem _ _)))
  show wpAny _ _ (Builtin.Tuple.tupleItemsOf (.ref t) >>= _) _ _ s
  refine wpAny_bind (tupleItemsOf_ ht ?_)
  refine wpAny_bind (wpAny_typeOf hTs ?_)
  rw [if_pos (by decide)]
  refine wpAny_bind (sliceApplied_rev hs ps ?_)
  have hno : ¬ ((((items.size : Int) - 1) == 0 && (-1 : Int) == 1 && items.size == items.size) = true) := by
    intro q
    rw [Bool.and_eq_true, Bool.and_eq_true] at q
    exact absurd q.1.2 (by decide)
  show wpAny _ _ (if (((items.size : Int) - 1) == 0 && (-1 : Int) == 1 && items.size == items.size) = true then _ else _) _ _ s
  rw [if_neg hno, pick_rev]
  first
    | exact wpAny_bind (m := Builtin.Tuple.tupleExact _) (wpAny_newObj_type (wpAny_pure ⟨_, rfl, wpAny_pure h⟩) htake)
    | exact wpAny_bind (m := Builtin.Tuple.tupleExact _) (wpAny_newObj_type (wpAny_bind (wpAny_pure (wpAny_pure ⟨_, rfl, wpAny_pure h⟩))) htake)
    | exact wpAny_bind (wpAny_bind (m := Builtin.Tuple.tupleExact _) (wpAny_newObj_type (wpAny_pure (wpAny_pure ⟨_, rfl, wpAny_pure h⟩)) htake))
    | exact wpAny_bind (wpAny_bind (m := Builtin.Tuple.tupleExact _) (wpAny_newObj_type (wpAny_pure ⟨_, rfl, wpAny_pure h⟩) htake))
end
end HT
namespace DL
open PySem PySem.Spec PyProof.Rows L2
noncomputable section
section
variable {X : Cx} {pos : Pos} {a : Expr} {fa : PF}
def tRevT (K : Frg) (te : TE) : TE := fun σ H Q => te σ H fun x H1 => ∃ a xs, x = .ref a ∧ SqT K H1 a xs ∧ ∀ p, H1 p = none → Q (.ref p) (upd H1 p (.tup xs.reverse))
theorem pe_revT {e : Expr} {te : TE} {k : Nat} {p1 p2 p3 pos : Pos} (he : PE X e te) : PE X (.Subscript e (.Slice none none (some (.UnaryOp .USub (.Constant (.int 1) k p1) p2)) p3) pos) (tRevT X.K te) := by
  refine ⟨fun pins s σ H Q I h => ?_⟩
  refine Subscript_ (thn (he.run pins s σ H _ I h) fun v s1 ⟨x, H1, I1, r1, q1⟩ => ?_)
  obtain ⟨a, xs, ex, hx, q⟩ := q1
  subst ex
  cases r1
  have hst : PO X (some (.UnaryOp .USub (.Constant (.int 1) k p1) p2)) (tPart (tUn (rU fun i => .int (-i)) (tC (.int 1)))) := po_some (pe_un un_neg pe_int)
  refine wpAny_Slice (wpAny_pure ?_)
  refine wpAny_pure ?_
  refine thn (hst.run pins s1 σ H1 (fun o H4 => o = some (-1) ∧ H4 = H1) I1 ⟨1, rfl, -1, rfl, rfl, rfl⟩) fun vs s4 ⟨o, H4, I4, ps, eo, e4⟩ => ?_
  subst eo e4
  have I5 : Inv X pins σ H4 { s4 with heap := s4.heap.push { cls := .type "slice", data := .fields #[.none, .none, vs] } } := I4.kept (t' := s4.toks) fun b ob q => Heap.get?_push_of_some _ q
  obtain ⟨its, r, ht, hz⟩ := I5.tuple hx
  have hlen := r.length
  show wpAny (model X.prog X.w) X.A (subscriptTail e (.Slice none none (some (.UnaryOp .USub (.Constant (.int 1) k p1) p2)) p3) (.ref a) (.ref s4.heap.objs.size)) (EP X pins σ Q) X.xe { s4 with heap := s4.heap.push { cls := .type "slice", data := .fields #[.none, .none, vs] } }
  refine tail_any (ops := [.ref a, .ref s4.heap.objs.size]) ht.typeIs (PyProof.Rows.slot_tuple_getitem.lookup) ?_ (by with_unfolding_all rfl)
  refine HT.getItem_tuple_rev ht (Heap.IsSliceOf.new _ .none .none vs) ps ?_ (by rw [List.size_toArray]; omega)
  refine ⟨.ref _, _, I5.laid (t' := s4.toks) (o := .tup xs.reverse) (fun b ob q => Heap.get?_push_of_some _ q) (Nat.le_refl _) ?_, rfl, q _ (I5.hok.fresh (Nat.le_refl _))⟩
  exact ⟨by rw [List.length_reverse]; exact hz, _, r.reverse, IsTup.new _ _⟩
def pRevT (f : PF) : PF := fun ρ P => f ρ fun z => match z.2 with
  | .tup ds => D.imms ds = true ∧ P (.fl, .tup ds.reverse)
  | _ => False
theorem dp_revT {k : Nat} {p1 p2 p3 : Pos} (ha : DP X a fa) : DP X (.Subscript a (.Slice none none (some (.UnaryOp .USub (.Constant (.int 1) k p1) p2)) p3) pos) (pRevT fa) := by
  obtain ⟨ta, ea, sa⟩ := ha.run
  refine ⟨_, pe_revT ea, fun σ H A ρ ow Q P gd hf q => ?_⟩
  refine sa σ H A ρ ow _ _ gd hf fun z v H1 hz s1 p1 => ?_
  obtain ⟨kz, d⟩ := z
  split at hz
  · rename_i ds e
    obtain ⟨hc, hP⟩ := hz
    have e : d = .tup ds := e
    subst e
    obtain ⟨p, vs, rfl, t, r⟩ := p1.tupT
    have r0 : RAs X.K No H1 ds vs := RAs.imm_no ds vs (RAs.elor (B := BB A ow) (F := Fre H) r) hc
    refine ⟨p, vs, rfl, t, fun l hl => ?_⟩
    have sm : Same H1 (upd H1 l (.tup vs.reverse)) := same_upd hl
    exact q _ _ _ hP (s1.trans sm) (.fl ⟨l, vs.reverse, rfl, .inl (.inl upd_same), RAs.same sm r0.reverse⟩)
  · exact hz.elim
/-- one's own list locked for good, if it is not locked yet -/
def sLkT (i : Nat) (f : SF) : SF := fun D ρ => f D ρ ∨ sLkL i f D ρ
theorem ds_lkT {X : Cx} {E : XK} {pr : List Nat} (i : Nat) {st : List Stmt} {f : SF} (h : DSs X E pr st f) : DSs X E pr st (sLkT i f) := by
  obtain ⟨t1, a1, s1⟩ := h.run
  obtain ⟨t2, a2, s2⟩ := (ds_lkL i h).run
  refine ⟨fun D σ H => t1 D σ H ∨ t2 D σ H, ⟨fun pins s σ H D I q => q.elim (a1.run pins s σ H D I) (a2.run pins s σ H D I)⟩, fun σ H A ρ ow T D gd h nx rt ex => ?_⟩
  rcases h with h | h
  · exact .inl (s1 σ H A ρ ow T D gd h nx rt ex)
  · exact .inr (s2 σ H A ρ ow T D gd h nx rt ex)
end
end
end DL

/-! DL54: min, max of a list of numbers that may be locked. -/
namespace DL
open PySem PySem.Spec PyProof.Rows L2
noncomputable section
def oMinLK : List KD → (KD → Prop) → Prop := fun zs P => match zs with
  | [(_, d)] => (∃ ns : List Int, d.lsq = some (ns.map .int) ∧ 0 < ns.length ∧ ∀ m, m ∈ ns → (∀ y, y ∈ ns → m ≤ y) → P (.fl, .int m))
  | _ => False
def oMaxLK : List KD → (KD → Prop) → Prop := fun zs P => match zs with
  | [(_, d)] => (∃ ns : List Int, d.lsq = some (ns.map .int) ∧ 0 < ns.length ∧ ∀ m, m ∈ ns → (∀ y, y ∈ ns → y ≤ m) → P (.fl, .int m))
  | _ => False
theorem cs_minLK {K : Frg} : CallS K (rMin K) oMinLK := by
  intro B F H vs xs P Q pr hF h q
  unfold oMinLK at h
  split at h
  · rename_i k d
    obtain ⟨ns, e, hl, hP⟩ := h
    obtain ⟨v, ev, p⟩ := pr.get1
    obtain ⟨a, us, ea, t, r⟩ := p.lsq e
    rw [RAs.ints r.elor] at t
    subst ev ea
    exact ⟨a, ns, rfl, t, hl, fun m h1 h2 => q _ _ H (hP m h1 h2) (Same.refl H) .int⟩
  · exact h.elim
theorem cs_maxLK {K : Frg} : CallS K (rMax K) oMaxLK := by
  intro B F H vs xs P Q pr hF h q
  unfold oMaxLK at h
  split at h
  · rename_i k d
    obtain ⟨ns, e, hl, hP⟩ := h
    obtain ⟨v, ev, p⟩ := pr.get1
    obtain ⟨a, us, ea, t, r⟩ := p.lsq e
    rw [RAs.ints r.elor] at t
    subst ev ea
    exact ⟨a, ns, rfl, t, hl, fun m h1 h2 => q _ _ H (hP m h1 h2) (Same.refl H) .int⟩
  · exact h.elim
end
end DL

/-! PA: plain laws of sums and of layings, no program in sight. -/
namespace PA
open DL
theorem sumR_sub {n : Nat} {f g : Nat → Int} : sumR n (fun i => f i - g i) = sumR n f - sumR n g := by
  induction n with
  | zero => rfl
  | succ n ih => rw [sumR_succ, sumR_succ, sumR_succ, ih]; omega
theorem sumR_zero' {n : Nat} {f : Nat → Int} (h : ∀ i, i < n → f i = 0) : sumR n f = 0 := by
  induction n with
  | zero => rfl
  | succ n ih => rw [sumR_succ, ih fun i hi => h i (by omega), h n (by omega)]; rfl
/-- one place taken out of a sum -/
theorem sumR_out {n a : Nat} (ha : a < n) (f : Nat → Int) : sumR n f = f a + sumR n fun i => if i = a then 0 else f i := by
  induction n with
  | zero => omega
  | succ n ih =>
    rw [sumR_succ, sumR_succ]
    by_cases e : a = n
    · subst e
      rw [if_pos rfl, sumR_congr (f := f) (g := fun i => if i = a then 0 else f i) fun i hi => by rw [if_neg (by omega)]]
      omega
    · rw [ih (by omega), if_neg (show ¬ n = a from fun h => e h.symm)]
      omega
/-- two places taken out -/
def rest (n a b : Nat) (f : Nat → Int) : Int := sumR n fun i => if i ≠ a ∧ i ≠ b then f i else 0
theorem sumR_out2 {n a b : Nat} (ha : a < n) (hb : b < n) (hab : a ≠ b) (f : Nat → Int) : sumR n f = f a + f b + rest n a b f := by
  rw [sumR_out ha f, sumR_out hb fun i => if i = a then 0 else f i, if_neg (fun h => hab h.symm), ← Int.add_assoc]
  refine congrArg (f a + f b + ·) (sumR_congr fun i _ => ?_)
  by_cases e : i = a <;> by_cases e' : i = b <;> simp [e, e']
theorem rest_congr {n a b : Nat} {f g : Nat → Int} (h : ∀ i, i < n → i ≠ a → i ≠ b → f i = g i) : rest n a b f = rest n a b g := sumR_congr fun i hi => by
  by_cases c : i ≠ a ∧ i ≠ b
  · rw [if_pos c, if_pos c, h i hi c.1 c.2]
  · rw [if_neg c, if_neg c]
theorem rest_add {n a b : Nat} {f g : Nat → Int} : rest n a b (fun i => f i + g i) = rest n a b f + rest n a b g := by
  unfold rest
  rw [← sumR_add]
  refine sumR_congr fun i _ => ?_
  by_cases c : i ≠ a ∧ i ≠ b
  · rw [if_pos c, if_pos c, if_pos c]
  · rw [if_neg c, if_neg c, if_neg c]; rfl
theorem rest_sub {n a b : Nat} {f g : Nat → Int} : rest n a b (fun i => f i - g i) = rest n a b f - rest n a b g := by
  unfold rest
  rw [← sumR_sub]
  refine sumR_congr fun i _ => ?_
  by_cases c : i ≠ a ∧ i ≠ b
  · rw [if_pos c, if_pos c, if_pos c]
  · rw [if_neg c, if_neg c, if_neg c]; rfl
/-- the laying in which two have each other's place -/
def swp (p : Nat → Nat) (a b : Nat) : Nat → Nat := fun i => if i = b then p a else if i = a then p b else p i
theorem swp_a {p : Nat → Nat} {a b : Nat} : swp p a b a = p b := by
  unfold swp
  by_cases e : a = b
  · rw [if_pos e, e]
  · rw [if_neg e, if_pos rfl]
theorem swp_b {p : Nat → Nat} {a b : Nat} : swp p a b b = p a := by unfold swp; rw [if_pos rfl]
theorem swp_o {p : Nat → Nat} {a b i : Nat} (h : i ≠ a) (h' : i ≠ b) : swp p a b i = p i := by unfold swp; rw [if_neg h', if_neg h]
theorem swp_self {p : Nat → Nat} {a : Nat} : swp p a a = p := by
  funext i
  by_cases e : i = a
  · rw [e, swp_a]
  · exact swp_o e e
theorem swp_comm {p : Nat → Nat} {a b : Nat} : swp p a b = swp p b a := by
  funext i
  by_cases e : i = a
  · rw [e, swp_a, swp_b]
  · by_cases e' : i = b
    · rw [e', swp_a, swp_b]
    · rw [swp_o e e', swp_o e' e]
theorem swp_lt {p : Nat → Nat} {a b n : Nat} (hp : ∀ i, i < n → p i < n) (ha : a < n) (hb : b < n) : ∀ i, i < n → swp p a b i < n := fun i hi => by
  unfold swp
  by_cases e : i = b
  · rw [if_pos e]; exact hp a ha
  · rw [if_neg e]
    by_cases e' : i = a
    · rw [if_pos e']; exact hp b hb
    · rw [if_neg e']; exact hp i hi
theorem swp_inj {p : Nat → Nat} {a b n : Nat} (hp : ∀ i j, i < n → j < n → p i = p j → i = j) (ha : a < n) (hb : b < n) : ∀ i j, i < n → j < n → swp p a b i = swp p a b j → i = j := fun i j hi hj e => by
  unfold swp at e
  by_cases e1 : i = b <;> by_cases e2 : j = b <;> by_cases e3 : i = a <;> by_cases e4 : j = a <;> simp only [e1, e2, e3, e4, if_true, if_false] at e ⊢ <;> first
    | (have := hp _ _ (by assumption) (by assumption) e; omega)
    | omega
    | (subst_vars; simp_all; first | done | (have := hp _ _ (by assumption) (by assumption) e; omega))
/-- what a laying costs -/
def costV (n : Nat) (F W C : Nat → Nat → Int) (p : Nat → Nat) : Int := sumR n fun i => C i (p i) + sumR n fun j => F i j * W (p i) (p j)
def besV (n : Nat) (F W C : Nat → Nat → Int) (p : Nat → Nat) (a b : Nat) : Int := C a (p a) + C b (p b) - C a (p b) - C b (p a) +
  sumR n fun k => if k ≠ a ∧ k ≠ b then (F a k - F b k) * (W (p a) (p k) - W (p b) (p k)) + (F k a - F k b) * (W (p k) (p a) - W (p k) (p b)) else 0
def savV (n : Nat) (F W C : Nat → Nat → Int) (p : Nat → Nat) (a b : Nat) : Int := if a = b then 0 else besV n F W C p a b + (F a b - F b a) * (W (p a) (p b) - W (p b) (p a))
theorem sav_eq {n : Nat} {F W C : Nat → Nat → Int} {p : Nat → Nat} {a b : Nat} (ha : a < n) (hb : b < n) (h0 : ∀ i, i < n → F i i = 0) :
    savV n F W C p a b = costV n F W C p - costV n F W C (swp p a b) := by
  unfold savV
  by_cases hab : a = b
  · subst hab
    rw [if_pos rfl, swp_self]; omega
  rw [if_neg hab]
  have row : ∀ (q : Nat → Nat) i, (sumR n fun j => F i j * W (q i) (q j)) = F i a * W (q i) (q a) + F i b * W (q i) (q b) + rest n a b fun j => F i j * W (q i) (q j) := fun q i => sumR_out2 ha hb hab _
  have cost : ∀ q : Nat → Nat, costV n F W C q = (C a (q a) + (sumR n fun j => F a j * W (q a) (q j))) + (C b (q b) + (sumR n fun j => F b j * W (q b) (q j))) + rest n a b fun i => C i (q i) + sumR n fun j => F i j * W (q i) (q j) := fun q => sumR_out2 ha hb hab _
  have hr : ∀ q q' : Nat → Nat, (∀ i, i ≠ a → i ≠ b → q' i = q i) → q' a = q b → q' b = q a →
      (rest n a b fun i => C i (q i) + sumR n fun j => F i j * W (q i) (q j)) - (rest n a b fun i => C i (q' i) + sumR n fun j => F i j * W (q' i) (q' j)) = rest n a b fun k => (F k a - F k b) * (W (q k) (q a) - W (q k) (q b)) := fun q q' hq qa qb => by
    rw [← rest_sub]
    refine rest_congr fun i hi h1 h2 => ?_
    have hi' : q' i = q i := hq i h1 h2
    have e1 := row q i
    have e2 := row q' i
    rw [hi', qa, qb] at e2
    have e3 : (rest n a b fun j => F i j * W (q i) (q' j)) = rest n a b fun j => F i j * W (q i) (q j) := rest_congr fun j _ j1 j2 => by rw [hq j j1 j2]
    rw [e3] at e2
    simp only [hi'] at e2 ⊢
    rw [e1, e2]
    simp only [Int.sub_mul, Int.mul_sub]
    omega
  have hr2 := hr p (swp p a b) (fun i h1 h2 => swp_o h1 h2) swp_a swp_b
  rw [cost p, cost (swp p a b), row p a, row p b, row (swp p a b) a, row (swp p a b) b, swp_a, swp_b, h0 a ha, h0 b hb]
  have ea : (rest n a b fun j => F a j * W (p b) (swp p a b j)) = rest n a b fun j => F a j * W (p b) (p j) := rest_congr fun j _ j1 j2 => by rw [swp_o j1 j2]
  have eb : (rest n a b fun j => F b j * W (p a) (swp p a b j)) = rest n a b fun j => F b j * W (p a) (p j) := rest_congr fun j _ j1 j2 => by rw [swp_o j1 j2]
  rw [ea, eb]
  have es : (sumR n fun k => if k ≠ a ∧ k ≠ b then (F a k - F b k) * (W (p a) (p k) - W (p b) (p k)) + (F k a - F k b) * (W (p k) (p a) - W (p k) (p b)) else 0) =
      ((rest n a b fun k => F a k * W (p a) (p k)) - (rest n a b fun k => F a k * W (p b) (p k))) - ((rest n a b fun k => F b k * W (p a) (p k)) - (rest n a b fun k => F b k * W (p b) (p k))) + rest n a b fun k => (F k a - F k b) * (W (p k) (p a) - W (p k) (p b)) := by
    rw [← rest_sub, ← rest_sub, ← rest_sub, ← rest_add]
    refine rest_congr (n := n) (a := a) (b := b) fun k _ _ _ => ?_
    simp only [Int.sub_mul, Int.mul_sub]
    omega
  unfold besV
  rw [es]
  simp only [Int.sub_mul, Int.mul_sub] at hr2 ⊢
  omega
/-! numbers below one -/
theorem pigeon : ∀ (B : Nat) (l : List Nat), l.Nodup → (∀ x ∈ l, x < B) → l.length ≤ B
  | 0, [], _, _ => Nat.le_refl _
  | 0, x :: l, _, h => absurd (h x (List.mem_cons_self ..)) (Nat.not_lt_zero _)
  | B + 1, l, hn, h => by
    have h1 := pigeon B (l.erase B) (hn.erase B) fun x hx => by
      have hm := (hn.mem_erase_iff).mp hx
      have := h x hm.2
      omega
    have h2 : l.length ≤ (l.erase B).length + 1 := by
      by_cases c : B ∈ l
      · rw [List.length_erase_of_mem c]; omega
      · rw [List.erase_of_not_mem c]; omega
    omega
theorem nodup_tabl {n : Nat} {p : Nat → Nat} (hi : ∀ i j, i < n → j < n → p i = p j → i = j) : (tabl n p).Nodup := by
  refine List.pairwise_map.mpr ?_
  refine (List.nodup_range (n := n)).imp_of_mem fun {a b} ha hb hab e => hab (hi a b (List.mem_range.mp ha) (List.mem_range.mp hb) e)
theorem surj_of {n : Nat} {p : Nat → Nat} (hp : ∀ i, i < n → p i < n) (hi : ∀ i j, i < n → j < n → p i = p j → i = j) {v : Nat} (hv : v < n) : ∃ j, j < n ∧ p j = v := by
  refine Classical.byContradiction fun c => ?_
  have c' : ∀ j, j < n → p j ≠ v := fun j hj e => c ⟨j, hj, e⟩
  have h := pigeon n (v :: tabl n p) (List.nodup_cons.mpr ⟨fun z => by
      obtain ⟨j, hj, e⟩ := List.mem_map.mp z
      exact c' j (List.mem_range.mp hj) e, nodup_tabl hi⟩) fun x hx => by
    rcases List.mem_cons.mp hx with rfl | hx
    · exact hv
    · obtain ⟨j, hj, rfl⟩ := List.mem_map.mp hx
      exact hp j (List.mem_range.mp hj)
  rw [List.length_cons, tabl_len] at h
  omega
/-- a number for a laying -/
def code (b : Nat) (q : Nat → Nat) : Nat → Nat
  | 0 => 0
  | k + 1 => code b q k + q k * b ^ k
theorem code_lt {b : Nat} {q : Nat → Nat} : ∀ k, (∀ i, i < k → q i < b) → code b q k < b ^ k
  | 0, _ => Nat.one_pos
  | k + 1, h => by
    have h1 := code_lt (b := b) (q := q) k fun i hi => h i (by omega)
    have h2 : (q k + 1) * b ^ k ≤ b * b ^ k := Nat.mul_le_mul_right _ (h k (by omega))
    show code b q k + q k * b ^ k < b ^ (k + 1)
    rw [Nat.pow_succ, Nat.mul_comm (b ^ k) b]
    rw [Nat.add_mul, Nat.one_mul] at h2
    omega
theorem code_inj {b : Nat} {q q' : Nat → Nat} : ∀ k, (∀ i, i < k → q i < b) → (∀ i, i < k → q' i < b) → code b q k = code b q' k → ∀ i, i < k → q i = q' i
  | 0, _, _, _ => fun i hi => absurd hi (Nat.not_lt_zero _)
  | k + 1, h, h', e => by
    have h1 := code_lt (b := b) (q := q) k fun i hi => h i (by omega)
    have h2 := code_lt (b := b) (q := q') k fun i hi => h' i (by omega)
    have e : code b q k + q k * b ^ k = code b q' k + q' k * b ^ k := e
    have e1 : (code b q k + q k * b ^ k) / b ^ k = q k := by rw [Nat.add_mul_div_right _ _ (by omega), Nat.div_eq_of_lt h1, Nat.zero_add]
    have e2 : (code b q' k + q' k * b ^ k) / b ^ k = q' k := by rw [Nat.add_mul_div_right _ _ (by omega), Nat.div_eq_of_lt h2, Nat.zero_add]
    have e3 : q k = q' k := by rw [← e1, ← e2, e]
    rw [e3] at e
    intro i hi
    by_cases c : i = k
    · rw [c]; exact e3
    · exact code_inj k (fun i hi => h i (by omega)) (fun i hi => h' i (by omega)) (by omega) i (by omega)
theorem costV_congr {n : Nat} {F W C : Nat → Nat → Int} {p q : Nat → Nat} (h : ∀ i, i < n → p i = q i) : costV n F W C p = costV n F W C q := by
  unfold costV
  refine sumR_congr fun i hi => ?_
  rw [h i hi]
  exact congrArg (C i (q i) + ·) (sumR_congr fun j hj => by rw [h j hj])
/-- two layings with one number of their first places cost alike -/
theorem code_cost {n : Nat} {F W C : Nat → Nat → Int} {p q : Nat → Nat} (hp : ∀ i, i < n → p i < n) (hpi : ∀ i j, i < n → j < n → p i = p j → i = j) (hq : ∀ i, i < n → q i < n) (hqi : ∀ i j, i < n → j < n → q i = q j → i = j)
    (e : code n p (n - 1) = code n q (n - 1)) : costV n F W C p = costV n F W C q := by
  have h := code_inj (n - 1) (fun i hi => hp i (by omega)) (fun i hi => hq i (by omega)) e
  refine costV_congr fun i hi => ?_
  by_cases c : i < n - 1
  · exact h i c
  · obtain ⟨j, hj, ej⟩ := surj_of hq hqi (hp i hi)
    by_cases cj : j < n - 1
    · have := hpi j i (by omega) hi (by rw [h j cj, ej])
      omega
    · have : j = i := by omega
      rw [← ej, this]
theorem sumR_nonneg {n : Nat} {f : Nat → Int} (h : ∀ i, i < n → 0 ≤ f i) : 0 ≤ sumR n f := by
  induction n with
  | zero => exact Int.le_refl _
  | succ n ih =>
    rw [sumR_succ]
    have := ih fun i hi => h i (by omega)
    have := h n (by omega)
    omega
theorem costV_nonneg {n : Nat} {F W C : Nat → Nat → Int} {p : Nat → Nat} (hp : ∀ i, i < n → p i < n) (hF : ∀ i j, i < n → j < n → 0 ≤ F i j) (hW : ∀ i j, i < n → j < n → 0 ≤ W i j) (hC : ∀ i j, i < n → j < n → 0 ≤ C i j) : 0 ≤ costV n F W C p := sumR_nonneg fun i hi =>
  Int.add_nonneg (hC i _ hi (hp i hi)) (sumR_nonneg fun j hj => Int.mul_nonneg (hF i j hi hj) (hW _ _ (hp i hi) (hp j hj)))
end PA

namespace DCA
open PySem PySem.Spec PyProof.Rows L2 DL
noncomputable section
/- _law_bag(script); slots: 0 script, 1 mixed, 2 cell -/
def sem__law_bag : SF :=
  (sSeq (sSet 1 (eP (pC (.int 314159265))))
    (sSeq (sForX (iSq (pVar 0)) (gNm 2) (sSet 1 (eP (pOp oMod (pOp oAdd (pOp oMul (pVar 1) (pC (.int 40014))) (pVar 2)) (pC (.int 2147483563))))))
    (sRet (eP (pLst (gCons (pCall oList (gCons (pVar 0) gNil)) (gCons (pC (.int 0)) (gCons (pVar 1) gNil))))))))
@[irreducible] def cf__law_bag : CF := hid (cfOf 2 [false] sem__law_bag)
theorem cf__law_bag_eq : cf__law_bag = cfOf 2 [false] sem__law_bag := by unfold cf__law_bag; rw [hid_eq]
/- _law_dip(bag, many); slots: 0 bag, 1 many, 2 cell, 3 digit -/
def sem__law_dip : SF :=
  (sSeq (sIf (teP (tAnd (pTest (pOp oEq (pOp xIx (pVar 0) (pC (.int 1))) (pC (.int 0)))) (pTest (pOp oGt (pCall oLen (gCons (pOp xIx (pVar 0) (pC (.int 0))) gNil)) (pC (.int 0)))))) (sSeq (sSet 2 (eMthP xPopAt (plIxX (plVar 0) (pC (.int 0))) (gCons (pC (.int 0)) gNil)))
    (sSeq (sIf (teP (pTest (pOp oLt (pCall oAbs (gCons (pVar 2) gNil)) (pOp oPow (pC (.int 10)) (pC (.int 18)))))) (sRet (eP (pOp oMod (pVar 2) (pVar 1)))) sNil)
    (sStIxX (eP (pCall oAbs (gCons (pVar 2) gNil))) (plVar 0) (pC (.int 1))))) sNil)
    (sSeq (sIf (teP (pTest (pOp oGt (pOp xIx (pVar 0) (pC (.int 1))) (pC (.int 0))))) (sSeq (sSet 3 (eP (pOp oMod (pOp xIx (pVar 0) (pC (.int 1))) (pVar 1))))
    (sSeq (sStIxX (eP (pOp oFdiv (pOp xIx (pVar 0) (pC (.int 1))) (pVar 1))) (plVar 0) (pC (.int 1)))
    (sRet (eMv 3)))) sNil)
    (sSeq (sStIxX (eP (pOp oMod (pOp oAdd (pOp oMul (pOp xIx (pVar 0) (pC (.int 2))) (pOp xIx (pVar 0) (pC (.int 2)))) (pC (.int 40692))) (pC (.int 2147483563)))) (plVar 0) (pC (.int 2)))
    (sRet (eP (pOp oMod (pOp oFdiv (pOp xIx (pVar 0) (pC (.int 2))) (pC (.int 32))) (pVar 1)))))))
@[irreducible] def cf__law_dip : CF := hid (cfOf 2 [true, false] sem__law_dip)
theorem cf__law_dip_eq : cf__law_dip = cfOf 2 [true, false] sem__law_dip := by unfold cf__law_dip; rw [hid_eq]
/- _law_entry(bag, kind, most); slots: 0 bag, 1 kind, 2 most -/
def sem__law_entry : SF :=
  (sSeq (sIf (teP (pTest (pOp oEq (pVar 1) (pC (.int 0))))) (sRet (eFn [true, false] cf__law_dip (aPl 0 (aE (eP (pOp oAdd (pVar 2) (pC (.int 1)))) aNil)))) sNil)
    (sSeq (sIf (teP (pTest (pOp oEq (pVar 1) (pC (.int 1))))) (sRet (eFn [true, false] cf__law_dip (aPl 0 (aE (eP (pC (.int 4))) aNil)))) sNil)
    (sSeq (sIf (teP (pTest (pOp oEq (pVar 1) (pC (.int 2))))) (sRet (eOp oMul (eMv 2) (eFn [true, false] cf__law_dip (aPl 0 (aE (eP (pC (.int 2))) aNil))))) sNil)
    (sRet (eOp oMul (eFn [true, false] cf__law_dip (aPl 0 (aE (eP (pC (.int 40))) aNil))) (eCallB oInt (aE (eOp oEq (eFn [true, false] cf__law_dip (aPl 0 (aE (eP (pC (.int 3))) aNil))) (eP (pC (.int 0)))) aNil)))))))
@[irreducible] def cf__law_entry : CF := hid (cfOf 0 [true, false, false] sem__law_entry)
theorem cf__law_entry_eq : cf__law_entry = cfOf 0 [true, false, false] sem__law_entry := by unfold cf__law_entry; rw [hid_eq]
/- _law_square(bag, many, most, bare); slots: 0 bag, 1 many, 2 most, 3 bare, 4 kind, 5 rows, 6 k, 7 row, 8 j -/
def sem__law_square : SF :=
  (sSeq (sSet 4 (eFn [true, false] cf__law_dip (aPl 0 (aE (eP (pC (.int 4))) aNil))))
    (sSeq (sSet 5 (eP (pLst gNil)))
    (sSeq (sForX (jR1 (gCons (pVar 1) gNil)) (gNm 6) (sSeq (sSet 7 (eLcX (jR1 (gCons (pVar 1) gNil)) [8] (gNm 8) tNilP (eFn [true, false, false] cf__law_entry (aPl 0 (aE (eMv 4) (aE (eMv 2) aNil))))))
    (sSeq (sStIxX (eP (pOp oMul (pOp xIx (pVar 7) (pVar 6)) (pCall oInt (gCons (pUn uNot (pVar 3)) gNil)))) (plVar 7) (pVar 6))
    (sExpr (eMthR mAppend 5 (aE (eP (pCall oTuple (gCons (pVar 7) gNil))) aNil))))))
    (sRet (eP (pCall oTuple (gCons (pVar 5) gNil)))))))
@[irreducible] def cf__law_square : CF := hid (cfOf 5 [true, false, false, false] sem__law_square)
theorem cf__law_square_eq : cf__law_square = cfOf 5 [true, false, false, false] sem__law_square := by unfold cf__law_square; rw [hid_eq]
/- _law_job(bag, most); slots: 0 bag, 1 most, 2 many, 3 flows, 4 ways -/
def sem__law_job : SF :=
  (sSeq (sSet 2 (eOp oAdd (eP (pC (.int 1))) (eFn [true, false] cf__law_dip (aPl 0 (aE (eMv 1) aNil)))))
    (sSeq (sSet 3 (eFn [true, false, false, false] cf__law_square (aPl 0 (aE (eMv 2) (aE (eP (pC (.int 999))) (aE (eP (pC (.bl true))) aNil))))))
    (sSeq (sSet 4 (eFn [true, false, false, false] cf__law_square (aPl 0 (aE (eMv 2) (aE (eP (pC (.int 999))) (aE (eP (pC (.bl true))) aNil))))))
    (sRet (eTup (aE (eMv 3) (aE (eMv 4) (aE (eFn [true, false, false, false] cf__law_square (aPl 0 (aE (eMv 2) (aE (eP (pC (.int 1000000))) (aE (eP (pC (.bl false))) aNil))))) aNil))))))))
@[irreducible] def cf__law_job : CF := hid (cfOf 3 [true, false] sem__law_job)
theorem cf__law_job_eq : cf__law_job = cfOf 3 [true, false] sem__law_job := by unfold cf__law_job; rw [hid_eq]
/- _law_other_job(bag, job); slots: 0 bag, 1 job, 2 found, 3 turn, 4 which -/
def sem__law_other_job : SF :=
  (sSeq (sSet 2 (eP (pCall oList (gCons (pVar 1) gNil))))
    (sSeq (sForX (jR1 (gCons (pC (.int 2)) gNil)) (gNm 3) (sSeq (sSet 4 (eFn [true, false] cf__law_dip (aPl 0 (aE (eP (pC (.int 3))) aNil))))
    (sStIxX (eFn [true, false, false, false] cf__law_square (aPl 0 (aE (eP (pCall oLen (gCons (pOp xIx (pVar 1) (pC (.int 0))) gNil))) (aE (eP (pOp xIx (pLst (gCons (pC (.int 999)) (gCons (pC (.int 999)) (gCons (pC (.int 1000000)) gNil)))) (pVar 4))) (aE (eP (pOp oLt (pVar 4) (pC (.int 2)))) aNil))))) (plVar 2) (pVar 4))))
    (sRet (eP (pCall oTuple (gCons (pVar 2) gNil))))))
@[irreducible] def cf__law_other_job : CF := hid (cfOf 3 [true, false] sem__law_other_job)
theorem cf__law_other_job_eq : cf__law_other_job = cfOf 3 [true, false] sem__law_other_job := by unfold cf__law_other_job; rw [hid_eq]
/- _law_order(bag, many); slots: 0 bag, 1 many, 2 left, 3 k -/
def sem__law_order : SF :=
  (sSeq (sSet 2 (eP (pLR1X (pVar 1))))
    (sRet (eCallB oTuple (aE (eLcX (jR1 (gCons (pVar 1) gNil)) [3] (gNm 3) tNilP (eMthR xPopAt 2 (aE (eFn [true, false] cf__law_dip (aPl 0 (aE (eP (pCall oLen (gCons (pVar 2) gNil))) aNil))) aNil))) aNil))))
@[irreducible] def cf__law_order : CF := hid (cfOf 2 [true, false] sem__law_order)
theorem cf__law_order_eq : cf__law_order = cfOf 2 [true, false] sem__law_order := by unfold cf__law_order; rw [hid_eq]
/- fixed(job, part); slots: 0 job, 1 part, 2 flows, 3 ways, 4 costs, 5 laid, 6 found, 7 one, 8 other, 9 work -/
def sem_fixed : SF :=
  (sSeq (sAsg (eMv 0) (gTu 3 (tConsG (gNm 2) (tConsG (gNm 3) (tConsG (gNm 4) tNilG)))))
    (sSeq (sSet 5 (eP (pLcX (jR1 (gCons (pCall oLen (gCons (pVar 1) gNil)) gNil)) [9] (gNm 9) (pTest (pOp oNotN (pOp xIx (pVar 1) (pVar 9)) (pC .non))) (pVar 9))))
    (sSeq (sSet 6 (eP (pCall oSum (gCons (pLcX (iSq (pVar 5)) [9] (gNm 9) tNilP (pOp xIx (pOp xIx (pVar 4) (pVar 9)) (pOp xIx (pVar 1) (pVar 9)))) gNil))))
    (sFrz 5 (sSeq (sForX (iSq (pVar 5)) (gNm 7) (sForX (iSq (pVar 5)) (gNm 8) (sSet 6 (eP (pOp oAdd (pVar 6) (pOp oMul (pOp xIx (pOp xIx (pVar 2) (pVar 7)) (pVar 8)) (pOp xIx (pOp xIx (pVar 3) (pOp xIx (pVar 1) (pVar 7))) (pOp xIx (pVar 1) (pVar 8)))))))))
    (sRet (eMv 6)))))))
@[irreducible] def cf_fixed : CF := hid (cfOf 8 [false, false] sem_fixed)
theorem cf_fixed_eq : cf_fixed = cfOf 8 [false, false] sem_fixed := by unfold cf_fixed; rw [hid_eq]
/- cost(job, laying); slots: 0 job, 1 laying -/
def sem_cost : SF :=
  (sRet (eP (pFn cf_fixed (gCons (pVar 0) (gCons (pVar 1) gNil)))))
@[irreducible] def cf_cost : CF := hid (cfOf 0 [false, false] sem_cost)
theorem cf_cost_eq : cf_cost = cfOf 0 [false, false] sem_cost := by unfold cf_cost; rw [hid_eq]
end
end DCA

namespace DCB
open PySem PySem.Spec PyProof.Rows L2 DL
noncomputable section
/- _law_tape(script, start); slots: 0 script, 1 start, 2 cell -/
def sem__law_tape : SF :=
  (sSeq (sSet 2 (eP (pC (.int 0))))
    (sSeq (sIf (teP (pTest (pOp oLt (pVar 1) (pCall oLen (gCons (pVar 0) gNil))))) (sSet 2 (eP (pCall oAbs (gCons (pOp xIx (pVar 0) (pVar 1)) gNil)))) (sIf (teP (pTest (pOp oGt (pCall oLen (gCons (pVar 0) gNil)) (pC (.int 0))))) (sSet 2 (eP (pOp oAdd (pOp oMod (pCall oAbs (gCons (pOp xIx (pVar 0) (pOp oMod (pVar 1) (pCall oLen (gCons (pVar 0) gNil)))) gNil)) (pOp oPow (pC (.int 10)) (pC (.int 9)))) (pOp oMul (pVar 1) (pC (.int 1000003)))))) sNil))
    (sRet (eP (pLst (gCons (pVar 2) (gCons (pOp oAdd (pOp oMod (pOp oAdd (pOp oMul (pVar 1) (pC (.int 7919))) (pVar 2)) (pC (.int 998244353))) (pC (.int 1))) gNil)))))))
@[irreducible] def cf__law_tape : CF := hid (cfOf 1 [false, false] sem__law_tape)
theorem cf__law_tape_eq : cf__law_tape = cfOf 1 [false, false] sem__law_tape := by unfold cf__law_tape; rw [hid_eq]
/- _law_digit(tape, many); slots: 0 tape, 1 many, 2 found, 3 more -/
def sem__law_digit : SF :=
  (sSeq (sIf (teP (pTest (pOp oGt (pOp xIx (pVar 0) (pC (.int 0))) (pC (.int 0))))) (sSeq (sSet 2 (eP (pOp oMod (pOp xIx (pVar 0) (pC (.int 0))) (pVar 1))))
    (sSeq (sStIxX (eP (pOp oFdiv (pOp xIx (pVar 0) (pC (.int 0))) (pVar 1))) (plVar 0) (pC (.int 0)))
    (sRet (eMv 2)))) sNil)
    (sSeq (sStIxX (eP (pOp oMod (pOp oAdd (pOp oMul (pOp xIx (pVar 0) (pC (.int 1))) (pC (.int 48271))) (pC (.int 11))) (pC (.int 2147483647)))) (plVar 0) (pC (.int 1)))
    (sSeq (sSet 3 (eP (pOp oMod (pOp oMul (pOp xIx (pVar 0) (pC (.int 1))) (pC (.int 40692))) (pC (.int 2147483399)))))
    (sRet (eP (pOp oMod (pOp oAdd (pOp oMul (pOp oMod (pOp oMul (pOp xIx (pVar 0) (pC (.int 1))) (pOp xIx (pVar 0) (pC (.int 1)))) (pC (.int 2147483629))) (pC (.int 2147483399))) (pVar 3)) (pVar 1)))))))
@[irreducible] def cf__law_digit : CF := hid (cfOf 2 [true, false] sem__law_digit)
theorem cf__law_digit_eq : cf__law_digit = cfOf 2 [true, false] sem__law_digit := by unfold cf__law_digit; rw [hid_eq]
/- _law_square(tape, many, top, sparse); slots: 0 tape, 1 many, 2 top, 3 sparse, 4 found, 5 one, 6 row, 7 other, 8 number -/
def sem__law_square : SF :=
  (sSeq (sSet 4 (eP (pLst gNil)))
    (sSeq (sForX (jR1 (gCons (pVar 1) gNil)) (gNm 5) (sSeq (sSet 6 (eP (pLst gNil)))
    (sSeq (sForX (jR1 (gCons (pVar 1) gNil)) (gNm 7) (sSeq (sSet 8 (eFn [true, false] cf__law_digit (aPl 0 (aE (eMv 2) aNil))))
    (sSeq (sIf (teAnd (teP (pTest (pVar 3))) (teOr (teP (pTest (pOp oEq (pVar 5) (pVar 7)))) (eTest (eOp oEq (eFn [true, false] cf__law_digit (aPl 0 (aE (eP (pC (.int 3))) aNil))) (eP (pC (.int 0))))))) (sSet 8 (eP (pC (.int 0)))) sNil)
    (sExpr (eMthR mAppend 6 (aE (eMv 8) aNil))))))
    (sExpr (eMthR mAppend 4 (aE (eMv 6) aNil))))))
    (sRet (eMv 4))))
@[irreducible] def cf__law_square : CF := hid (cfOf 5 [true, false, false, false] sem__law_square)
theorem cf__law_square_eq : cf__law_square = cfOf 5 [true, false, false, false] sem__law_square := by unfold cf__law_square; rw [hid_eq]
/- _law_mirrored(square); slots: 0 square, 1 one, 2 other -/
def sem__law_mirrored : SF :=
  (sRet (eP (pLcX (jR1 (gCons (pCall oLen (gCons (pVar 0) gNil)) gNil)) [1] (gNm 1) tNilP (pLcX (jR1 (gCons (pCall oLen (gCons (pVar 0) gNil)) gNil)) [2] (gNm 2) tNilP (pOp xIx (pOp xIx (pVar 0) (pCall oMin2 (gCons (pVar 1) (gCons (pVar 2) gNil)))) (pCall oMax2 (gCons (pVar 1) (gCons (pVar 2) gNil))))))))
@[irreducible] def cf__law_mirrored : CF := hid (cfOf 2 [false] sem__law_mirrored)
theorem cf__law_mirrored_eq : cf__law_mirrored = cfOf 2 [false] sem__law_mirrored := by unfold cf__law_mirrored; rw [hid_eq]
/- _law_on_line(tape, many, top); slots: 0 tape, 1 many, 2 top, 3 spots, 4 place, 5 one, 6 other -/
def sem__law_on_line : SF :=
  (sSeq (sSet 3 (eLcX (jR1 (gCons (pVar 1) gNil)) [4] (gNm 4) tNilP (eFn [true, false] cf__law_digit (aPl 0 (aE (eMv 2) aNil)))))
    (sFrz 3 (sRet (eP (pLcX (iSq (pVar 3)) [5] (gNm 5) tNilP (pLcX (iSq (pVar 3)) [6] (gNm 6) tNilP (pCall oAbs (gCons (pOp oSub (pVar 5) (pVar 6)) gNil))))))))
@[irreducible] def cf__law_on_line : CF := hid (cfOf 4 [true, false, false] sem__law_on_line)
theorem cf__law_on_line_eq : cf__law_on_line = cfOf 4 [true, false, false] sem__law_on_line := by unfold cf__law_on_line; rw [hid_eq]
/- _law_tuples(square); slots: 0 square, 1 row -/
def sem__law_tuples : SF :=
  (sRet (eP (pCall oTuple (gCons (pLcX (iSq (pVar 0)) [1] (gNm 1) tNilP (pCall oTupleF (gCons (pVar 1) gNil))) gNil))))
@[irreducible] def cf__law_tuples : CF := hid (cfOf 1 [false] sem__law_tuples)
theorem cf__law_tuples_eq : cf__law_tuples = cfOf 1 [false] sem__law_tuples := by unfold cf__law_tuples; rw [hid_eq]
/- _law_flows(tape, many, top); slots: 0 tape, 1 many, 2 top, 3 kind, 4 found, 5 work, 6 one, 7 other -/
def sem__law_flows : SF :=
  (sSeq (sSet 3 (eFn [true, false] cf__law_digit (aPl 0 (aE (eP (pC (.int 4))) aNil))))
    (sSeq (sSet 4 (eFn [true, false, false, false] cf__law_square (aPl 0 (aE (eMv 1) (aE (eMv 2) (aE (eP (pC (.bl true))) aNil))))))
    (sSeq (sIf (teP (pTest (pOp oEq (pVar 3) (pC (.int 0))))) (sRet (eP (pFn cf__law_mirrored (gCons (pVar 4) gNil)))) sNil)
    (sSeq (sIf (teP (pTest (pOp oEq (pVar 3) (pC (.int 1))))) (sSeq (sSet 5 (eFn [true, false] cf__law_digit (aPl 0 (aE (eMv 1) aNil))))
    (sForX (jR1 (gCons (pVar 1) gNil)) (gNm 6) (sForX (jR1 (gCons (pVar 1) gNil)) (gNm 7) (sIf (teP (tAnd (pTest (pOp oNe (pVar 6) (pVar 5))) (pTest (pOp oNe (pVar 7) (pVar 5))))) (sStIxX (eP (pC (.int 0))) (plIxX (plVar 4) (pVar 6)) (pVar 7)) sNil)))) sNil)
    (sRet (eMv 4))))))
@[irreducible] def cf__law_flows : CF := hid (cfOf 5 [true, false, false] sem__law_flows)
theorem cf__law_flows_eq : cf__law_flows = cfOf 5 [true, false, false] sem__law_flows := by unfold cf__law_flows; rw [hid_eq]
/- _law_ways(tape, many, top); slots: 0 tape, 1 many, 2 top, 3 kind, 4 found -/
def sem__law_ways : SF :=
  (sSeq (sSet 3 (eFn [true, false] cf__law_digit (aPl 0 (aE (eP (pC (.int 4))) aNil))))
    (sSeq (sIf (teP (pTest (pOp oEq (pVar 3) (pC (.int 0))))) (sRet (eFn [true, false, false] cf__law_on_line (aPl 0 (aE (eMv 1) (aE (eMv 2) aNil))))) sNil)
    (sSeq (sSet 4 (eFn [true, false, false, false] cf__law_square (aPl 0 (aE (eMv 1) (aE (eMv 2) (aE (eP (pC (.bl true))) aNil))))))
    (sSeq (sIf (teP (pTest (pOp oEq (pVar 3) (pC (.int 1))))) (sRet (eP (pFn cf__law_mirrored (gCons (pVar 4) gNil)))) sNil)
    (sRet (eMv 4))))))
@[irreducible] def cf__law_ways : CF := hid (cfOf 2 [true, false, false] sem__law_ways)
theorem cf__law_ways_eq : cf__law_ways = cfOf 2 [true, false, false] sem__law_ways := by unfold cf__law_ways; rw [hid_eq]
/- _law_job(tape, most); slots: 0 tape, 1 most, 2 many, 3 flows, 4 ways, 5 costs -/
def sem__law_job : SF :=
  (sSeq (sSet 2 (eOp oAdd (eP (pC (.int 1))) (eFn [true, false] cf__law_digit (aPl 0 (aE (eMv 1) aNil)))))
    (sSeq (sSet 3 (eFn [true, false, false] cf__law_flows (aPl 0 (aE (eMv 2) (aE (eOp xIx (eP (pLst (gCons (pC (.int 2)) (gCons (pC (.int 5)) (gCons (pC (.int 1000)) gNil))))) (eFn [true, false] cf__law_digit (aPl 0 (aE (eP (pC (.int 3))) aNil)))) aNil)))))
    (sBar (sSeq (sSet 4 (eFn [true, false, false] cf__law_ways (aPl 0 (aE (eMv 2) (aE (eOp xIx (eP (pLst (gCons (pC (.int 2)) (gCons (pC (.int 5)) (gCons (pC (.int 1000)) gNil))))) (eFn [true, false] cf__law_digit (aPl 0 (aE (eP (pC (.int 3))) aNil)))) aNil)))))
    (sBar (sSeq (sSet 5 (eFn [true, false, false, false] cf__law_square (aPl 0 (aE (eMv 2) (aE (eOp xIx (eP (pLst (gCons (pC (.int 1)) (gCons (pC (.int 9)) (gCons (pC (.int 1000001)) gNil))))) (eFn [true, false] cf__law_digit (aPl 0 (aE (eP (pC (.int 3))) aNil)))) (aE (eP (pC (.bl false))) aNil))))))
    (sBar (sRet (eP (pTup (gCons (pFn cf__law_tuples (gCons (pVar 3) gNil)) (gCons (pFn cf__law_tuples (gCons (pVar 4) gNil)) (gCons (pFn cf__law_tuples (gCons (pVar 5) gNil)) gNil)))))))))))))
@[irreducible] def cf__law_job : CF := hid (cfOf 4 [true, false] sem__law_job)
theorem cf__law_job_eq : cf__law_job = cfOf 4 [true, false] sem__law_job := by unfold cf__law_job; rw [hid_eq]
/- _law_laying(tape, many); slots: 0 tape, 1 many, 2 left, 3 work -/
def sem__law_laying : SF :=
  (sSeq (sSet 2 (eP (pLR1X (pVar 1))))
    (sRet (eCallB oTuple (aE (eLcX (jR1 (gCons (pVar 1) gNil)) [3] (gNm 3) tNilP (eMthR xPopAt 2 (aE (eFn [true, false] cf__law_digit (aPl 0 (aE (eP (pCall oLen (gCons (pVar 2) gNil))) aNil))) aNil))) aNil))))
@[irreducible] def cf__law_laying : CF := hid (cfOf 2 [true, false] sem__law_laying)
theorem cf__law_laying_eq : cf__law_laying = cfOf 2 [true, false] sem__law_laying := by unfold cf__law_laying; rw [hid_eq]
/- _law_cost(job, laying); slots: 0 job, 1 laying, 2 flows, 3 ways, 4 costs, 5 total, 6 work, 7 place, 8 other, 9 there -/
def sem__law_cost : SF :=
  (sSeq (sAsg (eMv 0) (gTu 3 (tConsG (gNm 2) (tConsG (gNm 3) (tConsG (gNm 4) tNilG)))))
    (sSeq (sSet 5 (eP (pC (.int 0))))
    (sSeq (sForX (iEn (gCons (pVar 1) gNil)) (gTu 2 (tConsG (gNm 6) (tConsG (gNm 7) tNilG))) (sSeq (sSet 5 (eP (pOp oAdd (pVar 5) (pOp xIx (pOp xIx (pVar 4) (pVar 6)) (pVar 7)))))
    (sForX (iEn (gCons (pVar 1) gNil)) (gTu 2 (tConsG (gNm 8) (tConsG (gNm 9) tNilG))) (sSet 5 (eP (pOp oAdd (pVar 5) (pOp oMul (pOp xIx (pOp xIx (pVar 2) (pVar 6)) (pVar 8)) (pOp xIx (pOp xIx (pVar 3) (pVar 7)) (pVar 9)))))))))
    (sRet (eMv 5)))))
@[irreducible] def cf__law_cost : CF := hid (cfOf 8 [false, false] sem__law_cost)
theorem cf__law_cost_eq : cf__law_cost = cfOf 8 [false, false] sem__law_cost := by unfold cf__law_cost; rw [hid_eq]
/- _law_layings(many); slots: 0 many, 1 found, 2 work, 3 longer, 4 some, 5 place -/
def sem__law_layings : SF :=
  (sSeq (sSet 1 (eP (pLst (gCons (pTup gNil) gNil))))
    (sSeq (sForX (jR1 (gCons (pVar 0) gNil)) (gNm 2) (sSeq (sSet 3 (eP (pLst gNil)))
    (sSeq (sForX (iSq (pVar 1)) (gNm 4) (sExpr (eMthR xExtend 3 (aE (eP (pLcX (jR1 (gCons (pVar 0) gNil)) [5] (gNm 5) (pTest (pOp (oIn true) (pVar 5) (pVar 4))) (pOp oAdd (pVar 4) (pTup (gCons (pVar 5) gNil))))) aNil))))
    (sSet 1 (eMv 3)))))
    (sRet (eMv 1))))
@[irreducible] def cf__law_layings : CF := hid (cfOf 5 [false] sem__law_layings)
theorem cf__law_layings_eq : cf__law_layings = cfOf 5 [false] sem__law_layings := by unfold cf__law_layings; rw [hid_eq]
/- _law_whole(thing); slots: 0 thing -/
def sem__law_whole : SF :=
  (sRet (eP (pAndV (pIsI .int (pVar 0)) (pUn uNot (pIsI .bool (pVar 0))))))
@[irreducible] def cf__law_whole : CF := hid (cfOf 0 [false] sem__law_whole)
theorem cf__law_whole_eq : cf__law_whole = cfOf 0 [false] sem__law_whole := by unfold cf__law_whole; rw [hid_eq]
/- _law_swapped(laying, one, other); slots: 0 laying, 1 one, 2 other, 3 found -/
def sem__law_swapped : SF :=
  (sSeq (sSet 3 (eP (pCall oListF (gCons (pVar 0) gNil))))
    (sSeq (sSwap (pTup (gCons (pOp xIx (pVar 3) (pVar 2)) (gCons (pOp xIx (pVar 3) (pVar 1)) gNil))) (plVar 3) (pVar 1) (plVar 3) (pVar 2))
    (sRet (eP (pCall oTupleF (gCons (pVar 3) gNil))))))
@[irreducible] def cf__law_swapped : CF := hid (cfOf 1 [false, false, false] sem__law_swapped)
theorem cf__law_swapped_eq : cf__law_swapped = cfOf 1 [false, false, false] sem__law_swapped := by unfold cf__law_swapped; rw [hid_eq]
/- exchanged(laying, one, other); slots: 0 laying, 1 one, 2 other, 3 found -/
def sem_exchanged : SF :=
  (sSeq (sSet 3 (eP (pCall oListF (gCons (pVar 0) gNil))))
    (sSeq (sStIxX (eP (pOp xIx (pVar 0) (pVar 2))) (plVar 3) (pVar 1))
    (sSeq (sStIxX (eP (pOp xIx (pVar 0) (pVar 1))) (plVar 3) (pVar 2))
    (sRet (eP (pCall oTupleF (gCons (pVar 3) gNil)))))))
@[irreducible] def cf_exchanged : CF := hid (cfOf 1 [false, false, false] sem_exchanged)
theorem cf_exchanged_eq : cf_exchanged = cfOf 1 [false, false, false] sem_exchanged := by unfold cf_exchanged; rw [hid_eq]
/- beside_saved(job, laying, one, other); slots: 0 job, 1 laying, 2 one, 3 other, 4 flows, 5 ways, 6 costs, 7 near, 8 far, 9 found, 10 k, 11 place -/
def sem_beside_saved : SF :=
  (sSeq (sAsg (eMv 0) (gTu 3 (tConsG (gNm 4) (tConsG (gNm 5) (tConsG (gNm 6) tNilG)))))
    (sSeq (sPar 7 8 (aE (eP (pOp xIx (pVar 1) (pVar 2))) (aE (eP (pOp xIx (pVar 1) (pVar 3))) aNil)))
    (sSeq (sSet 9 (eP (pOp oSub (pOp oSub (pOp oAdd (pOp xIx (pOp xIx (pVar 6) (pVar 2)) (pVar 7)) (pOp xIx (pOp xIx (pVar 6) (pVar 3)) (pVar 8))) (pOp xIx (pOp xIx (pVar 6) (pVar 2)) (pVar 8))) (pOp xIx (pOp xIx (pVar 6) (pVar 3)) (pVar 7)))))
    (sSeq (sForX (iEn (gCons (pVar 1) gNil)) (gTu 2 (tConsG (gNm 10) (tConsG (gNm 11) tNilG))) (sIf (teP (tAnd (pTest (pOp oNe (pVar 10) (pVar 2))) (pTest (pOp oNe (pVar 10) (pVar 3))))) (sSeq (sSet 9 (eP (pOp oAdd (pVar 9) (pOp oMul (pOp oSub (pOp xIx (pOp xIx (pVar 4) (pVar 2)) (pVar 10)) (pOp xIx (pOp xIx (pVar 4) (pVar 3)) (pVar 10))) (pOp oSub (pOp xIx (pOp xIx (pVar 5) (pVar 7)) (pVar 11)) (pOp xIx (pOp xIx (pVar 5) (pVar 8)) (pVar 11)))))))
    (sSet 9 (eP (pOp oAdd (pVar 9) (pOp oMul (pOp oSub (pOp xIx (pOp xIx (pVar 4) (pVar 10)) (pVar 2)) (pOp xIx (pOp xIx (pVar 4) (pVar 10)) (pVar 3))) (pOp oSub (pOp xIx (pOp xIx (pVar 5) (pVar 11)) (pVar 7)) (pOp xIx (pOp xIx (pVar 5) (pVar 11)) (pVar 8)))))))) sNil))
    (sRet (eMv 9))))))
@[irreducible] def cf_beside_saved : CF := hid (cfOf 8 [false, false, false, false] sem_beside_saved)
theorem cf_beside_saved_eq : cf_beside_saved = cfOf 8 [false, false, false, false] sem_beside_saved := by unfold cf_beside_saved; rw [hid_eq]
/- saved(job, laying, one, other); slots: 0 job, 1 laying, 2 one, 3 other, 4 flows, 5 ways, 6 costs, 7 near, 8 far, 9 between -/
def sem_saved : SF :=
  (sSeq (sIf (teP (pTest (pOp oEq (pVar 2) (pVar 3)))) (sRet (eP (pC (.int 0)))) sNil)
    (sSeq (sAsg (eMv 0) (gTu 3 (tConsG (gNm 4) (tConsG (gNm 5) (tConsG (gNm 6) tNilG)))))
    (sSeq (sPar 7 8 (aE (eP (pOp xIx (pVar 1) (pVar 2))) (aE (eP (pOp xIx (pVar 1) (pVar 3))) aNil)))
    (sSeq (sSet 9 (eP (pOp oMul (pOp oSub (pOp xIx (pOp xIx (pVar 4) (pVar 2)) (pVar 3)) (pOp xIx (pOp xIx (pVar 4) (pVar 3)) (pVar 2))) (pOp oSub (pOp xIx (pOp xIx (pVar 5) (pVar 7)) (pVar 8)) (pOp xIx (pOp xIx (pVar 5) (pVar 8)) (pVar 7))))))
    (sRet (eP (pOp oAdd (pFn cf_beside_saved (gCons (pVar 0) (gCons (pVar 1) (gCons (pVar 2) (gCons (pVar 3) gNil))))) (pVar 9))))))))
@[irreducible] def cf_saved : CF := hid (cfOf 6 [false, false, false, false] sem_saved)
theorem cf_saved_eq : cf_saved = cfOf 6 [false, false, false, false] sem_saved := by unfold cf_saved; rw [hid_eq]
end
end DCB

/-! SB: what the shared helpers of the group DCB answer. -/
namespace DCB
open PySem PySem.Spec PyProof.Rows L2 DL PA
def Tape (d : D) : Prop := ∃ a b, d = .lst [.int a, .int b] ∧ 0 ≤ a ∧ 0 ≤ b ∧ b < 2147483647
theorem pos1 : (0 : Int) < 2147483647 := by decide
theorem pos2 : (0 : Int) < 2147483399 := by decide
theorem pos3 : (0 : Int) < 2147483629 := by decide
theorem pos4 : (0 : Int) < 998244353 := by decide
theorem tape_spec {ns : List Int} {start : Nat} {Q X} (hl : ns.length ≤ 63) (hs : start ≤ 63) (h : ∀ d, Tape d → Q (.sh, d) []) : cf__law_tape [(.fl, .kst (ns.map .int)), (.fl, .int start)] Q X := by
  rw [cf__law_tape_eq]
  have fin : ∀ c : Int, 0 ≤ c → Q (.sh, .lst [.int c, .int (((start : Int) * 7919 + c) % 998244353 + 1)]) [] := fun c hc => h _ ⟨_, _, rfl, hc, by have := Int.emod_nonneg ((start : Int) * 7919 + c) (b := 998244353) (by decide); omega, by have := Int.emod_lt_of_pos ((start : Int) * 7919 + c) pos4; omega⟩
  have hlen : ((ns.map D.int).length : Int) = ns.length := by rw [List.length_map]
  refine ifd (fun hp => ?_) fun hp => ifd (fun hq => ?_) fun hq => ?_
  · have hp' : start < ns.length := by omega
    refine go_ix (d := .int ns[start]) rfl (atI_nat (by rw [List.getElem?_map, List.getElem?_eq_getElem hp']; rfl)) ?_
    exact ⟨.inl (by omega), pos4, fin _ (by split <;> omega)⟩
  · have hq' : 0 < ns.length := by omega
    have hm : start % ns.length < ns.length := Nat.mod_lt _ hq'
    refine ⟨by rw [hlen]; show (0 : Int) < _; omega, go_ix (d := .int ns[start % ns.length]) rfl ?_ ?_⟩
    · rw [hlen]
      exact atI_nat (j := start % ns.length) (by rw [List.getElem?_map, List.getElem?_eq_getElem hm]; rfl)
    refine ⟨⟨by decide, by decide, by decide⟩, ⟨(show (0 : Int) < 10 ^ (9 : Int).toNat by decide), ⟨.inl (by omega), ⟨.inl (by omega), pos4, fin _ ?_⟩⟩⟩⟩
    have := Int.emod_nonneg (if ns[start % ns.length] < 0 then -ns[start % ns.length] else ns[start % ns.length]) (b := 10 ^ (9 : Int).toNat) (by decide)
    omega
  · exact ⟨.inl (by omega), pos4, fin 0 (by omega)⟩
theorem digit_spec {d : D} {many : Int} {Q X} (hd : Tape d) (hm : 0 < many) (hm2 : many ≤ 1000000000000000000000000000000000000000000000000000000000000) (h : ∀ (r : Nat) d, (r : Int) < many → Tape d → Q (.fl, .int r) [(.sh, d)]) : cf__law_digit [(.sh, d), (.fl, .int many)] Q X := by
  rw [cf__law_digit_eq]
  obtain ⟨a, b, rfl, h0, h1, h2⟩ := hd
  have h' : ∀ (r : Int) d, 0 ≤ r → r < many → Tape d → Q (.fl, .int r) [(.sh, d)] := fun r d x y z => by
    obtain ⟨n, rfl⟩ := Int.eq_ofNat_of_zero_le x
    exact h n d y z
  refine go_ix rfl rfl (ifd (fun hp => ?_) fun hp => ?_)
  · refine go_ix rfl rfl ⟨hm, go_ix rfl rfl ⟨⟨hm, by omega⟩, go_st rfl rfl ?_⟩⟩
    exact h' _ _ (Int.emod_nonneg _ (by omega)) (Int.emod_lt_of_pos _ hm) ⟨a / many, b, rfl, Int.ediv_nonneg h0 (by omega), h1, h2⟩
  · refine go_ix rfl rfl ⟨.inl (by omega), pos1, go_st rfl rfl ?_⟩
    have b0 := Int.emod_nonneg (b * 48271 + 11) (b := 2147483647) (by decide)
    have b1 := Int.emod_lt_of_pos (b * 48271 + 11) pos1
    refine go_ix rfl rfl ⟨.inl (by omega), pos2, ?_⟩
    refine go_ix rfl rfl (go_ix rfl rfl ⟨.inl (by omega), pos3, ?_⟩)
    refine ⟨.inr (by omega), hm, ?_⟩
    exact h' _ _ (Int.emod_nonneg _ (by omega)) (Int.emod_lt_of_pos _ hm) ⟨a, _, rfl, h0, b0, b1⟩
abbrev sqL (n : Nat) (f : Nat → Nat → Int) : D := .lst (tabl n fun i => .lst (tabl n fun j => .int (f i j)))
abbrev tabD (n : Nat) (f : Nat → Nat → Int) : D := .tup (tabl n fun i => .tup (tabl n fun j => .int (f i j)))
def Tab (n : Nat) (b : Int) (f : Nat → Nat → Int) : Prop := ∀ i j, i < n → j < n → 0 ≤ f i j ∧ f i j ≤ b
def Bare (n : Nat) (f : Nat → Nat → Int) : Prop := ∀ i, i < n → f i i = 0
abbrev rowsL (i n : Nat) (f : Nat → Nat → Int) : List D := tabl i fun i => .lst (tabl n fun j => .int (f i j))
theorem square_row {De : DEnds} {d : D} {n i : Nat} {top : Int} {sparse : Bool} {k : Kd} {rows : List D} {b c e : Sl} (hk : k = .sh ∨ k = .ow) (hi : i < n) (hr : rows.length ≤ 1000) (hd : Tape d) (hn : n ≤ 1000) (h0 : 0 < top) (h1 : top ≤ 1000000000)
    (h : ∀ d (g : Nat → Int) c e, Tape d → (∀ j, j < n → 0 ≤ g j ∧ g j ≤ top - 1) → (sparse = true → g i = 0) →
      De.nx [some (.sh, d), some (.fl, .int n), some (.fl, .int top), some (.fl, .bl sparse), some (.ow, .lst (rows ++ [.lst (tabl n fun j => .int (g j))])), some (.fl, .int i), none, c, e]) :
    (sSeq (sSet 6 (eP (pLst gNil)))
    (sSeq (sForX (jR1 (gCons (pVar 1) gNil)) (gNm 7) (sSeq (sSet 8 (eFn [true, false] cf__law_digit (aPl 0 (aE (eMv 2) aNil))))
    (sSeq (sIf (teAnd (teP (pTest (pVar 3))) (teOr (teP (pTest (pOp oEq (pVar 5) (pVar 7)))) (eTest (eOp oEq (eFn [true, false] cf__law_digit (aPl 0 (aE (eP (pC (.int 3))) aNil))) (eP (pC (.int 0))))))) (sSet 8 (eP (pC (.int 0)))) sNil)
    (sExpr (eMthR mAppend 6 (aE (eMv 8) aNil))))))
    (sExpr (eMthR mAppend 4 (aE (eMv 6) aNil))))) De [some (.sh, d), some (.fl, .int n), some (.fl, .int top), some (.fl, .bl sparse), some (k, .lst rows), some (.fl, .int i), b, c, e] := by
  have hsrc : ∀ (P : List KD → Prop), P (rangeD 0 n) → jR1 (gCons (pVar 1) gNil) (rdOnly [some (.sh, d), some (.fl, .int n), some (.fl, .int top), some (.fl, .bl sparse), some (k, .lst rows), some (.fl, .int i), some (.sh, .lst []), c, e]) P := fun P p => by
    rcases hk with rfl | rfl <;> exact go_R1 rfl (by omega) p
  refine hsrc _ ?_
  refine go_For0 (fun j ρ => ∃ d, ∃ g : Nat → Int, ∃ c e, Tape d ∧ (∀ j', j' < j → 0 ≤ g j' ∧ g j' ≤ top - 1) ∧ (sparse = true → i < j → g i = 0) ∧ ρ = [some (.sh, d), some (.fl, .int n), some (.fl, .int top), some (.fl, .bl sparse), some (k, .lst rows), some (.fl, .int i), some (.sh, .lst (tabl j fun j => .int (g j))), c, e])
    ⟨d, fun _ => 0, c, e, hd, fun _ h => absurd h (Nat.not_lt_zero _), fun _ h => absurd h (Nat.not_lt_zero _), rfl⟩ (fun j ρ N hj hI hN => ?_) fun ρ hI => ?_
  · obtain ⟨d, g, c, e, hd, hg, hs, rfl⟩ := hI
    have fin : ∀ (y : Int) d, Tape d → 0 ≤ y → y ≤ top - 1 → (sparse = true → i = j → y = 0) → N [some (.sh, d), some (.fl, .int n), some (.fl, .int top), some (.fl, .bl sparse), some (k, .lst rows), some (.fl, .int i), some (.sh, .lst ((tabl j fun j => .int (g j)) ++ [.int y])), some (.fl, .int j), some (.fl, .int y)] := fun y d hd y0 y1 ys => by
      refine hN _ ⟨d, fun j' => if j' = j then y else g j', some (.fl, .int j), some (.fl, .int y), hd, fun j' hj' => ?_, fun e1 e2 => ?_, ?_⟩
      · show 0 ≤ (if j' = j then y else g j') ∧ (if j' = j then y else g j') ≤ top - 1
        by_cases q : j' = j
        · rw [if_pos q]; exact ⟨y0, y1⟩
        · rw [if_neg q]; exact hg j' (by omega)
      · show (if i = j then y else g i) = 0
        by_cases q : i = j
        · rw [if_pos q]; exact ys e1 q
        · rw [if_neg q]; exact hs e1 (by omega)
      · rw [tabl_snoc]
        rw [show (tabl (j + 1) fun i => if i = j then D.int y else D.int (g i)) = tabl (j + 1) fun j' => D.int (if j' = j then y else g j') from tabl_congr fun i _ => by
          by_cases q : i = j
          · rw [if_pos q, if_pos q]
          · rw [if_neg q, if_neg q]]
    have hle : (tabl j fun j => D.int (g j)).length < 10000000 := by rw [tabl_len]; omega
    refine ⟨⟨_, rfl⟩, digit_spec hd h0 (by omega) fun r d hr hd => ?_⟩
    refine ifb (fun es => ifd (fun eq => ?_) fun eq => ?_) fun es => ?_
    · exact ⟨trivial, rfl, hle, fin 0 d hd (by omega) (by omega) fun _ _ => rfl⟩
    · refine ⟨⟨_, rfl⟩, digit_spec hd (by omega) (by omega) fun s d _ hd => ifd (fun eq2 => ?_) fun eq2 => ?_⟩
      · exact ⟨trivial, rfl, hle, fin 0 d hd (by omega) (by omega) fun _ _ => rfl⟩
      · exact ⟨trivial, rfl, hle, fin r d hd (by omega) (by omega) fun _ q => absurd (by rw [q]) eq⟩
    · exact ⟨trivial, rfl, hle, fin r d hd (by omega) (by omega) fun q _ => absurd q (by rw [es]; decide)⟩
  · obtain ⟨d, g, c, e, hd, hg, hs, rfl⟩ := hI
    rcases hk with rfl | rfl
    · exact ⟨trivial, rfl, by omega, h d g c e hd hg fun q => hs q hi⟩
    · exact ⟨trivial, rfl, by omega, h d g c e hd hg fun q => hs q hi⟩
theorem rows_snoc (i n : Nat) (f : Nat → Nat → Int) (g : Nat → Int) : rowsL i n f ++ [.lst (tabl n fun j => .int (g j))] = rowsL (i + 1) n fun i' j => if i' = i then g j else f i' j := by
  unfold rowsL
  rw [tabl_snoc]
  refine tabl_congr fun i' _ => ?_
  by_cases q : i' = i
  · rw [if_pos q]
    refine congrArg D.lst (tabl_congr fun j _ => ?_)
    show D.int (g j) = D.int (if i' = i then g j else f i' j)
    rw [if_pos q]
  · rw [if_neg q]
    refine congrArg D.lst (tabl_congr fun j _ => ?_)
    show D.int (f i' j) = D.int (if i' = i then g j else f i' j)
    rw [if_neg q]
theorem square_spec {d : D} {n : Nat} {top : Int} {sparse : Bool} {Q X} (hd : Tape d) (hn1 : 1 ≤ n) (hn : n ≤ 1000) (h0 : 0 < top) (h1 : top ≤ 1000000000)
    (h : ∀ f d, Tab n (top - 1) f → (sparse = true → Bare n f) → Tape d → Q (.ow, sqL n f) [(.sh, d)]) : cf__law_square [(.sh, d), (.fl, .int n), (.fl, .int top), (.fl, .bl sparse)] Q X := by
  rw [cf__law_square_eq]
  refine go_R1 rfl (by omega) ?_
  refine go_For0 (fun i ρ => ∃ d f a b c e, Tape d ∧ (∀ i' j, i' < i → j < n → 0 ≤ f i' j ∧ f i' j ≤ top - 1) ∧ (sparse = true → ∀ j, j < i → f j j = 0) ∧
      ρ = [some (.sh, d), some (.fl, .int n), some (.fl, .int top), some (.fl, .bl sparse), some (kO i, .lst (rowsL i n f)), a, b, c, e])
    ⟨d, fun _ _ => 0, none, none, none, none, hd, fun _ _ h => absurd h (Nat.not_lt_zero _), fun _ _ h => absurd h (Nat.not_lt_zero _), rfl⟩ (fun i ρ N hi hI hN => ?_) fun ρ hI => ?_
  · obtain ⟨d, f, a, b, c, e, hd, hf, hb, rfl⟩ := hI
    refine square_row (k := kO i) (rows := rowsL i n f) (kO_cases i) hi (by rw [tabl_len]; omega) hd hn h0 h1 fun d g c e hd hg hs => ?_
    rw [rows_snoc]
    refine hN _ ⟨d, fun i' j => if i' = i then g j else f i' j, _, _, _, _, hd, fun i' j hi' hj => ?_, fun es j hj => ?_, rfl⟩
    · show 0 ≤ (if i' = i then g j else f i' j) ∧ (if i' = i then g j else f i' j) ≤ top - 1
      by_cases q : i' = i
      · rw [if_pos q]; exact hg j hj
      · rw [if_neg q]; exact hf i' j (by omega) hj
    · show (if j = i then g j else f j j) = 0
      by_cases q : j = i
      · rw [if_pos q, q]; exact hs es
      · rw [if_neg q]; exact hb es j (by omega)
  · obtain ⟨d, f, a, b, c, e, hd, hf, hb, rfl⟩ := hI
    rw [kO_ow hn1]
    exact h f d hf hb hd
theorem mirrored_spec {n : Nat} {f : Nat → Nat → Int} {Q X} (hn1 : 1 ≤ n) (hn : n ≤ 1000) (h : Q (.ow, sqL n fun i j => f (min i j) (max i j)) []) : cf__law_mirrored [(.rd, sqL n f)] Q X := by
  rw [cf__law_mirrored_eq]
  refine go_R1 (n := n) (congrArg Int.ofNat tabl_len) (by omega) ?_
  refine go_LcS0 (fun i => .lst (tabl n fun j => .int (f (min i j) (max i j)))) (by omega) (fun i N hi hN => ?_) ?_
  · refine go_R1 (n := n) (congrArg Int.ofNat tabl_len) (by omega) ?_
    refine go_Lc0 (fun j => .int (f (min i j) (max i j))) (by omega) (fun j N hj hN => ?_) hN
    refine go_tablI (i := min i j) ?_ (by omega) (go_tablI (i := max i j) ?_ (by omega) hN)
    · show (if (j : Int) < i then (j : Int) else i) = _
      split <;> omega
    · show (if (j : Int) > i then (j : Int) else i) = _
      split <;> omega
  · rw [kO_ow hn1]; exact h
theorem on_line_spec {d : D} {n : Nat} {top : Int} {Q X} (hd : Tape d) (hn1 : 1 ≤ n) (hn : n ≤ 1000) (h0 : 0 < top) (h1 : top ≤ 1000000000)
    (h : ∀ (s : Nat → Int) d, (∀ i, i < n → 0 ≤ s i ∧ s i < top) → Tape d → Q (.ow, sqL n fun i j => if s i - s j < 0 then -(s i - s j) else s i - s j) [(.sh, d)]) : cf__law_on_line [(.sh, d), (.fl, .int n), (.fl, .int top)] Q X := by
  rw [cf__law_on_line_eq]
  refine go_R1 rfl (by omega) ?_
  refine go_LcEA D.int (fun _ ρ => ∃ d, Tape d ∧ ρ = [some (.sh, d), some (.fl, .int n), some (.fl, .int top), none, none, none, none]) (fun _ c => 0 ≤ c ∧ c < top) (by omega) ⟨d, hd, rfl⟩ (fun i ρ N hi hI hN => ?_) fun s ρ hs hI => ?_
  · obtain ⟨d, hd, rfl⟩ := hI
    exact ⟨⟨_, rfl⟩, digit_spec hd h0 (by omega) fun r d hr hd => hN r _ ⟨by omega, hr⟩ ⟨d, hd, rfl⟩⟩
  · obtain ⟨d, hd, rfl⟩ := hI
    refine go_LcST (fun i => .lst (tabl n fun j => .int (if s i - s j < 0 then -(s i - s j) else s i - s j))) (by omega) (fun i N hi hN => ?_) ?_
    · exact go_LcT (fun j => .int (if s i - s j < 0 then -(s i - s j) else s i - s j)) (by omega) (fun j N hj hN => hN) hN
    · rw [kO_ow hn1]; exact h s d hs hd
theorem tuples_spec {n : Nat} {f : Nat → Nat → Int} {Q X} (hn : n ≤ 1000) (h : Q (.fl, tabD n f) []) : cf__law_tuples [(.rd, sqL n f)] Q X := by
  rw [cf__law_tuples_eq]
  exact go_LcT (fun i => .tup (tabl n fun j => .int (f i j))) (by omega) (fun i N hi hN => ⟨flat_ints, hN⟩) h
theorem flows_spec {d : D} {n : Nat} {top : Int} {Q X} (hd : Tape d) (hn1 : 1 ≤ n) (hn : n ≤ 1000) (h0 : 0 < top) (h1 : top ≤ 1000000000)
    (h : ∀ f d, Tab n (top - 1) f → Bare n f → Tape d → Q (.ow, sqL n f) [(.sh, d)]) : cf__law_flows [(.sh, d), (.fl, .int n), (.fl, .int top)] Q X := by
  rw [cf__law_flows_eq]
  refine ⟨⟨_, rfl⟩, digit_spec hd (by omega) (by omega) fun r d hr hd => ⟨⟨_, rfl⟩, square_spec (sparse := true) hd hn1 hn h0 h1 fun f d hf hb hd => ?_⟩⟩
  refine ifd (fun _ => ?_) fun _ => ifd (fun _ => ⟨⟨_, rfl⟩, digit_spec hd (by omega) (by omega) fun w d hw hd => ?_⟩) fun _ => h f d hf (hb rfl) hd
  · exact mirrored_spec hn1 hn (h _ d (fun i j hi hj => hf _ _ (by omega) (by omega)) (fun i hi => by show f (min i i) (max i i) = 0; rw [Nat.min_self, Nat.max_self]; exact hb rfl i hi) hd)
  · refine go_R1 rfl (by omega) (go_For0 (fun _ ρ => ∃ f a b, Tab n (top - 1) f ∧ Bare n f ∧ ρ = [some (.sh, d), some (.fl, .int n), some (.fl, .int top), some (.fl, .int r), some (.ow, sqL n f), some (.fl, .int w), a, b]) ⟨f, none, none, hf, hb rfl, rfl⟩ (fun i ρ N hi hI hN => ?_) fun ρ hI => ?_)
    · obtain ⟨f, a, b, hf, hb, rfl⟩ := hI
      refine go_R1 rfl (by omega) (go_For0 (fun _ ρ => ∃ f b, Tab n (top - 1) f ∧ Bare n f ∧ ρ = [some (.sh, d), some (.fl, .int n), some (.fl, .int top), some (.fl, .int r), some (.ow, sqL n f), some (.fl, .int w), some (.fl, .int i), b]) ⟨f, b, hf, hb, rfl⟩ (fun j ρ N hj hI hN => ?_) fun ρ hI => ?_)
      · obtain ⟨f, b, hf, hb, rfl⟩ := hI
        refine ifdn (fun _ => ifdn (fun _ => ?_) fun _ => hN _ ⟨f, _, hf, hb, rfl⟩) fun _ => hN _ ⟨f, _, hf, hb, rfl⟩
        refine go_pl rfl (by rw [tabl_len]; exact ixN_ok hi) (tabl_get hi) (go_stT rfl hj (hN _ ⟨fun i' j' => if i' = i ∧ j' = j then 0 else f i' j', some (.fl, .int j), ?_, ?_, ?_⟩))
        · intro i' j' hi' hj'
          show 0 ≤ (if i' = i ∧ j' = j then 0 else f i' j') ∧ (if i' = i ∧ j' = j then 0 else f i' j') ≤ top - 1
          split
          · omega
          · exact hf i' j' hi' hj'
        · intro i' hi'
          show (if i' = i ∧ i' = j then 0 else f i' i') = 0
          split
          · rfl
          · exact hb i' hi'
        · have key : D.lst ((tabl n fun i => D.lst (tabl n fun j => D.int (f i j))).set i (D.lst (tabl n fun j' => if j' = j then D.int 0 else D.int (f i j')))) = sqL n fun i' j' => if i' = i ∧ j' = j then 0 else f i' j' := by
            rw [set_tabl]
            refine congrArg D.lst (tabl_congr fun i' _ => ?_)
            by_cases q : i' = i
            · rw [if_pos q]
              refine congrArg D.lst (tabl_congr fun j' _ => ?_)
              show _ = D.int (if i' = i ∧ j' = j then 0 else f i' j')
              by_cases q2 : j' = j
              · rw [if_pos q2, if_pos ⟨q, q2⟩]
              · rw [if_neg q2, if_neg fun z => q2 z.2, q]
            · rw [if_neg q]
              refine congrArg D.lst (tabl_congr fun j' _ => ?_)
              show _ = D.int (if i' = i ∧ j' = j then 0 else f i' j')
              rw [if_neg fun z => q z.1]
          rw [← key]; rfl
      · obtain ⟨f, b, hf, hb, rfl⟩ := hI
        exact hN _ ⟨f, _, _, hf, hb, rfl⟩
    · obtain ⟨f, a, b, hf, hb, rfl⟩ := hI
      exact h f d hf hb hd
theorem ways_spec {d : D} {n : Nat} {top : Int} {Q X} (hd : Tape d) (hn1 : 1 ≤ n) (hn : n ≤ 1000) (h0 : 0 < top) (h1 : top ≤ 1000000000)
    (h : ∀ f d, Tab n (top - 1) f → Bare n f → Tape d → Q (.ow, sqL n f) [(.sh, d)]) : cf__law_ways [(.sh, d), (.fl, .int n), (.fl, .int top)] Q X := by
  rw [cf__law_ways_eq]
  refine ⟨⟨_, rfl⟩, digit_spec hd (by omega) (by omega) fun r d hr hd => ?_⟩
  refine ifd (fun _ => ⟨⟨_, rfl⟩, on_line_spec hd hn1 hn h0 h1 fun s d hs hd => ?_⟩) fun _ => ⟨⟨_, rfl⟩, square_spec (sparse := true) hd hn1 hn h0 h1 fun f d hf hb hd => ifd (fun _ => ?_) fun _ => h f d hf (hb rfl) hd⟩
  · refine h _ d (fun i j hi hj => ?_) (fun i hi => ?_) hd
    · have := hs i hi
      have := hs j hj
      show 0 ≤ (if s i - s j < 0 then -(s i - s j) else s i - s j) ∧ (if s i - s j < 0 then -(s i - s j) else s i - s j) ≤ top - 1
      split <;> omega
    · show (if s i - s i < 0 then -(s i - s i) else s i - s i) = 0
      split <;> omega
  · exact mirrored_spec hn1 hn (h _ d (fun i j hi hj => hf _ _ (by omega) (by omega)) (fun i hi => by show f (min i i) (max i i) = 0; rw [Nat.min_self, Nat.max_self]; exact hb rfl i hi) hd)
abbrev jobD (n : Nat) (F W C : Nat → Nat → Int) : D := .tup [tabD n F, tabD n W, tabD n C]
structure Job (n : Nat) (F W C : Nat → Nat → Int) : Prop where
  f : Tab n 999 F
  w : Tab n 999 W
  c : Tab n 1000000 C
  f0 : Bare n F
  w0 : Bare n W
theorem Tab.mono {n : Nat} {b c : Int} {f : Nat → Nat → Int} (h : Tab n b f) (hb : b ≤ c) : Tab n c f := fun i j hi hj => ⟨(h i j hi hj).1, Int.le_trans (h i j hi hj).2 hb⟩
theorem one_of3 {r : Nat} {a b c : Int} (hr : (r : Int) < 3) (C : Int → Prop) (ha : C a) (hb : C b) (hc : C c) : ∃ d, L2.atI [D.int a, D.int b, D.int c] r = some d ∧ ∃ t, d = .int t ∧ C t := by
  have e : r = 0 ∨ r = 1 ∨ r = 2 := by omega
  rcases e with rfl | rfl | rfl
  · exact ⟨_, rfl, a, rfl, ha⟩
  · exact ⟨_, rfl, b, rfl, hb⟩
  · exact ⟨_, rfl, c, rfl, hc⟩
theorem pick1 {r : Nat} (hr : (r : Int) < 3) : ∃ d, L2.atI [D.int 2, D.int 5, D.int 1000] r = some d ∧ ∃ t, d = .int t ∧ 0 < t ∧ t ≤ 1000 := one_of3 hr (fun t => 0 < t ∧ t ≤ 1000) (by omega) (by omega) (by omega)
theorem pick2 {r : Nat} (hr : (r : Int) < 3) : ∃ d, L2.atI [D.int 1, D.int 9, D.int 1000001] r = some d ∧ ∃ t, d = .int t ∧ 0 < t ∧ t ≤ 1000001 := one_of3 hr (fun t => 0 < t ∧ t ≤ 1000001) (by omega) (by omega) (by omega)
theorem job_spec {d : D} {most : Int} {Q X} (hd : Tape d) (h0 : 0 < most) (h1 : most ≤ 900) (h : ∀ (n : Nat) F W C d, 1 ≤ n → (n : Int) ≤ most → Job n F W C → Tape d → Q (.fl, jobD n F W C) [(.sh, d)]) :
    cf__law_job [(.sh, d), (.fl, .int most)] Q X := by
  rw [cf__law_job_eq]
  refine ⟨⟨_, rfl⟩, digit_spec hd h0 (by omega) fun r d hr hd => ⟨⟨_, rfl⟩, ⟨_, rfl⟩, digit_spec hd (by omega) (by omega) fun x d hx hd => ?_⟩⟩
  refine go_ixC (fun d => ∃ t, d = .int t ∧ 0 < t ∧ t ≤ 1000) rfl (pick1 hx) fun dt ht => ?_
  obtain ⟨t, rfl, t0, t1⟩ := ht
  have e1 : (1 : Int) + (r : Int) = ((1 + r : Nat) : Int) := by omega
  rw [e1]
  have hn1 : 1 ≤ 1 + r := by omega
  have hn2 : 1 + r ≤ 1000 := by omega
  have hn3 : ((1 + r : Nat) : Int) ≤ most := by omega
  generalize 1 + r = n at hn1 hn2 hn3
  refine flows_spec (n := n) hd hn1 hn2 t0 (by omega) fun F d hF hF0 hd => ?_
  show kNext _ _ [some (.sh, d), some (.fl, .int most), some (.fl, .int n), some (.ow, sqL n F), none, none]
  refine go_next ⟨⟨_, rfl⟩, ⟨_, rfl⟩, digit_spec hd (by omega) (by omega) fun x d hx hd => ?_⟩
  refine go_ixC (fun d => ∃ t, d = .int t ∧ 0 < t ∧ t ≤ 1000) rfl (pick1 hx) fun dt ht => ?_
  obtain ⟨t', rfl, t0', t1'⟩ := ht
  refine ways_spec (n := n) hd hn1 hn2 t0' (by omega) fun W d hW hW0 hd => ?_
  show kNext _ _ [some (.sh, d), some (.fl, .int most), some (.fl, .int n), some (.ow, sqL n F), some (.ow, sqL n W), none]
  refine go_next ⟨⟨_, rfl⟩, ⟨_, rfl⟩, digit_spec hd (by omega) (by omega) fun x d hx hd => ?_⟩
  refine go_ixC (fun d => ∃ t, d = .int t ∧ 0 < t ∧ t ≤ 1000001) rfl (pick2 hx) fun dt ht => ?_
  obtain ⟨t2, rfl, t02, t12⟩ := ht
  refine square_spec (n := n) (sparse := false) hd hn1 hn2 t02 (by omega) fun C d hC _ hd => ?_
  show kNext _ _ [some (.sh, d), some (.fl, .int most), some (.fl, .int n), some (.ow, sqL n F), some (.ow, sqL n W), some (.ow, sqL n C)]
  refine go_next (tuples_spec hn2 (tuples_spec hn2 (tuples_spec hn2 ?_)))
  exact h n F W C d hn1 hn3 ⟨hF.mono (by omega), hW.mono (by omega), hC.mono (by omega), hF0, hW0⟩ hd
abbrev layD (n : Nat) (p : Nat → Nat) : D := .tup (tabl n fun i => .int (p i : Nat))
/-- p lays out the numbers under n -/
structure Perm (n : Nat) (p : Nat → Nat) : Prop where
  lt : ∀ i, i < n → p i < n
  inj : ∀ i j, i < n → j < n → p i = p j → i = j
theorem perm_of {n : Nat} {ps : List Nat} (h : ps.Perm (List.range n)) : Perm n fun i => ps.getD i 0 := by
  have hl : ps.length = n := by rw [h.length_eq, List.length_range]
  have hn : ps.Nodup := h.nodup_iff.mpr List.nodup_range
  refine ⟨fun i hi => ?_, fun i j hi hj e => ?_⟩
  · show ps.getD i 0 < n
    rw [getD_lt (by omega)]
    exact List.mem_range.mp (h.mem_iff.mp (List.getElem_mem _))
  · have e : ps.getD i 0 = ps.getD j 0 := e
    rw [getD_lt (by omega), getD_lt (by omega)] at e
    exact (List.getElem_inj hn).mp e
theorem laying_spec {d : D} {n : Nat} {m : Int} {Q X} (em : m = n) (hd : Tape d) (hn : n ≤ 1000) (h : ∀ p d, Perm n p → Tape d → Q (.fl, layD n p) [(.sh, d)]) : cf__law_laying [(.sh, d), (.fl, .int m)] Q X := by
  subst em
  rw [cf__law_laying_eq]
  refine go_LR rfl (by omega) (go_R1 rfl (by omega) ?_)
  refine go_LcE (fun k ρ acc => ∃ d ps ns, Tape d ∧ ps.length = k ∧ (ps ++ ns).Perm (List.range n) ∧ acc = ps.map (fun i : Nat => ((.fl, .int i) : KD)) ∧ ρ = [some (.sh, d), some (.fl, .int n), some (.sh, .lst (ns.map fun i : Nat => .int i)), none])
    (by rw [range_len]; omega) ⟨d, [], List.range n, hd, rfl, List.Perm.refl _, rfl, rfl⟩ (fun k z ρ acc N hz hI hN _ => ?_) fun ρ acc hI => ?_
  · obtain ⟨hk, rfl⟩ := range_get hz
    obtain ⟨d, ps, ns, hd, hl, hp, rfl, rfl⟩ := hI
    have hlen : ps.length + ns.length = n := by
      have := hp.length_eq
      rw [List.length_append, List.length_range] at this; exact this
    refine ⟨trivial, ⟨_, rfl⟩, digit_spec hd (by rw [List.length_map]; omega) (by rw [List.length_map]; omega) fun r d hr hd => ?_⟩
    rw [List.length_map] at hr
    have hr' : r < ns.length := by omega
    refine go_popAt (j := r) (d := .int (ns[r] : Nat)) (.inl rfl) (by rw [List.length_map]; omega) (by rw [List.length_map]; exact ixN_ok hr') (by rw [List.getElem?_map, List.getElem?_eq_getElem hr']; rfl) ?_
    refine hN (.fl, .int (ns[r] : Nat)) _ ⟨d, ps ++ [ns[r]], ns.eraseIdx r, hd, by rw [List.length_append, hl]; rfl, ?_, by rw [List.map_append]; rfl, by rw [← erase_map]; rfl⟩
    rw [List.append_assoc]
    exact (List.Perm.append_left ps (erase_perm hr')).trans hp
  · obtain ⟨d, ps, ns, hd, hl, hp, rfl, rfl⟩ := hI
    rw [range_len] at hl
    have hlen : ps.length + ns.length = n := by
      have := hp.length_eq
      rw [List.length_append, List.length_range] at this; exact this
    have e0 : ns = [] := List.eq_nil_of_length_eq_zero (by omega)
    subst e0
    rw [List.append_nil] at hp
    have key := h _ d (perm_of hp) hd
    rw [jL_flm, snd_flm, list_tabl 0 _ hl]
    exact key
theorem Tab.mul {n : Nat} {b : Int} {f : Nat → Nat → Int} (h : Tab n b f) (hb : b ≤ 1000000000) {i j : Nat} (hi : i < n) (hj : j < n) (x : Int) : CMul (f i j) x := .inl (by have := h i j hi hj; omega)
theorem cost_spec {n : Nat} {F W C : Nat → Nat → Int} {p : Nat → Nat} {Q X} (hn : n ≤ 1000) (hp : ∀ i, i < n → p i < n) (hF : Tab n 999 F) (h : Q (.fl, .int (costV n F W C p)) []) : cf__law_cost [(.fl, jobD n F W C), (.fl, layD n p)] Q X := by
  rw [cf__law_cost_eq]
  refine ⟨rfl, rfl, ?_⟩
  refine go_ForEn (fun i ρ => ∃ a b c e, ρ = [some (.fl, jobD n F W C), some (.fl, layD n p), some (.fl, tabD n F), some (.fl, tabD n W), some (.fl, tabD n C), some (.fl, .int (sumR i fun i => C i (p i) + sumR n fun j => F i j * W (p i) (p j))), a, b, c, e])
    ⟨none, none, none, none, rfl⟩ (fun i ρ N hi hI hN => ?_) fun ρ hI => ?_
  · obtain ⟨a, b, c, e, rfl⟩ := hI
    refine ⟨rfl, rfl, go_tab hi (go_tab (hp i hi) ?_)⟩
    refine go_ForEn (fun j ρ => ∃ c e, ρ = [some (.fl, jobD n F W C), some (.fl, layD n p), some (.fl, tabD n F), some (.fl, tabD n W), some (.fl, tabD n C), some (.fl, .int ((sumR i fun i => C i (p i) + sumR n fun j => F i j * W (p i) (p j)) + C i (p i) + sumR j fun j => F i j * W (p i) (p j))), some (.fl, .int i), some (.fl, .int (p i)), c, e])
      ⟨c, e, ?_⟩ (fun j ρ N hj hJ hN => ?_) fun ρ hJ => ?_
    · rw [sumR_zero, Int.add_zero]; rfl
    · obtain ⟨c, e, rfl⟩ := hJ
      refine ⟨rfl, rfl, go_tab hi (go_tab hj (go_tab (hp i hi) (go_tab (hp j hj) ⟨hF.mul (by omega) hi hj _, hN _ ⟨some (.fl, .int j), some (.fl, .int (p j)), ?_⟩⟩)))⟩
      rw [sumR_succ j, ← Int.add_assoc]; rfl
    · obtain ⟨c, e, rfl⟩ := hJ
      refine hN _ ⟨some (.fl, .int i), some (.fl, .int (p i)), c, e, ?_⟩
      rw [sumR_succ i, ← Int.add_assoc]
  · obtain ⟨a, b, c, e, rfl⟩ := hI
    exact h
theorem swp_lay {n a b : Nat} {p : Nat → Nat} : (tabl n fun i => if i = b then D.int (p a) else if i = a then D.int (p b) else D.int (p i)) = tabl n fun i => D.int (swp p a b i : Nat) := tabl_congr fun i _ => by
  unfold swp
  by_cases e : i = b
  · rw [if_pos e, if_pos e]
  · rw [if_neg e, if_neg e]
    by_cases e' : i = a
    · rw [if_pos e', if_pos e']
    · rw [if_neg e', if_neg e']
theorem swp_perm {n a b : Nat} {p : Nat → Nat} (hp : Perm n p) (ha : a < n) (hb : b < n) : Perm n (swp p a b) := ⟨swp_lt hp.lt ha hb, swp_inj hp.inj ha hb⟩
theorem exchanged_spec {n a b : Nat} {p : Nat → Nat} {x y : Int} {Q X} (hx : x = a) (hy : y = b) (ha : a < n) (hb : b < n) (h : Q (.fl, layD n (swp p a b)) []) : cf_exchanged [(.fl, layD n p), (.fl, .int x), (.fl, .int y)] Q X := by
  subst hx hy
  rw [cf_exchanged_eq]
  refine ⟨flat_ints, go_tab hb (go_stT rfl ha (go_tab ha (go_stT rfl hb ?_)))⟩
  have h' : Q (.fl, .tup (tabl n fun i => if i = b then D.int (p a) else if i = a then D.int (p b) else D.int (p i))) [] := by rw [swp_lay]; exact h
  have hf : (tabl n fun i => if i = b then D.int (p a) else if i = a then D.int (p b) else D.int (p i)).all D.flat1 = true := by rw [swp_lay]; exact flat_ints
  exact ⟨hf, h'⟩
theorem swapped_spec {n a b : Nat} {p : Nat → Nat} {x y : Int} {Q X} (hx : x = a) (hy : y = b) (ha : a < n) (hb : b < n) (h : Q (.fl, layD n (swp p a b)) []) : cf__law_swapped [(.fl, layD n p), (.fl, .int x), (.fl, .int y)] Q X := by
  subst hx hy
  rw [cf__law_swapped_eq]
  refine ⟨flat_ints, go_tabl hb (go_tabl ha (go_stT rfl ha (go_stT rfl hb ?_)))⟩
  have h' : Q (.fl, .tup (tabl n fun i => if i = b then D.int (p a) else if i = a then D.int (p b) else D.int (p i))) [] := by rw [swp_lay]; exact h
  have hf : (tabl n fun i => if i = b then D.int (p a) else if i = a then D.int (p b) else D.int (p i)).all D.flat1 = true := by rw [swp_lay]; exact flat_ints
  exact ⟨hf, h'⟩
theorem whole_spec {i : Int} {Q X} (h : Q (.fl, .bl true) []) : cf__law_whole [(.fl, .int i)] Q X := by
  rw [cf__law_whole_eq]
  exact h
theorem mul999 {x y : Int} (h : -1998 ≤ x ∧ x ≤ 1998) : CMul x y := .inl (by omega)
theorem beside_spec {n a b : Nat} {F W C : Nat → Nat → Int} {p : Nat → Nat} {Q X} (ha : a < n) (hb : b < n) (hp : ∀ i, i < n → p i < n) (hF : Tab n 999 F) (h : Q (.fl, .int (besV n F W C p a b)) []) :
    cf_beside_saved [(.fl, jobD n F W C), (.fl, layD n p), (.fl, .int a), (.fl, .int b)] Q X := by
  rw [cf_beside_saved_eq]
  refine ⟨rfl, rfl, go_tab ha (go_tab hb (go_tab ha (go_tab (hp a ha) (go_tab hb (go_tab (hp b hb) (go_tab ha (go_tab (hp b hb) (go_tab hb (go_tab (hp a ha) ?_)))))))))⟩
  refine go_ForEn (fun k ρ => ∃ c e, ρ = [some (.fl, jobD n F W C), some (.fl, layD n p), some (.fl, .int a), some (.fl, .int b), some (.fl, tabD n F), some (.fl, tabD n W), some (.fl, tabD n C), some (.fl, .int (p a)), some (.fl, .int (p b)),
      some (.fl, .int (C a (p a) + C b (p b) - C a (p b) - C b (p a) + sumR k fun k => if k ≠ a ∧ k ≠ b then (F a k - F b k) * (W (p a) (p k) - W (p b) (p k)) + (F k a - F k b) * (W (p k) (p a) - W (p k) (p b)) else 0)), c, e])
    ⟨none, none, ?_⟩ (fun k ρ N hk hI hN => ?_) fun ρ hI => ?_
  · rw [sumR_zero, Int.add_zero]; rfl
  · obtain ⟨c, e, rfl⟩ := hI
    refine ⟨rfl, rfl, ifdn (fun h1 => ifdn (fun h2 => ?_) fun h2 => ?_) fun h1 => ?_⟩
    · have fb : ∀ i j i' j', i < n → j < n → i' < n → j' < n → -1998 ≤ F i j - F i' j' ∧ F i j - F i' j' ≤ 1998 := fun i j i' j' x y z w => by
        have := hF i j x y
        have := hF i' j' z w
        omega
      refine go_tab ha (go_tab hk (go_tab hb (go_tab hk (go_tab (hp a ha) (go_tab (hp k hk) (go_tab (hp b hb) (go_tab (hp k hk) ⟨mul999 (fb _ _ _ _ ha hk hb hk), ?_⟩)))))))
      refine go_tab hk (go_tab ha (go_tab hk (go_tab hb (go_tab (hp k hk) (go_tab (hp a ha) (go_tab (hp k hk) (go_tab (hp b hb) ⟨mul999 (fb _ _ _ _ hk ha hk hb), ?_⟩)))))))
      refine hN _ ⟨some (.fl, .int k), some (.fl, .int (p k)), ?_⟩
      rw [sumR_succ k, if_pos ⟨by omega, by omega⟩, ← Int.add_assoc, ← Int.add_assoc]; rfl
    · refine hN _ ⟨some (.fl, .int k), some (.fl, .int (p k)), ?_⟩
      rw [sumR_succ k, if_neg (by omega), Int.add_zero]; rfl
    · refine hN _ ⟨some (.fl, .int k), some (.fl, .int (p k)), ?_⟩
      rw [sumR_succ k, if_neg (by omega), Int.add_zero]; rfl
  · obtain ⟨c, e, rfl⟩ := hI
    exact h
theorem saved_spec {n a b : Nat} {F W C : Nat → Nat → Int} {p : Nat → Nat} {x y : Int} {Q X} (hx : x = a) (hy : y = b) (ha : a < n) (hb : b < n) (hp : ∀ i, i < n → p i < n) (hF : Tab n 999 F) (h : Q (.fl, .int (savV n F W C p a b)) []) :
    cf_saved [(.fl, jobD n F W C), (.fl, layD n p), (.fl, .int x), (.fl, .int y)] Q X := by
  subst hx hy
  rw [cf_saved_eq]
  unfold savV at h
  refine ifd (fun e => ?_) fun e => ?_
  · rw [if_pos (by omega)] at h
    exact h
  · rw [if_neg (by omega)] at h
    refine ⟨rfl, rfl, go_tab ha (go_tab hb ?_)⟩
    have f1 := hF a b ha hb
    have f2 := hF b a hb ha
    refine go_tab ha (go_tab hb (go_tab hb (go_tab ha (go_tab (hp a ha) (go_tab (hp b hb) (go_tab (hp b hb) (go_tab (hp a ha) ⟨mul999 (by omega), ?_⟩)))))))
    exact beside_spec ha hb hp hF h
theorem lay_okR {n : Nat} {p : Nat → Nat} (hn : n ≤ 1000) (hp : ∀ i, i < n → p i < n) : (layD n p).okR := okR_ints hn fun i hi => by
  have := hp i hi
  have e : ((p i : Nat) : Int).natAbs = p i := Int.natAbs_natCast _
  rw [e]
  exact Nat.lt_of_lt_of_le (Nat.lt_of_lt_of_le this hn) (by decide +kernel)
/-- the turns of a law -/
theorem turns {L c : Int} (h0 : 0 ≤ L) (hc : c ≤ 63) : ∃ m : Nat, m ≤ 63 ∧ (if (if L < c then L else c) > 1 then (if L < c then L else c) else 1) = (m : Int) := by
  refine ⟨(if (if L < c then L else c) > 1 then (if L < c then L else c) else 1).toNat, ?_, ?_⟩
  · split <;> (try split) <;> omega
  · split <;> (try split) <;> omega
end DCB

namespace K31
open PySem PySem.Spec PyProof.Rows L2 DL
def topS (i : Nat) : Stmt := PySem.Challenge.pw_spotlay_k31_hub_papers_looked_at.main.body.getD i (.Pass ⟨0, 0, 0, 0⟩)
def clsS (i j : Nat) : Stmt := match topS i with | .ClassDef (body := b) .. => b.getD j (.Pass ⟨0, 0, 0, 0⟩) | s => s
abbrev FnP (K : PySem.W.Frag) (x q : Str) (st : Stmt) (f : Addr) (fd : FuncData) : Prop := FunD K x q (defArgs st) (defBody st) (defScope st) [] [] f fd
abbrev s_are_prices : Stmt := topS 4
theorem sc_are_prices : FnScope ["table", "number", "left", "right", "row", "numbers", "column", "told"] ["table", "number", "left", "right"] (defScope s_are_prices) := ⟨rfl, rfl, rfl, by decide +kernel, rfl, by decide +kernel, by decide +kernel⟩
theorem b_are_prices : BndG "are_prices" "are_prices" (defArgs s_are_prices) (defBody s_are_prices) (defScope s_are_prices) ["table", "number", "left", "right"] := fun _ _ _ _ _ _ us hl => match us, hl with | [_, _, _, _], _ => rfl
abbrev s_is_hub : Stmt := topS 6
theorem sc_is_hub : FnScope ["flows", "work", "one", "row", "other", "number"] ["flows", "work"] (defScope s_is_hub) := ⟨rfl, rfl, rfl, by decide +kernel, rfl, by decide +kernel, by decide +kernel⟩
theorem b_is_hub : BndG "is_hub" "is_hub" (defArgs s_is_hub) (defBody s_is_hub) (defScope s_is_hub) ["flows", "work"] := fun _ _ _ _ _ _ us hl => match us, hl with | [_, _], _ => rfl
abbrev s_hub : Stmt := topS 7
theorem sc_hub : FnScope ["job", "work"] ["job"] (defScope s_hub) := ⟨rfl, rfl, rfl, by decide +kernel, rfl, by decide +kernel, by decide +kernel⟩
theorem b_hub : BndG "hub" "hub" (defArgs s_hub) (defBody s_hub) (defScope s_hub) ["job"] := fun _ _ _ _ _ _ us hl => match us, hl with | [_], _ => rfl
abbrev s_need_hub : Stmt := topS 8
theorem sc_need_hub : FnScope ["job", "found"] ["job"] (defScope s_need_hub) := ⟨rfl, rfl, rfl, by decide +kernel, rfl, by decide +kernel, by decide +kernel⟩
theorem b_need_hub : BndG "need_hub" "need_hub" (defArgs s_need_hub) (defBody s_need_hub) (defScope s_need_hub) ["job"] := fun _ _ _ _ _ _ us hl => match us, hl with | [_], _ => rfl
abbrev s_hub_table : Stmt := topS 9
theorem sc_hub_table : FnScope ["job", "work", "place", "flows", "ways", "costs", "found", "other", "row", "there", "sent"] ["job", "work", "place"] (defScope s_hub_table) := ⟨rfl, rfl, rfl, by decide +kernel, rfl, by decide +kernel, by decide +kernel⟩
theorem b_hub_table : BndG "hub_table" "hub_table" (defArgs s_hub_table) (defBody s_hub_table) (defScope s_hub_table) ["job", "work", "place"] := fun _ _ _ _ _ _ us hl => match us, hl with | [_, _, _], _ => rfl
abbrev s_hub_shows : Stmt := topS 10
theorem sc_hub_shows : FnScope ["job", "number", "papers", "work", "place", "left", "right"] ["job", "number", "papers"] (defScope s_hub_shows) := ⟨rfl, rfl, rfl, by decide +kernel, rfl, by decide +kernel, by decide +kernel⟩
theorem b_hub_shows : BndG "hub_shows" "hub_shows" (defArgs s_hub_shows) (defBody s_hub_shows) (defScope s_hub_shows) ["job", "number", "papers"] := fun _ _ _ _ _ _ us hl => match us, hl with | [_, _, _], _ => rfl
abbrev s__law_tape : Stmt := topS 12
theorem sc__law_tape : FnScope ["script", "start", "cell"] ["script", "start"] (defScope s__law_tape) := ⟨rfl, rfl, rfl, by decide +kernel, rfl, by decide +kernel, by decide +kernel⟩
theorem b__law_tape : BndG "_law_tape" "_law_tape" (defArgs s__law_tape) (defBody s__law_tape) (defScope s__law_tape) ["script", "start"] := fun _ _ _ _ _ _ us hl => match us, hl with | [_, _], _ => rfl
abbrev s__law_digit : Stmt := topS 13
theorem sc__law_digit : FnScope ["tape", "many", "found", "more"] ["tape", "many"] (defScope s__law_digit) := ⟨rfl, rfl, rfl, by decide +kernel, rfl, by decide +kernel, by decide +kernel⟩
theorem b__law_digit : BndG "_law_digit" "_law_digit" (defArgs s__law_digit) (defBody s__law_digit) (defScope s__law_digit) ["tape", "many"] := fun _ _ _ _ _ _ us hl => match us, hl with | [_, _], _ => rfl
abbrev s__law_square : Stmt := topS 14
theorem sc__law_square : FnScope ["tape", "many", "top", "sparse", "found", "one", "row", "other", "number"] ["tape", "many", "top", "sparse"] (defScope s__law_square) := ⟨rfl, rfl, rfl, by decide +kernel, rfl, by decide +kernel, by decide +kernel⟩
theorem b__law_square : BndG "_law_square" "_law_square" (defArgs s__law_square) (defBody s__law_square) (defScope s__law_square) ["tape", "many", "top", "sparse"] := fun _ _ _ _ _ _ us hl => match us, hl with | [_, _, _, _], _ => rfl
abbrev s__law_mirrored : Stmt := topS 15
theorem sc__law_mirrored : FnScope ["square", "one", "other"] ["square"] (defScope s__law_mirrored) := ⟨rfl, rfl, rfl, by decide +kernel, rfl, by decide +kernel, by decide +kernel⟩
theorem b__law_mirrored : BndG "_law_mirrored" "_law_mirrored" (defArgs s__law_mirrored) (defBody s__law_mirrored) (defScope s__law_mirrored) ["square"] := fun _ _ _ _ _ _ us hl => match us, hl with | [_], _ => rfl
abbrev s__law_on_line : Stmt := topS 16
theorem sc__law_on_line : FnScope ["tape", "many", "top", "spots", "place", "one", "other"] ["tape", "many", "top"] (defScope s__law_on_line) := ⟨rfl, rfl, rfl, by decide +kernel, rfl, by decide +kernel, by decide +kernel⟩
theorem b__law_on_line : BndG "_law_on_line" "_law_on_line" (defArgs s__law_on_line) (defBody s__law_on_line) (defScope s__law_on_line) ["tape", "many", "top"] := fun _ _ _ _ _ _ us hl => match us, hl with | [_, _, _], _ => rfl
abbrev s__law_tuples : Stmt := topS 17
theorem sc__law_tuples : FnScope ["square", "row"] ["square"] (defScope s__law_tuples) := ⟨rfl, rfl, rfl, by decide +kernel, rfl, by decide +kernel, by decide +kernel⟩
theorem b__law_tuples : BndG "_law_tuples" "_law_tuples" (defArgs s__law_tuples) (defBody s__law_tuples) (defScope s__law_tuples) ["square"] := fun _ _ _ _ _ _ us hl => match us, hl with | [_], _ => rfl
abbrev s__law_flows : Stmt := topS 18
theorem sc__law_flows : FnScope ["tape", "many", "top", "kind", "found", "work", "one", "other"] ["tape", "many", "top"] (defScope s__law_flows) := ⟨rfl, rfl, rfl, by decide +kernel, rfl, by decide +kernel, by decide +kernel⟩
theorem b__law_flows : BndG "_law_flows" "_law_flows" (defArgs s__law_flows) (defBody s__law_flows) (defScope s__law_flows) ["tape", "many", "top"] := fun _ _ _ _ _ _ us hl => match us, hl with | [_, _, _], _ => rfl
abbrev s__law_ways : Stmt := topS 19
theorem sc__law_ways : FnScope ["tape", "many", "top", "kind", "found"] ["tape", "many", "top"] (defScope s__law_ways) := ⟨rfl, rfl, rfl, by decide +kernel, rfl, by decide +kernel, by decide +kernel⟩
theorem b__law_ways : BndG "_law_ways" "_law_ways" (defArgs s__law_ways) (defBody s__law_ways) (defScope s__law_ways) ["tape", "many", "top"] := fun _ _ _ _ _ _ us hl => match us, hl with | [_, _, _], _ => rfl
abbrev s__law_job : Stmt := topS 20
theorem sc__law_job : FnScope ["tape", "most", "many", "flows", "ways", "costs"] ["tape", "most"] (defScope s__law_job) := ⟨rfl, rfl, rfl, by decide +kernel, rfl, by decide +kernel, by decide +kernel⟩
theorem b__law_job : BndG "_law_job" "_law_job" (defArgs s__law_job) (defBody s__law_job) (defScope s__law_job) ["tape", "most"] := fun _ _ _ _ _ _ us hl => match us, hl with | [_, _], _ => rfl
abbrev s__law_laying : Stmt := topS 21
theorem sc__law_laying : FnScope ["tape", "many", "left", "work"] ["tape", "many"] (defScope s__law_laying) := ⟨rfl, rfl, rfl, by decide +kernel, rfl, by decide +kernel, by decide +kernel⟩
theorem b__law_laying : BndG "_law_laying" "_law_laying" (defArgs s__law_laying) (defBody s__law_laying) (defScope s__law_laying) ["tape", "many"] := fun _ _ _ _ _ _ us hl => match us, hl with | [_, _], _ => rfl
abbrev s__law_are_prices : Stmt := topS 22
theorem sc__law_are_prices : FnScope ["table", "number", "left", "right", "row", "column"] ["table", "number", "left", "right"] (defScope s__law_are_prices) := ⟨rfl, rfl, rfl, by decide +kernel, rfl, by decide +kernel, by decide +kernel⟩
theorem b__law_are_prices : BndG "_law_are_prices" "_law_are_prices" (defArgs s__law_are_prices) (defBody s__law_are_prices) (defScope s__law_are_prices) ["table", "number", "left", "right"] := fun _ _ _ _ _ _ us hl => match us, hl with | [_, _, _, _], _ => rfl
abbrev s__law_hub : Stmt := topS 23
theorem sc__law_hub : FnScope ["flows", "work", "sent", "one", "some", "other", "number"] ["flows"] (defScope s__law_hub) := ⟨rfl, rfl, rfl, by decide +kernel, rfl, by decide +kernel, by decide +kernel⟩
theorem b__law_hub : BndG "_law_hub" "_law_hub" (defArgs s__law_hub) (defBody s__law_hub) (defScope s__law_hub) ["flows"] := fun _ _ _ _ _ _ us hl => match us, hl with | [_], _ => rfl
abbrev s__law_hubbed : Stmt := topS 24
theorem sc__law_hubbed : FnScope ["tape", "job", "work", "found", "one", "row", "other", "number"] ["tape", "job"] (defScope s__law_hubbed) := ⟨rfl, rfl, rfl, by decide +kernel, rfl, by decide +kernel, by decide +kernel⟩
theorem b__law_hubbed : BndG "_law_hubbed" "_law_hubbed" (defArgs s__law_hubbed) (defBody s__law_hubbed) (defScope s__law_hubbed) ["tape", "job"] := fun _ _ _ _ _ _ us hl => match us, hl with | [_, _], _ => rfl
abbrev s__law_hub_number : Stmt := topS 25
theorem sc__law_hub_number : FnScope ["job", "work", "place", "one", "there", "ahead", "back"] ["job", "work", "place", "one", "there"] (defScope s__law_hub_number) := ⟨rfl, rfl, rfl, by decide +kernel, rfl, by decide +kernel, by decide +kernel⟩
theorem b__law_hub_number : BndG "_law_hub_number" "_law_hub_number" (defArgs s__law_hub_number) (defBody s__law_hub_number) (defScope s__law_hub_number) ["job", "work", "place", "one", "there"] := fun _ _ _ _ _ _ us hl => match us, hl with | [_, _, _, _, _], _ => rfl
abbrev s__law_hub_table : Stmt := topS 26
theorem sc__law_hub_table : FnScope ["job", "work", "place", "many", "found", "one", "free", "row", "there"] ["job", "work", "place"] (defScope s__law_hub_table) := ⟨rfl, rfl, rfl, by decide +kernel, rfl, by decide +kernel, by decide +kernel⟩
theorem b__law_hub_table : BndG "_law_hub_table" "_law_hub_table" (defArgs s__law_hub_table) (defBody s__law_hub_table) (defScope s__law_hub_table) ["job", "work", "place"] := fun _ _ _ _ _ _ us hl => match us, hl with | [_, _, _], _ => rfl
abbrev s__law_hub_shows : Stmt := topS 27
theorem sc__law_hub_shows : FnScope ["job", "number", "papers", "work", "place", "pair", "table", "due"] ["job", "number", "papers"] (defScope s__law_hub_shows) := ⟨rfl, rfl, rfl, by decide +kernel, rfl, by decide +kernel, by decide +kernel⟩
theorem b__law_hub_shows : BndG "_law_hub_shows" "_law_hub_shows" (defArgs s__law_hub_shows) (defBody s__law_hub_shows) (defScope s__law_hub_shows) ["job", "number", "papers"] := fun _ _ _ _ _ _ us hl => match us, hl with | [_, _, _], _ => rfl
abbrev s__law_pair : Stmt := topS 28
theorem sc__law_pair : FnScope ["tape", "table", "right", "left", "column", "row"] ["tape", "table"] (defScope s__law_pair) := ⟨rfl, rfl, rfl, by decide +kernel, rfl, by decide +kernel, by decide +kernel⟩
theorem b__law_pair : BndG "_law_pair" "_law_pair" (defArgs s__law_pair) (defBody s__law_pair) (defScope s__law_pair) ["tape", "table"] := fun _ _ _ _ _ _ us hl => match us, hl with | [_, _], _ => rfl
abbrev s__law_bent_pair : Stmt := topS 29
theorem sc__law_bent_pair : FnScope ["tape", "pair", "left", "right", "way", "some", "at", "number"] ["tape", "pair"] (defScope s__law_bent_pair) := ⟨rfl, rfl, rfl, by decide +kernel, rfl, by decide +kernel, by decide +kernel⟩
theorem b__law_bent_pair : BndG "_law_bent_pair" "_law_bent_pair" (defArgs s__law_bent_pair) (defBody s__law_bent_pair) (defScope s__law_bent_pair) ["tape", "pair"] := fun _ _ _ _ _ _ us hl => match us, hl with | [_, _], _ => rfl
abbrev s__law_bent : Stmt := topS 30
theorem sc__law_bent : FnScope ["tape", "papers", "at", "way"] ["tape", "papers"] (defScope s__law_bent) := ⟨rfl, rfl, rfl, by decide +kernel, rfl, by decide +kernel, by decide +kernel⟩
theorem b__law_bent : BndG "_law_bent" "_law_bent" (defArgs s__law_bent) (defBody s__law_bent) (defScope s__law_bent) ["tape", "papers"] := fun _ _ _ _ _ _ us hl => match us, hl with | [_, _], _ => rfl
abbrev s_law : Stmt := topS 31
theorem sc_law : FnScope ["script", "start", "tape", "job", "work", "papers", "shown_here", "turn", "one", "kept", "number", "told", "other", "place", "at", "pair"] ["script"] (defScope s_law) := ⟨rfl, rfl, rfl, by decide +kernel, rfl, by decide +kernel, by decide +kernel⟩
theorem b_law : BndG "law" "law" (defArgs s_law) (defBody s_law) (defScope s_law) ["script"] := fun _ _ _ _ _ _ us hl => match us, hl with | [_], _ => rfl
noncomputable section
/- are_prices(table, number, left, right); slots: 0 table, 1 number, 2 left, 3 right, 4 row, 5 numbers, 6 column, 7 told -/
def sem_are_prices : SF :=
  (sSeq (sIf (teP (tOr (pTest (pOp oNe (pCall oLen (gCons (pVar 2) gNil)) (pCall oLen (gCons (pVar 0) gNil)))) (pTest (pOp oNe (pCall oLen (gCons (pVar 3) gNil)) (pCall oLen (gCons (pVar 0) gNil)))))) (sRet (eP (pC (.bl false)))) sNil)
    (sSeq (sForX (iEn (gCons (pVar 0) gNil)) (gTu 2 (tConsG (gNm 4) (tConsG (gNm 5) tNilG))) (sForX (iEn (gCons (pVar 5) gNil)) (gTu 2 (tConsG (gNm 6) (tConsG (gNm 7) tNilG))) (sIf (teP (pTest (pOp oGt (pOp oAdd (pOp xIx (pVar 2) (pVar 4)) (pOp xIx (pVar 3) (pVar 6))) (pVar 7)))) (sRet (eP (pC (.bl false)))) sNil)))
    (sRet (eP (pOp oGe (pOp oAdd (pCall oSumK (gCons (pVar 2) gNil)) (pCall oSumK (gCons (pVar 3) gNil))) (pVar 1))))))
@[irreducible] def cf_are_prices : CF := hid (cfOf 4 [false, false, false, false] sem_are_prices)
theorem cf_are_prices_eq : cf_are_prices = cfOf 4 [false, false, false, false] sem_are_prices := by unfold cf_are_prices; rw [hid_eq]
/- is_hub(flows, work); slots: 0 flows, 1 work, 2 one, 3 row, 4 other, 5 number -/
def sem_is_hub : SF :=
  (sSeq (sForX (iEn (gCons (pVar 0) gNil)) (gTu 2 (tConsG (gNm 2) (tConsG (gNm 3) tNilG))) (sIf (teP (tAnd (pTest (pOp oNe (pVar 2) (pVar 1))) (pTest (pCall oAny (gCons (pLcX (iEn (gCons (pVar 3) gNil)) [4, 5] (gTu 2 (tConsG (gNm 4) (tConsG (gNm 5) tNilG))) tNilP (pAndV (pOp oGt (pVar 5) (pC (.int 0))) (pOp oNe (pVar 4) (pVar 1)))) gNil))))) (sRet (eP (pC (.bl false)))) sNil))
    (sRet (eP (pC (.bl true)))))
@[irreducible] def cf_is_hub : CF := hid (cfOf 4 [false, false] sem_is_hub)
theorem cf_is_hub_eq : cf_is_hub = cfOf 4 [false, false] sem_is_hub := by unfold cf_is_hub; rw [hid_eq]
/- hub(job); slots: 0 job, 1 work -/
def sem_hub : SF :=
  (sSeq (sForX (jR1 (gCons (pCall oLen (gCons (pOp xIx (pVar 0) (pC (.int 0))) gNil)) gNil)) (gNm 1) (sIf (teP (pTest (pFn cf_is_hub (gCons (pOp xIx (pVar 0) (pC (.int 0))) (gCons (pVar 1) gNil))))) (sRet (eMv 1)) sNil))
    (sRet (eP (pC .non))))
@[irreducible] def cf_hub : CF := hid (cfOf 1 [false] sem_hub)
theorem cf_hub_eq : cf_hub = cfOf 1 [false] sem_hub := by unfold cf_hub; rw [hid_eq]
/- need_hub(job); slots: 0 job, 1 found -/
def sem_need_hub : SF :=
  (sSeq (sSet 1 (eP (pFn cf_hub (gCons (pVar 0) gNil))))
    (sSeq (sIf (teP (pTest (pOp oIsN (pVar 1) (pC .non)))) sNever sNil)
    (sRet (eMv 1))))
@[irreducible] def cf_need_hub : CF := hid (cfOf 1 [false] sem_need_hub)
theorem cf_need_hub_eq : cf_need_hub = cfOf 1 [false] sem_need_hub := by unfold cf_need_hub; rw [hid_eq]
/- hub_table(job, work, place); slots: 0 job, 1 work, 2 place, 3 flows, 4 ways, 5 costs, 6 found, 7 other, 8 row, 9 there, 10 sent -/
def sem_hub_table : SF :=
  (sSeq (sAsg (eMv 0) (gTu 3 (tConsG (gNm 3) (tConsG (gNm 4) (tConsG (gNm 5) tNilG)))))
    (sSeq (sSet 6 (eP (pLst gNil)))
    (sSeq (sForX (jR1 (gCons (pCall oLen (gCons (pVar 3) gNil)) gNil)) (gNm 7) (sIf (teP (pTest (pOp oNe (pVar 7) (pVar 1)))) (sSeq (sSet 8 (eP (pLst gNil)))
    (sSeq (sForX (jR1 (gCons (pCall oLen (gCons (pVar 3) gNil)) gNil)) (gNm 9) (sIf (teP (pTest (pOp oNe (pVar 9) (pVar 2)))) (sSeq (sSet 10 (eP (pOp oAdd (pOp oMul (pOp xIx (pOp xIx (pVar 3) (pVar 7)) (pVar 1)) (pOp xIx (pOp xIx (pVar 4) (pVar 9)) (pVar 2))) (pOp oMul (pOp xIx (pOp xIx (pVar 3) (pVar 1)) (pVar 7)) (pOp xIx (pOp xIx (pVar 4) (pVar 2)) (pVar 9))))))
    (sExpr (eMthR mAppend 8 (aE (eP (pOp oAdd (pOp xIx (pOp xIx (pVar 5) (pVar 7)) (pVar 9)) (pVar 10))) aNil)))) sNil))
    (sExpr (eMthR mAppend 6 (aE (eP (pCall oTuple (gCons (pVar 8) gNil))) aNil))))) sNil))
    (sRet (eP (pCall oTuple (gCons (pVar 6) gNil)))))))
@[irreducible] def cf_hub_table : CF := hid (cfOf 8 [false, false, false] sem_hub_table)
theorem cf_hub_table_eq : cf_hub_table = cfOf 8 [false, false, false] sem_hub_table := by unfold cf_hub_table; rw [hid_eq]
/- hub_shows(job, number, papers); slots: 0 job, 1 number, 2 papers, 3 work, 4 place, 5 left, 6 right -/
def sem_hub_shows : SF :=
  (sSeq (sSet 3 (eP (pFn cf_need_hub (gCons (pVar 0) gNil))))
    (sSeq (sIf (teP (pTest (pOp oNe (pCall oLen (gCons (pVar 2) gNil)) (pCall oLen (gCons (pOp xIx (pVar 0) (pC (.int 0))) gNil))))) (sRet (eP (pC (.bl false)))) sNil)
    (sSeq (sForX (iEn (gCons (pVar 2) gNil)) (gTu 2 (tConsG (gNm 4) (tConsG (gTu 2 (tConsG (gNm 5) (tConsG (gNm 6) tNilG))) tNilG))) (sIf (teP (tNot (pTest (pFn cf_are_prices (gCons (pFn cf_hub_table (gCons (pVar 0) (gCons (pVar 3) (gCons (pVar 4) gNil)))) (gCons (pOp oSub (pVar 1) (pOp xIx (pOp xIx (pOp xIx (pVar 0) (pC (.int 2))) (pVar 3)) (pVar 4))) (gCons (pVar 5) (gCons (pVar 6) gNil)))))))) (sRet (eP (pC (.bl false)))) sNil))
    (sRet (eP (pC (.bl true)))))))
@[irreducible] def cf_hub_shows : CF := hid (cfOf 4 [false, false, false] sem_hub_shows)
theorem cf_hub_shows_eq : cf_hub_shows = cfOf 4 [false, false, false] sem_hub_shows := by unfold cf_hub_shows; rw [hid_eq]
/- _law_are_prices(table, number, left, right); slots: 0 table, 1 number, 2 left, 3 right, 4 row, 5 column -/
def sem__law_are_prices : SF :=
  (sSeq (sIf (teP (tOr (pTest (pOp oNe (pCall oLen (gCons (pVar 2) gNil)) (pCall oLen (gCons (pVar 0) gNil)))) (pTest (pOp oNe (pCall oLen (gCons (pVar 3) gNil)) (pCall oLen (gCons (pVar 0) gNil)))))) (sRet (eP (pC (.bl false)))) sNil)
    (sSeq (sForX (jR1 (gCons (pCall oLen (gCons (pVar 0) gNil)) gNil)) (gNm 4) (sIf (teP (pTest (pOp oNe (pLcX (jR1 (gCons (pCall oLen (gCons (pVar 0) gNil)) gNil)) [5] (gNm 5) (pTest (pOp oGt (pOp oAdd (pOp xIx (pVar 2) (pVar 4)) (pOp xIx (pVar 3) (pVar 5))) (pOp xIx (pOp xIx (pVar 0) (pVar 4)) (pVar 5)))) (pVar 5)) (pLst gNil)))) (sRet (eP (pC (.bl false)))) sNil))
    (sRet (eP (pOp oGe (pOp oAdd (pCall oSumK (gCons (pVar 2) gNil)) (pCall oSumK (gCons (pVar 3) gNil))) (pVar 1))))))
@[irreducible] def cf__law_are_prices : CF := hid (cfOf 2 [false, false, false, false] sem__law_are_prices)
theorem cf__law_are_prices_eq : cf__law_are_prices = cfOf 2 [false, false, false, false] sem__law_are_prices := by unfold cf__law_are_prices; rw [hid_eq]
/- _law_hub(flows); slots: 0 flows, 1 work, 2 sent, 3 one, 4 some, 5 other, 6 number -/
def sem__law_hub : SF :=
  (sSeq (sForX (jR1 (gCons (pCall oLen (gCons (pVar 0) gNil)) gNil)) (gNm 1) (sSeq (sSet 2 (eP (pC (.int 0))))
    (sSeq (sForX (jR1 (gCons (pCall oLen (gCons (pVar 0) gNil)) gNil)) (gNm 3) (sIf (teP (pTest (pOp oNe (pVar 3) (pVar 1)))) (sSeq (sSet 4 (eP (pLcX (iEn (gCons (pOp xIx (pVar 0) (pVar 3)) gNil)) [5, 6] (gTu 2 (tConsG (gNm 5) (tConsG (gNm 6) tNilG))) (pTest (pOp oNe (pVar 5) (pVar 1))) (pVar 6))))
    (sSet 2 (eP (pOp oAdd (pVar 2) (pCall oSum (gCons (pVar 4) gNil)))))) sNil))
    (sIf (teP (pTest (pOp oEq (pVar 2) (pC (.int 0))))) (sRet (eMv 1)) sNil))))
    (sRet (eP (pC .non))))
@[irreducible] def cf__law_hub : CF := hid (cfOf 6 [false] sem__law_hub)
theorem cf__law_hub_eq : cf__law_hub = cfOf 6 [false] sem__law_hub := by unfold cf__law_hub; rw [hid_eq]
/- _law_hubbed(tape, job); slots: 0 tape, 1 job, 2 work, 3 found, 4 one, 5 row, 6 other, 7 number -/
def sem__law_hubbed : SF :=
  (sSeq (sSet 2 (eFn [true, false] DCB.cf__law_digit (aPl 0 (aE (eP (pCall oLen (gCons (pOp xIx (pVar 1) (pC (.int 0))) gNil))) aNil))))
    (sSeq (sSet 3 (eP (pLst gNil)))
    (sSeq (sForX (iEn (gCons (pOp xIx (pVar 1) (pC (.int 0))) gNil)) (gTu 2 (tConsG (gNm 4) (tConsG (gNm 5) tNilG))) (sExpr (eMthR mAppend 3 (aE (eP (pLcX (iEn (gCons (pVar 5) gNil)) [6, 7] (gTu 2 (tConsG (gNm 6) (tConsG (gNm 7) tNilG))) tNilP (pOp oMul (pVar 7) (pCall oInt (gCons (pOp (oIn false) (pVar 2) (pTup (gCons (pVar 4) (gCons (pVar 6) gNil)))) gNil))))) aNil))))
    (sRet (eP (pTup (gCons (pFn DCB.cf__law_tuples (gCons (pVar 3) gNil)) (gCons (pOp xIx (pVar 1) (pC (.int 1))) (gCons (pOp xIx (pVar 1) (pC (.int 2))) gNil)))))))))
@[irreducible] def cf__law_hubbed : CF := hid (cfOf 6 [true, false] sem__law_hubbed)
theorem cf__law_hubbed_eq : cf__law_hubbed = cfOf 6 [true, false] sem__law_hubbed := by unfold cf__law_hubbed; rw [hid_eq]
/- _law_hub_number(job, work, place, one, there); slots: 0 job, 1 work, 2 place, 3 one, 4 there, 5 ahead, 6 back -/
def sem__law_hub_number : SF :=
  (sSeq (sSet 5 (eP (pOp oMul (pOp xIx (pOp xIx (pOp xIx (pVar 0) (pC (.int 0))) (pVar 3)) (pVar 1)) (pOp xIx (pOp xIx (pOp xIx (pVar 0) (pC (.int 1))) (pVar 4)) (pVar 2)))))
    (sSeq (sSet 6 (eP (pOp oMul (pOp xIx (pOp xIx (pOp xIx (pVar 0) (pC (.int 0))) (pVar 1)) (pVar 3)) (pOp xIx (pOp xIx (pOp xIx (pVar 0) (pC (.int 1))) (pVar 2)) (pVar 4)))))
    (sRet (eP (pOp oAdd (pOp oAdd (pOp xIx (pOp xIx (pOp xIx (pVar 0) (pC (.int 2))) (pVar 3)) (pVar 4)) (pVar 5)) (pVar 6))))))
@[irreducible] def cf__law_hub_number : CF := hid (cfOf 2 [false, false, false, false, false] sem__law_hub_number)
theorem cf__law_hub_number_eq : cf__law_hub_number = cfOf 2 [false, false, false, false, false] sem__law_hub_number := by unfold cf__law_hub_number; rw [hid_eq]
/- _law_hub_table(job, work, place); slots: 0 job, 1 work, 2 place, 3 many, 4 found, 5 one, 6 free, 7 row, 8 there -/
def sem__law_hub_table : SF :=
  (sSeq (sSet 3 (eP (pCall oLen (gCons (pOp xIx (pVar 0) (pC (.int 0))) gNil))))
    (sSeq (sSet 4 (eP (pLst gNil)))
    (sSeq (sForX (jR1 (gCons (pVar 3) gNil)) (gNm 5) (sIf (teP (pTest (pOp oNe (pVar 5) (pVar 1)))) (sSeq (sSet 6 (eP (pLcX (jR1 (gCons (pVar 3) gNil)) [8] (gNm 8) (pTest (pOp oNe (pVar 8) (pVar 2))) (pVar 8))))
    (sSeq (sSet 7 (eP (pLcX (iSq (pVar 6)) [8] (gNm 8) tNilP (pFn cf__law_hub_number (gCons (pVar 0) (gCons (pVar 1) (gCons (pVar 2) (gCons (pVar 5) (gCons (pVar 8) gNil)))))))))
    (sExpr (eMthR mAppend 4 (aE (eP (pCall oTuple (gCons (pVar 7) gNil))) aNil))))) sNil))
    (sRet (eP (pCall oTuple (gCons (pVar 4) gNil)))))))
@[irreducible] def cf__law_hub_table : CF := hid (cfOf 6 [false, false, false] sem__law_hub_table)
theorem cf__law_hub_table_eq : cf__law_hub_table = cfOf 6 [false, false, false] sem__law_hub_table := by unfold cf__law_hub_table; rw [hid_eq]
/- _law_hub_shows(job, number, papers); slots: 0 job, 1 number, 2 papers, 3 work, 4 place, 5 pair, 6 table, 7 due -/
def sem__law_hub_shows : SF :=
  (sSeq (sSet 3 (eP (pFn cf__law_hub (gCons (pOp xIx (pVar 0) (pC (.int 0))) gNil))))
    (sSeq (sIf (teP (pTest (pOp oNe (pCall oLen (gCons (pVar 2) gNil)) (pCall oLen (gCons (pOp xIx (pVar 0) (pC (.int 0))) gNil))))) (sRet (eP (pC (.bl false)))) sNil)
    (sSeq (sForX (iEn (gCons (pVar 2) gNil)) (gTu 2 (tConsG (gNm 4) (tConsG (gNm 5) tNilG))) (sSeq (sSet 6 (eP (pFn cf__law_hub_table (gCons (pVar 0) (gCons (pVar 3) (gCons (pVar 4) gNil))))))
    (sSeq (sSet 7 (eP (pOp oSub (pVar 1) (pOp xIx (pOp xIx (pOp xIx (pVar 0) (pC (.int 2))) (pVar 3)) (pVar 4)))))
    (sIf (teP (tNot (pTest (pFn cf__law_are_prices (gCons (pVar 6) (gCons (pVar 7) (gCons (pOp xIx (pVar 5) (pC (.int 0))) (gCons (pOp xIx (pVar 5) (pC (.int 1))) gNil)))))))) (sRet (eP (pC (.bl false)))) sNil))))
    (sRet (eP (pC (.bl true)))))))
@[irreducible] def cf__law_hub_shows : CF := hid (cfOf 5 [false, false, false] sem__law_hub_shows)
theorem cf__law_hub_shows_eq : cf__law_hub_shows = cfOf 5 [false, false, false] sem__law_hub_shows := by unfold cf__law_hub_shows; rw [hid_eq]
/- _law_pair(tape, table); slots: 0 tape, 1 table, 2 right, 3 left, 4 column, 5 row -/
def sem__law_pair : SF :=
  (sSeq (sSet 2 (eLcX (iSq (pVar 1)) [5] (gNm 5) tNilP (eOp oSub (eP (pC (.int 0))) (eFn [true, false] DCB.cf__law_digit (aPl 0 (aE (eP (pC (.int 4))) aNil))))))
    (sSeq (sSet 3 (eP (pLcX (iSq (pVar 1)) [5] (gNm 5) tNilP (pCall oMinL (gCons (pLcX (jR1 (gCons (pCall oLen (gCons (pVar 1) gNil)) gNil)) [4] (gNm 4) tNilP (pOp oSub (pOp xIx (pVar 5) (pVar 4)) (pOp xIx (pVar 2) (pVar 4)))) gNil)))))
    (sSeq (sForX (jR1 (gCons (pCall oLen (gCons (pVar 1) gNil)) gNil)) (gNm 4) (sStIxX (eP (pCall oMinL (gCons (pLcX (jR1 (gCons (pCall oLen (gCons (pVar 1) gNil)) gNil)) [5] (gNm 5) tNilP (pOp oSub (pOp xIx (pOp xIx (pVar 1) (pVar 5)) (pVar 4)) (pOp xIx (pVar 3) (pVar 5)))) gNil))) (plVar 2) (pVar 4)))
    (sLkL 3 (sLkL 2 (sRet (eP (pTup (gCons (pVar 3) (gCons (pVar 2) gNil))))))))))
@[irreducible] def cf__law_pair : CF := hid (cfOf 4 [true, false] sem__law_pair)
theorem cf__law_pair_eq : cf__law_pair = cfOf 4 [true, false] sem__law_pair := by unfold cf__law_pair; rw [hid_eq]
/- _law_bent_pair(tape, pair); slots: 0 tape, 1 pair, 2 left, 3 right, 4 way, 5 some, 6 at, 7 number -/
def sem__law_bent_pair : SF :=
  (sSeq (sPar 2 3 (aE (eP (pCall oList (gCons (pOp xIx (pVar 1) (pC (.int 0))) gNil))) (aE (eP (pCall oList (gCons (pOp xIx (pVar 1) (pC (.int 1))) gNil))) aNil)))
    (sSeq (sSet 4 (eFn [true, false] DCB.cf__law_digit (aPl 0 (aE (eP (pC (.int 7))) aNil))))
    (sSeq (sIf (teP (tOr (pTest (pOp oEq (pVar 2) (pLst gNil))) (pTest (pOp oEq (pVar 4) (pC (.int 5)))))) (sLkL 2 (sLkL 3 (sSeq (sSet 5 (eP (pLst (gCons (pTup (gCons (pLk (pOp oAddK (pVar 2) (pLst (gCons (pC (.int 0)) gNil)))) (gCons (pVar 3) gNil))) (gCons (pTup (gCons (pVar 2) (gCons (pLk (pOp oAddK (pVar 3) (pLst (gCons (pC (.int 0)) gNil)))) gNil))) (gCons (pTup (gCons (pVar 3) (gCons (pVar 2) gNil))) (gCons (pTup (gCons (pLk (pLst gNil)) (gCons (pLk (pLst gNil)) gNil))) (gCons (pTup (gCons (pLk (pOp oAddK (pVar 2) (pLst (gCons (pC (.int 0)) gNil)))) (gCons (pLk (pOp oAddK (pVar 3) (pLst (gCons (pC (.int 0)) gNil)))) gNil))) gNil))))))))
    (sSeq (sSet 5 (eP (pOp oAdd (pVar 5) (pLst (gCons (pTup (gCons (pVar 2) (gCons (pLk (pSl (pVar 3) oNoP (oP (pUn uNeg (pC (.int 1)))))) gNil))) (gCons (pTup (gCons (pLk (pSl (pVar 2) oNoP (oP (pUn uNeg (pC (.int 1)))))) (gCons (pVar 3) gNil))) gNil))))))
    (sRet (eIxSX 5 (eFn [true, false] DCB.cf__law_digit (aPl 0 (aE (eP (pC (.int 7))) aNil))))))))) sNil)
    (sBar (sSeq (sSet 6 (eFn [true, false] DCB.cf__law_digit (aPl 0 (aE (eP (pCall oLen (gCons (pVar 2) gNil))) aNil))))
    (sSeq (sIf (teP (pTest (pOp oLt (pVar 4) (pC (.int 4))))) (sStIxX (eP (pOp oAdd (pOp xIx (pVar 2) (pVar 6)) (pOp xIx (pLst (gCons (pC (.int 1)) (gCons (pUn uNeg (pC (.int 1))) (gCons (pC (.int 3)) (gCons (pUn uNeg (pC (.int 3))) gNil))))) (pVar 4)))) (plVar 2) (pVar 6)) sNil)
    (sBar (sSeq (sIf (teP (pTest (pOp (oIn false) (pVar 4) (pTup (gCons (pC (.int 2)) (gCons (pC (.int 3)) gNil)))))) (sSet 3 (eP (pLcX (iSq (pVar 3)) [7] (gNm 7) tNilP (pOp oSub (pVar 7) (pOp xIx (pLst (gCons (pC (.int 3)) (gCons (pUn uNeg (pC (.int 3))) gNil))) (pOp oSub (pVar 4) (pC (.int 2)))))))) sNil)
    (sBar (sSeq (sIf (teP (pTest (pOp oEq (pVar 4) (pC (.int 6))))) (sSeq (sSet 2 (eP (pLcX (iSq (pVar 2)) [7] (gNm 7) tNilP (pOp oAdd (pVar 7) (pOp oPow (pC (.int 10)) (pC (.int 59)))))))
    (sSet 3 (eP (pLcX (iSq (pVar 3)) [7] (gNm 7) tNilP (pOp oSub (pVar 7) (pOp oPow (pC (.int 10)) (pC (.int 59)))))))) sNil)
    (sBar (sSeq (sIf (teP (pTest (pOp oEq (pVar 4) (pC (.int 4))))) (sStIxX (eP (pOp oAdd (pOp xIx (pVar 3) (pVar 6)) (pC (.int 1)))) (plVar 3) (pVar 6)) sNil)
    (sLkL 2 (sLkL 3 (sRet (eP (pTup (gCons (pVar 2) (gCons (pVar 3) gNil)))))))))))))))))))
@[irreducible] def cf__law_bent_pair : CF := hid (cfOf 6 [true, false] sem__law_bent_pair)
theorem cf__law_bent_pair_eq : cf__law_bent_pair = cfOf 6 [true, false] sem__law_bent_pair := by unfold cf__law_bent_pair; rw [hid_eq]
/- _law_bent(tape, papers); slots: 0 tape, 1 papers, 2 at, 3 way -/
def sem__law_bent : SF :=
  (sSeq (sSet 2 (eFn [true, false] DCB.cf__law_digit (aPl 0 (aE (eP (pCall oLen (gCons (pVar 1) gNil))) aNil))))
    (sSeq (sSet 3 (eFn [true, false] DCB.cf__law_digit (aPl 0 (aE (eP (pC (.int 8))) aNil))))
    (sSeq (sIf (teP (pTest (pOp oLt (pVar 3) (pC (.int 5))))) (sRet (eOp oAdd (eOp oAdd (eP (pSl (pVar 1) oNoP (oP (pVar 2)))) (eLst (aE (eFn [true, false] cf__law_bent_pair (aPl 0 (aE (eP (pOp xIx (pVar 1) (pVar 2))) aNil))) aNil))) (eP (pSl (pVar 1) (oP (pOp oAdd (pVar 2) (pC (.int 1)))) oNoP)))) sNil)
    (sSeq (sIf (teP (pTest (pOp oEq (pVar 3) (pC (.int 5))))) (sRet (eP (pOp oAdd (pSl (pVar 1) oNoP (oP (pVar 2))) (pSl (pVar 1) (oP (pOp oAdd (pVar 2) (pC (.int 1)))) oNoP)))) sNil)
    (sSeq (sIf (teP (pTest (pOp oEq (pVar 3) (pC (.int 6))))) (sRet (eP (pOp oAdd (pSl (pVar 1) oNoP (oP (pOp oAdd (pVar 2) (pC (.int 1))))) (pSl (pVar 1) (oP (pVar 2)) oNoP)))) sNil)
    (sRet (eP (pOp oAdd (pOp oAdd (pSl (pVar 1) oNoP (oP (pVar 2))) (pRevM (pSl (pVar 1) (oP (pVar 2)) (oP (pOp oAdd (pVar 2) (pC (.int 2))))))) (pSl (pVar 1) (oP (pOp oAdd (pVar 2) (pC (.int 2)))) oNoP)))))))))
@[irreducible] def cf__law_bent : CF := hid (cfOf 2 [true, false] sem__law_bent)
theorem cf__law_bent_eq : cf__law_bent = cfOf 2 [true, false] sem__law_bent := by unfold cf__law_bent; rw [hid_eq]
/- law(script); slots: 0 script, 1 start, 2 tape, 3 job, 4 work, 5 papers, 6 shown_here, 7 turn, 8 one, 9 kept, 10 number, 11 told, 12 other, 13 place, 14 at, 15 pair -/
def sem_law : SF :=
  (sSeq (sForX (jR1 (gCons (pCall oMax2 (gCons (pC (.int 1)) (gCons (pCall oMin2 (gCons (pC (.int 4)) (gCons (pCall oLen (gCons (pVar 0) gNil)) gNil))) gNil))) gNil)) (gNm 1) (sSeq (sSet 2 (eP (pFn DCB.cf__law_tape (gCons (pVar 0) (gCons (pVar 1) gNil)))))
    (sSeq (sSet 3 (eFn [true, false] cf__law_hubbed (aPl 2 (aE (eFn [true, false] DCB.cf__law_job (aPl 2 (aE (eOp xIx (eP (pLst (gCons (pC (.int 5)) (gCons (pC (.int 8)) gNil)))) (eCallB oInt (aE (eOp oEq (eFn [true, false] DCB.cf__law_digit (aPl 2 (aE (eP (pC (.int 4))) aNil))) (eP (pC (.int 3)))) aNil))) aNil))) aNil))))
    (sBar (sSeq (sSet 4 (eP (pFn cf__law_hub (gCons (pOp xIx (pVar 3) (pC (.int 0))) gNil))))
    (sBar (sSeq (sSet 5 (eLcX (jR1 (gCons (pCall oLen (gCons (pOp xIx (pVar 3) (pC (.int 0))) gNil)) gNil)) [13] (gNm 13) tNilP (eFn [true, false] cf__law_pair (aPl 2 (aE (eP (pFn cf__law_hub_table (gCons (pVar 3) (gCons (pVar 4) (gCons (pVar 13) gNil))))) aNil)))))
    (sLkL 5 (sSeq (sSet 6 (eP (pLcX (iEn (gCons (pVar 5) gNil)) [14, 15] (gTu 2 (tConsG (gNm 14) (tConsG (gNm 15) tNilG))) tNilP (pOp oAdd (pOp oAdd (pOp xIx (pOp xIx (pOp xIx (pVar 3) (pC (.int 2))) (pVar 4)) (pVar 14)) (pCall oSumK (gCons (pOp xIx (pVar 15) (pC (.int 0))) gNil))) (pCall oSumK (gCons (pOp xIx (pVar 15) (pC (.int 1))) gNil))))))
    (sLkL 6 (sBar (sSeq (sForX (jR1 (gCons (pC (.int 8)) gNil)) (gNm 7) (sBar (sSeq (sSet 8 (eMv 5))
    (sSeq (sIf (teP (pTest (pOp oGt (pVar 7) (pC (.int 0))))) (sSet 8 (eFn [true, false] cf__law_bent (aPl 2 (aE (eMv 5) aNil)))) sNil)
    (sLkT 8 (sSeq (sSet 9 (eP (pCall oRepr (gCons (pVar 8) gNil))))
    (sBar (sForX (iSq (pLst (gCons (pCall oMinLK (gCons (pVar 6) gNil)) (gCons (pOp oAdd (pCall oMinLK (gCons (pVar 6) gNil)) (pC (.int 1))) (gCons (pCall oMaxLK (gCons (pVar 6) gNil)) (gCons (pC (.int 0)) (gCons (pOp oSub (pC (.int 0)) (pOp oPow (pC (.int 10)) (pC (.int 59)))) gNil))))))) (gNm 10) (sSeq (sSet 11 (eP (pFn cf_hub_shows (gCons (pVar 3) (gCons (pVar 10) (gCons (pVar 8) gNil))))))
    (sIf (teP (tOr (tNot (pTest (pIsI .bool (pVar 11)))) (tOr (pTest (pOp oNe (pVar 11) (pFn cf__law_hub_shows (gCons (pVar 3) (gCons (pVar 10) (gCons (pVar 8) gNil)))))) (pTest (pOp oNe (pCall oRepr (gCons (pVar 8) gNil)) (pVar 9)))))) (sRet (eP (pC (.bl false)))) sNil))))))))))
    (sBar (sForX (iSq (pLst (gCons (pVar 3) (gCons (pTup (gCons (pOp xIx (pVar 3) (pC (.int 0))) (gCons (pOp xIx (pVar 3) (pC (.int 1))) (gCons (pRevT (pOp xIx (pVar 3) (pC (.int 2)))) gNil)))) (gCons (pVar 3) gNil))))) (gNm 12) (sIf (teP (pTest (pOp oNe (pFn cf_hub_shows (gCons (pVar 12) (gCons (pCall oMinLK (gCons (pVar 6) gNil)) (gCons (pVar 5) gNil)))) (pFn cf__law_hub_shows (gCons (pVar 12) (gCons (pCall oMinLK (gCons (pVar 6) gNil)) (gCons (pVar 5) gNil))))))) (sRet (eP (pC (.bl false)))) sNil)))))))))))))))
    (sRet (eP (pC (.bl true)))))
@[irreducible] def cf_law : CF := hid (cfOf 15 [false] sem_law)
theorem cf_law_eq : cf_law = cfOf 15 [false] sem_law := by unfold cf_law; rw [hid_eq]
end
structure Facts (K : PySem.W.Frag) (mg : Str → Option Value) where
  f_are_prices : Addr
  d_are_prices : FuncData
  F_are_prices : FnP K "are_prices" "are_prices" s_are_prices f_are_prices d_are_prices
  g_are_prices : mg "are_prices" = some (.ref f_are_prices)
  f_is_hub : Addr
  d_is_hub : FuncData
  F_is_hub : FnP K "is_hub" "is_hub" s_is_hub f_is_hub d_is_hub
  g_is_hub : mg "is_hub" = some (.ref f_is_hub)
  f_hub : Addr
  d_hub : FuncData
  F_hub : FnP K "hub" "hub" s_hub f_hub d_hub
  g_hub : mg "hub" = some (.ref f_hub)
  f_need_hub : Addr
  d_need_hub : FuncData
  F_need_hub : FnP K "need_hub" "need_hub" s_need_hub f_need_hub d_need_hub
  g_need_hub : mg "need_hub" = some (.ref f_need_hub)
  f_hub_table : Addr
  d_hub_table : FuncData
  F_hub_table : FnP K "hub_table" "hub_table" s_hub_table f_hub_table d_hub_table
  g_hub_table : mg "hub_table" = some (.ref f_hub_table)
  f_hub_shows : Addr
  d_hub_shows : FuncData
  F_hub_shows : FnP K "hub_shows" "hub_shows" s_hub_shows f_hub_shows d_hub_shows
  g_hub_shows : mg "hub_shows" = some (.ref f_hub_shows)
  f__law_tape : Addr
  d__law_tape : FuncData
  F__law_tape : FnP K "_law_tape" "_law_tape" s__law_tape f__law_tape d__law_tape
  g__law_tape : mg "_law_tape" = some (.ref f__law_tape)
  f__law_digit : Addr
  d__law_digit : FuncData
  F__law_digit : FnP K "_law_digit" "_law_digit" s__law_digit f__law_digit d__law_digit
  g__law_digit : mg "_law_digit" = some (.ref f__law_digit)
  f__law_square : Addr
  d__law_square : FuncData
  F__law_square : FnP K "_law_square" "_law_square" s__law_square f__law_square d__law_square
  g__law_square : mg "_law_square" = some (.ref f__law_square)
  f__law_mirrored : Addr
  d__law_mirrored : FuncData
  F__law_mirrored : FnP K "_law_mirrored" "_law_mirrored" s__law_mirrored f__law_mirrored d__law_mirrored
  g__law_mirrored : mg "_law_mirrored" = some (.ref f__law_mirrored)
  f__law_on_line : Addr
  d__law_on_line : FuncData
  F__law_on_line : FnP K "_law_on_line" "_law_on_line" s__law_on_line f__law_on_line d__law_on_line
  g__law_on_line : mg "_law_on_line" = some (.ref f__law_on_line)
  f__law_tuples : Addr
  d__law_tuples : FuncData
  F__law_tuples : FnP K "_law_tuples" "_law_tuples" s__law_tuples f__law_tuples d__law_tuples
  g__law_tuples : mg "_law_tuples" = some (.ref f__law_tuples)
  f__law_flows : Addr
  d__law_flows : FuncData
  F__law_flows : FnP K "_law_flows" "_law_flows" s__law_flows f__law_flows d__law_flows
  g__law_flows : mg "_law_flows" = some (.ref f__law_flows)
  f__law_ways : Addr
  d__law_ways : FuncData
  F__law_ways : FnP K "_law_ways" "_law_ways" s__law_ways f__law_ways d__law_ways
  g__law_ways : mg "_law_ways" = some (.ref f__law_ways)
  f__law_job : Addr
  d__law_job : FuncData
  F__law_job : FnP K "_law_job" "_law_job" s__law_job f__law_job d__law_job
  g__law_job : mg "_law_job" = some (.ref f__law_job)
  f__law_laying : Addr
  d__law_laying : FuncData
  F__law_laying : FnP K "_law_laying" "_law_laying" s__law_laying f__law_laying d__law_laying
  g__law_laying : mg "_law_laying" = some (.ref f__law_laying)
  f__law_are_prices : Addr
  d__law_are_prices : FuncData
  F__law_are_prices : FnP K "_law_are_prices" "_law_are_prices" s__law_are_prices f__law_are_prices d__law_are_prices
  g__law_are_prices : mg "_law_are_prices" = some (.ref f__law_are_prices)
  f__law_hub : Addr
  d__law_hub : FuncData
  F__law_hub : FnP K "_law_hub" "_law_hub" s__law_hub f__law_hub d__law_hub
  g__law_hub : mg "_law_hub" = some (.ref f__law_hub)
  f__law_hubbed : Addr
  d__law_hubbed : FuncData
  F__law_hubbed : FnP K "_law_hubbed" "_law_hubbed" s__law_hubbed f__law_hubbed d__law_hubbed
  g__law_hubbed : mg "_law_hubbed" = some (.ref f__law_hubbed)
  f__law_hub_number : Addr
  d__law_hub_number : FuncData
  F__law_hub_number : FnP K "_law_hub_number" "_law_hub_number" s__law_hub_number f__law_hub_number d__law_hub_number
  g__law_hub_number : mg "_law_hub_number" = some (.ref f__law_hub_number)
  f__law_hub_table : Addr
  d__law_hub_table : FuncData
  F__law_hub_table : FnP K "_law_hub_table" "_law_hub_table" s__law_hub_table f__law_hub_table d__law_hub_table
  g__law_hub_table : mg "_law_hub_table" = some (.ref f__law_hub_table)
  f__law_hub_shows : Addr
  d__law_hub_shows : FuncData
  F__law_hub_shows : FnP K "_law_hub_shows" "_law_hub_shows" s__law_hub_shows f__law_hub_shows d__law_hub_shows
  g__law_hub_shows : mg "_law_hub_shows" = some (.ref f__law_hub_shows)
  f__law_pair : Addr
  d__law_pair : FuncData
  F__law_pair : FnP K "_law_pair" "_law_pair" s__law_pair f__law_pair d__law_pair
  g__law_pair : mg "_law_pair" = some (.ref f__law_pair)
  f__law_bent_pair : Addr
  d__law_bent_pair : FuncData
  F__law_bent_pair : FnP K "_law_bent_pair" "_law_bent_pair" s__law_bent_pair f__law_bent_pair d__law_bent_pair
  g__law_bent_pair : mg "_law_bent_pair" = some (.ref f__law_bent_pair)
  f__law_bent : Addr
  d__law_bent : FuncData
  F__law_bent : FnP K "_law_bent" "_law_bent" s__law_bent f__law_bent d__law_bent
  g__law_bent : mg "_law_bent" = some (.ref f__law_bent)
  f_law : Addr
  d_law : FuncData
  F_law : FnP K "law" "law" s_law f_law d_law
  g_law : mg "law" = some (.ref f_law)
  m_abs : mg "abs" = none
  m_any : mg "any" = none
  m_bool : mg "bool" = none
  m_enumerate : mg "enumerate" = none
  m_int : mg "int" = none
  m_isinstance : mg "isinstance" = none
  m_len : mg "len" = none
  m_list : mg "list" = none
  m_max : mg "max" = none
  m_min : mg "min" = none
  m_range : mg "range" = none
  m_repr : mg "repr" = none
  m_sum : mg "sum" = none
  m_tuple : mg "tuple" = none
section
variable {P : Program} {w : World} {K : PySem.W.Frag} {mg : Str → Option Value} {base : Heap}
theorem ok_are_prices (L : Facts K mg) : GOk P w K mg base CX0 1 L.f_are_prices ["table", "number", "left", "right"] (spOf K 4 [false, false, false, false] cf_are_prices) := cf_are_prices_eq ▸
  cf_okG L.F_are_prices b_are_prices sc_are_prices rfl rfl fun cdv A outer s H E hr => have hN := (sc_are_prices).nd
    (dss_cons (ds_if (dte_p (DW.dt (dw_or (dt_cmp (op_neAll hr.units) os_ne (dp_callB call_len cs_len (by rfl) L.m_len bt_len (da_cons (dp_var 2) da_nil)) (dp_callB call_len cs_len (by rfl) L.m_len bt_len (da_cons (dp_var 0) da_nil)) (by rfl)) (dw_or1 (dt_cmp (op_neAll hr.units) os_ne (dp_callB call_len cs_len (by rfl) L.m_len bt_len (da_cons (dp_var 3) da_nil)) (dp_callB call_len cs_len (by rfl) L.m_len bt_len (da_cons (dp_var 0) da_nil)) (by rfl)))))) (dss_one (ds_ret (de_p dp_bl))) dss_nil)
      (dss_cons (DS.as (eq3 sForX_eq _ _ _) (ds_for PassesOwn.never (by rfl) (di_enum (by rfl) L.m_enumerate (da_cons (dp_var 0) da_nil)) (dg_tup (by rfl) (dgs_cons (dg_name 4 hN) (dgs_cons (dg_name 5 hN) dgs_nil))) (dss_one (DS.as (eq3 sForX_eq _ _ _) (ds_for PassesOwn.never (by rfl) (di_enum (by rfl) L.m_enumerate (da_cons (dp_var 5) da_nil)) (dg_tup (by rfl) (dgs_cons (dg_name 6 hN) (dgs_cons (dg_name 7 hN) dgs_nil))) (dss_one (ds_if (dte_p (dt_cmp op_gt os_gt (dp_op op_addAll os_add (DP.as (eqIx _ _) (dp_ix (dp_var 2) (dp_var 4))) (DP.as (eqIx _ _) (dp_ix (dp_var 3) (dp_var 6)))) (dp_var 7) (by rfl))) (dss_one (ds_ret (de_p dp_bl))) dss_nil)))))))
      (dss_one (ds_ret (de_p (dp_cmp op_ge os_ge (dp_op op_addAll os_add (dp_callB (cr_sum (by rfl)) cs_sumK (by rfl) L.m_sum bt_sum (da_cons (dp_var 2) da_nil)) (dp_callB (cr_sum (by rfl)) cs_sumK (by rfl) L.m_sum bt_sum (da_cons (dp_var 3) da_nil))) (dp_var 1) (by rfl)))))))
theorem ok_is_hub (L : Facts K mg) : GOk P w K mg base CX0 1 L.f_is_hub ["flows", "work"] (spOf K 2 [false, false] cf_is_hub) := cf_is_hub_eq ▸
  cf_okG L.F_is_hub b_is_hub sc_is_hub rfl rfl fun cdv A outer s H E hr => have hN := (sc_is_hub).nd
    (dss_cons (DS.as (eq3 sForX_eq _ _ _) (ds_for PassesOwn.never (by rfl) (di_enum (by rfl) L.m_enumerate (da_cons (dp_var 0) da_nil)) (dg_tup (by rfl) (dgs_cons (dg_name 2 hN) (dgs_cons (dg_name 3 hN) dgs_nil))) (dss_one (ds_if (dte_p (DW.dt (dw_and (dt_cmp (op_neAll hr.units) os_ne (dp_var 2) (dp_var 1) (by rfl)) (dw_and1 (dt_val (dp_callB (cr_any (by rfl)) cs_any (by rfl) L.m_any bt_any (da_cons (DP.as (eq5 pLcX_eq _ _ _ _ _) (dp_lc (by rfl) hN (di_enum (by rfl) L.m_enumerate (da_cons (dp_var 3) da_nil)) (blkOk_by (own := [("other", 4), ("number", 5)]) (by kernel_rfl)) (fun _ _ _ _ _ => (dg_tup (by rfl) (dgs_cons (dg_name 4 hN) (dgs_cons (dg_name 5 hN) dgs_nil)))) (fun _ _ _ _ _ => dts_nil) (fun _ _ _ _ _ => (dp_and (dp_cmp op_gt os_gt (dp_var 5) dp_int (by rfl)) (dp_one (dp_cmp (op_neAll hr.units) os_ne (dp_var 4) (dp_var 1) (by rfl))))))) da_nil))))))) (dss_one (ds_ret (de_p dp_bl))) dss_nil))))
      (dss_one (ds_ret (de_p dp_bl))))
theorem ok_hub (L : Facts K mg) : GOk P w K mg base CX0 2 L.f_hub ["job"] (spOf K 1 [false] cf_hub) := cf_hub_eq ▸
  cf_okG L.F_hub b_hub sc_hub rfl rfl fun cdv A outer s H E hr => have hN := (sc_hub).nd
    (dss_cons (DS.as (eq3 sForX_eq _ _ _) (ds_for PassesOwn.never (by rfl) (DI.as (eq1 jR1_eq _) (di_range1 (by rfl) L.m_range (da_cons (dp_callB call_len cs_len (by rfl) L.m_len bt_len (da_cons (DP.as (eqIx _ _) (dp_ix (dp_var 0) dp_int)) da_nil)) da_nil))) (dg_name 1 hN) (dss_one (ds_if (dte_p (dt_val (dp_callG (ok_is_hub L) (hr.mono (by decide)) (by rfl) L.g_is_hub L.F_is_hub.kp pass0 (da_cons (DP.as (eqIx _ _) (dp_ix (dp_var 0) dp_int)) (da_cons (dp_var 1) da_nil))))) (dss_one (ds_ret (de_mv 1))) dss_nil))))
      (dss_one (ds_ret (de_p dp_non))))
theorem ok_need_hub (L : Facts K mg) : GOk P w K mg base CX0 3 L.f_need_hub ["job"] (spOf K 1 [false] cf_need_hub) := cf_need_hub_eq ▸
  cf_okG L.F_need_hub b_need_hub sc_need_hub rfl rfl fun cdv A outer s H E hr => have hN := (sc_need_hub).nd
    (dss_cons (ds_set 1 hN (de_p (dp_callG (ok_hub L) (hr.mono (by decide)) (by rfl) L.g_hub L.F_hub.kp pass0 (da_cons (dp_var 0) da_nil))))
      (dss_cons (ds_if (dte_p (dt_cmp op_isN os_isN (dp_var 1) dp_non (by rfl))) (dss_one ds_never) dss_nil)
      (dss_one (ds_ret (de_mv 1)))))
theorem ok_hub_table (L : Facts K mg) : GOk P w K mg base CX0 1 L.f_hub_table ["job", "work", "place"] (spOf K 3 [false, false, false] cf_hub_table) := cf_hub_table_eq ▸
  cf_okG L.F_hub_table b_hub_table sc_hub_table rfl rfl fun cdv A outer s H E hr => have hN := (sc_hub_table).nd
    (dss_cons (ds_asg (de_mv 0) (dg_tup (by rfl) (dgs_cons (dg_name 3 hN) (dgs_cons (dg_name 4 hN) (dgs_cons (dg_name 5 hN) dgs_nil)))))
      (dss_cons (ds_set 6 hN (de_p (dp_lst da_nil)))
      (dss_cons (DS.as (eq3 sForX_eq _ _ _) (ds_for PassesOwn.never (by rfl) (DI.as (eq1 jR1_eq _) (di_range1 (by rfl) L.m_range (da_cons (dp_callB call_len cs_len (by rfl) L.m_len bt_len (da_cons (dp_var 3) da_nil)) da_nil))) (dg_name 7 hN) (dss_one (ds_if (dte_p (dt_cmp (op_neAll hr.units) os_ne (dp_var 7) (dp_var 1) (by rfl))) (dss_cons (ds_set 8 hN (de_p (dp_lst da_nil)))
      (dss_cons (DS.as (eq3 sForX_eq _ _ _) (ds_for PassesOwn.never (by rfl) (DI.as (eq1 jR1_eq _) (di_range1 (by rfl) L.m_range (da_cons (dp_callB call_len cs_len (by rfl) L.m_len bt_len (da_cons (dp_var 3) da_nil)) da_nil))) (dg_name 9 hN) (dss_one (ds_if (dte_p (dt_cmp (op_neAll hr.units) os_ne (dp_var 9) (dp_var 2) (by rfl))) (dss_cons (ds_set 10 hN (de_p (dp_op op_addAll os_add (dp_op op_mulAll os_mul (DP.as (eqIx _ _) (dp_ix (DP.as (eqIx _ _) (dp_ix (dp_var 3) (dp_var 7))) (dp_var 1))) (DP.as (eqIx _ _) (dp_ix (DP.as (eqIx _ _) (dp_ix (dp_var 4) (dp_var 9))) (dp_var 2)))) (dp_op op_mulAll os_mul (DP.as (eqIx _ _) (dp_ix (DP.as (eqIx _ _) (dp_ix (dp_var 3) (dp_var 1))) (dp_var 7))) (DP.as (eqIx _ _) (dp_ix (DP.as (eqIx _ _) (dp_ix (dp_var 4) (dp_var 2))) (dp_var 9)))))))
      (dss_one (ds_expr (de_mthR PySem.F.plainAttrs_list PySem.F.slot_list_append PySem.F.type_list_append mt_append ms_append 8 (dae_e (de_p (dp_op op_addAll os_add (DP.as (eqIx _ _) (dp_ix (DP.as (eqIx _ _) (dp_ix (dp_var 5) (dp_var 7))) (dp_var 9))) (dp_var 10))) dae_nil))))) dss_nil))))
      (dss_one (ds_expr (de_mthR PySem.F.plainAttrs_list PySem.F.slot_list_append PySem.F.type_list_append mt_append ms_append 6 (dae_e (de_p (dp_callTy call_tuple_of cs_tuple (by rfl) L.m_tuple bt_tuple (da_cons (dp_var 8) da_nil))) dae_nil)))))) dss_nil))))
      (dss_one (ds_ret (de_p (dp_callTy call_tuple_of cs_tuple (by rfl) L.m_tuple bt_tuple (da_cons (dp_var 6) da_nil))))))))
theorem ok_hub_shows (L : Facts K mg) : GOk P w K mg base CX0 4 L.f_hub_shows ["job", "number", "papers"] (spOf K 3 [false, false, false] cf_hub_shows) := cf_hub_shows_eq ▸
  cf_okG L.F_hub_shows b_hub_shows sc_hub_shows rfl rfl fun cdv A outer s H E hr => have hN := (sc_hub_shows).nd
    (dss_cons (ds_set 3 hN (de_p (dp_callG (ok_need_hub L) (hr.mono (by decide)) (by rfl) L.g_need_hub L.F_need_hub.kp pass0 (da_cons (dp_var 0) da_nil))))
      (dss_cons (ds_if (dte_p (dt_cmp (op_neAll hr.units) os_ne (dp_callB call_len cs_len (by rfl) L.m_len bt_len (da_cons (dp_var 2) da_nil)) (dp_callB call_len cs_len (by rfl) L.m_len bt_len (da_cons (DP.as (eqIx _ _) (dp_ix (dp_var 0) dp_int)) da_nil)) (by rfl))) (dss_one (ds_ret (de_p dp_bl))) dss_nil)
      (dss_cons (DS.as (eq3 sForX_eq _ _ _) (ds_for PassesOwn.never (by rfl) (di_enum (by rfl) L.m_enumerate (da_cons (dp_var 2) da_nil)) (dg_tup (by rfl) (dgs_cons (dg_name 4 hN) (dgs_cons (dg_tup (by rfl) (dgs_cons (dg_name 5 hN) (dgs_cons (dg_name 6 hN) dgs_nil))) dgs_nil))) (dss_one (ds_if (dte_p (dt_not (dt_val (dp_callG (ok_are_prices L) (hr.mono (by decide)) (by rfl) L.g_are_prices L.F_are_prices.kp pass0 (da_cons (dp_callG (ok_hub_table L) (hr.mono (by decide)) (by rfl) L.g_hub_table L.F_hub_table.kp pass0 (da_cons (dp_var 0) (da_cons (dp_var 3) (da_cons (dp_var 4) da_nil)))) (da_cons (dp_op op_sub os_sub (dp_var 1) (DP.as (eqIx _ _) (dp_ix (DP.as (eqIx _ _) (dp_ix (DP.as (eqIx _ _) (dp_ix (dp_var 0) dp_int)) (dp_var 3))) (dp_var 4)))) (da_cons (dp_var 5) (da_cons (dp_var 6) da_nil)))))))) (dss_one (ds_ret (de_p dp_bl))) dss_nil))))
      (dss_one (ds_ret (de_p dp_bl))))))
theorem ok__law_tape (L : Facts K mg) : GOk P w K mg base CX0 1 L.f__law_tape ["script", "start"] (spOf K 2 [false, false] DCB.cf__law_tape) := DCB.cf__law_tape_eq ▸
  cf_okG L.F__law_tape b__law_tape sc__law_tape rfl rfl fun cdv A outer s H E hr => have hN := (sc__law_tape).nd
    (dss_cons (ds_set 2 hN (de_p dp_int))
      (dss_cons (ds_if (dte_p (dt_cmp op_lt os_lt (dp_var 1) (dp_callB call_len cs_len (by rfl) L.m_len bt_len (da_cons (dp_var 0) da_nil)) (by rfl))) (dss_one (ds_set 2 hN (de_p (dp_callB call_abs cs_abs (by rfl) L.m_abs bt_abs (da_cons (DP.as (eqIx _ _) (dp_ix (dp_var 0) (dp_var 1))) da_nil))))) (dss_one (ds_if (dte_p (dt_cmp op_gt os_gt (dp_callB call_len cs_len (by rfl) L.m_len bt_len (da_cons (dp_var 0) da_nil)) dp_int (by rfl))) (dss_one (ds_set 2 hN (de_p (dp_op op_addAll os_add (dp_op op_mod os_mod (dp_callB call_abs cs_abs (by rfl) L.m_abs bt_abs (da_cons (DP.as (eqIx _ _) (dp_ix (dp_var 0) (dp_op op_mod os_mod (dp_var 1) (dp_callB call_len cs_len (by rfl) L.m_len bt_len (da_cons (dp_var 0) da_nil))))) da_nil)) (dp_op op_pow os_pow dp_int dp_int)) (dp_op op_mulAll os_mul (dp_var 1) dp_int))))) dss_nil)))
      (dss_one (ds_ret (de_p (dp_lst (da_cons (dp_var 2) (da_cons (dp_op op_addAll os_add (dp_op op_mod os_mod (dp_op op_addAll os_add (dp_op op_mulAll os_mul (dp_var 1) dp_int) (dp_var 2)) dp_int) dp_int) da_nil))))))))
theorem ok__law_digit (L : Facts K mg) : GOk P w K mg base CX0 1 L.f__law_digit ["tape", "many"] (spOf K 2 [true, false] DCB.cf__law_digit) := DCB.cf__law_digit_eq ▸
  cf_okG L.F__law_digit b__law_digit sc__law_digit rfl rfl fun cdv A outer s H E hr => have hN := (sc__law_digit).nd
    (dss_cons (ds_if (dte_p (dt_cmp op_gt os_gt (DP.as (eqIx _ _) (dp_ix (dp_var 0) dp_int)) dp_int (by rfl))) (dss_cons (ds_set 2 hN (de_p (dp_op op_mod os_mod (DP.as (eqIx _ _) (dp_ix (dp_var 0) dp_int)) (dp_var 1))))
      (dss_cons (DS.as (eq3 sStIxX_eq _ _ _) (ds_stIx (de_p (dp_op op_fdivA os_fdiv (DP.as (eqIx _ _) (dp_ix (dp_var 0) dp_int)) (dp_var 1))) (dpl_var 0) dp_int))
      (dss_one (ds_ret (de_mv 2))))) dss_nil)
      (dss_cons (DS.as (eq3 sStIxX_eq _ _ _) (ds_stIx (de_p (dp_op op_mod os_mod (dp_op op_addAll os_add (dp_op op_mulAll os_mul (DP.as (eqIx _ _) (dp_ix (dp_var 0) dp_int)) dp_int) dp_int) dp_int)) (dpl_var 0) dp_int))
      (dss_cons (ds_set 3 hN (de_p (dp_op op_mod os_mod (dp_op op_mulAll os_mul (DP.as (eqIx _ _) (dp_ix (dp_var 0) dp_int)) dp_int) dp_int)))
      (dss_one (ds_ret (de_p (dp_op op_mod os_mod (dp_op op_addAll os_add (dp_op op_mulAll os_mul (dp_op op_mod os_mod (dp_op op_mulAll os_mul (DP.as (eqIx _ _) (dp_ix (dp_var 0) dp_int)) (DP.as (eqIx _ _) (dp_ix (dp_var 0) dp_int))) dp_int) dp_int) (dp_var 3)) (dp_var 1))))))))
theorem ok__law_square (L : Facts K mg) : GOk P w K mg base CX0 2 L.f__law_square ["tape", "many", "top", "sparse"] (spOf K 4 [true, false, false, false] DCB.cf__law_square) := DCB.cf__law_square_eq ▸
  cf_okG L.F__law_square b__law_square sc__law_square rfl rfl fun cdv A outer s H E hr => have hN := (sc__law_square).nd
    (dss_cons (ds_set 4 hN (de_p (dp_lst da_nil)))
      (dss_cons (DS.as (eq3 sForX_eq _ _ _) (ds_for PassesOwn.never (by rfl) (DI.as (eq1 jR1_eq _) (di_range1 (by rfl) L.m_range (da_cons (dp_var 1) da_nil))) (dg_name 5 hN) (dss_cons (ds_set 6 hN (de_p (dp_lst da_nil)))
      (dss_cons (DS.as (eq3 sForX_eq _ _ _) (ds_for PassesOwn.never (by rfl) (DI.as (eq1 jR1_eq _) (di_range1 (by rfl) L.m_range (da_cons (dp_var 1) da_nil))) (dg_name 7 hN) (dss_cons (ds_set 8 hN (de_callG (ok__law_digit L) (hr.mono (by decide)) (by rfl) L.g__law_digit L.F__law_digit.kp pass0 (dae_pl 0 (dae_e (de_mv 2) dae_nil))))
      (dss_cons (ds_if (DWE.dt (dwe_and (dte_p (dt_val (dp_var 3))) (dwe_and1 (DWE.dt (dwe_or (dte_p (dt_cmp (op_eqAll hr.units) os_eq (dp_var 5) (dp_var 7) (by rfl))) (dwe_or1 (dte_cmp (op_eqAll hr.units) os_eq (de_callG (ok__law_digit L) (hr.mono (by decide)) (by rfl) L.g__law_digit L.F__law_digit.kp pass0 (dae_pl 0 (dae_e (de_p dp_int) dae_nil))) (de_p dp_int) (by rfl)))))))) (dss_one (ds_set 8 hN (de_p dp_int))) dss_nil)
      (dss_one (ds_expr (de_mthR PySem.F.plainAttrs_list PySem.F.slot_list_append PySem.F.type_list_append mt_append ms_append 6 (dae_e (de_mv 8) dae_nil))))))))
      (dss_one (ds_expr (de_mthR PySem.F.plainAttrs_list PySem.F.slot_list_append PySem.F.type_list_append mt_append ms_append 4 (dae_e (de_mv 6) dae_nil))))))))
      (dss_one (ds_ret (de_mv 4)))))
theorem ok__law_mirrored (L : Facts K mg) : GOk P w K mg base CX0 1 L.f__law_mirrored ["square"] (spOf K 1 [false] DCB.cf__law_mirrored) := DCB.cf__law_mirrored_eq ▸
  cf_okG L.F__law_mirrored b__law_mirrored sc__law_mirrored rfl rfl fun cdv A outer s H E hr => have hN := (sc__law_mirrored).nd
    (dss_one (ds_ret (de_p (DP.as (eq5 pLcX_eq _ _ _ _ _) (dp_lc (by rfl) hN (DI.as (eq1 jR1_eq _) (di_range1 (by rfl) L.m_range (da_cons (dp_callB call_len cs_len (by rfl) L.m_len bt_len (da_cons (dp_var 0) da_nil)) da_nil))) (blkOk_by (own := [("one", 1)]) (by kernel_rfl)) (fun _ _ _ _ _ => (dg_name 1 hN)) (fun _ _ _ _ _ => dts_nil) (fun _ _ _ _ _ => (DP.as (eq5 pLcX_eq _ _ _ _ _) (dp_lc (by rfl) hN (DI.as (eq1 jR1_eq _) (di_range1 (by rfl) L.m_range (da_cons (dp_callB call_len cs_len (by rfl) L.m_len bt_len (da_cons (dp_var 0) da_nil)) da_nil))) (blkOk_by (own := [("other", 2)]) (by kernel_rfl)) (fun _ _ _ _ _ => (dg_name 2 hN)) (fun _ _ _ _ _ => dts_nil) (fun _ _ _ _ _ => (DP.as (eqIx _ _) (dp_ix (DP.as (eqIx _ _) (dp_ix (dp_var 0) (dp_callB (call_min2 (by rfl)) cs_min2 (by rfl) L.m_min bt_min (da_cons (dp_var 1) (da_cons (dp_var 2) da_nil))))) (dp_callB (call_max2 (by rfl)) cs_max2 (by rfl) L.m_max bt_max (da_cons (dp_var 1) (da_cons (dp_var 2) da_nil))))))))))))))
theorem ok__law_on_line (L : Facts K mg) : GOk P w K mg base CX0 2 L.f__law_on_line ["tape", "many", "top"] (spOf K 3 [true, false, false] DCB.cf__law_on_line) := DCB.cf__law_on_line_eq ▸
  cf_okG L.F__law_on_line b__law_on_line sc__law_on_line rfl rfl fun cdv A outer s H E hr => have hN := (sc__law_on_line).nd
    (dss_cons (ds_set 3 hN (DE.as (eq5 eLcX_eq _ _ _ _ _) (de_lc (E' := E) (by rfl) hN (DI.as (eq1 jR1_eq _) (di_range1 (by rfl) L.m_range (da_cons (dp_var 1) da_nil))) (blkOk_by (own := [("place", 4)]) (by kernel_rfl)) (fun _ _ _ _ _ => (dg_name 4 hN)) (fun _ _ _ _ _ => dts_nil) (fun _ _ _ _ _ => (de_callG (ok__law_digit L) (hr.mono (by decide)) (by rfl) L.g__law_digit L.F__law_digit.kp pass0 (dae_pl 0 (dae_e (de_mv 2) dae_nil)))))))
      (ds_frz 3 (dss_one (ds_ret (de_p (DP.as (eq5 pLcX_eq _ _ _ _ _) (dp_lc (by rfl) hN (di_seq (dp_var 3)) (blkOk_by (own := [("one", 5)]) (by kernel_rfl)) (fun _ _ _ _ _ => (dg_name 5 hN)) (fun _ _ _ _ _ => dts_nil) (fun _ _ _ _ _ => (DP.as (eq5 pLcX_eq _ _ _ _ _) (dp_lc (by rfl) hN (di_seq (dp_var 3)) (blkOk_by (own := [("other", 6)]) (by kernel_rfl)) (fun _ _ _ _ _ => (dg_name 6 hN)) (fun _ _ _ _ _ => dts_nil) (fun _ _ _ _ _ => (dp_callB call_abs cs_abs (by rfl) L.m_abs bt_abs (da_cons (dp_op op_sub os_sub (dp_var 5) (dp_var 6)) da_nil)))))))))))))
theorem ok__law_tuples (L : Facts K mg) : GOk P w K mg base CX0 1 L.f__law_tuples ["square"] (spOf K 1 [false] DCB.cf__law_tuples) := DCB.cf__law_tuples_eq ▸
  cf_okG L.F__law_tuples b__law_tuples sc__law_tuples rfl rfl fun cdv A outer s H E hr => have hN := (sc__law_tuples).nd
    (dss_one (ds_ret (de_p (dp_callTy call_tuple_of cs_tuple (by rfl) L.m_tuple bt_tuple (da_cons (DP.as (eq5 pLcX_eq _ _ _ _ _) (dp_lc (by rfl) hN (di_seq (dp_var 0)) (blkOk_by (own := [("row", 1)]) (by kernel_rfl)) (fun _ _ _ _ _ => (dg_name 1 hN)) (fun _ _ _ _ _ => dts_nil) (fun _ _ _ _ _ => (dp_callTy call_tuple_of cs_tupleF (by rfl) L.m_tuple bt_tuple (da_cons (dp_var 1) da_nil))))) da_nil)))))
theorem ok__law_flows (L : Facts K mg) : GOk P w K mg base CX0 3 L.f__law_flows ["tape", "many", "top"] (spOf K 3 [true, false, false] DCB.cf__law_flows) := DCB.cf__law_flows_eq ▸
  cf_okG L.F__law_flows b__law_flows sc__law_flows rfl rfl fun cdv A outer s H E hr => have hN := (sc__law_flows).nd
    (dss_cons (ds_set 3 hN (de_callG (ok__law_digit L) (hr.mono (by decide)) (by rfl) L.g__law_digit L.F__law_digit.kp pass0 (dae_pl 0 (dae_e (de_p dp_int) dae_nil))))
      (dss_cons (ds_set 4 hN (de_callG (ok__law_square L) (hr.mono (by decide)) (by rfl) L.g__law_square L.F__law_square.kp pass0 (dae_pl 0 (dae_e (de_mv 1) (dae_e (de_mv 2) (dae_e (de_p dp_bl) dae_nil))))))
      (dss_cons (ds_if (dte_p (dt_cmp (op_eqAll hr.units) os_eq (dp_var 3) dp_int (by rfl))) (dss_one (ds_ret (de_p (dp_callG (ok__law_mirrored L) (hr.mono (by decide)) (by rfl) L.g__law_mirrored L.F__law_mirrored.kp pass0 (da_cons (dp_var 4) da_nil))))) dss_nil)
      (dss_cons (ds_if (dte_p (dt_cmp (op_eqAll hr.units) os_eq (dp_var 3) dp_int (by rfl))) (dss_cons (ds_set 5 hN (de_callG (ok__law_digit L) (hr.mono (by decide)) (by rfl) L.g__law_digit L.F__law_digit.kp pass0 (dae_pl 0 (dae_e (de_mv 1) dae_nil))))
      (dss_one (DS.as (eq3 sForX_eq _ _ _) (ds_for PassesOwn.never (by rfl) (DI.as (eq1 jR1_eq _) (di_range1 (by rfl) L.m_range (da_cons (dp_var 1) da_nil))) (dg_name 6 hN) (dss_one (DS.as (eq3 sForX_eq _ _ _) (ds_for PassesOwn.never (by rfl) (DI.as (eq1 jR1_eq _) (di_range1 (by rfl) L.m_range (da_cons (dp_var 1) da_nil))) (dg_name 7 hN) (dss_one (ds_if (dte_p (DW.dt (dw_and (dt_cmp (op_neAll hr.units) os_ne (dp_var 6) (dp_var 5) (by rfl)) (dw_and1 (dt_cmp (op_neAll hr.units) os_ne (dp_var 7) (dp_var 5) (by rfl)))))) (dss_one (DS.as (eq3 sStIxX_eq _ _ _) (ds_stIx (de_p dp_int) (DPl.as (eq2 plIxX_eq _ _) (dpl_ix (dpl_var 4) (dp_var 6))) (dp_var 7)))) dss_nil))))))))) dss_nil)
      (dss_one (ds_ret (de_mv 4)))))))
theorem ok__law_ways (L : Facts K mg) : GOk P w K mg base CX0 3 L.f__law_ways ["tape", "many", "top"] (spOf K 3 [true, false, false] DCB.cf__law_ways) := DCB.cf__law_ways_eq ▸
  cf_okG L.F__law_ways b__law_ways sc__law_ways rfl rfl fun cdv A outer s H E hr => have hN := (sc__law_ways).nd
    (dss_cons (ds_set 3 hN (de_callG (ok__law_digit L) (hr.mono (by decide)) (by rfl) L.g__law_digit L.F__law_digit.kp pass0 (dae_pl 0 (dae_e (de_p dp_int) dae_nil))))
      (dss_cons (ds_if (dte_p (dt_cmp (op_eqAll hr.units) os_eq (dp_var 3) dp_int (by rfl))) (dss_one (ds_ret (de_callG (ok__law_on_line L) (hr.mono (by decide)) (by rfl) L.g__law_on_line L.F__law_on_line.kp pass0 (dae_pl 0 (dae_e (de_mv 1) (dae_e (de_mv 2) dae_nil)))))) dss_nil)
      (dss_cons (ds_set 4 hN (de_callG (ok__law_square L) (hr.mono (by decide)) (by rfl) L.g__law_square L.F__law_square.kp pass0 (dae_pl 0 (dae_e (de_mv 1) (dae_e (de_mv 2) (dae_e (de_p dp_bl) dae_nil))))))
      (dss_cons (ds_if (dte_p (dt_cmp (op_eqAll hr.units) os_eq (dp_var 3) dp_int (by rfl))) (dss_one (ds_ret (de_p (dp_callG (ok__law_mirrored L) (hr.mono (by decide)) (by rfl) L.g__law_mirrored L.F__law_mirrored.kp pass0 (da_cons (dp_var 4) da_nil))))) dss_nil)
      (dss_one (ds_ret (de_mv 4)))))))
theorem ok__law_job (L : Facts K mg) : GOk P w K mg base CX0 4 L.f__law_job ["tape", "most"] (spOf K 2 [true, false] DCB.cf__law_job) := DCB.cf__law_job_eq ▸
  cf_okG L.F__law_job b__law_job sc__law_job rfl rfl fun cdv A outer s H E hr => have hN := (sc__law_job).nd
    (dss_cons (ds_set 2 hN (de_op op_addAll os_add (de_p dp_int) (de_callG (ok__law_digit L) (hr.mono (by decide)) (by rfl) L.g__law_digit L.F__law_digit.kp pass0 (dae_pl 0 (dae_e (de_mv 1) dae_nil)))))
      (dss_cons (ds_set 3 hN (de_callG (ok__law_flows L) (hr.mono (by decide)) (by rfl) L.g__law_flows L.F__law_flows.kp pass0 (dae_pl 0 (dae_e (de_mv 2) (dae_e (de_ix (de_p (dp_lst (da_cons dp_int (da_cons dp_int (da_cons dp_int da_nil))))) (de_callG (ok__law_digit L) (hr.mono (by decide)) (by rfl) L.g__law_digit L.F__law_digit.kp pass0 (dae_pl 0 (dae_e (de_p dp_int) dae_nil)))) dae_nil)))))
      (ds_bar (dss_cons (ds_set 4 hN (de_callG (ok__law_ways L) (hr.mono (by decide)) (by rfl) L.g__law_ways L.F__law_ways.kp pass0 (dae_pl 0 (dae_e (de_mv 2) (dae_e (de_ix (de_p (dp_lst (da_cons dp_int (da_cons dp_int (da_cons dp_int da_nil))))) (de_callG (ok__law_digit L) (hr.mono (by decide)) (by rfl) L.g__law_digit L.F__law_digit.kp pass0 (dae_pl 0 (dae_e (de_p dp_int) dae_nil)))) dae_nil)))))
      (ds_bar (dss_cons (ds_set 5 hN (de_callG (ok__law_square L) (hr.mono (by decide)) (by rfl) L.g__law_square L.F__law_square.kp pass0 (dae_pl 0 (dae_e (de_mv 2) (dae_e (de_ix (de_p (dp_lst (da_cons dp_int (da_cons dp_int (da_cons dp_int da_nil))))) (de_callG (ok__law_digit L) (hr.mono (by decide)) (by rfl) L.g__law_digit L.F__law_digit.kp pass0 (dae_pl 0 (dae_e (de_p dp_int) dae_nil)))) (dae_e (de_p dp_bl) dae_nil))))))
      (ds_bar (dss_one (ds_ret (de_p (dp_tup (da_cons (dp_callG (ok__law_tuples L) (hr.mono (by decide)) (by rfl) L.g__law_tuples L.F__law_tuples.kp pass0 (da_cons (dp_var 3) da_nil)) (da_cons (dp_callG (ok__law_tuples L) (hr.mono (by decide)) (by rfl) L.g__law_tuples L.F__law_tuples.kp pass0 (da_cons (dp_var 4) da_nil)) (da_cons (dp_callG (ok__law_tuples L) (hr.mono (by decide)) (by rfl) L.g__law_tuples L.F__law_tuples.kp pass0 (da_cons (dp_var 5) da_nil)) da_nil))))))))))))))
theorem ok__law_laying (L : Facts K mg) : GOk P w K mg base CX0 2 L.f__law_laying ["tape", "many"] (spOf K 2 [true, false] DCB.cf__law_laying) := DCB.cf__law_laying_eq ▸
  cf_okG L.F__law_laying b__law_laying sc__law_laying rfl rfl fun cdv A outer s H E hr => have hN := (sc__law_laying).nd
    (dss_cons (ds_set 2 hN (de_p (DP.as (eq1 pLR1X_eq _) (dp_listRg1 (dp_var 1) (by rfl) (by rfl) L.m_list (by rfl) L.m_range))))
      (dss_one (ds_ret (de_callTy call_tuple_of cs_tuple (by rfl) L.m_tuple bt_tuple (dae_e (DE.as (eq5 eLcX_eq _ _ _ _ _) (de_lc (E' := E) (by rfl) hN (DI.as (eq1 jR1_eq _) (di_range1 (by rfl) L.m_range (da_cons (dp_var 1) da_nil))) (blkOk_by (own := [("work", 3)]) (by kernel_rfl)) (fun _ _ _ _ _ => (dg_name 3 hN)) (fun _ _ _ _ _ => dts_nil) (fun _ _ _ _ _ => (de_mthR PySem.F.plainAttrs_list PySem.F.slot_list_pop PySem.F.type_list_pop mt_popAt xs_popAt 2 (dae_e (de_callG (ok__law_digit L) (hr.mono (by decide)) (by rfl) L.g__law_digit L.F__law_digit.kp pass0 (dae_pl 0 (dae_e (de_p (dp_callB call_len cs_len (by rfl) L.m_len bt_len (da_cons (dp_var 2) da_nil))) dae_nil))) dae_nil))))) dae_nil)))))
theorem ok__law_are_prices (L : Facts K mg) : GOk P w K mg base CX0 1 L.f__law_are_prices ["table", "number", "left", "right"] (spOf K 4 [false, false, false, false] cf__law_are_prices) := cf__law_are_prices_eq ▸
  cf_okG L.F__law_are_prices b__law_are_prices sc__law_are_prices rfl rfl fun cdv A outer s H E hr => have hN := (sc__law_are_prices).nd
    (dss_cons (ds_if (dte_p (DW.dt (dw_or (dt_cmp (op_neAll hr.units) os_ne (dp_callB call_len cs_len (by rfl) L.m_len bt_len (da_cons (dp_var 2) da_nil)) (dp_callB call_len cs_len (by rfl) L.m_len bt_len (da_cons (dp_var 0) da_nil)) (by rfl)) (dw_or1 (dt_cmp (op_neAll hr.units) os_ne (dp_callB call_len cs_len (by rfl) L.m_len bt_len (da_cons (dp_var 3) da_nil)) (dp_callB call_len cs_len (by rfl) L.m_len bt_len (da_cons (dp_var 0) da_nil)) (by rfl)))))) (dss_one (ds_ret (de_p dp_bl))) dss_nil)
      (dss_cons (DS.as (eq3 sForX_eq _ _ _) (ds_for PassesOwn.never (by rfl) (DI.as (eq1 jR1_eq _) (di_range1 (by rfl) L.m_range (da_cons (dp_callB call_len cs_len (by rfl) L.m_len bt_len (da_cons (dp_var 0) da_nil)) da_nil))) (dg_name 4 hN) (dss_one (ds_if (dte_p (dt_cmp (op_neAll hr.units) os_ne (DP.as (eq5 pLcX_eq _ _ _ _ _) (dp_lc (by rfl) hN (DI.as (eq1 jR1_eq _) (di_range1 (by rfl) L.m_range (da_cons (dp_callB call_len cs_len (by rfl) L.m_len bt_len (da_cons (dp_var 0) da_nil)) da_nil))) (blkOk_by (own := [("column", 5)]) (by kernel_rfl)) (fun _ _ _ _ _ => (dg_name 5 hN)) (fun _ _ _ _ _ => (dts_one (dt_cmp op_gt os_gt (dp_op op_addAll os_add (DP.as (eqIx _ _) (dp_ix (dp_var 2) (dp_var 4))) (DP.as (eqIx _ _) (dp_ix (dp_var 3) (dp_var 5)))) (DP.as (eqIx _ _) (dp_ix (DP.as (eqIx _ _) (dp_ix (dp_var 0) (dp_var 4))) (dp_var 5))) (by rfl)))) (fun _ _ _ _ _ => (dp_var 5)))) (dp_lst da_nil) (by rfl))) (dss_one (ds_ret (de_p dp_bl))) dss_nil))))
      (dss_one (ds_ret (de_p (dp_cmp op_ge os_ge (dp_op op_addAll os_add (dp_callB (cr_sum (by rfl)) cs_sumK (by rfl) L.m_sum bt_sum (da_cons (dp_var 2) da_nil)) (dp_callB (cr_sum (by rfl)) cs_sumK (by rfl) L.m_sum bt_sum (da_cons (dp_var 3) da_nil))) (dp_var 1) (by rfl)))))))
theorem ok__law_hub (L : Facts K mg) : GOk P w K mg base CX0 1 L.f__law_hub ["flows"] (spOf K 1 [false] cf__law_hub) := cf__law_hub_eq ▸
  cf_okG L.F__law_hub b__law_hub sc__law_hub rfl rfl fun cdv A outer s H E hr => have hN := (sc__law_hub).nd
    (dss_cons (DS.as (eq3 sForX_eq _ _ _) (ds_for PassesOwn.never (by rfl) (DI.as (eq1 jR1_eq _) (di_range1 (by rfl) L.m_range (da_cons (dp_callB call_len cs_len (by rfl) L.m_len bt_len (da_cons (dp_var 0) da_nil)) da_nil))) (dg_name 1 hN) (dss_cons (ds_set 2 hN (de_p dp_int))
      (dss_cons (DS.as (eq3 sForX_eq _ _ _) (ds_for PassesOwn.never (by rfl) (DI.as (eq1 jR1_eq _) (di_range1 (by rfl) L.m_range (da_cons (dp_callB call_len cs_len (by rfl) L.m_len bt_len (da_cons (dp_var 0) da_nil)) da_nil))) (dg_name 3 hN) (dss_one (ds_if (dte_p (dt_cmp (op_neAll hr.units) os_ne (dp_var 3) (dp_var 1) (by rfl))) (dss_cons (DS.as (eqSetLc _ _ _ _ _ _) (ds_setLc 4 (by rfl) hN (by decide) (by rfl) (by rfl) (sw_true (by rfl) (by rfl) (by rfl) (by decide +kernel)) (di_enum (by rfl) L.m_enumerate (da_cons (DP.as (eqIx _ _) (dp_ix (dp_var 0) (dp_var 3))) da_nil)) (blkOk_by (own := [("other", 5), ("number", 6)]) (by kernel_rfl)) (fun _ _ _ _ _ => (dg_tup (by rfl) (dgs_cons (dg_name 5 hN) (dgs_cons (dg_name 6 hN) dgs_nil)))) (fun _ _ _ _ _ => (dts_one (dt_cmp (op_neAll hr.units) os_ne (dp_var 5) (dp_var 1) (by rfl)))) (fun _ _ _ _ _ => (dp_var 6))))
      (dss_one (ds_set 2 hN (de_p (dp_op op_addAll os_add (dp_var 2) (dp_callB (cr_sum (by rfl)) cs_sum (by rfl) L.m_sum bt_sum (da_cons (dp_var 4) da_nil))))))) dss_nil))))
      (dss_one (ds_if (dte_p (dt_cmp (op_eqAll hr.units) os_eq (dp_var 2) dp_int (by rfl))) (dss_one (ds_ret (de_mv 1))) dss_nil))))))
      (dss_one (ds_ret (de_p dp_non))))
theorem ok__law_hubbed (L : Facts K mg) : GOk P w K mg base CX0 2 L.f__law_hubbed ["tape", "job"] (spOf K 2 [true, false] cf__law_hubbed) := cf__law_hubbed_eq ▸
  cf_okG L.F__law_hubbed b__law_hubbed sc__law_hubbed rfl rfl fun cdv A outer s H E hr => have hN := (sc__law_hubbed).nd
    (dss_cons (ds_set 2 hN (de_callG (ok__law_digit L) (hr.mono (by decide)) (by rfl) L.g__law_digit L.F__law_digit.kp pass0 (dae_pl 0 (dae_e (de_p (dp_callB call_len cs_len (by rfl) L.m_len bt_len (da_cons (DP.as (eqIx _ _) (dp_ix (dp_var 1) dp_int)) da_nil))) dae_nil))))
      (dss_cons (ds_set 3 hN (de_p (dp_lst da_nil)))
      (dss_cons (DS.as (eq3 sForX_eq _ _ _) (ds_for PassesOwn.never (by rfl) (di_enum (by rfl) L.m_enumerate (da_cons (DP.as (eqIx _ _) (dp_ix (dp_var 1) dp_int)) da_nil)) (dg_tup (by rfl) (dgs_cons (dg_name 4 hN) (dgs_cons (dg_name 5 hN) dgs_nil))) (dss_one (ds_expr (de_mthR PySem.F.plainAttrs_list PySem.F.slot_list_append PySem.F.type_list_append mt_append ms_append 3 (dae_e (de_p (DP.as (eq5 pLcX_eq _ _ _ _ _) (dp_lc (by rfl) hN (di_enum (by rfl) L.m_enumerate (da_cons (dp_var 5) da_nil)) (blkOk_by (own := [("other", 6), ("number", 7)]) (by kernel_rfl)) (fun _ _ _ _ _ => (dg_tup (by rfl) (dgs_cons (dg_name 6 hN) (dgs_cons (dg_name 7 hN) dgs_nil)))) (fun _ _ _ _ _ => dts_nil) (fun _ _ _ _ _ => (dp_op op_mulAll os_mul (dp_var 7) (dp_callTy call_int1 cs_int (by rfl) L.m_int bt_int (da_cons (dp_cmp op_in_seq os_in (dp_var 2) (dp_tup (da_cons (dp_var 4) (da_cons (dp_var 6) da_nil))) (by rfl)) da_nil))))))) dae_nil))))))
      (dss_one (ds_ret (de_p (dp_tup (da_cons (dp_callG (ok__law_tuples L) (hr.mono (by decide)) (by rfl) L.g__law_tuples L.F__law_tuples.kp pass0 (da_cons (dp_var 3) da_nil)) (da_cons (DP.as (eqIx _ _) (dp_ix (dp_var 1) dp_int)) (da_cons (DP.as (eqIx _ _) (dp_ix (dp_var 1) dp_int)) da_nil))))))))))
theorem ok__law_hub_number (L : Facts K mg) : GOk P w K mg base CX0 1 L.f__law_hub_number ["job", "work", "place", "one", "there"] (spOf K 5 [false, false, false, false, false] cf__law_hub_number) := cf__law_hub_number_eq ▸
  cf_okG L.F__law_hub_number b__law_hub_number sc__law_hub_number rfl rfl fun cdv A outer s H E hr => have hN := (sc__law_hub_number).nd
    (dss_cons (ds_set 5 hN (de_p (dp_op op_mulAll os_mul (DP.as (eqIx _ _) (dp_ix (DP.as (eqIx _ _) (dp_ix (DP.as (eqIx _ _) (dp_ix (dp_var 0) dp_int)) (dp_var 3))) (dp_var 1))) (DP.as (eqIx _ _) (dp_ix (DP.as (eqIx _ _) (dp_ix (DP.as (eqIx _ _) (dp_ix (dp_var 0) dp_int)) (dp_var 4))) (dp_var 2))))))
      (dss_cons (ds_set 6 hN (de_p (dp_op op_mulAll os_mul (DP.as (eqIx _ _) (dp_ix (DP.as (eqIx _ _) (dp_ix (DP.as (eqIx _ _) (dp_ix (dp_var 0) dp_int)) (dp_var 1))) (dp_var 3))) (DP.as (eqIx _ _) (dp_ix (DP.as (eqIx _ _) (dp_ix (DP.as (eqIx _ _) (dp_ix (dp_var 0) dp_int)) (dp_var 2))) (dp_var 4))))))
      (dss_one (ds_ret (de_p (dp_op op_addAll os_add (dp_op op_addAll os_add (DP.as (eqIx _ _) (dp_ix (DP.as (eqIx _ _) (dp_ix (DP.as (eqIx _ _) (dp_ix (dp_var 0) dp_int)) (dp_var 3))) (dp_var 4))) (dp_var 5)) (dp_var 6)))))))
theorem ok__law_hub_table (L : Facts K mg) : GOk P w K mg base CX0 2 L.f__law_hub_table ["job", "work", "place"] (spOf K 3 [false, false, false] cf__law_hub_table) := cf__law_hub_table_eq ▸
  cf_okG L.F__law_hub_table b__law_hub_table sc__law_hub_table rfl rfl fun cdv A outer s H E hr => have hN := (sc__law_hub_table).nd
    (dss_cons (ds_set 3 hN (de_p (dp_callB call_len cs_len (by rfl) L.m_len bt_len (da_cons (DP.as (eqIx _ _) (dp_ix (dp_var 0) dp_int)) da_nil))))
      (dss_cons (ds_set 4 hN (de_p (dp_lst da_nil)))
      (dss_cons (DS.as (eq3 sForX_eq _ _ _) (ds_for PassesOwn.never (by rfl) (DI.as (eq1 jR1_eq _) (di_range1 (by rfl) L.m_range (da_cons (dp_var 3) da_nil))) (dg_name 5 hN) (dss_one (ds_if (dte_p (dt_cmp (op_neAll hr.units) os_ne (dp_var 5) (dp_var 1) (by rfl))) (dss_cons (DS.as (eqSetLc _ _ _ _ _ _) (ds_setLc 6 (by rfl) hN (by decide) (by rfl) (by rfl) (sw_true (by rfl) (by rfl) (by rfl) (by decide +kernel)) (DI.as (eq1 jR1_eq _) (di_range1 (by rfl) L.m_range (da_cons (dp_var 3) da_nil))) (blkOk_by (own := [("there", 8)]) (by kernel_rfl)) (fun _ _ _ _ _ => (dg_name 8 hN)) (fun _ _ _ _ _ => (dts_one (dt_cmp (op_neAll hr.units) os_ne (dp_var 8) (dp_var 2) (by rfl)))) (fun _ _ _ _ _ => (dp_var 8))))
      (dss_cons (DS.as (eqSetLc _ _ _ _ _ _) (ds_setLc 7 (by rfl) hN (by decide) (by rfl) (by rfl) (sw_true (by rfl) (by rfl) (by rfl) (by decide +kernel)) (di_seq (dp_var 6)) (blkOk_by (own := [("there", 8)]) (by kernel_rfl)) (fun _ _ _ _ _ => (dg_name 8 hN)) (fun _ _ _ _ _ => dts_nil) (fun _ _ _ _ _ => (dp_callG (ok__law_hub_number L) (hr.mono (by decide)) (by rfl) L.g__law_hub_number L.F__law_hub_number.kp pass0 (da_cons (dp_var 0) (da_cons (dp_var 1) (da_cons (dp_var 2) (da_cons (dp_var 5) (da_cons (dp_var 8) da_nil)))))))))
      (dss_one (ds_expr (de_mthR PySem.F.plainAttrs_list PySem.F.slot_list_append PySem.F.type_list_append mt_append ms_append 4 (dae_e (de_p (dp_callTy call_tuple_of cs_tuple (by rfl) L.m_tuple bt_tuple (da_cons (dp_var 7) da_nil))) dae_nil)))))) dss_nil))))
      (dss_one (ds_ret (de_p (dp_callTy call_tuple_of cs_tuple (by rfl) L.m_tuple bt_tuple (da_cons (dp_var 4) da_nil))))))))
theorem ok__law_hub_shows (L : Facts K mg) : GOk P w K mg base CX0 3 L.f__law_hub_shows ["job", "number", "papers"] (spOf K 3 [false, false, false] cf__law_hub_shows) := cf__law_hub_shows_eq ▸
  cf_okG L.F__law_hub_shows b__law_hub_shows sc__law_hub_shows rfl rfl fun cdv A outer s H E hr => have hN := (sc__law_hub_shows).nd
    (dss_cons (ds_set 3 hN (de_p (dp_callG (ok__law_hub L) (hr.mono (by decide)) (by rfl) L.g__law_hub L.F__law_hub.kp pass0 (da_cons (DP.as (eqIx _ _) (dp_ix (dp_var 0) dp_int)) da_nil))))
      (dss_cons (ds_if (dte_p (dt_cmp (op_neAll hr.units) os_ne (dp_callB call_len cs_len (by rfl) L.m_len bt_len (da_cons (dp_var 2) da_nil)) (dp_callB call_len cs_len (by rfl) L.m_len bt_len (da_cons (DP.as (eqIx _ _) (dp_ix (dp_var 0) dp_int)) da_nil)) (by rfl))) (dss_one (ds_ret (de_p dp_bl))) dss_nil)
      (dss_cons (DS.as (eq3 sForX_eq _ _ _) (ds_for PassesOwn.never (by rfl) (di_enum (by rfl) L.m_enumerate (da_cons (dp_var 2) da_nil)) (dg_tup (by rfl) (dgs_cons (dg_name 4 hN) (dgs_cons (dg_name 5 hN) dgs_nil))) (dss_cons (ds_set 6 hN (de_p (dp_callG (ok__law_hub_table L) (hr.mono (by decide)) (by rfl) L.g__law_hub_table L.F__law_hub_table.kp pass0 (da_cons (dp_var 0) (da_cons (dp_var 3) (da_cons (dp_var 4) da_nil))))))
      (dss_cons (ds_set 7 hN (de_p (dp_op op_sub os_sub (dp_var 1) (DP.as (eqIx _ _) (dp_ix (DP.as (eqIx _ _) (dp_ix (DP.as (eqIx _ _) (dp_ix (dp_var 0) dp_int)) (dp_var 3))) (dp_var 4))))))
      (dss_one (ds_if (dte_p (dt_not (dt_val (dp_callG (ok__law_are_prices L) (hr.mono (by decide)) (by rfl) L.g__law_are_prices L.F__law_are_prices.kp pass0 (da_cons (dp_var 6) (da_cons (dp_var 7) (da_cons (DP.as (eqIx _ _) (dp_ix (dp_var 5) dp_int)) (da_cons (DP.as (eqIx _ _) (dp_ix (dp_var 5) dp_int)) da_nil)))))))) (dss_one (ds_ret (de_p dp_bl))) dss_nil))))))
      (dss_one (ds_ret (de_p dp_bl))))))
theorem ok__law_pair (L : Facts K mg) : GOk P w K mg base CX0 2 L.f__law_pair ["tape", "table"] (spOf K 2 [true, false] cf__law_pair) := cf__law_pair_eq ▸
  cf_okG L.F__law_pair b__law_pair sc__law_pair rfl rfl fun cdv A outer s H E hr => have hN := (sc__law_pair).nd
    (dss_cons (ds_set 2 hN (DE.as (eq5 eLcX_eq _ _ _ _ _) (de_lc (E' := E) (by rfl) hN (di_seq (dp_var 1)) (blkOk_by (own := [("row", 5)]) (by kernel_rfl)) (fun _ _ _ _ _ => (dg_name 5 hN)) (fun _ _ _ _ _ => dts_nil) (fun _ _ _ _ _ => (de_op op_sub os_sub (de_p dp_int) (de_callG (ok__law_digit L) (hr.mono (by decide)) (by rfl) L.g__law_digit L.F__law_digit.kp pass0 (dae_pl 0 (dae_e (de_p dp_int) dae_nil))))))))
      (dss_cons (ds_set 3 hN (de_p (DP.as (eq5 pLcX_eq _ _ _ _ _) (dp_lc (by rfl) hN (di_seq (dp_var 1)) (blkOk_by (own := [("row", 5)]) (by kernel_rfl)) (fun _ _ _ _ _ => (dg_name 5 hN)) (fun _ _ _ _ _ => dts_nil) (fun _ _ _ _ _ => (dp_callB (cr_min (by rfl)) cs_minL (by rfl) L.m_min bt_min (da_cons (DP.as (eq5 pLcX_eq _ _ _ _ _) (dp_lc (by rfl) hN (DI.as (eq1 jR1_eq _) (di_range1 (by rfl) L.m_range (da_cons (dp_callB call_len cs_len (by rfl) L.m_len bt_len (da_cons (dp_var 1) da_nil)) da_nil))) (blkOk_by (own := [("column", 4)]) (by kernel_rfl)) (fun _ _ _ _ _ => (dg_name 4 hN)) (fun _ _ _ _ _ => dts_nil) (fun _ _ _ _ _ => (dp_op op_sub os_sub (DP.as (eqIx _ _) (dp_ix (dp_var 5) (dp_var 4))) (DP.as (eqIx _ _) (dp_ix (dp_var 2) (dp_var 4))))))) da_nil)))))))
      (dss_cons (DS.as (eq3 sForX_eq _ _ _) (ds_for PassesOwn.never (by rfl) (DI.as (eq1 jR1_eq _) (di_range1 (by rfl) L.m_range (da_cons (dp_callB call_len cs_len (by rfl) L.m_len bt_len (da_cons (dp_var 1) da_nil)) da_nil))) (dg_name 4 hN) (dss_one (DS.as (eq3 sStIxX_eq _ _ _) (ds_stIx (de_p (dp_callB (cr_min (by rfl)) cs_minL (by rfl) L.m_min bt_min (da_cons (DP.as (eq5 pLcX_eq _ _ _ _ _) (dp_lc (by rfl) hN (DI.as (eq1 jR1_eq _) (di_range1 (by rfl) L.m_range (da_cons (dp_callB call_len cs_len (by rfl) L.m_len bt_len (da_cons (dp_var 1) da_nil)) da_nil))) (blkOk_by (own := [("row", 5)]) (by kernel_rfl)) (fun _ _ _ _ _ => (dg_name 5 hN)) (fun _ _ _ _ _ => dts_nil) (fun _ _ _ _ _ => (dp_op op_sub os_sub (DP.as (eqIx _ _) (dp_ix (DP.as (eqIx _ _) (dp_ix (dp_var 1) (dp_var 5))) (dp_var 4))) (DP.as (eqIx _ _) (dp_ix (dp_var 3) (dp_var 5))))))) da_nil))) (dpl_var 2) (dp_var 4))))))
      (ds_lkL 3 (ds_lkL 2 (dss_one (ds_ret (de_p (dp_tup (da_cons (dp_var 3) (da_cons (dp_var 2) da_nil)))))))))))
theorem ok__law_bent_pair (L : Facts K mg) : GOk P w K mg base CX0 2 L.f__law_bent_pair ["tape", "pair"] (spOf K 2 [true, false] cf__law_bent_pair) := cf__law_bent_pair_eq ▸
  cf_okG L.F__law_bent_pair b__law_bent_pair sc__law_bent_pair rfl rfl fun cdv A outer s H E hr => have hN := (sc__law_bent_pair).nd
    (dss_cons (ds_par 2 3 (by rfl) hN (dae_e (de_p (dp_callTy call_list_of cs_list (by rfl) L.m_list bt_list (da_cons (DP.as (eqIx _ _) (dp_ix (dp_var 1) dp_int)) da_nil))) (dae_e (de_p (dp_callTy call_list_of cs_list (by rfl) L.m_list bt_list (da_cons (DP.as (eqIx _ _) (dp_ix (dp_var 1) dp_int)) da_nil))) dae_nil)))
      (dss_cons (ds_set 4 hN (de_callG (ok__law_digit L) (hr.mono (by decide)) (by rfl) L.g__law_digit L.F__law_digit.kp pass0 (dae_pl 0 (dae_e (de_p dp_int) dae_nil))))
      (dss_cons (ds_if (dte_p (DW.dt (dw_or (dt_cmp (op_eqAll hr.units) os_eq (dp_var 2) (dp_lst da_nil) (by rfl)) (dw_or1 (dt_cmp (op_eqAll hr.units) os_eq (dp_var 4) dp_int (by rfl)))))) (ds_lkL 2 (ds_lkL 3 (dss_cons (ds_set 5 hN (de_p (dp_lst (da_cons (dp_tup (da_cons (dp_lk (dp_op op_catK os_addK (dp_var 2) (dp_lst (da_cons dp_int da_nil)))) (da_cons (dp_var 3) da_nil))) (da_cons (dp_tup (da_cons (dp_var 2) (da_cons (dp_lk (dp_op op_catK os_addK (dp_var 3) (dp_lst (da_cons dp_int da_nil)))) da_nil))) (da_cons (dp_tup (da_cons (dp_var 3) (da_cons (dp_var 2) da_nil))) (da_cons (dp_tup (da_cons (dp_lk (dp_lst da_nil)) (da_cons (dp_lk (dp_lst da_nil)) da_nil))) (da_cons (dp_tup (da_cons (dp_lk (dp_op op_catK os_addK (dp_var 2) (dp_lst (da_cons dp_int da_nil)))) (da_cons (dp_lk (dp_op op_catK os_addK (dp_var 3) (dp_lst (da_cons dp_int da_nil)))) da_nil))) da_nil))))))))
      (dss_cons (ds_set 5 hN (de_p (dp_op op_addAll os_add (dp_var 5) (dp_lst (da_cons (dp_tup (da_cons (dp_var 2) (da_cons (dp_lk (dp_sl (dp_var 3) do_none (do_some (dp_un un_neg us_neg dp_int)))) da_nil))) (da_cons (dp_tup (da_cons (dp_lk (dp_sl (dp_var 2) do_none (do_some (dp_un un_neg us_neg dp_int)))) (da_cons (dp_var 3) da_nil))) da_nil))))))
      (dss_one (ds_ret (DE.as (eq2 eIxSX_eq _ _) (de_ixS 5 (de_callG (ok__law_digit L) (hr.mono (by decide)) (by rfl) L.g__law_digit L.F__law_digit.kp pass0 (dae_pl 0 (dae_e (de_p dp_int) dae_nil))))))))))) dss_nil)
      (ds_bar (dss_cons (ds_set 6 hN (de_callG (ok__law_digit L) (hr.mono (by decide)) (by rfl) L.g__law_digit L.F__law_digit.kp pass0 (dae_pl 0 (dae_e (de_p (dp_callB call_len cs_len (by rfl) L.m_len bt_len (da_cons (dp_var 2) da_nil))) dae_nil))))
      (dss_cons (ds_if (dte_p (dt_cmp op_lt os_lt (dp_var 4) dp_int (by rfl))) (dss_one (DS.as (eq3 sStIxX_eq _ _ _) (ds_stIx (de_p (dp_op op_addAll os_add (DP.as (eqIx _ _) (dp_ix (dp_var 2) (dp_var 6))) (DP.as (eqIx _ _) (dp_ix (dp_lst (da_cons dp_int (da_cons (dp_un un_neg us_neg dp_int) (da_cons dp_int (da_cons (dp_un un_neg us_neg dp_int) da_nil))))) (dp_var 4))))) (dpl_var 2) (dp_var 6)))) dss_nil)
      (ds_bar (dss_cons (ds_if (dte_p (dt_cmp op_in_seq os_in (dp_var 4) (dp_tup (da_cons dp_int (da_cons dp_int da_nil))) (by rfl))) (dss_one (DS.as (eqSetLc _ _ _ _ _ _) (ds_setLc 3 (by rfl) hN (by decide) (by rfl) (by rfl) (sw_true (by rfl) (by rfl) (by rfl) (by decide +kernel)) (di_seq (dp_var 3)) (blkOk_by (own := [("number", 7)]) (by kernel_rfl)) (fun _ _ _ _ _ => (dg_name 7 hN)) (fun _ _ _ _ _ => dts_nil) (fun _ _ _ _ _ => (dp_op op_sub os_sub (dp_var 7) (DP.as (eqIx _ _) (dp_ix (dp_lst (da_cons dp_int (da_cons (dp_un un_neg us_neg dp_int) da_nil))) (dp_op op_sub os_sub (dp_var 4) dp_int)))))))) dss_nil)
      (ds_bar (dss_cons (ds_if (dte_p (dt_cmp (op_eqAll hr.units) os_eq (dp_var 4) dp_int (by rfl))) (dss_cons (DS.as (eqSetLc _ _ _ _ _ _) (ds_setLc 2 (by rfl) hN (by decide) (by rfl) (by rfl) (sw_true (by rfl) (by rfl) (by rfl) (by decide +kernel)) (di_seq (dp_var 2)) (blkOk_by (own := [("number", 7)]) (by kernel_rfl)) (fun _ _ _ _ _ => (dg_name 7 hN)) (fun _ _ _ _ _ => dts_nil) (fun _ _ _ _ _ => (dp_op op_addAll os_add (dp_var 7) (dp_op op_pow os_pow dp_int dp_int)))))
      (dss_one (DS.as (eqSetLc _ _ _ _ _ _) (ds_setLc 3 (by rfl) hN (by decide) (by rfl) (by rfl) (sw_true (by rfl) (by rfl) (by rfl) (by decide +kernel)) (di_seq (dp_var 3)) (blkOk_by (own := [("number", 7)]) (by kernel_rfl)) (fun _ _ _ _ _ => (dg_name 7 hN)) (fun _ _ _ _ _ => dts_nil) (fun _ _ _ _ _ => (dp_op op_sub os_sub (dp_var 7) (dp_op op_pow os_pow dp_int dp_int))))))) dss_nil)
      (ds_bar (dss_cons (ds_if (dte_p (dt_cmp (op_eqAll hr.units) os_eq (dp_var 4) dp_int (by rfl))) (dss_one (DS.as (eq3 sStIxX_eq _ _ _) (ds_stIx (de_p (dp_op op_addAll os_add (DP.as (eqIx _ _) (dp_ix (dp_var 3) (dp_var 6))) dp_int)) (dpl_var 3) (dp_var 6)))) dss_nil)
      (ds_lkL 2 (ds_lkL 3 (dss_one (ds_ret (de_p (dp_tup (da_cons (dp_var 2) (da_cons (dp_var 3) da_nil))))))))))))))))))))
theorem ok__law_bent (L : Facts K mg) : GOk P w K mg base CX0 3 L.f__law_bent ["tape", "papers"] (spOf K 2 [true, false] cf__law_bent) := cf__law_bent_eq ▸
  cf_okG L.F__law_bent b__law_bent sc__law_bent rfl rfl fun cdv A outer s H E hr => have hN := (sc__law_bent).nd
    (dss_cons (ds_set 2 hN (de_callG (ok__law_digit L) (hr.mono (by decide)) (by rfl) L.g__law_digit L.F__law_digit.kp pass0 (dae_pl 0 (dae_e (de_p (dp_callB call_len cs_len (by rfl) L.m_len bt_len (da_cons (dp_var 1) da_nil))) dae_nil))))
      (dss_cons (ds_set 3 hN (de_callG (ok__law_digit L) (hr.mono (by decide)) (by rfl) L.g__law_digit L.F__law_digit.kp pass0 (dae_pl 0 (dae_e (de_p dp_int) dae_nil))))
      (dss_cons (ds_if (dte_p (dt_cmp op_lt os_lt (dp_var 3) dp_int (by rfl))) (dss_one (ds_ret (de_op op_addAll os_add (de_op op_addAll os_add (de_p (dp_sl (dp_var 1) do_none (do_some (dp_var 2)))) (de_lst (dae_e (de_callG (ok__law_bent_pair L) (hr.mono (by decide)) (by rfl) L.g__law_bent_pair L.F__law_bent_pair.kp pass0 (dae_pl 0 (dae_e (de_p (DP.as (eqIx _ _) (dp_ix (dp_var 1) (dp_var 2)))) dae_nil))) dae_nil))) (de_p (dp_sl (dp_var 1) (do_some (dp_op op_addAll os_add (dp_var 2) dp_int)) do_none))))) dss_nil)
      (dss_cons (ds_if (dte_p (dt_cmp (op_eqAll hr.units) os_eq (dp_var 3) dp_int (by rfl))) (dss_one (ds_ret (de_p (dp_op op_addAll os_add (dp_sl (dp_var 1) do_none (do_some (dp_var 2))) (dp_sl (dp_var 1) (do_some (dp_op op_addAll os_add (dp_var 2) dp_int)) do_none))))) dss_nil)
      (dss_cons (ds_if (dte_p (dt_cmp (op_eqAll hr.units) os_eq (dp_var 3) dp_int (by rfl))) (dss_one (ds_ret (de_p (dp_op op_addAll os_add (dp_sl (dp_var 1) do_none (do_some (dp_op op_addAll os_add (dp_var 2) dp_int))) (dp_sl (dp_var 1) (do_some (dp_var 2)) do_none))))) dss_nil)
      (dss_one (ds_ret (de_p (dp_op op_addAll os_add (dp_op op_addAll os_add (dp_sl (dp_var 1) do_none (do_some (dp_var 2))) (dp_revM (dp_sl (dp_var 1) (do_some (dp_var 2)) (do_some (dp_op op_addAll os_add (dp_var 2) dp_int))))) (dp_sl (dp_var 1) (do_some (dp_op op_addAll os_add (dp_var 2) dp_int)) do_none))))))))))
theorem ok_law (L : Facts K mg) : GOk P w K mg base CX0 5 L.f_law ["script"] (spOf K 1 [false] cf_law) := cf_law_eq ▸
  cf_okG L.F_law b_law sc_law rfl rfl fun cdv A outer s H E hr => have hN := (sc_law).nd
    (dss_cons (DS.as (eq3 sForX_eq _ _ _) (ds_for PassesOwn.never (by rfl) (DI.as (eq1 jR1_eq _) (di_range1 (by rfl) L.m_range (da_cons (dp_callB (call_max2 (by rfl)) cs_max2 (by rfl) L.m_max bt_max (da_cons dp_int (da_cons (dp_callB (call_min2 (by rfl)) cs_min2 (by rfl) L.m_min bt_min (da_cons dp_int (da_cons (dp_callB call_len cs_len (by rfl) L.m_len bt_len (da_cons (dp_var 0) da_nil)) da_nil))) da_nil))) da_nil))) (dg_name 1 hN) (dss_cons (ds_set 2 hN (de_p (dp_callG (ok__law_tape L) (hr.mono (by decide)) (by rfl) L.g__law_tape L.F__law_tape.kp pass0 (da_cons (dp_var 0) (da_cons (dp_var 1) da_nil)))))
      (dss_cons (ds_set 3 hN (de_callG (ok__law_hubbed L) (hr.mono (by decide)) (by rfl) L.g__law_hubbed L.F__law_hubbed.kp pass0 (dae_pl 2 (dae_e (de_callG (ok__law_job L) (hr.mono (by decide)) (by rfl) L.g__law_job L.F__law_job.kp pass0 (dae_pl 2 (dae_e (de_ix (de_p (dp_lst (da_cons dp_int (da_cons dp_int da_nil)))) (de_callTy call_int1 cs_int (by rfl) L.m_int bt_int (dae_e (de_cmp (op_eqAll hr.units) os_eq (de_callG (ok__law_digit L) (hr.mono (by decide)) (by rfl) L.g__law_digit L.F__law_digit.kp pass0 (dae_pl 2 (dae_e (de_p dp_int) dae_nil))) (de_p dp_int) (by rfl)) dae_nil))) dae_nil))) dae_nil))))
      (ds_bar (dss_cons (ds_set 4 hN (de_p (dp_callG (ok__law_hub L) (hr.mono (by decide)) (by rfl) L.g__law_hub L.F__law_hub.kp pass0 (da_cons (DP.as (eqIx _ _) (dp_ix (dp_var 3) dp_int)) da_nil))))
      (ds_bar (dss_cons (DS.as (eqSetLcE _ _ _ _ _ _) (ds_setLcE (E' := E) 5 (by rfl) hN (by decide) (by rfl) (by rfl) (sw_true (by rfl) (by rfl) (by rfl) (by decide +kernel)) (DI.as (eq1 jR1_eq _) (di_range1 (by rfl) L.m_range (da_cons (dp_callB call_len cs_len (by rfl) L.m_len bt_len (da_cons (DP.as (eqIx _ _) (dp_ix (dp_var 3) dp_int)) da_nil)) da_nil))) (blkOk_by (own := [("place", 13)]) (by kernel_rfl)) (fun _ _ _ _ _ => (dg_name 13 hN)) (fun _ _ _ _ _ => dts_nil) (fun _ _ _ _ _ => (de_callG (ok__law_pair L) (hr.mono (by decide)) (by rfl) L.g__law_pair L.F__law_pair.kp pass0 (dae_pl 2 (dae_e (de_p (dp_callG (ok__law_hub_table L) (hr.mono (by decide)) (by rfl) L.g__law_hub_table L.F__law_hub_table.kp pass0 (da_cons (dp_var 3) (da_cons (dp_var 4) (da_cons (dp_var 13) da_nil))))) dae_nil))))))
      (ds_lkL 5 (dss_cons (DS.as (eqSetLc _ _ _ _ _ _) (ds_setLc 6 (by rfl) hN (by decide) (by rfl) (by rfl) (sw_true (by rfl) (by rfl) (by rfl) (by decide +kernel)) (di_enum (by rfl) L.m_enumerate (da_cons (dp_var 5) da_nil)) (blkOk_by (own := [("at", 14), ("pair", 15)]) (by kernel_rfl)) (fun _ _ _ _ _ => (dg_tup (by rfl) (dgs_cons (dg_name 14 hN) (dgs_cons (dg_name 15 hN) dgs_nil)))) (fun _ _ _ _ _ => dts_nil) (fun _ _ _ _ _ => (dp_op op_addAll os_add (dp_op op_addAll os_add (DP.as (eqIx _ _) (dp_ix (DP.as (eqIx _ _) (dp_ix (DP.as (eqIx _ _) (dp_ix (dp_var 3) dp_int)) (dp_var 4))) (dp_var 14))) (dp_callB (cr_sum (by rfl)) cs_sumK (by rfl) L.m_sum bt_sum (da_cons (DP.as (eqIx _ _) (dp_ix (dp_var 15) dp_int)) da_nil))) (dp_callB (cr_sum (by rfl)) cs_sumK (by rfl) L.m_sum bt_sum (da_cons (DP.as (eqIx _ _) (dp_ix (dp_var 15) dp_int)) da_nil))))))
      (ds_lkL 6 (ds_bar (dss_cons (DS.as (eq3 sForX_eq _ _ _) (ds_for PassesOwn.never (by rfl) (DI.as (eq1 jR1_eq _) (di_range1 (by rfl) L.m_range (da_cons dp_int da_nil))) (dg_name 7 hN) (ds_bar (dss_cons (ds_set 8 hN (de_mv 5))
      (dss_cons (ds_if (dte_p (dt_cmp op_gt os_gt (dp_var 7) dp_int (by rfl))) (dss_one (ds_set 8 hN (de_callG (ok__law_bent L) (hr.mono (by decide)) (by rfl) L.g__law_bent L.F__law_bent.kp pass0 (dae_pl 2 (dae_e (de_mv 5) dae_nil))))) dss_nil)
      (ds_lkT 8 (dss_cons (ds_set 9 hN (de_p (dp_callB (call_reprG hr) cs_repr (by rfl) L.m_repr bt_repr (da_cons (dp_var 8) da_nil))))
      (ds_bar (dss_one (DS.as (eq3 sForX_eq _ _ _) (ds_for PassesOwn.never (by rfl) (di_seq (dp_lst (da_cons (dp_callB (cr_min (by rfl)) cs_minLK (by rfl) L.m_min bt_min (da_cons (dp_var 6) da_nil)) (da_cons (dp_op op_addAll os_add (dp_callB (cr_min (by rfl)) cs_minLK (by rfl) L.m_min bt_min (da_cons (dp_var 6) da_nil)) dp_int) (da_cons (dp_callB (cr_max (by rfl)) cs_maxLK (by rfl) L.m_max bt_max (da_cons (dp_var 6) da_nil)) (da_cons dp_int (da_cons (dp_op op_sub os_sub dp_int (dp_op op_pow os_pow dp_int dp_int)) da_nil))))))) (dg_name 10 hN) (dss_cons (ds_set 11 hN (de_p (dp_callG (ok_hub_shows L) (hr.mono (by decide)) (by rfl) L.g_hub_shows L.F_hub_shows.kp pass0 (da_cons (dp_var 3) (da_cons (dp_var 10) (da_cons (dp_var 8) da_nil))))))
      (dss_one (ds_if (dte_p (DW.dt (dw_or (dt_not (dt_val (dp_isI .bool (dp_var 11) (by rfl) L.m_isinstance (by rfl) L.m_bool bt_bool))) (dw_or (dt_cmp (op_neAll hr.units) os_ne (dp_var 11) (dp_callG (ok__law_hub_shows L) (hr.mono (by decide)) (by rfl) L.g__law_hub_shows L.F__law_hub_shows.kp pass0 (da_cons (dp_var 3) (da_cons (dp_var 10) (da_cons (dp_var 8) da_nil)))) (by rfl)) (dw_or1 (dt_cmp (op_neAll hr.units) os_ne (dp_callB (call_reprG hr) cs_repr (by rfl) L.m_repr bt_repr (da_cons (dp_var 8) da_nil)) (dp_var 9) (by rfl))))))) (dss_one (ds_ret (de_p dp_bl))) dss_nil))))))))))))))
      (ds_bar (dss_one (DS.as (eq3 sForX_eq _ _ _) (ds_for PassesOwn.never (by rfl) (di_seq (dp_lst (da_cons (dp_var 3) (da_cons (dp_tup (da_cons (DP.as (eqIx _ _) (dp_ix (dp_var 3) dp_int)) (da_cons (DP.as (eqIx _ _) (dp_ix (dp_var 3) dp_int)) (da_cons (dp_revT (DP.as (eqIx _ _) (dp_ix (dp_var 3) dp_int))) da_nil)))) (da_cons (dp_var 3) da_nil))))) (dg_name 12 hN) (dss_one (ds_if (dte_p (dt_cmp (op_neAll hr.units) os_ne (dp_callG (ok_hub_shows L) (hr.mono (by decide)) (by rfl) L.g_hub_shows L.F_hub_shows.kp pass0 (da_cons (dp_var 12) (da_cons (dp_callB (cr_min (by rfl)) cs_minLK (by rfl) L.m_min bt_min (da_cons (dp_var 6) da_nil)) (da_cons (dp_var 5) da_nil)))) (dp_callG (ok__law_hub_shows L) (hr.mono (by decide)) (by rfl) L.g__law_hub_shows L.F__law_hub_shows.kp pass0 (da_cons (dp_var 12) (da_cons (dp_callB (cr_min (by rfl)) cs_minLK (by rfl) L.m_min bt_min (da_cons (dp_var 6) da_nil)) (da_cons (dp_var 5) da_nil)))) (by rfl))) (dss_one (ds_ret (de_p dp_bl))) dss_nil)))))))))))))))))))
      (dss_one (ds_ret (de_p dp_bl))))
end
def fn : List He.DefD := [⟨("are_prices", none), "are_prices", "are_prices", defArgs s_are_prices, defBody s_are_prices, defScope s_are_prices, [], []⟩, ⟨("is_hub", none), "is_hub", "is_hub", defArgs s_is_hub, defBody s_is_hub, defScope s_is_hub, [], []⟩, ⟨("hub", none), "hub", "hub", defArgs s_hub, defBody s_hub, defScope s_hub, [], []⟩, ⟨("need_hub", none), "need_hub", "need_hub", defArgs s_need_hub, defBody s_need_hub, defScope s_need_hub, [], []⟩, ⟨("hub_table", none), "hub_table", "hub_table", defArgs s_hub_table, defBody s_hub_table, defScope s_hub_table, [], []⟩, ⟨("hub_shows", none), "hub_shows", "hub_shows", defArgs s_hub_shows, defBody s_hub_shows, defScope s_hub_shows, [], []⟩, ⟨("_law_tape", none), "_law_tape", "_law_tape", defArgs s__law_tape, defBody s__law_tape, defScope s__law_tape, [], []⟩, ⟨("_law_digit", none), "_law_digit", "_law_digit", defArgs s__law_digit, defBody s__law_digit, defScope s__law_digit, [], []⟩, ⟨("_law_square", none), "_law_square", "_law_square", defArgs s__law_square, defBody s__law_square, defScope s__law_square, [], []⟩, ⟨("_law_mirrored", none), "_law_mirrored", "_law_mirrored", defArgs s__law_mirrored, defBody s__law_mirrored, defScope s__law_mirrored, [], []⟩, ⟨("_law_on_line", none), "_law_on_line", "_law_on_line", defArgs s__law_on_line, defBody s__law_on_line, defScope s__law_on_line, [], []⟩, ⟨("_law_tuples", none), "_law_tuples", "_law_tuples", defArgs s__law_tuples, defBody s__law_tuples, defScope s__law_tuples, [], []⟩, ⟨("_law_flows", none), "_law_flows", "_law_flows", defArgs s__law_flows, defBody s__law_flows, defScope s__law_flows, [], []⟩, ⟨("_law_ways", none), "_law_ways", "_law_ways", defArgs s__law_ways, defBody s__law_ways, defScope s__law_ways, [], []⟩, ⟨("_law_job", none), "_law_job", "_law_job", defArgs s__law_job, defBody s__law_job, defScope s__law_job, [], []⟩, ⟨("_law_laying", none), "_law_laying", "_law_laying", defArgs s__law_laying, defBody s__law_laying, defScope s__law_laying, [], []⟩, ⟨("_law_are_prices", none), "_law_are_prices", "_law_are_prices", defArgs s__law_are_prices, defBody s__law_are_prices, defScope s__law_are_prices, [], []⟩, ⟨("_law_hub", none), "_law_hub", "_law_hub", defArgs s__law_hub, defBody s__law_hub, defScope s__law_hub, [], []⟩, ⟨("_law_hubbed", none), "_law_hubbed", "_law_hubbed", defArgs s__law_hubbed, defBody s__law_hubbed, defScope s__law_hubbed, [], []⟩, ⟨("_law_hub_number", none), "_law_hub_number", "_law_hub_number", defArgs s__law_hub_number, defBody s__law_hub_number, defScope s__law_hub_number, [], []⟩, ⟨("_law_hub_table", none), "_law_hub_table", "_law_hub_table", defArgs s__law_hub_table, defBody s__law_hub_table, defScope s__law_hub_table, [], []⟩, ⟨("_law_hub_shows", none), "_law_hub_shows", "_law_hub_shows", defArgs s__law_hub_shows, defBody s__law_hub_shows, defScope s__law_hub_shows, [], []⟩, ⟨("_law_pair", none), "_law_pair", "_law_pair", defArgs s__law_pair, defBody s__law_pair, defScope s__law_pair, [], []⟩, ⟨("_law_bent_pair", none), "_law_bent_pair", "_law_bent_pair", defArgs s__law_bent_pair, defBody s__law_bent_pair, defScope s__law_bent_pair, [], []⟩, ⟨("_law_bent", none), "_law_bent", "_law_bent", defArgs s__law_bent, defBody s__law_bent, defScope s__law_bent, [], []⟩, ⟨("law", none), "law", "law", defArgs s_law, defBody s_law, defScope s_law, [], []⟩]
def fa : List He.Fa := [.glo "are_prices", .glo "is_hub", .glo "hub", .glo "need_hub", .glo "hub_table", .glo "hub_shows", .glo "_law_tape", .glo "_law_digit", .glo "_law_square", .glo "_law_mirrored", .glo "_law_on_line", .glo "_law_tuples", .glo "_law_flows", .glo "_law_ways", .glo "_law_job", .glo "_law_laying", .glo "_law_are_prices", .glo "_law_hub", .glo "_law_hubbed", .glo "_law_hub_number", .glo "_law_hub_table", .glo "_law_hub_shows", .glo "_law_pair", .glo "_law_bent_pair", .glo "_law_bent", .glo "law", .free "abs", .free "any", .free "bool", .free "enumerate", .free "int", .free "isinstance", .free "len", .free "list", .free "max", .free "min", .free "range", .free "repr", .free "sum", .free "tuple"]
def ls : List (Str × List He.Dv) := []
abbrev Rw : PySem.W.OpenRow := PySem.W.OpenLaw.row PySem.Challenge.rw_spotlay_k31_hub_papers_looked_at
abbrev hk : PySem.W.Hook := hookL 4 fa fn ls
def ob (s : PySem.W.SharedT) : AlL := obsLG 4 fa fn ls (HandSHeadRun.getT s)
theorem ob_eq (s : PySem.W.SharedT) : ob s = hk.obs s.abs := obsLG_eq (HandSHeadRun.getT_eq s)
abbrev loose : List Str := "are_prices" :: "is_hub" :: "hub" :: "need_hub" :: "hub_table" :: "hub_shows" :: "_law_tape" :: "_law_digit" :: "_law_square" :: "_law_mirrored" :: "_law_on_line" :: "_law_tuples" :: "_law_flows" :: "_law_ways" :: "_law_job" :: "_law_laying" :: "_law_are_prices" :: "_law_hub" :: "_law_hubbed" :: "_law_hub_number" :: "_law_hub_table" :: "_law_hub_shows" :: "_law_pair" :: "_law_bent_pair" :: "_law_bent" :: "LayError" :: "NoHub" :: []
theorem run (w : World) : HandSHeadRun.RunEq Rw (PySem.W.view Rw.prog [31]) hk ob 6000 loose w := by
  intro os
  kernel_rfl
theorem facts {K : PySem.W.Frag} {h : Heap} {mg : Str → Option Value} {f : Addr} (X : K.In h) (G : h.Ns mainGlobals mg) (hfa : mg ("law" : Str) = some (.ref f)) (c : He.SaysD fa fn K) (l : ls.all (lstB K) = true) : ∃ L : Facts K mg, L.f_law = f := by
  obtain ⟨d0, F0⟩ := c.def_ 0 (d := ⟨("are_prices", none), "are_prices", "are_prices", defArgs s_are_prices, defBody s_are_prices, defScope s_are_prices, [], []⟩) rfl
  obtain ⟨d1, F1⟩ := c.def_ 1 (d := ⟨("is_hub", none), "is_hub", "is_hub", defArgs s_is_hub, defBody s_is_hub, defScope s_is_hub, [], []⟩) rfl
  obtain ⟨d2, F2⟩ := c.def_ 2 (d := ⟨("hub", none), "hub", "hub", defArgs s_hub, defBody s_hub, defScope s_hub, [], []⟩) rfl
  obtain ⟨d3, F3⟩ := c.def_ 3 (d := ⟨("need_hub", none), "need_hub", "need_hub", defArgs s_need_hub, defBody s_need_hub, defScope s_need_hub, [], []⟩) rfl
  obtain ⟨d4, F4⟩ := c.def_ 4 (d := ⟨("hub_table", none), "hub_table", "hub_table", defArgs s_hub_table, defBody s_hub_table, defScope s_hub_table, [], []⟩) rfl
  obtain ⟨d5, F5⟩ := c.def_ 5 (d := ⟨("hub_shows", none), "hub_shows", "hub_shows", defArgs s_hub_shows, defBody s_hub_shows, defScope s_hub_shows, [], []⟩) rfl
  obtain ⟨d6, F6⟩ := c.def_ 6 (d := ⟨("_law_tape", none), "_law_tape", "_law_tape", defArgs s__law_tape, defBody s__law_tape, defScope s__law_tape, [], []⟩) rfl
  obtain ⟨d7, F7⟩ := c.def_ 7 (d := ⟨("_law_digit", none), "_law_digit", "_law_digit", defArgs s__law_digit, defBody s__law_digit, defScope s__law_digit, [], []⟩) rfl
  obtain ⟨d8, F8⟩ := c.def_ 8 (d := ⟨("_law_square", none), "_law_square", "_law_square", defArgs s__law_square, defBody s__law_square, defScope s__law_square, [], []⟩) rfl
  obtain ⟨d9, F9⟩ := c.def_ 9 (d := ⟨("_law_mirrored", none), "_law_mirrored", "_law_mirrored", defArgs s__law_mirrored, defBody s__law_mirrored, defScope s__law_mirrored, [], []⟩) rfl
  obtain ⟨d10, F10⟩ := c.def_ 10 (d := ⟨("_law_on_line", none), "_law_on_line", "_law_on_line", defArgs s__law_on_line, defBody s__law_on_line, defScope s__law_on_line, [], []⟩) rfl
  obtain ⟨d11, F11⟩ := c.def_ 11 (d := ⟨("_law_tuples", none), "_law_tuples", "_law_tuples", defArgs s__law_tuples, defBody s__law_tuples, defScope s__law_tuples, [], []⟩) rfl
  obtain ⟨d12, F12⟩ := c.def_ 12 (d := ⟨("_law_flows", none), "_law_flows", "_law_flows", defArgs s__law_flows, defBody s__law_flows, defScope s__law_flows, [], []⟩) rfl
  obtain ⟨d13, F13⟩ := c.def_ 13 (d := ⟨("_law_ways", none), "_law_ways", "_law_ways", defArgs s__law_ways, defBody s__law_ways, defScope s__law_ways, [], []⟩) rfl
  obtain ⟨d14, F14⟩ := c.def_ 14 (d := ⟨("_law_job", none), "_law_job", "_law_job", defArgs s__law_job, defBody s__law_job, defScope s__law_job, [], []⟩) rfl
  obtain ⟨d15, F15⟩ := c.def_ 15 (d := ⟨("_law_laying", none), "_law_laying", "_law_laying", defArgs s__law_laying, defBody s__law_laying, defScope s__law_laying, [], []⟩) rfl
  obtain ⟨d16, F16⟩ := c.def_ 16 (d := ⟨("_law_are_prices", none), "_law_are_prices", "_law_are_prices", defArgs s__law_are_prices, defBody s__law_are_prices, defScope s__law_are_prices, [], []⟩) rfl
  obtain ⟨d17, F17⟩ := c.def_ 17 (d := ⟨("_law_hub", none), "_law_hub", "_law_hub", defArgs s__law_hub, defBody s__law_hub, defScope s__law_hub, [], []⟩) rfl
  obtain ⟨d18, F18⟩ := c.def_ 18 (d := ⟨("_law_hubbed", none), "_law_hubbed", "_law_hubbed", defArgs s__law_hubbed, defBody s__law_hubbed, defScope s__law_hubbed, [], []⟩) rfl
  obtain ⟨d19, F19⟩ := c.def_ 19 (d := ⟨("_law_hub_number", none), "_law_hub_number", "_law_hub_number", defArgs s__law_hub_number, defBody s__law_hub_number, defScope s__law_hub_number, [], []⟩) rfl
  obtain ⟨d20, F20⟩ := c.def_ 20 (d := ⟨("_law_hub_table", none), "_law_hub_table", "_law_hub_table", defArgs s__law_hub_table, defBody s__law_hub_table, defScope s__law_hub_table, [], []⟩) rfl
  obtain ⟨d21, F21⟩ := c.def_ 21 (d := ⟨("_law_hub_shows", none), "_law_hub_shows", "_law_hub_shows", defArgs s__law_hub_shows, defBody s__law_hub_shows, defScope s__law_hub_shows, [], []⟩) rfl
  obtain ⟨d22, F22⟩ := c.def_ 22 (d := ⟨("_law_pair", none), "_law_pair", "_law_pair", defArgs s__law_pair, defBody s__law_pair, defScope s__law_pair, [], []⟩) rfl
  obtain ⟨d23, F23⟩ := c.def_ 23 (d := ⟨("_law_bent_pair", none), "_law_bent_pair", "_law_bent_pair", defArgs s__law_bent_pair, defBody s__law_bent_pair, defScope s__law_bent_pair, [], []⟩) rfl
  obtain ⟨d24, F24⟩ := c.def_ 24 (d := ⟨("_law_bent", none), "_law_bent", "_law_bent", defArgs s__law_bent, defBody s__law_bent, defScope s__law_bent, [], []⟩) rfl
  obtain ⟨d25, F25⟩ := c.def_ 25 (d := ⟨("law", none), "law", "law", defArgs s_law, defBody s_law, defScope s_law, [], []⟩) rfl
  have e := hfa.symm.trans (He.glo_ok X G (c.fact 25 (f := .glo "law") rfl))
  cases e
  exact ⟨⟨_, d0, F0, He.glo_ok X G (c.fact 0 (f := .glo "are_prices") rfl), _, d1, F1, He.glo_ok X G (c.fact 1 (f := .glo "is_hub") rfl), _, d2, F2, He.glo_ok X G (c.fact 2 (f := .glo "hub") rfl), _, d3, F3, He.glo_ok X G (c.fact 3 (f := .glo "need_hub") rfl), _, d4, F4, He.glo_ok X G (c.fact 4 (f := .glo "hub_table") rfl), _, d5, F5, He.glo_ok X G (c.fact 5 (f := .glo "hub_shows") rfl), _, d6, F6, He.glo_ok X G (c.fact 6 (f := .glo "_law_tape") rfl), _, d7, F7, He.glo_ok X G (c.fact 7 (f := .glo "_law_digit") rfl), _, d8, F8, He.glo_ok X G (c.fact 8 (f := .glo "_law_square") rfl), _, d9, F9, He.glo_ok X G (c.fact 9 (f := .glo "_law_mirrored") rfl), _, d10, F10, He.glo_ok X G (c.fact 10 (f := .glo "_law_on_line") rfl), _, d11, F11, He.glo_ok X G (c.fact 11 (f := .glo "_law_tuples") rfl), _, d12, F12, He.glo_ok X G (c.fact 12 (f := .glo "_law_flows") rfl), _, d13, F13, He.glo_ok X G (c.fact 13 (f := .glo "_law_ways") rfl), _, d14, F14, He.glo_ok X G (c.fact 14 (f := .glo "_law_job") rfl), _, d15, F15, He.glo_ok X G (c.fact 15 (f := .glo "_law_laying") rfl), _, d16, F16, He.glo_ok X G (c.fact 16 (f := .glo "_law_are_prices") rfl), _, d17, F17, He.glo_ok X G (c.fact 17 (f := .glo "_law_hub") rfl), _, d18, F18, He.glo_ok X G (c.fact 18 (f := .glo "_law_hubbed") rfl), _, d19, F19, He.glo_ok X G (c.fact 19 (f := .glo "_law_hub_number") rfl), _, d20, F20, He.glo_ok X G (c.fact 20 (f := .glo "_law_hub_table") rfl), _, d21, F21, He.glo_ok X G (c.fact 21 (f := .glo "_law_hub_shows") rfl), _, d22, F22, He.glo_ok X G (c.fact 22 (f := .glo "_law_pair") rfl), _, d23, F23, He.glo_ok X G (c.fact 23 (f := .glo "_law_bent_pair") rfl), _, d24, F24, He.glo_ok X G (c.fact 24 (f := .glo "_law_bent") rfl), _, d25, F25, He.glo_ok X G (c.fact 25 (f := .glo "law") rfl), He.free_ok X G (c.fact 26 (f := .free "abs") rfl), He.free_ok X G (c.fact 27 (f := .free "any") rfl), He.free_ok X G (c.fact 28 (f := .free "bool") rfl), He.free_ok X G (c.fact 29 (f := .free "enumerate") rfl), He.free_ok X G (c.fact 30 (f := .free "int") rfl), He.free_ok X G (c.fact 31 (f := .free "isinstance") rfl), He.free_ok X G (c.fact 32 (f := .free "len") rfl), He.free_ok X G (c.fact 33 (f := .free "list") rfl), He.free_ok X G (c.fact 34 (f := .free "max") rfl), He.free_ok X G (c.fact 35 (f := .free "min") rfl), He.free_ok X G (c.fact 36 (f := .free "range") rfl), He.free_ok X G (c.fact 37 (f := .free "repr") rfl), He.free_ok X G (c.fact 38 (f := .free "sum") rfl), He.free_ok X G (c.fact 39 (f := .free "tuple") rfl)⟩, rfl⟩
end K31

/-! k31's own laws -/
namespace K31
open PySem PySem.Spec PyProof.Rows L2 DL DCB
variable {n : Nat} {c : Nat → Nat → Int} {F W C : Nat → Nat → Int} {w p : Nat}
abbrev tbD (n : Nat) (c : Nat → Nat → Int) : D := .tup (tabl n fun i => .tup (tabl n fun j => .int (c i j)))
/-- what both tell of prices -/
def okB (n : Nat) (c : Nat → Nat → Int) (num : Int) (a b : List Int) : Bool :=
  decide (a.length = n) && decide (b.length = n) && ((List.range n).all fun i => (List.range n).all fun j => decide (a.getD i 0 + b.getD j 0 ≤ c i j)) && decide (num ≤ a.sum + b.sum)
theorem ok_len {num : Int} {a b : List Int} (h : a.length ≠ n ∨ b.length ≠ n) : okB n c num a b = false := by
  unfold okB
  rcases h with h | h
  · rw [decide_eq_false h]; rfl
  · rw [decide_eq_false h, Bool.and_false]; rfl
theorem ok_viol {num : Int} {a b : List Int} {i j : Nat} (hi : i < n) (hj : j < n) (h : ¬ a.getD i 0 + b.getD j 0 ≤ c i j) : okB n c num a b = false := by
  unfold okB
  have e : ((List.range n).all fun i => (List.range n).all fun j => decide (a.getD i 0 + b.getD j 0 ≤ c i j)) = false := by
    rw [List.all_eq_false]
    refine ⟨i, List.mem_range.mpr hi, ?_⟩
    intro z
    exact h (of_decide_eq_true (List.all_eq_true.mp z j (List.mem_range.mpr hj)))
  rw [e, Bool.and_false, Bool.false_and]
theorem ok_fin {num : Int} {a b : List Int} (h1 : a.length = n) (h2 : b.length = n) (h : ∀ i j, i < n → j < n → a.getD i 0 + b.getD j 0 ≤ c i j) : okB n c num a b = decide (num ≤ a.sum + b.sum) := by
  unfold okB
  have e : ((List.range n).all fun i => (List.range n).all fun j => decide (a.getD i 0 + b.getD j 0 ≤ c i j)) = true :=
    List.all_eq_true.mpr fun i hi => List.all_eq_true.mpr fun j hj => decide_eq_true (h i j (List.mem_range.mp hi) (List.mem_range.mp hj))
  rw [decide_eq_true h1, decide_eq_true h2, e]; rfl
theorem ints_at {a : List Int} {i : Nat} (h : i < a.length) : L2.atI (a.map D.int) (i : Int) = some (.int (a.getD i 0)) := by
  have e : a.map D.int = tabl a.length fun i => .int (a.getD i 0) := by
    refine List.ext_getElem? fun i => ?_
    by_cases hi : i < a.length
    · rw [tabl_get hi, List.getElem?_map, List.getElem?_eq_getElem hi, List.getD_eq_getElem?_getD, List.getElem?_eq_getElem hi]; rfl
    · rw [List.getElem?_eq_none (by rw [List.length_map]; omega), List.getElem?_eq_none (by rw [tabl_len]; omega)]
  rw [e]
  exact tabl_at h
theorem prices_k {num : Int} {a b : List Int} {Q X} (hn : n ≤ 1000) (h : Q (.fl, .bl (okB n c num a b)) []) : cf_are_prices [(.fl, tbD n c), (.fl, .int num), (.fl, .kst (a.map .int)), (.fl, .kst (b.map .int))] Q X := by
  rw [cf_are_prices_eq]
  refine ifdn (fun z => ?_) fun h1 => ifdn (fun z => ?_) fun h2 => ?_
  · rw [ok_len (.inl fun e => z (by rw [List.length_map, tabl_len, e]))] at h; exact h
  · rw [ok_len (.inr fun e => z (by rw [List.length_map, tabl_len, e]))] at h; exact h
  rw [List.length_map, tabl_len] at h1 h2
  have h1 : a.length = n := Int.ofNat.inj h1
  have h2 : b.length = n := Int.ofNat.inj h2
  refine go_ForEn (fun i ρ => (∀ i' j, i' < i → j < n → a.getD i' 0 + b.getD j 0 ≤ c i' j) ∧ ∃ e f g h, ρ = [some (.fl, tbD n c), some (.fl, .int num), some (.fl, .kst (a.map .int)), some (.fl, .kst (b.map .int)), e, f, g, h]) ⟨fun i' j hi => absurd hi (Nat.not_lt_zero _), none, none, none, none, rfl⟩ (fun i ρ N hi hI hN => ?_) fun ρ hI => ?_
  · obtain ⟨hf, e, f, g, h', rfl⟩ := hI
    refine ⟨rfl, rfl, ?_⟩
    refine go_ForEn (fun j ρ => (∀ j', j' < j → a.getD i 0 + b.getD j' 0 ≤ c i j') ∧ ∃ g h, ρ = [some (.fl, tbD n c), some (.fl, .int num), some (.fl, .kst (a.map .int)), some (.fl, .kst (b.map .int)), some (.fl, .int (i : Nat)), some (.fl, .tup (tabl n fun j => .int (c i j))), g, h]) ⟨fun j hj => absurd hj (Nat.not_lt_zero _), g, h', rfl⟩ (fun j ρ N' hj hI hN' => ?_) fun ρ hI => ?_
    · obtain ⟨hg, g, h', rfl⟩ := hI
      refine ⟨rfl, rfl, go_ix rfl (ints_at (by omega)) (go_ix rfl (ints_at (by omega)) (ifd (fun z => ?_) fun z => hN' _ ⟨fun j' hj' => ?_, _, _, rfl⟩))⟩
      · rw [ok_viol hi hj (by omega)] at h; exact h
      · rcases Nat.lt_or_eq_of_le (Nat.le_of_lt_succ hj') with w | w
        · exact hg j' w
        · subst w; omega
    · obtain ⟨hg, g, h', rfl⟩ := hI
      refine hN _ ⟨fun i' j hi' hj' => ?_, _, _, _, _, rfl⟩
      rcases Nat.lt_or_eq_of_le (Nat.le_of_lt_succ hi') with w | w
      · exact hf i' j w hj'
      · subst w; exact hg j hj'
  · obtain ⟨hf, e, f, g, h', rfl⟩ := hI
    refine ⟨a, rfl, ⟨b, rfl, ?_⟩⟩
    rw [ok_fin h1 h2 hf] at h
    exact h
theorem law_prices_k {num : Int} {a b : List Int} {Q X} (hn : n ≤ 1000) (h : Q (.fl, .bl (okB n c num a b)) []) : cf__law_are_prices [(.fl, tbD n c), (.fl, .int num), (.fl, .kst (a.map .int)), (.fl, .kst (b.map .int))] Q X := by
  rw [cf__law_are_prices_eq]
  have hL : ∀ {f : Nat → D}, ((tabl n f).length : Int) = (n : Nat) := fun {f} => by rw [tabl_len]
  refine ifdn (fun z => ?_) fun h1 => ifdn (fun z => ?_) fun h2 => ?_
  · rw [ok_len (.inl fun e => z (by rw [List.length_map, tabl_len, e]))] at h; exact h
  · rw [ok_len (.inr fun e => z (by rw [List.length_map, tabl_len, e]))] at h; exact h
  rw [List.length_map, tabl_len] at h1 h2
  have h1 : a.length = n := Int.ofNat.inj h1
  have h2 : b.length = n := Int.ofNat.inj h2
  refine go_R1 (n := n) hL (by omega) ?_
  refine go_For0 (fun i ρ => (∀ i' j, i' < i → j < n → a.getD i' 0 + b.getD j 0 ≤ c i' j) ∧ ∃ e f, ρ = [some (.fl, tbD n c), some (.fl, .int num), some (.fl, .kst (a.map .int)), some (.fl, .kst (b.map .int)), e, f]) ⟨fun i' j hi => absurd hi (Nat.not_lt_zero _), none, none, rfl⟩ (fun i ρ N hi hI hN => ?_) fun ρ hI => ?_
  · obtain ⟨hf, e, f, rfl⟩ := hI
    refine go_R1 (n := n) hL (by omega) ?_
    refine go_LcF0 (fun j => decide (¬ a.getD i 0 + b.getD j 0 ≤ c i j)) (fun j => .int (j : Nat)) (by omega) (fun j N' hj g1 g2 => ?_) ?_
    · refine go_ix rfl (ints_at (by omega)) (go_ix rfl (ints_at (by omega)) (go_tab hi (go_tab hj (ifd (fun z => g1 (decide_eq_true (by omega))) fun z => g2 (decide_eq_false (by omega))))))
    · have nl : ∀ {l : List Nat}, (D.lst (l.map fun j : Nat => D.int (j : Nat))).okE → True := fun _ => trivial
      cases hv : ((List.range n).filter fun j => decide (¬ a.getD i 0 + b.getD j 0 ≤ c i j)) with
      | nil =>
        refine ⟨cL_okE (d := .lst []) rfl (by decide), cL_okE (d := .lst []) rfl (by decide), ?_⟩
        refine hN _ ⟨fun i' j hi' hj' => ?_, _, _, rfl⟩
        rcases Nat.lt_or_eq_of_le (Nat.le_of_lt_succ hi') with w | w
        · exact hf i' j w hj'
        · subst w
          have := List.filter_eq_nil_iff.mp hv j (List.mem_range.mpr hj')
          exact Classical.byContradiction fun z => this (decide_eq_true z)
      | cons j l =>
        have hj := List.mem_filter.mp (show j ∈ (List.range n).filter fun j => decide (¬ a.getD i 0 + b.getD j 0 ≤ c i j) by rw [hv]; simp)
        have ok : (D.lst ((j :: l).map fun j : Nat => D.int (j : Nat))).okE := cL_okE (cLs_all fun d hd => by obtain ⟨_, _, rfl⟩ := List.mem_map.mp hd; rfl) (Nat.le_trans (Nat.succ_le_succ (hLs_all (c := 1) fun d hd => by obtain ⟨_, _, rfl⟩ := List.mem_map.mp hd; exact Nat.le_refl _)) (by decide))
        refine ⟨ok, cL_okE (d := .lst []) rfl (by decide), ?_⟩
        rw [ok_viol hi (List.mem_range.mp hj.1) (of_decide_eq_true hj.2)] at h
        exact h
  · obtain ⟨hf, e, f, rfl⟩ := hI
    refine ⟨a, rfl, ⟨b, rfl, ?_⟩⟩
    rw [ok_fin h1 h2 hf] at h
    exact h
/-! hubs -/
def Hub (n : Nat) (F : Nat → Nat → Int) (w : Nat) : Prop := ∀ i j, i < n → j < n → i ≠ w → j ≠ w → F i j = 0
/-- the least hub -/
structure HubL (n : Nat) (F : Nat → Nat → Int) (w : Nat) : Prop where
  lt : w < n
  hub : Hub n F w
  least : ∀ v, v < w → ¬ Hub n F v
theorem HubL.uniq {v : Nat} (h : HubL n F w) (h' : HubL n F v) : w = v := by
  rcases Nat.lt_trichotomy w v with z | z | z
  · exact absurd h.hub (h'.least w z)
  · exact z
  · exact absurd h'.hub (h.least v z)
theorem go_LcEnF {step : KD → (Option KD → Prop) → Prop} {n : Nat} {k : Kd} {g : Nat → D} {P : KD → Prop} (s : Nat → Bool) (f : Nat → D) (hn : n ≤ 10000000)
    (hs : ∀ (i : Nat) (N : Option KD → Prop), i < n → (s i = true → N (some (.fl, f i))) → (s i = false → N none) → step (k.el, .tup [.int i, g i]) N) (h : P (.sh, .lst (((List.range n).filter s).map f))) : kLc step (enumD k (tabl n g)) P := by
  unfold kLc; rw [hid_eq]
  refine ⟨by rw [enumD_len, tabl_len]; exact hn, comp_ind (fun i acc => acc = ((List.range i).filter s).map fun j => (.fl, f j)) rfl (fun i z acc N hz hi hN hN0 => ?_) fun acc h2 => ?_⟩
  · have hi' : i < n := by
      have := (List.getElem?_eq_some_iff.mp hz).1
      rw [enumD_len, tabl_len] at this; exact this
    rw [enumD_tabl hi'] at hz
    cases hz
    rw [List.range_succ, List.filter_append, List.map_append] at hN hN0
    refine hs i N hi' (fun q => hN _ ?_) fun q => hN0 ?_
    · rw [hi, List.filter_cons_of_pos q]; rfl
    · rw [hi, List.filter_cons_of_neg (by rw [q]; decide)]; exact (List.append_nil _).symm
  · rw [enumD_len, tabl_len] at h2
    rw [h2, jL_flm, snd_flm]; exact h
theorem filt_all {n : Nat} {f : Nat → D} : ((List.range n).filter fun _ => true).map f = tabl n f := by
  rw [List.filter_eq_self.mpr fun _ _ => rfl]
theorem go_LcEn {step : KD → (Option KD → Prop) → Prop} {n : Nat} {k : Kd} {g : Nat → D} {P : KD → Prop} (f : Nat → D) (hn : n ≤ 10000000)
    (hs : ∀ (i : Nat) (N : Option KD → Prop), i < n → N (some (.fl, f i)) → step (k.el, .tup [.int i, g i]) N) (h : P (.sh, .lst (tabl n f))) : kLc step (enumD k (tabl n g)) P :=
  go_LcEnF (fun _ => true) f hn (fun i N hi h1 _ => hs i N hi (h1 rfl)) (by rw [filt_all]; exact h)
theorem is_hub_spec {Q X} (hn : n ≤ 8) (hF : Tab n 999 F) (h1 : Hub n F w → Q (.fl, .bl true) []) (h0 : ¬ Hub n F w → Q (.fl, .bl false) []) : cf_is_hub [(.fl, tabD n F), (.fl, .int w)] Q X := by
  rw [cf_is_hub_eq]
  refine go_ForEn (fun i ρ => ∃ a b, (∀ x y, x < i → y < n → x ≠ w → y ≠ w → F x y = 0) ∧ ρ = [some (.fl, tabD n F), some (.fl, .int w), a, b, none, none]) ⟨none, none, fun x y h => absurd h (Nat.not_lt_zero _), rfl⟩ (fun i ρ N hi hI hN => ?_) fun ρ hI => ?_
  · obtain ⟨a, b, hz, rfl⟩ := hI
    refine ⟨rfl, rfl, ifdn (fun c => ?_) fun c => ?_⟩
    · refine go_LcEn (fun j => .bl (decide (0 < F i j) && !decide ((j : Int) = w))) (by omega) (fun j N' hj hN' => ?_) ?_
      · refine ⟨rfl, rfl, ?_⟩
        refine ifd (fun c1 => ?_) fun c1 => ?_
        · rw [decide_eq_true c1, Bool.true_and] at hN'
          exact hN'
        · rw [decide_eq_false c1, Bool.false_and] at hN'
          exact hN'
      · refine ⟨tabl n fun j => decide (0 < F i j) && !decide ((j : Int) = w), by unfold tabl; rw [List.map_map]; rfl, ?_⟩
        refine ifb (fun z => h0 fun hh => ?_) fun z => hN _ ⟨some (.fl, .int i), some (.fl, .tup (tabl n fun j => .int (F i j))), fun x y hx hy e1 e2 => ?_, rfl⟩
        · obtain ⟨b, hb, e⟩ := List.any_eq_true.mp z
          obtain ⟨j, hj, rfl⟩ := List.mem_map.mp hb
          have hj := List.mem_range.mp hj
          have e := Bool.and_eq_true_iff.mp e
          have e1 : 0 < F i j := of_decide_eq_true e.1
          have e2 : ¬ (j : Int) = w := fun q => by rw [q] at e; simp at e
          have := hh i j hi hj (fun q => c (by rw [q])) fun q => e2 (by rw [q])
          omega
        · by_cases e : x = i
          · subst e
            have hf := (hF x y hi hy).1
            have z := List.any_eq_false.mp z _ (List.mem_map.mpr ⟨y, List.mem_range.mpr hy, rfl⟩)
            have : ¬ 0 < F x y := fun q => z (Bool.and_eq_true_iff.mpr ⟨decide_eq_true q, by rw [decide_eq_false fun h : (y : Int) = w => e2 (Int.ofNat.inj h)]; rfl⟩)
            omega
          · exact hz x y (by omega) hy e1 e2
    · refine hN _ ⟨some (.fl, .int i), some (.fl, .tup (tabl n fun j => .int (F i j))), fun x y hx hy e1 e2 => ?_, rfl⟩
      by_cases e : x = i
      · exact absurd (by omega) e1
      · exact hz x y (by omega) hy e1 e2
  · obtain ⟨a, b, hz, rfl⟩ := hI
    exact h1 fun i j hi hj => hz i j hi hj
theorem hub_spec {w0 : Nat} {Q X} (hn : n ≤ 8) (hF : Tab n 999 F) (hw : HubL n F w0) (h : Q (.fl, .int w0) []) : cf_hub [(.fl, jobD n F W C)] Q X := by
  rw [cf_hub_eq]
  refine go_ix rfl rfl (go_R1 (n := n) (congrArg Int.ofNat tabl_len) (by omega) ?_)
  refine go_For0 (fun i ρ => i ≤ w0 ∧ ∃ a, ρ = [some (.fl, jobD n F W C), a]) ⟨Nat.zero_le _, none, rfl⟩ (fun i ρ N hi hI hN => ?_) fun ρ hI => ?_
  · obtain ⟨hi0, a, rfl⟩ := hI
    refine go_ix rfl rfl (is_hub_spec hn hF (fun hh => ?_) fun hh => ?_)
    · have e : i = w0 := by
        rcases Nat.lt_or_eq_of_le hi0 with z | z
        · exact absurd hh (hw.least i z)
        · exact z
      subst e
      exact h
    · refine hN _ ⟨?_, some (.fl, .int i), rfl⟩
      rcases Nat.lt_or_eq_of_le hi0 with z | z
      · exact z
      · exact absurd (by rw [z]; exact hw.hub) hh
  · obtain ⟨hi0, a, rfl⟩ := hI
    have := hw.lt
    omega
theorem need_hub_spec {w0 : Nat} {Q X} (hn : n ≤ 8) (hF : Tab n 999 F) (hw : HubL n F w0) (h : Q (.fl, .int w0) []) : cf_need_hub [(.fl, jobD n F W C)] Q X := by
  rw [cf_need_hub_eq]
  exact hub_spec hn hF hw ⟨rfl, h⟩
theorem sum0 {f : Nat → Int} : ∀ n, (∀ j, j < n → 0 ≤ f j) → 0 ≤ sumR n f ∧ (sumR n f = 0 ↔ ∀ j, j < n → f j = 0)
  | 0, _ => ⟨Int.le_refl _, fun _ j h => absurd h (Nat.not_lt_zero _), fun _ => rfl⟩
  | n + 1, h => by
    obtain ⟨a, b⟩ := sum0 n fun j hj => h j (by omega)
    have hn := h n (by omega)
    rw [sumR_succ]
    refine ⟨by omega, fun z j hj => ?_, fun z => ?_⟩
    · by_cases e : j = n
      · subst e; omega
      · exact b.mp (by omega) j (by omega)
    · rw [b.mpr fun j hj => z j (by omega), z n (by omega)]; rfl
theorem law_hub_spec {w0 : Nat} {Q X} (hn : n ≤ 8) (hF : Tab n 999 F) (hw : HubL n F w0) (h : Q (.fl, .int w0) []) : cf__law_hub [(.fl, tabD n F)] Q X := by
  rw [cf__law_hub_eq]
  refine go_R1 (n := n) (congrArg Int.ofNat tabl_len) (by omega) ?_
  refine go_For0 (fun i ρ => i ≤ w0 ∧ ∃ a b c d, ρ = [some (.fl, tabD n F), a, b, c, d, none, none]) ⟨Nat.zero_le _, none, none, none, none, rfl⟩ (fun i ρ N hi hI hN => ?_) fun ρ hI => ?_
  · obtain ⟨hi0, a, b, c, d, rfl⟩ := hI
    refine go_R1 (n := n) (congrArg Int.ofNat tabl_len) (by omega) ?_
    refine go_For0 (fun k ρ => ∃ (s : Int) (c d : Sl), 0 ≤ s ∧ (s = 0 ↔ ∀ x y, x < k → y < n → x ≠ i → y ≠ i → F x y = 0) ∧ ρ = [some (.fl, tabD n F), some (.fl, .int i), some (.fl, .int s), c, d, none, none]) ⟨0, c, d, Int.le_refl _, ⟨fun _ x y h => absurd h (Nat.not_lt_zero _), fun _ => rfl⟩, rfl⟩ (fun k ρ N2 hk hI hN2 => ?_) fun ρ hI => ?_
    · obtain ⟨s, c, d, hs0, hs, rfl⟩ := hI
      refine ifdn (fun q => ?_) fun q => ?_
      · refine go_tab hk ?_
        refine go_LcEnF (fun j => !decide ((j : Int) = i)) (fun j => .int (F k j)) (by omega) (fun j N' hj h1 h0 => ?_) ?_
        · refine ⟨rfl, rfl, ?_⟩
          exact ifb (fun z => h1 z) fun z => h0 z
        refine ⟨((List.range n).filter fun j : Nat => !decide ((j : Int) = i)).map (F k), by rw [List.map_map]; rfl, ?_⟩
        obtain ⟨p0, p1⟩ := sum0 (f := fun j => if (!decide ((j : Int) = i)) = true then F k j else 0) n fun j hj => by
          show 0 ≤ if (!decide ((j : Int) = i)) = true then F k j else 0
          split
          · exact (hF k j hk hj).1
          · exact Int.le_refl _
        refine hN2 _ ⟨s + (((List.range n).filter fun j : Nat => !decide ((j : Int) = i)).map (F k)).sum, some (.fl, .int k), _, ?_, ?_, rfl⟩
        · rw [filter_sum]; omega
        · rw [filter_sum]
          constructor
          · intro z x y hx hy e1 e2
            have z1 : s = 0 := by omega
            have z2 := p1.mp (by omega)
            by_cases e : x = k
            · subst e
              have := z2 y hy
              rwa [if_pos (by rw [decide_eq_false fun h : (y : Int) = i => e2 (Int.ofNat.inj h)]; rfl)] at this
            · exact hs.mp z1 x y (by omega) hy e1 e2
          · intro z
            have z1 : s = 0 := hs.mpr fun x y hx hy e1 e2 => z x y (by omega) hy e1 e2
            have z2 := p1.mpr fun j hj => by
              by_cases e : j = i
              · rw [if_neg (by rw [decide_eq_true (by rw [e])]; decide)]
              · rw [if_pos (by rw [decide_eq_false fun h : (j : Int) = i => e (Int.ofNat.inj h)]; rfl)]
                exact z k j (by omega) hj (fun h => q (by rw [h])) e
            omega
      · refine hN2 _ ⟨s, some (.fl, .int k), d, hs0, hs.trans ⟨fun z x y hx hy e1 e2 => ?_, fun z x y hx hy e1 e2 => z x y (by omega) hy e1 e2⟩, rfl⟩
        by_cases e : x = k
        · exact absurd (by omega) e1
        · exact z x y (by omega) hy e1 e2
    · obtain ⟨s, c, d, hs0, hs, rfl⟩ := hI
      refine ifd (fun z => ?_) fun z => ?_
      · have hh : Hub n F i := fun x y hx hy e1 e2 => hs.mp z x y hx hy e1 e2
        have e : i = w0 := by
          rcases Nat.lt_or_eq_of_le hi0 with z | z
          · exact absurd hh (hw.least i z)
          · exact z
        subst e
        exact h
      · refine hN _ ⟨?_, some (.fl, .int i), _, _, _, rfl⟩
        rcases Nat.lt_or_eq_of_le hi0 with z2 | z2
        · exact z2
        · exact absurd (hs.mpr fun x y hx hy e1 e2 => hw.hub x y hx hy (by rw [← z2]; exact e1) (by rw [← z2]; exact e2)) z
  · obtain ⟨hi0, a, b, c, d, rfl⟩ := hI
    have := hw.lt
    omega
/-! tables -/
def oth (n w : Nat) : List Nat := (List.range n).filter fun i : Nat => !decide ((i : Int) = w)
def hV (F W C : Nat → Nat → Int) (w p i j : Nat) : Int := C i j + (F i w * W j p + F w i * W p j)
def rowH (n : Nat) (F W C : Nat → Nat → Int) (w p i : Nat) : D := .tup ((oth n p).map fun j => .int (hV F W C w p i j))
def tabH (n : Nat) (F W C : Nat → Nat → Int) (w p : Nat) : D := .tup ((oth n w).map (rowH n F W C w p))
theorem mem_oth {i : Nat} : i ∈ oth n w ↔ i < n ∧ i ≠ w := by
  unfold oth
  rw [List.mem_filter, List.mem_range]
  refine and_congr_right fun _ => ⟨fun z e => ?_, fun z => ?_⟩
  · rw [decide_eq_true (show (i : Int) = w by rw [e])] at z; cases z
  · rw [decide_eq_false fun e : (i : Int) = w => z (Int.ofNat.inj e)]; rfl
theorem oth_succ {i : Nat} : oth (i + 1) w = if i = w then oth i w else oth i w ++ [i] := by
  unfold oth
  rw [List.range_succ, List.filter_append]
  by_cases e : i = w
  · rw [if_pos e, List.filter_cons_of_neg (by rw [decide_eq_true (show (i : Int) = w by rw [e])]; decide)]; simp
  · rw [if_neg e, List.filter_cons_of_pos (by rw [decide_eq_false fun h : (i : Int) = w => e (Int.ofNat.inj h)]; rfl)]; rfl
theorem oth_len : (oth n w).length ≤ n := Nat.le_trans (List.length_filter_le _ _) (by rw [List.length_range]; exact Nat.le_refl _)
theorem hub_table_spec {Q X} (hn : n ≤ 8) (hw : w < n) (hp : p < n) (hF : Tab n 999 F) (h : Q (.fl, tabH n F W C w p) []) : cf_hub_table [(.fl, jobD n F W C), (.fl, .int w), (.fl, .int p)] Q X := by
  rw [cf_hub_table_eq]
  refine ⟨rfl, rfl, ?_⟩
  refine go_R1 (n := n) (congrArg Int.ofNat tabl_len) (by omega) ?_
  refine go_For0 (fun i ρ => ∃ (a b c d : Sl), ρ = [some (.fl, jobD n F W C), some (.fl, .int w), some (.fl, .int p), some (.fl, tabD n F), some (.fl, tabD n W), some (.fl, tabD n C), some (.sh, .lst ((oth i w).map (rowH n F W C w p))), a, b, c, d]) ⟨none, none, none, none, rfl⟩ (fun i ρ N hi hI hN => ?_) fun ρ hI => ?_
  · obtain ⟨a, b, c, d, rfl⟩ := hI
    have hol := oth_len (n := i) (w := w)
    refine ifdn (fun q => ?_) fun q => ?_
    · refine go_R1 (n := n) (congrArg Int.ofNat tabl_len) (by omega) ?_
      refine go_For0 (fun j ρ => ∃ (c d : Sl), ρ = [some (.fl, jobD n F W C), some (.fl, .int w), some (.fl, .int p), some (.fl, tabD n F), some (.fl, tabD n W), some (.fl, tabD n C), some (.sh, .lst ((oth i w).map (rowH n F W C w p))), some (.fl, .int i), some (.sh, .lst ((oth j p).map fun j => .int (hV F W C w p i j))), c, d]) ⟨c, d, rfl⟩ (fun j ρ N2 hj hI hN2 => ?_) fun ρ hI => ?_
      · obtain ⟨c, d, rfl⟩ := hI
        have hol2 := oth_len (n := j) (w := p)
        refine ifdn (fun q2 => ?_) fun q2 => ?_
        · refine go_tab hi (go_tab hw (go_tab hj (go_tab hp ⟨mul999 (by have := hF i w hi hw; omega), ?_⟩)))
          refine go_tab hw (go_tab hi (go_tab hp (go_tab hj ⟨mul999 (by have := hF w i hw hi; omega), ?_⟩)))
          refine ⟨trivial, go_tab hi (go_tab hj ?_)⟩
          refine ⟨rfl, by rw [List.length_map]; omega, hN2 _ ⟨some (.fl, .int j), some (.fl, .int (F i w * W j p + F w i * W p j)), ?_⟩⟩
          rw [oth_succ, if_neg fun e => q2 (by rw [e]), List.map_append]; rfl
        · refine hN2 _ ⟨some (.fl, .int j), d, ?_⟩
          rw [oth_succ, if_pos (Int.ofNat.inj q2)]; rfl
      · obtain ⟨c, d, rfl⟩ := hI
        refine ⟨trivial, rfl, by rw [List.length_map]; omega, hN _ ⟨some (.fl, .int i), some (.sh, .lst ((oth n p).map fun j => .int (hV F W C w p i j))), c, d, ?_⟩⟩
        rw [oth_succ, if_neg fun e => q (by rw [e]), List.map_append]; rfl
    · refine hN _ ⟨some (.fl, .int i), b, c, d, ?_⟩
      rw [oth_succ, if_pos (Int.ofNat.inj q)]; rfl
  · obtain ⟨a, b, c, d, rfl⟩ := hI
    exact h
theorem law_number_spec {i j : Nat} {Q X} (hi : i < n) (hj : j < n) (hw : w < n) (hp : p < n) (hF : Tab n 999 F) (h : Q (.fl, .int (hV F W C w p i j)) []) : cf__law_hub_number [(.fl, jobD n F W C), (.fl, .int w), (.fl, .int p), (.fl, .int i), (.fl, .int j)] Q X := by
  rw [cf__law_hub_number_eq]
  refine go_ix rfl rfl (go_tab hi (go_tab hw (go_ix rfl rfl (go_tab hj (go_tab hp ⟨mul999 (by have := hF i w hi hw; omega), ?_⟩)))))
  refine go_ix rfl rfl (go_tab hw (go_tab hi (go_ix rfl rfl (go_tab hp (go_tab hj ⟨mul999 (by have := hF w i hw hi; omega), ?_⟩)))))
  refine go_ix rfl rfl (go_tab hi (go_tab hj ?_))
  have e : hV F W C w p i j = C i j + F i w * W j p + F w i * W p j := by unfold hV; omega
  rw [e] at h
  exact h
theorem law_table_spec {Q X} (hn : n ≤ 8) (hw : w < n) (hp : p < n) (hF : Tab n 999 F) (h : Q (.fl, tabH n F W C w p) []) : cf__law_hub_table [(.fl, jobD n F W C), (.fl, .int w), (.fl, .int p)] Q X := by
  rw [cf__law_hub_table_eq]
  refine go_ix rfl rfl (go_R1 (n := n) (congrArg Int.ofNat tabl_len) (by omega) ?_)
  refine go_For0 (fun i ρ => ∃ (a b c : Sl), ρ = [some (.fl, jobD n F W C), some (.fl, .int w), some (.fl, .int p), some (.fl, .int ((tabl n fun i => D.tup (tabl n fun j => .int (F i j))).length : Nat)), some (.sh, .lst ((oth i w).map (rowH n F W C w p))), a, b, c, none]) ⟨none, none, none, rfl⟩ (fun i ρ N hi hI hN => ?_) fun ρ hI => ?_
  · obtain ⟨a, b, c, rfl⟩ := hI
    have hol := oth_len (n := i) (w := w)
    have hol2 := oth_len (n := n) (w := p)
    refine ifdn (fun q => ?_) fun q => ?_
    · refine go_R1 (n := n) (congrArg Int.ofNat tabl_len) (by omega) ?_
      refine go_LcF0 (fun j => !decide ((j : Int) = p)) (fun j => .int j) (by omega) (fun j N' hj h1 h0 => ifb (fun z => h1 z) fun z => h0 z) ?_
      refine go_LcL (L := oth n p) (G := fun j : Nat => .int j) (fun j => .int (hV F W C w p i j)) (by omega) (fun k j N' hj hN' => law_number_spec hi (mem_oth.mp (List.mem_of_getElem? hj)).1 hw hp hF hN') ?_
      refine ⟨trivial, rfl, by rw [List.length_map]; omega, hN _ ⟨some (.fl, .int i), some (.sh, .lst ((oth n p).map fun j : Nat => .int j)), some (.sh, .lst ((oth n p).map fun j => .int (hV F W C w p i j))), ?_⟩⟩
      rw [oth_succ, if_neg fun e => q (by rw [e]), List.map_append]; rfl
    · refine hN _ ⟨some (.fl, .int i), b, c, ?_⟩
      rw [oth_succ, if_pos (Int.ofNat.inj q)]; rfl
  · obtain ⟨a, b, c, rfl⟩ := hI
    exact h
/-! what is shown -/
theorem list_tab {α β : Type} {f : α → β} (d : α) (L : List α) : L.map f = tabl L.length fun i => f (L.getD i d) := by
  refine List.ext_getElem? fun i => ?_
  by_cases hi : i < L.length
  · rw [tabl_get hi, List.getElem?_map, List.getElem?_eq_getElem hi, List.getD_eq_getElem?_getD, List.getElem?_eq_getElem hi]; rfl
  · rw [List.getElem?_eq_none (by rw [List.length_map]; omega), List.getElem?_eq_none (by rw [tabl_len]; omega)]
theorem oth_all : ∀ n, n ≤ w → (oth n w).length = n
  | 0, _ => rfl
  | n + 1, h => by rw [oth_succ, if_neg (by omega), List.length_append, oth_all n (by omega)]; rfl
theorem oth_card : ∀ n, w < n → (oth n w).length = n - 1
  | 0, h => absurd h (Nat.not_lt_zero _)
  | n + 1, h => by
    rw [oth_succ]
    by_cases e : n = w
    · rw [if_pos e, oth_all n (by omega)]; rfl
    · rw [if_neg e, List.length_append, oth_card n (by omega)]
      show n - 1 + 1 = n + 1 - 1
      omega
def cH (n : Nat) (F W C : Nat → Nat → Int) (w p i j : Nat) : Int := hV F W C w p ((oth n w).getD i 0) ((oth n p).getD j 0)
theorem tabH_eq (hw : w < n) (hp : p < n) : tabH n F W C w p = tbD (n - 1) (cH n F W C w p) := by
  unfold tabH
  rw [list_tab 0, oth_card n hw]
  refine congrArg D.tup (tabl_congr fun i hi => ?_)
  unfold rowH
  rw [list_tab 0, oth_card n hp]; rfl
abbrev pr (x : List Int × List Int) : D := .tup [.kst (x.1.map .int), .kst (x.2.map .int)]
def okP (n : Nat) (F W C : Nat → Nat → Int) (w : Nat) (num : Int) (ps : List (List Int × List Int)) (k : Nat) : Bool := okB (n - 1) (cH n F W C w k) (num - C w k) (ps.getD k ([], [])).1 (ps.getD k ([], [])).2
def showB (n : Nat) (F W C : Nat → Nat → Int) (w : Nat) (num : Int) (ps : List (List Int × List Int)) : Bool := decide (ps.length = n) && (List.range n).all (okP n F W C w num ps)
theorem show_len {num : Int} {ps : List (List Int × List Int)} (h : ps.length ≠ n) : showB n F W C w num ps = false := by
  unfold showB; rw [decide_eq_false h]; rfl
theorem show_viol {num : Int} {ps : List (List Int × List Int)} {k : Nat} (hk : k < n) (h : okP n F W C w num ps k = false) : showB n F W C w num ps = false := by
  unfold showB
  rw [show (List.range n).all (okP n F W C w num ps) = false from List.all_eq_false.mpr ⟨k, List.mem_range.mpr hk, by rw [h]; decide⟩, Bool.and_false]
theorem show_fin {num : Int} {ps : List (List Int × List Int)} (h1 : ps.length = n) (h : ∀ k, k < n → okP n F W C w num ps k = true) : showB n F W C w num ps = true := by
  unfold showB
  rw [decide_eq_true h1, show (List.range n).all (okP n F W C w num ps) = true from List.all_eq_true.mpr fun k hk => h k (List.mem_range.mp hk)]; rfl
theorem for_cast {g : GF} {b : SF} {D : DEnds} {zs zs' : List KD} {ρ : Ro} (e : zs = zs') (h : kFor g b D zs' ρ) : kFor g b D zs ρ := e ▸ h
theorem shows_spec {num : Int} {ps : List (List Int × List Int)} {Q X} (hn : n ≤ 8) (hF : Tab n 999 F) (hw : HubL n F w) (h : Q (.fl, .bl (showB n F W C w num ps)) []) : cf_hub_shows [(.fl, jobD n F W C), (.fl, .int num), (.fl, .kst (ps.map pr))] Q X := by
  rw [cf_hub_shows_eq]
  refine need_hub_spec hn hF hw ?_
  refine go_ix rfl rfl (ifdn (fun c => ?_) fun c => ?_)
  · rw [show_len fun e => c (by rw [List.length_map, tabl_len, e])] at h; exact h
  have hl : ps.length = n := by
    rw [List.length_map, tabl_len] at c
    omega
  refine for_cast (congrArg (enumD _) ((list_tab ([], []) ps).trans (by rw [hl]))) (go_ForEn (fun k ρ => (∀ a, a < k → okP n F W C w num ps a = true) ∧ ∃ (a b c : Sl), ρ = [some (.fl, jobD n F W C), some (.fl, .int num), some (.fl, .kst (ps.map pr)), some (.fl, .int w), a, b, c]) ⟨fun a h => absurd h (Nat.not_lt_zero _), none, none, none, rfl⟩ (fun k ρ N hk hI hN => ?_) fun ρ hI => ?_)
  · obtain ⟨ha, a, b, c, rfl⟩ := hI
    refine ⟨rfl, rfl, rfl, rfl, ?_⟩
    refine hub_table_spec hn hw.lt hk hF ?_
    rw [tabH_eq hw.lt hk]
    refine go_ix rfl rfl (go_tab hw.lt (go_tab hk ?_))
    refine prices_k (by omega) ?_
    have e0 : okP n F W C w num ps k = okB (n - 1) (cH n F W C w k) (num - C w k) (ps.getD k ([], [])).1 (ps.getD k ([], [])).2 := rfl
    rw [← e0]
    cases e : okP n F W C w num ps k with
    | false => rw [show_viol hk e] at h; exact h
    | true =>
      refine hN _ ⟨fun x hx => ?_, _, _, _, rfl⟩
      by_cases z : x = k
      · rw [z]; exact e
      · exact ha x (by omega)
  · obtain ⟨ha, a, b, c, rfl⟩ := hI
    rw [show_fin hl ha] at h
    exact h
theorem law_shows_spec {num : Int} {ps : List (List Int × List Int)} {Q X} (hn : n ≤ 8) (hF : Tab n 999 F) (hw : HubL n F w) (h : Q (.fl, .bl (showB n F W C w num ps)) []) : cf__law_hub_shows [(.fl, jobD n F W C), (.fl, .int num), (.fl, .kst (ps.map pr))] Q X := by
  rw [cf__law_hub_shows_eq]
  refine go_ix rfl rfl (law_hub_spec hn hF hw ?_)
  refine go_ix rfl rfl (ifdn (fun c => ?_) fun c => ?_)
  · rw [show_len fun e => c (by rw [List.length_map, tabl_len, e])] at h; exact h
  have hl : ps.length = n := by
    rw [List.length_map, tabl_len] at c
    omega
  refine for_cast (congrArg (enumD _) ((list_tab ([], []) ps).trans (by rw [hl]))) (go_ForEn (fun k ρ => (∀ a, a < k → okP n F W C w num ps a = true) ∧ ∃ (a b c d : Sl), ρ = [some (.fl, jobD n F W C), some (.fl, .int num), some (.fl, .kst (ps.map pr)), some (.fl, .int w), a, b, c, d]) ⟨fun a h => absurd h (Nat.not_lt_zero _), none, none, none, none, rfl⟩ (fun k ρ N hk hI hN => ?_) fun ρ hI => ?_)
  · obtain ⟨ha, a, b, c, d, rfl⟩ := hI
    refine ⟨rfl, rfl, ?_⟩
    refine law_table_spec hn hw.lt hk hF ?_
    rw [tabH_eq hw.lt hk]
    refine go_ix rfl rfl (go_tab hw.lt (go_tab hk ?_))
    refine go_ix rfl rfl (go_ix rfl rfl ?_)
    refine law_prices_k (by omega) ?_
    have e0 : okP n F W C w num ps k = okB (n - 1) (cH n F W C w k) (num - C w k) (ps.getD k ([], [])).1 (ps.getD k ([], [])).2 := rfl
    rw [← e0]
    cases e : okP n F W C w num ps k with
    | false => rw [show_viol hk e] at h; exact h
    | true =>
      refine hN _ ⟨fun x hx => ?_, _, _, _, _, rfl⟩
      by_cases z : x = k
      · rw [z]; exact e
      · exact ha x (by omega)
  · obtain ⟨ha, a, b, c, d, rfl⟩ := hI
    rw [show_fin hl ha] at h
    exact h
/-! the law's jobs and papers -/
def hbF (F : Nat → Nat → Int) (w i j : Nat) : Int := F i j * if inD (.int (w : Nat)) [.int (i : Nat), .int (j : Nat)] = true then 1 else 0
theorem hb_not {i j : Nat} (h1 : i ≠ w) (h2 : j ≠ w) : inD (.int (w : Nat)) [.int (i : Nat), .int (j : Nat)] = false := by
  unfold inD
  rw [List.any_eq_false]
  intro d hd
  rcases List.mem_cons.mp hd with rfl | hd
  · show ¬ eqD1 (.int (i : Nat)) (.int (w : Nat)) = true
    simp [eqD1]; omega
  · rw [List.mem_singleton.mp hd]
    show ¬ eqD1 (.int (j : Nat)) (.int (w : Nat)) = true
    simp [eqD1]; omega
theorem hb_hub : Hub n (hbF F w) w := fun i j hi hj e1 e2 => by
  unfold hbF
  rw [hb_not e1 e2, if_neg (by decide), Int.mul_zero]
theorem hb_tab (hF : Tab n 999 F) : Tab n 999 (hbF F w) := fun i j hi hj => by
  have := hF i j hi hj
  unfold hbF
  split
  · rw [Int.mul_one]; exact this
  · rw [Int.mul_zero]; omega
theorem hub_ex : ∀ w, w < n → Hub n F w → ∃ v, HubL n F v := fun w => by
  induction w using Nat.strongRecOn with
  | ind w ih =>
    intro hw hh
    by_cases e : ∃ v, v < w ∧ Hub n F v
    · obtain ⟨v, h1, h2⟩ := e
      exact ih v h1 (by omega) h2
    · exact ⟨w, hw, hh, fun v hv hv2 => e ⟨v, hv, hv2⟩⟩
theorem hubbed_spec {d : D} {Q X} (hn1 : 1 ≤ n) (hn : n ≤ 8) (hd : Tape d) (hF : Tab n 999 F) (h : ∀ F' v d, Tab n 999 F' → HubL n F' v → Tape d → Q (.fl, jobD n F' W C) [(.sh, d)]) : cf__law_hubbed [(.sh, d), (.fl, jobD n F W C)] Q X := by
  rw [cf__law_hubbed_eq]
  refine ⟨⟨_, rfl⟩, go_ix rfl rfl ?_⟩
  show DCB.cf__law_digit [(.sh, d), (.fl, .int ((tabl n fun i => D.tup (tabl n fun j => .int (F i j))).length : Nat))] _ _
  rw [tabl_len]
  refine digit_spec hd (by omega) (by omega) fun w d hw hd => ?_
  have hw : w < n := by omega
  refine go_ix rfl rfl ?_
  refine go_ForEn (fun i ρ => ∃ (a b : Sl), ρ = [some (.sh, d), some (.fl, jobD n F W C), some (.fl, .int w), some (kO i, .lst (rowsL i n (hbF F w))), a, b, none, none]) ⟨none, none, rfl⟩ (fun i ρ N hi hI hN => ?_) fun ρ hI => ?_
  · obtain ⟨a, b, rfl⟩ := hI
    refine ⟨rfl, rfl, ?_⟩
    have hlen : (rowsL i n (hbF F w)).length = i := tabl_len
    have kk : kO i = .sh ∨ kO i = .ow := kO_cases i
    have fin : N [some (.sh, d), some (.fl, jobD n F W C), some (.fl, .int w), some (.ow, .lst (rowsL i n (hbF F w) ++ [.lst (tabl n fun j => .int (hbF F w i j))])), some (.fl, .int i), some (.fl, .tup (tabl n fun j => .int (F i j))), none, none] := hN _ ⟨some (.fl, .int i), some (.fl, .tup (tabl n fun j => .int (F i j))), by rw [← tabl_succ]; rfl⟩
    generalize kO i = kq at kk ⊢
    rcases kk with rfl | rfl
    all_goals
      refine ⟨trivial, go_LcEn (fun j => .int (hbF F w i j)) (by omega) (fun j N' hj hN' => ?_) ?_⟩
      · refine ⟨rfl, rfl, rfl, rfl, ⟨mul999 (by have := hF i j hi hj; omega), ?_⟩⟩
        exact hN'
      refine ⟨rfl, by rw [tabl_len]; omega, ?_⟩
      exact fin
  · obtain ⟨a, b, rfl⟩ := hI
    rw [kO_ow hn1]
    refine tuples_spec (by omega) ?_
    refine go_ix rfl rfl (go_ix rfl rfl ?_)
    obtain ⟨v, hv⟩ := hub_ex w hw (hb_hub (n := n) (F := F) (w := w))
    exact h _ v d (hb_tab hF) hv hd
--CUT
def mn (ns : List Int) : Int := ns.min?.getD 0
theorem mn_eq {ns : List Int} {m : Int} (h1 : m ∈ ns) (h2 : ∀ y ∈ ns, m ≤ y) : mn ns = m := by
  unfold mn
  rw [List.min?_eq_some_iff.mpr ⟨h1, h2⟩]; rfl
theorem ints_tabl {s : Nat → Int} : (tabl n s).map D.int = tabl n fun i => D.int (s i) := by unfold tabl; rw [List.map_map]; rfl
theorem ints_imm {s : Nat → Int} : D.imms (tabl n fun i => D.int (s i)) = true := DL.imms_all fun d hd => by obtain ⟨i, _, rfl⟩ := List.mem_map.mp hd; rfl
theorem mem_tabl {f : Nat → Int} {m : Int} (h : m ∈ tabl n f) : ∃ a, a < n ∧ f a = m := by
  obtain ⟨a, ha, e⟩ := List.mem_map.mp h
  exact ⟨a, List.mem_range.mp ha, e⟩
def Bd (n : Nat) (b : Int) (f : Nat → Int) : Prop := ∀ i, i < n → -b ≤ f i ∧ f i ≤ b
theorem pair_spec {m : Nat} {d : D} {Q X} (hm : m ≤ 8) (hd : Tape d) (hc : ∀ i j, i < m → j < m → 0 ≤ c i j ∧ c i j ≤ 3000000) (h : ∀ l r d, Bd m 10000000 l → Bd m 10000000 r → Tape d → Q (.fl, pr (tabl m l, tabl m r)) [(.sh, d)]) : cf__law_pair [(.sh, d), (.fl, tbD m c)] Q X := by
  rw [cf__law_pair_eq]
  have hL : ∀ {f : Nat → D}, ((tabl m f).length : Int) = (m : Nat) := fun {f} => by rw [tabl_len]
  refine go_LcET D.int (fun _ ρ => ∃ d, Tape d ∧ ρ = [some (.sh, d), some (.fl, tbD m c), none, none, none, none]) (fun _ x => -3 ≤ x ∧ x ≤ 0) (by omega) ⟨d, hd, rfl⟩ (fun i ρ N hi hI hN => ?_) fun r ρ hr hI => ?_
  · obtain ⟨d, hd, rfl⟩ := hI
    exact ⟨⟨_, rfl⟩, digit_spec hd (by omega) (by omega) fun x d hx hd => hN (0 - (x : Int)) _ ⟨by omega, by omega⟩ ⟨d, hd, rfl⟩⟩
  obtain ⟨d, hd, rfl⟩ := hI
  obtain ⟨l, hl0⟩ : ∃ l : Nat → Int, ∀ i, l i = mn (tabl m fun j => c i j - r j) := ⟨_, fun _ => rfl⟩
  have hl : Bd m 5000000 l := fun i hi => by
    rw [hl0]
    obtain ⟨x, hx⟩ : ∃ x, (tabl m fun j => c i j - r j).min? = some x := by
      cases e : (tabl m fun j => c i j - r j).min? with
      | some x => exact ⟨x, rfl⟩
      | none =>
        have := List.min?_eq_none_iff.mp e
        have := congrArg List.length this
        rw [tabl_len] at this
        have : m = 0 := this
        omega
    obtain ⟨h1, _⟩ := List.min?_eq_some_iff.mp hx
    obtain ⟨j, hj, e⟩ := mem_tabl h1
    show -5000000 ≤ mn _ ∧ mn _ ≤ 5000000
    unfold mn
    rw [hx]
    show -5000000 ≤ x ∧ x ≤ 5000000
    have := hc i j hi hj
    have := hr j hj
    omega
  refine go_LcT (fun i => .int (l i)) (by omega) (fun i N hi hN => ?_) ?_
  · refine go_R1 (n := m) hL (by omega) ?_
    refine go_Lc0 (fun j => .int (c i j - r j)) (by omega) (fun j N' hj hN' => go_tab hj (go_tabl hj hN')) ?_
    refine ⟨tabl m fun j => c i j - r j, ints_tabl.symm, by rw [tabl_len]; omega, fun x h1 h2 => ?_⟩
    rw [hl0, mn_eq h1 h2] at hN
    exact hN
  refine go_R1 (n := m) hL (by omega) ?_
  refine go_For0 (fun k ρ => ∃ (r : Nat → Int) (a : Sl), Bd m 10000000 r ∧ ρ = [some (.sh, d), some (.fl, tbD m c), some (.sh, .lst (tabl m fun i => .int (r i))), some (.sh, .lst (tabl m fun i => .int (l i))), a, none]) ⟨r, none, fun i hi => by have := hr i hi; omega, rfl⟩ (fun k ρ N hk hI hN => ?_) fun ρ hI => ?_
  · obtain ⟨r, a, hr, rfl⟩ := hI
    refine go_R1 (n := m) hL (by omega) ?_
    refine go_Lc0 (fun i => .int (c i k - l i)) (by omega) (fun i N' hi hN' => go_tab hi (go_tab hk (go_tabl hi hN'))) ?_
    refine ⟨tabl m fun i => c i k - l i, ints_tabl.symm, by rw [tabl_len]; omega, fun x h1 h2 => ?_⟩
    obtain ⟨i, hi, e⟩ := mem_tabl h1
    refine go_stT rfl hk (hN _ ⟨fun j => if j = k then x else r j, some (.fl, .int k), fun j hj => ?_, ?_⟩)
    · show -10000000 ≤ (if j = k then x else r j) ∧ (if j = k then x else r j) ≤ 10000000
      by_cases z : j = k
      · rw [if_pos z]
        have := hc i k hi hk
        have := hl i hi
        omega
      · rw [if_neg z]; exact hr j hj
    · have e2 : (tabl m fun j => if j = k then D.int x else D.int (r j)) = tabl m fun j => D.int (if j = k then x else r j) := tabl_congr fun j _ => by
        by_cases z : j = k
        · rw [if_pos z, if_pos z]
        · rw [if_neg z, if_neg z]
      rw [← e2]; rfl
  · obtain ⟨r, a, hr, rfl⟩ := hI
    refine go_lkL rfl (.inl rfl) ints_imm (go_lkL rfl (.inl rfl) ints_imm ?_)
    have := h l r d (fun i hi => by have := hl i hi; omega) hr hd
    have e3 : pr (tabl m l, tabl m r) = .tup [.kst (tabl m fun i => .int (l i)), .kst (tabl m fun i => .int (r i))] := by
      show D.tup [.kst ((tabl m l).map D.int), .kst ((tabl m r).map D.int)] = _
      rw [ints_tabl, ints_tabl]
    rw [e3] at this
    exact this
abbrev DeP (Q : KD → List KD → Prop) (X : Str → List KD → Prop) : DEnds :=
  { nx := fun ρ => match mutsOf [true, false] ρ with | some ys => Q (.fl, .non) ys | none => False
    rt := fun z ρ => match mutsOf [true, false] ρ with | some ys => Q z ys | none => False
    ex := fun C ρ => match mutsOf [true, false] ρ with | some ys => X C ys | none => False }
def IB (ds : List D) : Prop := ∃ x : List Int, ds = x.map .int ∧ x.length ≤ 9 ∧ ∀ y ∈ x, y.natAbs ≤ 10 ^ 60
theorem IB.tab {m : Nat} {b : Int} {l : Nat → Int} (hm : m ≤ 8) (hb : b ≤ 10 ^ 60) (h : Bd m b l) : IB (tabl m fun i => .int (l i)) := ⟨tabl m l, ints_tabl.symm, by rw [tabl_len]; omega, fun y hy => by
  obtain ⟨i, hi, rfl⟩ := mem_tabl hy
  have := h i hi
  have e : ((10 ^ 60 : Nat) : Int) = (10 : Int) ^ 60 := by decide
  omega⟩
abbrev tl15 : SF := (sSeq (sIf (teP (pTest (pOp oEq (pVar 4) (pC (.int 4))))) (sStIxX (eP (pOp oAdd (pOp xIx (pVar 3) (pVar 6)) (pC (.int 1)))) (plVar 3) (pVar 6)) sNil)
    (sLkL 2 (sLkL 3 (sRet (eP (pTup (gCons (pVar 2) (gCons (pVar 3) gNil))))))))
abbrev tl12 : SF := (sSeq (sIf (teP (pTest (pOp oEq (pVar 4) (pC (.int 6))))) (sSeq (sSet 2 (eP (pLcX (iSq (pVar 2)) [7] (gNm 7) tNilP (pOp oAdd (pVar 7) (pOp oPow (pC (.int 10)) (pC (.int 59)))))))
    (sSet 3 (eP (pLcX (iSq (pVar 3)) [7] (gNm 7) tNilP (pOp oSub (pVar 7) (pOp oPow (pC (.int 10)) (pC (.int 59)))))))) sNil)
    (sBar (sSeq (sIf (teP (pTest (pOp oEq (pVar 4) (pC (.int 4))))) (sStIxX (eP (pOp oAdd (pOp xIx (pVar 3) (pVar 6)) (pC (.int 1)))) (plVar 3) (pVar 6)) sNil)
    (sLkL 2 (sLkL 3 (sRet (eP (pTup (gCons (pVar 2) (gCons (pVar 3) gNil))))))))))
abbrev tl10 : SF := (sSeq (sIf (teP (pTest (pOp (oIn false) (pVar 4) (pTup (gCons (pC (.int 2)) (gCons (pC (.int 3)) gNil)))))) (sSet 3 (eP (pLcX (iSq (pVar 3)) [7] (gNm 7) tNilP (pOp oSub (pVar 7) (pOp xIx (pLst (gCons (pC (.int 3)) (gCons (pUn uNeg (pC (.int 3))) gNil))) (pOp oSub (pVar 4) (pC (.int 2)))))))) sNil)
    (sBar (sSeq (sIf (teP (pTest (pOp oEq (pVar 4) (pC (.int 6))))) (sSeq (sSet 2 (eP (pLcX (iSq (pVar 2)) [7] (gNm 7) tNilP (pOp oAdd (pVar 7) (pOp oPow (pC (.int 10)) (pC (.int 59)))))))
    (sSet 3 (eP (pLcX (iSq (pVar 3)) [7] (gNm 7) tNilP (pOp oSub (pVar 7) (pOp oPow (pC (.int 10)) (pC (.int 59)))))))) sNil)
    (sBar (sSeq (sIf (teP (pTest (pOp oEq (pVar 4) (pC (.int 4))))) (sStIxX (eP (pOp oAdd (pOp xIx (pVar 3) (pVar 6)) (pC (.int 1)))) (plVar 3) (pVar 6)) sNil)
    (sLkL 2 (sLkL 3 (sRet (eP (pTup (gCons (pVar 2) (gCons (pVar 3) gNil))))))))))))
theorem tl15_spec {m y a : Nat} {b : Int} {d : D} {l r : Nat → Int} {e1 e5 : Sl} {Q X} (hm : m ≤ 8) (ha : a < m) (hb : b + 1 ≤ 10 ^ 60) (hl : Bd m b l) (hr : Bd m b r) (h : ∀ A B, IB A → IB B → Q (.fl, .tup [.kst A, .kst B]) [(.sh, d)]) : tl15 (DeP Q X) [some (.sh, d), e1, some (.sh, .lst (tabl m fun i => .int (l i))), some (.sh, .lst (tabl m fun i => .int (r i))), some (.fl, .int (y : Nat)), e5, some (.fl, .int (a : Nat)), none] := by
  refine ifd (fun _ => ?_) fun _ => ?_
  · refine go_tabl ha ?_
    refine go_stT rfl ha ?_
    refine go_lkL rfl (.inl rfl) ints_imm (go_lkL rfl (.inl rfl) (DL.imms_all fun d hd => ?_) ?_)
    · obtain ⟨i, _, rfl⟩ := List.mem_map.mp hd
      by_cases z : i = a
      · rw [if_pos z]; rfl
      · rw [if_neg z]; rfl
    · refine h _ _ (IB.tab hm (by omega) hl) ?_
      have e2 : (tabl m fun i => if i = a then D.int (r a + 1) else D.int (r i)) = tabl m fun i => D.int (if i = a then r a + 1 else r i) := tabl_congr fun j _ => by
        by_cases z : j = a
        · rw [if_pos z, if_pos z]
        · rw [if_neg z, if_neg z]
      rw [e2]
      refine IB.tab (b := b + 1) hm hb fun i hi => ?_
      show -(b + 1) ≤ (if i = a then r a + 1 else r i) ∧ (if i = a then r a + 1 else r i) ≤ b + 1
      have := hr a ha
      have := hr i hi
      split <;> omega
  · refine go_lkL rfl (.inl rfl) ints_imm (go_lkL rfl (.inl rfl) ints_imm ?_)
    exact h _ _ (IB.tab hm (by omega) hl) (IB.tab hm (by omega) hr)
theorem tl12_spec {m y a : Nat} {d : D} {l r : Nat → Int} {e1 e5 : Sl} {Q X} (hm : m ≤ 8) (ha : a < m) (hl : Bd m 20000000 l) (hr : Bd m 20000000 r) (h : ∀ A B, IB A → IB B → Q (.fl, .tup [.kst A, .kst B]) [(.sh, d)]) : tl12 (DeP Q X) [some (.sh, d), e1, some (.sh, .lst (tabl m fun i => .int (l i))), some (.sh, .lst (tabl m fun i => .int (r i))), some (.fl, .int (y : Nat)), e5, some (.fl, .int (a : Nat)), none] := by
  refine ifd (fun _ => ?_) fun _ => ?_
  · refine go_LcT (fun i => .int (l i + (10 : Int) ^ (59 : Int).toNat)) (by omega) (fun i N' hi hN' => ⟨by refine ⟨?_, ?_, ?_⟩ <;> decide, hN'⟩) ?_
    refine go_LcT (fun i => .int (r i - (10 : Int) ^ (59 : Int).toNat)) (by omega) (fun i N' hi hN' => ⟨by refine ⟨?_, ?_, ?_⟩ <;> decide, hN'⟩) ?_
    refine go_next (tl15_spec (l := fun i => l i + (10 : Int) ^ (59 : Int).toNat) (r := fun i => r i - (10 : Int) ^ (59 : Int).toNat) (b := 10 ^ 59 + 20000000) hm ha (by decide) (fun i hi => ?_) (fun i hi => ?_) h)
    · have := hl i hi
      have e : (10 : Int) ^ (59 : Int).toNat = 10 ^ 59 := by decide
      show -(10 ^ 59 + 20000000) ≤ l i + (10 : Int) ^ (59 : Int).toNat ∧ l i + (10 : Int) ^ (59 : Int).toNat ≤ 10 ^ 59 + 20000000
      rw [e]
      omega
    · have := hr i hi
      have e : (10 : Int) ^ (59 : Int).toNat = 10 ^ 59 := by decide
      show -(10 ^ 59 + 20000000) ≤ r i - (10 : Int) ^ (59 : Int).toNat ∧ r i - (10 : Int) ^ (59 : Int).toNat ≤ 10 ^ 59 + 20000000
      rw [e]
      omega
  · exact go_next (tl15_spec (b := 20000000) hm ha (by decide) hl hr h)
theorem tl10_spec {m y a : Nat} {d : D} {l r : Nat → Int} {e1 e5 : Sl} {Q X} (hm : m ≤ 8) (ha : a < m) (hl : Bd m 10000003 l) (hr : Bd m 10000003 r) (h : ∀ A B, IB A → IB B → Q (.fl, .tup [.kst A, .kst B]) [(.sh, d)]) : tl10 (DeP Q X) [some (.sh, d), e1, some (.sh, .lst (tabl m fun i => .int (l i))), some (.sh, .lst (tabl m fun i => .int (r i))), some (.fl, .int (y : Nat)), e5, some (.fl, .int (a : Nat)), none] := by
  refine ⟨rfl, rfl, ifb (fun z => ?_) fun _ => ?_⟩
  · have z : inD (.int (y : Nat)) [.int 2, .int 3] = true := z
    have hy : y = 2 ∨ y = 3 := by
      by_cases c : y = 2 ∨ y = 3
      · exact c
      · refine absurd z ?_
        unfold inD
        rw [Bool.not_eq_true, List.any_eq_false]
        intro e he
        rcases List.mem_cons.mp he with rfl | he
        · show ¬ eqD1 (.int 2) (.int (y : Nat)) = true
          simp [eqD1]; omega
        · rw [List.mem_singleton.mp he]
          show ¬ eqD1 (.int 3) (.int (y : Nat)) = true
          simp [eqD1]; omega
    obtain ⟨v, hv, hv2⟩ : ∃ v : Int, L2.atI [D.int 3, D.int (-3)] ((y : Int) - 2) = some (.int v) ∧ -3 ≤ v ∧ v ≤ 3 := by
      rcases hy with rfl | rfl
      · exact ⟨3, rfl, by decide, by decide⟩
      · exact ⟨-3, rfl, by decide, by decide⟩
    refine go_LcT (fun i => .int (r i - v)) (by omega) (fun i N' hi hN' => go_ix (ds := [D.int 3, D.int (-3)]) rfl hv hN') ?_
    exact go_next (tl12_spec (r := fun i => r i - v) hm ha (fun i hi => by have := hl i hi; omega) (fun i hi => by
      have := hr i hi
      show -20000000 ≤ r i - v ∧ r i - v ≤ 20000000
      omega) h)
  · exact go_next (tl12_spec hm ha (fun i hi => by have := hl i hi; omega) (fun i hi => by have := hr i hi; omega) h)
theorem prE {m : Nat} {l r : Nat → Int} : pr (tabl m l, tabl m r) = .tup [.kst (tabl m fun i => .int (l i)), .kst (tabl m fun i => .int (r i))] := by
  show D.tup [.kst ((tabl m l).map D.int), .kst ((tabl m r).map D.int)] = _
  rw [ints_tabl, ints_tabl]
theorem IB.nil : IB [] := ⟨[], rfl, by decide, fun y h => nomatch h⟩
theorem IB.snoc {m : Nat} {l : Nat → Int} (hm : m ≤ 8) (h : Bd m 10000000 l) : IB ((tabl m fun i => .int (l i)) ++ [.int 0]) := by
  obtain ⟨x, e, hl, hb⟩ := IB.tab (b := 10000000) hm (by decide) h
  refine ⟨tabl m l ++ [0], by rw [List.map_append, ints_tabl]; rfl, by rw [List.length_append, tabl_len]; show m + 1 ≤ 9; omega, fun y hy => ?_⟩
  rcases List.mem_append.mp hy with hy | hy
  · obtain ⟨i, hi, rfl⟩ := mem_tabl hy
    have := h i hi
    have e : ((10 ^ 60 : Nat) : Int) = (10 : Int) ^ 60 := by decide
    omega
  · rw [List.mem_singleton.mp hy]; decide
theorem IB.cut {A : List D} (h : IB A) (lo hi : Option Int) : IB (DL.cutD A lo hi) := by
  obtain ⟨x, rfl, hl, hb⟩ := h
  unfold DL.cutD
  rw [← List.map_drop, ← List.map_take]
  refine ⟨_, rfl, by rw [List.length_take, List.length_drop]; omega, fun y hy => hb y (List.mem_of_mem_drop (List.mem_of_mem_take hy))⟩
theorem ints_fl {m : Nat} {l : Nat → Int} : (tabl m fun i => D.int (l i)).all D.flat1 = true := List.all_eq_true.mpr fun d hd => by obtain ⟨i, _, rfl⟩ := List.mem_map.mp hd; rfl
theorem okE_lt {m : Nat} {l : Nat → Int} : (D.lst (tabl m fun i => .int (l i))).okE := cL_okE (cLs_tabl fun _ _ => rfl) (Nat.succ_le_succ (Nat.le_trans (hLs_tabl (c := 1) fun _ _ => Nat.le_refl _) (by decide)))
theorem bent_pair_spec {m : Nat} {d : D} {l r : Nat → Int} {Q X} (hm : m ≤ 8) (hd : Tape d) (hl : Bd m 10000000 l) (hr : Bd m 10000000 r) (h : ∀ A B d, IB A → IB B → Tape d → Q (.fl, .tup [.kst A, .kst B]) [(.sh, d)]) : cf__law_bent_pair [(.sh, d), (.fl, pr (tabl m l, tabl m r))] Q X := by
  rw [prE, cf__law_bent_pair_eq]
  have iA := IB.tab (b := 10000000) hm (by decide) hl
  have iB := IB.tab (b := 10000000) hm (by decide) hr
  have fA := ints_fl (m := m) (l := l)
  have fB := ints_fl (m := m) (l := r)
  refine go_ix rfl rfl (go_ix rfl rfl ?_)
  refine ⟨⟨_, rfl⟩, digit_spec hd (by omega) (by omega) fun y d hy hd => ?_⟩
  refine ⟨okE_lt, okE_lt (m := 0) (l := fun _ => 0), ?_⟩
  show if PyData.eqv (D.lst (tabl m fun i => .int (l i))).toP (D.lst []).toP = true then _ else _
  by_cases hm0 : m = 0
  · subst hm0
    refine Eq.mpr (if_pos rfl) ?_
    refine go_lkL rfl (.inl rfl) ints_imm (go_lkL rfl (.inl rfl) ints_imm ?_)
    refine ⟨fA, rfl, by rw [tabl_len]; show _ + 1 ≤ 10000000; omega, ?_⟩
    refine ⟨fB, rfl, by rw [tabl_len]; show _ + 1 ≤ 10000000; omega, ?_⟩
    refine ⟨fA, rfl, by rw [tabl_len]; show _ + 1 ≤ 10000000; omega, ?_⟩
    refine ⟨fB, rfl, by rw [tabl_len]; show _ + 1 ≤ 10000000; omega, ?_⟩
    refine ⟨by show 5 + 2 ≤ 10000000; decide, ?_⟩
    refine ⟨⟨_, rfl⟩, ⟨_, rfl⟩, digit_spec hd (by omega) (by omega) fun t d ht hd => ?_⟩
    match t, ht with
    | 0, _ => exact go_ix rfl rfl (h _ _ d (IB.snoc hm hl) iB hd)
    | 1, _ => exact go_ix rfl rfl (h _ _ d iA (IB.snoc hm hr) hd)
    | 2, _ => exact go_ix rfl rfl (h _ _ d iB iA hd)
    | 3, _ => exact go_ix rfl rfl (h _ _ d IB.nil IB.nil hd)
    | 4, _ => exact go_ix rfl rfl (h _ _ d (IB.snoc hm hl) (IB.snoc hm hr) hd)
    | 5, _ => exact go_ix rfl rfl (h _ _ d iA (iB.cut _ _) hd)
    | 6, _ => exact go_ix rfl rfl (h _ _ d (iA.cut _ _) iB hd)
  · have e1 : PyData.eqv (D.lst (tabl m fun i => .int (l i))).toP (D.lst []).toP = false := by
      obtain ⟨m', rfl⟩ : ∃ m', m = m' + 1 := ⟨m - 1, by omega⟩
      rw [tabl_succ]
      show PyData.eqv (.list (D.toPs _)) (.list []) = false
      cases e : (tabl m' fun i => D.int (l i)) ++ [D.int (l m')] with
      | nil => simp at e
      | cons x xs => rw [D.toPs, PyData.eqv, PyData.eqvAll]
    rw [e1, if_neg (by decide)]
    refine ifd (fun _ => ?_) fun _ => ?_
    · refine go_lkL rfl (.inl rfl) ints_imm (go_lkL rfl (.inl rfl) ints_imm ?_)
      refine ⟨fA, rfl, by rw [tabl_len]; show _ + 1 ≤ 10000000; omega, ?_⟩
      refine ⟨fB, rfl, by rw [tabl_len]; show _ + 1 ≤ 10000000; omega, ?_⟩
      refine ⟨fA, rfl, by rw [tabl_len]; show _ + 1 ≤ 10000000; omega, ?_⟩
      refine ⟨fB, rfl, by rw [tabl_len]; show _ + 1 ≤ 10000000; omega, ?_⟩
      refine ⟨by show 5 + 2 ≤ 10000000; decide, ?_⟩
      refine ⟨⟨_, rfl⟩, ⟨_, rfl⟩, digit_spec hd (by omega) (by omega) fun t d ht hd => ?_⟩
      match t, ht with
      | 0, _ => exact go_ix rfl rfl (h _ _ d (IB.snoc hm hl) iB hd)
      | 1, _ => exact go_ix rfl rfl (h _ _ d iA (IB.snoc hm hr) hd)
      | 2, _ => exact go_ix rfl rfl (h _ _ d iB iA hd)
      | 3, _ => exact go_ix rfl rfl (h _ _ d IB.nil IB.nil hd)
      | 4, _ => exact go_ix rfl rfl (h _ _ d (IB.snoc hm hl) (IB.snoc hm hr) hd)
      | 5, _ => exact go_ix rfl rfl (h _ _ d iA (iB.cut _ _) hd)
      | 6, _ => exact go_ix rfl rfl (h _ _ d (iA.cut _ _) iB hd)
    · show kNext _ _ [some (.sh, d), some (.fl, .tup [.kst (tabl m fun i => .int (l i)), .kst (tabl m fun i => .int (r i))]), some (.sh, .lst (tabl m fun i => .int (l i))), some (.sh, .lst (tabl m fun i => .int (r i))), some (.fl, .int (y : Nat)), none, none, none]
      refine go_next ⟨⟨_, rfl⟩, digit_spec hd (by rw [tabl_len]; omega) (by rw [tabl_len]; omega) fun a d ha hd => ?_⟩
      rw [tabl_len] at ha
      have ha : a < m := by omega
      refine ifd (fun hy4 => ?_) fun _ => ?_
      · obtain ⟨v, hv, hv2⟩ : ∃ v : Int, L2.atI [D.int 1, D.int (-1), D.int 3, D.int (-3)] (y : Int) = some (.int v) ∧ -3 ≤ v ∧ v ≤ 3 := by
          have : y = 0 ∨ y = 1 ∨ y = 2 ∨ y = 3 := by omega
          rcases this with rfl | rfl | rfl | rfl
          · exact ⟨1, rfl, by decide, by decide⟩
          · exact ⟨-1, rfl, by decide, by decide⟩
          · exact ⟨3, rfl, by decide, by decide⟩
          · exact ⟨-3, rfl, by decide, by decide⟩
        refine go_tabl ha (go_ix (ds := [D.int 1, D.int (-1), D.int 3, D.int (-3)]) rfl hv ?_)
        refine go_stT rfl ha ?_
        have e2 : (tabl m fun i => if i = a then D.int (l a + v) else D.int (l i)) = tabl m fun i => D.int (if i = a then l a + v else l i) := tabl_congr fun j _ => by
          by_cases z : j = a
          · rw [if_pos z, if_pos z]
          · rw [if_neg z, if_neg z]
        show kNext _ _ [some (.sh, d), some (.fl, .tup [.kst (tabl m fun i => .int (l i)), .kst (tabl m fun i => .int (r i))]), some (.sh, .lst (tabl m fun i => if i = a then D.int (l a + v) else D.int (l i))), some (.sh, .lst (tabl m fun i => .int (r i))), some (.fl, .int (y : Nat)), none, some (.fl, .int (a : Nat)), none]
        rw [e2]
        refine go_next (tl10_spec (l := fun i => if i = a then l a + v else l i) hm ha (fun i hi => ?_) (fun i hi => by have := hr i hi; omega) fun A B hA hB => h A B d hA hB hd)
        show -10000003 ≤ (if i = a then l a + v else l i) ∧ (if i = a then l a + v else l i) ≤ 10000003
        have := hl a ha
        have := hl i hi
        split <;> omega
      · exact go_next (tl10_spec hm ha (fun i hi => by have := hl i hi; omega) (fun i hi => by have := hr i hi; omega) fun A B hA hB => h A B d hA hB hd)
def PD (d : D) : Prop := ∃ A B, d = .tup [.kst A, .kst B] ∧ IB A ∧ IB B
def PDs (ds : List D) : Prop := ∀ d ∈ ds, PD d
theorem PDs.app {a b : List D} (h : PDs a) (h' : PDs b) : PDs (a ++ b) := fun d hd => (List.mem_append.mp hd).elim (h d) (h' d)
theorem PDs.cut {a : List D} (h : PDs a) (lo hi : Option Int) : PDs (DL.cutD a lo hi) := fun d hd => by
  unfold DL.cutD at hd
  exact h d (List.mem_of_mem_drop (List.mem_of_mem_take hd))
theorem PDs.rev {a : List D} (h : PDs a) : PDs a.reverse := fun d hd => h d (List.mem_reverse.mp hd)
theorem IB.imm {A : List D} (h : IB A) : D.imms A = true := by
  obtain ⟨x, rfl, _⟩ := h
  exact DL.imms_all fun d hd => by obtain ⟨i, _, rfl⟩ := List.mem_map.mp hd; rfl
theorem PDs.imm {a : List D} (h : PDs a) : D.imms a = true := DL.imms_all fun d hd => by
  obtain ⟨A, B, rfl, hA, hB⟩ := h d hd
  show (D.imms A && (D.imms B && true)) = true
  rw [hA.imm, hB.imm]; rfl
theorem cut_le {a : List D} (lo hi : Option Int) : (DL.cutD a lo hi).length ≤ a.length := by
  unfold DL.cutD
  rw [List.length_take, List.length_drop]; omega
abbrev papD (n m : Nat) (L R : Nat → Nat → Int) : List D := tabl n fun k => pr (tabl m (L k), tabl m (R k))
theorem pap_PD {m : Nat} {L R : Nat → Nat → Int} (hm : m ≤ 8) (hL : ∀ k, k < n → Bd m 10000000 (L k)) (hR : ∀ k, k < n → Bd m 10000000 (R k)) : PDs (papD n m L R) := fun d hd => by
  obtain ⟨k, hk, rfl⟩ := List.mem_map.mp hd
  have hk := List.mem_range.mp hk
  rw [prE]
  exact ⟨_, _, rfl, IB.tab (b := 10000000) hm (by decide) (hL k hk), IB.tab (b := 10000000) hm (by decide) (hR k hk)⟩
theorem bent_spec {m : Nat} {d : D} {L R : Nat → Nat → Int} {Q X} (hn1 : 1 ≤ n) (hn : n ≤ 8) (hm : m ≤ 8) (hd : Tape d) (hL : ∀ k, k < n → Bd m 10000000 (L k)) (hR : ∀ k, k < n → Bd m 10000000 (R k)) (h : ∀ ds d, PDs ds → ds.length ≤ 24 → Tape d → Q (.sh, .lst ds) [(.sh, d)]) : cf__law_bent [(.sh, d), (.fl, .kst (papD n m L R))] Q X := by
  rw [cf__law_bent_eq]
  have hP := pap_PD hm hL hR
  have hlen : (papD n m L R).length ≤ 8 := by rw [tabl_len]; exact hn
  have hc : ∀ lo hi, (DL.cutD (papD n m L R) lo hi).length ≤ 8 := fun lo hi => Nat.le_trans (cut_le lo hi) hlen
  refine ⟨⟨_, rfl⟩, digit_spec hd (by rw [tabl_len]; omega) (by rw [tabl_len]; omega) fun a d ha hd => ?_⟩
  rw [tabl_len] at ha
  have ha : a < n := by omega
  refine ⟨⟨_, rfl⟩, digit_spec hd (by omega) (by omega) fun y d hy hd => ?_⟩
  have c1 := hc none (some (a : Int))
  have c2 := hc (some ((a : Int) + 1)) none
  have c3 := hc (some (a : Int)) none
  have c4 := hc none (some ((a : Int) + 1))
  have c5 := hc (some (a : Int)) (some ((a : Int) + 2))
  have c6 := hc (some ((a : Int) + 2)) none
  have q1 := hP.cut none (some (a : Int))
  have q2 := hP.cut (some ((a : Int) + 1)) none
  have q3 := hP.cut (some (a : Int)) none
  have q4 := hP.cut none (some ((a : Int) + 1))
  have q5 := hP.cut (some (a : Int)) (some ((a : Int) + 2))
  have q6 := hP.cut (some ((a : Int) + 2)) none
  refine ifd (fun _ => ?_) fun _ => ifd (fun _ => ?_) fun _ => ifd (fun _ => ?_) fun _ => ?_
  · refine ⟨⟨_, rfl⟩, go_ix rfl (atI_nat (tabl_get ha)) (bent_pair_spec hm hd (hL a ha) (hR a ha) fun A B d hA hB hd => ?_)⟩
    have q0 : PDs [D.tup [.kst A, .kst B]] := fun d hd => by rw [List.mem_singleton.mp hd]; exact ⟨A, B, rfl, hA, hB⟩
    refine ⟨by show _ + 1 ≤ 10000000; omega, ?_⟩
    refine ⟨by rw [List.length_append]; show _ + 1 + _ ≤ 10000000; omega, ?_⟩
    exact h _ d ((q1.app q0).app q2) (by rw [List.length_append, List.length_append]; show _ + 1 + _ ≤ 24; omega) hd
  · refine ⟨by omega, h _ d (q1.app q2) (by rw [List.length_append]; omega) hd⟩
  · refine ⟨by omega, h _ d (q4.app q3) (by rw [List.length_append]; omega) hd⟩
  · refine ⟨q5.imm, by rw [List.length_reverse]; omega, ?_⟩
    refine ⟨by rw [List.length_append, List.length_reverse]; omega, h _ d ((q1.app q5.rev).app q6) (by rw [List.length_append, List.length_append, List.length_reverse]; omega) hd⟩
/-! the law -/
theorem PDs.of {ds : List D} : PDs ds → ∃ ps : List (List Int × List Int), ds = ps.map pr := fun h => by
  induction ds with
  | nil => exact ⟨[], rfl⟩
  | cons d ds ih =>
    obtain ⟨ps, e⟩ := ih fun e he => h e (List.mem_cons_of_mem _ he)
    obtain ⟨A, B, rfl, ⟨x, rfl, _⟩, ⟨y, rfl, _⟩⟩ := h d List.mem_cons_self
    exact ⟨(x, y) :: ps, by rw [List.map_cons, ← e]⟩
theorem wRs_all : ∀ {ds : List D}, (∀ d ∈ ds, d.wR = true) → D.wRs ds = true
  | [], _ => rfl
  | d :: ds, h => by
    show (d.wR && D.wRs ds) = true
    rw [h d List.mem_cons_self, wRs_all fun e he => h e (List.mem_cons_of_mem _ he)]; rfl
theorem sRs_le {c : Nat} : ∀ {ds : List D}, (∀ d ∈ ds, d.sR ≤ c) → D.sRs ds ≤ ds.length * (c + 2)
  | [], _ => Nat.zero_le _
  | d :: ds, h => by
    have h1 := h d List.mem_cons_self
    have h2 := sRs_le (c := c) fun e he => h e (List.mem_cons_of_mem d he)
    show d.sR + 2 + D.sRs ds ≤ (ds.length + 1) * (c + 2)
    rw [Nat.add_mul]; omega
theorem hRs_le {c : Nat} : ∀ {ds : List D}, (∀ d ∈ ds, d.hR ≤ c) → D.hRs ds ≤ c
  | [], _ => Nat.zero_le _
  | d :: ds, h => by
    have h1 := h d List.mem_cons_self
    have h2 := hRs_le (c := c) fun e he => h e (List.mem_cons_of_mem d he)
    show max d.hR (D.hRs ds) ≤ c
    omega
theorem IB.wr {A : List D} (h : IB A) : D.wRs A = true ∧ D.sRs A ≤ 9 * 73 ∧ D.hRs A ≤ 1 := by
  obtain ⟨x, rfl, hl, hb⟩ := h
  refine ⟨wRs_all fun d hd => ?_, ?_, hRs_le fun d hd => ?_⟩
  · obtain ⟨i, hi, rfl⟩ := List.mem_map.mp hd
    exact decide_eq_true (Nat.lt_of_le_of_lt (hb i hi) (by decide))
  · have := sRs_le (c := 71) (ds := x.map D.int) fun d hd => by obtain ⟨i, _, rfl⟩ := List.mem_map.mp hd; exact Nat.le_refl _
    rw [List.length_map] at this
    exact Nat.le_trans this (Nat.mul_le_mul_right _ hl)
  · obtain ⟨i, _, rfl⟩ := List.mem_map.mp hd; exact Nat.le_refl _
theorem PDs.okR {ds : List D} (h : PDs ds) (hl : ds.length ≤ 24) : (D.kst ds).okR := by
  refine ⟨⟨ds, rfl⟩, wRs_all fun d hd => ?_, ?_, ?_⟩
  · obtain ⟨A, B, rfl, hA, hB⟩ := h d hd
    show (D.wRs A && (D.wRs B && true)) = true
    rw [hA.wr.1, hB.wr.1]; rfl
  · have := sRs_le (c := 2000) (ds := ds) fun d hd => by
      obtain ⟨A, B, rfl, hA, hB⟩ := h d hd
      have := hA.wr.2.1
      have := hB.wr.2.1
      show D.sRs A + 3 + 2 + (D.sRs B + 3 + 2 + 0) + 3 ≤ 2000
      omega
    have h2 := Nat.mul_le_mul_right 2002 hl
    show D.sRs ds + 3 ≤ 10000000
    omega
  · have := hRs_le (c := 3) (ds := ds) fun d hd => by
      obtain ⟨A, B, rfl, hA, hB⟩ := h d hd
      have := hA.wr.2.2
      have := hB.wr.2.2
      show max (D.hRs A + 1) (max (D.hRs B + 1) 0) + 1 ≤ 3
      omega
    show D.hRs ds + 1 ≤ 50
    omega
theorem cH_bd (hF : Tab n 999 F) (hW : Tab n 999 W) (hC : Tab n 1000000 C) (hw : w < n) (hp : p < n) : ∀ i j, i < n - 1 → j < n - 1 → 0 ≤ cH n F W C w p i j ∧ cH n F W C w p i j ≤ 3000000 := fun i j hi hj => by
  have m1 : (oth n w).getD i 0 ∈ oth n w := by
    rw [List.getD_eq_getElem?_getD, List.getElem?_eq_getElem (by rw [oth_card n hw]; exact hi)]
    exact List.getElem_mem _
  have m2 : (oth n p).getD j 0 ∈ oth n p := by
    rw [List.getD_eq_getElem?_getD, List.getElem?_eq_getElem (by rw [oth_card n hp]; exact hj)]
    exact List.getElem_mem _
  unfold cH hV
  generalize (oth n w).getD i 0 = x at m1
  generalize (oth n p).getD j 0 = y at m2
  have hx := (mem_oth.mp m1).1
  have hy := (mem_oth.mp m2).1
  have a1 := hF x w hx hw
  have a2 := hW y p hy hp
  have a3 := hF w x hw hx
  have a4 := hW p y hp hy
  have a5 := hC x y hx hy
  have b1 := Int.mul_le_mul a1.2 a2.2 a2.1 (by omega)
  have b2 := Int.mul_le_mul a3.2 a4.2 a4.1 (by omega)
  have b3 := Int.mul_nonneg a1.1 a2.1
  have b4 := Int.mul_nonneg a3.1 a4.1
  omega
theorem rev_tab {α : Type} {f : Nat → α} : (tabl n f).reverse = tabl n fun i => f (n - 1 - i) := by
  refine List.ext_getElem? fun i => ?_
  by_cases hi : i < n
  · rw [List.getElem?_reverse (by rw [tabl_len]; exact hi), tabl_len, tabl_get (by omega), tabl_get hi]
  · rw [List.getElem?_eq_none (by rw [List.length_reverse, tabl_len]; omega), List.getElem?_eq_none (by rw [tabl_len]; omega)]
theorem law_spec {ns : List Int} (hl : ns.length ≤ 63) : cf_law [(.fl, .kst (ns.map .int))] (fun z _ => z = (.fl, .bl true)) (fun _ _ => False) := by
  rw [cf_law_eq]
  obtain ⟨m, hm, em⟩ := turns (L := ((ns.map D.int).length : Int)) (c := 4) (by omega) (by omega)
  refine go_R1 em (by omega) ?_
  refine go_For0 (fun _ ρ => ∃ a b c d e f g h i j k l, ρ = [some (.fl, .kst (ns.map .int)), a, b, c, d, e, f, g, h, i, j, k, l, none, none, none]) ⟨none, none, none, none, none, none, none, none, none, none, none, none, rfl⟩ (fun t ρ N ht hI hN => ?_) fun ρ hI => ?_
  · obtain ⟨a, b, c, d, e, f, g, h, i, j, k, l, rfl⟩ := hI
    refine tape_spec hl (by omega) fun d hd => ?_
    refine ⟨⟨_, rfl⟩, ⟨_, rfl⟩, ⟨_, rfl⟩, digit_spec hd (by omega) (by omega) fun r d hr hd => ?_⟩
    refine go_ixC (fun e => ∃ r : Int, e = .int r ∧ 0 < r ∧ r ≤ 8) rfl (by split <;> exact ⟨_, rfl, _, rfl, by decide, by decide⟩) fun dt hdt => ?_
    obtain ⟨most, rfl, m0, m1⟩ := hdt
    refine job_spec hd m0 (by omega) fun n F0 W C d hn1 hn2 hj hd => ?_
    have hn : n ≤ 8 := by omega
    refine hubbed_spec hn1 hn hd hj.f fun F w d hF hw hd => ?_
    show kNext _ _ [some (.fl, .kst (ns.map .int)), some (.fl, .int t), some (.sh, d), some (.fl, jobD n F W C), _, e, f, g, h, i, j, k, l, none, none, none]
    refine go_next (go_ix rfl rfl (law_hub_spec hn hF hw ?_))
    show kNext _ _ [some (.fl, .kst (ns.map .int)), some (.fl, .int t), some (.sh, d), some (.fl, jobD n F W C), some (.fl, .int w),  e, f, g, h, i, j, k, l, none, none, none]
    refine go_next (go_ix rfl rfl (go_R1 (n := n) (congrArg Int.ofNat tabl_len) (by omega) ?_))
    refine go_LcEA (α := (Nat → Int) × (Nat → Int)) (fun c => pr (tabl (n - 1) c.1, tabl (n - 1) c.2)) (fun _ ρ => ∃ d, Tape d ∧ ρ = [some (.fl, .kst (ns.map .int)), some (.fl, .int t), some (.sh, d), some (.fl, jobD n F W C), some (.fl, .int w),  e, f, g, h, i, j, k, l, none, none, none]) (fun _ c => Bd (n - 1) 10000000 c.1 ∧ Bd (n - 1) 10000000 c.2) (by omega) ⟨d, hd, rfl⟩ (fun k ρ N hk hI hN => ?_) fun P ρ hP hI => ?_
    · obtain ⟨d, hd, rfl⟩ := hI
      refine ⟨⟨_, rfl⟩, law_table_spec hn hw.lt hk hF ?_⟩
      rw [tabH_eq hw.lt hk]
      exact pair_spec (by omega) hd (cH_bd hF hj.w hj.c hw.lt hk) fun l r d hl hr hd => hN (l, r) _ ⟨hl, hr⟩ ⟨d, hd, rfl⟩
    obtain ⟨d, hd, rfl⟩ := hI
    have hPD := pap_PD (n := n) (m := n - 1) (L := fun k => (P k).1) (R := fun k => (P k).2) (by omega) (fun k hk => (hP k hk).1) fun k hk => (hP k hk).2
    refine go_lkL rfl (.inl rfl) hPD.imm ?_
    refine go_LcEn (fun k => .int (C w k + (tabl (n - 1) (P k).1).sum + (tabl (n - 1) (P k).2).sum)) (by omega) (fun k N' hk hN' => ⟨rfl, rfl, go_ix rfl rfl (go_tab hw.lt (go_tab hk (go_ix rfl rfl ⟨_, rfl, go_ix rfl rfl ⟨_, rfl, hN'⟩⟩)))⟩) ?_
    obtain ⟨S, eS⟩ : ∃ S : Nat → Int, (fun k => C w k + (tabl (n - 1) (P k).1).sum + (tabl (n - 1) (P k).2).sum) = S := ⟨_, rfl⟩
    refine go_lkL rfl (.inl rfl) ints_imm ?_
    show kNext _ _ [some (.fl, .kst (ns.map .int)), some (.fl, .int t), some (.sh, d), some (.fl, jobD n F W C), some (.fl, .int w),  some (.fl, .kst (papD n (n - 1) (fun k => (P k).1) fun k => (P k).2)), some (.fl, .kst (tabl n fun k => .int ((fun k => C w k + (tabl (n - 1) (P k).1).sum + (tabl (n - 1) (P k).2).sum) k))), g, h, i, j, k, l, none, none, none]
    rw [eS]
    have hSt : (tabl n fun k => D.int (S k)) = (tabl n S).map D.int := ints_tabl.symm
    have hLs : (D.kst (tabl n fun k => D.int (S k))).lsq = some ((tabl n S).map D.int) := congrArg some hSt
    have hS0 : 0 < (tabl n S).length := by rw [tabl_len]; omega
    refine go_next (go_R1 (n := 8) rfl (by omega) ?_)
    refine go_For0 (fun _ ρ => ∃ (d : D) (g h i j k : Sl), Tape d ∧ ρ = [some (.fl, .kst (ns.map .int)), some (.fl, .int t), some (.sh, d), some (.fl, jobD n F W C), some (.fl, .int w),  some (.fl, .kst (papD n (n - 1) (fun k => (P k).1) fun k => (P k).2)), some (.fl, .kst (tabl n fun k => .int (S k))),  g, h, i, j, k, l, none, none, none]) ⟨d, g, h, i, j, k, hd, rfl⟩ (fun u ρ N2 hu hI hN2 => ?_) fun ρ hI => ?_
    · obtain ⟨d, g, h, i, j, k, hd, rfl⟩ := hI
      show kNext _ _ [some (.fl, .kst (ns.map .int)), some (.fl, .int t), some (.sh, d), some (.fl, jobD n F W C), some (.fl, .int w),  some (.fl, .kst (papD n (n - 1) (fun k => (P k).1) fun k => (P k).2)), some (.fl, .kst (tabl n fun k => .int (S k))),  some (.fl, .int u), h, i, j, k, l, none, none, none]
      refine go_next ?_
      refine ifd (fun _ => ?_) fun _ => ?_
      · refine ⟨⟨_, rfl⟩, bent_spec hn1 hn (by omega) hd (fun k hk => (hP k hk).1) (fun k hk => (hP k hk).2) fun V d hPDV hlV hd => .inr (go_lkL rfl (.inl rfl) hPDV.imm ?_)⟩
        refine ⟨hPDV.okR hlV, ?_⟩
        obtain ⟨ps, eps⟩ := hPDV.of
        show kNext _ _ [some (.fl, .kst (ns.map .int)), some (.fl, .int t), some (.sh, d), some (.fl, jobD n F W C), some (.fl, .int w), some (.fl, .kst (papD n (n - 1) (fun k => (P k).1) fun k => (P k).2)), some (.fl, .kst (tabl n fun k => .int (S k))),  some (.fl, .int u), some (.fl, .kst V), some (.fl, .str (D.kst V).toP.shown), j, k, l, none, none, none]
        refine go_next ?_
        refine ⟨tabl n S, hLs, hS0, fun m1 _ _ => ?_⟩
        refine ⟨tabl n S, hLs, hS0, fun m2 _ _ => ?_⟩
        refine ⟨tabl n S, hLs, hS0, fun m3 _ _ => ?_⟩
        refine ⟨by refine ⟨?_, ?_, ?_⟩ <;> decide, ?_⟩
        refine go_For (fun _ ρ => ∃ (j k : Sl), ρ = [some (.fl, .kst (ns.map .int)), some (.fl, .int t), some (.sh, d), some (.fl, jobD n F W C), some (.fl, .int w), some (.fl, .kst (papD n (n - 1) (fun k => (P k).1) fun k => (P k).2)), some (.fl, .kst (tabl n fun k => .int (S k))),  some (.fl, .int u), some (.fl, .kst V), some (.fl, .str (D.kst V).toP.shown), j, k, l, none, none, none]) ⟨j, k, rfl⟩ (fun q z ρ N3 hz hI hN3 => ?_) fun ρ hI => ?_
        · obtain ⟨j, k, rfl⟩ := hI
          obtain ⟨num, rfl⟩ : ∃ num : Int, z = (.fl, .int num) := by
            match q, hz with
            | 0, h => exact ⟨_, (Option.some.inj h).symm⟩
            | 1, h => exact ⟨_, (Option.some.inj h).symm⟩
            | 2, h => exact ⟨_, (Option.some.inj h).symm⟩
            | 3, h => exact ⟨_, (Option.some.inj h).symm⟩
            | 4, h => exact ⟨_, (Option.some.inj h).symm⟩
          rw [eps] at hN3 hPDV hlV ⊢
          refine shows_spec hn hF hw (law_shows_spec hn hF hw ?_)
          refine ifdn (fun z => absurd rfl z) fun _ => ?_
          refine ⟨hPDV.okR hlV, ?_⟩
          exact ifdn (fun z => absurd rfl z) fun _ => hN3 _ ⟨_, _, rfl⟩
        · obtain ⟨j, k, rfl⟩ := hI
          exact hN2 _ ⟨d, _, _, _, _, _, hd, rfl⟩
      · refine .inl ?_
        have hPDV := hPD
        have hlV : (papD n (n - 1) (fun k => (P k).1) fun k => (P k).2).length ≤ 24 := by rw [tabl_len]; omega
        refine ⟨hPDV.okR hlV, ?_⟩
        obtain ⟨ps, eps⟩ := hPDV.of
        show kNext _ _ [some (.fl, .kst (ns.map .int)), some (.fl, .int t), some (.sh, d), some (.fl, jobD n F W C), some (.fl, .int w), some (.fl, .kst (papD n (n - 1) (fun k => (P k).1) fun k => (P k).2)), some (.fl, .kst (tabl n fun k => .int (S k))),  some (.fl, .int u), some (.fl, .kst (papD n (n - 1) (fun k => (P k).1) fun k => (P k).2)), some (.fl, .str (D.kst (papD n (n - 1) (fun k => (P k).1) fun k => (P k).2)).toP.shown), j, k, l, none, none, none]
        refine go_next ?_
        refine ⟨tabl n S, hLs, hS0, fun m1 _ _ => ?_⟩
        refine ⟨tabl n S, hLs, hS0, fun m2 _ _ => ?_⟩
        refine ⟨tabl n S, hLs, hS0, fun m3 _ _ => ?_⟩
        refine ⟨by refine ⟨?_, ?_, ?_⟩ <;> decide, ?_⟩
        refine go_For (fun _ ρ => ∃ (j k : Sl), ρ = [some (.fl, .kst (ns.map .int)), some (.fl, .int t), some (.sh, d), some (.fl, jobD n F W C), some (.fl, .int w), some (.fl, .kst (papD n (n - 1) (fun k => (P k).1) fun k => (P k).2)), some (.fl, .kst (tabl n fun k => .int (S k))),  some (.fl, .int u), some (.fl, .kst (papD n (n - 1) (fun k => (P k).1) fun k => (P k).2)), some (.fl, .str (D.kst (papD n (n - 1) (fun k => (P k).1) fun k => (P k).2)).toP.shown), j, k, l, none, none, none]) ⟨j, k, rfl⟩ (fun q z ρ N3 hz hI hN3 => ?_) fun ρ hI => ?_
        · obtain ⟨j, k, rfl⟩ := hI
          obtain ⟨num, rfl⟩ : ∃ num : Int, z = (.fl, .int num) := by
            match q, hz with
            | 0, h => exact ⟨_, (Option.some.inj h).symm⟩
            | 1, h => exact ⟨_, (Option.some.inj h).symm⟩
            | 2, h => exact ⟨_, (Option.some.inj h).symm⟩
            | 3, h => exact ⟨_, (Option.some.inj h).symm⟩
            | 4, h => exact ⟨_, (Option.some.inj h).symm⟩
          rw [eps] at hN3 hPDV hlV ⊢
          refine shows_spec hn hF hw (law_shows_spec hn hF hw ?_)
          refine ifdn (fun z => absurd rfl z) fun _ => ?_
          refine ⟨hPDV.okR hlV, ?_⟩
          exact ifdn (fun z => absurd rfl z) fun _ => hN3 _ ⟨_, _, rfl⟩
        · obtain ⟨j, k, rfl⟩ := hI
          exact hN2 _ ⟨d, _, _, _, _, _, hd, rfl⟩
    · obtain ⟨d, g, h, i, j, k, hd, rfl⟩ := hI
      obtain ⟨ps, eps⟩ := hPD.of
      rw [eps]
      refine go_next (go_ix rfl rfl (go_ix rfl rfl (go_ix rfl rfl ⟨DL.imms_all fun d hd => by obtain ⟨x, _, rfl⟩ := List.mem_map.mp hd; exact imm_tab fun _ _ => rfl, ?_⟩)))
      rw [rev_tab]
      refine go_For (fun _ ρ => ∃ (d g h i j k l : Sl), ρ = [some (.fl, .kst (ns.map .int)), some (.fl, .int t), d, some (.fl, jobD n F W C), some (.fl, .int w), some (.fl, .kst (ps.map pr)), some (.fl, .kst (tabl n fun k => .int (S k))), g, h, i, j, k, l, none, none, none]) ⟨_, _, _, _, _, _, _, rfl⟩ (fun q z ρ N3 hz hI hN3 => ?_) fun ρ hI => ?_
      · obtain ⟨d, g, h, i, j, k, l, rfl⟩ := hI
        obtain ⟨C2, rfl⟩ : ∃ C2, z = (.fl, jobD n F W C2) := by
          match q, hz with
          | 0, h => exact ⟨C, (Option.some.inj h).symm⟩
          | 1, h => exact ⟨fun i j => C (n - 1 - i) j, (Option.some.inj h).symm⟩
          | 2, h => exact ⟨C, (Option.some.inj h).symm⟩
        refine ⟨tabl n S, hLs, hS0, fun m1 a1 b1 => shows_spec hn hF hw ?_⟩
        refine ⟨tabl n S, hLs, hS0, fun m2 a2 b2 => law_shows_spec hn hF hw ?_⟩
        have em : m1 = m2 := Int.le_antisymm (b1 m2 a2) (b2 m1 a1)
        subst em
        exact ifdn (fun z => absurd rfl z) fun _ => hN3 _ ⟨_, _, _, _, _, _, _, rfl⟩
      · obtain ⟨d, g, h, i, j, k, l, rfl⟩ := hI
        exact hN _ ⟨_, _, _, _, _, _, _, _, _, _, _, _, rfl⟩
  · obtain ⟨a, b, c, d, e, f, g, h, i, j, k, l, rfl⟩ := hI
    rfl
end K31

open PySem PySem.W PySem.Calls PyProof.Rows
theorem PySem.Challenge.cw_spotlay_k31_hub_papers_looked_at_holds : PySem.Challenge.rw_spotlay_k31_hub_papers_looked_at.Holds := by
  w_on; o_law
  refine HandSHeadRun.head_any (r := OpenLaw.row PySem.Challenge.rw_spotlay_k31_hub_papers_looked_at) (q := view (OpenLaw.row PySem.Challenge.rw_spotlay_k31_hub_papers_looked_at).prog [31]) (H := K31.hk) (ob := K31.ob) (M := 6000) (loose := K31.loose)
    (d := HandSHeadRun.topDef (OpenLaw.row PySem.Challenge.rw_spotlay_k31_hub_papers_looked_at).prog 31) (kwd := []) K31.ob_eq
    (by kernel_rfl) (fun s => by kernel_rfl) K31.run (by kernel_rfl) (by kernel_rfl) (by kernel_rfl) (by rfl)
    (by first | assumption | decide +kernel) (by decide +kernel) ⟨rfl, rfl, rfl, rfl, rfl, by decide +kernel⟩ ?hw ?hc
  case hw => w_witness2
  case hc =>
    refine DL.walk_ofG (l := PySem.Challenge.rw_spotlay_k31_hub_papers_looked_at) (n := 63) (k := 5) (x := "script") (CX := fun _ => L2.CX0) rfl (by decide) (by kernel_rfl) ⟨rfl, by decide, by decide⟩ ?F (fun _ _ _ _ _ z => z)
    intro w mg fa h Y G hmg0
    obtain ⟨K, KX, c, l⟩ := Y
    have hmg : mg ("law" : PySem.Str) = some (.ref fa) := by
      have e : (HandSHeadRun.topDef (OpenLaw.row PySem.Challenge.rw_spotlay_k31_hub_papers_looked_at).prog 31).name = ("law" : PySem.Str) := by kernel_rfl
      rw [← e]
      exact hmg0
    obtain ⟨L, rfl⟩ := K31.facts KX G hmg c l
    exact ⟨K, DL.spOf K 1 [false] K31.cf_law, KX, fun H a ns hl hO hS => DL.law_in hO hS (K31.law_spec hl), fun base _ _ => K31.ok_law L⟩
