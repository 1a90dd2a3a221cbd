import PyProof.Rows.All
import Wide.All
import OpenK.AllK
import Wide.FinOn
import HandS.ForMost
import HandS.ForExc
import HandS.Zip
import HandS.Defaults
import HandS.TupAny
import HandS.TupMul
import HandS.Text
import HandS.Deep
import HandS.RaiseMore
import PyProof.StrBlock2
import HandS.Strs
import KE.GoesEnum
import PyProof.EnumFor
import HandS.IsInst
import KE.KTupSum
import HandS.Ends
import HandS.Conv
import HandS.List
import PyProof.Rows.SortShellAny
import PyProof.P3Eq
import PyProof.Rows.StrMeet
import HandS.Words
import KE.KStateDown
import Lean
import HandS.Head0
import HandS.Head1
import HandS.Head2
import HandS.HeadEnd
import HandS.HeadHook1
import HandS.HeadHook2
import PySem.Challenge.RW_gamutsay_k04_faults
section
set_option Elab.async false
set_option linter.all false
set_option maxRecDepth 100000
set_option maxHeartbeats 4000000
/-! Pu1: pure data, what stands for it in the heap, owned trees, slots, the relation. -/
namespace Pu
open PySem PySem.Spec PyProof.Rows L2

/-- data that stays -/
inductive D where
  | non | bl (b : Bool) | int (i : Int) | str (x : Str) | ty (n : String)
  | lst (xs : List D) | tup (xs : List D) | dct (t : Nat) (kvs : List (D × D)) | ins (C : Addr) (fs : List (Str × D))
/-- what a slot holds: data that stay, or a tree of one's own -/
inductive O where
  | ro (d : D)
  | lst (xs : List O) | dct (t : Nat) (kvs : List (D × O)) | ins (C : Addr) (fs : List (Str × O))
def kD : Key → D
  | .inl i => .int i
  | .inr x => .str x
def tkD (ks : List Key) : D := .tup (ks.map kD)
mutual
def O.d : O → D
  | .ro d => d
  | .lst xs => .lst (O.ds xs)
  | .dct t kvs => .dct t (O.dk kvs)
  | .ins C fs => .ins C (O.df fs)
def O.ds : List O → List D
  | [] => []
  | o :: r => o.d :: O.ds r
def O.dk : List (D × O) → List (D × D)
  | [] => []
  | (k, o) :: r => (k, o.d) :: O.dk r
def O.df : List (Str × O) → List (Str × D)
  | [] => []
  | (k, o) :: r => (k, o.d) :: O.df r
end
theorem O.ds_map : ∀ xs : List O, O.ds xs = xs.map O.d
  | [] => rfl
  | o :: r => by show o.d :: O.ds r = _; rw [O.ds_map r]; rfl
theorem O.dk_map : ∀ xs : List (D × O), O.dk xs = xs.map fun p => (p.1, p.2.d)
  | [] => rfl
  | (k, o) :: r => by show (k, o.d) :: O.dk r = _; rw [O.dk_map r]; rfl
theorem O.ds_ro (xs : List D) : O.ds (xs.map O.ro) = xs := by
  rw [O.ds_map, List.map_map]
  exact List.map_id'' (fun d => rfl) xs
theorem O.dk_ro (xs : List (D × D)) : O.dk (xs.map fun p => (p.1, O.ro p.2)) = xs := by
  rw [O.dk_map, List.map_map]
  exact List.map_id'' (fun d => rfl) xs

theorem rd_mono {H H' : Hp} {a : Addr} {u : HO} (e : Same H H') (h : Rd H a u) : Rd H' a u := by
  rcases h with h | ⟨o, h⟩
  · exact .inl (e _ _ h)
  · exact .inr ⟨o, e _ _ h⟩
/-- a dict that may be written -/
def isD : HO → Bool
  | .dT _ => true
  | .dK _ => true
  | _ => false
/-- what was u stands locked or as it was -/
def Lk (H R : Hp) (a : Addr) : Prop := ∀ u, H a = some u → Rd R a u ∧ (isD u = false → R a = some u)
theorem Lk.of {H R : Hp} {a : Addr} (h : R a = H a) : Lk H R a := fun u e => ⟨.inl (h.trans e), fun _ => h.trans e⟩
theorem seqT {K : PySem.W.Frag} {H H' : Hp} {a : Addr} {xs : List V} (e : Same H H') (h : SqT K H a xs) : SqT K H' a xs := by
  rcases h with (h | ⟨o, h⟩) | h
  · exact .inl (.inl (e _ _ h))
  · exact .inl (.inr ⟨o, e _ _ h⟩)
  · exact .inr h

section
variable (K : PySem.W.Frag) (R : Hp)
mutual
/-- the value v stands for d, by objects of the part R alone -/
def Ro : D → V → Prop
  | .non, v => v = .non
  | .bl b, v => v = .bl b
  | .int i, v => v = .int i
  | .str x, v => v = .str x
  | .ty n, v => v = .ty n
  | .lst ds, v => ∃ a vs, v = .ref a ∧ SqL K R a vs ∧ RoL ds vs
  | .tup ds, v => ∃ a vs, v = .ref a ∧ R a = some (.tup vs) ∧ RoL ds vs
  | .dct t kvs, v => ∃ a, v = .ref a ∧ ((t = 1 ∧ ∃ ks, Rd R a (.dT ks) ∧ RoT kvs ks) ∨ (t = 0 ∧ ∃ ks, Rd R a (.dK ks) ∧ RoK kvs ks))
  | .ins C fs, v => ∃ a dx fv, v = .ref a ∧ R a = some (.ins C dx fv) ∧ RoF fs fv
def RoL : List D → List V → Prop
  | [], vs => vs = []
  | d :: ds, vs => ∃ v r, vs = v :: r ∧ Ro d v ∧ RoL ds r
def RoT : List (D × D) → List (List Key × V) → Prop
  | [], vs => vs = []
  | (k, d) :: ds, vs => ∃ kk v r, vs = (kk, v) :: r ∧ k = tkD kk ∧ Ro d v ∧ RoT ds r
def RoK : List (D × D) → List (Key × V) → Prop
  | [], vs => vs = []
  | (k, d) :: ds, vs => ∃ kk v r, vs = (kk, v) :: r ∧ k = kD kk ∧ Ro d v ∧ RoK ds r
def RoF : List (Str × D) → List (Str × V) → Prop
  | [], vs => vs = []
  | (f, d) :: ds, vs => ∃ v r, vs = (f, v) :: r ∧ Ro d v ∧ RoF ds r
end
variable (H : Hp)
mutual
/-- v stands for o: its own nodes at fp in H, its leaves in R -/
def Own : O → V → List Addr → Prop
  | .ro d, v, fp => fp = [] ∧ Ro K R d v
  | .lst os, v, fp => ∃ a vs f, v = .ref a ∧ fp = a :: f ∧ H a = some (.lst vs) ∧ OwnL os vs f
  | .dct t kvs, v, fp => (kvs.map (·.1)).Nodup ∧ ∃ a f, v = .ref a ∧ fp = a :: f ∧ ((t = 1 ∧ ∃ ks, H a = some (.dT ks) ∧ OwnT kvs ks f) ∨ (t = 0 ∧ ∃ ks, H a = some (.dK ks) ∧ OwnK kvs ks f))
  | .ins C fs, v, fp => ∃ a dx fv f, v = .ref a ∧ fp = a :: f ∧ H a = some (.ins C dx fv) ∧ OwnF fs fv f
def OwnL : List O → List V → List Addr → Prop
  | [], vs, fp => vs = [] ∧ fp = []
  | o :: os, vs, fp => ∃ v r f1 f2, vs = v :: r ∧ fp = f1 ++ f2 ∧ Own o v f1 ∧ OwnL os r f2
def OwnT : List (D × O) → List (List Key × V) → List Addr → Prop
  | [], vs, fp => vs = [] ∧ fp = []
  | (k, o) :: os, vs, fp => ∃ kk v r f1 f2, vs = (kk, v) :: r ∧ fp = f1 ++ f2 ∧ k = tkD kk ∧ Own o v f1 ∧ OwnT os r f2
def OwnK : List (D × O) → List (Key × V) → List Addr → Prop
  | [], vs, fp => vs = [] ∧ fp = []
  | (k, o) :: os, vs, fp => ∃ kk v r f1 f2, vs = (kk, v) :: r ∧ fp = f1 ++ f2 ∧ k = kD kk ∧ Own o v f1 ∧ OwnK os r f2
def OwnF : List (Str × O) → List (Str × V) → List Addr → Prop
  | [], vs, fp => vs = [] ∧ fp = []
  | (g, o) :: os, vs, fp => ∃ v r f1 f2, vs = (g, v) :: r ∧ fp = f1 ++ f2 ∧ Own o v f1 ∧ OwnF os r f2
end
end

section
variable {K : PySem.W.Frag} {R R' : Hp}
mutual
theorem Ro.mono (e : Same R R') : ∀ (d : D) (v : V), Ro K R d v → Ro K R' d v
  | .non, _, h => h
  | .bl _, _, h => h
  | .int _, _, h => h
  | .str _, _, h => h
  | .ty _, _, h => h
  | .lst ds, v, h => let ⟨a, vs, h1, h2, h3⟩ := h; ⟨a, vs, h1, e.seq h2, RoL.mono e ds vs h3⟩
  | .tup ds, v, h => let ⟨a, vs, h1, h2, h3⟩ := h; ⟨a, vs, h1, e _ _ h2, RoL.mono e ds vs h3⟩
  | .dct t kvs, v, h => by
    obtain ⟨a, h1, h2⟩ := h
    refine ⟨a, h1, ?_⟩
    rcases h2 with ⟨ht, ks, h2, h3⟩ | ⟨ht, ks, h2, h3⟩
    · exact .inl ⟨ht, ks, rd_mono e h2, RoT.mono e kvs ks h3⟩
    · exact .inr ⟨ht, ks, rd_mono e h2, RoK.mono e kvs ks h3⟩
  | .ins C fs, v, h => let ⟨a, dx, fv, h1, h2, h3⟩ := h; ⟨a, dx, fv, h1, e _ _ h2, RoF.mono e fs fv h3⟩
theorem RoL.mono (e : Same R R') : ∀ (d : List D) (v : List V), RoL K R d v → RoL K R' d v
  | [], _, h => h
  | d :: ds, _, h => let ⟨v, r, h1, h2, h3⟩ := h; ⟨v, r, h1, Ro.mono e d v h2, RoL.mono e ds r h3⟩
theorem RoT.mono (e : Same R R') : ∀ (d : List (D × D)) (v : List (List Key × V)), RoT K R d v → RoT K R' d v
  | [], _, h => h
  | (k, d) :: ds, _, h => let ⟨kk, v, r, h1, h0, h2, h3⟩ := h; ⟨kk, v, r, h1, h0, Ro.mono e d v h2, RoT.mono e ds r h3⟩
theorem RoK.mono (e : Same R R') : ∀ (d : List (D × D)) (v : List (Key × V)), RoK K R d v → RoK K R' d v
  | [], _, h => h
  | (k, d) :: ds, _, h => let ⟨kk, v, r, h1, h0, h2, h3⟩ := h; ⟨kk, v, r, h1, h0, Ro.mono e d v h2, RoK.mono e ds r h3⟩
theorem RoF.mono (e : Same R R') : ∀ (d : List (Str × D)) (v : List (Str × V)), RoF K R d v → RoF K R' d v
  | [], _, h => h
  | (f, d) :: ds, _, h => let ⟨v, r, h1, h2, h3⟩ := h; ⟨v, r, h1, Ro.mono e d v h2, RoF.mono e ds r h3⟩
end
variable {H H' : Hp}
mutual
/-- the nodes at fp stand as they were -/
theorem Own.keep (e : Same R R') : ∀ (o : O) (v : V) (fp : List Addr), (∀ a ∈ fp, H' a = H a) → Own K R H o v fp → Own K R' H' o v fp
  | .ro d, v, fp, k, h => ⟨h.1, Ro.mono e d v h.2⟩
  | .lst os, v, fp, k, h => by
    obtain ⟨a, vs, f, h1, rfl, h3, h4⟩ := h
    exact ⟨a, vs, f, h1, rfl, (k a List.mem_cons_self).trans h3, OwnL.keep e os vs f (fun b hb => k b (List.mem_cons_of_mem _ hb)) h4⟩
  | .dct t kvs, v, fp, k, h => by
    obtain ⟨hn, a, f, h1, rfl, h3⟩ := h
    refine ⟨hn, a, f, h1, rfl, ?_⟩
    rcases h3 with ⟨ht, ks, h3, h4⟩ | ⟨ht, ks, h3, h4⟩
    · exact .inl ⟨ht, ks, (k a List.mem_cons_self).trans h3, OwnT.keep e kvs ks f (fun b hb => k b (List.mem_cons_of_mem _ hb)) h4⟩
    · exact .inr ⟨ht, ks, (k a List.mem_cons_self).trans h3, OwnK.keep e kvs ks f (fun b hb => k b (List.mem_cons_of_mem _ hb)) h4⟩
  | .ins C fs, v, fp, k, h => by
    obtain ⟨a, dx, fv, f, h1, rfl, h3, h4⟩ := h
    exact ⟨a, dx, fv, f, h1, rfl, (k a List.mem_cons_self).trans h3, OwnF.keep e fs fv f (fun b hb => k b (List.mem_cons_of_mem _ hb)) h4⟩
theorem OwnL.keep (e : Same R R') : ∀ (o : List O) (v : List V) (fp : List Addr), (∀ a ∈ fp, H' a = H a) → OwnL K R H o v fp → OwnL K R' H' o v fp
  | [], _, _, _, h => h
  | o :: os, _, fp, k, h => by
    obtain ⟨v, r, f1, f2, h1, rfl, h3, h4⟩ := h
    exact ⟨v, r, f1, f2, h1, rfl, Own.keep e o v f1 (fun b hb => k b (List.mem_append_left _ hb)) h3, OwnL.keep e os r f2 (fun b hb => k b (List.mem_append_right _ hb)) h4⟩
theorem OwnT.keep (e : Same R R') : ∀ (o : List (D × O)) (v : List (List Key × V)) (fp : List Addr), (∀ a ∈ fp, H' a = H a) → OwnT K R H o v fp → OwnT K R' H' o v fp
  | [], _, _, _, h => h
  | (q, o) :: os, _, fp, k, h => by
    obtain ⟨kk, v, r, f1, f2, h1, rfl, h2, h3, h4⟩ := h
    exact ⟨kk, v, r, f1, f2, h1, rfl, h2, Own.keep e o v f1 (fun b hb => k b (List.mem_append_left _ hb)) h3, OwnT.keep e os r f2 (fun b hb => k b (List.mem_append_right _ hb)) h4⟩
theorem OwnK.keep (e : Same R R') : ∀ (o : List (D × O)) (v : List (Key × V)) (fp : List Addr), (∀ a ∈ fp, H' a = H a) → OwnK K R H o v fp → OwnK K R' H' o v fp
  | [], _, _, _, h => h
  | (q, o) :: os, _, fp, k, h => by
    obtain ⟨kk, v, r, f1, f2, h1, rfl, h2, h3, h4⟩ := h
    exact ⟨kk, v, r, f1, f2, h1, rfl, h2, Own.keep e o v f1 (fun b hb => k b (List.mem_append_left _ hb)) h3, OwnK.keep e os r f2 (fun b hb => k b (List.mem_append_right _ hb)) h4⟩
theorem OwnF.keep (e : Same R R') : ∀ (o : List (Str × O)) (v : List (Str × V)) (fp : List Addr), (∀ a ∈ fp, H' a = H a) → OwnF K R H o v fp → OwnF K R' H' o v fp
  | [], _, _, _, h => h
  | (q, o) :: os, _, fp, k, h => by
    obtain ⟨v, r, f1, f2, h1, rfl, h3, h4⟩ := h
    exact ⟨v, r, f1, f2, h1, rfl, Own.keep e o v f1 (fun b hb => k b (List.mem_append_left _ hb)) h3, OwnF.keep e os r f2 (fun b hb => k b (List.mem_append_right _ hb)) h4⟩
end
mutual
/-- every node is there -/
theorem Own.there : ∀ (o : O) (v : V) (fp : List Addr), Own K R H o v fp → ∀ a ∈ fp, ∃ x, H a = some x
  | .ro d, v, fp, h, a, ha => by rw [h.1] at ha; cases ha
  | .lst os, v, fp, h, a, ha => by
    obtain ⟨b, vs, f, h1, rfl, h3, h4⟩ := h
    rcases List.mem_cons.mp ha with rfl | ha
    · exact ⟨_, h3⟩
    · exact OwnL.there os vs f h4 a ha
  | .dct t kvs, v, fp, h, a, ha => by
    obtain ⟨hn, b, f, h1, rfl, h3⟩ := h
    rcases h3 with ⟨ht, ks, h3, h4⟩ | ⟨ht, ks, h3, h4⟩
    · rcases List.mem_cons.mp ha with rfl | ha
      · exact ⟨_, h3⟩
      · exact OwnT.there kvs ks f h4 a ha
    · rcases List.mem_cons.mp ha with rfl | ha
      · exact ⟨_, h3⟩
      · exact OwnK.there kvs ks f h4 a ha
  | .ins C fs, v, fp, h, a, ha => by
    obtain ⟨b, dx, fv, f, h1, rfl, h3, h4⟩ := h
    rcases List.mem_cons.mp ha with rfl | ha
    · exact ⟨_, h3⟩
    · exact OwnF.there fs fv f h4 a ha
theorem OwnL.there : ∀ (o : List O) (v : List V) (fp : List Addr), OwnL K R H o v fp → ∀ a ∈ fp, ∃ x, H a = some x
  | [], _, _, h, a, ha => by rw [h.2] at ha; cases ha
  | o :: os, _, fp, h, a, ha => by
    obtain ⟨v, r, f1, f2, h1, rfl, h3, h4⟩ := h
    rcases List.mem_append.mp ha with ha | ha
    · exact Own.there o v f1 h3 a ha
    · exact OwnL.there os r f2 h4 a ha
theorem OwnT.there : ∀ (o : List (D × O)) (v : List (List Key × V)) (fp : List Addr), OwnT K R H o v fp → ∀ a ∈ fp, ∃ x, H a = some x
  | [], _, _, h, a, ha => by rw [h.2] at ha; cases ha
  | (q, o) :: os, _, fp, h, a, ha => by
    obtain ⟨kk, v, r, f1, f2, h1, rfl, h2, h3, h4⟩ := h
    rcases List.mem_append.mp ha with ha | ha
    · exact Own.there o v f1 h3 a ha
    · exact OwnT.there os r f2 h4 a ha
theorem OwnK.there : ∀ (o : List (D × O)) (v : List (Key × V)) (fp : List Addr), OwnK K R H o v fp → ∀ a ∈ fp, ∃ x, H a = some x
  | [], _, _, h, a, ha => by rw [h.2] at ha; cases ha
  | (q, o) :: os, _, fp, h, a, ha => by
    obtain ⟨kk, v, r, f1, f2, h1, rfl, h2, h3, h4⟩ := h
    rcases List.mem_append.mp ha with ha | ha
    · exact Own.there o v f1 h3 a ha
    · exact OwnK.there os r f2 h4 a ha
theorem OwnF.there : ∀ (o : List (Str × O)) (v : List (Str × V)) (fp : List Addr), OwnF K R H o v fp → ∀ a ∈ fp, ∃ x, H a = some x
  | [], _, _, h, a, ha => by rw [h.2] at ha; cases ha
  | (q, o) :: os, _, fp, h, a, ha => by
    obtain ⟨v, r, f1, f2, h1, rfl, h3, h4⟩ := h
    rcases List.mem_append.mp ha with ha | ha
    · exact Own.there o v f1 h3 a ha
    · exact OwnF.there os r f2 h4 a ha
end
mutual
/-- from now on it stays: its nodes come into the part -/
theorem Own.frz (e : Same R R') : ∀ (o : O) (v : V) (fp : List Addr), (∀ a ∈ fp, Lk H R' a) → Own K R H o v fp → Ro K R' o.d v
  | .ro d, v, fp, k, h => Ro.mono e d v h.2
  | .lst os, v, fp, k, h => by
    obtain ⟨a, vs, f, h1, rfl, h3, h4⟩ := h
    exact ⟨a, vs, h1, Or.inl ((k a List.mem_cons_self) _ h3).1, OwnL.frz e os vs f (fun b hb => k b (List.mem_cons_of_mem _ hb)) h4⟩
  | .dct t kvs, v, fp, k, h => by
    obtain ⟨hn, a, f, h1, rfl, h3⟩ := h
    refine ⟨a, h1, ?_⟩
    rcases h3 with ⟨ht, ks, h3, h4⟩ | ⟨ht, ks, h3, h4⟩
    · exact .inl ⟨ht, ks, ((k a List.mem_cons_self) _ h3).1, OwnT.frz e kvs ks f (fun b hb => k b (List.mem_cons_of_mem _ hb)) h4⟩
    · exact .inr ⟨ht, ks, ((k a List.mem_cons_self) _ h3).1, OwnK.frz e kvs ks f (fun b hb => k b (List.mem_cons_of_mem _ hb)) h4⟩
  | .ins C fs, v, fp, k, h => by
    obtain ⟨a, dx, fv, f, h1, rfl, h3, h4⟩ := h
    exact ⟨a, dx, fv, h1, ((k a List.mem_cons_self) _ h3).2 rfl, OwnF.frz e fs fv f (fun b hb => k b (List.mem_cons_of_mem _ hb)) h4⟩
theorem OwnL.frz (e : Same R R') : ∀ (o : List O) (v : List V) (fp : List Addr), (∀ a ∈ fp, Lk H R' a) → OwnL K R H o v fp → RoL K R' (O.ds o) v
  | [], _, _, _, h => h.1
  | o :: os, _, fp, k, h => by
    obtain ⟨v, r, f1, f2, h1, rfl, h3, h4⟩ := h
    exact ⟨v, r, h1, Own.frz e o v f1 (fun b hb => k b (List.mem_append_left _ hb)) h3, OwnL.frz e os r f2 (fun b hb => k b (List.mem_append_right _ hb)) h4⟩
theorem OwnT.frz (e : Same R R') : ∀ (o : List (D × O)) (v : List (List Key × V)) (fp : List Addr), (∀ a ∈ fp, Lk H R' a) → OwnT K R H o v fp → RoT K R' (O.dk o) v
  | [], _, _, _, h => h.1
  | (q, o) :: os, _, fp, k, h => by
    obtain ⟨kk, v, r, f1, f2, h1, rfl, h2, h3, h4⟩ := h
    exact ⟨kk, v, r, h1, h2, Own.frz e o v f1 (fun b hb => k b (List.mem_append_left _ hb)) h3, OwnT.frz e os r f2 (fun b hb => k b (List.mem_append_right _ hb)) h4⟩
theorem OwnK.frz (e : Same R R') : ∀ (o : List (D × O)) (v : List (Key × V)) (fp : List Addr), (∀ a ∈ fp, Lk H R' a) → OwnK K R H o v fp → RoK K R' (O.dk o) v
  | [], _, _, _, h => h.1
  | (q, o) :: os, _, fp, k, h => by
    obtain ⟨kk, v, r, f1, f2, h1, rfl, h2, h3, h4⟩ := h
    exact ⟨kk, v, r, h1, h2, Own.frz e o v f1 (fun b hb => k b (List.mem_append_left _ hb)) h3, OwnK.frz e os r f2 (fun b hb => k b (List.mem_append_right _ hb)) h4⟩
theorem OwnF.frz (e : Same R R') : ∀ (o : List (Str × O)) (v : List (Str × V)) (fp : List Addr), (∀ a ∈ fp, Lk H R' a) → OwnF K R H o v fp → RoF K R' (O.df o) v
  | [], _, _, _, h => h.1
  | (q, o) :: os, _, fp, k, h => by
    obtain ⟨v, r, f1, f2, h1, rfl, h3, h4⟩ := h
    exact ⟨v, r, h1, Own.frz e o v f1 (fun b hb => k b (List.mem_append_left _ hb)) h3, OwnF.frz e os r f2 (fun b hb => k b (List.mem_append_right _ hb)) h4⟩
end
/-- as it reads now -/
theorem Own.now {o : O} {v : V} {fp : List Addr} (e : Same R H) (h : Own K R H o v fp) : Ro K H o.d v := Own.frz e o v fp (fun _ _ => Lk.of rfl) h
theorem Own.ro {d : D} {v : V} (h : Ro K R d v) : Own K R H (.ro d) v [] := ⟨rfl, h⟩
end

/-! ### quiet steps -/
structure Quiet (R H R' H' : Hp) : Prop where
  h : Same H H'
  r : Same R R'
  s : Same R' H'
  n : ∀ a u, R' a = some u → R a = some u ∨ (H a = none ∧ isD u = false)
theorem Quiet.refl {R H : Hp} (s : Same R H) : Quiet R H R H := ⟨Same.refl _, Same.refl _, s, fun _ _ h => .inl h⟩
theorem Same.none {H H' : Hp} (e : Same H H') {a : Addr} (h : H' a = none) : H a = Option.none := e.free h
theorem Quiet.trans {R H R1 H1 R2 H2 : Hp} (a : Quiet R H R1 H1) (b : Quiet R1 H1 R2 H2) : Quiet R H R2 H2 :=
  ⟨a.h.trans b.h, a.r.trans b.r, b.s, fun x u h => (b.n x u h).elim (a.n x u) fun z => .inr ⟨a.h.free z.1, z.2⟩⟩
theorem same_upd {H : Hp} {p : Addr} {o : HO} (hp : H p = none) : Same H (upd H p o) := fun b x e => by
  rw [upd_ne (ne_of_none e hp)]; exact e
theorem same_upd2 {R H : Hp} {p : Addr} {o : HO} (s : Same R H) : Same (upd R p o) (upd H p o) := fun b x e => by
  by_cases hb : b = p
  · subst hb; rw [upd_same] at e ⊢; exact e
  · rw [upd_ne hb] at e ⊢; exact s b x e
/-- a new object that stays -/
theorem Quiet.new {R H : Hp} {p : Addr} {o : HO} (s : Same R H) (hp : H p = none) (ho : isD o = false) : Quiet R H (upd R p o) (upd H p o) :=
  ⟨same_upd hp, same_upd (s.free hp), same_upd2 s, fun a u h => by
    by_cases ha : a = p
    · subst ha
      rw [upd_same] at h
      cases h
      exact .inr ⟨hp, ho⟩
    · rw [upd_ne ha] at h; exact .inl h⟩
/-- a new object that is one's own -/
theorem Quiet.newO {R H : Hp} {p : Addr} {o : HO} (s : Same R H) (hp : H p = none) : Quiet R H R (upd H p o) :=
  ⟨same_upd hp, Same.refl _, s.trans (same_upd hp), fun a u h => .inl h⟩
theorem Own.quiet {K : PySem.W.Frag} {R H R' H' : Hp} (q : Quiet R H R' H') {o : O} {v : V} {fp : List Addr} (h : Own K R H o v fp) : Own K R' H' o v fp :=
  Own.keep q.r o v fp (fun a ha => by obtain ⟨x, e⟩ := Own.there o v fp h a ha; rw [e]; exact q.h a x e) h
theorem OwnL.quiet {K : PySem.W.Frag} {R H R' H' : Hp} (q : Quiet R H R' H') {o : List O} {v : List V} {fp : List Addr} (h : OwnL K R H o v fp) : OwnL K R' H' o v fp :=
  OwnL.keep q.r o v fp (fun a ha => by obtain ⟨x, e⟩ := OwnL.there o v fp h a ha; rw [e]; exact q.h a x e) h

/-! ### slots -/
abbrev PSt := List (Option O)
section
variable (K : PySem.W.Frag) (R H : Hp)
def SlR : PSt → L2.St → List Addr → Prop
  | [], sgV, fp => sgV = [] ∧ fp = []
  | none :: r, sgV, fp => ∃ x s, sgV = x :: s ∧ SlR r s fp
  | some o :: r, sgV, fp => ∃ v s f1 f2, sgV = some v :: s ∧ fp = f1 ++ f2 ∧ Own K R H o v f1 ∧ SlR r s f2
end
section
variable {K : PySem.W.Frag} {R H R' H' : Hp}
theorem SlR.keep (e : Same R R') : ∀ (sg : PSt) (sgV : L2.St) (fp : List Addr), (∀ a ∈ fp, H' a = H a) → SlR K R H sg sgV fp → SlR K R' H' sg sgV fp
  | [], _, _, _, h => h
  | none :: r, sgV, fp, k, h => let ⟨x, s, h1, h2⟩ := h; ⟨x, s, h1, SlR.keep e r s fp k h2⟩
  | some o :: r, sgV, fp, k, h => by
    obtain ⟨v, s, f1, f2, h1, rfl, h3, h4⟩ := h
    exact ⟨v, s, f1, f2, h1, rfl, Own.keep e o v f1 (fun b hb => k b (List.mem_append_left _ hb)) h3, SlR.keep e r s f2 (fun b hb => k b (List.mem_append_right _ hb)) h4⟩
theorem SlR.there : ∀ (sg : PSt) (sgV : L2.St) (fp : List Addr), SlR K R H sg sgV fp → ∀ a ∈ fp, ∃ x, H a = some x
  | [], _, _, h, a, ha => by rw [h.2] at ha; cases ha
  | none :: r, sgV, fp, h, a, ha => let ⟨x, s, h1, h2⟩ := h; SlR.there r s fp h2 a ha
  | some o :: r, sgV, fp, h, a, ha => by
    obtain ⟨v, s, f1, f2, h1, rfl, h3, h4⟩ := h
    rcases List.mem_append.mp ha with ha | ha
    · exact Own.there o v f1 h3 a ha
    · exact SlR.there r s f2 h4 a ha
theorem SlR.quiet (q : Quiet R H R' H') {sg : PSt} {sgV : L2.St} {fp : List Addr} (h : SlR K R H sg sgV fp) : SlR K R' H' sg sgV fp :=
  SlR.keep q.r sg sgV fp (fun a ha => by obtain ⟨x, e⟩ := SlR.there sg sgV fp h a ha; rw [e]; exact q.h a x e) h
theorem SlR.len : ∀ {sg : PSt} {sgV : L2.St} {fp : List Addr}, SlR K R H sg sgV fp → sg.length = sgV.length
  | [], _, _, h => by rw [h.1]; rfl
  | none :: r, _, fp, h => by obtain ⟨x, s, rfl, h2⟩ := h; simp [SlR.len h2]
  | some o :: r, _, fp, h => by obtain ⟨v, s, f1, f2, rfl, rfl, h3, h4⟩ := h; simp [SlR.len h4]
/-- a slot is read -/
theorem SlR.get : ∀ {sg : PSt} {sgV : L2.St} {fp : List Addr} {i : Nat} {o : O}, SlR K R H sg sgV fp → sg[i]? = some (some o) → ∃ v f, sgV[i]? = some (some v) ∧ Own K R H o v f ∧ ∀ a ∈ f, a ∈ fp
  | [], _, _, i, o, h, e => by simp at e
  | none :: r, _, fp, 0, o, h, e => by simp at e
  | none :: r, _, fp, i + 1, o, h, e => by
    obtain ⟨x, s, rfl, h2⟩ := h
    obtain ⟨v, f, h1, h3, h4⟩ := SlR.get (i := i) h2 (by simpa using e)
    exact ⟨v, f, by simpa using h1, h3, h4⟩
  | some o' :: r, _, fp, 0, o, h, e => by
    obtain ⟨v, s, f1, f2, rfl, rfl, h3, h4⟩ := h
    simp at e
    subst e
    exact ⟨v, f1, rfl, h3, fun a ha => List.mem_append_left _ ha⟩
  | some o' :: r, _, fp, i + 1, o, h, e => by
    obtain ⟨v, s, f1, f2, rfl, rfl, h3, h4⟩ := h
    obtain ⟨v', f, h1, h3, h5⟩ := SlR.get (i := i) h4 (by simpa using e)
    exact ⟨v', f, by simpa using h1, h3, fun a ha => List.mem_append_right _ (h5 a ha)⟩
/-- a slot's tree is taken out -/
theorem SlR.take : ∀ {sg : PSt} {sgV : L2.St} {fp : List Addr} {i : Nat} {o : O}, SlR K R H sg sgV fp → sg[i]? = some (some o) →
    ∃ v f1 f2, sgV[i]? = some (some v) ∧ Own K R H o v f1 ∧ fp.Perm (f1 ++ f2) ∧ SlR K R H (sg.set i none) sgV f2
  | [], _, _, i, o, h, e => by simp at e
  | none :: r, _, fp, 0, o, h, e => by simp at e
  | none :: r, _, fp, i + 1, o, h, e => by
    obtain ⟨x, s, rfl, h2⟩ := h
    obtain ⟨v, f1, f2, h1, h3, h4, h5⟩ := SlR.take (i := i) h2 (by simpa using e)
    exact ⟨v, f1, f2, by simpa using h1, h3, h4, ⟨x, s, rfl, h5⟩⟩
  | some o' :: r, _, fp, 0, o, h, e => by
    obtain ⟨v, s, f1, f2, rfl, rfl, h3, h4⟩ := h
    simp at e
    subst e
    exact ⟨v, f1, f2, rfl, h3, .refl _, ⟨_, s, rfl, h4⟩⟩
  | some o' :: r, _, fp, i + 1, o, h, e => by
    obtain ⟨v, s, f1, f2, rfl, rfl, h3, h4⟩ := h
    obtain ⟨v', g1, g2, h1, h6, h7, h5⟩ := SlR.take (i := i) h4 (by simpa using e)
    refine ⟨v', g1, f1 ++ g2, by simpa using h1, h6, ?_, ⟨v, s, f1, g2, rfl, rfl, h3, h5⟩⟩
    refine (List.Perm.append_left f1 h7).trans ?_
    rw [← List.append_assoc, ← List.append_assoc]
    exact List.Perm.append_right g2 List.perm_append_comm
/-- a slot is forgotten -/
theorem SlR.drop : ∀ {sg : PSt} {sgV : L2.St} {fp : List Addr} (i : Nat) (x : Option V), SlR K R H sg sgV fp → ∃ f, SlR K R H (sg.set i none) (sgV.set i x) f ∧ f.Sublist fp
  | [], _, _, i, x, h => ⟨[], by rw [h.1]; exact ⟨rfl, rfl⟩, List.nil_sublist _⟩
  | none :: r, _, fp, 0, x, h => by
    obtain ⟨y, s, rfl, h2⟩ := h
    exact ⟨fp, ⟨x, s, rfl, h2⟩, List.Sublist.refl _⟩
  | none :: r, _, fp, i + 1, x, h => by
    obtain ⟨y, s, rfl, h2⟩ := h
    obtain ⟨f, h3, h4⟩ := SlR.drop i x h2
    exact ⟨f, ⟨y, _, rfl, h3⟩, h4⟩
  | some o' :: r, _, fp, 0, x, h => by
    obtain ⟨v, s, f1, f2, rfl, rfl, h3, h4⟩ := h
    exact ⟨f2, ⟨x, s, rfl, h4⟩, List.sublist_append_right _ _⟩
  | some o' :: r, _, fp, i + 1, x, h => by
    obtain ⟨v, s, f1, f2, rfl, rfl, h3, h4⟩ := h
    obtain ⟨f, h5, h6⟩ := SlR.drop i x h4
    exact ⟨f1 ++ f, ⟨v, _, f1, f, rfl, rfl, h3, h5⟩, List.Sublist.append_left h6 f1⟩
/-- an empty slot is filled -/
theorem SlR.put : ∀ {sg : PSt} {sgV : L2.St} {fp f1 : List Addr} {i : Nat} {o : O} {v : V}, SlR K R H sg sgV fp → sg[i]? = some none → Own K R H o v f1 →
    ∃ f, SlR K R H (sg.set i (some o)) (sgV.set i (some v)) f ∧ f.Perm (f1 ++ fp)
  | [], _, _, _, i, o, v, h, e, _ => by simp at e
  | none :: r, _, fp, f1, 0, o, v, h, e, w => by
    obtain ⟨y, s, rfl, h2⟩ := h
    exact ⟨f1 ++ fp, ⟨v, s, f1, fp, rfl, rfl, w, h2⟩, .refl _⟩
  | none :: r, _, fp, f1, i + 1, o, v, h, e, w => by
    obtain ⟨y, s, rfl, h2⟩ := h
    obtain ⟨f, h3, h4⟩ := SlR.put (i := i) h2 (by simpa using e) w
    exact ⟨f, ⟨y, _, rfl, h3⟩, h4⟩
  | some o' :: r, _, fp, f1, 0, o, v, h, e, w => by simp at e
  | some o' :: r, _, fp, f1, i + 1, o, v, h, e, w => by
    obtain ⟨y, s, g1, g2, rfl, rfl, h3, h4⟩ := h
    obtain ⟨f, h5, h6⟩ := SlR.put (i := i) h4 (by simpa using e) w
    refine ⟨g1 ++ f, ⟨y, _, g1, f, rfl, rfl, h3, h5⟩, (List.Perm.append_left g1 h6).trans ?_⟩
    rw [← List.append_assoc, ← List.append_assoc]
    exact List.Perm.append_right g2 List.perm_append_comm
/-- only what stands counts: another frame's values for empty slots -/
theorem SlR.weak : ∀ {sg : PSt} {sgV sgV' : L2.St} {fp : List Addr}, SlR K R H sg sgV fp → sgV'.length = sgV.length → (∀ (i : Nat) o, sg[i]? = some (some o) → sgV'[i]? = sgV[i]?) → SlR K R H sg sgV' fp
  | [], sgV, sgV', _, h, hl, _ => by
    rw [h.1] at hl
    exact ⟨List.length_eq_zero_iff.mp hl, h.2⟩
  | none :: r, _, sgV', fp, h, hl, k => by
    obtain ⟨y, s, rfl, h2⟩ := h
    cases sgV' with
    | nil => simp at hl
    | cons y' s' => exact ⟨y', s', rfl, SlR.weak h2 (by simpa using hl) fun i o e => by simpa using k (i + 1) o (by simpa using e)⟩
  | some o' :: r, _, sgV', fp, h, hl, k => by
    obtain ⟨y, s, g1, g2, rfl, rfl, h3, h4⟩ := h
    cases sgV' with
    | nil => simp at hl
    | cons y' s' =>
      have e0 := k 0 o' (by simp)
      simp at e0
      subst e0
      exact ⟨y, s', g1, g2, rfl, rfl, h3, SlR.weak h4 (by simpa using hl) fun i o e => by simpa using k (i + 1) o (by simpa using e)⟩
end

/-! ### the relation between the pure state and the heap's -/
/-- the entry of a def: its heap, the part that stays, what of the callers' own it may change -/
structure Ent where
  H : Hp
  R : Hp
  A : List Addr
structure Rel (K : PySem.W.Frag) (B : Ent) (R H : Hp) (sgV : L2.St) (sg : PSt) (tu : List O) (vs : List V) : Prop where
  ex : ∃ f1 f2, SlR K R H sg sgV f1 ∧ OwnL K R H tu vs f2 ∧ (f1 ++ f2).Nodup ∧ ∀ a ∈ f1 ++ f2, R a = none ∧ (a ∈ B.A ∨ B.H a = none)
  sub : Same R H
  r0 : Same B.R R
  h0 : ∀ a o, B.H a = some o → a ∉ B.A → H a = some o
  rn : ∀ a, R a ≠ none → B.R a ≠ none ∨ a ∈ B.A ∨ B.H a = none
  nd : ∀ a u, R a = some u → isD u = false
section
variable {K : PySem.W.Frag} {B : Ent} {R H R' H' : Hp} {sgV : L2.St} {sg : PSt} {tu : List O} {vs : List V}
theorem Rel.quiet (r : Rel K B R H sgV sg tu vs) (q : Quiet R H R' H') : Rel K B R' H' sgV sg tu vs := by
  obtain ⟨f1, f2, h1, h2, h3, h4⟩ := r.ex
  refine ⟨⟨f1, f2, h1.quiet q, h2.quiet q, h3, fun a ha => ⟨?_, (h4 a ha).2⟩⟩, q.s, r.r0.trans q.r, fun a o e na => q.h _ _ (r.h0 a o e na), fun a h => ?_, fun a u e => (q.n a u e).elim (r.nd a u) fun z => z.2⟩
  · cases e : R' a with
    | none => rfl
    | some x =>
      have hx : ∃ y, H a = some y := (List.mem_append.mp ha).elim (fun z => SlR.there _ _ _ h1 a z) (fun z => OwnL.there _ _ _ h2 a z)
      obtain ⟨y, hy⟩ := hx
      rcases q.n a x e with z | ⟨z, _⟩
      · rw [(h4 a ha).1] at z; cases z
      · rw [z] at hy; cases hy
  · cases e' : R' a with
    | none => exact absurd e' h
    | some u =>
    rcases q.n a u e' with z | ⟨z, _⟩
    · exact r.rn a (by rw [z]; exact Option.some_ne_none _)
    · cases e : B.H a with
      | none => exact .inr (.inr rfl)
      | some o =>
        by_cases ha : a ∈ B.A
        · exact .inr (.inl ha)
        · have := r.h0 a o e ha
          rw [z] at this; cases this
theorem Rel.slots (r : Rel K B R H sgV sg tu vs) : ∃ fp, SlR K R H sg sgV fp := let ⟨f1, _, h, _⟩ := r.ex; ⟨f1, h⟩
theorem Rel.len (r : Rel K B R H sgV sg tu vs) : sg.length = sgV.length := let ⟨_, h⟩ := r.slots; h.len
/-- a new object of one's own becomes the first temp -/
theorem Rel.push (r : Rel K B R H sgV sg tu vs) {o : O} {v : V} {f : List Addr} (q : Quiet R H R' H') (w : Own K R' H' o v f) (nd : f.Nodup) (hn : ∀ a ∈ f, H a = none) (hr : ∀ a ∈ f, R' a = none) : Rel K B R' H' sgV sg (o :: tu) (v :: vs) := by
  have r' := r.quiet q
  obtain ⟨f1, f2, h1, h2, h3, h4⟩ := r.ex
  have h1' := h1.quiet q
  have h2' := h2.quiet q
  refine ⟨⟨f1, f ++ f2, h1', ⟨v, vs, f, f2, rfl, rfl, w, h2'⟩, ?_, ?_⟩, r'.sub, r'.r0, r'.h0, r'.rn, r'.nd⟩
  · have there : ∀ a ∈ f1 ++ f2, ∃ y, H a = some y := fun a ha => (List.mem_append.mp ha).elim (fun z => SlR.there _ _ _ h1 a z) (fun z => OwnL.there _ _ _ h2 a z)
    have p : (f1 ++ (f ++ f2)).Perm (f ++ (f1 ++ f2)) := by
      rw [← List.append_assoc, ← List.append_assoc]
      exact List.Perm.append_right f2 List.perm_append_comm
    rw [p.nodup_iff]
    rw [List.nodup_append]
    refine ⟨nd, h3, fun a ha b hb e => ?_⟩
    subst e
    obtain ⟨y, hy⟩ := there a hb
    rw [hn a ha] at hy; cases hy
  · intro a ha
    have hm : a ∈ f ∨ a ∈ f1 ++ f2 := by
      simp only [List.mem_append] at ha ⊢
      rcases ha with z | z | z
      · exact .inr (.inl z)
      · exact .inl z
      · exact .inr (.inr z)
    rcases hm with z | z
    · refine ⟨hr a z, ?_⟩
      cases e : B.H a with
      | none => exact .inr rfl
      | some o' =>
        by_cases ha : a ∈ B.A
        · exact .inl ha
        · have := r.h0 a o' e ha
          rw [hn a z] at this; cases this
    · obtain ⟨g1, g2, k1, k2, k3, k4⟩ := r'.ex
      refine ⟨?_, (h4 a z).2⟩
      cases e : R' a with
      | none => rfl
      | some x =>
        obtain ⟨y, hy⟩ : ∃ y, H a = some y := (List.mem_append.mp z).elim (fun z => SlR.there _ _ _ h1 a z) (fun z => OwnL.there _ _ _ h2 a z)
        rcases q.n a x e with w | ⟨w, _⟩
        · rw [(h4 a z).1] at w; cases w
        · rw [w] at hy; cases hy
/-- data that stay as a temp -/
theorem Rel.pushRo (r : Rel K B R H sgV sg tu vs) {d : D} {v : V} (w : Ro K R d v) : Rel K B R H sgV sg (.ro d :: tu) (v :: vs) :=
  r.push (Quiet.refl r.sub) (Own.ro w) List.nodup_nil (fun _ h => nomatch h) (fun _ h => nomatch h)
/-- at ds stand dicts that are locked from now on -/
def Locked (ds : List Addr) (H H' : Hp) : Prop := (∀ a, a ∉ ds → H' a = H a) ∧ ∀ a ∈ ds, ∃ od u, H a = some u ∧ H' a = some (.frz od u)
/-- the part of the first temp comes to what stays; its dicts are locked -/
theorem Rel.frz {o : O} {v : V} (r : Rel K B R H sgV sg (o :: tu) (v :: vs)) : ∃ ds : List Addr, ds.Nodup ∧ (∀ d ∈ ds, ∃ u, H d = some u ∧ isD u = true) ∧ ∀ H', Locked ds H H' →
    ∃ R', Same R R' ∧ Ro K R' o.d v ∧ Rel K B R' H' sgV sg tu vs := by
  obtain ⟨f1, f2, h1, h2, h3, h4⟩ := r.ex
  obtain ⟨v', s, g1, g2, hv, rfl, h5, h6⟩ := h2
  obtain ⟨rfl, rfl⟩ : v = v' ∧ vs = s := by
    injection hv with a b
    exact ⟨a, b⟩
  have g1n : g1.Nodup := by
    rw [List.nodup_append] at h3
    have := h3.2.1
    rw [List.nodup_append] at this
    exact this.1
  refine ⟨g1.filter (fun a => match H a with | some u => isD u | none => false), g1n.sublist List.filter_sublist, fun d hd => ?_, fun H' lk => ?_⟩
  · obtain ⟨_, hd⟩ := List.mem_filter.mp hd
    cases e : H d with
    | none => rw [e] at hd; cases hd
    | some u => rw [e] at hd; exact ⟨u, rfl, hd⟩
  obtain ⟨lk1, lk2⟩ := lk
  have inG : ∀ a, a ∉ g1 → H' a = H a := fun a ha => lk1 a fun z => ha (List.mem_filter.mp z).1
  have lkAt : ∀ a, Lk H H' a := fun a u e => by
    by_cases ha : a ∈ g1.filter (fun a => match H a with | some u => isD u | none => false)
    · obtain ⟨od, u', e', e2⟩ := lk2 a ha
      rw [e] at e'
      cases e'
      refine ⟨.inr ⟨od, e2⟩, fun hu => ?_⟩
      have := (List.mem_filter.mp ha).2
      rw [e] at this
      have t : isD u = true := this
      rw [hu] at t; cases t
    · exact Lk.of (lk1 a ha) u e
  let R' : Hp := fun a => if a ∈ g1 then H' a else R a
  have nr : ∀ a ∈ g1, R a = none := fun a ha => (h4 a (List.mem_append_right _ (List.mem_append_left _ ha))).1
  have e : Same R R' := fun a x hx => by
    show (if a ∈ g1 then H' a else R a) = some x
    by_cases ha : a ∈ g1
    · rw [nr a ha] at hx; cases hx
    · rw [if_neg ha]; exact hx
  have nd := h3
  have disj : ∀ a ∈ f1 ++ g2, a ∉ g1 := fun a ha hg => by
    rw [List.nodup_append] at nd
    obtain ⟨n1, n2, n3⟩ := nd
    rcases List.mem_append.mp ha with z | z
    · exact n3 a z a (List.mem_append_left _ hg) rfl
    · rw [List.nodup_append] at n2
      exact n2.2.2 a hg a z rfl
  refine ⟨R', e, Own.frz e o v g1 (fun a ha u hu => ?_) h5, ⟨⟨f1, g2, SlR.keep e sg sgV f1 (fun a ha => inG a (disj a (List.mem_append_left _ ha))) h1, OwnL.keep e tu vs g2 (fun a ha => inG a (disj a (List.mem_append_right _ ha))) h6, ?_, fun a ha => ?_⟩, fun a x hx => ?_, r.r0.trans e, fun a x hx na => ?_, fun a ha => ?_, fun a u hu => ?_⟩⟩
  · obtain ⟨z1, z2⟩ := lkAt a u hu
    have q : R' a = H' a := if_pos ha
    refine ⟨?_, fun w => q.trans (z2 w)⟩
    rcases z1 with z1 | ⟨od, z1⟩
    · exact .inl (q.trans z1)
    · exact .inr ⟨od, q.trans z1⟩
  · refine List.Nodup.sublist ?_ nd
    exact List.Sublist.append_left (List.sublist_append_right _ _) f1
  · have ha' : a ∈ f1 ++ (g1 ++ g2) := by
      simp only [List.mem_append] at ha ⊢
      rcases ha with z | z
      · exact .inl z
      · exact .inr (.inr z)
    refine ⟨?_, (h4 a ha').2⟩
    show (if a ∈ g1 then H' a else R a) = none
    rw [if_neg (disj a ha)]
    exact (h4 a ha').1
  · have hx : (if a ∈ g1 then H' a else R a) = some x := hx
    by_cases hg : a ∈ g1
    · rw [if_pos hg] at hx; exact hx
    · rw [if_neg hg] at hx
      rw [inG a hg]
      exact r.sub a x hx
  · by_cases hg : a ∈ g1
    · rcases (h4 a (List.mem_append_right _ (List.mem_append_left _ hg))).2 with z | z
      · exact absurd z na
      · rw [z] at hx; cases hx
    · rw [inG a hg]; exact r.h0 a x hx na
  · have ha : (if a ∈ g1 then H' a else R a) ≠ none := ha
    by_cases hg : a ∈ g1
    · exact .inr ((h4 a (List.mem_append_right _ (List.mem_append_left _ hg))).2)
    · rw [if_neg hg] at ha; exact r.rn a ha
  · have hu : (if a ∈ g1 then H' a else R a) = some u := hu
    by_cases hg : a ∈ g1
    · rw [if_pos hg] at hu
      by_cases ha : a ∈ g1.filter (fun a => match H a with | some u => isD u | none => false)
      · obtain ⟨od, u', e', e2⟩ := lk2 a ha
        rw [hu] at e2
        cases e2
        rfl
      · rw [lk1 a ha] at hu
        cases q : isD u with
        | false => rfl
        | true => exact absurd (List.mem_filter.mpr ⟨hg, by rw [hu]; exact q⟩) ha
    · rw [if_neg hg] at hu; exact r.nd a u hu
/-- a temp is forgotten -/
theorem Rel.pop {o : O} {v : V} (r : Rel K B R H sgV sg (o :: tu) (v :: vs)) : Rel K B R H sgV sg tu vs := by
  obtain ⟨f1, f2, h1, h2, h3, h4⟩ := r.ex
  obtain ⟨v', s, g1, g2, hv, rfl, h5, h6⟩ := h2
  obtain ⟨rfl, rfl⟩ : v = v' ∧ vs = s := by
    injection hv with a b
    exact ⟨a, b⟩
  have sb : (f1 ++ g2).Sublist (f1 ++ (g1 ++ g2)) := List.Sublist.append_left (List.sublist_append_right _ _) f1
  exact ⟨⟨f1, g2, h1, h6, List.Nodup.sublist sb h3, fun a ha => h4 a (sb.subset ha)⟩, r.sub, r.r0, r.h0, r.rn, r.nd⟩
/-- a slot's tree becomes the first temp -/
theorem Rel.take (r : Rel K B R H sgV sg tu vs) {i : Nat} {o : O} (e : sg[i]? = some (some o)) : ∃ v, sgV[i]? = some (some v) ∧ Rel K B R H sgV (sg.set i none) (o :: tu) (v :: vs) := by
  obtain ⟨f1, f2, h1, h2, h3, h4⟩ := r.ex
  obtain ⟨v, g1, g2, hv, w, p, h5⟩ := h1.take e
  have p2 : (f1 ++ f2).Perm (g2 ++ (g1 ++ f2)) := by
    refine (List.Perm.append_right f2 p).trans ?_
    rw [← List.append_assoc]
    exact List.Perm.append_right f2 List.perm_append_comm
  exact ⟨v, hv, ⟨⟨g2, g1 ++ f2, h5, ⟨v, vs, g1, f2, rfl, rfl, w, h2⟩, p2.nodup_iff.mp h3, fun a ha => h4 a (p2.mem_iff.mpr ha)⟩, r.sub, r.r0, r.h0, r.rn, r.nd⟩⟩
/-- a slot is forgotten -/
theorem Rel.drop (r : Rel K B R H sgV sg tu vs) (i : Nat) (x : Option V) : Rel K B R H (sgV.set i x) (sg.set i none) tu vs := by
  obtain ⟨f1, f2, h1, h2, h3, h4⟩ := r.ex
  obtain ⟨f, h5, sb⟩ := h1.drop i x
  have sb2 : (f ++ f2).Sublist (f1 ++ f2) := List.Sublist.append_right sb f2
  exact ⟨⟨f, f2, h5, h2, List.Nodup.sublist sb2 h3, fun a ha => h4 a (sb2.subset ha)⟩, r.sub, r.r0, r.h0, r.rn, r.nd⟩
theorem set_self {α : Type} : ∀ {l : List α} {i : Nat} {x : α}, l[i]? = some x → l.set i x = l
  | [], i, x, h => rfl
  | a :: l, 0, x, h => by simp at h; subst h; rfl
  | a :: l, i + 1, x, h => by
    show a :: l.set i x = a :: l
    rw [set_self (by simpa using h)]
/-- the first temp is stored in a slot -/
theorem Rel.store {o : O} {v : V} (r : Rel K B R H sgV sg (o :: tu) (v :: vs)) {i : Nat} (hi : i < sg.length) : Rel K B R H (sgV.set i (some v)) (sg.set i (some o)) tu vs := by
  have r2 := r.drop i (some v)
  obtain ⟨f1, f2, h1, h2, h3, h4⟩ := r2.ex
  obtain ⟨v', s, g1, g2, hv, rfl, h5, h6⟩ := h2
  obtain ⟨rfl, rfl⟩ : v = v' ∧ vs = s := by
    injection hv with a b
    exact ⟨a, b⟩
  obtain ⟨f, h7, p⟩ := h1.put (i := i) (by rw [List.getElem?_set_self hi]) h5
  rw [List.set_set, List.set_set] at h7
  have p2 : (f1 ++ (g1 ++ g2)).Perm (f ++ g2) := by
    rw [← List.append_assoc]
    refine List.Perm.append_right g2 ?_
    exact List.perm_append_comm.trans p.symm
  exact ⟨⟨f, g2, h7, h6, p2.nodup_iff.mp h3, fun a ha => h4 a (p2.mem_iff.mpr ha)⟩, r.sub, r.r0, r.h0, r.rn, r.nd⟩
/-- the first temp goes back to its slot -/
theorem Rel.back {o : O} {v : V} (r : Rel K B R H sgV sg (o :: tu) (v :: vs)) {i : Nat} (hi : sgV[i]? = some (some v)) : Rel K B R H sgV (sg.set i (some o)) tu vs := by
  have hl : i < sg.length := by rw [r.len]; exact (List.getElem?_eq_some_iff.mp hi).1
  have := r.store hl
  rw [set_self hi] at this
  exact this
end
end Pu
end
section
set_option Elab.async false
set_option linter.all false
set_option maxRecDepth 100000
set_option maxHeartbeats 4000000
/-! Pu2: readings over the pure state; the judgements; operators by values. -/
namespace Pu
open PySem PySem.Spec PyProof.Rows L2

abbrev TR := PSt → (O → Prop) → Prop
abbrev TM := PSt → (D → PSt → Prop) → Prop
abbrev TW := PSt → (O → PSt → Prop) → Prop
abbrev TB := PSt → (Bool → PSt → Prop) → Prop
abbrev TAR := PSt → (List O → Prop) → Prop
abbrev TAM := PSt → (List D → PSt → Prop) → Prop

section
variable (K : PySem.W.Frag)
def OwE (R H : Hp) : List O → List V → Prop
  | [], vs => vs = []
  | o :: os, vs => ∃ v r f, vs = v :: r ∧ Own K R H o v f ∧ OwE R H os r
def eR (t : TR) : TE := fun sgV H Q => ∃ R sg fp Qp, SlR K R H sg sgV fp ∧ Same R H ∧ t sg Qp ∧ ∀ v H' R' o f, Quiet R H R' H' → Own K R' H' o v f → Qp o → Q v H'
def eM (t : TM) : TE := fun sgV H Q => ∃ B R sg Qp, Rel K B R H sgV sg [] [] ∧ t sg Qp ∧ ∀ v H' R' d sg', Same R R' → Rel K B R' H' sgV sg' [] [] → Ro K R' d v → Qp d sg' → Q v H'
def eO (t : TW) : TE := fun sgV H Q => ∃ B R sg Qp, Rel K B R H sgV sg [] [] ∧ t sg Qp ∧ ∀ v H' R' o sg', Same R R' → Rel K B R' H' sgV sg' [o] [v] → Qp o sg' → Q v H'
def eT (t : TB) : TT := fun sgV H Q => ∃ B R sg Qp, Rel K B R H sgV sg [] [] ∧ t sg Qp ∧ ∀ b H' R' sg', Same R R' → Rel K B R' H' sgV sg' [] [] → Qp b sg' → Q b H'
def eAR (t : TAR) : TA := fun sgV H Q => ∃ R sg fp Qp, SlR K R H sg sgV fp ∧ Same R H ∧ t sg Qp ∧ ∀ vs H' R' os, Quiet R H R' H' → OwE K R' H' os vs → Qp os → Q vs H'
def eAM (t : TAM) : TA := fun sgV H Q => ∃ B R sg Qp, Rel K B R H sgV sg [] [] ∧ t sg Qp ∧ ∀ vs H' R' ds sg', Same R R' → Rel K B R' H' sgV sg' [] [] → RoL K R' ds vs → Qp ds sg' → Q vs H'
end

theorem pe_weak {X : Cx} {e : Expr} {t t' : TE} (h : PE X e t) (k : ∀ sg H Q, t' sg H Q → t sg H Q) : PE X e t' := ⟨fun pins s sg H Q I q => h.run pins s sg H Q I (k sg H Q q)⟩
theorem pt_weak {X : Cx} {e : Expr} {t t' : TT} (h : PT X e t) (k : ∀ sg H Q, t' sg H Q → t sg H Q) : PT X e t' := ⟨fun pins s sg H Q I q => h.run pins s sg H Q I (k sg H Q q)⟩
theorem pw_weak {X : Cx} {e : Expr} {t t' : TT} (h : PW X e t) (k : ∀ sg H Q, t' sg H Q → t sg H Q) : PW X e t' := ⟨fun w pins s sg H Q I q => h.run w pins s sg H Q I (k sg H Q q)⟩
theorem pa_weak {X : Cx} {e : List Expr} {t t' : TA} (h : PA X e t) (k : ∀ sg H Q, t' sg H Q → t sg H Q) : PA X e t' := ⟨fun p pins s sg H Q I q => h.run p pins s sg H Q I (k sg H Q q)⟩
theorem ps_weak {X : Cx} {e : Stmt} {t t' : TS} (h : PS X e t) (k : ∀ D sg H, t' D sg H → t D sg H) : PS X e t' := ⟨fun pins s sg H D I q => h.run pins s sg H D I (k D sg H q)⟩
theorem pss_weak {X : Cx} {e : List Stmt} {t t' : TS} (h : PSs X e t) (k : ∀ D sg H, t' D sg H → t D sg H) : PSs X e t' := ⟨fun pins s sg H D I q => h.run pins s sg H D I (k D sg H q)⟩

abbrev LR (X : Cx) (e : Expr) (t : TR) : Prop := PE X e (eR X.K t)
abbrev LM (X : Cx) (e : Expr) (t : TM) : Prop := PE X e (eM X.K t)
abbrev LO (X : Cx) (e : Expr) (t : TW) : Prop := PE X e (eO X.K t)
abbrev LT (X : Cx) (e : Expr) (t : TB) : Prop := PT X e (eT X.K t)
abbrev LW (X : Cx) (e : Expr) (t : TB) : Prop := PW X e (eT X.K t)
abbrev LAR (X : Cx) (es : List Expr) (t : TAR) : Prop := PA X es (eAR X.K t)
abbrev LAM (X : Cx) (es : List Expr) (t : TAM) : Prop := PA X es (eAM X.K t)

/-! ### from one to the other -/
def onRo (Q : D → Prop) : O → Prop
  | .ro d => Q d
  | _ => False
theorem onRo_iff {Q : D → Prop} {o : O} (h : onRo Q o) : ∃ d, o = .ro d ∧ Q d := by
  cases o with
  | ro d => exact ⟨d, rfl, h⟩
  | lst _ => exact h.elim
  | dct _ _ => exact h.elim
  | ins _ _ => exact h.elim
def mR (t : TR) : TM := fun sg Q => t sg (onRo fun d => Q d sg)
def wM (t : TM) : TW := fun sg Q => t sg fun d sg' => Q (.ro d) sg'
def mW (t : TW) : TM := fun sg Q => t sg fun o sg' => Q o.d sg'
section
variable {X : Cx} {e : Expr} {es : List Expr}
theorem LR.m {t : TR} (h : LR X e t) : LM X e (mR t) := pe_weak h fun sgV H Q ⟨B, R, sg, Qp, r, ht, k⟩ => by
  obtain ⟨fp, sl⟩ := r.slots
  refine ⟨R, sg, fp, _, sl, r.sub, ht, fun v H' R' o f q w hq => ?_⟩
  obtain ⟨d, rfl, hq⟩ := onRo_iff hq
  exact k v H' R' d sg q.r (r.quiet q) w.2 hq
theorem LM.w {t : TM} (h : LM X e t) : LO X e (wM t) := pe_weak h fun sgV H Q ⟨B, R, sg, Qp, r, ht, k⟩ =>
  ⟨B, R, sg, _, r, ht, fun v H' R' d sg' s r' w hq => k v H' R' (.ro d) sg' s (r'.pushRo w) hq⟩
/-- dicts are locked for good -/
theorem locks_inv {pins : List (Addr × Obj)} {sg : L2.St} {s : Shared} : ∀ {ds : List Addr} {H : Hp}, Inv X pins sg H s → ds.Nodup → (∀ d ∈ ds, ∃ u, H d = some u ∧ isD u = true) → ∃ H', Locked ds H H' ∧ Inv X pins sg H' s
  | [], H, I, _, _ => ⟨H, ⟨fun _ _ => rfl, fun _ h => nomatch h⟩, I⟩
  | d :: ds, H, I, nd, h => by
    obtain ⟨hn, nd⟩ := List.nodup_cons.mp nd
    obtain ⟨u, hu, hd⟩ := h d List.mem_cons_self
    have mu : Mut (some u) := by cases u <;> first | trivial | cases hd
    obtain ⟨od, I2⟩ := I.lock hu mu
    obtain ⟨H', ⟨l1, l2⟩, I3⟩ := locks_inv (H := upd H d (.frz od u)) I2 nd fun e he => by
      rw [upd_ne (show e ≠ d from fun z => hn (by rw [← z]; exact he))]
      exact h e (List.mem_cons_of_mem _ he)
    refine ⟨H', ⟨fun a ha => ?_, fun a ha => ?_⟩, I3⟩
    · rw [l1 a (fun z => ha (List.mem_cons_of_mem _ z)), upd_ne (show a ≠ d from fun z => ha (by rw [z]; exact List.mem_cons_self))]
    · by_cases e : a = d
      · subst e
        refine ⟨od, u, hu, ?_⟩
        rw [l1 a hn, upd_same]
      · obtain ⟨o2, u2, h1, h2⟩ := l2 a ((List.mem_cons.mp ha).resolve_left e)
        rw [upd_ne e] at h1
        exact ⟨o2, u2, h1, h2⟩
theorem pe_locks {t : TE} (h : PE X e t) : PE X e (fun sg H Q => t sg H fun v H1 => ∃ ds : List Addr, ds.Nodup ∧ (∀ d ∈ ds, ∃ u, H1 d = some u ∧ isD u = true) ∧ ∀ H2, Locked ds H1 H2 → Q v H2) :=
  ⟨fun pins s sg H Q I hq => thn (h.run pins s sg H _ I hq) fun u s1 ⟨v, H1, I1, rv, ds, nd, hd, k⟩ => by
    obtain ⟨H2, l, I2⟩ := locks_inv I1 nd hd
    exact ⟨v, H2, I2, rv, k H2 l⟩⟩
theorem LO.m {t : TW} (h : LO X e t) : LM X e (mW t) := pe_weak (pe_locks h) fun sgV H Q ⟨B, R, sg, Qp, r, ht, k⟩ =>
  ⟨B, R, sg, _, r, ht, fun v H' R' o sg' s r' hq => by
    obtain ⟨ds, nd, hd, k2⟩ := r'.frz
    refine ⟨ds, nd, hd, fun H2 l => ?_⟩
    obtain ⟨R2, s2, w, r2⟩ := k2 H2 l
    exact k v H2 R2 o.d sg' (s.trans s2) r2 w hq⟩
end

/-! ### names and constants -/
def rC (d : D) : TR := fun _ Q => Q (.ro d)
def rV (i : Nat) : TR := fun sg Q => match sg[i]? with
  | some (some o) => Q o
  | _ => False
section
variable {X : Cx} {pos : Pos}
theorem lr_c {e : Expr} {v : V} {d : D} (h : PE X e (tC v)) (w : ∀ K R, Ro K R d v) : LR X e (rC d) := pe_weak h fun sgV H Q ⟨R, sg, fp, Qp, sl, s, ht, k⟩ =>
  k v H R (.ro d) [] (Quiet.refl s) (Own.ro (w _ _)) ht
theorem lr_int {i j} : LR X (.Constant (.int i) j pos) (rC (.int i)) := lr_c pe_int fun _ _ => rfl
theorem lr_bl {b j} : LR X (.Constant (.bool b) j pos) (rC (.bl b)) := lr_c pe_bl fun _ _ => rfl
theorem lr_non {j} : LR X (.Constant .none j pos) (rC .non) := lr_c pe_non fun _ _ => rfl
theorem lr_str {x j} : LR X (.Constant (.str x) j pos) (rC (.str x)) := lr_c pe_str fun _ _ => rfl
theorem lv_get {sg : PSt} {i : Nat} {Q : O → Prop} (h : rV i sg Q) : ∃ o, sg[i]? = some (some o) ∧ Q o := by
  unfold rV at h
  split at h
  · rename_i o e
    exact ⟨o, e, h⟩
  · exact h.elim
theorem lr_v (i : Nat) {x : Str} (hN : X.N[i]? = some x := by rfl) (hv : Vis X.env.scope x := by first | exact Or.inl rfl | exact Or.inr (Or.inl rfl) | exact Or.inr (Or.inr rfl)) (hd : (x == ("__debug__" : Str)) = false := by decide)
    (hcd : (x == ("__classdict__" : Str)) = false := by decide) : LR X (.Name x pos) (rV i) := pe_weak (pe_var hN hv hd hcd) fun sgV H Q ⟨R, sg, fp, Qp, sl, s, ht, k⟩ => by
  obtain ⟨o, e, q⟩ := lv_get ht
  obtain ⟨v, f, hv, w, _⟩ := sl.get e
  exact ⟨v, hv, k v H R o f (Quiet.refl s) w q⟩
/-- a local's own tree is handed over: the name stands for nothing from then on -/
def wMv (i : Nat) : TW := fun sg Q => match sg[i]? with
  | some (some o) => Q o (sg.set i none)
  | _ => False
theorem lo_mv (i : Nat) {x : Str} (hN : X.N[i]? = some x := by rfl) (hv : Vis X.env.scope x := by first | exact Or.inl rfl | exact Or.inr (Or.inl rfl) | exact Or.inr (Or.inr rfl)) (hd : (x == ("__debug__" : Str)) = false := by decide)
    (hcd : (x == ("__classdict__" : Str)) = false := by decide) : LO X (.Name x pos) (wMv i) := pe_weak (pe_var hN hv hd hcd) fun sgV H Q ⟨B, R, sg, Qp, r, ht, k⟩ => by
  unfold wMv at ht
  split at ht
  · rename_i o e
    obtain ⟨v, hv, r2⟩ := r.take e
    exact ⟨v, hv, k v H R o _ (Same.refl _) r2 ht⟩
  · exact ht.elim
/-- .. stays from then on -/
def mFz (i : Nat) : TM := fun sg Q => match sg[i]? with
  | some (some o) => Q o.d (sg.set i (some (.ro o.d)))
  | _ => False
theorem lm_fz (i : Nat) {x : Str} (hN : X.N[i]? = some x := by rfl) (hv : Vis X.env.scope x := by first | exact Or.inl rfl | exact Or.inr (Or.inl rfl) | exact Or.inr (Or.inr rfl)) (hd : (x == ("__debug__" : Str)) = false := by decide)
    (hcd : (x == ("__classdict__" : Str)) = false := by decide) : LM X (.Name x pos) (mFz i) := pe_weak (pe_locks (pe_var hN hv hd hcd)) fun sgV H Q ⟨B, R, sg, Qp, r, ht, k⟩ => by
  unfold mFz at ht
  split at ht
  · rename_i o e
    obtain ⟨v, hv, r2⟩ := r.take e
    obtain ⟨ds, nd, hd, k2⟩ := r2.frz
    refine ⟨v, hv, ds, nd, hd, fun H2 l => ?_⟩
    obtain ⟨R2, s2, w, r3⟩ := k2 H2 l
    have r4 := (r3.pushRo w).back hv
    rw [List.set_set] at r4
    exact k v H2 R2 o.d _ s2 r4 w ht
  · exact ht.elim
/-- a module's constant -/
theorem lr_gint {x : Str} {i : Int} (hg : Gl X x) (hm : ∃ t, X.mg x = some (.int i t)) (hd : (x == ("__debug__" : Str)) = false := by decide) : LR X (.Name x pos) (rC (.int i)) := by
  obtain ⟨t, hm⟩ := hm
  exact lr_c (pe_glob hg hm (v := .int i) ⟨t, rfl⟩ hd) fun _ _ => rfl
theorem lr_gstr {x z : Str} (hg : Gl X x) (hm : ∃ t, X.mg x = some (.str z t)) (hd : (x == ("__debug__" : Str)) = false := by decide) : LR X (.Name x pos) (rC (.str z)) := by
  obtain ⟨t, hm⟩ := hm
  exact lr_c (pe_glob hg hm (v := .str z) ⟨t, rfl⟩ hd) fun _ _ => rfl
end

/-! ### operators by values -/
section
variable (K : PySem.W.Frag)
abbrev P1 := O → (O → Prop) → Prop
abbrev P2 := O → O → (O → Prop) → Prop
abbrev PN := List O → (O → Prop) → Prop
def V1 (r : V → Hp → VK → Prop) (p : P1) : Prop := ∀ (R H : Hp) (x : V) (o1 : O) (f1 : List Addr) (Qp : O → Prop) (Q : VK), Same R H → Own K R H o1 x f1 → p o1 Qp → (∀ v H' R' o f, Quiet R H R' H' → Own K R' H' o v f → Qp o → Q v H') → r x H Q
def V2 (r : R2) (p : P2) : Prop := ∀ (R H : Hp) (x y : V) (o1 o2 : O) (f1 f2 : List Addr) (Qp : O → Prop) (Q : VK), Same R H → Own K R H o1 x f1 → Own K R H o2 y f2 → p o1 o2 Qp → (∀ v H' R' o f, Quiet R H R' H' → Own K R' H' o v f → Qp o → Q v H') → r x y H Q
def VN (r : List V → Hp → VK → Prop) (p : PN) : Prop := ∀ (R H : Hp) (vs : List V) (os : List O) (Qp : O → Prop) (Q : VK), Same R H → OwE K R H os vs → p os Qp → (∀ v H' R' o f, Quiet R H R' H' → Own K R' H' o v f → Qp o → Q v H') → r vs H Q
end
def r1 (p : P1) (ta : TR) : TR := fun sg Q => ta sg fun o => p o Q
def r2 (p : P2) (ta tb : TR) : TR := fun sg Q => ta sg fun o1 => tb sg fun o2 => p o1 o2 Q
def rN (p : PN) (ta : TAR) : TR := fun sg Q => ta sg fun os => p os Q
def m1 (p : P1) (ta : TM) : TM := fun sg Q => ta sg fun d sg1 => p (.ro d) (onRo fun e => Q e sg1)
def m2 (p : P2) (ta tb : TM) : TM := fun sg Q => ta sg fun d1 sg1 => tb sg1 fun d2 sg2 => p (.ro d1) (.ro d2) (onRo fun e => Q e sg2)
def mN (p : PN) (ta : TAM) : TM := fun sg Q => ta sg fun ds sg1 => p (ds.map O.ro) (onRo fun e => Q e sg1)
section
variable {K : PySem.W.Frag} {R H R' H' : Hp}
theorem OwE.quiet (q : Quiet R H R' H') : ∀ {os : List O} {vs : List V}, OwE K R H os vs → OwE K R' H' os vs
  | [], _, h => h
  | o :: os, _, h => let ⟨v, r, f, h1, h2, h3⟩ := h; ⟨v, r, f, h1, h2.quiet q, OwE.quiet q h3⟩
theorem OwE.ro : ∀ {ds : List D} {vs : List V}, RoL K R ds vs → OwE K R H (ds.map O.ro) vs
  | [], _, h => h
  | d :: ds, _, h => let ⟨v, r, h1, h2, h3⟩ := h; ⟨v, r, [], h1, Own.ro h2, OwE.ro h3⟩
theorem OwL.e : ∀ {os : List O} {vs : List V} {f : List Addr}, OwnL K R H os vs f → OwE K R H os vs
  | [], _, _, h => h.1
  | o :: os, _, _, h => let ⟨v, r, f1, f2, h1, _, h3, h4⟩ := h; ⟨v, r, f1, h1, h3, OwL.e h4⟩
theorem opR_1 {r : V → Hp → VK → Prop} {p : P1} (h : V1 K r p) {ta : TR} {sgV : L2.St} {Q : VK} (q : eR K (r1 p ta) sgV H Q) : tUn r (eR K ta) sgV H Q := by
  obtain ⟨R, sg, fp, Qp, sl, s, ht, k⟩ := q
  refine ⟨R, sg, fp, _, sl, s, ht, fun v H1 R1 o f q1 w hq => ?_⟩
  exact h R1 H1 v o f Qp Q q1.s w hq fun v' H' R' o' f' q2 w' hq' => k v' H' R' o' f' (q1.trans q2) w' hq'
theorem opR_2 {r : R2} {p : P2} (h : V2 K r p) {ta tb : TR} {sgV : L2.St} {Q : VK} (q : eR K (r2 p ta tb) sgV H Q) : tOp r (eR K ta) (eR K tb) sgV H Q := by
  obtain ⟨R, sg, fp, Qp, sl, s, ht, k⟩ := q
  refine ⟨R, sg, fp, _, sl, s, ht, fun v H1 R1 o f q1 w hq => ?_⟩
  refine ⟨R1, sg, fp, _, sl.quiet q1, q1.s, hq, fun v2 H2 R2 o2 f2 q2 w2 hq2 => ?_⟩
  exact h R2 H2 v v2 o o2 f f2 Qp Q q2.s (w.quiet q2) w2 hq2 fun v' H' R' o' f' q3 w' hq' => k v' H' R' o' f' ((q1.trans q2).trans q3) w' hq'
theorem opR_N {r : List V → Hp → VK → Prop} {p : PN} (h : VN K r p) {ta : TAR} {sgV : L2.St} {Q : VK} (q : eR K (rN p ta) sgV H Q) : tCB r (eAR K ta) sgV H Q := by
  obtain ⟨R, sg, fp, Qp, sl, s, ht, k⟩ := q
  refine ⟨R, sg, fp, _, sl, s, ht, fun vs H1 R1 os q1 w hq => ?_⟩
  exact h R1 H1 vs os Qp Q q1.s w hq fun v' H' R' o' f' q2 w' hq' => k v' H' R' o' f' (q1.trans q2) w' hq'
theorem opM_1 {r : V → Hp → VK → Prop} {p : P1} (h : V1 K r p) {ta : TM} {sgV : L2.St} {Q : VK} (q : eM K (m1 p ta) sgV H Q) : tUn r (eM K ta) sgV H Q := by
  obtain ⟨B, R, sg, Qp, rl, ht, k⟩ := q
  refine ⟨B, R, sg, _, rl, ht, fun v H1 R1 d sg1 s1 rl1 w hq => ?_⟩
  refine h R1 H1 v (.ro d) [] _ Q rl1.sub (Own.ro w) hq fun v' H' R' o' f' q2 w' hq' => ?_
  obtain ⟨e, rfl, hq'⟩ := onRo_iff hq'
  exact k v' H' R' e sg1 (s1.trans q2.r) (rl1.quiet q2) w'.2 hq'
theorem opM_2 {r : R2} {p : P2} (h : V2 K r p) {ta tb : TM} {sgV : L2.St} {Q : VK} (q : eM K (m2 p ta tb) sgV H Q) : tOp r (eM K ta) (eM K tb) sgV H Q := by
  obtain ⟨B, R, sg, Qp, rl, ht, k⟩ := q
  refine ⟨B, R, sg, _, rl, ht, fun v H1 R1 d sg1 s1 rl1 w hq => ?_⟩
  refine ⟨B, R1, sg1, _, rl1, hq, fun v2 H2 R2 d2 sg2 s2 rl2 w2 hq2 => ?_⟩
  refine h R2 H2 v v2 (.ro d) (.ro d2) [] [] _ Q rl2.sub (Own.ro (Ro.mono s2 _ _ w)) (Own.ro w2) hq2 fun v' H' R' o' f' q2 w' hq' => ?_
  obtain ⟨e, rfl, hq'⟩ := onRo_iff hq'
  exact k v' H' R' e sg2 ((s1.trans s2).trans q2.r) (rl2.quiet q2) w'.2 hq'
theorem opM_N {r : List V → Hp → VK → Prop} {p : PN} (h : VN K r p) {ta : TAM} {sgV : L2.St} {Q : VK} (q : eM K (mN p ta) sgV H Q) : tCB r (eAM K ta) sgV H Q := by
  obtain ⟨B, R, sg, Qp, rl, ht, k⟩ := q
  refine ⟨B, R, sg, _, rl, ht, fun vs H1 R1 ds sg1 s1 rl1 w hq => ?_⟩
  refine h R1 H1 vs _ _ Q rl1.sub (OwE.ro w) hq fun v' H' R' o' f' q2 w' hq' => ?_
  obtain ⟨e, rfl, hq'⟩ := onRo_iff hq'
  exact k v' H' R' e sg1 (s1.trans q2.r) (rl1.quiet q2) w'.2 hq'
end

/-! ### the rules for expressions -/
section
variable {X : Cx} {a b c : Expr} {es : List Expr} {pos : Pos}
theorem lr_bin {op : Operator} {r : R2} {p : P2} {ta tb : TR} (ho : OpR X (binaryOp op) r) (h : V2 X.K r p) (ha : LR X a ta) (hb : LR X b tb) : LR X (.BinOp a op b pos) (r2 p ta tb) := pe_weak (pe_op ho ha hb) fun _ _ _ q => opR_2 h q
theorem lm_bin {op : Operator} {r : R2} {p : P2} {ta tb : TM} (ho : OpR X (binaryOp op) r) (h : V2 X.K r p) (ha : LM X a ta) (hb : LM X b tb) : LM X (.BinOp a op b pos) (m2 p ta tb) := pe_weak (pe_op ho ha hb) fun _ _ _ q => opM_2 h q
theorem lr_un {op : UnaryOp} {r} {p : P1} {ta : TR} (ho : UnR X (unaryOp op) r) (h : V1 X.K r p) (ha : LR X a ta) : LR X (.UnaryOp op a pos) (r1 p ta) := pe_weak (pe_un ho ha) fun _ _ _ q => opR_1 h q
theorem lm_un {op : UnaryOp} {r} {p : P1} {ta : TM} (ho : UnR X (unaryOp op) r) (h : V1 X.K r p) (ha : LM X a ta) : LM X (.UnaryOp op a pos) (m1 p ta) := pe_weak (pe_un ho ha) fun _ _ _ q => opM_1 h q
theorem lr_cmp {op : CmpOp} {r : R2} {p : P2} {ta tb : TR} (ho : OpR X (compareOp op) r) (h : V2 X.K r p) (ha : LR X a ta) (hb : LR X b tb) (hm : behindInMarks op b = false := by first | exact nomark _ | rfl) : LR X (.Compare a [op] [b] pos) (r2 p ta tb) :=
  pe_weak (pe_cmpR ho ha hb hm) fun _ _ _ q => opR_2 h q
theorem lm_cmp {op : CmpOp} {r : R2} {p : P2} {ta tb : TM} (ho : OpR X (compareOp op) r) (h : V2 X.K r p) (ha : LM X a ta) (hb : LM X b tb) (hm : behindInMarks op b = false := by first | exact nomark _ | rfl) : LM X (.Compare a [op] [b] pos) (m2 p ta tb) :=
  pe_weak (pe_cmpR ho ha hb hm) fun _ _ _ q => opM_2 h q
theorem lr_ix {r : R2} {p : P2} {ta tb : TR} (ho : IxR X r) (h : V2 X.K r p) (ha : LR X a ta) (hb : LR X b tb) (hs : PlainIx b := by exact fun _ _ => rfl) : LR X (.Subscript a b pos) (r2 p ta tb) := pe_weak (pe_ix ho ha hb hs) fun _ _ _ q => opR_2 h q
theorem lm_ix {r : R2} {p : P2} {ta tb : TM} (ho : IxR X r) (h : V2 X.K r p) (ha : LM X a ta) (hb : LM X b tb) (hs : PlainIx b := by exact fun _ _ => rfl) : LM X (.Subscript a b pos) (m2 p ta tb) := pe_weak (pe_ix ho ha hb hs) fun _ _ _ q => opM_2 h q

/-! arguments -/
def arN : TAR := fun _ Q => Q []
def arC (ta : TR) (tr : TAR) : TAR := fun sg Q => ta sg fun o => tr sg fun os => Q (o :: os)
def amN : TAM := fun sg Q => Q [] sg
def amC (ta : TM) (tr : TAM) : TAM := fun sg Q => ta sg fun d sg1 => tr sg1 fun ds sg2 => Q (d :: ds) sg2
theorem lar_nil : LAR X [] arN := pa_weak pa_nil fun sgV H Q ⟨R, sg, fp, Qp, sl, s, ht, k⟩ => k [] H R [] (Quiet.refl s) rfl ht
theorem lar_cons {ta : TR} {tr : TAR} (ha : LR X a ta) (hr : LAR X es tr) (hs : starEach (a :: es) X.env = (false, eval a X.env) :: starEach es X.env := by rfl) : LAR X (a :: es) (arC ta tr) := pa_weak (pa_cons ha hr hs) fun sgV H Q ⟨R, sg, fp, Qp, sl, s, ht, k⟩ => by
  refine ⟨R, sg, fp, _, sl, s, ht, fun v H1 R1 o f q1 w hq => ?_⟩
  exact ⟨R1, sg, fp, _, sl.quiet q1, q1.s, hq, fun vs H2 R2 os q2 w2 hq2 => k (v :: vs) H2 R2 (o :: os) (q1.trans q2) ⟨v, vs, f, rfl, w.quiet q2, w2⟩ hq2⟩
theorem lam_nil : LAM X [] amN := pa_weak pa_nil fun sgV H Q ⟨B, R, sg, Qp, rl, ht, k⟩ => k [] H R [] sg (Same.refl _) rl rfl ht
theorem lam_cons {ta : TM} {tr : TAM} (ha : LM X a ta) (hr : LAM X es tr) (hs : starEach (a :: es) X.env = (false, eval a X.env) :: starEach es X.env := by rfl) : LAM X (a :: es) (amC ta tr) := pa_weak (pa_cons ha hr hs) fun sgV H Q ⟨B, R, sg, Qp, rl, ht, k⟩ => by
  refine ⟨B, R, sg, _, rl, ht, fun v H1 R1 d sg1 s1 rl1 w hq => ?_⟩
  exact ⟨B, R1, sg1, _, rl1, hq, fun vs H2 R2 ds sg2 s2 rl2 w2 hq2 => k (v :: vs) H2 R2 (d :: ds) sg2 (s1.trans s2) rl2 ⟨v, vs, rfl, Ro.mono s2 _ _ w, w2⟩ hq2⟩

/-! calls of built-ins -/
theorem lr_callB {x : Str} {p : Pos} {id : String} {r} {f : PN} {t : TAR} (hc : CallR X (.builtin id) r) (h : VN X.K r f) (hg : Gl X x) (hm : X.mg x = none) (hv : bootBuiltins x = some (.builtin id)) (ha : LAR X (a :: es) t) (hn : x ≠ "__name__" := by decide) (hdb : (x == ("__debug__" : Str)) = false := by decide)
    (he : starEach (a :: es) X.env = (false, eval a X.env) :: starEach es X.env := by rfl) (hpl : (backTo pos (starEach es X.env)).any (·.1) = false := by rfl) : LR X (.Call (.Name x p) (a :: es) [] pos) (rN f t) := pe_weak (pe_callB hc hg hm hv ha hn hdb he hpl) fun _ _ _ q => opR_N h q
theorem lm_callB {x : Str} {p : Pos} {id : String} {r} {f : PN} {t : TAM} (hc : CallR X (.builtin id) r) (h : VN X.K r f) (hg : Gl X x) (hm : X.mg x = none) (hv : bootBuiltins x = some (.builtin id)) (ha : LAM X (a :: es) t) (hn : x ≠ "__name__" := by decide) (hdb : (x == ("__debug__" : Str)) = false := by decide)
    (he : starEach (a :: es) X.env = (false, eval a X.env) :: starEach es X.env := by rfl) (hpl : (backTo pos (starEach es X.env)).any (·.1) = false := by rfl) : LM X (.Call (.Name x p) (a :: es) [] pos) (mN f t) := pe_weak (pe_callB hc hg hm hv ha hn hdb he hpl) fun _ _ _ q => opM_N h q
theorem lr_callT {x : Str} {p : Pos} {id : String} {r} {f : PN} {t : TAR} (hc : CallR X (.type id) r) (h : VN X.K r f) (hg : Gl X x) (hm : X.mg x = none) (hv : bootBuiltins x = some (.type id)) (ha : LAR X (a :: es) t) (hn : x ≠ "__name__" := by decide) (hdb : (x == ("__debug__" : Str)) = false := by decide)
    (he : starEach (a :: es) X.env = (false, eval a X.env) :: starEach es X.env := by rfl) (hpl : (backTo pos (starEach es X.env)).any (·.1) = false := by rfl) : LR X (.Call (.Name x p) (a :: es) [] pos) (rN f t) := pe_weak (pe_callTy hc hg hm hv ha hn hdb he hpl) fun _ _ _ q => opR_N h q
theorem lm_callT {x : Str} {p : Pos} {id : String} {r} {f : PN} {t : TAM} (hc : CallR X (.type id) r) (h : VN X.K r f) (hg : Gl X x) (hm : X.mg x = none) (hv : bootBuiltins x = some (.type id)) (ha : LAM X (a :: es) t) (hn : x ≠ "__name__" := by decide) (hdb : (x == ("__debug__" : Str)) = false := by decide)
    (he : starEach (a :: es) X.env = (false, eval a X.env) :: starEach es X.env := by rfl) (hpl : (backTo pos (starEach es X.env)).any (·.1) = false := by rfl) : LM X (.Call (.Name x p) (a :: es) [] pos) (mN f t) := pe_weak (pe_callTy hc hg hm hv ha hn hdb he hpl) fun _ _ _ q => opM_N h q

/-! displays -/
def rosL (Q : List D → Prop) : List O → Prop
  | [] => Q []
  | o :: os => onRo (fun d => rosL (fun ds => Q (d :: ds)) os) o
theorem rosL_iff : ∀ {os : List O} {Q : List D → Prop}, rosL Q os → ∃ ds, os = ds.map O.ro ∧ Q ds
  | [], Q, h => ⟨[], rfl, h⟩
  | o :: os, Q, h => by
    obtain ⟨d, e, h1⟩ := onRo_iff h
    obtain ⟨ds, e2, h2⟩ := rosL_iff (os := os) h1
    exact ⟨d :: ds, by rw [e, e2]; rfl, h2⟩
theorem OwE.toRo {K : PySem.W.Frag} {R H : Hp} : ∀ {ds : List D} {vs : List V}, OwE K R H (ds.map O.ro) vs → RoL K R ds vs
  | [], _, h => h
  | d :: ds, _, h => let ⟨v, r, f, h1, h2, h3⟩ := h; ⟨v, r, h1, h2.2, OwE.toRo h3⟩
theorem RoL.len {K : PySem.W.Frag} {R : Hp} : ∀ {ds : List D} {vs : List V}, RoL K R ds vs → vs.length = ds.length
  | [], _, h => by
    have h : _ = [] := h
    rw [h]; rfl
  | d :: ds, _, h => by obtain ⟨v, r, rfl, _, h3⟩ := h; simp [RoL.len h3]
/-- a new list, a new tuple that stays -/
theorem new_lst {K : PySem.W.Frag} {R H : Hp} {ds : List D} {vs : List V} {p : Addr} (s : Same R H) (w : RoL K R ds vs) (hp : H p = none) : Quiet R H (upd R p (.lst vs)) (upd H p (.lst vs)) ∧ Ro K (upd R p (.lst vs)) (.lst ds) (.ref p) :=
  ⟨Quiet.new s hp rfl, p, vs, rfl, SqL.of upd_same, RoL.mono (same_upd (s.free hp)) _ _ w⟩
theorem new_tup {K : PySem.W.Frag} {R H : Hp} {ds : List D} {vs : List V} {p : Addr} (s : Same R H) (w : RoL K R ds vs) (hp : H p = none) : Quiet R H (upd R p (.tup vs)) (upd H p (.tup vs)) ∧ Ro K (upd R p (.tup vs)) (.tup ds) (.ref p) :=
  ⟨Quiet.new s hp rfl, p, vs, rfl, upd_same, RoL.mono (same_upd (s.free hp)) _ _ w⟩
def rTup (t : TAR) : TR := fun sg Q => t sg (rosL fun ds => ds.length ≤ sizeLine ∧ Q (.ro (.tup ds)))
def mTup (t : TAM) : TM := fun sg Q => t sg fun ds sg' => ds.length ≤ sizeLine ∧ Q (.tup ds) sg'
def rLst (t : TAR) : TR := fun sg Q => t sg (rosL fun ds => ds.length ≤ sizeLine ∧ Q (.ro (.lst ds)))
def mLst (t : TAM) : TM := fun sg Q => t sg fun ds sg' => ds.length ≤ sizeLine ∧ Q (.lst ds) sg'
def wLst (t : TAM) : TW := fun sg Q => t sg fun ds sg' => ds.length ≤ sizeLine ∧ Q (.lst (ds.map O.ro)) sg'
theorem lr_tup {x1} {t : TAR} (h : LAR X es t) : LR X (.Tuple es x1 pos) (rTup t) := pe_weak (pe_tup h) fun sgV H Q ⟨R, sg, fp, Qp, sl, s, ht, k⟩ => by
  refine ⟨R, sg, fp, _, sl, s, ht, fun vs H1 R1 os q1 w hq => ?_⟩
  obtain ⟨ds, rfl, hl, hq⟩ := rosL_iff hq
  have w' := OwE.toRo w
  refine ⟨by rw [w'.len]; exact hl, fun p hp => ?_⟩
  obtain ⟨q2, w2⟩ := new_tup q1.s w' hp
  exact k _ _ _ _ [] (q1.trans q2) (Own.ro w2) hq
theorem lm_tup {x1} {t : TAM} (h : LAM X es t) : LM X (.Tuple es x1 pos) (mTup t) := pe_weak (pe_tup h) fun sgV H Q ⟨B, R, sg, Qp, rl, ht, k⟩ => by
  refine ⟨B, R, sg, _, rl, ht, fun vs H1 R1 ds sg1 s1 rl1 w hq => ?_⟩
  refine ⟨by rw [w.len]; exact hq.1, fun p hp => ?_⟩
  obtain ⟨q2, w2⟩ := new_tup rl1.sub w hp
  exact k _ _ _ _ _ (s1.trans q2.r) (rl1.quiet q2) w2 hq.2
theorem lr_lst {t : TAR} (h : LAR X es t) : LR X (.List es pos) (rLst t) := pe_weak (pe_lst h) fun sgV H Q ⟨R, sg, fp, Qp, sl, s, ht, k⟩ => by
  refine ⟨R, sg, fp, _, sl, s, ht, fun vs H1 R1 os q1 w hq => ?_⟩
  obtain ⟨ds, rfl, hl, hq⟩ := rosL_iff hq
  have w' := OwE.toRo w
  refine ⟨by rw [w'.len]; exact hl, fun p hp => ?_⟩
  obtain ⟨q2, w2⟩ := new_lst q1.s w' hp
  exact k _ _ _ _ [] (q1.trans q2) (Own.ro w2) hq
theorem lm_lst {t : TAM} (h : LAM X es t) : LM X (.List es pos) (mLst t) := pe_weak (pe_lst h) fun sgV H Q ⟨B, R, sg, Qp, rl, ht, k⟩ => by
  refine ⟨B, R, sg, _, rl, ht, fun vs H1 R1 ds sg1 s1 rl1 w hq => ?_⟩
  refine ⟨by rw [w.len]; exact hq.1, fun p hp => ?_⟩
  obtain ⟨q2, w2⟩ := new_lst rl1.sub w hp
  exact k _ _ _ _ _ (s1.trans q2.r) (rl1.quiet q2) w2 hq.2
theorem OwnL.ofRo {K : PySem.W.Frag} {R H : Hp} : ∀ {ds : List D} {vs : List V}, RoL K R ds vs → OwnL K R H (ds.map O.ro) vs []
  | [], _, h => ⟨h, rfl⟩
  | d :: ds, _, h => let ⟨v, r, h1, h2, h3⟩ := h; ⟨v, r, [], [], h1, rfl, Own.ro h2, OwnL.ofRo h3⟩
theorem OwnL.toRo {K : PySem.W.Frag} {R H : Hp} : ∀ {ds : List D} {vs : List V} {f : List Addr}, OwnL K R H (ds.map O.ro) vs f → RoL K R ds vs ∧ f = []
  | [], _, _, h => h
  | d :: ds, _, _, h => by
    obtain ⟨v, r, f1, f2, h1, rfl, h2, h3⟩ := h
    obtain ⟨h4, rfl⟩ := OwnL.toRo h3
    obtain ⟨rfl, h2⟩ := h2
    exact ⟨⟨v, r, h1, h2, h4⟩, rfl⟩
/-- a new list of one's own -/
theorem rel_newL {K : PySem.W.Frag} {B : Ent} {R H : Hp} {sgV : L2.St} {sg : PSt} {tu : List O} {us : List V} {ds : List D} {vs : List V} {p : Addr} (r : Rel K B R H sgV sg tu us) (w : RoL K R ds vs) (hp : H p = none) : Rel K B R (upd H p (.lst vs)) sgV sg (.lst (ds.map O.ro) :: tu) (.ref p :: us) :=
  r.push (f := [p]) (Quiet.newO r.sub hp) ⟨p, vs, [], rfl, rfl, upd_same, OwnL.ofRo w⟩ (List.nodup_cons.mpr ⟨by simp, List.nodup_nil⟩) (fun a ha => by rw [List.mem_singleton.mp ha]; exact hp) (fun a ha => by rw [List.mem_singleton.mp ha]; exact r.sub.free hp)
theorem lo_lst {t : TAM} (h : LAM X es t) : LO X (.List es pos) (wLst t) := pe_weak (pe_lst h) fun sgV H Q ⟨B, R, sg, Qp, rl, ht, k⟩ => by
  refine ⟨B, R, sg, _, rl, ht, fun vs H1 R1 ds sg1 s1 rl1 w hq => ?_⟩
  refine ⟨by rw [w.len]; exact hq.1, fun p hp => ?_⟩
  exact k _ _ R1 _ _ s1 (rel_newL rl1 w hp) hq.2

/-! a if c else b -/
def mIf (tc : TB) (ta tb : TM) : TM := fun sg Q => tc sg fun b sg' => if b = true then ta sg' Q else tb sg' Q
theorem lm_if {tc : TB} {ta tb : TM} (hc : LT X c tc) (ha : LM X a ta) (hb : LM X b tb) : LM X (.IfExp c a b pos) (mIf tc ta tb) := pe_weak (pe_ifExp hc ha hb) fun sgV H Q ⟨B, R, sg, Qp, rl, ht, k⟩ => by
  refine ⟨B, R, sg, _, rl, ht, fun b H1 R1 sg1 s1 rl1 hq => ?_⟩
  cases b with
  | true =>
    rw [if_pos rfl] at hq ⊢
    exact ⟨B, R1, sg1, Qp, rl1, hq, fun v H' R' d sg' s2 rl2 w q2 => k v H' R' d sg' (s1.trans s2) rl2 w q2⟩
  | false =>
    rw [if_neg Bool.false_ne_true] at hq ⊢
    exact ⟨B, R1, sg1, Qp, rl1, hq, fun v H' R' d sg' s2 rl2 w q2 => k v H' R' d sg' (s1.trans s2) rl2 w q2⟩

/-! ### tests -/
def onBl (Q : Bool → Prop) : D → Prop
  | .bl b => Q b
  | _ => False
theorem onBl_iff {Q : Bool → Prop} {d : D} (h : onBl Q d) : ∃ b, d = .bl b ∧ Q b := by
  cases d with
  | bl b => exact ⟨b, rfl, h⟩
  | _ => exact h.elim
def bM (t : TM) : TB := fun sg Q => t sg fun d sg' => onBl (fun b => Q b sg') d
theorem tB_eM {K : PySem.W.Frag} {t : TM} {sgV : L2.St} {H : Hp} {Q : Bool → Hp → Prop} (q : eT K (bM t) sgV H Q) : tB (eM K t) sgV H Q := by
  obtain ⟨B, R, sg, Qp, rl, ht, k⟩ := q
  refine ⟨B, R, sg, _, rl, ht, fun v H' R' d sg' s1 rl1 w hq => ?_⟩
  obtain ⟨b, rfl, hq⟩ := onBl_iff hq
  have w : v = .bl b := w
  exact ⟨b, w, k b H' R' sg' s1 rl1 hq⟩
theorem lt_val {t : TM} (h : LM X a t) (he : ∀ whole, isTrue a X.env whole = (do let v ← whole; standAt a.pos; holding [v] (truthy v)) := by intro _; rfl) : LT X a (bM t) := pt_weak (pt_val h he) fun _ _ _ q => tB_eM q
/-- a comparison as a test -/
theorem lt_cmp {op : CmpOp} {r : R2} {p : P2} {ta tb : TM} (ho : OpR X (compareOp op) r) (h : V2 X.K r p) (ha : LM X a ta) (hb : LM X b tb) (hm : behindInMarks op b = false := by first | exact nomark _ | rfl) : LT X (.Compare a [op] [b] pos) (bM (m2 p ta tb)) :=
  pt_weak (pt_cmpR ho ha hb hm) fun sgV H Q q => by
    obtain ⟨B, R, sg, Qp, rl, ht, k⟩ := q
    exact opM_2 h ⟨B, R, sg, _, rl, ht, fun v H' R' d sg' s1 rl1 w hq => by
      obtain ⟨b, rfl, hq⟩ := onBl_iff hq
      have w : v = .bl b := w
      exact ⟨b, w, k b H' R' sg' s1 rl1 hq⟩⟩
/-- a comparison of what is one's own (nothing is changed), as a test -/
def bR (t : TR) : TB := fun sg Q => t sg (onRo fun d => onBl (fun b => Q b sg) d)
theorem lt_cmpR {op : CmpOp} {r : R2} {p : P2} {ta tb : TR} (ho : OpR X (compareOp op) r) (h : V2 X.K r p) (ha : LR X a ta) (hb : LR X b tb) (hm : behindInMarks op b = false := by first | exact nomark _ | rfl) : LT X (.Compare a [op] [b] pos) (bR (r2 p ta tb)) :=
  pt_weak (pt_cmpR ho ha hb hm) fun sgV H Q q => by
    obtain ⟨B, R, sg, Qp, rl, ht, k⟩ := q
    obtain ⟨fp, sl⟩ := rl.slots
    exact opR_2 h ⟨R, sg, fp, _, sl, rl.sub, ht, fun v H' R' o f q1 w hq => by
      obtain ⟨d, rfl, hq⟩ := onRo_iff hq
      obtain ⟨b, rfl, hq⟩ := onBl_iff hq
      have w : v = .bl b := w.2
      exact ⟨b, w, k b H' R' sg q1.r (rl.quiet q1) hq⟩⟩
def bAnd (t u : TB) : TB := fun sg Q => t sg fun c sg1 => if c = true then u sg1 Q else Q false sg1
def bOr (t u : TB) : TB := fun sg Q => t sg fun c sg1 => if c = true then Q true sg1 else u sg1 Q
def bNot (t : TB) : TB := fun sg Q => t sg fun c sg1 => Q (!c) sg1
variable {t u : TB} {rest : List Expr}
theorem lw_and1 (h : LT X a t) : LW X (.BoolOp .And [a] pos) t := pw_and1 h
theorem lw_or1 (h : LT X a t) : LW X (.BoolOp .Or [a] pos) t := pw_or1 h
theorem lw_and (h : LT X a t) (hr : LW X (.BoolOp .And (b :: rest) pos) u) : LW X (.BoolOp .And (a :: b :: rest) pos) (bAnd t u) := pw_weak (pw_and h hr) fun sgV H Q ⟨B, R, sg, Qp, rl, ht, k⟩ => by
  refine ⟨B, R, sg, _, rl, ht, fun b H1 R1 sg1 s1 rl1 hq => ?_⟩
  cases b with
  | true =>
    rw [if_pos rfl] at hq ⊢
    exact ⟨B, R1, sg1, Qp, rl1, hq, fun v H' R' sg' s2 rl2 q2 => k v H' R' sg' (s1.trans s2) rl2 q2⟩
  | false =>
    rw [if_neg Bool.false_ne_true] at hq ⊢
    exact k false H1 R1 sg1 s1 rl1 hq
theorem lw_or (h : LT X a t) (hr : LW X (.BoolOp .Or (b :: rest) pos) u) : LW X (.BoolOp .Or (a :: b :: rest) pos) (bOr t u) := pw_weak (pw_or h hr) fun sgV H Q ⟨B, R, sg, Qp, rl, ht, k⟩ => by
  refine ⟨B, R, sg, _, rl, ht, fun b H1 R1 sg1 s1 rl1 hq => ?_⟩
  cases b with
  | true =>
    rw [if_pos rfl] at hq ⊢
    exact k true H1 R1 sg1 s1 rl1 hq
  | false =>
    rw [if_neg Bool.false_ne_true] at hq ⊢
    exact ⟨B, R1, sg1, Qp, rl1, hq, fun v H' R' sg' s2 rl2 q2 => k v H' R' sg' (s1.trans s2) rl2 q2⟩
theorem LW.toT (h : LW X a t) : LT X a t := PW.pt h
theorem lt_not (h : LT X a t) : LT X (.UnaryOp .Not a pos) (bNot t) := pt_weak (pt_not h) fun sgV H Q ⟨B, R, sg, Qp, rl, ht, k⟩ =>
  ⟨B, R, sg, _, rl, ht, fun b H1 R1 sg1 s1 rl1 hq => k _ H1 R1 sg1 s1 rl1 hq⟩
end
end Pu
end
section
set_option Elab.async false
set_option linter.all false
set_option maxRecDepth 100000
set_option maxHeartbeats 4000000
/-! Pu3: paths into owned trees, the frame, what is changed. -/
namespace Pu
open PySem PySem.Spec PyProof.Rows L2

/-! ### equality of data is decided -/
mutual
def D.beq : D → D → Bool
  | .non, .non => true
  | .bl a, .bl b => a == b
  | .int a, .int b => decide (a = b)
  | .str a, .str b => decide (a = b)
  | .ty a, .ty b => decide (a = b)
  | .lst a, .lst b => D.beqL a b
  | .tup a, .tup b => D.beqL a b
  | .dct t a, .dct u b => decide (t = u) && D.beqK a b
  | .ins C a, .ins E b => decide (C = E) && D.beqF a b
  | _, _ => false
def D.beqL : List D → List D → Bool
  | [], [] => true
  | a :: r, b :: s => D.beq a b && D.beqL r s
  | _, _ => false
def D.beqK : List (D × D) → List (D × D) → Bool
  | [], [] => true
  | (k, a) :: r, (q, b) :: s => D.beq k q && (D.beq a b && D.beqK r s)
  | _, _ => false
def D.beqF : List (Str × D) → List (Str × D) → Bool
  | [], [] => true
  | (k, a) :: r, (q, b) :: s => decide (k = q) && (D.beq a b && D.beqF r s)
  | _, _ => false
end
mutual
theorem D.beq_ok : ∀ a b : D, D.beq a b = true → a = b
  | .non, b, h => by cases b <;> simp [D.beq] at h ⊢
  | .bl a, b, h => by cases b <;> simp [D.beq] at h ⊢; exact h
  | .int a, b, h => by cases b <;> simp [D.beq] at h ⊢; exact h
  | .str a, b, h => by cases b <;> simp [D.beq] at h ⊢; exact h
  | .ty a, b, h => by cases b <;> simp [D.beq] at h ⊢; exact h
  | .lst a, b, h => by cases b <;> simp [D.beq] at h ⊢; exact D.beqL_ok a _ h
  | .tup a, b, h => by cases b <;> simp [D.beq] at h ⊢; exact D.beqL_ok a _ h
  | .dct t a, b, h => by cases b <;> simp [D.beq] at h ⊢; exact ⟨h.1, D.beqK_ok a _ h.2⟩
  | .ins C a, b, h => by cases b <;> simp [D.beq] at h ⊢; exact ⟨h.1, D.beqF_ok a _ h.2⟩
theorem D.beqL_ok : ∀ a b : List D, D.beqL a b = true → a = b
  | [], b, h => by cases b <;> simp [D.beqL] at h ⊢
  | a :: r, b, h => by
    cases b with
    | nil => simp [D.beqL] at h
    | cons b s =>
      simp [D.beqL] at h
      rw [D.beq_ok a b h.1, D.beqL_ok r s h.2]
theorem D.beqK_ok : ∀ a b : List (D × D), D.beqK a b = true → a = b
  | [], b, h => by cases b <;> simp [D.beqK] at h ⊢
  | (k, a) :: r, b, h => by
    cases b with
    | nil => simp [D.beqK] at h
    | cons b s =>
      obtain ⟨q, b⟩ := b
      simp [D.beqK] at h
      rw [D.beq_ok k q h.1, D.beq_ok a b h.2.1, D.beqK_ok r s h.2.2]
theorem D.beqF_ok : ∀ a b : List (Str × D), D.beqF a b = true → a = b
  | [], b, h => by cases b <;> simp [D.beqF] at h ⊢
  | (k, a) :: r, b, h => by
    cases b with
    | nil => simp [D.beqF] at h
    | cons b s =>
      obtain ⟨q, b⟩ := b
      simp [D.beqF] at h
      rw [h.1, D.beq_ok a b h.2.1, D.beqF_ok r s h.2.2]
end
mutual
theorem D.beq_rfl : ∀ a : D, D.beq a a = true
  | .non => by simp [D.beq]
  | .bl a => by simp [D.beq]
  | .int a => by simp [D.beq]
  | .str a => by simp [D.beq]
  | .ty a => by simp [D.beq]
  | .lst a => by simp [D.beq, D.beqL_rfl a]
  | .tup a => by simp [D.beq, D.beqL_rfl a]
  | .dct t a => by simp [D.beq, D.beqK_rfl a]
  | .ins C a => by simp [D.beq, D.beqF_rfl a]
theorem D.beqL_rfl : ∀ a : List D, D.beqL a a = true
  | [] => by simp [D.beqL]
  | a :: r => by simp [D.beqL, D.beq_rfl a, D.beqL_rfl r]
theorem D.beqK_rfl : ∀ a : List (D × D), D.beqK a a = true
  | [] => by simp [D.beqK]
  | (k, a) :: r => by simp [D.beqK, D.beq_rfl k, D.beq_rfl a, D.beqK_rfl r]
theorem D.beqF_rfl : ∀ a : List (Str × D), D.beqF a a = true
  | [] => by simp [D.beqF]
  | (k, a) :: r => by simp [D.beqF, D.beq_rfl a, D.beqF_rfl r]
end
theorem D.beq_iff (a b : D) : D.beq a b = true ↔ a = b := ⟨D.beq_ok a b, fun h => by rw [h]; exact D.beq_rfl b⟩
instance : DecidableEq D := fun a b => decidable_of_iff _ (D.beq_iff a b)

/-! ### paths -/
inductive Pt where
  | ix (j : Nat) | ky (k : D) | fd (f : Str)
section
variable {K : PySem.W.Frag} {R H : Hp}
theorem perm_mid {f1 f2 f3 : List Addr} : (f1 ++ (f2 ++ f3)).Perm (f2 ++ (f1 ++ f3)) := by
  rw [← List.append_assoc, ← List.append_assoc]
  exact List.Perm.append_right f3 List.perm_append_comm
theorem OwnL.take : ∀ {os : List O} {vs : List V} {fp : List Addr} {j : Nat} {o : O}, OwnL K R H os vs fp → os[j]? = some o →
    ∃ v f1 f2, vs[j]? = some v ∧ Own K R H o v f1 ∧ fp.Perm (f1 ++ f2) ∧
      ∀ R' H' o' f1', Same R R' → (∀ a ∈ f2, H' a = H a) → Own K R' H' o' v f1' → ∃ fp', OwnL K R' H' (os.set j o') vs fp' ∧ fp'.Perm (f1' ++ f2)
  | [], _, _, _, _, _, e => by simp at e
  | o₀ :: os, _, _, 0, o, h, e => by
    obtain ⟨v, r, f1, f2, rfl, rfl, h3, h4⟩ := h
    simp at e
    subst e
    exact ⟨v, f1, f2, rfl, h3, .refl _, fun R' H' o' f1' s k w => ⟨f1' ++ f2, ⟨v, r, f1', f2, rfl, rfl, w, OwnL.keep s os r f2 k h4⟩, .refl _⟩⟩
  | o₀ :: os, _, _, j + 1, o, h, e => by
    obtain ⟨v, r, f1, f2, rfl, rfl, h3, h4⟩ := h
    obtain ⟨v', g1, g2, hv, w, p, k⟩ := OwnL.take (j := j) h4 (by simpa using e)
    refine ⟨v', g1, f1 ++ g2, by simpa using hv, w, (List.Perm.append_left f1 p).trans perm_mid, fun R' H' o' f1' s kk w' => ?_⟩
    obtain ⟨fp', h5, p'⟩ := k R' H' o' f1' s (fun a ha => kk a (List.mem_append_right _ ha)) w'
    exact ⟨f1 ++ fp', ⟨v, r, f1, fp', rfl, rfl, Own.keep s o₀ v f1 (fun a ha => kk a (List.mem_append_left _ ha)) h3, h5⟩, (List.Perm.append_left f1 p').trans perm_mid⟩
def fGet (f : Str) : List (Str × O) → Option O
  | [] => none
  | (g, o) :: r => if f = g then some o else fGet f r
def fPut (f : Str) (x : O) : List (Str × O) → List (Str × O)
  | [] => []
  | (g, o) :: r => if f = g then (g, x) :: r else (g, o) :: fPut f x r
theorem lookup_c {f g : Str} {v : V} {r : List (Str × V)} : ((g, v) :: r).lookup f = if f = g then some v else r.lookup f := by
  by_cases e : f = g
  · subst e; simp [List.lookup]
  · rw [if_neg e]
    have : (f == g) = false := by simpa using e
    simp [List.lookup, this]
theorem OwnF.take : ∀ {os : List (Str × O)} {vs : List (Str × V)} {fp : List Addr} {f : Str} {o : O}, OwnF K R H os vs fp → fGet f os = some o →
    ∃ v f1 f2, vs.lookup f = some v ∧ Own K R H o v f1 ∧ fp.Perm (f1 ++ f2) ∧
      ∀ R' H' o' f1', Same R R' → (∀ a ∈ f2, H' a = H a) → Own K R' H' o' v f1' → ∃ fp', OwnF K R' H' (fPut f o' os) vs fp' ∧ fp'.Perm (f1' ++ f2)
  | [], _, _, _, _, _, e => by cases e
  | (g, o₀) :: os, _, _, f, o, h, e => by
    obtain ⟨v, r, f1, f2, rfl, rfl, h3, h4⟩ := h
    unfold fGet at e
    by_cases q : f = g
    · rw [if_pos q] at e
      cases e
      refine ⟨v, f1, f2, by rw [lookup_c, if_pos q], h3, .refl _, fun R' H' o' f1' s k w => ⟨f1' ++ f2, ?_, .refl _⟩⟩
      unfold fPut
      rw [if_pos q]
      exact ⟨v, r, f1', f2, rfl, rfl, w, OwnF.keep s os r f2 k h4⟩
    · rw [if_neg q] at e
      obtain ⟨v', g1, g2, hv, w, p, k⟩ := OwnF.take h4 e
      refine ⟨v', g1, f1 ++ g2, by rw [lookup_c, if_neg q]; exact hv, w, (List.Perm.append_left f1 p).trans perm_mid, fun R' H' o' f1' s kk w' => ?_⟩
      obtain ⟨fp', h5, p'⟩ := k R' H' o' f1' s (fun a ha => kk a (List.mem_append_right _ ha)) w'
      refine ⟨f1 ++ fp', ?_, (List.Perm.append_left f1 p').trans perm_mid⟩
      unfold fPut
      rw [if_neg q]
      exact ⟨v, r, f1, fp', rfl, rfl, Own.keep s o₀ v f1 (fun a ha => kk a (List.mem_append_left _ ha)) h3, h5⟩
def kGet (k : D) : List (D × O) → Option O
  | [] => none
  | (g, o) :: r => if k = g then some o else kGet k r
def kPut (k : D) (x : O) : List (D × O) → List (D × O)
  | [] => [(k, x)]
  | (g, o) :: r => if k = g then (g, x) :: r else (g, o) :: kPut k x r
theorem kPut_keys {k : D} {x : O} : ∀ {kvs : List (D × O)} {o : O}, kGet k kvs = some o → (kPut k x kvs).map (·.1) = kvs.map (·.1)
  | [], _, h => by cases h
  | (g, o₀) :: r, o, h => by
    unfold kGet at h
    unfold kPut
    by_cases e : k = g
    · rw [if_pos e]; rfl
    · rw [if_neg e] at h ⊢
      simp [kPut_keys h]
theorem kPut_new {k : D} {x : O} : ∀ {kvs : List (D × O)}, kGet k kvs = none → kPut k x kvs = kvs ++ [(k, x)] ∧ k ∉ kvs.map (·.1)
  | [], _ => ⟨rfl, by simp⟩
  | (g, o₀) :: r, h => by
    unfold kGet at h
    unfold kPut
    by_cases e : k = g
    · rw [if_pos e] at h; cases h
    · rw [if_neg e] at h ⊢
      obtain ⟨h1, h2⟩ := kPut_new (x := x) h
      exact ⟨by rw [h1]; rfl, by simp only [List.map_cons, List.mem_cons, not_or]; exact ⟨e, h2⟩⟩
theorem kPut_nodup {k : D} {x : O} {kvs : List (D × O)} (h : (kvs.map (·.1)).Nodup) : ((kPut k x kvs).map (·.1)).Nodup := by
  cases e : kGet k kvs with
  | some o => rw [kPut_keys e]; exact h
  | none =>
    obtain ⟨h1, h2⟩ := kPut_new (x := x) e
    rw [h1, List.map_append, List.nodup_append]
    refine ⟨h, by simp, fun a ha b hb z => ?_⟩
    simp only [List.map_cons, List.map_nil, List.mem_singleton] at hb
    rw [z, hb] at ha
    exact h2 ha
theorem kD_inj : ∀ {a b : Key}, kD a = kD b → a = b
  | .inl _, .inl _, h => by cases h; rfl
  | .inr _, .inr _, h => by cases h; rfl
  | .inl _, .inr _, h => by cases h
  | .inr _, .inl _, h => by cases h
theorem map_kD_inj : ∀ {a b : List Key}, a.map kD = b.map kD → a = b
  | [], [], _ => rfl
  | [], _ :: _, h => by cases h
  | _ :: _, [], h => by cases h
  | x :: a, y :: b, h => by
    simp only [List.map_cons, List.cons.injEq] at h
    rw [kD_inj h.1, map_kD_inj h.2]
theorem tkD_inj {a b : List Key} (h : tkD a = tkD b) : a = b := by
  unfold tkD at h
  injection h with h
  exact map_kD_inj h
theorem OwnT.take : ∀ {os : List (D × O)} {vs : List (List Key × V)} {fp : List Addr} {k : List Key} {o : O}, OwnT K R H os vs fp → kGet (tkD k) os = some o →
    ∃ v f1 f2, valV vs k = some v ∧ Own K R H o v f1 ∧ fp.Perm (f1 ++ f2) ∧
      ∀ R' H' o' f1', Same R R' → (∀ a ∈ f2, H' a = H a) → Own K R' H' o' v f1' → ∃ fp', OwnT K R' H' (kPut (tkD k) o' os) vs fp' ∧ fp'.Perm (f1' ++ f2)
  | [], _, _, _, _, _, e => by cases e
  | (g, o₀) :: os, _, _, k, o, h, e => by
    obtain ⟨kk, v, r, f1, f2, rfl, rfl, rfl, h3, h4⟩ := h
    unfold kGet at e
    by_cases q : tkD k = tkD kk
    · rw [if_pos q] at e
      cases e
      have qk := tkD_inj q
      subst qk
      refine ⟨v, f1, f2, valV_pos rfl, h3, .refl _, fun R' H' o' f1' s kk' w => ⟨f1' ++ f2, ?_, .refl _⟩⟩
      unfold kPut
      rw [if_pos rfl]
      exact ⟨_, v, r, f1', f2, rfl, rfl, rfl, w, OwnT.keep s os r f2 kk' h4⟩
    · rw [if_neg q] at e
      obtain ⟨v', g1, g2, hv, w, p, kk2⟩ := OwnT.take h4 e
      refine ⟨v', g1, f1 ++ g2, by rw [valV_neg (fun z => q (by show tkD k = tkD kk; rw [show kk = k from z]))]; exact hv, w, (List.Perm.append_left f1 p).trans perm_mid, fun R' H' o' f1' s kk' w' => ?_⟩
      obtain ⟨fp', h5, p'⟩ := kk2 R' H' o' f1' s (fun a ha => kk' a (List.mem_append_right _ ha)) w'
      refine ⟨f1 ++ fp', ?_, (List.Perm.append_left f1 p').trans perm_mid⟩
      unfold kPut
      rw [if_neg q]
      exact ⟨kk, v, r, f1, fp', rfl, rfl, rfl, Own.keep s o₀ v f1 (fun a ha => kk' a (List.mem_append_left _ ha)) h3, h5⟩
theorem OwnK.take : ∀ {os : List (D × O)} {vs : List (Key × V)} {fp : List Addr} {k : Key} {o : O}, OwnK K R H os vs fp → kGet (kD k) os = some o →
    ∃ v f1 f2, valV vs k = some v ∧ Own K R H o v f1 ∧ fp.Perm (f1 ++ f2) ∧
      ∀ R' H' o' f1', Same R R' → (∀ a ∈ f2, H' a = H a) → Own K R' H' o' v f1' → ∃ fp', OwnK K R' H' (kPut (kD k) o' os) vs fp' ∧ fp'.Perm (f1' ++ f2)
  | [], _, _, _, _, _, e => by cases e
  | (g, o₀) :: os, _, _, k, o, h, e => by
    obtain ⟨kk, v, r, f1, f2, rfl, rfl, rfl, h3, h4⟩ := h
    unfold kGet at e
    by_cases q : kD k = kD kk
    · rw [if_pos q] at e
      cases e
      have qk := kD_inj q
      subst qk
      refine ⟨v, f1, f2, valV_pos rfl, h3, .refl _, fun R' H' o' f1' s kk' w => ⟨f1' ++ f2, ?_, .refl _⟩⟩
      unfold kPut
      rw [if_pos rfl]
      exact ⟨_, v, r, f1', f2, rfl, rfl, rfl, w, OwnK.keep s os r f2 kk' h4⟩
    · rw [if_neg q] at e
      obtain ⟨v', g1, g2, hv, w, p, kk2⟩ := OwnK.take h4 e
      refine ⟨v', g1, f1 ++ g2, by rw [valV_neg (fun z => q (by show kD k = kD kk; rw [show kk = k from z]))]; exact hv, w, (List.Perm.append_left f1 p).trans perm_mid, fun R' H' o' f1' s kk' w' => ?_⟩
      obtain ⟨fp', h5, p'⟩ := kk2 R' H' o' f1' s (fun a ha => kk' a (List.mem_append_right _ ha)) w'
      refine ⟨f1 ++ fp', ?_, (List.Perm.append_left f1 p').trans perm_mid⟩
      unfold kPut
      rw [if_neg q]
      exact ⟨kk, v, r, f1, fp', rfl, rfl, rfl, Own.keep s o₀ v f1 (fun a ha => kk' a (List.mem_append_left _ ha)) h3, h5⟩

/-- one step down -/
def O.at1 : Pt → O → Option O
  | .ix j, .lst os => os[j]?
  | .fd f, .ins _ fs => fGet f fs
  | .ky k, .dct _ kvs => kGet k kvs
  | _, _ => none
def O.put1 (x : O) : Pt → O → O
  | .ix j, .lst os => .lst (os.set j x)
  | .fd f, .ins C fs => .ins C (fPut f x fs)
  | .ky k, .dct t kvs => .dct t (kPut k x kvs)
  | _, o => o
/-- the same in the heap -/
def stepV (H : Hp) (v : V) : Pt → V → Prop
  | .ix j, v' => ∃ a vs, v = .ref a ∧ H a = some (.lst vs) ∧ vs[j]? = some v'
  | .fd f, v' => ∃ a C dx fv, v = .ref a ∧ H a = some (.ins C dx fv) ∧ fv.lookup f = some v'
  | .ky k, v' => ∃ a, v = .ref a ∧ ((∃ ks kk, H a = some (.dT ks) ∧ k = tkD kk ∧ valV ks kk = some v') ∨ (∃ ks kk, H a = some (.dK ks) ∧ k = kD kk ∧ valV ks kk = some v'))
theorem Own.take {o₀ o : O} {v₀ : V} {fp : List Addr} {p : Pt} (h : Own K R H o₀ v₀ fp) (e : O.at1 p o₀ = some o) (hk : ∀ v', stepV H v₀ p v' → True := fun _ _ => trivial) :
    (∀ v, stepV H v₀ p v → ∃ f1 f2, Own K R H o v f1 ∧ fp.Perm (f1 ++ f2) ∧
      ∀ R' H' o' f1', Same R R' → (∀ a ∈ f2, H' a = H a) → Own K R' H' o' v f1' → ∃ fp', Own K R' H' (O.put1 o' p o₀) v₀ fp' ∧ fp'.Perm (f1' ++ f2)) := by
  intro v hv
  cases p with
  | ix j =>
    cases o₀ with
    | lst os =>
      obtain ⟨a, vs, f, rfl, rfl, ha, hl⟩ := h
      obtain ⟨a', vs', e1, ha', hj⟩ := hv
      cases e1
      rw [ha] at ha'
      cases ha'
      obtain ⟨v', f1, f2, hv', w, q, k⟩ := OwnL.take hl e
      rw [hj] at hv'
      cases hv'
      refine ⟨f1, a :: f2, w, (List.Perm.cons a q).trans List.perm_middle.symm, fun R' H' o' f1' s kk w' => ?_⟩
      obtain ⟨fp', h5, p'⟩ := k R' H' o' f1' s (fun b hb => kk b (List.mem_cons_of_mem _ hb)) w'
      exact ⟨a :: fp', ⟨a, vs, fp', rfl, rfl, (kk a List.mem_cons_self).trans ha, h5⟩, (List.Perm.cons a p').trans List.perm_middle.symm⟩
    | _ => cases e
  | fd g =>
    cases o₀ with
    | ins C fs =>
      obtain ⟨a, dx, fv, f, rfl, rfl, ha, hl⟩ := h
      obtain ⟨a', C', dx', fv', e1, ha', hj⟩ := hv
      cases e1
      rw [ha] at ha'
      cases ha'
      obtain ⟨v', f1, f2, hv', w, q, k⟩ := OwnF.take hl e
      rw [hj] at hv'
      cases hv'
      refine ⟨f1, a :: f2, w, (List.Perm.cons a q).trans List.perm_middle.symm, fun R' H' o' f1' s kk w' => ?_⟩
      obtain ⟨fp', h5, p'⟩ := k R' H' o' f1' s (fun b hb => kk b (List.mem_cons_of_mem _ hb)) w'
      exact ⟨a :: fp', ⟨a, dx, fv, fp', rfl, rfl, (kk a List.mem_cons_self).trans ha, h5⟩, (List.Perm.cons a p').trans List.perm_middle.symm⟩
    | _ => cases e
  | ky g =>
    cases o₀ with
    | dct t kvs =>
      obtain ⟨hn, a, f, rfl, rfl, hh⟩ := h
      obtain ⟨a', e1, hv⟩ := hv
      cases e1
      rcases hh with ⟨ht, ks, ha, hl⟩ | ⟨ht, ks, ha, hl⟩
      · rcases hv with ⟨ks', kk, ha', rfl, hj⟩ | ⟨ks', kk, ha', rfl, hj⟩
        · rw [ha] at ha'
          cases ha'
          obtain ⟨v', f1, f2, hv', w, q, k⟩ := OwnT.take hl e
          rw [hj] at hv'
          cases hv'
          refine ⟨f1, a :: f2, w, (List.Perm.cons a q).trans List.perm_middle.symm, fun R' H' o' f1' s kk w' => ?_⟩
          obtain ⟨fp', h5, p'⟩ := k R' H' o' f1' s (fun b hb => kk b (List.mem_cons_of_mem _ hb)) w'
          exact ⟨a :: fp', ⟨by rw [kPut_keys e]; exact hn, a, fp', rfl, rfl, .inl ⟨ht, ks, (kk a List.mem_cons_self).trans ha, h5⟩⟩, (List.Perm.cons a p').trans List.perm_middle.symm⟩
        · rw [ha] at ha'
          cases ha'
      · rcases hv with ⟨ks', kk, ha', rfl, hj⟩ | ⟨ks', kk, ha', rfl, hj⟩
        · rw [ha] at ha'
          cases ha'
        · rw [ha] at ha'
          cases ha'
          obtain ⟨v', f1, f2, hv', w, q, k⟩ := OwnK.take hl e
          rw [hj] at hv'
          cases hv'
          refine ⟨f1, a :: f2, w, (List.Perm.cons a q).trans List.perm_middle.symm, fun R' H' o' f1' s kk w' => ?_⟩
          obtain ⟨fp', h5, p'⟩ := k R' H' o' f1' s (fun b hb => kk b (List.mem_cons_of_mem _ hb)) w'
          exact ⟨a :: fp', ⟨by rw [kPut_keys e]; exact hn, a, fp', rfl, rfl, .inr ⟨ht, ks, (kk a List.mem_cons_self).trans ha, h5⟩⟩, (List.Perm.cons a p').trans List.perm_middle.symm⟩
    | _ => cases e

/-! whole paths -/
def O.at : List Pt → O → Option O
  | [], o => some o
  | p :: ps, o => (O.at1 p o).bind (O.at ps)
def O.put (x : O) : List Pt → O → O
  | [], _ => x
  | p :: ps, o => match O.at1 p o with
    | some c => O.put1 (O.put x ps c) p o
    | none => o
def walkV (H : Hp) : V → List Pt → V → Prop
  | v, [], v' => v = v'
  | v, p :: ps, v' => ∃ u, stepV H v p u ∧ walkV H u ps v'
theorem Own.path : ∀ {π : List Pt} {o₀ o : O} {v₀ v : V} {fp : List Addr}, Own K R H o₀ v₀ fp → O.at π o₀ = some o → walkV H v₀ π v →
    ∃ f1 f2, Own K R H o v f1 ∧ fp.Perm (f1 ++ f2) ∧
      ∀ R' H' o' f1', Same R R' → (∀ a ∈ f2, H' a = H a) → Own K R' H' o' v f1' → ∃ fp', Own K R' H' (O.put o' π o₀) v₀ fp' ∧ fp'.Perm (f1' ++ f2)
  | [], o₀, o, v₀, v, fp, h, e, hw => by
    cases e
    have hw : v₀ = v := hw
    subst hw
    exact ⟨fp, [], h, by simp, fun R' H' o' f1' s k w => ⟨f1', w, by simp⟩⟩
  | p :: ps, o₀, o, v₀, v, fp, h, e, hw => by
    obtain ⟨u, h1, h2⟩ := hw
    unfold O.at at e
    cases e1 : O.at1 p o₀ with
    | none => rw [e1] at e; cases e
    | some c =>
      rw [e1] at e
      have e : O.at ps c = some o := e
      obtain ⟨f1, f2, w, q, k⟩ := Own.take h e1 (fun _ _ => trivial) u h1
      obtain ⟨g1, g2, w2, q2, k2⟩ := Own.path w e h2
      refine ⟨g1, g2 ++ f2, w2, ?_, fun R' H' o' f1' s kk w' => ?_⟩
      · refine q.trans ((List.Perm.append_right f2 q2).trans ?_)
        rw [List.append_assoc]
      · obtain ⟨fp', w3, q3⟩ := k2 R' H' o' f1' s (fun a ha => kk a (List.mem_append_left _ ha)) w'
        obtain ⟨fp2, w4, q4⟩ := k R' H' _ fp' s (fun a ha => kk a (List.mem_append_right _ ha)) w3
        refine ⟨fp2, ?_, ?_⟩
        · show Own K R' H' (match O.at1 p o₀ with | some c => O.put1 (O.put o' ps c) p o₀ | none => o₀) v₀ fp2
          rw [e1]
          exact w4
        · refine q4.trans ((List.Perm.append_right f2 q3).trans ?_)
          rw [List.append_assoc]
end

/-! ### the relation: a node is changed; the frame -/
section
variable {K : PySem.W.Frag} {B : Ent} {R H R' H' : Hp} {sgV : L2.St} {sg : PSt} {tu : List O} {vs : List V}
/-- the node at the path π of slot i -/
def PathAt (H : Hp) (sgV : L2.St) (sg : PSt) (i : Nat) (π : List Pt) (o : O) (v : V) : Prop :=
  ∃ v₀ o₀, sgV[i]? = some (some v₀) ∧ sg[i]? = some (some o₀) ∧ O.at π o₀ = some o ∧ walkV H v₀ π v
def sPut (i : Nat) (π : List Pt) (x : O) (sg : PSt) : PSt := match sg[i]? with
  | some (some o₀) => sg.set i (some (O.put x π o₀))
  | _ => sg
/-- THE CHANGE: the first temp goes into the node (or is forgotten) -/
theorem Rel.mutR {ot : O} {vt : V} (r : Rel K B R H sgV sg (ot :: tu) (vt :: vs)) {i : Nat} {π : List Pt} {o : O} {v : V} (pa : PathAt H sgV sg i π o v) :
    ∃ f ft, Own K R H o v f ∧ Own K R H ot vt ft ∧ (f ++ ft).Nodup ∧ (∀ a ∈ f ++ ft, R a = none) ∧
      ∀ R' o' f' H', Own K R' H' o' v f' → Same R R' → Same R' H' → (∀ a, a ∉ f → H' a = H a) → f'.Nodup → (∀ a ∈ f', a ∈ f ++ ft ∧ R' a = none) → (∀ a u, R' a = some u → R a = some u ∨ (a ∈ f ++ ft ∧ isD u = false)) → Rel K B R' H' sgV (sPut i π o' sg) tu vs := by
  obtain ⟨v₀, o₀, hv, ho, hp, hw⟩ := pa
  obtain ⟨f1, f2, h1, h2, h3, h4⟩ := r.ex
  obtain ⟨vt', s, g1, g2, hvt, rfl, h5, h6⟩ := h2
  obtain ⟨rfl, rfl⟩ : vt = vt' ∧ vs = s := by
    injection hvt with a b
    exact ⟨a, b⟩
  obtain ⟨v1, e1, e2, hv1, w, p, h7⟩ := h1.take ho
  rw [hv] at hv1
  cases hv1
  obtain ⟨f, f', w2, p2, k⟩ := Own.path w hp hw
  -- all: f1 ++ (g1 ++ g2) ~ (f ++ g1) ++ (f' ++ (e2 ++ g2))
  have pp : (f1 ++ (g1 ++ g2)).Perm ((f ++ g1) ++ (f' ++ (e2 ++ g2))) := by
    have q1 : (f1 ++ (g1 ++ g2)).Perm (((f ++ f') ++ e2) ++ (g1 ++ g2)) := List.Perm.append_right _ (p.trans (List.Perm.append_right _ p2))
    refine q1.trans ?_
    simp only [List.append_assoc]
    refine List.Perm.append_left f ?_
    have q2 : (f' ++ (e2 ++ (g1 ++ g2))).Perm (g1 ++ (f' ++ (e2 ++ g2))) := by
      have q3 : (e2 ++ (g1 ++ g2)).Perm (g1 ++ (e2 ++ g2)) := perm_mid
      exact (List.Perm.append_left f' q3).trans perm_mid
    exact q2
  have nd := pp.nodup_iff.mp h3
  have hall : ∀ a, a ∈ (f ++ g1) ++ (f' ++ (e2 ++ g2)) → R a = none ∧ (a ∈ B.A ∨ B.H a = none) := fun a ha => h4 a (pp.mem_iff.mpr ha)
  have nd0 := nd
  rw [List.nodup_append] at nd
  obtain ⟨nA, nB, nC⟩ := nd
  refine ⟨f, g1, w2, h5, nA, fun a ha => (hall a (List.mem_append_left _ ha)).1, fun R' o' fn H' wn sR sH kn nn mn rn => ?_⟩
  have out : ∀ a ∈ f' ++ (e2 ++ g2), H' a = H a := fun a ha => kn a fun z => nC a (List.mem_append_left _ z) a ha rfl
  obtain ⟨fp', w3, p3⟩ := k R' H' o' fn sR (fun a ha => out a (List.mem_append_left _ ha)) wn
  have h7' : SlR K R' H' (sg.set i none) sgV e2 := SlR.keep sR _ _ _ (fun a ha => out a (List.mem_append_right _ (List.mem_append_left _ ha))) h7
  have h6' : OwnL K R' H' tu vs g2 := OwnL.keep sR _ _ _ (fun a ha => out a (List.mem_append_right _ (List.mem_append_right _ ha))) h6
  have hl : i < sg.length := (List.getElem?_eq_some_iff.mp ho).1
  obtain ⟨fq, h8, p4⟩ := h7'.put (i := i) (by rw [List.getElem?_set_self hl]) w3
  rw [List.set_set, set_self hv] at h8
  have es : sPut i π o' sg = sg.set i (some (O.put o' π o₀)) := by unfold sPut; rw [ho]
  rw [es]
  have p5 : (fq ++ g2).Perm (fn ++ (f' ++ (e2 ++ g2))) := by
    refine (List.Perm.append_right g2 (p4.trans (List.Perm.append_right e2 p3))).trans ?_
    simp only [List.append_assoc]
    exact List.Perm.refl _
  refine ⟨⟨fq, g2, h8, h6', p5.nodup_iff.mpr ?_, fun a ha => ?_⟩, sH, r.r0.trans sR, fun a x hx na => ?_, fun a ha => ?_, fun a u hu => (rn a u hu).elim (r.nd a u) fun z => z.2⟩
  · rw [List.nodup_append]
    exact ⟨nn, nB, fun a ha b hb => nC a (mn a ha).1 b hb⟩
  · have ha := p5.mem_iff.mp ha
    rcases List.mem_append.mp ha with z | z
    · exact ⟨(mn a z).2, (hall a (List.mem_append_left _ (mn a z).1)).2⟩
    · refine ⟨?_, (hall a (List.mem_append_right _ z)).2⟩
      cases e : R' a with
      | none => rfl
      | some u =>
        rcases rn a u e with y | ⟨y, _⟩
        · rw [(hall a (List.mem_append_right _ z)).1] at y; cases y
        · exact absurd rfl (nC a y a z)
  · by_cases z : a ∈ f
    · rcases (hall a (List.mem_append_left _ (List.mem_append_left _ z))).2 with y | y
      · exact absurd y na
      · rw [y] at hx; cases hx
    · rw [kn a z]; exact r.h0 a x hx na
  · cases e : R' a with
    | none => exact absurd e ha
    | some u =>
      rcases rn a u e with y | ⟨y, _⟩
      · exact r.rn a (by rw [y]; exact Option.some_ne_none _)
      · exact .inr (hall a (List.mem_append_left _ y)).2
/-- .. what stays stays as it is -/
theorem Rel.mut {ot : O} {vt : V} (r : Rel K B R H sgV sg (ot :: tu) (vt :: vs)) {i : Nat} {π : List Pt} {o : O} {v : V} (pa : PathAt H sgV sg i π o v) :
    ∃ f ft, Own K R H o v f ∧ Own K R H ot vt ft ∧ (f ++ ft).Nodup ∧ (∀ a ∈ f ++ ft, R a = none) ∧
      ∀ o' f' H', Own K R H' o' v f' → (∀ a, a ∉ f → H' a = H a) → f'.Nodup → (∀ a ∈ f', a ∈ f ++ ft) → Rel K B R H' sgV (sPut i π o' sg) tu vs := by
  obtain ⟨f, ft, w, wt, nd, hr, k⟩ := r.mutR pa
  refine ⟨f, ft, w, wt, nd, hr, fun o' f' H' wo kn nn mn => k R o' f' H' wo (Same.refl _) (fun a x hx => ?_) kn nn (fun a ha => ⟨mn a ha, hr a (mn a ha)⟩) fun a u h => .inl h⟩
  rw [kn a (fun z => by rw [hr a (List.mem_append_left _ z)] at hx; cases hx)]
  exact r.sub a x hx
/-- the node at a path stays from now on; its dicts are locked -/
theorem Rel.frzP (r : Rel K B R H sgV sg tu vs) {i : Nat} {π : List Pt} {o : O} {v : V} (pa : PathAt H sgV sg i π o v) : ∃ ds : List Addr, ds.Nodup ∧ (∀ d ∈ ds, ∃ u, H d = some u ∧ isD u = true) ∧ ∀ H', Locked ds H H' →
    ∃ R', Same R R' ∧ Ro K R' o.d v ∧ Rel K B R' H' sgV (sPut i π (.ro o.d) sg) tu vs := by
  obtain ⟨f, ft, w, wt, nd, hr, k⟩ := (r.pushRo (d := .non) (v := .non) rfl).mutR pa
  have g1n : f.Nodup := by rw [List.nodup_append] at nd; exact nd.1
  refine ⟨f.filter (fun a => match H a with | some u => isD u | none => false), g1n.sublist List.filter_sublist, fun d hd => ?_, fun H' lk => ?_⟩
  · obtain ⟨_, hd⟩ := List.mem_filter.mp hd
    cases e : H d with
    | none => rw [e] at hd; cases hd
    | some u => rw [e] at hd; exact ⟨u, rfl, hd⟩
  obtain ⟨lk1, lk2⟩ := lk
  have inG : ∀ a, a ∉ f → H' a = H a := fun a ha => lk1 a fun z => ha (List.mem_filter.mp z).1
  have lkAt : ∀ a, Lk H H' a := fun a u e => by
    by_cases ha : a ∈ f.filter (fun a => match H a with | some u => isD u | none => false)
    · obtain ⟨od, u', e', e2⟩ := lk2 a ha
      rw [e] at e'
      cases e'
      refine ⟨.inr ⟨od, e2⟩, fun hu => ?_⟩
      have := (List.mem_filter.mp ha).2
      rw [e] at this
      have t : isD u = true := this
      rw [hu] at t; cases t
    · exact Lk.of (lk1 a ha) u e
  let R' : Hp := fun a => if a ∈ f then H' a else R a
  have nr : ∀ a ∈ f, R a = none := fun a ha => hr a (List.mem_append_left _ ha)
  have e : Same R R' := fun a x hx => by
    show (if a ∈ f then H' a else R a) = some x
    by_cases ha : a ∈ f
    · rw [nr a ha] at hx; cases hx
    · rw [if_neg ha]; exact hx
  have wd : Ro K R' o.d v := Own.frz e o v f (fun a ha u hu => by
    obtain ⟨z1, z2⟩ := lkAt a u hu
    have q : R' a = H' a := if_pos ha
    refine ⟨?_, fun w => q.trans (z2 w)⟩
    rcases z1 with z1 | ⟨od, z1⟩
    · exact .inl (q.trans z1)
    · exact .inr ⟨od, q.trans z1⟩) w
  refine ⟨R', e, wd, k R' _ [] H' (Own.ro wd) e (fun a x hx => ?_) inG List.nodup_nil (fun a ha => nomatch ha) fun a u hu => ?_⟩
  · have hx : (if a ∈ f then H' a else R a) = some x := hx
    by_cases hg : a ∈ f
    · rw [if_pos hg] at hx; exact hx
    · rw [if_neg hg] at hx
      rw [inG a hg]
      exact r.sub a x hx
  · have hu : (if a ∈ f then H' a else R a) = some u := hu
    by_cases hg : a ∈ f
    · rw [if_pos hg] at hu
      refine .inr ⟨List.mem_append_left _ hg, ?_⟩
      by_cases ha : a ∈ f.filter (fun a => match H a with | some u => isD u | none => false)
      · obtain ⟨od, u', e', e2⟩ := lk2 a ha
        rw [hu] at e2
        cases e2
        rfl
      · rw [lk1 a ha] at hu
        cases q : isD u with
        | false => rfl
        | true => exact absurd (List.mem_filter.mpr ⟨hg, by rw [hu]; exact q⟩) ha
    · rw [if_neg hg] at hu; exact .inl hu
/-- another frame's values for the empty slots -/
theorem Rel.weakV {sgV' : L2.St} (r : Rel K B R H sgV sg tu vs) (hl : sgV'.length = sgV.length) (k : ∀ (i : Nat) o, sg[i]? = some (some o) → sgV'[i]? = sgV[i]?) : Rel K B R H sgV' sg tu vs := by
  obtain ⟨f1, f2, h1, h2, h3, h4⟩ := r.ex
  exact ⟨⟨f1, f2, h1.weak hl k, h2, h3, h4⟩, r.sub, r.r0, r.h0, r.rn, r.nd⟩
/-- slots forgotten -/
theorem Rel.noslots (r : Rel K B R H sgV sg tu vs) : Rel K B R H [] [] tu vs := by
  obtain ⟨f1, f2, h1, h2, h3, h4⟩ := r.ex
  exact ⟨⟨[], f2, ⟨rfl, rfl⟩, h2, h3.sublist (List.sublist_append_right _ _), fun a ha => h4 a (List.mem_append_right _ ha)⟩, r.sub, r.r0, r.h0, r.rn, r.nd⟩
theorem OwnL.app : ∀ {os : List O} {vs : List V} {f : List Addr} {os' : List O} {vs' : List V} {f' : List Addr}, OwnL K R H os vs f → OwnL K R H os' vs' f' → OwnL K R H (os ++ os') (vs ++ vs') (f ++ f')
  | [], _, _, _, _, _, h, h' => by obtain ⟨rfl, rfl⟩ := h; exact h'
  | o :: os, _, _, _, _, _, h, h' => by
    obtain ⟨v, r, f1, f2, rfl, rfl, h3, h4⟩ := h
    exact ⟨v, _, f1, _, rfl, List.append_assoc _ _ _, h3, OwnL.app h4 h'⟩
theorem OwnL.split : ∀ {os os' : List O} {us : List V} {g : List Addr}, OwnL K R H (os ++ os') us g → ∃ vs vs' f f', us = vs ++ vs' ∧ g = f ++ f' ∧ OwnL K R H os vs f ∧ OwnL K R H os' vs' f'
  | [], os', us, g, h => ⟨[], us, [], g, rfl, rfl, ⟨rfl, rfl⟩, h⟩
  | o :: os, os', us, g, h => by
    obtain ⟨v, r, f1, f2, rfl, rfl, h3, h4⟩ := h
    obtain ⟨vs, vs', f, f', rfl, rfl, h5, h6⟩ := OwnL.split h4
    exact ⟨v :: vs, vs', f1 ++ f, f', rfl, (List.append_assoc _ _ _).symm, ⟨v, vs, f1, f, rfl, rfl, h3, h5⟩, h6⟩
/-- what an inner run leaves of the outer's own -/
theorem frame_out {f g : List Addr} (hR : ∀ a ∈ g, R a = none) (hH : ∀ a ∈ g, ∃ x, H a = some x) (dj : ∀ a ∈ g, a ∉ f) {sgV' : L2.St} {sg' : PSt} {tu' : List O} {us' : List V} (r' : Rel K ⟨H, R, f⟩ R' H' sgV' sg' tu' us') :
    (∀ a ∈ g, H' a = H a) ∧ ∀ a ∈ g, R' a = none := by
  refine ⟨fun a ha => ?_, fun a ha => ?_⟩
  · obtain ⟨x, hx⟩ := hH a ha
    rw [hx]
    exact r'.h0 a x hx (dj a ha)
  · cases e : R' a with
    | none => rfl
    | some y =>
      rcases r'.rn a (by rw [e]; exact Option.some_ne_none _) with z | z | z
      · exact absurd (hR a ha) z
      · exact absurd z (dj a ha)
      · obtain ⟨x, hx⟩ := hH a ha
        have z : H a = none := z
        rw [hx] at z; cases z
/-- THE FRAME, slots within, temps without -/
theorem Rel.frameS (r : Rel K B R H sgV sg tu vs) : ∃ B', Rel K B' R H sgV sg [] [] ∧ ∀ R' H' sgV' sg' tu' vs', Same R R' → Rel K B' R' H' sgV' sg' tu' vs' → Rel K B R' H' sgV' sg' (tu' ++ tu) (vs' ++ vs) := by
  obtain ⟨f1, f2, h1, h2, h3, h4⟩ := r.ex
  rw [List.nodup_append] at h3
  obtain ⟨n1, n2, n3⟩ := h3
  refine ⟨⟨H, R, f1⟩, ⟨⟨f1, [], h1, ⟨rfl, rfl⟩, by simpa using n1, fun a ha => ?_⟩, r.sub, Same.refl _, fun a o e _ => e, fun a h => .inl h, r.nd⟩, fun R' H' sgV' sg' tu' vs' s r' => ?_⟩
  · have ha : a ∈ f1 := by simpa using ha
    exact ⟨(h4 a (List.mem_append_left _ ha)).1, .inl ha⟩
  have th2 : ∀ a ∈ f2, ∃ x, H a = some x := OwnL.there _ _ _ h2
  obtain ⟨o1, o2⟩ := frame_out (fun a ha => (h4 a (List.mem_append_right _ ha)).1) th2 (fun a ha z => n3 a z a ha rfl) r'
  obtain ⟨g1, g2, k1, k2, k3, k4⟩ := r'.ex
  have inn : ∀ a ∈ g1 ++ g2, a ∈ B.A ∨ B.H a = none := fun a ha => by
    rcases (k4 a ha).2 with z | z
    · exact (h4 a (List.mem_append_left _ z)).2
    · cases e : B.H a with
      | none => exact .inr rfl
      | some o =>
        by_cases q : a ∈ B.A
        · exact .inl q
        · have := r.h0 a o e q
          have z : H a = none := z
          rw [z] at this; cases this
  refine ⟨⟨g1, g2 ++ f2, k1, OwnL.app k2 (OwnL.keep s _ _ _ o1 h2), ?_, fun a ha => ?_⟩, r'.sub, r.r0.trans s, fun a x hx na => ?_, fun a ha => ?_, r'.nd⟩
  · rw [← List.append_assoc, List.nodup_append]
    refine ⟨k3, n2, fun a ha b hb e => ?_⟩
    subst e
    rcases (k4 a ha).2 with z | z
    · exact n3 a z a hb rfl
    · obtain ⟨x, hx⟩ := th2 a hb
      have z : H a = none := z
      rw [hx] at z; cases z
  · rw [← List.append_assoc] at ha
    rcases List.mem_append.mp ha with z | z
    · exact ⟨(k4 a z).1, inn a z⟩
    · exact ⟨o2 a z, (h4 a (List.mem_append_right _ z)).2⟩
  · have hx' := r.h0 a x hx na
    by_cases q : a ∈ f1
    · rcases (h4 a (List.mem_append_left _ q)).2 with y | y
      · exact absurd y na
      · rw [y] at hx; cases hx
    · exact r'.h0 a x hx' q
  · rcases r'.rn a ha with z | z | z
    · exact r.rn a z
    · exact .inr ((h4 a (List.mem_append_left _ z)).2)
    · cases e : B.H a with
      | none => exact .inr (.inr rfl)
      | some o =>
        by_cases q : a ∈ B.A
        · exact .inr (.inl q)
        · have := r.h0 a o e q
          have z : H a = none := z
          rw [z] at this; cases this
/-- THE FRAME, the first temps within, slots and the other temps without -/
theorem Rel.frameT {os : List O} {us : List V} (r : Rel K B R H sgV sg (os ++ tu) (us ++ vs)) (hl : us.length = os.length) : ∃ B', Rel K B' R H [] [] os us ∧ ∀ R' H' os' us', Same R R' → Rel K B' R' H' [] [] os' us' → Rel K B R' H' sgV sg (os' ++ tu) (us' ++ vs) := by
  obtain ⟨f1, f2, h1, h2, h3, h4⟩ := r.ex
  obtain ⟨v1, v2, e1, e2, hv, rfl, k1, k2⟩ := OwnL.split h2
  have lenL : ∀ {os : List O} {vs : List V} {f : List Addr}, OwnL K R H os vs f → vs.length = os.length := by
    intro os
    induction os with
    | nil => intro vs f h; rw [h.1]; rfl
    | cons o os ih => intro vs f h; obtain ⟨v, r, f1, f2, rfl, rfl, h3, h4⟩ := h; simp [ih h4]
  obtain ⟨rfl, rfl⟩ : us = v1 ∧ vs = v2 := List.append_inj hv (by rw [hl, lenL k1])
  have pp : (f1 ++ (e1 ++ e2)).Perm (e1 ++ (f1 ++ e2)) := perm_mid
  have h3 := pp.nodup_iff.mp h3
  have h4 : ∀ a ∈ e1 ++ (f1 ++ e2), R a = none ∧ (a ∈ B.A ∨ B.H a = none) := fun a ha => h4 a (pp.mem_iff.mpr ha)
  rw [List.nodup_append] at h3
  obtain ⟨n1, n2, n3⟩ := h3
  refine ⟨⟨H, R, e1⟩, ⟨⟨[], e1, ⟨rfl, rfl⟩, k1, n1, fun a ha => ?_⟩, r.sub, Same.refl _, fun a o e _ => e, fun a h => .inl h, r.nd⟩, fun R' H' os' us' s r' => ?_⟩
  · exact ⟨(h4 a (List.mem_append_left _ ha)).1, .inl ha⟩
  have th2 : ∀ a ∈ f1 ++ e2, ∃ x, H a = some x := fun a ha => (List.mem_append.mp ha).elim (SlR.there _ _ _ h1 a) (OwnL.there _ _ _ k2 a)
  obtain ⟨o1, o2⟩ := frame_out (fun a ha => (h4 a (List.mem_append_right _ ha)).1) th2 (fun a ha z => n3 a z a ha rfl) r'
  obtain ⟨g1, g2, ks, kl, kn, km⟩ := r'.ex
  obtain rfl : g1 = [] := ks.2
  have inn : ∀ a ∈ g2, a ∈ B.A ∨ B.H a = none := fun a ha => by
    rcases (km a (by simpa using ha)).2 with z | z
    · exact (h4 a (List.mem_append_left _ z)).2
    · cases e : B.H a with
      | none => exact .inr rfl
      | some o =>
        by_cases q : a ∈ B.A
        · exact .inl q
        · have := r.h0 a o e q
          have z : H a = none := z
          rw [z] at this; cases this
  have pq : (f1 ++ (g2 ++ e2)).Perm (g2 ++ (f1 ++ e2)) := perm_mid
  refine ⟨⟨f1, g2 ++ e2, SlR.keep s _ _ _ (fun a ha => o1 a (List.mem_append_left _ ha)) h1, OwnL.app kl (OwnL.keep s _ _ _ (fun a ha => o1 a (List.mem_append_right _ ha)) k2), pq.nodup_iff.mpr ?_, fun a ha => ?_⟩, r'.sub, r.r0.trans s, fun a x hx na => ?_, fun a ha => ?_, r'.nd⟩
  · rw [List.nodup_append]
    refine ⟨by simpa using kn, n2, fun a ha b hb e => ?_⟩
    subst e
    rcases (km a (by simpa using ha)).2 with z | z
    · exact n3 a z a hb rfl
    · obtain ⟨x, hx⟩ := th2 a hb
      have z : H a = none := z
      rw [hx] at z; cases z
  · have ha := pq.mem_iff.mp ha
    rcases List.mem_append.mp ha with z | z
    · exact ⟨(km a (by simpa using z)).1, inn a z⟩
    · exact ⟨o2 a z, (h4 a (List.mem_append_right _ z)).2⟩
  · have hx' := r.h0 a x hx na
    by_cases q : a ∈ e1
    · rcases (h4 a (List.mem_append_left _ q)).2 with y | y
      · exact absurd y na
      · rw [y] at hx; cases hx
    · exact r'.h0 a x hx' q
  · rcases r'.rn a ha with z | z | z
    · exact r.rn a z
    · exact .inr ((h4 a (List.mem_append_left _ z)).2)
    · cases e : B.H a with
      | none => exact .inr (.inr rfl)
      | some o =>
        by_cases q : a ∈ B.A
        · exact .inr (.inl q)
        · have := r.h0 a o e q
          have z : H a = none := z
          rw [z] at this; cases this
end
end Pu
end
section
set_option Elab.async false
set_option linter.all false
set_option maxRecDepth 100000
set_option maxHeartbeats 4000000
/-! Pu4: statements, loops, comprehensions. -/
namespace Pu
open PySem PySem.Spec PyProof.Rows L2

structure PEnds where
  nx : PSt → Prop
  rt : O → PSt → Prop
  bk : PSt → Prop := fun _ => False
  ct : PSt → Prop := fun _ => False
  ex : Addr → List (Str × D) → PSt → Prop := fun _ _ _ => False
abbrev TSp := PEnds → PSt → Prop
/-- the places kp hold what they held -/
def Kp (kp : Nat → Prop) (a b : L2.St) : Prop := b.length = a.length ∧ ∀ i, kp i → b[i]? = a[i]?
abbrev inL (l : List Nat) : Nat → Prop := fun i => i ∈ l
abbrev noL (l : List Nat) : Nat → Prop := fun i => i ∉ l
theorem Kp.refl {kp : Nat → Prop} {a : L2.St} : Kp kp a a := ⟨rfl, fun _ _ => rfl⟩
theorem Kp.trans {kp : Nat → Prop} {a b c : L2.St} (h : Kp kp a b) (k : Kp kp b c) : Kp kp a c := ⟨k.1.trans h.1, fun i hi => (k.2 i hi).trans (h.2 i hi)⟩
theorem Kp.set {kp : Nat → Prop} {a : L2.St} {i : Nat} {x : Option V} (hi : ¬ kp i) : Kp kp a (a.set i x) :=
  ⟨List.length_set, fun j hj => List.getElem?_set_ne (show i ≠ j from fun e => hi (by rw [e]; exact hj))⟩
/-- an exception's own fields -/
def XAt (K : PySem.W.Frag) (R H : Hp) (fs : List (Str × D)) (od : Option Addr) : Prop := (od = none ∧ fs = []) ∨ ∃ dd fv, od = some dd ∧ H dd = some (.xd fv) ∧ RoF K R fs fv
/-- the pure ends lead to the heap's -/
structure EndsTo (K : PySem.W.Frag) (B : Ent) (kp : Nat → Prop) (W : WX) (R : Hp) (sgV : L2.St) (Dp : PEnds) (D : Ends) : Prop where
  nx : ∀ sgV' H' R' sg', Same R R' → Rel K B R' H' sgV' sg' [] [] → Kp kp sgV sgV' → Dp.nx sg' → D.nx sgV' H'
  rt : ∀ v sgV' H' R' o sg', Same R R' → Rel K B R' H' sgV' sg' [o] [v] → Kp kp sgV sgV' → Dp.rt o sg' → D.rt v H'
  bk : ∀ sgV' H' R' sg', Same R R' → Rel K B R' H' sgV' sg' [] [] → Kp kp sgV sgV' → Dp.bk sg' → D.bk sgV' H'
  ct : ∀ sgV' H' R' sg', Same R R' → Rel K B R' H' sgV' sg' [] [] → Kp kp sgV sgV' → Dp.ct sg' → D.ct sgV' H'
  ex : ∀ C fs od sgV' H' R' sg', Same R R' → Rel K B R' H' sgV' sg' [] [] → Kp kp sgV sgV' → XAt K R' H' fs od → Dp.ex C fs sg' → W (.ref C) od sgV' H'
def eS (K : PySem.W.Frag) (kp : Nat → Prop) (W : WX) (t : TSp) : TS := fun D sgV H => ∃ B R sg Dp, Rel K B R H sgV sg [] [] ∧ t Dp sg ∧ EndsTo K B kp W R sgV Dp D
theorem EndsTo.go {K : PySem.W.Frag} {B : Ent} {kp : Nat → Prop} {W : WX} {R R1 : Hp} {sgV sgV1 : L2.St} {Dp : PEnds} {D : Ends} (e : EndsTo K B kp W R sgV Dp D) (s : Same R R1) (k : Kp kp sgV sgV1) : EndsTo K B kp W R1 sgV1 Dp D :=
  ⟨fun sgV' H' R' sg' s2 r k2 h => e.nx sgV' H' R' sg' (s.trans s2) r (k.trans k2) h, fun v sgV' H' R' o sg' s2 r k2 h => e.rt v sgV' H' R' o sg' (s.trans s2) r (k.trans k2) h,
   fun sgV' H' R' sg' s2 r k2 h => e.bk sgV' H' R' sg' (s.trans s2) r (k.trans k2) h, fun sgV' H' R' sg' s2 r k2 h => e.ct sgV' H' R' sg' (s.trans s2) r (k.trans k2) h,
   fun C fs od sgV' H' R' sg' s2 r k2 x h => e.ex C fs od sgV' H' R' sg' (s.trans s2) r (k.trans k2) x h⟩
abbrev LS (X : Cx) (kp : Nat → Prop) (W : WX) (st : Stmt) (t : TSp) : Prop := PS X st (eS X.K kp W t)
abbrev LSs (X : Cx) (kp : Nat → Prop) (W : WX) (st : List Stmt) (t : TSp) : Prop := PSs X st (eS X.K kp W t)

/-! ### blocks, small statements -/
def sNil : TSp := fun D sg => D.nx sg
def sSeq (t u : TSp) : TSp := fun D sg => t { D with nx := u D } sg
def sExpr (t : TM) : TSp := fun D sg => t sg fun _ sg' => D.nx sg'
def sRet (t : TW) : TSp := fun D sg => t sg D.rt
def sRetN : TSp := fun D sg => D.rt (.ro .non) sg
def sIf (c : TB) (t u : TSp) : TSp := fun D sg => c sg fun b sg' => if b = true then t D sg' else u D sg'
def sBrk : TSp := fun D sg => D.bk sg
def sCnt : TSp := fun D sg => D.ct sg
def sNever : TSp := fun _ _ => False
def sSet (i : Nat) (t : TW) : TSp := fun D sg => t sg fun o sg' => D.nx (sg'.set i (some o))
section
variable {X : Cx} {kp : Nat → Prop} {W : WX} {st : Stmt} {rest : List Stmt} {e : Expr} {pos : Pos} {t u : TSp}
theorem ls_nil : LSs X kp W [] sNil := pss_weak pss_nil fun D sgV H ⟨B, R, sg, Dp, r, ht, en⟩ => en.nx sgV H R sg (Same.refl _) r Kp.refl ht
theorem seq_le {K : PySem.W.Frag} {D : Ends} {sgV : L2.St} {H : Hp} (q : eS K kp W (sSeq t u) D sgV H) : tSeq (eS K kp W t) (eS K kp W u) D sgV H := by
  obtain ⟨B, R, sg, Dp, r, ht, en⟩ := q
  refine ⟨B, R, sg, { Dp with nx := u Dp }, r, ht, ⟨fun sgV' H' R' sg' s r' k h => ?_, en.rt, en.bk, en.ct, en.ex⟩⟩
  exact ⟨B, R', sg', Dp, r', h, en.go s k⟩
theorem ls_cons (h : LS X kp W st t) (hr : LSs X kp W rest u) : LSs X kp W (st :: rest) (sSeq t u) := pss_weak (pss_cons h hr) fun _ _ _ q => seq_le q
theorem ls_one (h : LS X kp W st t) : LSs X kp W [st] t := pss_one h
theorem ls_pass : LS X kp W (.Pass pos) sNil := ps_weak ps_pass fun D sgV H ⟨B, R, sg, Dp, r, ht, en⟩ => en.nx sgV H R sg (Same.refl _) r Kp.refl ht
theorem ls_break : LS X kp W (.Break pos) sBrk := ps_weak ps_break fun D sgV H ⟨B, R, sg, Dp, r, ht, en⟩ => en.bk sgV H R sg (Same.refl _) r Kp.refl ht
theorem ls_continue : LS X kp W (.Continue pos) sCnt := ps_weak ps_continue fun D sgV H ⟨B, R, sg, Dp, r, ht, en⟩ => en.ct sgV H R sg (Same.refl _) r Kp.refl ht
theorem ls_never : LS X kp W st sNever := ps_weak ps_never fun D sgV H ⟨B, R, sg, Dp, r, ht, en⟩ => ht.elim
theorem ls_expr {te : TM} (he : LM X e te) (hs : swapsWith e none pos.line X.env = pure false := by rfl) : LS X kp W (.Expr e pos) (sExpr te) := ps_weak (ps_expr he hs) fun D sgV H ⟨B, R, sg, Dp, r, ht, en⟩ =>
  ⟨B, R, sg, _, r, ht, fun v H' R' d sg' s r' w h => en.nx sgV H' R' sg' s r' Kp.refl h⟩
theorem ls_ret {te : TW} (he : LO X e te) : LS X kp W (.Return (some e) pos) (sRet te) := ps_weak (ps_ret he) fun D sgV H ⟨B, R, sg, Dp, r, ht, en⟩ =>
  ⟨B, R, sg, _, r, ht, fun v H' R' o sg' s r' h => en.rt v sgV H' R' o sg' s r' Kp.refl h⟩
theorem ls_retN : LS X kp W (.Return none pos) sRetN := ps_weak ps_retN fun D sgV H ⟨B, R, sg, Dp, r, ht, en⟩ =>
  en.rt _ sgV H R _ sg (Same.refl _) (r.pushRo (d := .non) rfl) Kp.refl ht
theorem ls_if {c : Expr} {a b : List Stmt} {tc : TB} (hc : LT X c tc) (ha : LSs X kp W a t) (hb : LSs X kp W b u) : LS X kp W (.If c a b pos) (sIf tc t u) := ps_weak (ps_if hc ha hb) fun D sgV H ⟨B, R, sg, Dp, r, ht, en⟩ => by
  refine ⟨B, R, sg, _, r, ht, fun b H1 R1 sg1 s1 r1 hq => ?_⟩
  cases b with
  | true =>
    rw [if_pos rfl] at hq ⊢
    exact ⟨B, R1, sg1, Dp, r1, hq, en.go s1 Kp.refl⟩
  | false =>
    rw [if_neg Bool.false_ne_true] at hq ⊢
    exact ⟨B, R1, sg1, Dp, r1, hq, en.go s1 Kp.refl⟩
theorem Rel.store' {K : PySem.W.Frag} {B : Ent} {R H : Hp} {sgV : L2.St} {sg : PSt} {tu : List O} {vs : List V} {o : O} {v : V} (r : Rel K B R H sgV sg (o :: tu) (v :: vs)) (i : Nat) : Rel K B R H (sgV.set i (some v)) (sg.set i (some o)) tu vs := by
  by_cases h : i < sg.length
  · exact r.store h
  · have h2 : ¬ i < sgV.length := by rw [← r.len]; exact h
    rw [List.set_eq_of_length_le (by omega), List.set_eq_of_length_le (by omega)]
    exact r.pop
theorem ls_set {i : Nat} {x : Str} {te : TW} {pos' : Pos} (hN : X.N.Nodup) (hi : X.N[i]? = some x) (hx : Loc X.env.scope x) (hk : ¬ kp i) (he : LO X e te) (hs : swapsWith e (some (.Name x pos')) pos.line X.env = pure false := by rfl)
    (hf : X.fn x = true ∨ X.env.scope.names.lookup x = some .local := by first | exact .inl rfl | exact .inr rfl | assumption) : LS X kp W (.Assign [.Name x pos'] e pos) (sSet i te) := ps_weak (ps_set hN hi hx he hs hf) fun D sgV H ⟨B, R, sg, Dp, r, ht, en⟩ => by
  refine ⟨B, R, sg, _, r, ht, fun v H' R' o sg' s r' h => ?_⟩
  exact en.nx _ H' R' _ s (r'.store' i) (Kp.set hk) h
end

/-! ### while -/
def sWhile (c : TB) (tb : TSp) : TSp := fun D sg => ∃ Wi : Nat → PSt → Prop, (∃ m, Wi m sg) ∧ ∀ m sg, Wi m sg →
  c sg fun b sg1 => if b = true then tb { D with nx := fun sg' => ∃ m', m' < m ∧ Wi m' sg', ct := fun sg' => ∃ m', m' < m ∧ Wi m' sg', bk := D.nx } sg1 else D.nx sg1
section
variable {X : Cx} {kp : Nat → Prop} {W : WX} {pos : Pos}
theorem ls_while {c : Expr} {body : List Stmt} {tc : TB} {tb : TSp} (hp : PassesOwn (model X.prog X.w) X.A X.env X.xe) (hc : LT X c tc) (hb : LSs X kp W body tb) : LS X kp W (.While c body [] pos) (sWhile tc tb) := ps_weak (ps_while hp hc hb) fun D sgV H ⟨B, R, sg, Dp, r, ⟨Wi, ⟨m0, w0⟩, turn⟩, en⟩ => by
  refine ⟨fun m sgV' H' => ∃ R' sg', Same R R' ∧ Rel X.K B R' H' sgV' sg' [] [] ∧ Kp kp sgV sgV' ∧ Wi m sg', ⟨m0, R, sg, Same.refl _, r, Kp.refl, w0⟩, ?_⟩
  rintro m sgV1 H1 ⟨R1, sg1, s1, r1, k1, w1⟩
  refine ⟨B, R1, sg1, _, r1, turn m sg1 w1, fun b H2 R2 sg2 s2 r2 hq => ?_⟩
  cases b with
  | true =>
    rw [if_pos rfl] at hq ⊢
    refine ⟨fun sgV' H' => ∃ m', m' < m ∧ ∃ R' sg', Same R R' ∧ Rel X.K B R' H' sgV' sg' [] [] ∧ Kp kp sgV sgV' ∧ Wi m' sg', fun sg' H' ⟨m', hm, w'⟩ => ⟨m', hm, w'⟩, ?_⟩
    have e2 := en.go (s1.trans s2) k1
    refine ⟨B, R2, sg2, _, r2, hq, ⟨fun sgV' H' R' sg' s r k ⟨m', hm, w'⟩ => ⟨m', hm, R', sg', (s1.trans s2).trans s, r, k1.trans k, w'⟩, e2.rt, e2.nx, fun sgV' H' R' sg' s r k ⟨m', hm, w'⟩ => ⟨m', hm, R', sg', (s1.trans s2).trans s, r, k1.trans k, w'⟩, e2.ex⟩⟩
  | false =>
    rw [if_neg Bool.false_ne_true] at hq ⊢
    exact en.nx sgV1 H2 R2 sg2 (s1.trans s2) r2 k1 hq
end

/-! ### what is walked -/
def Wk (K : PySem.W.Frag) (J : It) (R0 : Hp) (ds : List D) : Prop := ∀ (i : Nat) (R H : Hp), Same R0 R → Same R H →
  (∀ d, ds[i]? = some d → J.go i H ∧ ∀ x H', J.yld i H x H' → ∃ R', Quiet R H R' H' ∧ Ro K R' d x) ∧ (ds[i]? = none → J.stop i H)
abbrev TIp := PSt → (List D → PSt → Prop) → Prop
def eI (K : PySem.W.Frag) (t : TIp) : TI := fun sgV H Q => ∃ B R sg Qp, Rel K B R H sgV sg [] [] ∧ t sg Qp ∧ ∀ J H' R' ds sg', Same R R' → Rel K B R' H' sgV sg' [] [] → Wk K J R' ds → Qp ds sg' → Q J H'
abbrev LI (X : Cx) (tg it : Expr) (t : TIp) : Prop := PI X tg it (eI X.K t)
theorem pi_weak {X : Cx} {tg it : Expr} {t t' : TI} (h : PI X tg it t) (k : ∀ sg H Q, t' sg H Q → t sg H Q) : PI X tg it t' := ⟨fun pins s sg H R I q => h.run pins s sg H R I (k sg H R q)⟩
/-! targets -/
abbrev TGp := D → PSt → (PSt → Prop) → Prop
abbrev TGsp := List D → PSt → (PSt → Prop) → Prop
def eG (K : PySem.W.Frag) (kp : Nat → Prop) (g : TGp) : TG := fun v sgV H Q => ∃ B R sg d Qp, Rel K B R H sgV sg [] [] ∧ Ro K R d v ∧ g d sg Qp ∧ ∀ sgV' H' R' sg', Same R R' → Rel K B R' H' sgV' sg' [] [] → Kp kp sgV sgV' → Qp sg' → Q sgV' H'
def eGs (K : PySem.W.Frag) (kp : Nat → Prop) (g : TGsp) : TGs := fun vs sgV H Q => ∃ B R sg ds Qp, Rel K B R H sgV sg [] [] ∧ RoL K R ds vs ∧ g ds sg Qp ∧ ∀ sgV' H' R' sg', Same R R' → Rel K B R' H' sgV' sg' [] [] → Kp kp sgV sgV' → Qp sg' → Q sgV' H'
abbrev LG (X : Cx) (kp : Nat → Prop) (tg : Expr) (g : TGp) : Prop := PG X tg (eG X.K kp g)
abbrev LGs (X : Cx) (kp : Nat → Prop) (tg : List Expr) (g : TGsp) : Prop := PGs X tg (eGs X.K kp g)
theorem pg_weak {X : Cx} {tg : Expr} {t t' : TG} (h : PG X tg t) (k : ∀ v sg H Q, t' v sg H Q → t v sg H Q) : PG X tg t' := ⟨fun pins s sg H v u Q I r q => h.run pins s sg H v u Q I r (k v sg H Q q)⟩
theorem pgs_weak {X : Cx} {tg : List Expr} {t t' : TGs} (h : PGs X tg t) (k : ∀ v sg H Q, t' v sg H Q → t v sg H Q) : PGs X tg t' := ⟨fun pins s sg H v u Q I r q => h.run pins s sg H v u Q I r (k v sg H Q q)⟩
def gN (i : Nat) : TGp := fun d sg Q => Q (sg.set i (some (.ro d)))
def gsN : TGsp := fun ds sg Q => match ds with
  | [] => Q sg
  | _ => False
def gsC (g : TGp) (r : TGsp) : TGsp := fun ds sg Q => match ds with
  | d :: ds => g d sg fun sg' => r ds sg' Q
  | [] => False
def gT (n : Nat) (g : TGsp) : TGp := fun d sg Q => match d with
  | .tup ds => ds.length = n ∧ g ds sg Q
  | _ => False
section
variable {X : Cx} {kp : Nat → Prop} {W : WX} {pos : Pos}
theorem lg_name {i : Nat} {x : Str} (hN : X.N.Nodup) (hi : X.N[i]? = some x) (hx : Loc X.env.scope x) (hk : ¬ kp i) (hf : X.fn x = true ∨ X.env.scope.names.lookup x = some .local := by first | exact .inl rfl | exact .inr rfl | assumption) : LG X kp (.Name x pos) (gN i) :=
  pg_weak (pg_name hN hi hx hf) fun v sgV H Q ⟨B, R, sg, d, Qp, r, w, hg, k⟩ => k _ H R _ (Same.refl _) ((r.pushRo w).store' i) (Kp.set hk) hg
theorem lgs_nil : LGs X kp [] gsN := pgs_weak pgs_nil fun v sgV H Q ⟨B, R, sg, ds, Qp, r, w, hg, k⟩ => by
  cases ds with
  | nil => exact ⟨w, k sgV H R sg (Same.refl _) r Kp.refl hg⟩
  | cons _ _ => exact hg.elim
theorem lgs_cons {e : Expr} {es : List Expr} {t : TGp} {u : TGsp} (h1 : LG X kp e t) (h2 : LGs X kp es u) (hs : (assignEach (e :: es) X.env).map (·.2) = assign e X.env :: (assignEach es X.env).map (·.2) := by rfl) : LGs X kp (e :: es) (gsC t u) :=
  pgs_weak (pgs_cons h1 h2 hs) fun v sgV H Q ⟨B, R, sg, ds, Qp, r, w, hg, k⟩ => by
    cases ds with
    | nil => exact hg.elim
    | cons d ds =>
      obtain ⟨x, xs, e1, w1, w2⟩ := w
      refine ⟨x, xs, e1, B, R, sg, d, _, r, w1, hg, fun sgV' H' R' sg' s r' k' h => ?_⟩
      exact ⟨B, R', sg', ds, Qp, r', RoL.mono s _ _ w2, h, fun sgV2 H2 R2 sg2 s2 r2 k2 h2 => k sgV2 H2 R2 sg2 (s.trans s2) r2 (k'.trans k2) h2⟩
theorem lg_tup {es : List Expr} {k : Nat} {t : TGsp} {n : Nat} (hc : X.calm = true) (h : LGs X kp es t) (hn : (assignEach es X.env).length = n := by rfl) (hst : (assignEach es X.env).findIdx? (·.1) = none := by rfl) : LG X kp (.Tuple es k pos) (gT n t) :=
  pg_weak (pg_tup hc h hn hst) fun v sgV H Q ⟨B, R, sg, d, Qp, r, w, hg, k⟩ => by
    cases d with
    | tup ds =>
      obtain ⟨a, vs, e, ha, w⟩ := w
      exact ⟨a, vs, e, SqT.of (r.sub _ _ ha), by rw [w.len]; exact hg.1, B, R, sg, ds, Qp, r, w, hg.2, k⟩
    | _ => exact hg.elim
/-- target = value (several names) -/
def sAsg (t : TM) (g : TGp) : TSp := fun D sg => t sg fun d sg' => g d sg' D.nx
theorem ls_asg {tg e : Expr} {te : TM} {g : TGp} (he : LM X e te) (hg : LG X kp tg g) (hs : swapsWithSole [tg] e pos.line X.env = pure false := by rfl) (hw : swappedStores [tg] e X.env = pure none := by rfl)
    (h1 : (assignEach [tg] X.env).map (·.2) = [assign tg X.env] := by rfl) : LS X kp W (.Assign [tg] e pos) (sAsg te g) := ps_weak (ps_asg he hg hs hw h1) fun D sgV H ⟨B, R, sg, Dp, r, ht, en⟩ =>
  ⟨B, R, sg, _, r, ht, fun v H' R' d sg' s r' w h => ⟨B, R', sg', d, _, r', w, h, fun sgV2 H2 R2 sg2 s2 r2 k2 h2 => en.nx sgV2 H2 R2 sg2 (s.trans s2) r2 k2 h2⟩⟩
end

/-! ### for -/
def forGo (g : TGp) (tb : TSp) (E : PEnds) : List D → PSt → Prop
  | [], sg => E.nx sg
  | d :: ds, sg => g d sg fun sg1 => tb { nx := forGo g tb E ds, ct := forGo g tb E ds, bk := E.nx, rt := E.rt, ex := E.ex } sg1
def sFor (ti : TIp) (g : TGp) (tb : TSp) : TSp := fun D sg => ti sg fun ds sg1 => forGo g tb D ds sg1
section
variable {X : Cx} {kp : Nat → Prop} {W : WX} {pos : Pos}
theorem ls_for {tg it : Expr} {body : List Stmt} {ti : TIp} {g : TGp} {tb : TSp} (hp : PassesOwn (model X.prog X.w) X.A X.env X.xe) (hc : X.calm = true) (hi : LI X tg it ti) (hg : LG X kp tg g) (hb : LSs X kp W body tb)
    (hs : ∀ x, foldedSetIterable it X.env x = pure x := by intro _; rfl) : LS X kp W (.For tg it body [] pos) (sFor ti g tb) := ps_weak (ps_for hp hc hi hg hb hs) fun D sgV H ⟨B, R, sg, Dp, r, ht, en⟩ => by
  refine ⟨B, R, sg, _, r, ht, fun J H1 R1 ds sg1 s1 r1 wk hq => ?_⟩
  refine ⟨fun i m sgV' H' => m = ds.length - i ∧ i ≤ ds.length ∧ ∃ R' sg', Same R1 R' ∧ Rel X.K B R' H' sgV' sg' [] [] ∧ Kp kp sgV sgV' ∧ forGo g tb Dp (ds.drop i) sg', ⟨ds.length, by simp, Nat.zero_le _, R1, sg1, Same.refl _, r1, Kp.refl, by simpa using hq⟩, ?_⟩
  rintro i m sgV2 H2 ⟨rfl, hle, R2, sg2, s2, r2, k2, hf⟩
  obtain ⟨go, stop⟩ := wk i R2 H2 s2 r2.sub
  cases e : ds[i]? with
  | none =>
    refine .inl ⟨stop e, ?_⟩
    have hl : ds.length ≤ i := List.getElem?_eq_none_iff.mp e
    rw [List.drop_eq_nil_of_le hl] at hf
    exact en.nx sgV2 H2 R2 sg2 (s1.trans s2) r2 k2 hf
  | some d =>
    obtain ⟨gi, gy⟩ := go d e
    have hlt : i < ds.length := (List.getElem?_eq_some_iff.mp e).1
    have hd : ds.drop i = d :: ds.drop (i + 1) := by
      rw [List.drop_eq_getElem_cons hlt]
      rw [List.getElem?_eq_getElem hlt] at e
      rw [Option.some.inj e]
    rw [hd] at hf
    have hf : g d sg2 fun sg1 => tb { nx := forGo g tb Dp (ds.drop (i + 1)), ct := forGo g tb Dp (ds.drop (i + 1)), bk := Dp.nx, rt := Dp.rt, ex := Dp.ex } sg1 := hf
    refine .inr ⟨gi, fun sgV' H' => ∃ R' sg', Same R1 R' ∧ Rel X.K B R' H' sgV' sg' [] [] ∧ Kp kp sgV sgV' ∧ forGo g tb Dp (ds.drop (i + 1)) sg', fun sgV' H' h => ⟨ds.length - (i + 1), by omega, rfl, hlt, h⟩, fun x H3 hy => ?_⟩
    obtain ⟨R3, q3, w3⟩ := gy x H3 hy
    refine ⟨B, R3, sg2, d, _, r2.quiet q3, w3, hf, fun sgV4 H4 R4 sg4 s4 r4 k4 h4 => ?_⟩
    have s14 : Same R1 R4 := (s2.trans q3.r).trans s4
    have e4 := en.go (s1.trans s14) (k2.trans k4)
    exact ⟨B, R4, sg4, _, r4, h4, ⟨fun sgV' H' R' sg' s r k h => ⟨R', sg', s14.trans s, r, (k2.trans k4).trans k, h⟩, e4.rt, e4.nx, fun sgV' H' R' sg' s r k h => ⟨R', sg', s14.trans s, r, (k2.trans k4).trans k, h⟩, e4.ex⟩⟩
end

/-! ### comprehensions -/
def wipeP (sg : PSt) : List Nat → PSt
  | [] => sg
  | v :: vs => (wipeP sg vs).set v none
theorem Rel.wipe {K : PySem.W.Frag} {B : Ent} {R H : Hp} {sgV : L2.St} {sg : PSt} {tu : List O} {us : List V} (r : Rel K B R H sgV sg tu us) : ∀ vs : List Nat, Rel K B R H (L2.wipe sgV vs) (wipeP sg vs) tu us
  | [] => r
  | v :: vs => (Rel.wipe r vs).drop v none
theorem wipeP_length (sg : PSt) : ∀ vs : List Nat, (wipeP sg vs).length = sg.length
  | [] => rfl
  | v :: vs => by unfold wipeP; rw [List.length_set, wipeP_length sg vs]
theorem wipeP_some {sg : PSt} {i : Nat} {x : O} : ∀ {vs : List Nat}, (wipeP sg vs)[i]? = some (some x) → sg[i]? = some (some x) ∧ i ∉ vs
  | [], h => ⟨h, by simp⟩
  | v :: vs, h => by
    unfold wipeP at h
    by_cases hi : v = i
    · subst hi
      by_cases hv : v < (wipeP sg vs).length
      · rw [List.getElem?_set_self hv] at h; cases h
      · rw [List.getElem?_eq_none (by simpa using hv)] at h; cases h
    · rw [List.getElem?_set_ne hi] at h
      obtain ⟨h1, h2⟩ := wipeP_some h
      exact ⟨h1, by simp only [List.mem_cons, not_or]; exact ⟨fun e => hi e.symm, h2⟩⟩
theorem wipe_get {sg : L2.St} {i : Nat} : ∀ {vs : List Nat}, i ∉ vs → (L2.wipe sg vs)[i]? = sg[i]?
  | [], _ => rfl
  | v :: vs, h => by
    unfold L2.wipe
    rw [List.getElem?_set_ne (show v ≠ i from fun e => h (by rw [e]; exact List.mem_cons_self))]
    exact wipe_get fun z => h (List.mem_cons_of_mem _ z)
/-- the block's frame given back -/
theorem Rel.unwipe {K : PySem.W.Frag} {B : Ent} {R H : Hp} {sgV : L2.St} {sg : PSt} {tu : List O} {us : List V} {vs : List Nat} (r : Rel K B R H (L2.wipe sgV vs) (wipeP sg vs) tu us) : Rel K B R H sgV (wipeP sg vs) tu us :=
  r.weakV (by rw [wipe_length]) fun i o e => by rw [wipe_get (wipeP_some e).2]
/-- ds: what is left; acc: the list so far; one turn from an empty own slot -/
def lcGo (g : TGp) (tt : TB) (te : TM) (vs : List Nat) (Q : List D → PSt → Prop) : List D → List D → PSt → Prop
  | [], acc, sg => Q acc (wipeP sg vs)
  | d :: ds, acc, sg => g d (wipeP sg vs) fun sg1 => tt sg1 fun b sg2 => if b = true then te sg2 fun y sg3 => acc.length < sizeLine ∧ lcGo g tt te vs Q ds (acc ++ [y]) sg3 else lcGo g tt te vs Q ds acc sg2
def wLc (ti : TIp) (g : TGp) (tt : TB) (te : TM) (vs : List Nat) : TW := fun sg Q => ti sg fun ds sg1 => lcGo g tt te vs (fun acc sg' => Q (.lst (acc.map O.ro)) sg') ds [] sg1
def tYesP : TB := fun sg Q => Q true sg
section
variable {X : Cx} {pos : Pos}
abbrev LTs (X : Cx) (ifs : List Expr) (t : TB) : Prop := PTs X ifs (eT X.K t)
theorem lts_nil : LTs X [] tYesP := ⟨fun pins s sgV H Q I ⟨B, R, sg, Qp, r, ht, k⟩ => (pts_nil (X := X)).run pins s sgV H Q I (k true H R sg (Same.refl _) r ht)⟩
theorem lts_one {c : Expr} {t : TB} (h : LT X c t) : LTs X [c] t := pts_one h
theorem RoL.app {K : PySem.W.Frag} {R : Hp} : ∀ {ds es : List D} {vs us : List V}, RoL K R ds vs → RoL K R es us → RoL K R (ds ++ es) (vs ++ us)
  | [], _, _, _, h, h' => by
    have h : _ = [] := h
    subst h; exact h'
  | d :: ds, _, _, _, h, h' => by obtain ⟨v, r, rfl, h2, h3⟩ := h; exact ⟨v, _, rfl, h2, RoL.app h3 h'⟩
theorem wipe_kp {a b : L2.St} {vs : List Nat} (h : Kp (noL vs) (L2.wipe a vs) b) : L2.wipe b vs = L2.wipe a vs := by
  have mem : ∀ {vs : List Nat} {c : L2.St} {i : Nat}, i ∈ vs → i < c.length → (L2.wipe c vs)[i]? = some none := by
    intro vs
    induction vs with
    | nil => intro c i hi; cases hi
    | cons v vs ih =>
      intro c i hi hl
      unfold L2.wipe
      by_cases e : v = i
      · subst e
        rw [List.getElem?_set_self (by rw [wipe_length]; exact hl)]
      · rw [List.getElem?_set_ne e]
        exact ih ((List.mem_cons.mp hi).resolve_left fun z => e z.symm) hl
  have hl : b.length = a.length := by rw [h.1, wipe_length]
  apply List.ext_getElem?
  intro i
  by_cases hi : i ∈ vs
  · by_cases q : i < a.length
    · rw [mem hi q, mem hi (by rw [hl]; exact q)]
    · rw [List.getElem?_eq_none (by rw [wipe_length, hl]; omega), List.getElem?_eq_none (by rw [wipe_length]; omega)]
  · rw [wipe_get hi]
    exact h.2 i hi
theorem lc_le {K : PySem.W.Frag} {ti : TIp} {g : TGp} {tt : TB} {te : TM} {vs : List Nat} {B : Ent} {R H : Hp} {sgV : L2.St} {sg : PSt} {Qp : O → PSt → Prop} {Q : VK} (r : Rel K B R H sgV sg [] []) (ht : wLc ti g tt te vs sg Qp)
    (k : ∀ v H' R' o sg', Same R R' → Rel K B R' H' sgV sg' [o] [v] → Qp o sg' → Q v H') : tLc (eI K ti) (eG K (noL vs) g) (eT K tt) (eM K te) vs sgV H Q := by
  refine ⟨B, R, sg, _, r, ht, fun J H1 R1 ds sg1 s1 r1 wk hq => ?_⟩
  intro Dd hD
  have r1L := rel_newL (ds := []) (vs := []) r1 rfl hD
  refine ⟨fun i m H' => m = ds.length - i ∧ i ≤ ds.length ∧ ∃ R' sg' acc, Same R1 R' ∧ Rel K B R' H' (L2.wipe sgV vs) (wipeP sg' vs) [.lst (acc.map O.ro)] [.ref Dd] ∧ lcGo g tt te vs (fun acc sg' => Qp (.lst (acc.map O.ro)) sg') (ds.drop i) acc sg',
    ⟨ds.length, by simp, Nat.zero_le _, R1, sg1, [], Same.refl _, r1L.wipe vs, by simpa using hq⟩, ?_⟩
  rintro i m H2 ⟨rfl, hle, R2, sg2, acc, s2, r2, hf⟩
  obtain ⟨go, stop⟩ := wk i R2 H2 s2 r2.sub
  cases e : ds[i]? with
  | none =>
    refine .inl ⟨stop e, ?_⟩
    have hl : ds.length ≤ i := List.getElem?_eq_none_iff.mp e
    rw [List.drop_eq_nil_of_le hl] at hf
    exact k _ H2 R2 _ _ (s1.trans s2) r2.unwipe hf
  | some d =>
    obtain ⟨gi, gy⟩ := go d e
    have hlt : i < ds.length := (List.getElem?_eq_some_iff.mp e).1
    have hd : ds.drop i = d :: ds.drop (i + 1) := by
      rw [List.drop_eq_getElem_cons hlt]
      rw [List.getElem?_eq_getElem hlt] at e
      rw [Option.some.inj e]
    rw [hd] at hf
    refine .inr ⟨gi, fun H' => ∃ R' sg' acc, Same R1 R' ∧ Rel K B R' H' (L2.wipe sgV vs) (wipeP sg' vs) [.lst (acc.map O.ro)] [.ref Dd] ∧ lcGo g tt te vs (fun acc sg' => Qp (.lst (acc.map O.ro)) sg') (ds.drop (i + 1)) acc sg', fun H' h => ⟨ds.length - (i + 1), by omega, rfl, hlt, h⟩, fun x H3 hy => ?_⟩
    obtain ⟨R3, q3, w3⟩ := gy x H3 hy
    have r3 := r2.quiet q3
    obtain ⟨B3, f3, back3⟩ := r3.frameS
    refine ⟨B3, R3, wipeP sg2 vs, d, _, f3, w3, hf, fun sgV4 H4 R4 sg4 s4 r4 k4 h4 => ?_⟩
    have hw4 := wipe_kp k4
    refine ⟨hw4, ?_⟩
    refine ⟨B3, R4, sg4, _, r4, h4, fun b H5 R5 sg5 s5 r5 hb => ?_⟩
    have fin : ∀ {R' H' sg' acc'}, Same R1 R' → Rel K B R' H' sgV4 sg' [.lst (acc'.map O.ro)] [.ref Dd] → lcGo g tt te vs (fun acc sg' => Qp (.lst (acc.map O.ro)) sg') (ds.drop (i + 1)) acc' sg' →
        ∃ R' sg' acc, Same R1 R' ∧ Rel K B R' H' (L2.wipe sgV vs) (wipeP sg' vs) [.lst (acc.map O.ro)] [.ref Dd] ∧ lcGo g tt te vs (fun acc sg' => Qp (.lst (acc.map O.ro)) sg') (ds.drop (i + 1)) acc sg' := fun {R' H' sg' acc'} s r h => by
      refine ⟨R', sg', acc', s, ?_, h⟩
      have := r.wipe vs
      rw [hw4] at this
      exact this
    have s15 : Same R1 R5 := ((s2.trans q3.r).trans s4).trans s5
    cases b with
    | false =>
      rw [if_neg Bool.false_ne_true] at hb
      refine iteF ?_
      exact fin s15 (back3 R5 H5 sgV4 sg5 [] [] (s4.trans s5) r5) hb
    | true =>
      rw [if_pos rfl] at hb
      refine iteT ?_
      refine ⟨B3, R5, sg5, _, r5, hb, fun y H6 R6 yd sg6 s6 r6 wy hy6 => ?_⟩
      obtain ⟨hacc, hgo⟩ := hy6
      have r7 : Rel K B R6 H6 sgV4 sg6 [.lst (acc.map O.ro)] [.ref Dd] := back3 R6 H6 sgV4 sg6 [] [] ((s4.trans s5).trans s6) r6
      obtain ⟨f1, f2, h1, h2, h3, h4'⟩ := id r7.ex
      obtain ⟨v', s, g1, g2, hv', rfl, h5, h6⟩ := h2
      cases hv'
      obtain ⟨a, av, f, ea, rfl, ha, hl⟩ := h5
      cases ea
      obtain ⟨wl, rfl⟩ := OwnL.toRo hl
      obtain ⟨_, rfl⟩ := h6
      refine ⟨av, ha, by rw [wl.len]; exact hacc, ?_⟩
      have dj : Dd ∉ f1 := fun z => by
        rw [List.nodup_append] at h3
        exact h3.2.2 Dd z Dd (by simp) rfl
      have hD6 := h4' Dd (by simp)
      refine fin (acc' := acc ++ [yd]) (s15.trans s6) ⟨⟨f1, [Dd], SlR.keep (Same.refl _) _ _ _ (fun a ha => upd_ne (show a ≠ Dd from fun z => dj (by rw [← z]; exact ha))) h1, ⟨.ref Dd, [], [Dd], [], rfl, rfl, ⟨Dd, _, [], rfl, rfl, upd_same, ?_⟩, rfl, rfl⟩, by simpa using h3, fun a ha => h4' a (by simpa using ha)⟩, fun a x hx => ?_, r7.r0, fun a x hx na => ?_, r7.rn, r7.nd⟩ hgo
      · rw [List.map_append]
        exact OwnL.app (f := []) (f' := []) (OwnL.ofRo wl) (OwnL.ofRo (ds := [yd]) ⟨y, [], rfl, wy, rfl⟩)
      · rw [upd_ne (show a ≠ Dd from fun z => by rw [z, hD6.1] at hx; cases hx)]
        exact r7.sub a x hx
      · by_cases z : a = Dd
        · subst z
          rcases hD6.2 with y | y
          · exact absurd y na
          · rw [y] at hx; cases hx
        · rw [upd_ne z]; exact r7.h0 a x hx na
end
end Pu
end
section
set_option Elab.async false
set_option linter.all false
set_option maxRecDepth 100000
set_option maxHeartbeats 4000000
/-! Pu5: comprehensions as expressions, iterators, defs and their calls. -/
namespace Pu
open PySem PySem.Spec PyProof.Rows L2

section
variable {X : Cx} {pos : Pos}
/-- [elt for tg in iter if ..] -/
theorem lo_lc {elt tg iter : Expr} {ifs : List Expr} {scope : Scope} {own : List (Str × Nat)} {ti : TIp} {g : TGp} {tt : TB} {te : TM} (hc : X.calm = true) (hN : X.N.Nodup) (hi : LI X tg iter ti) (ok : BlkOk X.N X.env.scope scope own)
    (hg : ∀ (s : Shared) (H : Hp) (C : Addr) (cl : List (Str × Addr)) (fp : List Addr), LG (X.blk s H scope (compEnvC scope cl C X.env) fp) (noL (own.map (·.2))) tg g)
    (ht : ∀ (s : Shared) (H : Hp) (C : Addr) (cl : List (Str × Addr)) (fp : List Addr), LTs (X.blk s H scope (compEnvC scope cl C X.env) fp) ifs tt)
    (he : ∀ (s : Shared) (H : Hp) (C : Addr) (cl : List (Str × Addr)) (fp : List Addr), LM (X.blk s H scope (compEnvC scope cl C X.env) fp) elt te) (hs : ∀ x, foldedSetIterable iter X.env x = pure x := by intro _; rfl) :
    LO X (.ListComp elt [⟨tg, iter, ifs, 0⟩] scope pos) (wLc ti g tt te (own.map (·.2))) :=
  pe_weak (pe_lc hc hN hi ok hg ht he hs) fun sgV H Q ⟨B, R, sg, Qp, r, ht, k⟩ => lc_le r ht k
/-- name = [..] -/
theorem ls_setLc {kp : Nat → Prop} {W : WX} {i : Nat} {y : Str} {py spos : Pos} {elt tg iter : Expr} {ifs : List Expr} {scope : Scope} {own : List (Str × Nat)} {ti : TIp} {g : TGp} {tt : TB} {te : TM} (hk : ¬ kp i) (hc : X.calm = true) (hN : X.N.Nodup) (hy : X.N[i]? = some y) (hyl : X.env.scope.names.lookup y = some .local)
    (hsw : swapsWith (.ListComp elt [⟨tg, iter, ifs, 0⟩] scope pos) (some (.Name y py)) spos.line X.env = pure true) (hi : LI X tg iter ti) (ok : BlkOk X.N X.env.scope scope own)
    (hg : ∀ (s : Shared) (H : Hp) (C : Addr) (cl : List (Str × Addr)) (fp : List Addr), LG (X.blk s H scope (compEnvC scope cl C X.env) fp) (noL (own.map (·.2))) tg g)
    (ht : ∀ (s : Shared) (H : Hp) (C : Addr) (cl : List (Str × Addr)) (fp : List Addr), LTs (X.blk s H scope (compEnvC scope cl C X.env) fp) ifs tt)
    (he : ∀ (s : Shared) (H : Hp) (C : Addr) (cl : List (Str × Addr)) (fp : List Addr), LM (X.blk s H scope (compEnvC scope cl C X.env) fp) elt te) (hs : ∀ x, foldedSetIterable iter X.env x = pure x := by intro _; rfl) :
    LS X kp W (.Assign [.Name y py] (.ListComp elt [⟨tg, iter, ifs, 0⟩] scope pos) spos) (sSet i (wLc ti g tt te (own.map (·.2)))) :=
  ps_weak (ps_setLc hc hN hy hyl hsw hi ok hg ht he hs) fun D sgV H ⟨B, R, sg, Dp, r, ht, en⟩ => by
    show tLc _ _ _ _ _ sgV H _
    exact lc_le r ht fun v H' R' o sg' s r' h => en.nx _ H' R' _ s (r'.store' i) (Kp.set hk) h
/-- .. where no rule of the machine's stores it early -/
theorem ls_setLcO {kp : Nat → Prop} {W : WX} {i : Nat} {x : Str} {te : TW} {e : Expr} {pos' : Pos} (hN : X.N.Nodup) (hi : X.N[i]? = some x) (hx : Loc X.env.scope x) (hk : ¬ kp i) (he : LO X e te) (hs : swapsWith e (some (.Name x pos')) pos.line X.env = pure false)
    (hf : X.fn x = true ∨ X.env.scope.names.lookup x = some .local := by first | exact .inl rfl | exact .inr rfl | assumption) : LS X kp W (.Assign [.Name x pos'] e pos) (sSet i te) := ls_set hN hi hx hk he hs hf
end

/-! ### iterators -/
def iL (t : TM) : TIp := fun sg Q => t sg fun d sg' => match d with
  | .lst ds => Q ds sg'
  | _ => False
def iT (t : TM) : TIp := fun sg Q => t sg fun d sg' => match d with
  | .tup ds => Q ds sg'
  | _ => False
def chD (c : Nat) : D := .str ⟨#[c]⟩
def iS (t : TM) : TIp := fun sg Q => t sg fun d sg' => match d with
  | .str x => Q (x.cps.toList.map chD) sg'
  | _ => False
def rgD (lo : Int) (n : Nat) : List D := (List.range n).map fun (i : Nat) => .int (lo + (i : Int))
def iR1 (t : TAM) : TIp := fun sg Q => t sg fun ds sg' => match ds with
  | [.int j] => (-(2 ^ 62) ≤ j ∧ j < 2 ^ 62) ∧ Q (rgD 0 j.toNat) sg'
  | _ => False
def iR2 (t : TAM) : TIp := fun sg Q => t sg fun ds sg' => match ds with
  | [.int i, .int j] => (-(2 ^ 62) ≤ i ∧ i < 2 ^ 62 ∧ -(2 ^ 62) ≤ j ∧ j < 2 ^ 62) ∧ Q (rgD i (j - i).toNat) sg'
  | _ => False
def rgC (lo c : Int) (n : Nat) : List D := (List.range n).map fun (i : Nat) => .int (lo + (i : Int) * c)
def iR3 (t : TAM) : TIp := fun sg Q => t sg fun ds sg' => match ds with
  | [.int i, .int j, .int c] => ∃ n, RgC i j c n ∧ Q (rgC i c n) sg'
  | _ => False
def enD : Nat → List D → List D
  | _, [] => []
  | n, d :: ds => .tup [.int n, d] :: enD (n + 1) ds
def iEn (t : TAM) : TIp := fun sg Q => t sg fun ds sg' => match ds with
  | [.lst xs] => Q (enD 0 xs) sg'
  | _ => False
def zpD : List D → List D → List D
  | a :: as, b :: bs => .tup [a, b] :: zpD as bs
  | _, _ => []
def iZp (t : TAM) : TIp := fun sg Q => t sg fun ds sg' => match ds with
  | [.lst xs, .lst ys] => Q (zpD xs ys) sg'
  | [.tup xs, .tup ys] => Q (zpD xs ys) sg'
  | _ => False
section
variable {K : PySem.W.Frag} {R H : Hp}
theorem RoL.get : ∀ {ds : List D} {vs : List V}, RoL K R ds vs → ∀ {i : Nat} {d : D}, ds[i]? = some d → ∃ v, vs[i]? = some v ∧ Ro K R d v
  | [], _, h, i, d, e => by simp at e
  | d₀ :: ds, _, h, 0, d, e => by
    obtain ⟨v, r, rfl, h2, h3⟩ := h
    simp at e
    subst e
    exact ⟨v, rfl, h2⟩
  | d₀ :: ds, _, h, i + 1, d, e => by
    obtain ⟨v, r, rfl, h2, h3⟩ := h
    obtain ⟨v', h4, h5⟩ := RoL.get h3 (i := i) (by simpa using e)
    exact ⟨v', by simpa using h4, h5⟩
theorem wk_list {a : Addr} {ds : List D} {vs : List V} (h : SqL K R a vs) (w : RoL K R ds vs) : Wk K (Itl K a) R ds := fun i R2 H2 s s2 => by
  have h2 : SqL K H2 a vs := (s.trans s2).seq h
  refine ⟨fun d e => ?_, fun e => ⟨vs, h2, by rw [w.len]; exact List.getElem?_eq_none_iff.mp e⟩⟩
  obtain ⟨v, hv, wv⟩ := w.get e
  refine ⟨⟨vs, v, h2, hv⟩, fun x H' y => ?_⟩
  obtain ⟨rfl, y⟩ := y
  have := y vs h2
  rw [hv] at this
  cases this
  exact ⟨R2, Quiet.refl s2, Ro.mono s _ _ wv⟩
theorem wk_tup {a : Addr} {ds : List D} {vs : List V} (h : R a = some (.tup vs)) (w : RoL K R ds vs) : Wk K (Itt K a) R ds := fun i R2 H2 s s2 => by
  have h2 : SqT K H2 a vs := SqT.of (s2 _ _ (s _ _ h))
  refine ⟨fun d e => ?_, fun e => ⟨vs, h2, by rw [w.len]; exact List.getElem?_eq_none_iff.mp e⟩⟩
  obtain ⟨v, hv, wv⟩ := w.get e
  refine ⟨⟨vs, v, h2, hv⟩, fun x H' y => ?_⟩
  obtain ⟨rfl, y⟩ := y
  have := y vs h2
  rw [hv] at this
  cases this
  exact ⟨R2, Quiet.refl s2, Ro.mono s _ _ wv⟩
theorem wk_str {x : Str} : Wk K (Its x) R (x.cps.toList.map chD) := fun i R2 H2 s s2 => by
  refine ⟨fun d e => ?_, fun e => ?_⟩
  · rw [List.getElem?_map] at e
    have hlt : i < x.cps.size := by
      cases q : x.cps.toList[i]? with
      | none => rw [q] at e; cases e
      | some c => exact by simpa using (List.getElem?_eq_some_iff.mp q).1
    refine ⟨hlt, fun v H' y => ?_⟩
    obtain ⟨rfl, c, hc, rfl⟩ := y
    have e2 : x.cps.toList[i]? = some c := by simpa using hc
    rw [e2] at e
    cases e
    exact ⟨R2, Quiet.refl s2, rfl⟩
  · have := List.getElem?_eq_none_iff.mp e
    show x.cps.size ≤ i
    simpa using this
theorem rgD_get {lo : Int} {n i : Nat} {d : D} (e : (rgD lo n)[i]? = some d) : i < n ∧ d = .int (lo + (i : Int)) := by
  unfold rgD at e
  rw [List.getElem?_map] at e
  by_cases h : i < n
  · rw [List.getElem?_range h] at e
    cases e
    exact ⟨h, rfl⟩
  · rw [List.getElem?_eq_none (by simpa using h)] at e; cases e
theorem wk_range {lo : Int} {n : Nat} : Wk K (Itr lo n) R (rgD lo n) := fun i R2 H2 s s2 => by
  refine ⟨fun d e => ?_, fun e => ?_⟩
  · obtain ⟨h, rfl⟩ := rgD_get e
    refine ⟨h, fun x H' y => ?_⟩
    obtain ⟨rfl, rfl⟩ := y
    exact ⟨R2, Quiet.refl s2, rfl⟩
  · have := List.getElem?_eq_none_iff.mp e
    show n ≤ i
    simpa [rgD] using this
theorem rgC_get {lo c : Int} {n i : Nat} {d : D} (e : (rgC lo c n)[i]? = some d) : i < n ∧ d = .int (lo + (i : Int) * c) := by
  unfold rgC at e
  rw [List.getElem?_map] at e
  by_cases h : i < n
  · rw [List.getElem?_range h] at e
    cases e
    exact ⟨h, rfl⟩
  · rw [List.getElem?_eq_none (by simpa using h)] at e; cases e
theorem wk_rangeC {lo c : Int} {n : Nat} : Wk K (Itc lo c n) R (rgC lo c n) := fun i R2 H2 s s2 => by
  refine ⟨fun d e => ?_, fun e => ?_⟩
  · obtain ⟨h, rfl⟩ := rgC_get e
    refine ⟨h, fun x H' y => ?_⟩
    obtain ⟨rfl, rfl⟩ := y
    exact ⟨R2, Quiet.refl s2, rfl⟩
  · have := List.getElem?_eq_none_iff.mp e
    show n ≤ i
    simpa [rgC] using this
theorem enD_get : ∀ {ds : List D} {n i : Nat}, (enD n ds)[i]? = (ds[i]?).map fun d => .tup [.int ((n + i : Nat) : Int), d]
  | [], n, i => by simp [enD]
  | d :: ds, n, 0 => by simp [enD]
  | d :: ds, n, i + 1 => by
    show (enD (n + 1) ds)[i]? = _
    rw [enD_get]
    have : n + 1 + i = n + (i + 1) := by omega
    rw [this]
    simp
theorem pair_new {a b : D} {x y : V} {R2 H2 : Hp} {T : Addr} (s2 : Same R2 H2) (wa : Ro K R2 a x) (wb : Ro K R2 b y) (hT : H2 T = none) : ∃ R', Quiet R2 H2 R' (upd H2 T (.tup [x, y])) ∧ Ro K R' (.tup [a, b]) (.ref T) := by
  obtain ⟨q, w⟩ := new_tup (ds := [a, b]) (vs := [x, y]) s2 ⟨x, [y], rfl, wa, y, [], rfl, wb, rfl⟩ hT
  exact ⟨_, q, w⟩
theorem wk_enum {a : Addr} {ds : List D} {vs : List V} (h : SqL K R a vs) (w : RoL K R ds vs) : Wk K (Ite K a) R (enD 0 ds) := fun i R2 H2 s s2 => by
  have h2 : SqL K H2 a vs := (s.trans s2).seq h
  rw [enD_get]
  refine ⟨fun d e => ?_, fun e => ⟨vs, h2, ?_⟩⟩
  · cases e1 : ds[i]? with
    | none => rw [e1] at e; cases e
    | some d₀ =>
      rw [e1] at e
      cases e
      obtain ⟨v, hv, wv⟩ := w.get e1
      refine ⟨⟨vs, v, h2, hv⟩, fun x H' y => ?_⟩
      obtain ⟨T, x', rfl, hT, rfl, y⟩ := y
      have := y vs h2
      rw [hv] at this
      cases this
      have : (0 + i : Nat) = i := by omega
      rw [this]
      exact pair_new s2 (a := .int (i : Nat)) rfl (Ro.mono s _ _ wv) hT
  · rw [w.len]
    cases e1 : ds[i]? with
    | none => exact List.getElem?_eq_none_iff.mp e1
    | some d₀ => rw [e1] at e; cases e
theorem zpD_get : ∀ {as bs : List D} {i : Nat}, (zpD as bs)[i]? = (as[i]?).bind fun a => (bs[i]?).map fun b => .tup [a, b]
  | [], bs, i => by simp [zpD]
  | a :: as, [], i => by cases h : (a :: as)[i]? <;> simp [zpD, h]
  | a :: as, b :: bs, 0 => by simp [zpD]
  | a :: as, b :: bs, i + 1 => by
    show (zpD as bs)[i]? = _
    rw [zpD_get]
    simp
theorem wk_zip {a b : Addr} {ds es : List D} {vs us : List V} (h : SqL K R a vs) (w : RoL K R ds vs) (h' : SqL K R b us) (w' : RoL K R es us) : Wk K (Itz K a b) R (zpD ds es) := fun i R2 H2 s s2 => by
  have h2 : SqL K H2 a vs := (s.trans s2).seq h
  have h3 : SqL K H2 b us := (s.trans s2).seq h'
  rw [zpD_get]
  cases e1 : ds[i]? with
  | none => exact ⟨fun d e => (nomatch e), fun _ => ⟨vs, us, h2, h3, .inl (by rw [w.len]; exact List.getElem?_eq_none_iff.mp e1)⟩⟩
  | some d₀ =>
    cases e2 : es[i]? with
    | none => exact ⟨fun d e => (nomatch e), fun _ => ⟨vs, us, h2, h3, .inr (by rw [w'.len]; exact List.getElem?_eq_none_iff.mp e2)⟩⟩
    | some e₀ =>
      refine ⟨fun d e => ?_, fun e => (nomatch e)⟩
      cases e
      obtain ⟨v, hv, wv⟩ := w.get e1
      obtain ⟨u, hu, wu⟩ := w'.get e2
      refine ⟨⟨vs, us, v, u, h2, h3, hv, hu⟩, fun x H' y => ?_⟩
      obtain ⟨T, x', y', rfl, hT, rfl, y1, y2⟩ := y
      have q1 := y1 vs h2
      have q2 := y2 us h3
      rw [hv] at q1
      rw [hu] at q2
      cases q1
      cases q2
      exact pair_new s2 (Ro.mono s _ _ wv) (Ro.mono s _ _ wu) hT
theorem wk_zipT {a b : Addr} {ds es : List D} {vs us : List V} (h : R a = some (.tup vs)) (w : RoL K R ds vs) (h' : R b = some (.tup us)) (w' : RoL K R es us) : Wk K (RZ.ItzT K a b) R (zpD ds es) := fun i R2 H2 s s2 => by
  have h2 : SqT K H2 a vs := SqT.of (s2 _ _ (s _ _ h))
  have h3 : SqT K H2 b us := SqT.of (s2 _ _ (s _ _ h'))
  rw [zpD_get]
  cases e1 : ds[i]? with
  | none => exact ⟨fun d e => (nomatch e), fun _ => ⟨vs, us, h2, h3, .inl (by rw [w.len]; exact List.getElem?_eq_none_iff.mp e1)⟩⟩
  | some d₀ =>
    cases e2 : es[i]? with
    | none => exact ⟨fun d e => (nomatch e), fun _ => ⟨vs, us, h2, h3, .inr (by rw [w'.len]; exact List.getElem?_eq_none_iff.mp e2)⟩⟩
    | some e₀ =>
      refine ⟨fun d e => ?_, fun e => (nomatch e)⟩
      cases e
      obtain ⟨v, hv, wv⟩ := w.get e1
      obtain ⟨u, hu, wu⟩ := w'.get e2
      refine ⟨⟨vs, us, v, u, h2, h3, hv, hu⟩, fun x H' y => ?_⟩
      obtain ⟨T, x', y', rfl, hT, rfl, y1, y2⟩ := y
      have q1 := y1 vs h2
      have q2 := y2 us h3
      rw [hv] at q1
      rw [hu] at q2
      cases q1
      cases q2
      exact pair_new s2 (Ro.mono s _ _ wv) (Ro.mono s _ _ wu) hT
end
section
variable {X : Cx} {tg e e2 e3 : Expr} {pos : Pos}
theorem li_list {t : TM} (h : LM X e t) : LI X tg e (iL t) := pi_weak (pi_list h) fun sgV H Q ⟨B, R, sg, Qp, r, ht, k⟩ => by
  refine ⟨B, R, sg, _, r, ht, fun v H' R' d sg' s r' w hq => ?_⟩
  cases d with
  | lst ds =>
    obtain ⟨a, vs, rfl, hs, w⟩ := w
    exact ⟨a, rfl, ⟨vs, r'.sub.seq hs⟩, k _ H' R' ds sg' s r' (wk_list hs w) hq⟩
  | _ => exact hq.elim
theorem li_tup {t : TM} (h : LM X e t) : LI X tg e (iT t) := pi_weak (pi_tup h) fun sgV H Q ⟨B, R, sg, Qp, r, ht, k⟩ => by
  refine ⟨B, R, sg, _, r, ht, fun v H' R' d sg' s r' w hq => ?_⟩
  cases d with
  | tup ds =>
    obtain ⟨a, vs, rfl, hs, w⟩ := w
    exact ⟨a, rfl, ⟨vs, SqT.of (r'.sub _ _ hs)⟩, k _ H' R' ds sg' s r' (wk_tup hs w) hq⟩
  | _ => exact hq.elim
theorem li_str {t : TM} (h : LM X e t) : LI X tg e (iS t) := pi_weak (pi_str h) fun sgV H Q ⟨B, R, sg, Qp, r, ht, k⟩ => by
  refine ⟨B, R, sg, _, r, ht, fun v H' R' d sg' s r' w hq => ?_⟩
  cases d with
  | str x =>
    have w : v = .str x := w
    exact ⟨x, w, k _ H' R' _ sg' s r' wk_str hq⟩
  | _ => exact hq.elim
theorem li_range1 {p : Pos} {t : TAM} (hg : Gl X "range") (hm : X.mg "range" = none) (ha : LAM X [e] t) (hs : starEach [e] X.env = [(false, eval e X.env)] := by rfl) : LI X tg (.Call (.Name "range" p) [e] [] pos) (iR1 t) := pi_weak (pi_range1 hg hm ha hs) fun sgV H Q ⟨B, R, sg, Qp, r, ht, k⟩ => by
  refine ⟨B, R, sg, _, r, ht, fun vs H' R' ds sg' s r' w hq => ?_⟩
  split at hq
  · rename_i j
    obtain ⟨v, rr, rfl, w1, w2⟩ := w
    have w2 : rr = [] := w2
    subst w2
    have w1 : v = .int j := w1
    subst w1
    exact ⟨j, rfl, hq.1.1, hq.1.2, k _ H' R' _ sg' s r' wk_range hq.2⟩
  · exact hq.elim
theorem li_range2 {p : Pos} {t : TAM} (hg : Gl X "range") (hm : X.mg "range" = none) (ha : LAM X [e, e2] t) (hs : starEach [e, e2] X.env = [(false, eval e X.env), (false, eval e2 X.env)] := by rfl) (hs2 : starEach [e2] X.env = [(false, eval e2 X.env)] := by rfl) :
    LI X tg (.Call (.Name "range" p) [e, e2] [] pos) (iR2 t) := pi_weak (pi_range2 hg hm ha hs hs2) fun sgV H Q ⟨B, R, sg, Qp, r, ht, k⟩ => by
  refine ⟨B, R, sg, _, r, ht, fun vs H' R' ds sg' s r' w hq => ?_⟩
  split at hq
  · rename_i i j
    obtain ⟨v, rr, rfl, w1, v2, r2, rfl, w2, w3⟩ := w
    have w3 : r2 = [] := w3
    subst w3
    have w1 : v = .int i := w1
    have w2 : v2 = .int j := w2
    subst w1 w2
    exact ⟨i, j, rfl, hq.1, k _ H' R' _ sg' s r' wk_range hq.2⟩
  · exact hq.elim
theorem li_range3 {p : Pos} {t : TAM} (hg : Gl X "range") (hm : X.mg "range" = none) (ha : LAM X [e, e2, e3] t)
    (hs : starEach [e, e2, e3] X.env = (false, eval e X.env) :: starEach [e2, e3] X.env := by rfl) (hpl : (backTo pos (starEach [e2, e3] X.env)).any (·.1) = false := by rfl) :
    LI X tg (.Call (.Name "range" p) [e, e2, e3] [] pos) (iR3 t) := pi_weak (pi_range3 hg hm ha hs hpl) fun sgV H Q ⟨B, R, sg, Qp, r, ht, k⟩ => by
  refine ⟨B, R, sg, _, r, ht, fun vs H' R' ds sg' s r' w hq => ?_⟩
  split at hq
  · rename_i i j c
    obtain ⟨v, rr, rfl, w1, v2, r2, rfl, w2, v3, r3, rfl, w3, w4⟩ := w
    have w4 : r3 = [] := w4
    subst w4
    have w1 : v = .int i := w1
    have w2 : v2 = .int j := w2
    have w3 : v3 = .int c := w3
    subst w1 w2 w3
    obtain ⟨n, h1, h2⟩ := hq
    exact ⟨i, j, c, n, rfl, h1, k _ H' R' _ sg' s r' wk_rangeC h2⟩
  · exact hq.elim
theorem li_enum {p tpos : Pos} {elts : List Expr} {kk : Nat} {t : TAM} (hg : Gl X "enumerate") (hm : X.mg "enumerate" = none) (ha : LAM X [e] t) (hs : starEach [e] X.env = [(false, eval e X.env)] := by rfl) :
    LI X (.Tuple elts kk tpos) (.Call (.Name "enumerate" p) [e] [] pos) (iEn t) := pi_weak (pi_enum hg hm ha hs) fun sgV H Q ⟨B, R, sg, Qp, r, ht, k⟩ => by
  refine ⟨B, R, sg, _, r, ht, fun vs H' R' ds sg' s r' w hq => ?_⟩
  split at hq
  · rename_i xs
    obtain ⟨v, rr, rfl, w1, w2⟩ := w
    have w2 : rr = [] := w2
    subst w2
    obtain ⟨a, us, rfl, hs, w⟩ := w1
    exact ⟨a, us, rfl, r'.sub.seq hs, k _ H' R' _ sg' s r' (wk_enum hs w) hq⟩
  · exact hq.elim
theorem li_zip {p tpos : Pos} {elts : List Expr} {kk : Nat} {t : TAM} (hg : Gl X "zip") (hm : X.mg "zip" = none) (ha : LAM X [e, e2] t)
    (hs : starEach [e, e2] X.env = (false, eval e X.env) :: starEach [e2] X.env := by rfl) (hpl : (backTo pos (starEach [e2] X.env)).any (·.1) = false := by rfl) :
    LI X (.Tuple elts kk tpos) (.Call (.Name "zip" p) [e, e2] [] pos) (iZp t) := pi_weak (RZ.pi_zipA hg hm ha hs hpl) fun sgV H Q ⟨B, R, sg, Qp, r, ht, k⟩ => by
  refine ⟨B, R, sg, _, r, ht, fun vs H' R' ds sg' s r' w hq => ?_⟩
  split at hq
  · rename_i xs ys
    obtain ⟨v, rr, rfl, w1, v2, r2, rfl, w2, w3⟩ := w
    have w3 : r2 = [] := w3
    subst w3
    obtain ⟨a, us, rfl, hs, w⟩ := w1
    obtain ⟨b, us', rfl, hs', w'⟩ := w2
    exact ⟨a, b, us, us', rfl, .inl ⟨r'.sub.seq hs, r'.sub.seq hs', k _ H' R' _ sg' s r' (wk_zip hs w hs' w') hq⟩⟩
  · rename_i xs ys
    obtain ⟨v, rr, rfl, w1, v2, r2, rfl, w2, w3⟩ := w
    have w3 : r2 = [] := w3
    subst w3
    obtain ⟨a, us, rfl, hs, w⟩ := w1
    obtain ⟨b, us', rfl, hs', w'⟩ := w2
    exact ⟨a, b, us, us', rfl, .inr ⟨SqT.of (r'.sub _ _ hs), SqT.of (r'.sub _ _ hs'), k _ H' R' _ sg' s r' (wk_zipT hs w hs' w') hq⟩⟩
  · exact hq.elim
end
end Pu
end
section
set_option Elab.async false
set_option linter.all false
set_option maxRecDepth 100000
set_option maxHeartbeats 4000000
/-! Pu6: defs, their promises, calls, methods, instances. -/
namespace Pu
open PySem PySem.Spec PyProof.Rows L2

abbrev PX := Addr → List (Str × D) → List O → Prop
abbrev PSp := List O → (O → List O → Prop) → PX → Prop
def spP (K : PySem.W.Frag) (n : Nat) (psi_ : PSp) : Sp := fun vs H Q E => vs.length = n ∧ ∃ B R os, Rel K B R H [] [] os vs ∧ psi_ os (fun o os' => ∀ v H' R', Same R R' → Rel K B R' H' [] [] (os' ++ [o]) (vs ++ [v]) → Q v H')
  (fun C fs os' => ∀ od H' R', Same R R' → Rel K B R' H' [] [] os' vs → XAt K R' H' fs od → E (.ref C) od H')
def startP (n : Nat) (os : List O) : PSt := os.map some ++ List.replicate (n - os.length) none
section
variable {K : PySem.W.Frag} {B : Ent} {R H R' H' : Hp} {sgV : L2.St} {sg : PSt} {tu : List O} {us : List V}
theorem OwnL.len : ∀ {os : List O} {vs : List V} {f : List Addr}, OwnL K R H os vs f → vs.length = os.length
  | [], _, _, h => by rw [h.1]; rfl
  | o :: os, _, _, h => by obtain ⟨v, r, f1, f2, rfl, rfl, h3, h4⟩ := h; simp [OwnL.len h4]
theorem Rel.lenT {os : List O} {vs : List V} (r : Rel K B R H sgV sg os vs) : vs.length = os.length := let ⟨_, _, _, h, _⟩ := r.ex; h.len
theorem SlR.none : ∀ k : Nat, SlR K R H (List.replicate k none) (List.replicate k none) []
  | 0 => ⟨rfl, rfl⟩
  | k + 1 => ⟨_, _, rfl, SlR.none k⟩
theorem SlR.start : ∀ {os : List O} {vs : List V} {f : List Addr} (k : Nat), OwnL K R H os vs f → SlR K R H (os.map some ++ List.replicate k Option.none) (vs.map some ++ List.replicate k Option.none) f
  | [], _, _, k, h => by obtain ⟨rfl, rfl⟩ := h; exact SlR.none k
  | o :: os, _, _, k, h => by
    obtain ⟨v, r, f1, f2, rfl, rfl, h3, h4⟩ := h
    exact ⟨v, _, f1, f2, rfl, rfl, h3, SlR.start k h4⟩
theorem Rel.start {os : List O} {vs : List V} (r : Rel K B R H [] [] os vs) (N : List Str) : Rel K B R H (L2.start N vs) (startP N.length os) [] [] := by
  have hl := r.lenT
  obtain ⟨f1, f2, h1, h2, h3, h4⟩ := r.ex
  obtain rfl : f1 = [] := h1.2
  refine ⟨⟨f2, [], ?_, ⟨rfl, rfl⟩, by simpa using h3, fun a ha => h4 a (by simpa using ha)⟩, r.sub, r.r0, r.h0, r.rn, r.nd⟩
  unfold L2.start startP
  rw [hl]
  exact SlR.start _ h2
/-- what a def hands back of its parameters: the places ks as they stand -/
def outs (ks : List Nat) : Nat → List O → PSt → Option (List O)
  | _, [], _ => some []
  | j, o :: os, sg => if j ∈ ks then (match sg[j]? with
      | some (some o') => (outs ks (j + 1) os sg).map (o' :: ·)
      | _ => none) else match o with
      | .ro d => (outs ks (j + 1) os sg).map (.ro d :: ·)
      | _ => none
theorem outs_len {ks : List Nat} {sg : PSt} : ∀ {os : List O} {j : Nat} {os' : List O}, outs ks j os sg = some os' → os'.length = os.length
  | [], _, _, h => by cases h; rfl
  | o :: os, j, os', h => by
    unfold outs at h
    split at h
    · split at h
      · cases e : outs ks (j + 1) os sg with
        | none => rw [e] at h; cases h
        | some r => rw [e] at h; cases h; simp [outs_len e]
      · cases h
    · split at h
      · cases e : outs ks (j + 1) os sg with
        | none => rw [e] at h; cases h
        | some r => rw [e] at h; cases h; simp [outs_len e]
      · cases h
theorem Rel.gather {ks : List Nat} : ∀ {os : List O} {vs : List V} {j : Nat} {os' : List O} {sg : PSt}, outs ks j os sg = some os' → vs.length = os.length →
    (∀ (i : Nat) (v : V), vs[i]? = some v → sgV[j + i]? = some (some v) ∨ j + i ∉ ks) → (∀ (i : Nat) (d : D), os[i]? = some (.ro d) → ∃ v, vs[i]? = some v ∧ Ro K R d v) → Rel K B R H sgV sg tu us →
    ∃ sg2, Rel K B R H sgV sg2 (os' ++ tu) (vs ++ us) ∧ ∀ i, i < j → sg2[i]? = sg[i]?
  | [], vs, j, os', sg, h, hl, hv, hr, r => by
    cases h
    have : vs = [] := List.length_eq_zero_iff.mp hl
    subst this
    exact ⟨sg, r, fun _ _ => rfl⟩
  | o :: os, [], j, os', sg, h, hl, hv, hr, r => by simp at hl
  | o :: os, v :: vs, j, os', sg, h, hl, hv, hr, r => by
    have hv' : ∀ (i : Nat) (v : V), vs[i]? = some v → sgV[j + 1 + i]? = some (some v) ∨ j + 1 + i ∉ ks := fun i v e => by
      have := hv (i + 1) v (by simpa using e)
      rw [show j + (i + 1) = j + 1 + i by omega] at this
      exact this
    have hr' : ∀ (i : Nat) (d : D), os[i]? = some (.ro d) → ∃ v, vs[i]? = some v ∧ Ro K R d v := fun i d e => by
      obtain ⟨v', h1, h2⟩ := hr (i + 1) d (by simpa using e)
      exact ⟨v', by simpa using h1, h2⟩
    unfold outs at h
    by_cases hj : j ∈ ks
    · rw [if_pos hj] at h
      split at h
      · rename_i o' eo
        cases e : outs ks (j + 1) os sg with
        | none => rw [e] at h; cases h
        | some r' =>
          rw [e] at h
          cases h
          obtain ⟨sg2, r2, k2⟩ := Rel.gather (j := j + 1) e (by simpa using hl) hv' hr' r
          have e2 : sg2[j]? = some (some o') := by rw [k2 j (by omega)]; exact eo
          obtain ⟨v', hv2, r3⟩ := r2.take e2
          have : v' = v := by
            rcases hv 0 v (by simp) with z | z
            · rw [show j + 0 = j by omega] at z
              rw [z] at hv2
              cases hv2
              rfl
            · exact absurd hj z
          subst this
          exact ⟨_, r3, fun i hi => by rw [List.getElem?_set_ne (by omega)]; exact k2 i (by omega)⟩
      · cases h
    · rw [if_neg hj] at h
      split at h
      · rename_i d
        cases e : outs ks (j + 1) os sg with
        | none => rw [e] at h; cases h
        | some r' =>
          rw [e] at h
          cases h
          obtain ⟨sg2, r2, k2⟩ := Rel.gather (j := j + 1) e (by simpa using hl) hv' hr' r
          obtain ⟨v', h1, h2⟩ := hr 0 d (by simp)
          simp at h1
          subst h1
          exact ⟨sg2, r2.pushRo h2, fun i hi => k2 i (by omega)⟩
      · cases h
def retTo (ks : List Nat) (os : List O) (Qp : O → List O → Prop) : O → PSt → Prop := fun o sg' => match outs ks 0 os sg' with
  | some os' => Qp o os'
  | none => False
def exTo (ks : List Nat) (os : List O) (Ep : PX) : Addr → List (Str × D) → PSt → Prop := fun C fs sg' => match outs ks 0 os sg' with
  | some os' => Ep C fs os'
  | none => False
/-- the ends of a def's body -/
def endP (ks : List Nat) (os : List O) (Qp : O → List O → Prop) (Ep : PX) : PEnds :=
  { nx := fun sg' => retTo ks os Qp (.ro .non) sg', rt := retTo ks os Qp, ex := exTo ks os Ep }
theorem start_get {N : List Str} {vs : List V} {i : Nat} {v : V} (e : vs[i]? = some v) : (L2.start N vs)[i]? = some (some v) := by
  unfold L2.start
  have hi := (List.getElem?_eq_some_iff.mp e).1
  rw [List.getElem?_append_left (by simpa using hi), List.getElem?_map, e]
  rfl
theorem ro_at {os : List O} {vs : List V} {f : List Addr} (h : OwnL K R H os vs f) {i : Nat} {d : D} (e : os[i]? = some (.ro d)) : ∃ v, vs[i]? = some v ∧ Ro K R d v := by
  obtain ⟨v, f1, f2, h1, h2, _⟩ := h.take e
  exact ⟨v, h1, h2.2⟩
theorem gather0 {ks : List Nat} {os os' : List O} {vs : List V} {N : List Str} (r₀ : Rel K B R H [] [] os vs) (s : Same R R') (k : Kp (inL ks) (L2.start N vs) sgV) (ho : outs ks 0 os sg = some os') (r : Rel K B R' H' sgV sg tu us) : Rel K B R' H' [] [] (os' ++ tu) (vs ++ us) := by
  obtain ⟨f1, f2, h1, h2, h3, h4⟩ := r₀.ex
  obtain ⟨sg2, r2, _⟩ := Rel.gather (j := 0) ho h2.len (fun i v e => by
    by_cases hi : i ∈ ks
    · exact .inl (by rw [show 0 + i = i by omega, k.2 i hi]; exact start_get e)
    · exact .inr (by rw [show 0 + i = i by omega]; exact hi)) (fun i d e => by
      obtain ⟨v, h5, h6⟩ := ro_at h2 e
      exact ⟨v, h5, Ro.mono s _ _ h6⟩) r
  exact r2.noslots
theorem ends_to {ks : List Nat} {os : List O} {vs : List V} {N : List Str} {Q : VK} {E : XK} {psi_ : PSp} (r₀ : Rel K B R H [] [] os vs) :
    EndsTo K B (inL ks) (fun cls d _ H => E cls d H) R (L2.start N vs) (endP ks os (fun o os' => ∀ v H' R', Same R R' → Rel K B R' H' [] [] (os' ++ [o]) (vs ++ [v]) → Q v H')
      (fun C fs os' => ∀ od H' R', Same R R' → Rel K B R' H' [] [] os' vs → XAt K R' H' fs od → E (.ref C) od H')) { nx := fun _ H' => Q .non H', rt := Q } := by
  refine ⟨fun sgV' H' R' sg' s r k h => ?_, fun v sgV' H' R' o sg' s r k h => ?_, fun _ _ _ _ _ _ _ h => h.elim, fun _ _ _ _ _ _ _ h => h.elim, fun C fs od sgV' H' R' sg' s r k x h => ?_⟩
  · unfold endP retTo at h
    dsimp only at h
    split at h
    · rename_i os' e
      exact h _ H' R' s (gather0 r₀ s k e (r.pushRo (d := .non) rfl))
    · exact h.elim
  · unfold endP retTo at h
    dsimp only at h
    split at h
    · rename_i os' e
      exact h _ H' R' s (gather0 r₀ s k e r)
    · exact h.elim
  · unfold endP exTo at h
    dsimp only at h
    split at h
    · rename_i os' e
      have := gather0 r₀ s k e r
      rw [List.append_nil, List.append_nil] at this
      exact h od H' R' s this x
    · exact h.elim
end

section
variable {P : Program} {w : World} {K : PySem.W.Frag} {mg : Str → Option Value} {base : Heap} {x qual : Str} {params : Arguments} {body : List Stmt} {scope : Scope} {dvs : List V} {kws : List (Str × V)} {f : Addr} {fd : FuncData}
/-- THE RULE for a def that lets nothing out -/
theorem fn_ok0 {N ps : List Str} {k : Nat} {psi_ : PSp} {t : TSp} (ks : List Nat) (F : FunD K x qual params body scope dvs kws f fd) (S : FnScope N ps scope)
    (hb : ∀ (cdv : Value) (A : Around) (outer : List Env) (s : Shared) (H : Hp) (E : XK), Room k (A.deeper (envOfC qual scope s.heap.objs.size f cdv)) →
      LSs (cxOf CX0 P w K mg base N qual scope f cdv A outer s H E).nox (inL ks) (fun cls d _ H => E cls d H) body t)
    (hp : ∀ os Qp Ep, os.length = ps.length → psi_ os Qp Ep → t (endP ks os Qp Ep) (startP N.length os)) : FnOk P w K mg base CX0 (k + 1) f fd ps (spP K ps.length psi_) := by
  refine F.ok S (fun vs H Q E h => h.1) (fun cdv A outer s H vs Q E hr h => ?_)
  obtain ⟨hl, B, R, os, r, h⟩ := h
  exact ⟨_, PSs.nox (hb cdv A outer s H E hr), B, R, startP N.length os, _, r.start N, hp os _ _ (r.lenT.symm.trans hl) h, ends_to (psi_ := psi_) r⟩
/-- THE RULE for a def that may raise -/
theorem fn_okX {N ps : List Str} {k : Nat} {psi_ : PSp} {t : TSp} (ks : List Nat) (F : FunD K x qual params body scope dvs kws f fd) (S : FnScope N ps scope)
    (hb : ∀ (cdv : Value) (A : Around) (outer : List Env) (s : Shared) (H : Hp) (E : XK), Room k (A.deeper (envOfC qual scope s.heap.objs.size f cdv)) →
      LSs (cxOf (L2.CX P w) P w K mg base N qual scope f cdv A outer s H E) (inL ks) (fun cls d _ H => E cls d H) body t)
    (hp : ∀ os Qp Ep, os.length = ps.length → psi_ os Qp Ep → t (endP ks os Qp Ep) (startP N.length os)) : FnOk P w K mg base (L2.CX P w) (k + 1) f fd ps (spP K ps.length psi_) := by
  refine F.ok S (fun vs H Q E h => h.1) (fun cdv A outer s H vs Q E hr h => ?_)
  obtain ⟨hl, B, R, os, r, h⟩ := h
  exact ⟨_, hb cdv A outer s H E hr, B, R, startP N.length os, _, r.start N, hp os _ _ (r.lenT.symm.trans hl) h, ends_to (psi_ := psi_) r⟩
end

/-! ### arguments -/
inductive PArg where
  | ro (d : D) | sl (i : Nat)
abbrev TAX := PSt → (List PArg → PSt → Prop) → Prop
def ArgsR (K : PySem.W.Frag) (R : Hp) (sgV : L2.St) : List PArg → List V → Prop
  | [], vs => vs = []
  | .ro d :: as, vs => ∃ v r, vs = v :: r ∧ Ro K R d v ∧ ArgsR K R sgV as r
  | .sl i :: as, vs => ∃ v r, vs = v :: r ∧ sgV[i]? = some (some v) ∧ ArgsR K R sgV as r
theorem ArgsR.mono {K : PySem.W.Frag} {R R' : Hp} {sgV : L2.St} (s : Same R R') : ∀ {as : List PArg} {vs : List V}, ArgsR K R sgV as vs → ArgsR K R' sgV as vs
  | [], _, h => h
  | .ro d :: as, _, h => let ⟨v, r, h1, h2, h3⟩ := h; ⟨v, r, h1, Ro.mono s _ _ h2, ArgsR.mono s h3⟩
  | .sl i :: as, _, h => let ⟨v, r, h1, h2, h3⟩ := h; ⟨v, r, h1, h2, ArgsR.mono s h3⟩
def eAX (K : PySem.W.Frag) (t : TAX) : TA := fun sgV H Q => ∃ B R sg Qp, Rel K B R H sgV sg [] [] ∧ t sg Qp ∧ ∀ vs H' R' as sg', Same R R' → Rel K B R' H' sgV sg' [] [] → ArgsR K R' sgV as vs → Qp as sg' → Q vs H'
abbrev LAX (X : Cx) (es : List Expr) (t : TAX) : Prop := PA X es (eAX X.K t)
def axN : TAX := fun sg Q => Q [] sg
def axR (ta : TM) (tr : TAX) : TAX := fun sg Q => ta sg fun d sg1 => tr sg1 fun as sg2 => Q (.ro d :: as) sg2
def axS (i : Nat) (tr : TAX) : TAX := fun sg Q => match sg[i]? with
  | some (some _) => tr sg fun as sg' => Q (.sl i :: as) sg'
  | _ => False
section
variable {X : Cx} {a : Expr} {es : List Expr} {pos : Pos}
theorem lax_nil : LAX X [] axN := pa_weak pa_nil fun sgV H Q ⟨B, R, sg, Qp, rl, ht, k⟩ => k [] H R [] sg (Same.refl _) rl rfl ht
theorem lax_ro {ta : TM} {tr : TAX} (ha : LM X a ta) (hr : LAX X es tr) (hs : starEach (a :: es) X.env = (false, eval a X.env) :: starEach es X.env := by rfl) : LAX X (a :: es) (axR ta tr) := pa_weak (pa_cons ha hr hs) fun sgV H Q ⟨B, R, sg, Qp, rl, ht, k⟩ => by
  refine ⟨B, R, sg, _, rl, ht, fun v H1 R1 d sg1 s1 rl1 w hq => ?_⟩
  exact ⟨B, R1, sg1, _, rl1, hq, fun vs H2 R2 ds sg2 s2 rl2 w2 hq2 => k (v :: vs) H2 R2 (.ro d :: ds) sg2 (s1.trans s2) rl2 ⟨v, vs, rfl, Ro.mono s2 _ _ w, w2⟩ hq2⟩
theorem lax_sl (i : Nat) {x : Str} {tr : TAX} (hr : LAX X es tr) (hN : X.N[i]? = some x := by rfl) (hv : Vis X.env.scope x := by first | exact Or.inl rfl | exact Or.inr (Or.inl rfl) | exact Or.inr (Or.inr rfl)) (hd : (x == ("__debug__" : Str)) = false := by decide)
    (hcd : (x == ("__classdict__" : Str)) = false := by decide) (hs : starEach (Expr.Name x pos :: es) X.env = (false, eval (.Name x pos) X.env) :: starEach es X.env := by rfl) : LAX X (.Name x pos :: es) (axS i tr) := pa_weak (pa_cons (pe_var hN hv hd hcd) hr hs) fun sgV H Q ⟨B, R, sg, Qp, rl, ht, k⟩ => by
  unfold axS at ht
  split at ht
  · rename_i o e
    obtain ⟨fp, sl⟩ := rl.slots
    obtain ⟨v, f, hv, w, _⟩ := sl.get e
    exact ⟨v, hv, B, R, sg, _, rl, ht, fun vs H2 R2 ds sg2 s2 rl2 w2 hq2 => k (v :: vs) H2 R2 (.sl i :: ds) sg2 s2 rl2 ⟨v, vs, rfl, hv, w2⟩ hq2⟩
  · exact ht.elim
end
def takeA : List PArg → PSt → Option (List O × PSt)
  | [], sg => some ([], sg)
  | .ro d :: as, sg => match takeA as sg with
    | some (os, sg') => some (.ro d :: os, sg')
    | none => none
  | .sl i :: as, sg => match takeA as sg with
    | some (os, sg') => (match sg'[i]? with
      | some (some o) => some (o :: os, sg'.set i none)
      | _ => none)
    | none => none
def backA : List PArg → List O → PSt → PSt
  | .ro _ :: as, _ :: os, sg => backA as os sg
  | .sl i :: as, o :: os, sg => backA as os (sg.set i (some o))
  | _, _, sg => sg
section
variable {K : PySem.W.Frag} {B : Ent} {R H : Hp} {sgV : L2.St}
theorem Rel.takeA {tu : List O} {us : List V} : ∀ {as : List PArg} {vs : List V} {sg sg' : PSt} {os : List O}, Pu.takeA as sg = some (os, sg') → ArgsR K R sgV as vs → Rel K B R H sgV sg tu us → Rel K B R H sgV sg' (os ++ tu) (vs ++ us)
  | [], vs, sg, sg', os, h, ha, r => by
    cases h
    have ha : vs = [] := ha
    subst ha
    exact r
  | .ro d :: as, vs, sg, sg', os, h, ha, r => by
    obtain ⟨v, rr, rfl, w, ha⟩ := ha
    unfold Pu.takeA at h
    split at h
    · rename_i os1 sg1 e
      cases h
      exact (Rel.takeA e ha r).pushRo w
    · cases h
  | .sl i :: as, vs, sg, sg', os, h, ha, r => by
    obtain ⟨v, rr, rfl, w, ha⟩ := ha
    unfold Pu.takeA at h
    split at h
    · rename_i os1 sg1 e
      split at h
      · rename_i o eo
        cases h
        obtain ⟨v', hv', r2⟩ := (Rel.takeA e ha r).take eo
        rw [w] at hv'
        cases hv'
        exact r2
      · cases h
    · cases h
theorem Rel.backA {tu : List O} {us : List V} : ∀ {as : List PArg} {vs : List V} {sg : PSt} {os : List O}, ArgsR K R sgV as vs → vs.length = os.length → Rel K B R H sgV sg (os ++ tu) (vs ++ us) → Rel K B R H sgV (Pu.backA as os sg) tu us
  | [], vs, sg, os, ha, hl, r => by
    have ha : vs = [] := ha
    subst ha
    have : os = [] := List.length_eq_zero_iff.mp hl.symm
    subst this
    exact r
  | .ro d :: as, vs, sg, [], ha, hl, r => by obtain ⟨v, rr, rfl, w, ha⟩ := ha; simp at hl
  | .sl i :: as, vs, sg, [], ha, hl, r => by obtain ⟨v, rr, rfl, w, ha⟩ := ha; simp at hl
  | .ro d :: as, vs, sg, o :: os, ha, hl, r => by
    obtain ⟨v, rr, rfl, w, ha⟩ := ha
    have := Rel.backA (as := as) (os := os) ha (by simpa using hl) r.pop
    exact this
  | .sl i :: as, vs, sg, o :: os, ha, hl, r => by
    obtain ⟨v, rr, rfl, w, ha⟩ := ha
    have := Rel.backA (as := as) (os := os) ha (by simpa using hl) (r.back w)
    exact this
theorem ArgsR.len : ∀ {as : List PArg} {vs : List V}, ArgsR K R sgV as vs → vs.length = as.length
  | [], _, h => by
    have h : _ = [] := h
    rw [h]; rfl
  | .ro d :: as, _, h => by obtain ⟨v, r, rfl, _, h3⟩ := h; simp [ArgsR.len h3]
  | .sl i :: as, _, h => by obtain ⟨v, r, rfl, _, h3⟩ := h; simp [ArgsR.len h3]
theorem takeA_len : ∀ {as : List PArg} {sg sg' : PSt} {os : List O}, Pu.takeA as sg = some (os, sg') → os.length = as.length
  | [], sg, sg', os, h => by cases h; rfl
  | .ro d :: as, sg, sg', os, h => by
    unfold Pu.takeA at h
    split at h
    · rename_i os1 sg1 e
      cases h
      simp [takeA_len e]
    · cases h
  | .sl i :: as, sg, sg', os, h => by
    unfold Pu.takeA at h
    split at h
    · rename_i os1 sg1 e
      split at h
      · cases h
        simp [takeA_len e]
      · cases h
    · cases h
/-- the callee's promise from the caller's state -/
theorem call_sp {psi_ : PSp} {as : List PArg} {vs : List V} {sg sg2 : PSt} {os : List O} {Qp : O → PSt → Prop} {Xp : Addr → List (Str × D) → PSt → Prop} {Q : VK} {E : XK} (ta : takeA as sg = some (os, sg2)) (ha : ArgsR K R sgV as vs) (r : Rel K B R H sgV sg [] [])
    (h : psi_ os (fun o os' => Qp o (backA as os' sg2)) (fun C fs os' => Xp C fs (backA as os' sg2)))
    (mono : ∀ os (Q1 Q2 : O → List O → Prop) (E1 E2 : PX), (∀ o os', Q1 o os' → Q2 o os') → (∀ C fs os', E1 C fs os' → E2 C fs os') → psi_ os Q1 E1 → psi_ os Q2 E2)
    (k : ∀ v H' R' o sg', Same R R' → Rel K B R' H' sgV sg' [o] [v] → Qp o sg' → Q v H')
    (kx : ∀ C fs od H' R' sg', Same R R' → Rel K B R' H' sgV sg' [] [] → XAt K R' H' fs od → Xp C fs sg' → E (.ref C) od H') : spP K as.length psi_ vs H Q E := by
  have r1 := Rel.takeA ta ha r
  have hl := ha.len
  have hlo := takeA_len ta
  obtain ⟨B', r2, back⟩ := r1.frameT (hl.trans hlo.symm)
  refine ⟨hl, B', R, os, r2, mono os _ _ _ _ (fun o os' hq v H' R' s r' => ?_) (fun C fs os' hq od H' R' s r' x => ?_) h⟩
  · have r3 := back R' H' (os' ++ [o]) (vs ++ [v]) s r'
    rw [List.append_nil, List.append_nil] at r3
    have hl' : vs.length = os'.length := by
      have := r'.lenT
      simpa using this
    exact k v H' R' o _ s (Rel.backA (ha.mono s) hl' r3) hq
  · have r3 := back R' H' os' vs s r'
    exact kx C fs od H' R' _ s (Rel.backA (ha.mono s) r'.lenT r3) x hq
end
/-- a promise that may be weakened -/
def PMono (psi_ : PSp) : Prop := ∀ os (Q1 Q2 : O → List O → Prop) (E1 E2 : PX), (∀ o os', Q1 o os' → Q2 o os') → (∀ C fs os', E1 C fs os' → E2 C fs os') → psi_ os Q1 E1 → psi_ os Q2 E2

/-! ### calls that raise nothing -/
def callGo (psi_ : PSp) (as : List PArg) (sg : PSt) (Q : O → PSt → Prop) (Xp : Addr → List (Str × D) → PSt → Prop) : Prop := match takeA as sg with
  | some (os, sg2) => psi_ os (fun o os' => Q o (backA as os' sg2)) (fun C fs os' => Xp C fs (backA as os' sg2))
  | none => False
def wCall (n : Nat) (psi_ : PSp) (ta : TAX) : TW := fun sg Q => ta sg fun as sg1 => as.length = n ∧ callGo psi_ as sg1 Q fun _ _ _ => False
section
variable {X : Cx} {k n : Nat} {f C : Addr} {fd : FuncData} {ps : List Str} {psi_ : PSp} {x m : Str} {p pos apos : Pos} {e o : Expr} {es : List Expr} {ta : TAX}
theorem lo_call (F : FnOk X.prog X.w X.K X.mg X.base CX0 k f fd ps (spP X.K n psi_)) (mono : PMono psi_) (hr : Room k X.A) (hg : Gl X x) (hm : X.mg x = some (.ref f)) (hk : PySem.W.keepIn X.K (.ref f) = true) (hb : Binds X.K fd ps [])
    (ha : LAX X (e :: es) ta) (hdb : (x == ("__debug__" : Str)) = false := by decide) (he : starEach (e :: es) X.env = (false, eval e X.env) :: starEach es X.env := by rfl) (hpl : (backTo pos (starEach es X.env)).any (·.1) = false := by rfl) :
    LO X (.Call (.Name x p) (e :: es) [] pos) (wCall n psi_ ta) := pe_weak (pe_call (dvs := []) F hr hg hm hk hb .nil (pass0 (X := X)) ha hdb he hpl) fun sgV H Q ⟨B, R, sg, Qp, rl, ht, kk⟩ => by
  refine ⟨B, R, sg, _, rl, ht, fun vs H1 R1 as sg1 s1 rl1 ar hq => ?_⟩
  obtain ⟨hn, hq⟩ := hq
  subst hn
  rw [List.append_nil]
  unfold callGo at hq
  split at hq
  · rename_i os sg2 e
    exact call_sp (Xp := fun _ _ _ => False) e ar rl1 hq mono (fun v H' R' o sg' s r h => kk v H' R' o sg' (s1.trans s) r h) (fun _ _ _ _ _ _ _ _ _ h => h.elim)
  · exact hq.elim
theorem lo_call0 (F : FnOk X.prog X.w X.K X.mg X.base CX0 k f fd ps (spP X.K 0 psi_)) (mono : PMono psi_) (hr : Room k X.A) (hg : Gl X x) (hm : X.mg x = some (.ref f)) (hk : PySem.W.keepIn X.K (.ref f) = true) (hb : Binds X.K fd ps [])
    (hdb : (x == ("__debug__" : Str)) = false := by decide) : LO X (.Call (.Name x p) [] [] pos) (wCall 0 psi_ axN) := pe_weak (pe_call0 (dvs := []) F hr hg hm hk hb .nil (pass0 (X := X)) hdb) fun sgV H Q ⟨B, R, sg, Qp, rl, ht, kk⟩ => by
  obtain ⟨hn, hq⟩ := ht
  unfold callGo at hq
  split at hq
  · rename_i os sg2 e
    exact call_sp (Xp := fun _ _ _ => False) (as := []) (vs := []) e rfl rl hq mono kk (fun _ _ _ _ _ _ _ _ _ h => h.elim)
  · exact hq.elim

/-! methods -/
/-- the receiver: data that stay -/
def wMethR (C : Addr) (m : Str) (n : Nat) (psi_ : PSp) (tr : TM) (ta : TAX) : TW := fun sg Q => tr sg fun d sg0 => match d with
  | .ins C' fs => C' = C ∧ fs.lookup m = none ∧ ta sg0 fun as sg1 => as.length = n ∧ callGo psi_ (.ro d :: as) sg1 Q fun _ _ _ => False
  | _ => False
/-- the receiver: what slot i holds -/
def wMethS (C : Addr) (m : Str) (n : Nat) (psi_ : PSp) (i : Nat) (ta : TAX) : TW := fun sg Q => match sg[i]? with
  | some (some (.ins C' fs)) => C' = C ∧ fGet m fs = none ∧ ta sg fun as sg1 => as.length = n ∧ callGo psi_ (.sl i :: as) sg1 Q fun _ _ _ => False
  | some (some (.ro (.ins C' fs))) => C' = C ∧ fs.lookup m = none ∧ ta sg fun as sg1 => as.length = n ∧ callGo psi_ (.sl i :: as) sg1 Q fun _ _ _ => False
  | _ => False
theorem RoF.look {K : PySem.W.Frag} {R : Hp} {m : Str} : ∀ {fs : List (Str × D)} {fv : List (Str × V)}, RoF K R fs fv → (∀ d, fs.lookup m = some d → ∃ v, fv.lookup m = some v ∧ Ro K R d v) ∧ (fs.lookup m = none → fv.lookup m = none)
  | [], _, h => by
    have h : _ = [] := h
    subst h
    exact ⟨fun _ h => (nomatch h), fun _ => rfl⟩
  | (g, d) :: fs, _, h => by
    obtain ⟨v, r, rfl, h2, h3⟩ := h
    obtain ⟨i1, i2⟩ := RoF.look (m := m) h3
    have hd : ((g, d) :: fs).lookup m = if m = g then some d else fs.lookup m := by
      by_cases e : m = g
      · subst e; simp [List.lookup]
      · have : (m == g) = false := by simpa using e
        simp [List.lookup, this, e]
    rw [hd, lookup_c]
    by_cases e : m = g
    · rw [if_pos e, if_pos e]
      exact ⟨fun _ q => by cases q; exact ⟨v, rfl, h2⟩, fun q => by cases q⟩
    · rw [if_neg e, if_neg e]
      exact ⟨i1, i2⟩
theorem OwnF.look {K : PySem.W.Frag} {R H : Hp} {m : Str} : ∀ {fs : List (Str × O)} {fv : List (Str × V)} {f : List Addr}, OwnF K R H fs fv f → fGet m fs = none → fv.lookup m = none
  | [], _, _, h, _ => by rw [h.1]; rfl
  | (g, o) :: fs, _, _, h, e => by
    obtain ⟨v, r, f1, f2, rfl, rfl, h2, h3⟩ := h
    unfold fGet at e
    rw [lookup_c]
    by_cases q : m = g
    · rw [if_pos q] at e; cases e
    · rw [if_neg q] at e ⊢
      exact OwnF.look h3 e
theorem lo_methR {tr : TM} {pl : Sem Bool} (he : LM X o tr) (c : Cls X.K C) (hm : Meth X.K C m f) (F : FnOk X.prog X.w X.K X.mg X.base CX0 k f fd ps (spP X.K (n + 1) psi_)) (mono : PMono psi_) (hr : Room k X.A) (hb : Binds X.K fd ps []) (ha : LAX X (e :: es) ta)
    (hst : starEach (e :: es) X.env = (false, eval e X.env) :: starEach es X.env := by rfl) (hpl : (backTo pos (starEach es X.env)).any (·.1) = false := by rfl)
    (ht : eval (.Call (.Attribute o m apos) (e :: es) [] pos) X.env = (do
      let ov ← eval o X.env
      standAt apos.atName
      let (f, first) ← holding [ov] (getMethod ov m pl)
      callWith pos f first (backTo pos (starEach (e :: es) X.env)) (backToKw pos (keywordEach [] X.env))) := by rfl) :
    LO X (.Call (.Attribute o m apos) (e :: es) [] pos) (wMethR C m n psi_ tr ta) := pe_weak (pe_meth (dvs := []) he c hm F hr hb .nil (pass0 (X := X)) ha hst hpl ht) fun sgV H Q ⟨B, R, sg, Qp, rl, htt, kk⟩ => by
  refine ⟨B, R, sg, _, rl, htt, fun v H0 R0 d sg0 s0 rl0 w hq => ?_⟩
  cases d with
  | ins C' fs =>
    obtain ⟨rfl, hlk, hq0⟩ := hq
    obtain ⟨a, dx, fv, rfl, hR, wf⟩ := id w
    refine ⟨a, dx, fv, rfl, rl0.sub _ _ hR, wf.look.2 hlk, B, R0, sg0, _, rl0, hq0, fun vs H1 R1 as sg1 s1 rl1 ar hq => ?_⟩
    obtain ⟨hn, hq⟩ := hq
    subst hn
    rw [List.append_nil]
    unfold callGo at hq
    split at hq
    · rename_i os sg2 e
      exact call_sp (Xp := fun _ _ _ => False) (as := .ro (.ins C' fs) :: as) e ⟨_, _, rfl, Ro.mono s1 _ _ w, ar⟩ rl1 hq mono (fun v H' R' o sg' s r h => kk v H' R' o sg' ((s0.trans s1).trans s) r h) (fun _ _ _ _ _ _ _ _ _ h => h.elim)
    · exact hq.elim
  | _ => exact hq.elim
theorem lo_methR0 {tr : TM} {pl : Sem Bool} (he : LM X o tr) (c : Cls X.K C) (hm : Meth X.K C m f) (F : FnOk X.prog X.w X.K X.mg X.base CX0 k f fd ps (spP X.K 1 psi_)) (mono : PMono psi_) (hr : Room k X.A) (hb : Binds X.K fd ps [])
    (ht : eval (.Call (.Attribute o m apos) [] [] pos) X.env = (do
      let ov ← eval o X.env
      standAt apos.atName
      let (f, first) ← holding [ov] (getMethod ov m pl)
      callWith pos f first (backTo pos (starEach [] X.env)) (backToKw pos (keywordEach [] X.env))) := by rfl) :
    LO X (.Call (.Attribute o m apos) [] [] pos) (wMethR C m 0 psi_ tr axN) := pe_weak (pe_meth0 (dvs := []) he c hm F hr hb .nil (pass0 (X := X)) ht) fun sgV H Q ⟨B, R, sg, Qp, rl, htt, kk⟩ => by
  refine ⟨B, R, sg, _, rl, htt, fun v H0 R0 d sg0 s0 rl0 w hq => ?_⟩
  cases d with
  | ins C' fs =>
    obtain ⟨rfl, hlk, _, hq⟩ := hq
    obtain ⟨a, dx, fv, rfl, hR, wf⟩ := id w
    refine ⟨a, dx, fv, rfl, rl0.sub _ _ hR, wf.look.2 hlk, ?_⟩
    unfold callGo at hq
    split at hq
    · rename_i os sg2 e
      exact call_sp (Xp := fun _ _ _ => False) (as := [.ro (.ins C' fs)]) e ⟨_, _, rfl, w, rfl⟩ rl0 hq mono (fun v H' R' o sg' s r h => kk v H' R' o sg' (s0.trans s) r h) (fun _ _ _ _ _ _ _ _ _ h => h.elim)
    · exact hq.elim
  | _ => exact hq.elim
theorem methS_at {K : PySem.W.Frag} {B : Ent} {R H : Hp} {sgV : L2.St} {sg : PSt} {i : Nat} {n : Nat} {Q : O → PSt → Prop} (rl : Rel K B R H sgV sg [] []) (h : wMethS C m n psi_ i ta sg Q) :
    ∃ a dx fv, sgV[i]? = some (some (.ref a)) ∧ H a = some (.ins C dx fv) ∧ fv.lookup m = none ∧ ta sg fun as sg1 => as.length = n ∧ callGo psi_ (.sl i :: as) sg1 Q fun _ _ _ => False := by
  unfold wMethS at h
  obtain ⟨fp, sl⟩ := rl.slots
  split at h
  · rename_i C' fs e
    obtain ⟨rfl, hlk, hq⟩ := h
    obtain ⟨v, f, hv, w, _⟩ := sl.get e
    obtain ⟨a, dx, fv, g, rfl, _, ha, hf⟩ := w
    exact ⟨a, dx, fv, hv, ha, hf.look hlk, hq⟩
  · rename_i C' fs e
    obtain ⟨rfl, hlk, hq⟩ := h
    obtain ⟨v, f, hv, w, _⟩ := sl.get e
    obtain ⟨_, a, dx, fv, rfl, ha, hf⟩ := w
    exact ⟨a, dx, fv, hv, rl.sub _ _ ha, hf.look.2 hlk, hq⟩
  · exact h.elim
theorem lo_methS (i : Nat) {xs : Str} {px : Pos} {pl : Sem Bool} (c : Cls X.K C) (hm : Meth X.K C m f) (F : FnOk X.prog X.w X.K X.mg X.base CX0 k f fd ps (spP X.K (n + 1) psi_)) (mono : PMono psi_) (hr : Room k X.A) (hb : Binds X.K fd ps []) (ha : LAX X (e :: es) ta)
    (hN : X.N[i]? = some xs := by rfl) (hv : Vis X.env.scope xs := by first | exact Or.inl rfl | exact Or.inr (Or.inl rfl) | exact Or.inr (Or.inr rfl)) (hd : (xs == ("__debug__" : Str)) = false := by decide) (hcd : (xs == ("__classdict__" : Str)) = false := by decide)
    (hst : starEach (e :: es) X.env = (false, eval e X.env) :: starEach es X.env := by rfl) (hpl : (backTo pos (starEach es X.env)).any (·.1) = false := by rfl)
    (ht : eval (.Call (.Attribute (.Name xs px) m apos) (e :: es) [] pos) X.env = (do
      let ov ← eval (.Name xs px) X.env
      standAt apos.atName
      let (f, first) ← holding [ov] (getMethod ov m pl)
      callWith pos f first (backTo pos (starEach (e :: es) X.env)) (backToKw pos (keywordEach [] X.env))) := by rfl) :
    LO X (.Call (.Attribute (.Name xs px) m apos) (e :: es) [] pos) (wMethS C m n psi_ i ta) := pe_weak (pe_meth (dvs := []) (pe_var hN hv hd hcd) c hm F hr hb .nil (pass0 (X := X)) ha hst hpl ht) fun sgV H Q ⟨B, R, sg, Qp, rl, htt, kk⟩ => by
  obtain ⟨a, dx, fv, hva, hHa, hlk, hq0⟩ := methS_at rl htt
  refine ⟨.ref a, hva, a, dx, fv, rfl, hHa, hlk, B, R, sg, _, rl, hq0, fun vs H1 R1 as sg1 s1 rl1 ar hq => ?_⟩
  obtain ⟨hn, hq⟩ := hq
  subst hn
  rw [List.append_nil]
  unfold callGo at hq
  split at hq
  · rename_i os sg2 e
    exact call_sp (Xp := fun _ _ _ => False) (as := .sl i :: as) e ⟨_, _, rfl, hva, ar⟩ rl1 hq mono (fun v H' R' o sg' s r h => kk v H' R' o sg' (s1.trans s) r h) (fun _ _ _ _ _ _ _ _ _ h => h.elim)
  · exact hq.elim
theorem lo_methS0 (i : Nat) {xs : Str} {px : Pos} {pl : Sem Bool} (c : Cls X.K C) (hm : Meth X.K C m f) (F : FnOk X.prog X.w X.K X.mg X.base CX0 k f fd ps (spP X.K 1 psi_)) (mono : PMono psi_) (hr : Room k X.A) (hb : Binds X.K fd ps [])
    (hN : X.N[i]? = some xs := by rfl) (hv : Vis X.env.scope xs := by first | exact Or.inl rfl | exact Or.inr (Or.inl rfl) | exact Or.inr (Or.inr rfl)) (hd : (xs == ("__debug__" : Str)) = false := by decide) (hcd : (xs == ("__classdict__" : Str)) = false := by decide)
    (ht : eval (.Call (.Attribute (.Name xs px) m apos) [] [] pos) X.env = (do
      let ov ← eval (.Name xs px) X.env
      standAt apos.atName
      let (f, first) ← holding [ov] (getMethod ov m pl)
      callWith pos f first (backTo pos (starEach [] X.env)) (backToKw pos (keywordEach [] X.env))) := by rfl) :
    LO X (.Call (.Attribute (.Name xs px) m apos) [] [] pos) (wMethS C m 0 psi_ i axN) := pe_weak (pe_meth0 (dvs := []) (pe_var hN hv hd hcd) c hm F hr hb .nil (pass0 (X := X)) ht) fun sgV H Q ⟨B, R, sg, Qp, rl, htt, kk⟩ => by
  obtain ⟨a, dx, fv, hva, hHa, hlk, hq⟩ := methS_at rl htt
  refine ⟨.ref a, hva, a, dx, fv, rfl, hHa, hlk, ?_⟩
  obtain ⟨_, hq⟩ := hq
  unfold callGo at hq
  split at hq
  · rename_i os sg2 e
    exact call_sp (Xp := fun _ _ _ => False) (as := [.sl i]) e ⟨_, _, rfl, hva, rfl⟩ rl hq mono kk (fun _ _ _ _ _ _ _ _ _ h => h.elim)
  · exact hq.elim

/-! instances -/
/-- C(..): __init__ runs on a new instance without fields -/
def mkGo (C : Addr) (psi_ : PSp) (as : List PArg) (sg : PSt) (Q : O → PSt → Prop) (Xp : Addr → List (Str × D) → PSt → Prop) : Prop := match takeA as sg with
  | some (os, sg2) => psi_ (.ins C [] :: os) (fun o os' => match os' with
      | self :: os' => o = .ro .non ∧ Q self (backA as os' sg2)
      | [] => False) (fun C fs os' => Xp C fs (backA as os'.tail sg2))
  | none => False
def wMake (C : Addr) (n : Nat) (psi_ : PSp) (ta : TAX) : TW := fun sg Q => ta sg fun as sg1 => as.length = n ∧ mkGo C psi_ as sg1 Q fun _ _ _ => False
theorem make_sp {K : PySem.W.Frag} {B : Ent} {R H : Hp} {sgV : L2.St} {psi_ : PSp} {as : List PArg} {vs : List V} {sg : PSt} {Qp : O → PSt → Prop} {Xp : Addr → List (Str × D) → PSt → Prop} {Q : VK} {E : XK} {x dx : Addr} (hx : H x = none) (hdx : H dx = none) (hne : dx ≠ x) (ha : ArgsR K R sgV as vs) (r : Rel K B R H sgV sg [] [])
    (h : mkGo C psi_ as sg Qp Xp) (mono : PMono psi_)
    (k : ∀ v H' R' o sg', Same R R' → Rel K B R' H' sgV sg' [o] [v] → Qp o sg' → Q v H')
    (kx : ∀ C fs od H' R' sg', Same R R' → Rel K B R' H' sgV sg' [] [] → XAt K R' H' fs od → Xp C fs sg' → E (.ref C) od H') :
    spP K (as.length + 1) psi_ (.ref x :: vs) (upd (upd H dx (.own x)) x (.ins C dx [])) (fun v H2 => v = .non ∧ Q (.ref x) H2) E := by
  unfold mkGo at h
  split at h
  · rename_i os sg2 ta
    have r1 := Rel.takeA ta ha r
    have hl := ha.len
    have hlo := takeA_len ta
    have hx2 : upd H dx (.own x) x = none := by rw [upd_ne (Ne.symm hne)]; exact hx
    have q : Quiet R H R (upd (upd H dx (.own x)) x (.ins C dx [])) := by
      refine ⟨(same_upd hdx).trans (same_upd hx2), Same.refl _, r.sub.trans ((same_upd hdx).trans (same_upd hx2)), fun a u h => .inl h⟩
    have r2 := r1.push (o := .ins C []) (v := .ref x) (f := [x]) q ⟨x, dx, [], [], rfl, rfl, upd_same, rfl, rfl⟩ (List.nodup_cons.mpr ⟨by simp, List.nodup_nil⟩) (fun a ha => by rw [List.mem_singleton.mp ha]; exact hx) (fun a ha => by rw [List.mem_singleton.mp ha]; exact r.sub.free hx)
    obtain ⟨B', r3, back⟩ := Rel.frameT (os := .ins C [] :: os) (us := .ref x :: vs) (tu := []) (vs := []) r2 (by simp [hl, hlo])
    refine ⟨by simp [hl], B', R, _, r3, mono _ _ _ _ _ (fun o os' hq v H' R' s r' => ?_) (fun C fs os' hq od H' R' s r' xx => ?_) h⟩
    · cases os' with
      | nil => exact hq.elim
      | cons self os' =>
        obtain ⟨rfl, hq⟩ := hq
        have r4 := back R' H' (self :: os' ++ [.ro .non]) (.ref x :: vs ++ [v]) s r'
        rw [List.append_nil, List.append_nil] at r4
        have hv : v = .non := by
          obtain ⟨f1, f2, h1, h2, _⟩ := r'.ex
          have e : (self :: os' ++ [.ro .non])[(self :: os').length]? = some (.ro .non) := by simp
          obtain ⟨v', hv', w⟩ := ro_at h2 e
          have hl2 : (V.ref x :: vs).length = (self :: os').length := by simpa using r'.lenT
          rw [← hl2] at hv'
          simp at hv'
          rw [← hv'] at w
          exact w
        refine ⟨hv, ?_⟩
        have hl' : vs.length = os'.length := by
          have := r'.lenT
          simpa using this
        -- reorder: the instance behind the arguments
        obtain ⟨f1, f2, h1, h2, h3, h4⟩ := r4.ex
        have h2 : OwnL K R' H' (self :: (os' ++ [.ro .non])) (.ref x :: (vs ++ [v])) f2 := h2
        obtain ⟨v0, s0, g1, g2, e0, rfl, w1, w2⟩ := h2
        cases e0
        obtain ⟨va, vb, ga, gb, e1, rfl, w3, w4⟩ := OwnL.split w2
        have e2 : vs = va ∧ [v] = vb := List.append_inj e1 (by rw [hl', w3.len])
        obtain ⟨rfl, rfl⟩ := e2
        have p : (f1 ++ (ga ++ g1)).Perm (f1 ++ (g1 ++ ga)) := List.Perm.append_left f1 List.perm_append_comm
        have sb : (f1 ++ (g1 ++ ga)).Sublist (f1 ++ (g1 ++ (ga ++ gb))) := List.Sublist.append_left (List.Sublist.append_left (List.sublist_append_left _ _) _) _
        have r5 : Rel K B R' H' sgV sg2 (os' ++ [self]) (vs ++ [.ref x]) :=
          ⟨⟨f1, ga ++ g1, h1, OwnL.app w3 ⟨_, [], g1, [], rfl, by simp, w1, rfl, rfl⟩, p.nodup_iff.mpr (h3.sublist sb), fun a ha => h4 a (sb.subset (p.mem_iff.mp ha))⟩, r4.sub, r4.r0, r4.h0, r4.rn, r4.nd⟩
        exact k _ H' R' self _ s (Rel.backA (ha.mono s) hl' r5) hq
    · have r4 := back R' H' os' (.ref x :: vs) s r'
      cases os' with
      | nil =>
        have := r'.lenT
        simp at this
      | cons self os' =>
        rw [List.append_nil, List.append_nil] at r4
        have r5 := r4.pop
        have hl' : vs.length = os'.length := by
          have := r'.lenT
          simpa using this
        refine kx C fs od H' R' _ s (Rel.backA (ha.mono s) hl' (tu := []) (us := []) (by rw [List.append_nil, List.append_nil]; exact r5)) xx hq
  · exact h.elim
theorem lo_make (M : Mk X.K C f) (F : FnOk X.prog X.w X.K X.mg X.base CX0 k f fd ps (spP X.K (n + 1) psi_)) (mono : PMono psi_) (hr : Room (k + 1) X.A) (hg : Gl X x) (hm : X.mg x = some (.ref C)) (hb : Binds X.K fd ps [])
    (ha : LAX X (e :: es) ta) (hdb : (x == ("__debug__" : Str)) = false := by decide) (he : starEach (e :: es) X.env = (false, eval e X.env) :: starEach es X.env := by rfl) (hpl : (backTo pos (starEach es X.env)).any (·.1) = false := by rfl) :
    LO X (.Call (.Name x p) (e :: es) [] pos) (wMake C n psi_ ta) := pe_weak (pe_make (dvs := []) M F hr hg hm hb .nil (pass0 (X := X)) ha hdb he hpl) fun sgV H Q ⟨B, R, sg, Qp, rl, ht, kk⟩ => by
  refine ⟨B, R, sg, _, rl, ht, fun vs H1 R1 as sg1 s1 rl1 ar hq => ?_⟩
  obtain ⟨hn, hq⟩ := hq
  subst hn
  intro x dx hx hdx hne
  rw [List.append_nil]
  exact make_sp (Xp := fun _ _ _ => False) hx hdx hne ar rl1 hq mono (fun v H' R' o sg' s r h => kk v H' R' o sg' (s1.trans s) r h) (fun _ _ _ _ _ _ _ _ _ h => h.elim)
end
end Pu
end
section
set_option Elab.async false
set_option linter.all false
set_option maxRecDepth 100000
set_option maxHeartbeats 4000000
/-! Pu7: fields, dicts, lists that are changed. -/
namespace Pu
open PySem PySem.Spec PyProof.Rows L2

/-! ### fields -/
def pFld (C : Addr) (f : Str) : P1 := fun o Q => match o with
  | .ro (.ins C' fs) => C' = C ∧ (match fs.lookup f with
    | some d => Q (.ro d)
    | none => False)
  | .ins C' fs => C' = C ∧ (match fGet f fs with
    | some o => Q o
    | none => False)
  | _ => False
section
variable {X : Cx} {e o : Expr} {f : Str} {C : Addr} {pos pos' : Pos}
theorem fld_at {K : PySem.W.Frag} {R H : Hp} {x : V} {o1 : O} {f1 : List Addr} {Qp : O → Prop} (s : Same R H) (w : Own K R H o1 x f1) (h : pFld C f o1 Qp) : ∃ a dx fv v o g, x = .ref a ∧ H a = some (.ins C dx fv) ∧ fv.lookup f = some v ∧ Own K R H o v g ∧ Qp o := by
  unfold pFld at h
  split at h
  · rename_i C' fs
    obtain ⟨rfl, h⟩ := h
    split at h
    · rename_i d e
      obtain ⟨_, a, dx, fv, rfl, ha, hf⟩ := w
      obtain ⟨v, hv, wv⟩ := hf.look.1 d e
      exact ⟨a, dx, fv, v, .ro d, [], rfl, s _ _ ha, hv, Own.ro wv, h⟩
    · exact h.elim
  · rename_i C' fs
    obtain ⟨rfl, h⟩ := h
    split at h
    · rename_i o e
      obtain ⟨a, dx, fv, g, rfl, _, ha, hf⟩ := w
      obtain ⟨v, g1, g2, hv, wv, _⟩ := hf.take e
      exact ⟨a, dx, fv, v, o, g1, rfl, ha, hv, wv, h⟩
    · exact h.elim
  · exact h.elim
theorem lr_fld {t : TR} (he : LR X e t) (c : Cls X.K C) (n : NoAttr X.K C f) (hb : attributeBase e f X.env (eval e X.env) = eval e X.env := by rfl) : LR X (.Attribute e f pos) (r1 (pFld C f) t) := pe_weak (pe_fld he hb) fun sgV H Q ⟨R, sg, fp, Qp, sl, s, ht, k⟩ => by
  refine ⟨R, sg, fp, _, sl, s, ht, fun v H1 R1 o g q1 w hq => ?_⟩
  obtain ⟨a, dx, fv, v', o', g', rfl, ha, hv, wv, hq⟩ := fld_at q1.s w hq
  exact ⟨a, C, dx, fv, v', rfl, ha, c, n, hv, k v' H1 R1 o' g' q1 wv hq⟩
theorem lm_fld {t : TM} (he : LM X e t) (c : Cls X.K C) (n : NoAttr X.K C f) (hb : attributeBase e f X.env (eval e X.env) = eval e X.env := by rfl) : LM X (.Attribute e f pos) (m1 (pFld C f) t) := pe_weak (pe_fld he hb) fun sgV H Q ⟨B, R, sg, Qp, rl, ht, k⟩ => by
  refine ⟨B, R, sg, _, rl, ht, fun v H1 R1 d sg1 s1 rl1 w hq => ?_⟩
  obtain ⟨a, dx, fv, v', o', g', rfl, ha, hv, wv, hq⟩ := fld_at rl1.sub (Own.ro w) hq
  obtain ⟨d', rfl, hq⟩ := onRo_iff hq
  exact ⟨a, C, dx, fv, v', rfl, ha, c, n, hv, k v' H1 R1 d' sg1 s1 rl1 wv.2 hq⟩
end
/-- a field stored -/
def fStore (f : Str) (x : O) : List (Str × O) → List (Str × O)
  | [] => [(f, x)]
  | (g, o) :: r => if g = f then (g, x) :: r else (g, o) :: fStore f x r
theorem fStore_len (f : Str) (x : O) : ∀ fs : List (Str × O), (fStore f x fs).length ≤ fs.length + 1
  | [] => by simp [fStore]
  | (g, o) :: r => by
    unfold fStore
    split
    · simp
    · have := fStore_len f x r
      simp; omega
section
variable {K : PySem.W.Frag} {R H H' : Hp}
theorem OwnF.store {f : Str} {x : O} {y : V} {ft : List Addr} (wx : Own K R H' x y ft) : ∀ {fs : List (Str × O)} {fv : List (Str × V)} {g : List Addr}, OwnF K R H fs fv g → (∀ a ∈ g, H' a = H a) →
    ∃ g' gs, OwnF K R H' (fStore f x fs) (putF f y fv) g' ∧ gs.Sublist g ∧ g'.Perm (gs ++ ft)
  | [], _, _, h, _ => by
    obtain ⟨rfl, rfl⟩ := h
    exact ⟨ft, [], ⟨y, [], ft, [], rfl, by simp, wx, rfl, rfl⟩, List.Sublist.refl _, by simp⟩
  | (q, o) :: r, _, _, h, k => by
    obtain ⟨v, rv, f1, f2, rfl, rfl, h2, h3⟩ := h
    unfold fStore putF
    by_cases e : q = f
    · rw [if_pos e, if_pos e]
      refine ⟨ft ++ f2, f2, ⟨y, rv, ft, f2, rfl, rfl, wx, OwnF.keep (Same.refl _) r rv f2 (fun a ha => k a (List.mem_append_right _ ha)) h3⟩, List.sublist_append_right _ _, List.perm_append_comm⟩
    · rw [if_neg e, if_neg e]
      obtain ⟨g', gs, h4, h5, h6⟩ := OwnF.store wx h3 fun a ha => k a (List.mem_append_right _ ha)
      refine ⟨f1 ++ g', f1 ++ gs, ⟨v, _, f1, g', rfl, rfl, Own.keep (Same.refl _) o v f1 (fun a ha => k a (List.mem_append_left _ ha)) h2, h4⟩, List.Sublist.append_left h5 _, ?_⟩
      rw [List.append_assoc]
      exact List.Perm.append_left f1 h6
theorem OwnF.flen : ∀ {fs : List (Str × O)} {fv : List (Str × V)} {g : List Addr}, OwnF K R H fs fv g → fv.length = fs.length
  | [], _, _, h => by rw [h.1]; rfl
  | (q, o) :: r, _, _, h => by obtain ⟨v, rv, f1, f2, rfl, rfl, h2, h3⟩ := h; simp [OwnF.flen h3]
theorem nodup_sub {g gs ft g' : List Addr} (h : (g ++ ft).Nodup) (s : gs.Sublist g) (p : g'.Perm (gs ++ ft)) : g'.Nodup ∧ ∀ a ∈ g', a ∈ g ++ ft :=
  ⟨p.nodup_iff.mpr (h.sublist (List.Sublist.append_right s ft)), fun a ha => (List.Sublist.append_right s ft).subset (p.mem_iff.mp ha)⟩
end
def sFldSet (C : Addr) (i : Nat) (f : Str) (t : TW) : TSp := fun D sg => t sg fun x sg' => match sg'[i]? with
  | some (some (.ins C' fs)) => C' = C ∧ fs.length < 1000 ∧ D.nx (sg'.set i (some (.ins C (fStore f x fs))))
  | _ => False
section
variable {X : Cx} {kp : Nat → Prop} {W : WX} {e : Expr} {f x : Str} {C : Addr} {pos pos' px : Pos}
/-- name.f = e -/
theorem ls_fld (i : Nat) {t : TW} (he : LO X e t) (c : Cls X.K C) (n : NoAttr X.K C f) (hN : X.N[i]? = some x := by rfl) (hv : Vis X.env.scope x := by first | exact Or.inl rfl | exact Or.inr (Or.inl rfl) | exact Or.inr (Or.inr rfl)) (hd : (x == ("__debug__" : Str)) = false := by decide) (hcd : (x == ("__classdict__" : Str)) = false := by decide)
    (hs : swapsWith e (some (.Attribute (.Name x px) f pos')) pos.line X.env = pure false := by rfl) : LS X kp W (.Assign [.Attribute (.Name x px) f pos'] e pos) (sFldSet C i f t) := ps_weak (ps_fld (pe_var hN hv hd hcd) he hs) fun D sgV H ⟨B, R, sg, Dp, r, ht, en⟩ => by
  refine ⟨B, R, sg, _, r, ht, fun y H1 R1 x sg1 s1 r1 hq => ?_⟩
  split at hq
  · rename_i C' fs e
    obtain ⟨rfl, hl, hq⟩ := hq
    obtain ⟨fp, sl⟩ := r1.slots
    obtain ⟨v, g, hv2, w, _⟩ := sl.get e
    obtain ⟨f2, ft, w2, wx, nd, hr, k⟩ := r1.mut (i := i) (π := []) (o := .ins C' fs) (v := v) ⟨v, _, hv2, e, rfl, rfl⟩
    obtain ⟨a, dx, fv, g2, rfl, rfl, ha, hf⟩ := w2
    have ndc := nd
    rw [List.cons_append, List.nodup_cons] at nd
    obtain ⟨na, nd2⟩ := nd
    rw [List.mem_append, not_or] at na
    refine ⟨_, hv2, a, C', dx, fv, rfl, ha, c, n, by rw [hf.flen]; exact hl, ?_⟩
    have out : ∀ b, b ≠ a → upd H1 a (.ins C' dx (putF f y fv)) b = H1 b := fun b hb => upd_ne hb
    have wx' : Own X.K R1 (upd H1 a (.ins C' dx (putF f y fv))) x y ft := Own.keep (Same.refl _) _ _ _ (fun b hb => out b (fun z => na.2 (by rw [← z]; exact hb))) wx
    obtain ⟨g', gs, h4, h5, h6⟩ := OwnF.store (f := f) wx' hf fun b hb => out b (fun z => na.1 (by rw [← z]; exact hb))
    obtain ⟨n1, n2⟩ := nodup_sub nd2 h5 h6
    have r2 := k (.ins C' (fStore f x fs)) (a :: g') _ ⟨a, dx, _, g', rfl, rfl, upd_same, h4⟩ (fun b hb => out b (fun z => hb (by rw [z]; exact List.mem_cons_self)))
      (List.nodup_cons.mpr ⟨fun z => by
        rcases List.mem_append.mp (n2 a z) with y | y
        · exact na.1 y
        · exact na.2 y, n1⟩) (fun b hb => by
        rcases List.mem_cons.mp hb with rfl | hb
        · exact List.mem_cons_self
        · exact List.mem_cons_of_mem _ (n2 b hb))
    have es : sPut i [] (O.ins C' (fStore f x fs)) sg1 = sg1.set i (some (.ins C' (fStore f x fs))) := by unfold sPut; rw [e]; rfl
    rw [es] at r2
    exact en.nx sgV _ R1 _ s1 r2 Kp.refl hq
  · exact hq.elim
end

/-! ### keys of dicts -/
def keyK : D → Option Key
  | .int i => some (.inl i)
  | .str x => some (.inr x)
  | _ => none
def keyTs : List D → Option (List Key)
  | [] => some []
  | d :: ds => match keyK d, keyTs ds with
    | some k, some ks => some (k :: ks)
    | _, _ => none
def keyT : D → Option (List Key)
  | .tup ds => keyTs ds
  | _ => none
theorem keyK_ok : ∀ {d : D} {k : Key}, keyK d = some k → d = kD k
  | .int i, k, h => by cases h; rfl
  | .str x, k, h => by cases h; rfl
theorem keyTs_ok : ∀ {ds : List D} {k : List Key}, keyTs ds = some k → ds = k.map kD
  | [], k, h => by cases h; rfl
  | d :: ds, k, h => by
    unfold keyTs at h
    cases e1 : keyK d with
    | none => rw [e1] at h; cases h
    | some x =>
      cases e2 : keyTs ds with
      | none => rw [e1, e2] at h; cases h
      | some xs =>
        rw [e1, e2] at h
        cases h
        rw [keyK_ok e1, keyTs_ok e2]
        rfl
theorem keyT_ok : ∀ {d : D} {k : List Key}, keyT d = some k → d = tkD k
  | .tup ds, k, h => by rw [keyTs_ok (show keyTs ds = some k from h)]; rfl
theorem keyTs_ints : ∀ xs : List Int, keyTs (xs.map D.int) = some (xs.map Sum.inl)
  | [] => rfl
  | x :: xs => by
    show (match keyK (.int x), keyTs (xs.map D.int) with
      | some k, some ks => some (k :: ks)
      | _, _ => none) = _
    rw [keyTs_ints xs]
    rfl
section
variable {K : PySem.W.Frag} {R H : Hp}
theorem Ro.kV {k : Key} {v : V} (h : Ro K R (kD k) v) : v = kV k := by
  cases k <;> exact h
theorem RoL.kV : ∀ {ks : List Key} {vs : List V}, RoL K R (ks.map kD) vs → vs = ks.map kV
  | [], _, h => h
  | k :: ks, _, h => by
    obtain ⟨v, r, rfl, h2, h3⟩ := h
    rw [h2.kV, RoL.kV h3]
    rfl
/-- the key, as the heap's dicts want it -/
def KeyAt (H : Hp) (t : Nat) (key : D) (y : V) : Prop := (t = 1 ∧ ∃ k b, key = tkD k ∧ y = .ref b ∧ H b = some (.tup (k.map kV))) ∨ (t = 0 ∧ ∃ k, key = kD k ∧ y = kV k)
def keyOk (t : Nat) (key : D) : Bool := match t with
  | 0 => (keyK key).isSome
  | 1 => (keyT key).isSome
  | _ => false
theorem key_at {t : Nat} {key : D} {y : V} (s : Same R H) (w : Ro K R key y) (h : keyOk t key = true) : KeyAt H t key y := by
  unfold keyOk at h
  split at h
  · cases e : keyK key with
    | none => rw [e] at h; cases h
    | some k =>
      have e2 := keyK_ok e
      subst e2
      exact .inr ⟨rfl, k, rfl, w.kV⟩
  · cases e : keyT key with
    | none => rw [e] at h; cases h
    | some k =>
      have e2 := keyT_ok e
      subst e2
      obtain ⟨a, vs, rfl, ha, wl⟩ := w
      refine .inl ⟨rfl, k, a, rfl, rfl, ?_⟩
      have := wl.kV
      rw [this] at ha
      exact s _ _ ha
  · cases h
def dGet (k : D) : List (D × D) → Option D
  | [] => none
  | (g, o) :: r => if k = g then some o else dGet k r
theorem RoT.get {k : List Key} : ∀ {kvs : List (D × D)} {ks : List (List Key × V)}, RoT K R kvs ks → (∀ d, dGet (tkD k) kvs = some d → ∃ v, valV ks k = some v ∧ Ro K R d v) ∧ (dGet (tkD k) kvs = none → valV ks k = none)
  | [], _, h => by
    have h : _ = [] := h
    subst h
    exact ⟨fun _ h => (nomatch h), fun _ => rfl⟩
  | (g, d) :: r, _, h => by
    obtain ⟨kk, v, rv, rfl, rfl, h2, h3⟩ := h
    obtain ⟨i1, i2⟩ := RoT.get (k := k) h3
    unfold dGet
    by_cases e : tkD k = tkD kk
    · have ek := tkD_inj e
      subst ek
      rw [if_pos rfl, valV_pos rfl]
      exact ⟨fun _ q => by cases q; exact ⟨v, rfl, h2⟩, fun q => by cases q⟩
    · rw [if_neg e, valV_neg (fun z => e (by show tkD k = tkD kk; rw [show kk = k from z]))]
      exact ⟨i1, i2⟩
theorem RoK.get {k : Key} : ∀ {kvs : List (D × D)} {ks : List (Key × V)}, RoK K R kvs ks → (∀ d, dGet (kD k) kvs = some d → ∃ v, valV ks k = some v ∧ Ro K R d v) ∧ (dGet (kD k) kvs = none → valV ks k = none)
  | [], _, h => by
    have h : _ = [] := h
    subst h
    exact ⟨fun _ h => (nomatch h), fun _ => rfl⟩
  | (g, d) :: r, _, h => by
    obtain ⟨kk, v, rv, rfl, rfl, h2, h3⟩ := h
    obtain ⟨i1, i2⟩ := RoK.get (k := k) h3
    unfold dGet
    by_cases e : kD k = kD kk
    · have ek := kD_inj e
      subst ek
      rw [if_pos rfl, valV_pos rfl]
      exact ⟨fun _ q => by cases q; exact ⟨v, rfl, h2⟩, fun q => by cases q⟩
    · rw [if_neg e, valV_neg (fun z => e (by show kD k = kD kk; rw [show kk = k from z]))]
      exact ⟨i1, i2⟩
theorem OwnT.miss {k : List Key} : ∀ {kvs : List (D × O)} {ks : List (List Key × V)} {g : List Addr}, OwnT K R H kvs ks g → kGet (tkD k) kvs = none → valV ks k = none
  | [], _, _, h, _ => by rw [h.1]; rfl
  | (q, o) :: r, _, _, h, e => by
    obtain ⟨kk, v, rv, f1, f2, rfl, rfl, rfl, h2, h3⟩ := h
    unfold kGet at e
    by_cases z : tkD k = tkD kk
    · rw [if_pos z] at e; cases e
    · rw [if_neg z] at e
      rw [valV_neg (fun y => z (by show tkD k = tkD kk; rw [show kk = k from y]))]
      exact OwnT.miss h3 e
theorem OwnK.miss {k : Key} : ∀ {kvs : List (D × O)} {ks : List (Key × V)} {g : List Addr}, OwnK K R H kvs ks g → kGet (kD k) kvs = none → valV ks k = none
  | [], _, _, h, _ => by rw [h.1]; rfl
  | (q, o) :: r, _, _, h, e => by
    obtain ⟨kk, v, rv, f1, f2, rfl, rfl, rfl, h2, h3⟩ := h
    unfold kGet at e
    by_cases z : kD k = kD kk
    · rw [if_pos z] at e; cases e
    · rw [if_neg z] at e
      rw [valV_neg (fun y => z (by show kD k = kD kk; rw [show kk = k from y]))]
      exact OwnK.miss h3 e
/-- what a dict tells of a key -/
def dLook (key : D) : O → Option (Option O)
  | .ro (.dct t kvs) => if keyOk t key = true then some ((dGet key kvs).map O.ro) else none
  | .dct t kvs => if keyOk t key = true then some (kGet key kvs) else none
  | _ => none
def OvAt (K : PySem.W.Frag) (R H : Hp) : Option O → Option V → Prop
  | some c, some v => ∃ g', Own K R H c v g'
  | none, none => True
  | _, _ => False
theorem d_look {key : D} {o : O} {x y : V} {g : List Addr} {r : Option O} (s : Same R H) (w : Own K R H o x g) (wk : Ro K R key y) (h : dLook key o = some r) :
    ∃ a ov, x = .ref a ∧ IsD H a ∧ DGet H a y ov ∧ OvAt K R H r ov := by
  unfold dLook at h
  split at h
  · rename_i t kvs
    split at h
    · rename_i hk
      cases h
      obtain ⟨_, a, rfl, hh⟩ := w
      have ka := key_at s wk hk
      rcases hh with ⟨rfl, ks, ha, wt⟩ | ⟨rfl, ks, ha, wt⟩
      · rcases ka with ⟨_, k, b, rfl, rfl, hb⟩ | ⟨e, _⟩
        · obtain ⟨i1, i2⟩ := RoT.get (k := k) wt
          have ha := rd_mono s ha
          cases e : dGet (tkD k) kvs with
          | none => exact ⟨a, none, rfl, .inr ⟨ks, ha⟩, .inr ⟨ks, k, b, ha, rfl, hb, (i2 e).symm⟩, trivial⟩
          | some d =>
            obtain ⟨v, hv, wv⟩ := i1 d e
            exact ⟨a, some v, rfl, .inr ⟨ks, ha⟩, .inr ⟨ks, k, b, ha, rfl, hb, hv.symm⟩, [], Own.ro wv⟩
        · cases e
      · rcases ka with ⟨e, _⟩ | ⟨_, k, rfl, rfl⟩
        · cases e
        · obtain ⟨i1, i2⟩ := RoK.get (k := k) wt
          have ha := rd_mono s ha
          cases e : dGet (kD k) kvs with
          | none => exact ⟨a, none, rfl, .inl ⟨ks, ha⟩, .inl ⟨ks, k, ha, rfl, (i2 e).symm⟩, trivial⟩
          | some d =>
            obtain ⟨v, hv, wv⟩ := i1 d e
            exact ⟨a, some v, rfl, .inl ⟨ks, ha⟩, .inl ⟨ks, k, ha, rfl, hv.symm⟩, [], Own.ro wv⟩
    · cases h
  · rename_i t kvs
    split at h
    · rename_i hk
      cases h
      obtain ⟨_, a, g2, rfl, _, hh⟩ := w
      have ka := key_at s wk hk
      rcases hh with ⟨rfl, ks, ha, wt⟩ | ⟨rfl, ks, ha, wt⟩
      · rcases ka with ⟨_, k, b, rfl, rfl, hb⟩ | ⟨e, _⟩
        · cases e : kGet (tkD k) kvs with
          | none => exact ⟨a, none, rfl, .inr ⟨ks, .inl ha⟩, .inr ⟨ks, k, b, .inl ha, rfl, hb, (wt.miss e).symm⟩, trivial⟩
          | some d =>
            obtain ⟨v, g1, g2, hv, wv, _⟩ := wt.take e
            exact ⟨a, some v, rfl, .inr ⟨ks, .inl ha⟩, .inr ⟨ks, k, b, .inl ha, rfl, hb, hv.symm⟩, g1, wv⟩
        · cases e
      · rcases ka with ⟨e, _⟩ | ⟨_, k, rfl, rfl⟩
        · cases e
        · cases e : kGet (kD k) kvs with
          | none => exact ⟨a, none, rfl, .inl ⟨ks, .inl ha⟩, .inl ⟨ks, k, .inl ha, rfl, (wt.miss e).symm⟩, trivial⟩
          | some d =>
            obtain ⟨v, g1, g2, hv, wv, _⟩ := wt.take e
            exact ⟨a, some v, rfl, .inl ⟨ks, .inl ha⟩, .inl ⟨ks, k, .inl ha, rfl, hv.symm⟩, g1, wv⟩
    · cases h
  · cases h
end
/-! reading dicts -/
def rDGet (td tk : TR) : TR := fun sg Q => td sg fun o => tk sg (onRo fun key => match dLook key o with
  | some (some c) => Q c
  | _ => False)
def isDct : O → Bool
  | .ro (.dct _ _) => true
  | .dct _ _ => true
  | _ => false
def rDGet1 (td tk : TR) : TR := fun sg Q => td sg fun o => isDct o = true ∧ tk sg (onRo fun key => match dLook key o with
  | some (some c) => Q c
  | some none => Q (.ro .non)
  | _ => False)
def rDGet2 (td tk tx : TR) : TR := fun sg Q => td sg fun o => isDct o = true ∧ tk sg (onRo fun key => tx sg fun z => match dLook key o with
  | some (some c) => Q c
  | some none => Q z
  | _ => False)
def bDIn (neg : Bool) (tk td : TR) : TR := fun sg Q => tk sg (onRo fun key => td sg fun o => match dLook key o with
  | some r => Q (.ro (.bl (if neg then !r.isSome else r.isSome)))
  | _ => False)
section
variable {X : Cx} {o i e f : Expr} {pos apos cpos : Pos} {td tk tx : TR}
theorem lr_dget (hu : X.A.units + 1 < cLine) (ho : LR X o td) (hi : LR X i tk) (hs : NoSl i := by exact fun _ _ => rfl) : LR X (.Subscript o i pos) (rDGet td tk) := pe_weak (pe_dget hu ho hi hs) fun sgV H Q ⟨R, sg, fp, Qp, sl, s, ht, k⟩ => by
  refine ⟨R, sg, fp, _, sl, s, ht, fun x H1 R1 o1 g1 q1 w1 hq => ?_⟩
  refine ⟨R1, sg, fp, _, sl.quiet q1, q1.s, hq, fun y H2 R2 o2 g2 q2 w2 hq => ?_⟩
  obtain ⟨key, rfl, hq2⟩ := onRo_iff hq
  clear hq
  have hq := hq2
  clear hq2
  split at hq
  · rename_i c e
    obtain ⟨a, ov, rfl, _, hg, m⟩ := d_look q2.s (w1.quiet q2) w2.2 e
    cases ov with
    | none => exact m.elim
    | some v =>
      obtain ⟨g', wc⟩ := m
      exact ⟨a, v, rfl, hg, k v H2 R2 c g' (q1.trans q2) wc hq⟩
  · exact hq.elim
theorem isD_of {K : PySem.W.Frag} {R H : Hp} {o1 : O} {x : V} {g : List Addr} (s : Same R H) (w : Own K R H o1 x g) (h : isDct o1 = true) : ∃ a, x = .ref a ∧ IsD H a := by
  unfold isDct at h
  split at h
  · obtain ⟨_, a, rfl, hh⟩ := w
    rcases hh with ⟨_, ks, ha, _⟩ | ⟨_, ks, ha, _⟩
    · exact ⟨a, rfl, .inr ⟨ks, rd_mono s ha⟩⟩
    · exact ⟨a, rfl, .inl ⟨ks, rd_mono s ha⟩⟩
  · obtain ⟨_, a, g, rfl, _, hh⟩ := w
    rcases hh with ⟨_, ks, ha, _⟩ | ⟨_, ks, ha, _⟩
    · exact ⟨a, rfl, .inr ⟨ks, .inl ha⟩⟩
    · exact ⟨a, rfl, .inl ⟨ks, .inl ha⟩⟩
  · cases h
theorem lr_dget1 (hu : X.A.units + 1 < cLine) (ho : LR X o td) (hi : LR X e tk) (m : M1 X o "get" apos e cpos := by exact ⟨rfl, rfl, rfl⟩) : LR X (.Call (.Attribute o "get" apos) [e] [] cpos) (rDGet1 td tk) := pe_weak (pe_dget1 hu ho hi m) fun sgV H Q ⟨R, sg, fp, Qp, sl, s, ht, k⟩ => by
  refine ⟨R, sg, fp, _, sl, s, ht, fun x H1 R1 o1 g1 q1 w1 hq => ?_⟩
  obtain ⟨hd, hq⟩ := hq
  obtain ⟨a, rfl, ia⟩ := isD_of q1.s w1 hd
  refine ⟨a, rfl, ia, R1, sg, fp, _, sl.quiet q1, q1.s, hq, fun y H2 R2 o2 g2 q2 w2 hq => ?_⟩
  obtain ⟨key, rfl, hq2⟩ := onRo_iff hq
  clear hq
  have hq := hq2
  clear hq2
  split at hq
  · rename_i c e
    obtain ⟨a', ov, ea, _, hg, m⟩ := d_look q2.s (w1.quiet q2) w2.2 e
    cases ea
    cases ov with
    | none => exact m.elim
    | some v =>
      obtain ⟨g', wc⟩ := m
      exact ⟨some v, hg, k v H2 R2 c g' (q1.trans q2) wc hq⟩
  · rename_i e
    obtain ⟨a', ov, ea, _, hg, m⟩ := d_look q2.s (w1.quiet q2) w2.2 e
    cases ea
    cases ov with
    | some v => exact m.elim
    | none => exact ⟨none, hg, k _ H2 R2 (.ro .non) [] (q1.trans q2) (Own.ro rfl) hq⟩
  · exact hq.elim
theorem lr_dget2 (hu : X.A.units + 1 < cLine) (ho : LR X o td) (hi : LR X e tk) (hf : LR X f tx) (m : M2 X o "get" apos e f cpos := by exact ⟨rfl, rfl, rfl, rfl⟩) : LR X (.Call (.Attribute o "get" apos) [e, f] [] cpos) (rDGet2 td tk tx) := pe_weak (pe_dget2 hu ho hi hf m) fun sgV H Q ⟨R, sg, fp, Qp, sl, s, ht, k⟩ => by
  refine ⟨R, sg, fp, _, sl, s, ht, fun x H1 R1 o1 g1 q1 w1 hq => ?_⟩
  obtain ⟨hd, hq⟩ := hq
  obtain ⟨a, rfl, ia⟩ := isD_of q1.s w1 hd
  refine ⟨a, rfl, ia, R1, sg, fp, _, sl.quiet q1, q1.s, hq, fun y H2 R2 o2 g2 q2 w2 hq => ?_⟩
  obtain ⟨key, rfl, hq⟩ := onRo_iff hq
  refine ⟨R2, sg, fp, _, (sl.quiet q1).quiet q2, q2.s, hq, fun z H3 R3 o3 g3 q3 w3 hq => ?_⟩
  split at hq
  · rename_i c e
    obtain ⟨a', ov, ea, _, hg, m⟩ := d_look q3.s ((w1.quiet q2).quiet q3) (Ro.mono q3.r _ _ w2.2) e
    cases ea
    cases ov with
    | none => exact m.elim
    | some v =>
      obtain ⟨g', wc⟩ := m
      exact ⟨some v, hg, k v H3 R3 c g' ((q1.trans q2).trans q3) wc hq⟩
  · rename_i e
    obtain ⟨a', ov, ea, _, hg, m⟩ := d_look q3.s ((w1.quiet q2).quiet q3) (Ro.mono q3.r _ _ w2.2) e
    cases ea
    cases ov with
    | some v => exact m.elim
    | none => exact ⟨none, hg, k _ H3 R3 o3 g3 ((q1.trans q2).trans q3) w3 hq⟩
  · exact hq.elim
theorem din_le {K : PySem.W.Frag} {neg : Bool} {sgV : L2.St} {H : Hp} {Q : VK} (q : eR K (bDIn neg tk td) sgV H Q) : (if neg then tDNotIn (eR K tk) (eR K td) else tDIn (eR K tk) (eR K td)) sgV H Q := by
  obtain ⟨R, sg, fp, Qp, sl, s, ht, k⟩ := q
  have main : eR K tk sgV H fun y H1 => eR K td sgV H1 fun x H2 => ∃ a ov, x = .ref a ∧ DGet H2 a y ov ∧ Q (.bl (if neg then !ov.isSome else ov.isSome)) H2 := by
    refine ⟨R, sg, fp, _, sl, s, ht, fun y H1 R1 o1 g1 q1 w1 hq => ?_⟩
    obtain ⟨key, rfl, hq⟩ := onRo_iff hq
    refine ⟨R1, sg, fp, _, sl.quiet q1, q1.s, hq, fun x H2 R2 o2 g2 q2 w2 hq => ?_⟩
    split at hq
    · rename_i r e
      obtain ⟨a, ov, rfl, _, hg, m⟩ := d_look q2.s w2 (Ro.mono q2.r _ _ w1.2) e
      have er : r.isSome = ov.isSome := by
        cases r <;> cases ov <;> first | rfl | exact m.elim
      rw [er] at hq
      exact ⟨a, ov, rfl, hg, k _ H2 R2 _ [] (q1.trans q2) (Own.ro (d := .bl (if neg then !ov.isSome else ov.isSome)) rfl) hq⟩
    · exact hq.elim
  cases neg with
  | true => exact main
  | false => exact main
theorem lr_din (hu : X.A.units + 1 < cLine) (hi : LR X i tk) (ho : LR X o td) (hm : behindInMarks .In o = false := by rfl) : LR X (.Compare i [.In] [o] pos) (bDIn false tk td) := pe_weak (pe_cmp (pc_din hu hi ho) hm) fun sgV H Q q => din_le (neg := false) q
theorem lr_dnotin (hu : X.A.units + 1 < cLine) (hi : LR X i tk) (ho : LR X o td) (hm : behindInMarks .NotIn o = false := by rfl) : LR X (.Compare i [.NotIn] [o] pos) (bDIn true tk td) := pe_weak (pe_cmp (pc_dnotin hu hi ho) hm) fun sgV H Q q => din_le (neg := true) q
theorem bR_le {K : PySem.W.Frag} {t : TR} {t' : TE} {sgV : L2.St} {H : Hp} {Q : Bool → Hp → Prop} (h : ∀ Q, eR K t sgV H Q → t' sgV H Q) (q : eT K (bR t) sgV H Q) : tB t' sgV H Q := by
  obtain ⟨B, R, sg, Qp, rl, ht, k⟩ := q
  obtain ⟨fp, sl⟩ := rl.slots
  refine h _ ⟨R, sg, fp, _, sl, rl.sub, ht, fun v H' R' o f q1 w hq => ?_⟩
  obtain ⟨d, rfl, hq⟩ := onRo_iff hq
  obtain ⟨b, rfl, hq⟩ := onBl_iff hq
  have w : v = .bl b := w.2
  exact ⟨b, w, k b H' R' sg q1.r (rl.quiet q1) hq⟩
theorem lt_din (hu : X.A.units + 1 < cLine) (hi : LR X i tk) (ho : LR X o td) (hm : behindInMarks .In o = false := by rfl) : LT X (.Compare i [.In] [o] pos) (bR (bDIn false tk td)) := pt_weak (pt_cmp (pc_din hu hi ho) hm) fun sgV H Q q => bR_le (fun Q q => din_le (neg := false) q) q
theorem lt_dnotin (hu : X.A.units + 1 < cLine) (hi : LR X i tk) (ho : LR X o td) (hm : behindInMarks .NotIn o = false := by rfl) : LT X (.Compare i [.NotIn] [o] pos) (bR (bDIn true tk td)) := pt_weak (pt_cmp (pc_dnotin hu hi ho) hm) fun sgV H Q q => bR_le (fun Q q => din_le (neg := true) q) q
/-- {} -/
def wDnew (t : Nat) : TW := fun sg Q => Q (.dct t []) sg
theorem lo_dnewT : LO X (.Dict [] [] pos) (wDnew 1) := pe_weak pe_dnewT fun sgV H Q ⟨B, R, sg, Qp, r, ht, k⟩ p hp =>
  k _ _ R _ sg (Same.refl _) (r.push (o := .dct 1 []) (f := [p]) (Quiet.newO r.sub hp) ⟨List.nodup_nil, p, [], rfl, rfl, .inl ⟨rfl, [], upd_same, rfl, rfl⟩⟩ (List.nodup_cons.mpr ⟨by simp, List.nodup_nil⟩) (fun a ha => by rw [List.mem_singleton.mp ha]; exact hp) (fun a ha => by rw [List.mem_singleton.mp ha]; exact r.sub.free hp)) ht
theorem lo_dnewK : LO X (.Dict [] [] pos) (wDnew 0) := pe_weak pe_dnewK fun sgV H Q ⟨B, R, sg, Qp, r, ht, k⟩ p hp =>
  k _ _ R _ sg (Same.refl _) (r.push (o := .dct 0 []) (f := [p]) (Quiet.newO r.sub hp) ⟨List.nodup_nil, p, [], rfl, rfl, .inr ⟨rfl, [], upd_same, rfl, rfl⟩⟩ (List.nodup_cons.mpr ⟨by simp, List.nodup_nil⟩) (fun a ha => by rw [List.mem_singleton.mp ha]; exact hp) (fun a ha => by rw [List.mem_singleton.mp ha]; exact r.sub.free hp)) ht
end
end Pu
end
section
set_option Elab.async false
set_option linter.all false
set_option maxRecDepth 100000
set_option maxHeartbeats 4000000
/-! Pu8: paths as expressions; append, stores, pops. -/
namespace Pu
open PySem PySem.Spec PyProof.Rows L2

/-! ### paths -/
abbrev TP := PSt → (Nat → List Pt → O → Prop) → Prop
section
variable {K : PySem.W.Frag} {R H R' H' : Hp}
theorem stepV.mono (s : Same H H') {v v' : V} {p : Pt} (h : stepV H v p v') : stepV H' v p v' := by
  cases p with
  | ix j => obtain ⟨a, vs, h1, h2, h3⟩ := h; exact ⟨a, vs, h1, s _ _ h2, h3⟩
  | fd f => obtain ⟨a, C, dx, fv, h1, h2, h3⟩ := h; exact ⟨a, C, dx, fv, h1, s _ _ h2, h3⟩
  | ky k =>
    obtain ⟨a, h1, h2⟩ := h
    refine ⟨a, h1, ?_⟩
    rcases h2 with ⟨ks, kk, h2, h3, h4⟩ | ⟨ks, kk, h2, h3, h4⟩
    · exact .inl ⟨ks, kk, s _ _ h2, h3, h4⟩
    · exact .inr ⟨ks, kk, s _ _ h2, h3, h4⟩
theorem walkV.mono (s : Same H H') : ∀ {π : List Pt} {v v' : V}, walkV H v π v' → walkV H' v π v'
  | [], _, _, h => h
  | p :: ps, _, _, h => let ⟨u, h1, h2⟩ := h; ⟨u, h1.mono s, walkV.mono s h2⟩
theorem walkV.snoc : ∀ {π : List Pt} {v v' v2 : V} {p : Pt}, walkV H v π v' → stepV H v' p v2 → walkV H v (π ++ [p]) v2
  | [], v, v', v2, p, h, h2 => by
    have h : v = v' := h
    subst h
    exact ⟨v2, h2, rfl⟩
  | q :: ps, v, v', v2, p, h, h2 => let ⟨u, h1, h3⟩ := h; ⟨u, h1, walkV.snoc h3 h2⟩
theorem O.at_snoc : ∀ {π : List Pt} {o c : O} {p : Pt}, O.at π o = some c → O.at (π ++ [p]) o = O.at1 p c
  | [], o, c, p, h => by
    cases h
    show (O.at1 p o).bind (O.at []) = _
    cases O.at1 p o <;> rfl
  | q :: ps, o, c, p, h => by
    show (O.at1 q o).bind (O.at (ps ++ [p])) = _
    have h : (O.at1 q o).bind (O.at ps) = some c := h
    cases e : O.at1 q o with
    | none => rw [e] at h; cases h
    | some x =>
      rw [e] at h
      exact O.at_snoc (o := x) h
theorem PathAt.mono {sgV : L2.St} {sg : PSt} {i : Nat} {π : List Pt} {o : O} {v : V} (s : Same H H') (h : PathAt H sgV sg i π o v) : PathAt H' sgV sg i π o v :=
  let ⟨v₀, o₀, h1, h2, h3, h4⟩ := h
  ⟨v₀, o₀, h1, h2, h3, h4.mono s⟩
theorem PathAt.own {sgV : L2.St} {sg : PSt} {fp : List Addr} {i : Nat} {π : List Pt} {o : O} {v : V} (sl : SlR K R H sg sgV fp) (h : PathAt H sgV sg i π o v) : ∃ f, Own K R H o v f := by
  obtain ⟨v₀, o₀, h1, h2, h3, h4⟩ := h
  obtain ⟨v', f, h5, w, _⟩ := sl.get h2
  rw [h1] at h5
  cases h5
  obtain ⟨f1, _, w2, _⟩ := Own.path w h3 h4
  exact ⟨f1, w2⟩
theorem PathAt.snoc {sgV : L2.St} {sg : PSt} {i : Nat} {π : List Pt} {o c : O} {v v2 : V} {p : Pt} (h : PathAt H sgV sg i π o v) (e : O.at1 p o = some c) (s : stepV H v p v2) : PathAt H sgV sg i (π ++ [p]) c v2 :=
  let ⟨v₀, o₀, h1, h2, h3, h4⟩ := h
  ⟨v₀, o₀, h1, h2, (O.at_snoc h3).trans e, h4.snoc s⟩
end
def eP (K : PySem.W.Frag) (t : TP) : TE := fun sgV H Q => ∃ R sg fp Qp, SlR K R H sg sgV fp ∧ Same R H ∧ t sg Qp ∧ ∀ v H' R' i π o, Quiet R H R' H' → PathAt H' sgV sg i π o v → Qp i π o → Q v H'
abbrev LP (X : Cx) (e : Expr) (t : TP) : Prop := PE X e (eP X.K t)
def pV (i : Nat) : TP := fun sg Q => match sg[i]? with
  | some (some o) => Q i [] o
  | _ => False
def pF (C : Addr) (f : Str) (t : TP) : TP := fun sg Q => t sg fun i π o => match o with
  | .ins C' fs => C' = C ∧ (match fGet f fs with
    | some c => Q i (π ++ [.fd f]) c
    | none => False)
  | _ => False
/-- P[e], P a list of one's own -/
def pI (t : TP) (te : TR) : TP := fun sg Q => t sg fun i π o => te sg (onRo fun d => match o, d with
  | .lst os, .int k => (match ixN os.length k with
    | some j => (match os[j]? with
      | some c => Q i (π ++ [.ix j]) c
      | none => False)
    | none => False)
  | _, _ => False)
/-- P[e], P a dict of one's own -/
def pK (t : TP) (te : TR) : TP := fun sg Q => t sg fun i π o => te sg (onRo fun key => match o with
  | .dct u kvs => keyOk u key = true ∧ (match kGet key kvs with
    | some c => Q i (π ++ [.ky key]) c
    | none => False)
  | _ => False)
section
variable {X : Cx} {e i : Expr} {f : Str} {C : Addr} {pos : Pos} {t : TP} {te : TR}
theorem lp_v (i : Nat) {x : Str} (hN : X.N[i]? = some x := by rfl) (hv : Vis X.env.scope x := by first | exact Or.inl rfl | exact Or.inr (Or.inl rfl) | exact Or.inr (Or.inr rfl)) (hd : (x == ("__debug__" : Str)) = false := by decide)
    (hcd : (x == ("__classdict__" : Str)) = false := by decide) : LP X (.Name x pos) (pV i) := pe_weak (pe_var hN hv hd hcd) fun sgV H Q ⟨R, sg, fp, Qp, sl, s, ht, k⟩ => by
  unfold pV at ht
  split at ht
  · rename_i o e
    obtain ⟨v, f, hv, w, _⟩ := sl.get e
    exact ⟨v, hv, k v H R i [] o (Quiet.refl s) ⟨v, o, hv, e, rfl, rfl⟩ ht⟩
  · exact ht.elim
theorem lp_f (he : LP X e t) (c : Cls X.K C) (n : NoAttr X.K C f) (hb : attributeBase e f X.env (eval e X.env) = eval e X.env := by rfl) : LP X (.Attribute e f pos) (pF C f t) := pe_weak (pe_fld he hb) fun sgV H Q ⟨R, sg, fp, Qp, sl, s, ht, k⟩ => by
  refine ⟨R, sg, fp, _, sl, s, ht, fun v H1 R1 i π o q1 pa hq => ?_⟩
  obtain ⟨g, w⟩ := pa.own (sl.quiet q1)
  split at hq
  · rename_i C' fs
    obtain ⟨rfl, hq⟩ := hq
    obtain ⟨a, dx, fv, g2, rfl, _, ha, hf⟩ := w
    split at hq
    · rename_i o2 e
      obtain ⟨v2, g3, g4, hv2, w2, _⟩ := hf.take e
      exact ⟨a, C', dx, fv, v2, rfl, ha, c, n, hv2, k v2 H1 R1 i _ o2 q1 (pa.snoc (p := .fd f) e ⟨a, C', dx, fv, rfl, ha, hv2⟩) hq⟩
    · exact hq.elim
  · exact hq.elim
theorem lp_i (he : LP X e t) (hi : LR X i te) (hs : PlainIx i := by exact fun _ _ => rfl) : LP X (.Subscript e i pos) (pI t te) := pe_weak (pe_ix ix_list he hi hs) fun sgV H Q ⟨R, sg, fp, Qp, sl, s, ht, k⟩ => by
  refine ⟨R, sg, fp, _, sl, s, ht, fun v H1 R1 i π o q1 pa hq => ?_⟩
  refine ⟨R1, sg, fp, _, sl.quiet q1, q1.s, hq, fun y H2 R2 o2 g2 q2 w2 hq => ?_⟩
  obtain ⟨d, rfl, hq2⟩ := onRo_iff hq
  clear hq
  have pa2 := pa.mono q2.h
  obtain ⟨g, w⟩ := pa2.own ((sl.quiet q1).quiet q2)
  split at hq2
  · rename_i os kk
    obtain ⟨a, vs, g3, rfl, _, ha, hl⟩ := w
    have w2 : y = .int kk := w2.2
    subst w2
    split at hq2
    · rename_i j ej
      split at hq2
      · rename_i c ec
        obtain ⟨v2, g5, g6, hv2, w3, _⟩ := hl.take ec
        refine ⟨a, vs, kk, v2, rfl, rfl, SqL.of ha, ?_, k v2 H2 R2 i _ c (q1.trans q2) (pa2.snoc (p := .ix j) ec ⟨a, vs, rfl, ha, hv2⟩) hq2⟩
        unfold atI
        rw [hl.len, ej]
        exact hv2
      · exact hq2.elim
    · exact hq2.elim
  · exact hq2.elim
theorem lp_k (hu : X.A.units + 1 < cLine) (he : LP X e t) (hi : LR X i te) (hs : NoSl i := by exact fun _ _ => rfl) : LP X (.Subscript e i pos) (pK t te) := pe_weak (pe_dget hu he hi hs) fun sgV H Q ⟨R, sg, fp, Qp, sl, s, ht, k⟩ => by
  refine ⟨R, sg, fp, _, sl, s, ht, fun v H1 R1 i π o q1 pa hq => ?_⟩
  refine ⟨R1, sg, fp, _, sl.quiet q1, q1.s, hq, fun y H2 R2 o2 g2 q2 w2 hq => ?_⟩
  obtain ⟨key, rfl, hq2⟩ := onRo_iff hq
  clear hq
  have pa2 := pa.mono q2.h
  obtain ⟨g, w⟩ := pa2.own ((sl.quiet q1).quiet q2)
  split at hq2
  · rename_i u kvs
    obtain ⟨hk, hq2⟩ := hq2
    obtain ⟨_, a, g3, rfl, _, hh⟩ := w
    have ka := key_at q2.s w2.2 hk
    split at hq2
    · rename_i c ec
      rcases hh with ⟨rfl, ks, ha, wt⟩ | ⟨rfl, ks, ha, wt⟩
      · rcases ka with ⟨_, kk, b, rfl, rfl, hb⟩ | ⟨e, _⟩
        · obtain ⟨v2, g5, g6, hv2, w3, _⟩ := wt.take ec
          exact ⟨a, v2, rfl, .inr ⟨ks, kk, b, .inl ha, rfl, hb, hv2.symm⟩, k v2 H2 R2 i _ c (q1.trans q2) (pa2.snoc (p := .ky (tkD kk)) ec ⟨a, rfl, .inl ⟨ks, kk, ha, rfl, hv2⟩⟩) hq2⟩
        · cases e
      · rcases ka with ⟨e, _⟩ | ⟨_, kk, rfl, rfl⟩
        · cases e
        · obtain ⟨v2, g5, g6, hv2, w3, _⟩ := wt.take ec
          exact ⟨a, v2, rfl, .inl ⟨ks, kk, .inl ha, rfl, hv2.symm⟩, k v2 H2 R2 i _ c (q1.trans q2) (pa2.snoc (p := .ky (kD kk)) ec ⟨a, rfl, .inr ⟨ks, kk, ha, rfl, hv2⟩⟩) hq2⟩
    · exact hq2.elim
  · exact hq2.elim
/-- a path read -/
def rP (t : TP) : TR := fun sg Q => t sg fun _ _ o => Q o
theorem LP.r (h : LP X e t) : LR X e (rP t) := pe_weak h fun sgV H Q ⟨R, sg, fp, Qp, sl, s, ht, k⟩ =>
  ⟨R, sg, fp, _, sl, s, ht, fun v H' R' i π o q pa hq => by
    obtain ⟨f, w⟩ := pa.own (sl.quiet q)
    exact k v H' R' o f q w hq⟩
/-- a path's tree stays from now on -/
def mFzP (t : TP) : TM := fun sg Q => t sg fun i π o => Q o.d (sPut i π (.ro o.d) sg)
theorem LP.fz (h : LP X e t) : LM X e (mFzP t) := pe_weak (pe_locks h) fun sgV H Q ⟨B, R, sg, Qp, r, ht, k⟩ => by
  obtain ⟨fp, sl⟩ := r.slots
  refine ⟨R, sg, fp, _, sl, r.sub, ht, fun v H1 R1 i π o q1 pa hq => ?_⟩
  obtain ⟨ds, nd, hd, kk⟩ := (r.quiet q1).frzP pa
  refine ⟨ds, nd, hd, fun H2 l => ?_⟩
  obtain ⟨R2, s2, w, r2⟩ := kk H2 l
  exact k v H2 R2 o.d _ (q1.r.trans s2) r2 w hq
end

/-! ### lists that are changed -/
def isLst : Option (Option O) → Bool
  | some (some (.lst _)) => true
  | _ => false
theorem isLst_at {K : PySem.W.Frag} {R H : Hp} {sg : PSt} {sgV : L2.St} {fp : List Addr} {i : Nat} (sl : SlR K R H sg sgV fp) (h : isLst sg[i]? = true) : ∃ a vs, sgV[i]? = some (some (.ref a)) ∧ H a = some (.lst vs) := by
  unfold isLst at h
  split at h
  · rename_i os e
    obtain ⟨v, f, hv, w, _⟩ := sl.get e
    obtain ⟨a, vs, g, rfl, _, ha, _⟩ := w
    exact ⟨a, vs, hv, ha⟩
  · cases h
theorem tyL {K : PySem.W.Frag} {H : Hp} {a : Addr} {vs : List V} (h : H a = some (.lst vs)) : tyV K "list" (.ref a) H := .inl ⟨rfl, vs, SqL.of h⟩
def sApp (i : Nat) (te : TW) : TSp := fun D sg => isLst sg[i]? = true ∧ te sg fun x sg' => match sg'[i]? with
  | some (some (.lst os)) => os.length < sizeLine ∧ D.nx (sg'.set i (some (.lst (os ++ [x]))))
  | _ => False
theorem put_nil {sg : PSt} {i : Nat} {o x : O} (h : sg[i]? = some (some o)) : sPut i [] x sg = sg.set i (some x) := by unfold sPut; rw [h]; rfl
section
variable {K : PySem.W.Frag} {B : Ent} {R H : Hp} {sgV : L2.St} {sg : PSt} {tu : List O} {vs : List V}
/-- the first temp goes to the end of a list -/
theorem Rel.app {ot : O} {vt : V} (r : Rel K B R H sgV sg (ot :: tu) (vt :: vs)) {i : Nat} {π : List Pt} {os : List O} {a : Addr} (pa : PathAt H sgV sg i π (.lst os) (.ref a)) :
    ∃ us, H a = some (.lst us) ∧ us.length = os.length ∧ Rel K B R (upd H a (.lst (us ++ [vt]))) sgV (sPut i π (.lst (os ++ [ot])) sg) tu vs := by
  obtain ⟨f, ft, w, wt, nd, hr, k⟩ := r.mut pa
  obtain ⟨a', us, g, ea, rfl, ha, hl⟩ := w
  cases ea
  have nd0 := nd
  rw [List.cons_append, List.nodup_cons] at nd
  obtain ⟨na, nd2⟩ := nd
  rw [List.mem_append, not_or] at na
  have out : ∀ b, b ≠ a → upd H a (.lst (us ++ [vt])) b = H b := fun b hb => upd_ne hb
  refine ⟨us, ha, hl.len, k (.lst (os ++ [ot])) (a :: (g ++ ft)) _ ⟨a, _, g ++ ft, rfl, rfl, upd_same, ?_⟩ (fun b hb => out b (fun z => hb (by rw [z]; exact List.mem_cons_self))) nd0 (fun b hb => hb)⟩
  refine OwnL.app (OwnL.keep (Same.refl _) _ _ _ (fun b hb => out b (fun z => na.1 (by rw [← z]; exact hb))) hl) ?_
  exact ⟨vt, [], ft, [], rfl, by simp, Own.keep (Same.refl _) _ _ _ (fun b hb => out b (fun z => na.2 (by rw [← z]; exact hb))) wt, rfl, rfl⟩
/-- the first temp goes into a place of a list -/
theorem Rel.setIx {ot : O} {vt : V} (r : Rel K B R H sgV sg (ot :: tu) (vt :: vs)) {i : Nat} {π : List Pt} {os : List O} {a : Addr} {j : Nat} (pa : PathAt H sgV sg i π (.lst os) (.ref a)) :
    ∃ us, H a = some (.lst us) ∧ us.length = os.length ∧ Rel K B R (upd H a (.lst (us.set j vt))) sgV (sPut i π (.lst (os.set j ot)) sg) tu vs := by
  obtain ⟨f, ft, w, wt, nd, hr, k⟩ := r.mut pa
  obtain ⟨a', us, g, ea, rfl, ha, hl⟩ := w
  cases ea
  have nd0 := nd
  rw [List.cons_append, List.nodup_cons] at nd
  obtain ⟨na, nd2⟩ := nd
  rw [List.mem_append, not_or] at na
  have out : ∀ b, b ≠ a → upd H a (.lst (us.set j vt)) b = H b := fun b hb => upd_ne hb
  have wt' : Own K R (upd H a (.lst (us.set j vt))) ot vt ft := Own.keep (Same.refl _) _ _ _ (fun b hb => out b (fun z => na.2 (by rw [← z]; exact hb))) wt
  have hl' : OwnL K R (upd H a (.lst (us.set j vt))) os us g := OwnL.keep (Same.refl _) _ _ _ (fun b hb => out b (fun z => na.1 (by rw [← z]; exact hb))) hl
  have main : ∀ {os : List O} {us : List V} {g : List Addr} {j : Nat}, OwnL K R (upd H a (.lst (us.set j vt))) os us g → True := fun _ => trivial
  have setL : ∀ (os : List O) (us : List V) (g : List Addr) (j : Nat) (H' : Hp), OwnL K R H' os us g → Own K R H' ot vt ft → ∃ g' gs, OwnL K R H' (os.set j ot) (us.set j vt) g' ∧ gs.Sublist g ∧ (g'.Perm (gs ++ ft) ∨ g' = g) := by
    intro os
    induction os with
    | nil => intro us g j H' h _; obtain ⟨rfl, rfl⟩ := h; exact ⟨[], [], ⟨rfl, rfl⟩, List.Sublist.refl _, .inr rfl⟩
    | cons o os ih =>
      intro us g j H' h wt
      obtain ⟨v, r, f1, f2, rfl, rfl, h3, h4⟩ := h
      cases j with
      | zero => exact ⟨ft ++ f2, f2, ⟨vt, r, ft, f2, rfl, rfl, wt, h4⟩, List.sublist_append_right _ _, .inl List.perm_append_comm⟩
      | succ j =>
        obtain ⟨g', gs, h5, h6, h7⟩ := ih r f2 j H' h4 wt
        refine ⟨f1 ++ g', f1 ++ gs, ⟨v, _, f1, g', rfl, rfl, h3, h5⟩, List.Sublist.append_left h6 _, ?_⟩
        rcases h7 with h7 | rfl
        · left
          rw [List.append_assoc]
          exact List.Perm.append_left f1 h7
        · exact .inr rfl
  obtain ⟨g', gs, h5, h6, h7⟩ := setL os us g j _ hl' wt'
  have hn : g'.Nodup ∧ ∀ b ∈ g', b ∈ g ++ ft := by
    rcases h7 with h7 | rfl
    · exact nodup_sub nd2 h6 h7
    · rw [List.nodup_append] at nd2
      exact ⟨nd2.1, fun b hb => List.mem_append_left _ hb⟩
  refine ⟨us, ha, hl.len, k (.lst (os.set j ot)) (a :: g') _ ⟨a, _, g', rfl, rfl, upd_same, h5⟩ (fun b hb => out b (fun z => hb (by rw [z]; exact List.mem_cons_self))) (List.nodup_cons.mpr ⟨fun z => ?_, hn.1⟩) (fun b hb => ?_)⟩
  · rcases List.mem_append.mp (hn.2 a z) with y | y
    · exact na.1 y
    · exact na.2 y
  · rcases List.mem_cons.mp hb with rfl | hb
    · exact List.mem_cons_self
    · exact List.mem_cons_of_mem _ (hn.2 b hb)
theorem putK_pos {κ : Type} [DecidableEq κ] {k : κ} {v u : V} {r : List (κ × V)} (h : k ∉ r.map (·.1)) : putK ((k, u) :: r) k v = (k, v) :: r := by
  unfold putK
  have e : r.map (fun kv => if kv.1 = k then (kv.1, v) else kv) = r := by
    have : ∀ x ∈ r, (if x.1 = k then (x.1, v) else x) = x := fun x hx => if_neg fun z => h (List.mem_map.mpr ⟨x, hx, z⟩)
    rw [List.map_congr_left this]
    exact List.map_id' r
  simp [e]
theorem putK_neg {κ : Type} [DecidableEq κ] {k g : κ} {v u : V} {r : List (κ × V)} (h : g ≠ k) : putK ((g, u) :: r) k v = (g, u) :: putK r k v := by
  unfold putK
  simp only [List.any_cons, h, decide_false, Bool.false_or, List.map_cons, if_false]
  split <;> rfl
theorem OwnT.keys : ∀ {kvs : List (D × O)} {ks : List (List Key × V)} {g : List Addr}, OwnT K R H kvs ks g → kvs.map (·.1) = (ks.map (·.1)).map tkD
  | [], _, _, h => by rw [h.1]; rfl
  | (q, o) :: r, _, _, h => by
    obtain ⟨kk, v, rv, f1, f2, rfl, rfl, rfl, h2, h3⟩ := h
    simp [OwnT.keys h3]
theorem OwnK.keys : ∀ {kvs : List (D × O)} {ks : List (Key × V)} {g : List Addr}, OwnK K R H kvs ks g → kvs.map (·.1) = (ks.map (·.1)).map kD
  | [], _, _, h => by rw [h.1]; rfl
  | (q, o) :: r, _, _, h => by
    obtain ⟨kk, v, rv, f1, f2, rfl, rfl, rfl, h2, h3⟩ := h
    simp [OwnK.keys h3]
/-- the first temp is stored under a key -/
theorem putT_own {k : List Key} {ot : O} {vt : V} {ft : List Addr} (wt : Own K R H ot vt ft) : ∀ {kvs : List (D × O)} {ks : List (List Key × V)} {g : List Addr}, OwnT K R H kvs ks g → (kvs.map (·.1)).Nodup →
    ∃ g' gs, OwnT K R H (kPut (tkD k) ot kvs) (putK ks k vt) g' ∧ gs.Sublist g ∧ g'.Perm (gs ++ ft)
  | [], _, _, h, _ => by
    obtain ⟨rfl, rfl⟩ := h
    exact ⟨ft, [], ⟨k, vt, [], ft, [], rfl, by simp, rfl, wt, rfl, rfl⟩, List.Sublist.refl _, by simp⟩
  | (q, o) :: r, _, _, h, hc => by
    obtain ⟨kk, v, rv, f1, f2, rfl, rfl, rfl, h2, h3⟩ := h
    obtain ⟨hn, hc⟩ := List.nodup_cons.mp hc
    unfold kPut
    by_cases e : tkD k = tkD kk
    · have ek := tkD_inj e
      subst ek
      rw [if_pos rfl, putK_pos (fun z => hn (by
        show tkD k ∈ r.map (·.1)
        rw [h3.keys]
        exact List.mem_map.mpr ⟨k, z, rfl⟩))]
      exact ⟨ft ++ f2, f2, ⟨k, vt, rv, ft, f2, rfl, rfl, rfl, wt, h3⟩, List.sublist_append_right _ _, List.perm_append_comm⟩
    · rw [if_neg e, putK_neg (fun z => e (by rw [z]))]
      obtain ⟨g', gs, h4, h5, h6⟩ := putT_own wt h3 hc
      refine ⟨f1 ++ g', f1 ++ gs, ⟨kk, v, _, f1, g', rfl, rfl, rfl, h2, h4⟩, List.Sublist.append_left h5 _, ?_⟩
      rw [List.append_assoc]
      exact List.Perm.append_left f1 h6
theorem putK_own {k : Key} {ot : O} {vt : V} {ft : List Addr} (wt : Own K R H ot vt ft) : ∀ {kvs : List (D × O)} {ks : List (Key × V)} {g : List Addr}, OwnK K R H kvs ks g → (kvs.map (·.1)).Nodup →
    ∃ g' gs, OwnK K R H (kPut (kD k) ot kvs) (putK ks k vt) g' ∧ gs.Sublist g ∧ g'.Perm (gs ++ ft)
  | [], _, _, h, _ => by
    obtain ⟨rfl, rfl⟩ := h
    exact ⟨ft, [], ⟨k, vt, [], ft, [], rfl, by simp, rfl, wt, rfl, rfl⟩, List.Sublist.refl _, by simp⟩
  | (q, o) :: r, _, _, h, hc => by
    obtain ⟨kk, v, rv, f1, f2, rfl, rfl, rfl, h2, h3⟩ := h
    obtain ⟨hn, hc⟩ := List.nodup_cons.mp hc
    unfold kPut
    by_cases e : kD k = kD kk
    · have ek := kD_inj e
      subst ek
      rw [if_pos rfl, putK_pos (fun z => hn (by
        show kD k ∈ r.map (·.1)
        rw [h3.keys]
        exact List.mem_map.mpr ⟨k, z, rfl⟩))]
      exact ⟨ft ++ f2, f2, ⟨k, vt, rv, ft, f2, rfl, rfl, rfl, wt, h3⟩, List.sublist_append_right _ _, List.perm_append_comm⟩
    · rw [if_neg e, putK_neg (fun z => e (by rw [z]))]
      obtain ⟨g', gs, h4, h5, h6⟩ := putK_own wt h3 hc
      refine ⟨f1 ++ g', f1 ++ gs, ⟨kk, v, _, f1, g', rfl, rfl, rfl, h2, h4⟩, List.Sublist.append_left h5 _, ?_⟩
      rw [List.append_assoc]
      exact List.Perm.append_left f1 h6
/-- the first temp goes into a dict -/
theorem Rel.dput {ot : O} {vt : V} (r : Rel K B R H sgV sg (ot :: tu) (vt :: vs)) {i : Nat} {π : List Pt} {t : Nat} {kvs : List (D × O)} {a : Addr} {key : D} {y : V} (pa : PathAt H sgV sg i π (.dct t kvs) (.ref a)) (wk : Ro K R key y) (hk : keyOk t key = true) (hl : kvs.length < sizeLine) :
    ∃ H', DPut H a y vt H' ∧ Rel K B R H' sgV (sPut i π (.dct t (kPut key ot kvs)) sg) tu vs := by
  obtain ⟨f, ft, w, wt, nd, hr, k⟩ := r.mut pa
  obtain ⟨hn, a', g, ea, rfl, hh⟩ := w
  cases ea
  rw [List.cons_append, List.nodup_cons] at nd
  obtain ⟨na, nd2⟩ := nd
  rw [List.mem_append, not_or] at na
  have fin : ∀ {u : HO} {g' gs : List Addr}, gs.Sublist g → g'.Perm (gs ++ ft) → Own K R (upd H a u) (.dct t (kPut key ot kvs)) (.ref a) (a :: g') → Rel K B R (upd H a u) sgV (sPut i π (.dct t (kPut key ot kvs)) sg) tu vs := fun {u g' gs} h5 h6 w' => by
    obtain ⟨n1, n2⟩ := nodup_sub nd2 h5 h6
    refine k _ (a :: g') _ w' (fun b hb => upd_ne (show b ≠ a from fun z => hb (by rw [z]; exact List.mem_cons_self))) (List.nodup_cons.mpr ⟨fun z => ?_, n1⟩) (fun b hb => ?_)
    · rcases List.mem_append.mp (n2 a z) with y | y
      · exact na.1 y
      · exact na.2 y
    · rcases List.mem_cons.mp hb with rfl | hb
      · exact List.mem_cons_self
      · exact List.mem_cons_of_mem _ (n2 b hb)
  have wt' : ∀ u, Own K R (upd H a u) ot vt ft := fun u => Own.keep (Same.refl _) _ _ _ (fun b hb => upd_ne (show b ≠ a from fun z => na.2 (by rw [← z]; exact hb))) wt
  rcases hh with ⟨rfl, ks, ha, wd⟩ | ⟨rfl, ks, ha, wd⟩
  · rcases key_at r.sub wk hk with ⟨_, kk, b, rfl, rfl, hb⟩ | ⟨e, _⟩
    · have wd' : OwnT K R (upd H a (.dT (putK ks kk vt))) kvs ks g := OwnT.keep (Same.refl _) _ _ _ (fun c hc => upd_ne (show c ≠ a from fun z => na.1 (by rw [← z]; exact hc))) wd
      obtain ⟨g', gs, h4, h5, h6⟩ := putT_own (k := kk) (wt' _) wd' hn
      have hlen : ks.length = kvs.length := by
        have := congrArg List.length wd.keys
        simpa using this.symm
      exact ⟨_, .inr ⟨ks, kk, b, ha, rfl, hb, by rw [hlen]; exact hl, rfl⟩, fin h5 h6 ⟨kPut_nodup hn, a, g', rfl, rfl, .inl ⟨rfl, _, upd_same, h4⟩⟩⟩
    · cases e
  · rcases key_at r.sub wk hk with ⟨e, _⟩ | ⟨_, kk, rfl, rfl⟩
    · cases e
    · have wd' : OwnK K R (upd H a (.dK (putK ks kk vt))) kvs ks g := OwnK.keep (Same.refl _) _ _ _ (fun c hc => upd_ne (show c ≠ a from fun z => na.1 (by rw [← z]; exact hc))) wd
      obtain ⟨g', gs, h4, h5, h6⟩ := putK_own (k := kk) (wt' _) wd' hn
      have hlen : ks.length = kvs.length := by
        have := congrArg List.length wd.keys
        simpa using this.symm
      exact ⟨_, .inl ⟨ks, kk, ha, rfl, by rw [hlen]; exact hl, rfl⟩, fin h5 h6 ⟨kPut_nodup hn, a, g', rfl, rfl, .inr ⟨rfl, _, upd_same, h4⟩⟩⟩
end
section
variable {X : Cx} {kp : Nat → Prop} {W : WX} {e i₂ : Expr} {x : Str} {pos apos cpos px : Pos} {te : TW} {tp : TP} {tr : TR}
/-- name.append(e) -/
theorem ls_app (i : Nat) (he : LO X e te) (hN : X.N[i]? = some x := by rfl) (hv : Vis X.env.scope x := by first | exact Or.inl rfl | exact Or.inr (Or.inl rfl) | exact Or.inr (Or.inr rfl)) (hd : (x == ("__debug__" : Str)) = false := by decide) (hcd : (x == ("__classdict__" : Str)) = false := by decide)
    (hst : starEach [e] X.env = (false, eval e X.env) :: starEach [] X.env := by rfl) (hbase : attributeBase (.Name x px) "append" X.env (eval (.Name x px) X.env) = eval (.Name x px) X.env := by rfl) (hline : (apos.endLine == cpos.line) = true := by rfl) (hfew : (((backTo cpos (starEach [e] X.env)).all (fun x => !x.1) && (backToKw cpos (keywordEach [] X.env)).all (fun x => x.1.isSome)) && decide (([e] : List Expr).length + ([] : List Keyword).length + (if ([] : List Keyword).isEmpty then 0 else 1) < 30)) = true := by rfl)
    (hs : swapsWith (.Call (.Attribute (.Name x px) "append" apos) [e] [] cpos) none pos.line X.env = pure false := by rfl) :
    LS X kp W (.Expr (.Call (.Attribute (.Name x px) "append" apos) [e] [] cpos) pos) (sApp i te) :=
  ps_weak (ps_expr (pe_bm PySem.F.plainAttrs_list PySem.F.slot_list_append PySem.F.type_list_append mt_append (pe_var hN hv hd hcd) (pa_cons he pa_nil hst) hbase hfew hline hst) hs) fun D sgV H ⟨B, R, sg, Dp, r, ht, en⟩ => by
    obtain ⟨hl, ht⟩ := ht
    obtain ⟨fp, sl⟩ := r.slots
    obtain ⟨a, vs, hv, ha⟩ := isLst_at sl hl
    refine ⟨.ref a, hv, tyL ha, B, R, sg, _, r, ht, fun v H1 R1 o sg1 s1 r1 hq => ?_⟩
    split at hq
    · rename_i os e
      obtain ⟨hz, hq⟩ := hq
      obtain ⟨fp1, sl1⟩ := r1.slots
      obtain ⟨v2, f, hv2, w, _⟩ := sl1.get e
      rw [hv] at hv2
      cases hv2
      obtain ⟨us, hu, hlen, r2⟩ := r1.app (i := i) (π := []) ⟨_, _, hv, e, rfl, rfl⟩
      rw [put_nil e] at r2
      exact ⟨a, us, v, rfl, rfl, hu, by rw [hlen]; exact hz, en.nx sgV _ R1 _ s1 r2 Kp.refl hq⟩
    · exact hq.elim
end
end Pu
end
section
open PySem PySem.W PySem.Spec PyProof.Rows L2
set_option Elab.async false
set_option maxRecDepth 100000
set_option maxHeartbeats 4000000
namespace Pu
variable {K : PySem.W.Frag}
/-! ### plain values of two places -/
/-- two ints, under c, give a plain value -/
def pZ (c : Int → Int → Prop) (g : Int → Int → D) : P2 := fun a b Q => ∃ i j, a = .ro (.int i) ∧ b = .ro (.int j) ∧ c i j ∧ Q (.ro (g i j))
def pZ0 (g : Int → Int → D) : P2 := fun a b Q => ∃ i j, a = .ro (.int i) ∧ b = .ro (.int j) ∧ Q (.ro (g i j))
theorem Own.int {R H : Hp} {x : V} {i : Int} {f : List Addr} (w : Own K R H (.ro (.int i)) x f) : x = .int i := w.2
theorem Own.str {R H : Hp} {x : V} {i : Str} {f : List Addr} (w : Own K R H (.ro (.str i)) x f) : x = .str i := w.2
theorem v2_rI {c : Int → Int → Prop} {g : Int → Int → V} {g' : Int → Int → D} (h : ∀ i j R, Ro K R (g' i j) (g i j)) : V2 K (rI c g) (pZ c g') := fun R H x y o1 o2 f1 f2 Qp Q s w1 w2 ⟨i, j, e1, e2, hc, q⟩ k => by
  subst e1 e2
  exact ⟨i, j, w1.int, w2.int, hc, k _ H R _ [] (Quiet.refl s) (by exact ⟨rfl, h i j R⟩) q⟩
theorem v2_rI0 {g : Int → Int → V} {g' : Int → Int → D} (h : ∀ i j R, Ro K R (g' i j) (g i j)) : V2 K (rI0 g) (pZ0 g') := fun R H x y o1 o2 f1 f2 Qp Q s w1 w2 ⟨i, j, e1, e2, q⟩ k => by
  subst e1 e2
  exact ⟨i, j, w1.int, w2.int, k _ H R _ [] (Quiet.refl s) (by exact ⟨rfl, h i j R⟩) q⟩
def pAdd : P2 := pZ0 fun i j => .int (i + j)
def pSub : P2 := pZ0 fun i j => .int (i - j)
def pMul : P2 := pZ CMul fun i j => .int (i * j)
def pDiv : P2 := pZ CDiv fun i j => .int (i / j)
def pMod : P2 := pZ (fun _ j => 0 < j) fun i j => .int (i % j)
def pPow : P2 := pZ CPow fun i j => .int (i ^ j.toNat)
def pLt : P2 := pZ0 fun i j => .bl (decide (i < j))
def pLe : P2 := pZ0 fun i j => .bl (decide (i ≤ j))
def pGt : P2 := pZ0 fun i j => .bl (decide (j < i))
def pGe : P2 := pZ0 fun i j => .bl (decide (j ≤ i))
theorem v_add : V2 K (rI0 fun i j => .int (i + j)) pAdd := v2_rI0 fun _ _ _ => rfl
theorem v_sub : V2 K (rI0 fun i j => .int (i - j)) pSub := v2_rI0 fun _ _ _ => rfl
theorem v_mul : V2 K (rI CMul fun i j => .int (i * j)) pMul := v2_rI fun _ _ _ => rfl
theorem v_div : V2 K (rI CDiv fun i j => .int (i / j)) pDiv := v2_rI fun _ _ _ => rfl
theorem v_mod : V2 K (rI (fun _ j => 0 < j) fun i j => .int (i % j)) pMod := v2_rI fun _ _ _ => rfl
theorem v_pow : V2 K (rI CPow fun i j => .int (i ^ j.toNat)) pPow := v2_rI fun _ _ _ => rfl
theorem v_lt : V2 K (rI0 fun i j => .bl (decide (i < j))) pLt := v2_rI0 fun _ _ _ => rfl
theorem v_le : V2 K (rI0 fun i j => .bl (decide (i ≤ j))) pLe := v2_rI0 fun _ _ _ => rfl
theorem v_gt : V2 K (rI0 fun i j => .bl (decide (j < i))) pGt := v2_rI0 fun _ _ _ => rfl
theorem v_ge : V2 K (rI0 fun i j => .bl (decide (j ≤ i))) pGe := v2_rI0 fun _ _ _ => rfl
/-- minus -/
def pNeg : P1 := fun a Q => ∃ i, a = .ro (.int i) ∧ Q (.ro (.int (-i)))
theorem v_neg : V1 K (rU fun i => .int (-i)) pNeg := fun R H x o1 f1 Qp Q s w1 ⟨i, e1, q⟩ k => by
  subst e1
  exact ⟨i, w1.int, k _ H R _ [] (Quiet.refl s) (by exact ⟨rfl, rfl⟩) q⟩
/-- texts put together -/
def pAddS : P2 := fun a b Q => ∃ i j, a = .ro (.str i) ∧ b = .ro (.str j) ∧ i.length + j.length ≤ sizeLine ∧ Q (.ro (.str (i ++ j)))
theorem v_addS : V2 K (fun x y H Q => ∃ i j, x = .str i ∧ y = .str j ∧ i.length + j.length ≤ sizeLine ∧ Q (.str (i ++ j)) H) pAddS := fun R H x y o1 o2 f1 f2 Qp Q s w1 w2 ⟨i, j, e1, e2, hc, q⟩ k => by
  subst e1 e2
  exact ⟨i, j, w1.str, w2.str, hc, k _ H R _ [] (Quiet.refl s) (by exact ⟨rfl, rfl⟩) q⟩
/-- a sign in a text -/
def pInS (n : Bool) : P2 := fun a b Q => ∃ (c : Nat) (z : Str), a = .ro (.str ⟨#[c]⟩) ∧ b = .ro (.str z) ∧ Q (.ro (.bl (n.xor (decide (c ∈ z.cps.toList)))))
theorem v_inS : V2 K (fun x y H Q => ∃ (c : Nat) (z : Str), x = .str ⟨#[c]⟩ ∧ y = .str z ∧ Q (.bl (decide (c ∈ z.cps.toList))) H) (pInS false) := fun R H x y o1 o2 f1 f2 Qp Q s w1 w2 ⟨c, z, e1, e2, q⟩ k => by
  subst e1 e2
  rw [Bool.false_xor] at q
  exact ⟨c, z, w1.str, w2.str, k _ H R _ [] (Quiet.refl s) (by exact ⟨rfl, rfl⟩) q⟩
theorem v_notInS : V2 K (fun x y H Q => ∃ (c : Nat) (z : Str), x = .str ⟨#[c]⟩ ∧ y = .str z ∧ Q (.bl (!decide (c ∈ z.cps.toList))) H) (pInS true) := fun R H x y o1 o2 f1 f2 Qp Q s w1 w2 ⟨c, z, e1, e2, q⟩ k => by
  subst e1 e2
  rw [Bool.true_xor] at q
  exact ⟨c, z, w1.str, w2.str, k _ H R _ [] (Quiet.refl s) (by exact ⟨rfl, rfl⟩) q⟩
/-! ### deep comparison -/
mutual
def D.py : D → PyData
  | .non => .none | .bl b => .bool b | .int i => .int i | .str x => .str x
  | .lst xs => .list (D.pyL xs) | .tup xs => .tuple (D.pyL xs)
  | .ty _ => .none | .dct _ _ => .dict [] | .ins _ _ => .none
def D.pyL : List D → List PyData
  | [] => []
  | d :: r => d.py :: D.pyL r
end
mutual
/-- no type, dict or instance within -/
def D.plain : D → Bool
  | .non => true | .bl _ => true | .int _ => true | .str _ => true
  | .lst xs => D.plainL xs | .tup xs => D.plainL xs
  | .ty _ => false | .dct _ _ => false | .ins _ _ => false
def D.plainL : List D → Bool
  | [] => true
  | d :: r => d.plain && D.plainL r
end
mutual
theorem Ro.dp {R H : Hp} (s : Same R H) : ∀ (d : D) (v : V), Ro K R d v → d.plain = true → Dp K H v d.py
  | .non, _, h, _ => by cases h; exact .non
  | .bl _, _, h, _ => by cases h; exact .bl _
  | .int _, _, h, _ => by cases h; exact .int _
  | .str _, _, h, _ => by cases h; exact .str _
  | .ty _, _, _, p => by cases p
  | .dct _ _, _, _, p => by cases p
  | .ins _ _, _, _, p => by cases p
  | .lst xs, _, h, p => by
    obtain ⟨a, vs, rfl, h2, h3⟩ := h
    exact .lst (s.seq h2) (RoL.dp s xs vs h3 p)
  | .tup xs, _, h, p => by
    obtain ⟨a, vs, rfl, h2, h3⟩ := h
    exact .tup (.inl (.inl (s _ _ h2))) (RoL.dp s xs vs h3 p)
theorem RoL.dp {R H : Hp} (s : Same R H) : ∀ (ds : List D) (vs : List V), RoL K R ds vs → D.plainL ds = true → DpAll K H vs (D.pyL ds)
  | [], _, h, _ => by cases h; exact .nil
  | d :: r, _, h, p => by
    obtain ⟨v, r', rfl, h2, h3⟩ := h
    have ⟨p1, p2⟩ := Bool.and_eq_true_iff.mp p
    exact .cons (Ro.dp s d v h2 p1) (RoL.dp s r r' h3 p2)
end
mutual
theorem Own.dp {R H : Hp} (s : Same R H) : ∀ (o : O) (v : V) (f : List Addr), Own K R H o v f → o.d.plain = true → Dp K H v o.d.py
  | .ro d, v, _, h, p => Ro.dp s d v h.2 p
  | .lst xs, _, _, h, p => by
    obtain ⟨a, vs, f, rfl, _, h2, h3⟩ := h
    exact .lst (.inl (.inl h2)) (OwnL.dp s xs vs f h3 p)
  | .dct _ _, _, _, _, p => by cases p
  | .ins _ _, _, _, _, p => by cases p
theorem OwnL.dp {R H : Hp} (s : Same R H) : ∀ (os : List O) (vs : List V) (f : List Addr), OwnL K R H os vs f → D.plainL (O.ds os) = true → DpAll K H vs (D.pyL (O.ds os))
  | [], _, _, h, _ => by cases h.1; exact .nil
  | d :: r, _, _, h, p => by
    obtain ⟨v, r', f1, f2, rfl, _, h2, h3⟩ := h
    have ⟨p1, p2⟩ := Bool.and_eq_true_iff.mp p
    exact .cons (Own.dp s d v f1 h2 p1) (OwnL.dp s r r' f2 h3 p2)
end
/-- a value that == may read -/
def D.fine (d : D) : Bool := d.plain && SeqAt.shaped d.py
def D.eqb (a b : D) : Bool := PyData.eqv a.py b.py
def pEq (n : Bool) : P2 := fun a b Q => a.d.fine = true ∧ b.d.fine = true ∧ Q (.ro (.bl (n.xor (a.d.eqb b.d))))
theorem v_eq : V2 K (rEqD K) (pEq false) := fun R H x y o1 o2 f1 f2 Qp Q s w1 w2 ⟨h1, h2, q⟩ k => by
  have ⟨p1, p2⟩ := Bool.and_eq_true_iff.mp h1
  have ⟨p3, p4⟩ := Bool.and_eq_true_iff.mp h2
  rw [Bool.false_xor] at q
  exact ⟨_, _, Own.dp s _ _ _ w1 p1, Own.dp s _ _ _ w2 p3, p2, p4, k _ H R _ [] (Quiet.refl s) (by exact ⟨rfl, rfl⟩) q⟩
theorem v_ne : V2 K (rNeD K) (pEq true) := fun R H x y o1 o2 f1 f2 Qp Q s w1 w2 ⟨h1, h2, q⟩ k => by
  have ⟨p1, p2⟩ := Bool.and_eq_true_iff.mp h1
  have ⟨p3, p4⟩ := Bool.and_eq_true_iff.mp h2
  rw [Bool.true_xor] at q
  exact ⟨_, _, Own.dp s _ _ _ w1 p1, Own.dp s _ _ _ w2 p3, p2, p4, k _ H R _ [] (Quiet.refl s) (by exact ⟨rfl, rfl⟩) q⟩
/-- x in list -/
def pIn (n : Bool) : P2 := fun a b Q => ∃ ds, b.d = .lst ds ∧ a.d.fine = true ∧ b.d.fine = true ∧ Q (.ro (.bl (n.xor (ds.any fun z => z.eqb a.d))))
theorem any_py (d : D) : ∀ ds : List D, ((D.pyL ds).any fun z => PyData.eqv z d.py) = ds.any fun z => z.eqb d
  | [] => rfl
  | z :: r => by
    show (PyData.eqv z.py d.py || (D.pyL r).any _) = (z.eqb d || r.any _)
    rw [any_py d r]
    rfl
theorem v_in : V2 K (rInD K) (pIn false) := fun R H x y o1 o2 f1 f2 Qp Q s w1 w2 ⟨ds, e, h1, h2, q⟩ k => by
  have ⟨p1, p2⟩ := Bool.and_eq_true_iff.mp h1
  have ⟨p3, p4⟩ := Bool.and_eq_true_iff.mp h2
  rw [Bool.false_xor] at q
  have w := Own.dp s _ _ _ w2 p3
  rw [e] at w p4
  refine ⟨_, D.pyL ds, Own.dp s _ _ _ w1 p1, w, p2, p4, k _ H R _ [] (Quiet.refl s) (by refine ⟨rfl, ?_⟩; rw [any_py]; rfl) q⟩
theorem v_notIn : V2 K (rNotInD K) (pIn true) := fun R H x y o1 o2 f1 f2 Qp Q s w1 w2 ⟨ds, e, h1, h2, q⟩ k => by
  have ⟨p1, p2⟩ := Bool.and_eq_true_iff.mp h1
  have ⟨p3, p4⟩ := Bool.and_eq_true_iff.mp h2
  rw [Bool.true_xor] at q
  have w := Own.dp s _ _ _ w2 p3
  rw [e] at w p4
  refine ⟨_, D.pyL ds, Own.dp s _ _ _ w1 p1, w, p2, p4, k _ H R _ [] (Quiet.refl s) (by refine ⟨rfl, ?_⟩; rw [any_py]; rfl) q⟩
/-! ### in a flat tuple or list -/
def D.flat : D → Bool
  | .non => true | .bl _ => true | .int _ => true | .str _ => true
  | _ => false
/-- == of flat values (True == 1) -/
def D.feq : D → D → Bool
  | .non, .non => true
  | .bl a, .bl b => a == b
  | .int a, .int b => a == b
  | .str a, .str b => a == b
  | .bl a, .int b => (if a then 1 else 0) == b
  | .int a, .bl b => a == (if b then 1 else 0)
  | _, _ => false
end Pu
end
section
open PySem PySem.W PySem.Spec PyProof.Rows L2
set_option Elab.async false
set_option maxRecDepth 100000
set_option maxHeartbeats 4000000
namespace Pu
variable {K : PySem.W.Frag}
theorem OwE.get {R H : Hp} : ∀ {os : List O} {vs : List V}, OwE K R H os vs → ∀ {j : Nat} {o : O}, os[j]? = some o → ∃ v f, vs[j]? = some v ∧ Own K R H o v f
  | [], _, _, j, o, h => by cases h
  | o :: os, _, w, 0, o', h => by
    obtain ⟨v, r, f, rfl, w1, _⟩ := w
    cases h
    exact ⟨v, f, rfl, w1⟩
  | o :: os, _, w, j + 1, o', h => by
    obtain ⟨v, r, f, rfl, _, w2⟩ := w
    exact OwE.get w2 h
theorem OwE.len {R H : Hp} : ∀ {os : List O} {vs : List V}, OwE K R H os vs → vs.length = os.length
  | [], _, w => by cases w; rfl
  | o :: os, _, w => by
    obtain ⟨v, r, f, rfl, _, w2⟩ := w
    show r.length + 1 = os.length + 1
    rw [w2.len]
/-! ### lists and tuples -/
def O.seq : O → Option (List O)
  | .lst os => some os
  | .ro (.lst ds) => some (ds.map .ro)
  | .ro (.tup ds) => some (ds.map .ro)
  | _ => none
theorem OwE.e3 {R H : Hp} {os : List O} {vs : List V} {f : List Addr} (h : OwnL K R H os vs f) : OwE K R H os vs := OwL.e h
theorem own_seq {R H : Hp} {o : O} {v : V} {f : List Addr} {os : List O} (s : Same R H) (w : Own K R H o v f) (h : o.seq = some os) : ∃ a vs, v = .ref a ∧ OwE K R H os vs ∧ ((SqL K H a vs ∧ ∃ ds, o.d = .lst ds) ∨ (SqT K H a vs ∧ ∃ ds, o = .ro (.tup ds) ∧ R a = some (.tup vs))) := by
  cases o with
  | lst xs =>
    cases h
    obtain ⟨a, vs, g, rfl, _, h2, h3⟩ := w
    exact ⟨a, vs, rfl, OwE.e3 h3, .inl ⟨.inl (.inl h2), _, rfl⟩⟩
  | ro d =>
    cases d with
    | lst ds =>
      cases h
      obtain ⟨_, a, vs, rfl, h2, h3⟩ := w
      exact ⟨a, vs, rfl, OwE.ro h3, .inl ⟨s.seq h2, _, rfl⟩⟩
    | tup ds =>
      cases h
      obtain ⟨_, a, vs, rfl, h2, h3⟩ := w
      exact ⟨a, vs, rfl, OwE.ro h3, .inr ⟨.inl (.inl (s _ _ h2)), _, rfl, h2⟩⟩
    | _ => cases h
  | dct _ _ => cases h
  | ins _ _ => cases h
def pIx : P2 := fun a b Q => ∃ i, b = .ro (.int i) ∧ ((∃ os o, a.seq = some os ∧ atI os i = some o ∧ Q o) ∨ ∃ z c, a = .ro (.str z) ∧ z.length ≤ sizeLine ∧ atI z.cps.toList i = some c ∧ Q (.ro (.str ⟨#[c]⟩)))
theorem atI_own {R H : Hp} {os : List O} {vs : List V} {i : Int} {o : O} (w : OwE K R H os vs) (h : atI os i = some o) : ∃ v f, atI vs i = some v ∧ Own K R H o v f := by
  unfold atI at h ⊢
  rw [w.len]
  cases e : ixN os.length i with
  | none => rw [e] at h; cases h
  | some j =>
    rw [e] at h
    exact w.get h
theorem v_ix : V2 K (rIx K) pIx := fun R H x y o1 o2 f1 f2 Qp Q s w1 w2 ⟨i, e, h⟩ k => by
  subst e
  have ey := w2.int
  rcases h with ⟨os, o, hs, ha, q⟩ | ⟨z, c, rfl, hz, ha, q⟩
  · obtain ⟨a, vs, rfl, we, h⟩ := own_seq s w1 hs
    obtain ⟨v, f, hv, wv⟩ := atI_own we ha
    have fin : Q v H := k v H R o f (Quiet.refl s) wv q
    rcases h with ⟨h, _⟩ | ⟨h, _⟩
    · exact .inl ⟨a, vs, i, v, rfl, ey, h, hv, fin⟩
    · exact .inr (.inl ⟨a, vs, i, v, rfl, ey, h, hv, fin⟩)
  · exact .inr (.inr ⟨z, i, c, w1.str, ey, hz, ha, k _ H R _ [] (Quiet.refl s) (by exact ⟨rfl, rfl⟩) q⟩)
/-! ### calls of the builtins -/
theorem ow1 {R H : Hp} {a : O} {vs : List V} (w : OwE K R H [a] vs) : ∃ v f, vs = [v] ∧ Own K R H a v f := by
  obtain ⟨v, r, f, rfl, w1, w2⟩ := w
  cases w2
  exact ⟨v, f, rfl, w1⟩
theorem ow2 {R H : Hp} {a b : O} {vs : List V} (w : OwE K R H [a, b] vs) : ∃ v u f g, vs = [v, u] ∧ Own K R H a v f ∧ Own K R H b u g := by
  obtain ⟨v, r, f, rfl, w1, w2⟩ := w
  obtain ⟨u, g, rfl, w3⟩ := ow1 w2
  exact ⟨v, u, f, g, rfl, w1, w3⟩
def pLen : PN := fun os Q => ∃ a, os = [a] ∧ ((∃ xs, a.seq = some xs ∧ Q (.ro (.int xs.length))) ∨ ∃ z, a = .ro (.str z) ∧ z.length ≤ sizeLine ∧ Q (.ro (.int z.length)))
theorem v_len : VN K (fun xs H Q => ∃ x n, xs = [x] ∧ LenV K x H n ∧ Q (.int n) H) pLen := fun R H vs os Qp Q s w ⟨a, e, h⟩ k => by
  subst e
  obtain ⟨v, f, rfl, w1⟩ := ow1 w
  rcases h with ⟨xs, hs, q⟩ | ⟨z, rfl, hz, q⟩
  · obtain ⟨p, vs, rfl, we, h⟩ := own_seq s w1 hs
    refine ⟨_, vs.length, rfl, ?_, k _ H R _ [] (Quiet.refl s) (by refine ⟨rfl, ?_⟩; rw [we.len]; rfl) q⟩
    rcases h with ⟨h, _⟩ | ⟨h, _⟩
    · exact .inl ⟨vs, h, rfl⟩
    · exact .inr ⟨vs, h, rfl⟩
  · rw [w1.str]
    exact ⟨_, z.length, rfl, ⟨hz, rfl⟩, k _ H R _ [] (Quiet.refl s) (by exact ⟨rfl, rfl⟩) q⟩
def pF1 (g : Int → Int) : PN := fun os Q => ∃ i, os = [.ro (.int i)] ∧ Q (.ro (.int (g i)))
def pF2 (g : Int → Int → Int) : PN := fun os Q => ∃ i j, os = [.ro (.int i), .ro (.int j)] ∧ Q (.ro (.int (g i j)))
theorem v_f1 {g : Int → Int} : VN K (fun xs H Q => ∃ i, xs = [.int i] ∧ Q (.int (g i)) H) (pF1 g) := fun R H vs os Qp Q s w ⟨i, e, q⟩ k => by
  subst e
  obtain ⟨v, f, rfl, w1⟩ := ow1 w
  rw [w1.int]
  exact ⟨i, rfl, k _ H R _ [] (Quiet.refl s) (by exact ⟨rfl, rfl⟩) q⟩
theorem v_f2 {g : Int → Int → Int} : VN K (fun xs H Q => ∃ i j, xs = [.int i, .int j] ∧ Q (.int (g i j)) H) (pF2 g) := fun R H vs os Qp Q s w ⟨i, j, e, q⟩ k => by
  subst e
  obtain ⟨v, u, f, g, rfl, w1, w2⟩ := ow2 w
  rw [w1.int, w2.int]
  exact ⟨i, j, rfl, k _ H R _ [] (Quiet.refl s) (by exact ⟨rfl, rfl⟩) q⟩
def pAbs : PN := pF1 fun i => if i < 0 then -i else i
def pMax2 : PN := pF2 fun i j => if j > i then j else i
def pMin2 : PN := pF2 fun i j => if j < i then j else i
def pInt1 : PN := fun os Q => (∃ i, os = [.ro (.int i)] ∧ Q (.ro (.int i))) ∨ ∃ b, os = [.ro (.bl b)] ∧ Q (.ro (.int (if b then 1 else 0)))
theorem v_int1 : VN K (fun xs H Q => (∃ i, xs = [.int i] ∧ Q (.int i) H) ∨ ∃ k, xs = [.bl k] ∧ Q (.int (if k then 1 else 0)) H) pInt1 := fun R H vs os Qp Q s w h k => by
  rcases h with ⟨i, e, q⟩ | ⟨b, e, q⟩
  · subst e
    obtain ⟨v, f, rfl, w1⟩ := ow1 w
    rw [w1.int]
    exact .inl ⟨i, rfl, k _ H R _ [] (Quiet.refl s) (by exact ⟨rfl, rfl⟩) q⟩
  · subst e
    obtain ⟨v, f, rfl, w1⟩ := ow1 w
    rw [show v = V.bl b from w1.2]
    exact .inr ⟨b, rfl, k _ H R _ [] (Quiet.refl s) (by exact ⟨rfl, rfl⟩) q⟩
/-! sum -/
theorem own_vals {R H : Hp} (g : Int → D) (e : ∀ o i, O.d o = g i → ∃ d, o = .ro d ∧ d = g i) (g' : Int → V) (h' : ∀ i v, Ro K R (g i) v → v = g' i) : ∀ {os : List O} {vs : List V} {ns : List Int}, OwE K R H os vs → O.ds os = ns.map g → vs = ns.map g'
  | [], _, [], w, _ => by cases w; rfl
  | [], _, _ :: _, w, h => by cases h
  | _ :: _, _, [], w, h => by cases h
  | o :: os, _, n :: ns, w, h => by
    obtain ⟨v, r, f, rfl, w1, w2⟩ := w
    have h1 : o.d = g n := by injection h
    have h2 : O.ds os = ns.map g := by injection h
    obtain ⟨d, rfl, rfl⟩ := e o n h1
    rw [h' n v w1.2, own_vals g e g' h' w2 h2]
    rfl
theorem dInt {o : O} {i : Int} (h : o.d = .int i) : ∃ d, o = .ro d ∧ d = .int i := by
  cases o with
  | ro d => exact ⟨d, rfl, h⟩
  | _ => cases h
theorem dStr {o : O} {i : Str} (h : o.d = .str i) : ∃ d, o = .ro d ∧ d = .str i := by
  cases o with
  | ro d => exact ⟨d, rfl, h⟩
  | _ => cases h
theorem ds_ro : ∀ ds : List D, O.ds (ds.map O.ro) = ds
  | [] => rfl
  | d :: r => by show d :: O.ds (r.map O.ro) = _; rw [ds_ro r]
theorem seqL {o : O} {ds : List D} (h : o.d = .lst ds) : ∃ os, o.seq = some os ∧ O.ds os = ds ∧ ∀ ts, o ≠ .ro (.tup ts) := by
  cases o with
  | lst os => exact ⟨os, rfl, by injection h, fun _ z => by cases z⟩
  | ro d => cases (show d = .lst ds from h); exact ⟨_, rfl, ds_ro ds, fun _ z => by cases z⟩
  | dct _ _ => cases h
  | ins _ _ => cases h
theorem own_ints {R H : Hp} {o : O} {v : V} {f : List Addr} {ns : List Int} (s : Same R H) (w : Own K R H o v f) (h : o.d = .lst (ns.map D.int)) : ∃ a, v = .ref a ∧ SqL K H a (ns.map V.int) := by
  obtain ⟨os, hs, hd, hn⟩ := seqL h
  obtain ⟨a, vs, rfl, we, h⟩ := own_seq s w hs
  have ev : vs = ns.map V.int := own_vals D.int (fun o i z => dInt z) V.int (fun i v z => z) we hd
  subst ev
  rcases h with ⟨h, _⟩ | ⟨_, ts, z, _⟩
  · exact ⟨a, rfl, h⟩
  · exact absurd z (hn ts)
def pSum : PN := fun os Q => ∃ (a : O) (ns : List Int), os = [a] ∧ a.d = .lst (ns.map D.int) ∧ Q (.ro (.int ns.sum))
theorem v_sum : VN K (rSum K) pSum := fun R H vs os Qp Q s w ⟨a, ns, e, h, q⟩ k => by
  subst e
  obtain ⟨v, f, rfl, w1⟩ := ow1 w
  obtain ⟨p, rfl, h2⟩ := own_ints s w1 h
  exact ⟨p, ns, rfl, h2, k _ H R _ [] (Quiet.refl s) (by exact ⟨rfl, rfl⟩) q⟩
/-! list(x), tuple(x) -/
def O.roSeq (o : O) (ds : List D) : Prop := o.seq = some (ds.map .ro)
def pList : PN := fun os Q => ∃ (a : O) (ds : List D), os = [a] ∧ a.seq = some (ds.map .ro) ∧ Q (.ro (.lst ds))
theorem v_list : VN K (fun xs H Q => ∃ p ys, xs = [.ref p] ∧ (SqL K H p ys ∨ SqT K H p ys) ∧ ∀ l, H l = none → Q (.ref l) (upd H l (.lst ys))) pList := fun R H vs os Qp Q s w ⟨a, ds, e, h, q⟩ k => by
  subst e
  obtain ⟨v, f, rfl, w1⟩ := ow1 w
  obtain ⟨p, vs, rfl, we, h2⟩ := own_seq s w1 h
  refine ⟨p, vs, rfl, ?_, fun l hl => ?_⟩
  · rcases h2 with ⟨h2, _⟩ | ⟨h2, _⟩
    · exact .inl h2
    · exact .inr h2
  · have ⟨n1, n2⟩ := new_lst s we.toRo hl
    exact k _ _ _ _ [] n1 (by exact ⟨rfl, n2⟩) q
def pTuple : PN := fun os Q => ∃ (a : O) (ds : List D), os = [a] ∧ a.seq = some (ds.map .ro) ∧ Q (.ro (.tup ds))
theorem v_tuple : VN K (fun xs H Q => ∃ p ys, xs = [.ref p] ∧ ((SqL K H p ys ∧ ∀ l, H l = none → Q (.ref l) (upd H l (.tup ys))) ∨ (SqT K H p ys ∧ Q (.ref p) H))) pTuple := fun R H vs os Qp Q s w ⟨a, ds, e, h, q⟩ k => by
  subst e
  obtain ⟨v, f, rfl, w1⟩ := ow1 w
  obtain ⟨p, vs, rfl, we, h2⟩ := own_seq s w1 h
  refine ⟨p, vs, rfl, ?_⟩
  rcases h2 with ⟨h2, _⟩ | ⟨h2, ts, rfl, h3⟩
  · refine .inl ⟨h2, fun l hl => ?_⟩
    have ⟨n1, n2⟩ := new_tup s we.toRo hl
    exact k _ _ _ _ [] n1 (by exact ⟨rfl, n2⟩) q
  · exact .inr ⟨h2, k _ H R _ [] (Quiet.refl s) (by exact ⟨rfl, _, _, rfl, h3, we.toRo⟩) q⟩
section
variable {X : Cx} {a b c : Expr} {es : List Expr} {pos : Pos}
/-- list(x), its own -/
def wList (t : TAR) : TW := fun sg Q => t sg fun os => ∃ (a : O) (ds : List D), os = [a] ∧ a.seq = some (ds.map .ro) ∧ Q (.lst (ds.map .ro)) sg
def wListM (t : TAM) : TW := fun sg Q => t sg fun os sg1 => ∃ (a : D) (ds : List D), os = [a] ∧ (O.ro a).seq = some (ds.map .ro) ∧ Q (.lst (ds.map .ro)) sg1
end
/-! in a flat tuple or list -/
theorem feq_V : ∀ {R : Hp} {a b : D} {x y : V}, Ro K R a x → Ro K R b y → a.flat = true → b.flat = true → flatV x = true ∧ flatV y = true ∧ eqV x y = D.feq a b := by
  intro R a b x y h1 h2 f1 f2
  cases a <;> first | (cases f1; done) | (cases h1; cases b <;> first | (cases f2; done) | (cases h2; exact ⟨rfl, rfl, rfl⟩))
def pInF (n : Bool) : P2 := fun a b Q => ∃ (x : D) (ds : List D), a = .ro x ∧ b.seq = some (ds.map .ro) ∧ x.flat = true ∧ ds.all D.flat = true ∧ Q (.ro (.bl (n.xor (ds.any fun z => z.feq x))))
theorem any_V {R : Hp} {x : D} {v : V} (h : Ro K R x v) (hf : x.flat = true) : ∀ {ds : List D} {vs : List V}, RoL K R ds vs → ds.all D.flat = true → vs.all flatV = true ∧ inV v vs = ds.any fun z => z.feq x
  | [], _, w, _ => by cases w; exact ⟨rfl, rfl⟩
  | d :: r, _, w, hh => by
    obtain ⟨u, us, rfl, w1, w2⟩ := w
    have ⟨p1, p2⟩ := Bool.and_eq_true_iff.mp hh
    obtain ⟨q1, q2⟩ := any_V h hf w2 p2
    obtain ⟨g1, g2, g3⟩ := feq_V w1 h p1 hf
    refine ⟨Bool.and_eq_true_iff.mpr ⟨g1, q1⟩, ?_⟩
    show (eqV u v || inV v us) = (d.feq x || _)
    rw [g3, q2]
theorem v_inF (n : Bool) : V2 K (rIn K n) (pInF n) := fun R H x y o1 o2 f1 f2 Qp Q s w1 w2 ⟨d, ds, e, hs, h1, h2, q⟩ k => by
  subst e
  obtain ⟨p, vs, rfl, we, h⟩ := own_seq s w2 hs
  obtain ⟨g1, g2⟩ := any_V w1.2 h1 we.toRo h2
  obtain ⟨g3, _, _⟩ := feq_V w1.2 w1.2 h1 h1
  refine ⟨p, vs, rfl, ?_, g3, g1, k _ H R _ [] (Quiet.refl s) (by refine ⟨rfl, ?_⟩; rw [g2]; cases n <;> simp [Ro]) q⟩
  rcases h with ⟨h, _⟩ | ⟨h, _⟩
  · exact .inl h
  · exact .inr h
/-- x is None, x is not None -/
def O.nonB : O → Bool
  | .ro .non => true
  | _ => false
def pIsN (n : Bool) : P2 := fun a b Q => b = .ro .non ∧ Q (.ro (.bl (n.xor a.nonB)))
theorem nonB_iff {R H : Hp} {o : O} {v : V} {f : List Addr} (w : Own K R H o v f) : decide (v = .non) = o.nonB := by
  cases o with
  | ro d =>
    cases d with
    | non => cases w.2; rfl
    | bl _ => cases w.2; rfl
    | int _ => cases w.2; rfl
    | str _ => cases w.2; rfl
    | ty _ => cases w.2; rfl
    | lst _ => obtain ⟨_, a, vs, rfl, _⟩ := w; rfl
    | tup _ => obtain ⟨_, a, vs, rfl, _⟩ := w; rfl
    | dct _ _ => obtain ⟨_, a, rfl, _⟩ := w; rfl
    | ins _ _ => obtain ⟨_, a, dx, fv, rfl, _⟩ := w; rfl
  | lst _ => obtain ⟨a, vs, g, rfl, _⟩ := w; rfl
  | dct _ _ => obtain ⟨_, a, g, rfl, _⟩ := w; rfl
  | ins _ _ => obtain ⟨a, dx, fv, g, rfl, _⟩ := w; rfl
theorem v_isN : V2 K (fun x y H Q => y = .non ∧ Q (.bl (decide (x = .non))) H) (pIsN false) := fun R H x y o1 o2 f1 f2 Qp Q s w1 w2 ⟨e, q⟩ k => by
  subst e
  refine ⟨w2.2, k _ H R _ [] (Quiet.refl s) (by refine ⟨rfl, ?_⟩; rw [nonB_iff w1, Bool.false_xor]; rfl) q⟩
theorem v_notN : V2 K (fun x y H Q => y = .non ∧ Q (.bl (!decide (x = .non))) H) (pIsN true) := fun R H x y o1 o2 f1 f2 Qp Q s w1 w2 ⟨e, q⟩ k => by
  subst e
  refine ⟨w2.2, k _ H R _ [] (Quiet.refl s) (by refine ⟨rfl, ?_⟩; rw [nonB_iff w1, Bool.true_xor]; rfl) q⟩
end Pu
end
section
open PySem PySem.W PySem.Spec PyProof.Rows L2
set_option Elab.async false
set_option linter.unusedVariables false
set_option maxRecDepth 100000
set_option maxHeartbeats 4000000
namespace Pu
/-! ### a text, n times -/
def rMulS : R2 := fun x y H Q => ∃ (z : Str) (n : Int), x = .str z ∧ y = .int n ∧ MulOk z n ∧ Q (.str (Txt.mul z n)) H
theorem op_mulS {X : Cx} : OpR X (binaryOp .Mult) rMulS := by
  intro pins s sg H x y v u Q I rx ry h
  obtain ⟨z, n, rfl, rfl, hz, q⟩ := h
  obtain ⟨t, rfl⟩ := rx
  obtain ⟨t', rfl⟩ := ry
  exact SB.mul hz fun t' k => ⟨.str (Txt.mul z n), H, I.tok _, ⟨_, rfl⟩, q⟩
def pMulS : P2 := fun a b Q => ∃ (z : Str) (n : Int), a = .ro (.str z) ∧ b = .ro (.int n) ∧ MulOk z n ∧ Q (.ro (.str (Txt.mul z n)))
section
variable {K : PySem.W.Frag}
theorem v_mulS : V2 K rMulS pMulS := fun R H x y o1 o2 f1 f2 Qp Q s w1 w2 ⟨i, j, e1, e2, hc, q⟩ k => by
  subst e1 e2
  exact ⟨i, j, w1.str, w2.int, hc, k _ H R _ [] (Quiet.refl s) (by exact ⟨rfl, rfl⟩) q⟩
end
/-! ### values of tests -/
def mAnd (ta tb : TM) : TM := fun sg Q => ta sg fun d sg1 => ∃ c, d = .bl c ∧ if c = true then tb sg1 Q else Q (.bl false) sg1
def mOr (ta tb : TM) : TM := fun sg Q => ta sg fun d sg1 => ∃ c, d = .bl c ∧ if c = true then Q (.bl true) sg1 else tb sg1 Q
def mNot (ta : TM) : TM := fun sg Q => ta sg fun d sg1 => ∃ c, d = .bl c ∧ Q (.bl (!c)) sg1
/-- a op b op' c -/
def mChain (p p' : P2) (ta tb tc : TM) : TM := fun sg Q => ta sg fun d1 sg1 => tb sg1 fun d2 sg2 => p (.ro d1) (.ro d2) (onRo (onBl fun k => if k = true then tc sg2 fun d3 sg3 => p' (.ro d2) (.ro d3) (onRo fun e => Q e sg3) else Q (.bl false) sg2))
section
variable {X : Cx} {a b c : Expr} {rest es : List Expr} {pos : Pos} {ta tb tc : TM}
theorem lm_one {op} (h : LM X a ta) : LM X (.BoolOp op [a] pos) ta := pe_one h
theorem lm_and (ha : LM X a ta) (hb : LM X (.BoolOp .And (b :: rest) pos) tb) : LM X (.BoolOp .And (a :: b :: rest) pos) (mAnd ta tb) := pe_weak (pe_and ha hb) fun sgV H Q ⟨B, R, sg, Qp, rl, ht, k⟩ => by
  refine ⟨B, R, sg, _, rl, ht, fun v H1 R1 d sg1 s1 rl1 w hq => ?_⟩
  obtain ⟨c, rfl, hq⟩ := hq
  refine ⟨c, w, ?_⟩
  cases c with
  | false => exact iteF (k _ _ R1 (.bl false) _ s1 rl1 rfl (by simpa using hq))
  | true => exact iteT ⟨B, R1, sg1, _, rl1, (by simpa using hq), fun v2 H2 R2 d2 sg2 s2 => k v2 H2 R2 d2 sg2 (s1.trans s2)⟩
theorem lm_or (ha : LM X a ta) (hb : LM X (.BoolOp .Or (b :: rest) pos) tb) : LM X (.BoolOp .Or (a :: b :: rest) pos) (mOr ta tb) := pe_weak (pe_or ha hb) fun sgV H Q ⟨B, R, sg, Qp, rl, ht, k⟩ => by
  refine ⟨B, R, sg, _, rl, ht, fun v H1 R1 d sg1 s1 rl1 w hq => ?_⟩
  obtain ⟨c, rfl, hq⟩ := hq
  refine ⟨c, w, ?_⟩
  cases c with
  | true => exact iteT (k _ _ R1 (.bl true) _ s1 rl1 rfl (by simpa using hq))
  | false => exact iteF ⟨B, R1, sg1, _, rl1, (by simpa using hq), fun v2 H2 R2 d2 sg2 s2 => k v2 H2 R2 d2 sg2 (s1.trans s2)⟩
theorem lm_not (ha : LM X a ta) : LM X (.UnaryOp .Not a pos) (mNot ta) := pe_weak (pe_not ha) fun sgV H Q ⟨B, R, sg, Qp, rl, ht, k⟩ => by
  refine ⟨B, R, sg, _, rl, ht, fun v H1 R1 d sg1 s1 rl1 w hq => ?_⟩
  obtain ⟨c, rfl, hq⟩ := hq
  exact ⟨c, w, k _ _ R1 _ _ s1 rl1 (by exact rfl) hq⟩
theorem tChain_m {K : PySem.W.Frag} {r r' : R2} {p p' : P2} (h : V2 K r p) (h' : V2 K r' p') {sgV : L2.St} {H : Hp} {Q : VK} (q : eM K (mChain p p' ta tb tc) sgV H Q) : tChain r r' (eM K ta) (eM K tb) (eM K tc) sgV H Q := by
  obtain ⟨B, R, sg, Qp, rl, ht, k⟩ := q
  refine ⟨B, R, sg, _, rl, ht, fun x H1 R1 d1 sg1 s1 rl1 w1 hq => ?_⟩
  refine ⟨B, R1, sg1, _, rl1, hq, fun y H2 R2 d2 sg2 s2 rl2 w2 hq => ?_⟩
  refine h R2 H2 x y _ _ [] [] _ _ rl2.sub (Own.ro (w1.mono s2)) (Own.ro w2) hq fun v H3 R3 o f q3 w3 hq => ?_
  obtain ⟨d, rfl, hq1⟩ := onRo_iff hq
  clear hq
  obtain ⟨c, rfl, hq⟩ := onBl_iff hq1
  clear hq1
  refine ⟨c, w3.2, ?_⟩
  have rl3 := rl2.quiet q3
  cases c with
  | false => exact iteF (k _ _ R3 (.bl false) _ (s1.trans (s2.trans q3.r)) rl3 rfl (by simpa using hq))
  | true =>
    refine iteT ⟨B, R3, sg2, _, rl3, (show tc sg2 _ by simpa using hq), fun z H4 R4 d4 sg4 s4 rl4 w4 hq => ?_⟩
    refine h' R4 H4 y z _ _ [] [] _ _ rl4.sub (Own.ro (w2.mono (q3.r.trans s4))) (Own.ro w4) hq fun v5 H5 R5 o5 f5 q5 w5 hq5 => ?_
    obtain ⟨d5, rfl, hq⟩ := onRo_iff hq5
    exact k _ _ R5 _ _ (s1.trans (s2.trans (q3.r.trans (s4.trans q5.r)))) (rl4.quiet q5) w5.2 hq
theorem lm_chain {op op' : CmpOp} {r r' : R2} {p p' : P2} (ho : OpR X (compareOp op) r) (ho' : OpR X (compareOp op') r') (h : V2 X.K r p) (h' : V2 X.K r' p') (ha : LM X a ta) (hb : LM X b tb) (hc : LM X c tc)
    (hm : lastMarks [op, op'] [b, c] = false := by with_unfolding_all rfl) : LM X (.Compare a [op, op'] [b, c] pos) (mChain p p' ta tb tc) := pe_weak (pe_chain ho ho' ha hb hc hm) fun _ _ _ q => tChain_m h h' q
theorem lt_chain {op op' : CmpOp} {r r' : R2} {p p' : P2} (ho : OpR X (compareOp op) r) (ho' : OpR X (compareOp op') r') (h : V2 X.K r p) (h' : V2 X.K r' p') (ha : LM X a ta) (hb : LM X b tb) (hc : LM X c tc)
    (hm : lastMarks [op, op'] [b, c] = false := by with_unfolding_all rfl) : LT X (.Compare a [op, op'] [b, c] pos) (bM (mChain p p' ta tb tc)) := pt_weak (pt_chain ho ho' ha hb hc hm) fun sgV H Q q => by
  obtain ⟨B, R, sg, Qp, rl, ht, k⟩ := q
  refine tChain_m h h' ⟨B, R, sg, _, rl, ht, fun v H1 R1 d sg1 s1 rl1 w hq => ?_⟩
  obtain ⟨c, rfl, hq⟩ := onBl_iff hq
  exact ⟨c, w, k _ _ R1 _ s1 rl1 hq⟩
/-! ### list(x) of its own -/
theorem lo_list {x : Str} {p : Pos} {t : TAR} (hg : Gl X x) (hm : X.mg x = none) (hv : bootBuiltins x = some (.type "list")) (ha : LAR X (a :: es) t) (hn : x ≠ "__name__" := by decide) (hdb : (x == ("__debug__" : Str)) = false := by decide)
    (he : starEach (a :: es) X.env = (false, eval a X.env) :: starEach es X.env := by rfl) (hpl : (backTo pos (starEach es X.env)).any (·.1) = false := by rfl) : LO X (.Call (.Name x p) (a :: es) [] pos) (wList t) := pe_weak (pe_callTy call_list_of hg hm hv ha hn hdb he hpl) fun sgV H Q ⟨B, R, sg, Qp, rl, ht, k⟩ => by
  obtain ⟨fp, sl⟩ := rl.slots
  refine ⟨R, sg, fp, _, sl, rl.sub, ht, fun vs H1 R1 os q w hq => ?_⟩
  obtain ⟨a, ds, rfl, hs, hq⟩ := hq
  obtain ⟨v, f, rfl, w1⟩ := ow1 w
  have rl1 := rl.quiet q
  obtain ⟨p, vs, rfl, we, h2⟩ := own_seq rl1.sub w1 hs
  refine ⟨p, vs, rfl, ?_, fun l hl => k _ _ R1 _ _ q.r (rel_newL rl1 we.toRo hl) hq⟩
  rcases h2 with ⟨h2, _⟩ | ⟨h2, _⟩
  · exact .inl h2
  · exact .inr h2
theorem lo_listM {x : Str} {p : Pos} {t : TAM} (hg : Gl X x) (hm : X.mg x = none) (hv : bootBuiltins x = some (.type "list")) (ha : LAM X (a :: es) t) (hn : x ≠ "__name__" := by decide) (hdb : (x == ("__debug__" : Str)) = false := by decide)
    (he : starEach (a :: es) X.env = (false, eval a X.env) :: starEach es X.env := by rfl) (hpl : (backTo pos (starEach es X.env)).any (·.1) = false := by rfl) : LO X (.Call (.Name x p) (a :: es) [] pos) (wListM t) := pe_weak (pe_callTy call_list_of hg hm hv ha hn hdb he hpl) fun sgV H Q ⟨B, R, sg, Qp, rl, ht, k⟩ => by
  refine ⟨B, R, sg, _, rl, ht, fun vs H1 R1 os sg1 s1 rl1 w hq => ?_⟩
  obtain ⟨a, ds, rfl, hs, hq⟩ := hq
  obtain ⟨v, r, rfl, w1, e⟩ := w
  cases e
  obtain ⟨p, vs, rfl, we, h2⟩ := own_seq rl1.sub (Own.ro w1) hs
  refine ⟨p, vs, rfl, ?_, fun l hl => k _ _ R1 _ _ s1 (rel_newL rl1 we.toRo hl) hq⟩
  rcases h2 with ⟨h2, _⟩ | ⟨h2, _⟩
  · exact .inl h2
  · exact .inr h2
end
/-! ### slices -/
abbrev TPO := PSt → (Option Int → Prop) → Prop
def ePO (K : PySem.W.Frag) (t : TPO) : TO := fun sgV H Q => ∃ R sg fp Qp, SlR K R H sg sgV fp ∧ Same R H ∧ t sg Qp ∧ ∀ i H' R', Quiet R H R' H' → Qp i → Q i H'
abbrev LPO (X : Cx) (e : Option Expr) (t : TPO) : Prop := PO X e (ePO X.K t)
def poN : TPO := fun _ Q => Q none
def poI (t : TR) : TPO := fun sg Q => t sg fun o => ∃ i, o = .ro (.int i) ∧ Q (some i)
theorem po_weak {X : Cx} {e : Option Expr} {t t' : TO} (h : PO X e t) (k : ∀ sg H Q, t' sg H Q → t sg H Q) : PO X e t' := ⟨fun pins s sg H Q I q => h.run pins s sg H Q I (k sg H Q q)⟩
def VSl (K : PySem.W.Frag) (r : V → Option Int → Option Int → Hp → VK → Prop) (p : O → Option Int → Option Int → (O → Prop) → Prop) : Prop :=
  ∀ (R H : Hp) (x : V) (l u : Option Int) (o1 : O) (f1 : List Addr) (Qp : O → Prop) (Q : VK), Same R H → Own K R H o1 x f1 → p o1 l u Qp → (∀ v H' R' o f, Quiet R H R' H' → Own K R' H' o v f → Qp o → Q v H') → r x l u H Q
def rSlc (p : O → Option Int → Option Int → (O → Prop) → Prop) (t : TR) (tl tu : TPO) : TR := fun sg Q => t sg fun o => tl sg fun l => tu sg fun u => p o l u Q
def cut {α : Type} (xs : List α) (lo hi : Option Int) : List α := (xs.drop (HT.sIx xs.length 0 lo)).take (HT.sIx xs.length xs.length hi - HT.sIx xs.length 0 lo)
section
variable {X : Cx} {e : Expr} {lo hi : Option Expr} {pos p2 : Pos} {t : TR} {tl tu : TPO}
theorem lpo_n : LPO X none poN := po_weak po_none fun sgV H Q ⟨R, sg, fp, Qp, sl, s, ht, k⟩ => k none H R (Quiet.refl s) ht
theorem lpo_i (h : LR X e t) : LPO X (some e) (poI t) := po_weak (po_some h) fun sgV H Q ⟨R, sg, fp, Qp, sl, s, ht, k⟩ => by
  refine ⟨R, sg, fp, _, sl, s, ht, fun v H1 R1 o f q w hq => ?_⟩
  obtain ⟨i, rfl, hq⟩ := hq
  exact ⟨i, w.2, k _ _ R1 q hq⟩
theorem lr_slice {r} {p} (hr : L2.SlR X r) (h : VSl X.K r p) (he : LR X e t) (hl : LPO X lo tl) (hu : LPO X hi tu) : LR X (.Subscript e (.Slice lo hi none p2) pos) (rSlc p t tl tu) := pe_weak (pe_slice hr he hl hu) fun sgV H Q ⟨R, sg, fp, Qp, sl, s, ht, k⟩ => by
  refine ⟨R, sg, fp, _, sl, s, ht, fun v H1 R1 o f q1 w1 hq => ?_⟩
  have s1 := q1.s
  refine ⟨R1, sg, fp, _, sl.quiet q1, s1, hq, fun l H2 R2 q2 hq => ?_⟩
  refine ⟨R2, sg, fp, _, (sl.quiet q1).quiet q2, q2.s, hq, fun u H3 R3 q3 hq => ?_⟩
  refine h R3 H3 v l u o f _ _ q3.s ((w1.quiet q2).quiet q3) hq fun v4 H4 R4 o4 f4 q4 w4 hq => ?_
  exact k v4 H4 R4 o4 f4 (q1.trans (q2.trans (q3.trans q4))) w4 hq
/-- of a list, a tuple, a text -/
def pSl : O → Option Int → Option Int → (O → Prop) → Prop := fun o l u Q =>
  (∃ ds : List D, o.d = .lst ds ∧ o.seq = some (ds.map .ro) ∧ Q (.ro (.lst (cut ds l u)))) ∨ (∃ ds, o = .ro (.tup ds) ∧ Q (.ro (.tup (cut ds l u)))) ∨ ∃ z, o = .ro (.str z) ∧ z.length ≤ sizeLine ∧ Q (.ro (.str (cutS z l u)))
variable {K : PySem.W.Frag}
theorem RoL.take {R : Hp} : ∀ {ds : List D} {vs : List V} (n : Nat), RoL K R ds vs → RoL K R (ds.take n) (vs.take n)
  | [], _, n, h => by cases h; simp [RoL]
  | _ :: _, _, 0, h => by obtain ⟨v, r, rfl, _⟩ := h; exact rfl
  | d :: r, _, n + 1, h => by
    obtain ⟨v, r', rfl, h2, h3⟩ := h
    exact ⟨v, _, rfl, h2, RoL.take n h3⟩
theorem RoL.drop {R : Hp} : ∀ {ds : List D} {vs : List V} (n : Nat), RoL K R ds vs → RoL K R (ds.drop n) (vs.drop n)
  | [], _, n, h => by cases h; simp [RoL]
  | _ :: _, _, 0, h => h
  | d :: r, _, n + 1, h => by
    obtain ⟨v, r', rfl, h2, h3⟩ := h
    exact RoL.drop n h3
theorem RoL.cut {R : Hp} {ds : List D} {vs : List V} (l u : Option Int) (h : RoL K R ds vs) : RoL K R (Pu.cut ds l u) (cutV vs l u) := by
  unfold Pu.cut cutV
  rw [h.len]
  exact (h.drop _).take _
theorem sl_seq : L2.SlR X (fun x lo hi H Q => rSlL X.K x lo hi H Q ∨ rSlA X.K x lo hi H Q ∨ rSlS x lo hi H Q) := sl_list.or (sl_tupA.or sl_str)
theorem cut_all {α : Type} {xs : List α} {l u : Option Int} (h : HT.sIx xs.length 0 l = 0 ∧ HT.sIx xs.length xs.length u = xs.length) : cut xs l u = xs := by
  unfold cut
  rw [h.1, h.2, List.drop_zero, Nat.sub_zero, List.take_length]
theorem v_sl : VSl K (fun x lo hi H Q => rSlL K x lo hi H Q ∨ rSlA K x lo hi H Q ∨ rSlS x lo hi H Q) pSl := fun R H x l u o1 f1 Qp Q s w h k => by
  rcases h with ⟨ds, hd, hs, q⟩ | ⟨ds, rfl, q⟩ | ⟨z, rfl, hz, q⟩
  · obtain ⟨a, vs, rfl, we, h⟩ := own_seq s w hs
    rcases h with ⟨h, _⟩ | ⟨_, ts, rfl, _⟩
    · refine .inl ⟨a, vs, rfl, h, fun p hp => ?_⟩
      have ⟨n1, n2⟩ := new_lst s (we.toRo.cut l u) hp
      exact k _ _ _ _ [] n1 (by exact ⟨rfl, n2⟩) q
    · cases hd
  · obtain ⟨_, a, vs, rfl, h2, h3⟩ := w
    refine .inr (.inl ⟨a, vs, rfl, .inl (.inl (s _ _ h2)), fun hw => ?_, fun hw p hp => ?_⟩)
    · rw [h3.len] at hw
      rw [cut_all hw] at q
      exact k _ H R _ [] (Quiet.refl s) (by exact ⟨rfl, a, vs, rfl, h2, h3⟩) q
    · have ⟨n1, n2⟩ := new_tup s (h3.cut l u) hp
      exact k _ _ _ _ [] n1 (by exact ⟨rfl, n2⟩) q
  · exact .inr (.inr ⟨z, w.2, hz, k _ H R _ [] (Quiet.refl s) (by exact ⟨rfl, rfl⟩) q⟩)
end
end Pu
end
section
open PySem PySem.W PySem.Spec PyProof.Rows L2
set_option Elab.async false
set_option linter.unusedVariables false
set_option maxRecDepth 100000
set_option maxHeartbeats 4000000
namespace Pu
/-! ### stores into lists and dicts -/
/-- P[k] = e, P a list's path -/
def sPutL (te : TW) (tp : TP) (ti : TR) : TSp := fun D sg => te sg fun x sg1 => tp sg1 fun i π o => ti sg1 (onRo fun d => match o, d with
  | .lst os, .int k => (match ixN os.length k with
    | some j => D.nx (sPut i π (.lst (os.set j x)) sg1)
    | none => False)
  | _, _ => False)
/-- name[k] = e, the index may change the state -/
def sPutM (i : Nat) (te : TW) (ti : TM) : TSp := fun D sg => te sg fun x sg1 => isLst sg1[i]? = true ∧ ti sg1 fun d sg2 => match sg2[i]?, d with
  | some (some (.lst os)), .int k => (match ixN os.length k with
    | some j => D.nx (sg2.set i (some (.lst (os.set j x))))
    | none => False)
  | _, _ => False
/-- P[key] = e, P a dict's path -/
def sDput (te : TW) (tp : TP) (ti : TR) : TSp := fun D sg => te sg fun x sg1 => tp sg1 fun i π o => ti sg1 (onRo fun key => match o with
  | .dct t kvs => keyOk t key = true ∧ kvs.length < sizeLine ∧ D.nx (sPut i π (.dct t (kPut key x kvs)) sg1)
  | _ => False)
/-- P.append(e), e quiet -/
def sAppP (tp : TP) (te : TR) : TSp := fun D sg => tp sg fun i π o => ∃ os, o = .lst os ∧ te sg (onRo fun d => os.length < sizeLine ∧ D.nx (sPut i π (.lst (os ++ [.ro d])) sg))
section
variable {X : Cx} {kp : Nat → Prop} {W : WX} {e k o : Expr} {x : Str} {pos pos' apos cpos px : Pos} {te : TW} {tp : TP} {ti : TR} {tm : TM}
theorem ls_putL (he : LO X e te) (ho : LP X o tp) (hk : LR X k ti) (hs : swapsWithSole [.Subscript o k pos'] e pos.line X.env = pure false := by rfl) (hw : swappedStores [.Subscript o k pos'] e X.env = pure none := by rfl)
    (h1 : (assignEach [.Subscript o k pos'] X.env).map (·.2) = [assign (.Subscript o k pos') X.env] := by rfl)
    (ha : ∀ v, assign (.Subscript o k pos') X.env v = (do
      let ov ← holding [v] (eval o X.env)
      let iv ← holding [v, ov] (eval k X.env)
      standAt pos'
      holding [v, ov, iv] (setItem ov iv v)
      release [v, ov, iv] []) := by intro _; rfl) : LS X kp W (.Assign [.Subscript o k pos'] e pos) (sPutL te tp ti) :=
  ps_weak (ps_asg he (pg_sub ho hk set_list ha) hs hw h1) fun D sgV H ⟨B, R, sg, Dp, r, ht, en⟩ => by
    refine ⟨B, R, sg, _, r, ht, fun v H1 R1 x sg1 s1 r1 hq => ?_⟩
    obtain ⟨fp, sl⟩ := r1.slots
    refine ⟨R1, sg1, fp, _, sl, r1.sub, hq, fun v2 H2 R2 i π o q2 pa hq => ?_⟩
    have r2 := r1.quiet q2
    obtain ⟨fp2, sl2⟩ := r2.slots
    refine ⟨R2, sg1, fp2, _, sl2, q2.s, hq, fun y H3 R3 o3 g3 q3 w3 hq => ?_⟩
    obtain ⟨d, rfl, hq2⟩ := onRo_iff hq
    clear hq
    have r3 := r2.quiet q3
    have pa3 := pa.mono q3.h
    split at hq2
    · rename_i os kk
      split at hq2
      · rename_i j hj
        obtain ⟨fp3, sl3⟩ := r3.slots
        obtain ⟨g, w⟩ := pa3.own sl3
        obtain ⟨a, us0, f0, rfl, _⟩ := w
        obtain ⟨us, hu, hlen, r4⟩ := r3.setIx (j := j) pa3
        exact ⟨a, us, kk, j, rfl, w3.2, hu, by rw [hlen]; exact hj, en.nx sgV _ R3 _ (s1.trans (q2.r.trans q3.r)) r4 Kp.refl hq2⟩
      · exact hq2.elim
    · exact hq2.elim
theorem ls_putM (i : Nat) (he : LO X e te) (hk : LM X k tm) (hN : X.N[i]? = some x := by rfl) (hv : Vis X.env.scope x := by first | exact Or.inl rfl | exact Or.inr (Or.inl rfl) | exact Or.inr (Or.inr rfl)) (hd : (x == ("__debug__" : Str)) = false := by decide) (hcd : (x == ("__classdict__" : Str)) = false := by decide)
    (hs : swapsWithSole [.Subscript (.Name x px) k pos'] e pos.line X.env = pure false := by rfl) (hw : swappedStores [.Subscript (.Name x px) k pos'] e X.env = pure none := by rfl)
    (h1 : (assignEach [.Subscript (.Name x px) k pos'] X.env).map (·.2) = [assign (.Subscript (.Name x px) k pos') X.env] := by rfl)
    (ha : ∀ v, assign (.Subscript (.Name x px) k pos') X.env v = (do
      let ov ← holding [v] (eval (.Name x px) X.env)
      let iv ← holding [v, ov] (eval k X.env)
      standAt pos'
      holding [v, ov, iv] (setItem ov iv v)
      release [v, ov, iv] []) := by intro _; rfl) : LS X kp W (.Assign [.Subscript (.Name x px) k pos'] e pos) (sPutM i te tm) :=
  ps_weak (ps_asg he (pg_sub (pe_var hN hv hd hcd) hk set_list ha) hs hw h1) fun D sgV H ⟨B, R, sg, Dp, r, ht, en⟩ => by
    refine ⟨B, R, sg, _, r, ht, fun v H1 R1 x sg1 s1 r1 hq => ?_⟩
    obtain ⟨hl, hq⟩ := hq
    obtain ⟨fp, sl⟩ := r1.slots
    obtain ⟨a, vs, hv, _⟩ := isLst_at sl hl
    refine ⟨.ref a, hv, ?_⟩
    obtain ⟨B', r2, back⟩ := r1.frameS
    refine ⟨B', R1, sg1, _, r2, hq, fun y H3 R3 d sg3 s3 r3 w3 hq => ?_⟩
    have r4 := back R3 H3 sgV sg3 [] [] s3 r3
    split at hq
    · rename_i os kk e
      split at hq
      · rename_i j hj
        obtain ⟨fp3, sl3⟩ := r3.slots
        obtain ⟨v2, f, hv2, w, _⟩ := sl3.get e
        rw [hv] at hv2
        cases hv2
        obtain ⟨us, hu, hlen, r5⟩ := Rel.setIx (tu := []) (vs := []) (i := i) (π := []) (j := j) r4 ⟨_, _, hv, e, rfl, rfl⟩
        rw [put_nil e] at r5
        exact ⟨a, us, kk, j, rfl, w3, hu, by rw [hlen]; exact hj, en.nx sgV _ R3 _ (s1.trans s3) r5 Kp.refl hq⟩
      · exact hq.elim
    · exact hq.elim
theorem ls_dput (hu : X.A.units + 1 < cLine) (he : LO X e te) (ho : LP X o tp) (hk : LR X k ti) (hs : swapsWith e (some (.Subscript o k pos')) pos.line X.env = pure false := by rfl) : LS X kp W (.Assign [.Subscript o k pos'] e pos) (sDput te tp ti) :=
  ps_weak (ps_dput hu ho hk he hs) fun D sgV H ⟨B, R, sg, Dp, r, ht, en⟩ => by
    refine ⟨B, R, sg, _, r, ht, fun v H1 R1 x sg1 s1 r1 hq => ?_⟩
    obtain ⟨fp, sl⟩ := r1.slots
    refine ⟨R1, sg1, fp, _, sl, r1.sub, hq, fun v2 H2 R2 i π o q2 pa hq => ?_⟩
    have r2 := r1.quiet q2
    obtain ⟨fp2, sl2⟩ := r2.slots
    refine ⟨R2, sg1, fp2, _, sl2, q2.s, hq, fun y H3 R3 o3 g3 q3 w3 hq => ?_⟩
    obtain ⟨d, rfl, hq2⟩ := onRo_iff hq
    clear hq
    have r3 := r2.quiet q3
    have pa3 := pa.mono q3.h
    split at hq2
    · rename_i t kvs
      obtain ⟨h1, h2, hq2⟩ := hq2
      obtain ⟨fp3, sl3⟩ := r3.slots
      obtain ⟨g, w⟩ := pa3.own sl3
      obtain ⟨_, a, f0, rfl, _⟩ := w
      obtain ⟨H4, hp, r4⟩ := r3.dput pa3 w3.2 h1 h2
      exact ⟨a, H4, rfl, hp, en.nx sgV _ R3 _ (s1.trans (q2.r.trans q3.r)) r4 Kp.refl hq2⟩
    · exact hq2.elim
theorem ls_appP (ho : LP X o tp) (he : LR X e ti) (hst : starEach [e] X.env = (false, eval e X.env) :: starEach [] X.env := by rfl) (hbase : attributeBase o "append" X.env (eval o X.env) = eval o X.env := by rfl) (hline : (apos.endLine == cpos.line) = true := by rfl) (hfew : (((backTo cpos (starEach [e] X.env)).all (fun x => !x.1) && (backToKw cpos (keywordEach [] X.env)).all (fun x => x.1.isSome)) && decide (([e] : List Expr).length + ([] : List Keyword).length + (if ([] : List Keyword).isEmpty then 0 else 1) < 30)) = true := by rfl)
    (hs : swapsWith (.Call (.Attribute o "append" apos) [e] [] cpos) none pos.line X.env = pure false := by rfl) :
    LS X kp W (.Expr (.Call (.Attribute o "append" apos) [e] [] cpos) pos) (sAppP tp ti) :=
  ps_weak (ps_expr (pe_bm PySem.F.plainAttrs_list PySem.F.slot_list_append PySem.F.type_list_append mt_append ho (pa_cons he pa_nil hst) hbase hfew hline hst) hs) fun D sgV H ⟨B, R, sg, Dp, r, ht, en⟩ => by
    obtain ⟨fp, sl⟩ := r.slots
    refine ⟨R, sg, fp, _, sl, r.sub, ht, fun v2 H2 R2 i π o q2 pa hq => ?_⟩
    have r2 := r.quiet q2
    obtain ⟨fp2, sl2⟩ := r2.slots
    obtain ⟨g, w⟩ := pa.own sl2
    obtain ⟨os, rfl, hq0⟩ := hq
    obtain ⟨a, us, g2, rfl, _, ha, _⟩ := w
    refine ⟨tyL ha, R2, sg, fp2, _, sl2, q2.s, hq0, fun y H3 R3 o3 g3 q3 w3 hq => ?_⟩
    obtain ⟨d, rfl, hq2⟩ := onRo_iff hq
    have r3 := (r2.quiet q3).pushRo w3.2
    obtain ⟨us2, hu, hlen, r4⟩ := r3.app (pa.mono q3.h)
    exact ⟨a, us2, y, rfl, rfl, hu, by rw [hlen]; exact hq2.1, en.nx sgV _ R3 _ (q2.r.trans q3.r) r4 Kp.refl hq2.2⟩
end
end Pu
end
section
open PySem PySem.W PySem.Spec PyProof.Rows L2
set_option Elab.async false
set_option linter.unusedVariables false
set_option maxRecDepth 100000
set_option maxHeartbeats 4000000
namespace Pu
/-! ### set(t) of texts, its length -/
/-- without what has come before -/
def ddS (acc : List Str) (x : Str) : List Str := if acc.any (· == x) then acc else acc ++ [x]
def dd (xs : List Str) : List Str := xs.foldl ddS []
theorem dd_succ (xs : List Str) (x : Str) : dd (xs ++ [x]) = ddS (dd xs) x := by
  unfold dd
  rw [List.foldl_append]
  rfl
theorem dd_any (x : Str) : ∀ xs acc : List Str, (xs.foldl ddS acc).any (· == x) = (acc.any (· == x) || xs.any (· == x))
  | [], acc => by simp
  | y :: r, acc => by
    rw [List.foldl_cons, dd_any x r]
    unfold ddS
    by_cases h : acc.any (· == y) = true
    · rw [if_pos h]
      by_cases e : y = x
      · subst e; rw [h]; simp
      · have e2 : (y == x) = false := by simpa [beq_iff_eq] using e
        simp [e2]
    · rw [if_neg h]
      simp [Bool.or_assoc]
theorem dd_length (xs : List Str) (x : Str) : (dd (xs ++ [x])).length = if xs.any (· == x) then (dd xs).length else (dd xs).length + 1 := by
  have e : (dd xs).any (· == x) = xs.any (· == x) := by
    unfold dd
    rw [dd_any]
    rfl
  rw [dd_succ]
  unfold ddS
  rw [e]
  split <;> simp
theorem dd_le0 : ∀ xs acc : List Str, (xs.foldl ddS acc).length ≤ acc.length + xs.length
  | [], acc => Nat.le_refl _
  | y :: r, acc => by
    rw [List.foldl_cons]
    have h := dd_le0 r (ddS acc y)
    have : (ddS acc y).length ≤ acc.length + 1 := by
      unfold ddS
      split <;> simp
    simp only [List.length_cons]
    omega
theorem dd_le (xs : List Str) : (dd xs).length ≤ xs.length := by
  have := dd_le0 xs []
  simpa [dd] using this
theorem take_succ_getD {xs : List Str} {i : Nat} (h : i < xs.length) : xs.take (i + 1) = xs.take i ++ [xs.getD i Str.empty] := by
  rw [List.take_succ_eq_append_getElem h]
  simp [List.getD, h]
theorem decide_sym (a b : Str) : decide (a = b) = (b == a) := by
  by_cases e : a = b
  · subst e; simp
  · have : (b == a) = false := by simpa [beq_iff_eq] using fun z => e z.symm
    rw [this]; simpa using e
section
variable {prog : Program} {w : World} {A : Around} {R : Result → Shared → Prop} {I : Addr} {fp wr : List Addr} {G : Array GenState → Array GenState → Prop} {n : Nat} {P : Nat → Value → Prop} {St : Nat → Shared → Prop}
theorem loopTx (W : WalksS prog w A.in1 I fp wr G n P St) (S : Addr) (hSf : S ∉ fp) (xs : List Str) (hsz : xs.length = n) (hn1 : n + 1 < scanBound)
    (hval : ∀ i v, P i v → ∃ t, v = .str (xs.getD i Str.empty) t) :
    ∀ (k i : Nat) (s : Shared), n - i = k → i ≤ n → St i s →
      s.heap.SetOf (PySem.strKind prog w) S (fun k' => (xs.take i).any (· == k')) (dd (xs.take i)).length →
      (∀ s', Moved (S :: wr) G s s' → s'.heap.SetOf (PySem.strKind prog w) S (fun k' => (xs.take n).any (· == k')) (dd (xs.take n)).length → R (.ok (.ret .none)) s') →
      codeAny (model prog w) A (.builtin "set.update.loop" ⟨[.ref S, .ref I], []⟩) R s := by
  have hSw : S ∉ wr := fun h => hSf (W.sub _ h)
  have hsub : ∀ b ∈ wr, b ∈ S :: wr := fun b hb => List.mem_cons_of_mem _ hb
  intro k
  induction k with
  | zero =>
    intro i s hk hi hst hS hR
    have hin : i = n := by omega
    subst hin
    refine codeAny_builtin PyProof.Rows.F.entry_set_update_loop ?_
    rw [Around.under_plainId PyProof.Rows.F.plain_set_update_loop _]
    show wpAny _ A.in1 (pyNext (.ref I) >>= _) _ _ s
    refine wpAny_bind (W.done s _ _ hst fun s' hm => ?_)
    show wpAny _ A.in1 (ret Value.none) _ _ s'
    exact wpAny_pure (hR s' (hm.mono hsub) (by
      obtain ⟨o, es, ep, t, ho, rest⟩ := hS
      exact ⟨o, es, ep, t, hm.heap S _ hSw ho, rest⟩))
  | succ k ih =>
    intro i s hk hi hst hS hR
    have hlt : i < n := by omega
    refine codeAny_builtin PyProof.Rows.F.entry_set_update_loop ?_
    rw [Around.under_plainId PyProof.Rows.F.plain_set_update_loop _]
    show wpAny _ A.in1 (pyNext (.ref I) >>= _) _ _ s
    refine wpAny_bind (W.item i s _ _ hlt hst fun v s' hP hst' hm => ?_)
    obtain ⟨t, rfl⟩ := hval i v hP
    have hS' : s'.heap.SetOf (PySem.strKind prog w) S (fun k' => (xs.take i).any (· == k')) (dd (xs.take i)).length := by
      obtain ⟨o, es, ep, tb, ho, rest⟩ := hS
      exact ⟨o, es, ep, tb, hm.heap S _ hSw ho, rest⟩
    show wpAny _ A.in1 (holding [Value.str (xs.getD i Str.empty) t] (setAdd S (.str (xs.getD i Str.empty) t)) >>= _) _ _ s'
    refine wpAny_bind (wpAny_holding ?_)
    unfold setAdd
    refine wpAny_holding ?_
    refine wpAny_bind ((PySem.strKind prog w).pyHash (k := xs.getD i Str.empty) (strKind_is _ _ _ _) ?_)
    refine wpAny_setAddHashed_of (knd := PySem.strKind prog w) (s := { s' with toks := s'.toks + 1 }) (strKind_is _ _ _ _) rfl hS' (by have := dd_le (xs.take i); have := List.length_take_le i xs; omega) fun h' hsb hS2 => ?_
    have hx : i < xs.length := by omega
    have hSi : h'.SetOf (PySem.strKind prog w) S (fun k' => (xs.take (i + 1)).any (· == k')) (dd (xs.take (i + 1))).length := by
      refine SetOf_congr hS2 (fun k' => ?_) ?_
      · rw [take_succ_getD hx, List.any_append]
        show (_ || decide (k' = _)) = (_ || ((_ == k') || false))
        rw [Bool.or_false, decide_sym]
      · rw [take_succ_getD hx]
        exact (dd_length _ _).symm
    refine wpAny_pure ⟨plainId_quiet PyProof.Rows.F.plain_set_update_loop _, ih (i + 1) _ (by omega) hlt (W.frame _ s' _ _ hst' (Nat.le_succ _) fun b hb o e => ?_) hSi fun s'' hm'' hS'' => ?_⟩
    · rw [hsb.2 b (fun h : b = S => hSf (by rw [← h]; exact hb))]; exact e
    · refine hR s'' (Moved.trans W.gtrans ((hm.mono hsub).then_heap (Nat.le_succ _) fun b o hb e => ?_) hm'') hS''
      rw [hsb.2 b (fun h : b = S => hb (by rw [h]; exact List.mem_cons_self))]; exact e
end
section
variable {prog : Program} {w : World} {A : Around} {E : Value → Shared → Prop} {s : Shared}
set_option maxHeartbeats 3200000 in
theorem call_set_tx {l : Addr} {items : Array Value} {xs : List Str} {Q : Value → Shared → Prop}
    (hh : A.handled = none) (hl : s.heap.IsTuple l items) (hi : PyProof.Rows.StrsAre items.toList xs) (hn1 : xs.length + 1 < scanBound)
    (h : ∀ (h' : Heap) (tk : Nat), h'.SetOf (PySem.strKind prog w) s.heap.objs.size (fun k' => (xs.take items.size).any (· == k')) (dd (xs.take items.size)).length →
      (∀ b o, b < s.heap.objs.size → s.heap.get? b = some o → h'.get? b = some o) → Q (.ref s.heap.objs.size) { s with heap := h', toks := tk }) :
    wpAny (model prog w) A (call (.type "set") [.ref l]) Q E s := by
  obtain ⟨c, tl, hmro⟩ := PySem.F.called_set.mro
  have hmade := PySem.F.called_set.made
  have hsub := PySem.F.called_set.sub
  refine wpAny_call (codeAny_of_tree ?_)
  show wpAny _ _ (callAny (.type "set") _) _ _ _
  refine wpAny_pure ⟨Code.quiet_builtin _ (by decide +kernel), codeAny_builtin PySem.F.entry_type_call ?_⟩
  rw [Around.under_plain (weight_type_call_type "set" [.ref l] []) rfl]
  have h1 := PySem.F.called_set.notType
  have h2 := PySem.F.called_set.canCreate
  have hct := PySem.F.typeCall_set_1 (.ref l)
  repeat (any_goals (first | assumption | wp_step))

  refine codeAny_mono (code_set_new_1 (.ref l) (E := E) (Q₁ := fun obj s₁ => ∃ led : Bool, obj = .ref s.heap.objs.size ∧ s₁ = { s with heap := s.heap.push { cls := .type "set", dict := none, data := .set #[] 0 (.fresh 0 0 led) } }) fun led => ⟨led, rfl, rfl⟩) fun r s₁ hr => ?_
  cases r with
  | error e => exact hr
  | ok fl =>
    cases fl with
    | ret obj =>
      obtain ⟨led, rfl, rfl⟩ := hr
      have hS : (s.heap.push { cls := .type "set", dict := none, data := .set #[] 0 (.fresh 0 0 led) }).get? s.heap.objs.size = some { cls := .type "set", dict := none, data := .set #[] 0 (.fresh 0 0 led) } := Heap.get?_push_size _ rfl
      have hT : Shared.TypeIs { s with heap := s.heap.push { cls := .type "set", dict := none, data := .set #[] 0 (.fresh 0 0 led) } } (.ref s.heap.objs.size) "set" := ⟨_, hS, rfl⟩
      have hli := PySem.F.called_set.init.lookup
      have hbi := PySem.F.called_set.init.bind (.ref s.heap.objs.size)
      repeat (any_goals (first | assumption | wp_step))

      refine codeAny_mono (codeAny_call_builtin (R := wants (fun r s₂ => r = .none ∧ ∃ h' tk, s₂ = { s with heap := h', toks := tk } ∧
          h'.SetOf (PySem.strKind prog w) s.heap.objs.size (fun k' => (xs.take items.size).any (· == k')) (dd (xs.take items.size)).length ∧
          (∀ b o, b < s.heap.objs.size → s.heap.get? b = some o → h'.get? b = some o)) E) PySem.F.called_set.init.plain PySem.F.entry_set_init (check_set_init_1 hT ?_)) fun r₂ s₂ hr₂ => ?_
      · obtain ⟨ol, hol, hcl, nl, hdl⟩ := hl
        obtain ⟨ocls, odict, odata, oslots⟩ := ol
        simp only at hcl hdl
        subst hcl; subst hdl
        have hol' : (s.heap.push { cls := .type "set", dict := none, data := .set #[] 0 (.fresh 0 0 led) }).get? l = some { cls := .type "tuple", dict := odict, data := .seq items nl, slots := oslots } := Heap.get?_push_of_some _ hol
        have hsls := PySem.F.sub_tuple_set
        have hslf := PySem.F.sub_tuple_frozenset
        have hne : (Value.type "tuple" == Value.type "dict") = false := by decide
        have hl1 : (s.heap.push { cls := .type "set", dict := none, data := .set #[] 0 (.fresh 0 0 led) }).IsTuple l items := ⟨_, hol', rfl, nl, rfl⟩
        unfold Builtin.«set.__init__» noKeywords Builtin.Frozenset.updateFrom
        generalize hPI : pyIter = PI
        wp_walk
        subst hPI

        refine wpAny_pyIter_tuple hl1 ?_
        refine wpAny_bind (wpAny_runValue ?_)
        have hlS : l < s.heap.objs.size := Heap.lt_size hol
        have hh3 : A.in1.in1.in1.handled = none := by simp [hh]
        have hneI : l ≠ (s.heap.push { cls := .type "set", dict := none, data := .set #[] 0 (.fresh 0 0 led) }).objs.size := by
          rw [Heap.size_push]; exact Nat.ne_of_lt (Nat.lt_succ_of_lt hlS)
        have hSf : s.heap.objs.size ∉ [(s.heap.push { cls := .type "set", dict := none, data := .set #[] 0 (.fresh 0 0 led) }).objs.size, l] := by
          rw [Heap.size_push]; simp only [List.mem_cons, List.mem_singleton, List.not_mem_nil, or_false, not_or]
          exact ⟨Nat.ne_of_lt (Nat.lt_succ_self _), Nat.ne_of_gt hlS⟩
        have hsz : xs.length = items.size := by rw [← StrsAre.len_eq hi, Array.length_toList]
        have hval : ∀ (i : Nat) (v : Value), items[i]? = some v → ∃ t, v = .str (xs.getD i Str.empty) t := fun i v hv => SS.strs_at hi i v (by rw [Array.getElem?_toList]; exact hv)
        refine loopTx ((Walks.tuple hh3 _ l hneI items).toS) s.heap.objs.size
          hSf xs hsz (by rw [← hsz]; exact hn1) hval (items.size - 0) 0 _ (by omega) (Nat.zero_le _)
          ⟨⟨_, Heap.get?_push_size _ rfl, rfl, rfl⟩, (hl1.push _)⟩ ?hS0 ?hR
        case hS0 =>
          have hget : ((s.heap.push { cls := .type "set", dict := none, data := .set #[] 0 (.fresh 0 0 led) }).push { cls := .type "tuple_iterator", data := .fields #[.ref l, .int 0 0] }).get? s.heap.objs.size
              = some { cls := .type "set", dict := none, data := .set #[] 0 (.fresh 0 0 led) } := Heap.get?_push_of_some _ hS
          exact PyProof.Rows.SetOf_congr ((PyProof.Rows.setObjOf_fresh (knd := PySem.strKind prog w) led).setOf hget (by unfold scanBound; omega)) (fun _ => rfl) rfl
        case hR =>
          intro s' hm hS'
          obtain ⟨h', g', d', tk', os'⟩ := s'
          have eg : g' = s.gens := hm.gens
          have ed : d' = s.drawn := hm.drawn
          have eo : os' = s.os := hm.os
          subst eg; subst ed; subst eo
          show wpAny _ _ _ _ _ _
          refine wpAny_pure ?_
          show wpAny _ _ (ret Value.none) _ _ _
          refine wpAny_pure ⟨rfl, h', tk', rfl, hS', fun b o hb e => ?_⟩
          have hb1 : b ≠ s.heap.objs.size := Nat.ne_of_lt hb
          have hb2 : b ≠ (s.heap.push { cls := .type "set", dict := none, data := .set #[] 0 (.fresh 0 0 led) }).objs.size := by
            rw [Heap.size_push]; exact Nat.ne_of_lt (Nat.lt_succ_of_lt hb)
          exact hm.heap b o (by simp only [List.mem_cons, List.mem_singleton, List.not_mem_nil, or_false, not_or]; exact ⟨hb1, hb2⟩) (Heap.get?_push_of_some _ (Heap.get?_push_of_some _ e))

      · cases r₂ with
        | error e => exact hr₂
        | ok fl₂ =>
          cases fl₂ with
          | ret r =>
            obtain ⟨rfl, h', tk, rfl, hS', hk'⟩ := hr₂
            repeat (any_goals (first | assumption | wp_step))
            exact h _ _ hS' hk'
          | _ => exact hr₂.elim
    | _ => exact hr.elim

end
end Pu
end
section
open PySem PySem.W PySem.Spec PyProof.Rows L2
set_option Elab.async false
set_option linter.unusedVariables false
set_option maxRecDepth 100000
set_option maxHeartbeats 4000000
namespace Pu
def tLenSetX (K : PySem.W.Frag) (ta : TE) : TE := fun sg H Q => ta sg H fun x H1 => ∃ l, ∃ xs : List Str, x = .ref l ∧ SqT K H1 l (xs.map V.str) ∧ xs.length + 1 < scanBound ∧ Q (.int (dd xs).length) H1
section
variable {X : Cx} {a : Expr} {ta : TE} {tr : TR} {p p2 q pos : Pos}
theorem pe_lenSetX (hc : X.calm = true) (hg : Gl X "len") (hm : X.mg "len" = none) (hg2 : Gl X "set") (hm2 : X.mg "set" = none) (ha : PE X a ta)
    (na : starEach [a] X.env = (false, eval a X.env) :: starEach [] X.env := by rfl) : PE X (.Call (.Name "len" p) [.Call (.Name "set" p2) [a] [] q] [] pos) (tLenSetX X.K ta) := by
  refine ⟨fun pins s sg H Q I h => ?_⟩
  refine Call_ (ld_blt I hg hm boot_len ?_)
  refine PyProof.Rows.callWith_builtin1 (PyProof.Rows.args_cons ?_ rfl) rfl rfl
  refine Call_ (ld_blt I hg2 hm2 boot_set ?_)
  refine PyProof.Rows.callWith_type1 (PyProof.Rows.args_cons (thn (ha.run pins s sg H _ I h) fun v s1 ⟨x, H1, I1, r1, q1⟩ => PyProof.Rows.args_nil ?_) na) na rfl
  obtain ⟨l, xs, rfl, hq, h1, q1⟩ := q1
  cases r1
  obtain ⟨its, r, pl, hz⟩ := I1.tuple hq
  refine call_set_tx (I1.ok.hd hc) pl (by simpa using strsAre_of r) h1 fun h' tk hS hk => ?_
  refine PyProof.Rows.args_nil ?_
  have hl : its.toArray.size = xs.length := by rw [List.size_toArray, ← r.length, List.length_map]
  rw [hl, List.take_length] at hS
  obtain ⟨o, es, ep, t, ho, hex, hd, _, _, _, hf, hn⟩ := hS
  have I2 : Inv X pins sg H1 { s1 with heap := h', toks := tk } := I1.kept fun b o e => hk b o (Heap.lt_size e) e
  have hb := dd_le xs
  unfold scanBound at h1
  refine call_len_set ho hex hd hf (by rw [hn] <;> omega) ⟨.int (dd xs).length, H1, I2.tok _, ⟨_, by rw [hn]⟩, q1⟩
def rLenSet (t : TR) : TR := fun sg Q => t sg fun o => ∃ xs : List Str, o = .ro (.tup (xs.map D.str)) ∧ xs.length + 1 < scanBound ∧ Q (.ro (.int (dd xs).length))
theorem lr_lenSet (hc : X.calm = true) (hg : Gl X "len") (hm : X.mg "len" = none) (hg2 : Gl X "set") (hm2 : X.mg "set" = none) (ha : LR X a tr)
    (na : starEach [a] X.env = (false, eval a X.env) :: starEach [] X.env := by rfl) : LR X (.Call (.Name "len" p) [.Call (.Name "set" p2) [a] [] q] [] pos) (rLenSet tr) := pe_weak (pe_lenSetX hc hg hm hg2 hm2 ha na) fun sgV H Q ⟨R, sg, fp, Qp, sl, s, ht, k⟩ => by
  refine ⟨R, sg, fp, _, sl, s, ht, fun v H1 R1 o f q w hq => ?_⟩
  obtain ⟨xs, rfl, hb, hq⟩ := hq
  obtain ⟨a, vs, rfl, we, h⟩ := own_seq q.s w rfl
  have ev : vs = xs.map V.str := by
    obtain ⟨_, a', vs', e, h2, h3⟩ := w
    have : ∀ {xs : List Str} {vs : List V}, RoL X.K R1 (xs.map D.str) vs → vs = xs.map V.str := by
      intro xs
      induction xs with
      | nil => intro vs h; exact h
      | cons x xs ih => intro vs h; obtain ⟨v, r, rfl, hv, h⟩ := h; rw [ih h, show v = V.str x from hv]; rfl
    exact this we.toRo
  subst ev
  refine ⟨a, xs, rfl, ?_, hb, k _ H1 R1 _ [] q (by exact ⟨rfl, rfl⟩) hq⟩
  rcases h with ⟨_, ds, e⟩ | ⟨h, _⟩
  · cases e
  · exact h
end
end Pu
end
section
open PySem PySem.W PySem.Spec PyProof.Rows L2
set_option Elab.async false
set_option linter.unusedVariables false
set_option maxRecDepth 100000
set_option maxHeartbeats 4000000
namespace Pu
/-! ### contracts: what must hold ahead, what may come of it -/
def Spc (pre : List O → Prop) (post : List O → O → List O → Prop) : PSp := fun os Q _ => pre os ∧ ∀ r os', post os r os' → Q r os'
theorem Spc.mono {pre post} : PMono (Spc pre post) := fun os Q1 Q2 E1 E2 h _ ⟨p, q⟩ => ⟨p, fun r os' z => h r os' (q r os' z)⟩
section
variable (P : Program) (w : World) (K : PySem.W.Frag) (mg : Str → Option Value) (base : Heap)
/-- the def x of the module keeps psi_ -/
def Cal (k : Nat) (x : Str) (n : Nat) (psi_ : PSp) : Prop := PMono psi_ ∧ ∃ f fd ps, FnOk P w K mg base CX0 k f fd ps (spP K n psi_) ∧ mg x = some (.ref f) ∧ PySem.W.keepIn K (.ref f) = true ∧ Binds K fd ps []
/-- the method m of C keeps psi_ -/
def CalM (k : Nat) (C : Addr) (m : Str) (n : Nat) (psi_ : PSp) : Prop := PMono psi_ ∧ Cls K C ∧ ∃ f fd ps, FnOk P w K mg base CX0 k f fd ps (spP K (n + 1) psi_) ∧ Meth K C m f ∧ Binds K fd ps []
/-- the class x, its __init__ keeps psi_ -/
def CalC (k : Nat) (x : Str) (C : Addr) (n : Nat) (psi_ : PSp) : Prop := PMono psi_ ∧ mg x = some (.ref C) ∧ ∃ f fd ps, FnOk P w K mg base CX0 k f fd ps (spP K (n + 1) psi_) ∧ Mk K C f ∧ Binds K fd ps []
end
section
variable {X : Cx} {k k' n : Nat} {f C : Addr} {fd : FuncData} {ps : List Str} {psi_ : PSp} {x m : Str} {p pos apos : Pos} {e o : Expr} {es : List Expr} {ta : TAX}
theorem lo_fn (G : Cal X.prog X.w X.K X.mg X.base k x n psi_) (hr : Room k' X.A) (hkk : k ≤ k') (hg : Gl X x)
    (ha : LAX X (e :: es) ta) (hdb : (x == ("__debug__" : Str)) = false := by decide) (he : starEach (e :: es) X.env = (false, eval e X.env) :: starEach es X.env := by rfl) (hpl : (backTo pos (starEach es X.env)).any (·.1) = false := by rfl) :
    LO X (.Call (.Name x p) (e :: es) [] pos) (wCall n psi_ ta) := by
  obtain ⟨mono, f, fd, ps, F, hm, hk, hb⟩ := G
  exact lo_call F mono (hr.mono hkk) hg hm hk hb ha hdb he hpl
theorem lo_fn0 (G : Cal X.prog X.w X.K X.mg X.base k x 0 psi_) (hr : Room k' X.A) (hkk : k ≤ k') (hg : Gl X x)
    (hdb : (x == ("__debug__" : Str)) = false := by decide) : LO X (.Call (.Name x p) [] [] pos) (wCall 0 psi_ axN) := by
  obtain ⟨mono, f, fd, ps, F, hm, hk, hb⟩ := G
  exact lo_call0 F mono (hr.mono hkk) hg hm hk hb hdb
theorem lo_mR {tr : TM} {pl : Sem Bool} (G : CalM X.prog X.w X.K X.mg X.base k C m n psi_) (hr : Room k' X.A) (hkk : k ≤ k') (he : LM X o tr) (ha : LAX X (e :: es) ta)
    (hst : starEach (e :: es) X.env = (false, eval e X.env) :: starEach es X.env := by rfl) (hpl : (backTo pos (starEach es X.env)).any (·.1) = false := by rfl)
    (ht : eval (.Call (.Attribute o m apos) (e :: es) [] pos) X.env = (do
      let ov ← eval o X.env
      standAt apos.atName
      let (f, first) ← holding [ov] (getMethod ov m pl)
      callWith pos f first (backTo pos (starEach (e :: es) X.env)) (backToKw pos (keywordEach [] X.env))) := by rfl) :
    LO X (.Call (.Attribute o m apos) (e :: es) [] pos) (wMethR C m n psi_ tr ta) := by
  obtain ⟨mono, c, f, fd, ps, F, hm, hb⟩ := G
  exact lo_methR he c hm F mono (hr.mono hkk) hb ha hst hpl ht
theorem lo_mR0 {tr : TM} {pl : Sem Bool} (G : CalM X.prog X.w X.K X.mg X.base k C m 0 psi_) (hr : Room k' X.A) (hkk : k ≤ k') (he : LM X o tr)
    (ht : eval (.Call (.Attribute o m apos) [] [] pos) X.env = (do
      let ov ← eval o X.env
      standAt apos.atName
      let (f, first) ← holding [ov] (getMethod ov m pl)
      callWith pos f first (backTo pos (starEach [] X.env)) (backToKw pos (keywordEach [] X.env))) := by rfl) :
    LO X (.Call (.Attribute o m apos) [] [] pos) (wMethR C m 0 psi_ tr axN) := by
  obtain ⟨mono, c, f, fd, ps, F, hm, hb⟩ := G
  exact lo_methR0 he c hm F mono (hr.mono hkk) hb ht
theorem lo_mS (i : Nat) {xs : Str} {px : Pos} {pl : Sem Bool} (G : CalM X.prog X.w X.K X.mg X.base k C m n psi_) (hr : Room k' X.A) (hkk : k ≤ k') (ha : LAX X (e :: es) ta)
    (hN : X.N[i]? = some xs := by rfl) (hv : Vis X.env.scope xs := by first | exact Or.inl rfl | exact Or.inr (Or.inl rfl) | exact Or.inr (Or.inr rfl)) (hd : (xs == ("__debug__" : Str)) = false := by decide) (hcd : (xs == ("__classdict__" : Str)) = false := by decide)
    (hst : starEach (e :: es) X.env = (false, eval e X.env) :: starEach es X.env := by rfl) (hpl : (backTo pos (starEach es X.env)).any (·.1) = false := by rfl)
    (ht : eval (.Call (.Attribute (.Name xs px) m apos) (e :: es) [] pos) X.env = (do
      let ov ← eval (.Name xs px) X.env
      standAt apos.atName
      let (f, first) ← holding [ov] (getMethod ov m pl)
      callWith pos f first (backTo pos (starEach (e :: es) X.env)) (backToKw pos (keywordEach [] X.env))) := by rfl) :
    LO X (.Call (.Attribute (.Name xs px) m apos) (e :: es) [] pos) (wMethS C m n psi_ i ta) := by
  obtain ⟨mono, c, f, fd, ps, F, hm, hb⟩ := G
  exact lo_methS i c hm F mono (hr.mono hkk) hb ha hN hv hd hcd hst hpl ht
theorem lo_mS0 (i : Nat) {xs : Str} {px : Pos} (G : CalM X.prog X.w X.K X.mg X.base k C m 0 psi_) (hr : Room k' X.A) (hkk : k ≤ k') {pl : Sem Bool}
    (hN : X.N[i]? = some xs := by rfl) (hv : Vis X.env.scope xs := by first | exact Or.inl rfl | exact Or.inr (Or.inl rfl) | exact Or.inr (Or.inr rfl)) (hd : (xs == ("__debug__" : Str)) = false := by decide) (hcd : (xs == ("__classdict__" : Str)) = false := by decide)
    (ht : eval (.Call (.Attribute (.Name xs px) m apos) [] [] pos) X.env = (do
      let ov ← eval (.Name xs px) X.env
      standAt apos.atName
      let (f, first) ← holding [ov] (getMethod ov m pl)
      callWith pos f first (backTo pos (starEach [] X.env)) (backToKw pos (keywordEach [] X.env))) := by rfl) :
    LO X (.Call (.Attribute (.Name xs px) m apos) [] [] pos) (wMethS C m 0 psi_ i axN) := by
  obtain ⟨mono, c, f, fd, ps, F, hm, hb⟩ := G
  exact lo_methS0 i c hm F mono (hr.mono hkk) hb hN hv hd hcd ht
theorem lo_mk (G : CalC X.prog X.w X.K X.mg X.base k x C n psi_) (hr : Room k' X.A) (hkk : k + 1 ≤ k') (hg : Gl X x)
    (ha : LAX X (e :: es) ta) (hdb : (x == ("__debug__" : Str)) = false := by decide) (he : starEach (e :: es) X.env = (false, eval e X.env) :: starEach es X.env := by rfl) (hpl : (backTo pos (starEach es X.env)).any (·.1) = false := by rfl) :
    LO X (.Call (.Name x p) (e :: es) [] pos) (wMake C n psi_ ta) := by
  obtain ⟨mono, hm, f, fd, ps, F, M, hb⟩ := G
  exact lo_make M F mono (hr.mono hkk) hg hm hb ha hdb he hpl
end
end Pu
end
section
open PySem PySem.W PySem.Spec PyProof.Rows L2
set_option Elab.async false
set_option linter.unusedVariables false
set_option maxRecDepth 100000
set_option maxHeartbeats 4000000
namespace Pu
/-! ### lists and tuples put together; + and * of whatever comes -/
def rCatL (K : PySem.W.Frag) : R2 := fun x y H Q => ∃ l b xs zs, x = .ref l ∧ y = .ref b ∧ SqL K H l xs ∧ SqL K H b zs ∧ xs.length + zs.length ≤ sizeLine ∧ ∀ p, H p = none → Q (.ref p) (upd H p (.lst (xs ++ zs)))
theorem op_catL {X : Cx} : OpR X (binaryOp .Add) (rCatL X.K) := by
  intro pins s sg H x y v u Q I rx ry h
  obtain ⟨l, b, xs, zs, rfl, rfl, hH, hB, hz, q⟩ := h
  cases rx
  cases ry
  obtain ⟨its, r, pl, hl⟩ := I.list hH
  obtain ⟨its2, r2, pl2, hl2⟩ := I.list hB
  obtain ⟨⟨cls, dd, data, sl⟩, ho, hc, n, hd⟩ := pl.isList
  obtain ⟨⟨cls2, dd2, data2, sl2⟩, ho2, hc2, n2, hd2⟩ := pl2.isList
  simp only at hc hd hc2 hd2
  subst hc hd hc2 hd2
  have e1 := r.length
  have e2 := r2.length
  have ea : its.toArray ++ its2.toArray = (its ++ its2).toArray := by simp
  refine PySem.concat_meets ⟨_, ho, rfl⟩ ⟨_, ho2, rfl⟩ PySem.noFill_list_add PySem.seq_list_add PySem.F.slot_list_add PySem.F.entry_list_add (PySem.F.args_list_add_2 _ _) (list_addW l b its.toArray its2.toArray n n2 dd dd2 sl sl2 (by simp; omega)) ⟨ho, ho2, ?_⟩
  rw [ea]
  exact ⟨.ref _, _, I.lnew (t' := s.toks) (r.append r2) (by rw [List.length_append]; omega), rfl, q _ I.fresh⟩
section
variable {K : PySem.W.Frag}
theorem V2.or {r r' : R2} {p p' : P2} (h : V2 K r p) (h' : V2 K r' p') : V2 K (fun x y H Q => r x y H Q ∨ r' x y H Q) (fun a b Q => p a b Q ∨ p' a b Q) := fun R H x y o1 o2 f1 f2 Qp Q s w1 w2 hp k => by
  rcases hp with hp | hp
  · exact .inl (h R H x y o1 o2 f1 f2 Qp Q s w1 w2 hp k)
  · exact .inr (h' R H x y o1 o2 f1 f2 Qp Q s w1 w2 hp k)
def pCat : P2 := fun a b Q => ∃ (xs ys : List D), a.d = .lst xs ∧ a.seq = some (xs.map .ro) ∧ b.d = .lst ys ∧ b.seq = some (ys.map .ro) ∧ xs.length + ys.length ≤ sizeLine ∧ Q (.ro (.lst (xs ++ ys)))
def pCatT : P2 := fun a b Q => ∃ (xs ys : List D), a = .ro (.tup xs) ∧ b = .ro (.tup ys) ∧ xs.length + ys.length ≤ sizeLine ∧ Q (.ro (.tup (xs ++ ys)))
theorem own_lst {R H : Hp} {o : O} {v : V} {f : List Addr} {ds : List D} (s : Same R H) (w : Own K R H o v f) (hd : o.d = .lst ds) (hs : o.seq = some (ds.map .ro)) : ∃ a vs, v = .ref a ∧ SqL K H a vs ∧ RoL K R ds vs := by
  obtain ⟨a, vs, rfl, we, h⟩ := own_seq s w hs
  rcases h with ⟨h, _⟩ | ⟨_, ts, rfl, _⟩
  · exact ⟨a, vs, rfl, h, we.toRo⟩
  · cases hd
theorem v_cat : V2 K (rCatL K) pCat := fun R H x y o1 o2 f1 f2 Qp Q s w1 w2 ⟨xs, ys, h1, h2, h3, h4, hz, q⟩ k => by
  obtain ⟨a, vs, rfl, sa, wa⟩ := own_lst s w1 h1 h2
  obtain ⟨b, us, rfl, sb, wb⟩ := own_lst s w2 h3 h4
  refine ⟨a, b, vs, us, rfl, rfl, sa, sb, by rw [wa.len, wb.len]; exact hz, fun p hp => ?_⟩
  have ⟨n1, n2⟩ := new_lst s (wa.app wb) hp
  exact k _ _ _ _ [] n1 (by exact ⟨rfl, n2⟩) q
theorem v_catT : V2 K (rCatA K) pCatT := fun R H x y o1 o2 f1 f2 Qp Q s w1 w2 ⟨xs, ys, e1, e2, hz, q⟩ k => by
  subst e1 e2
  obtain ⟨_, a, vs, rfl, h2, h3⟩ := w1
  obtain ⟨_, b, us, rfl, h4, h5⟩ := w2
  refine ⟨a, b, vs, us, rfl, rfl, .inl (.inl (s _ _ h2)), .inl (.inl (s _ _ h4)), by rw [h3.len, h5.len]; exact hz, fun e => ?_, fun e1 e2 => ?_, fun e1 e2 p hp => ?_⟩
  · have : xs = [] := by
      have := h3.len
      rw [e] at this
      exact List.length_eq_zero_iff.mp this.symm
    subst this
    exact k _ H R _ [] (Quiet.refl s) (by exact ⟨rfl, b, us, rfl, h4, h5⟩) q
  · have : ys = [] := by
      have := h5.len
      rw [e2] at this
      exact List.length_eq_zero_iff.mp this.symm
    subst this
    rw [List.append_nil] at q
    exact k _ H R _ [] (Quiet.refl s) (by exact ⟨rfl, a, vs, rfl, h2, h3⟩) q
  · have ⟨n1, n2⟩ := new_tup s (h3.app h5) hp
    exact k _ _ _ _ [] n1 (by exact ⟨rfl, n2⟩) q
/-- + -/
def pAddU : P2 := fun a b Q => pAdd a b Q ∨ pAddS a b Q ∨ pCat a b Q ∨ pCatT a b Q
theorem op_addU {X : Cx} : OpR X (binaryOp .Add) (fun x y H Q => rI0 (fun i j => .int (i + j)) x y H Q ∨ (∃ i j, x = .str i ∧ y = .str j ∧ i.length + j.length ≤ sizeLine ∧ Q (.str (i ++ j)) H) ∨ rCatL X.K x y H Q ∨ rCatA X.K x y H Q) := op_add.or (op_add_str.or (op_catL.or op_catA))
theorem v_addU : V2 K (fun x y H Q => rI0 (fun i j => .int (i + j)) x y H Q ∨ (∃ i j, x = .str i ∧ y = .str j ∧ i.length + j.length ≤ sizeLine ∧ Q (.str (i ++ j)) H) ∨ rCatL K x y H Q ∨ rCatA K x y H Q) pAddU := v_add.or (v_addS.or (v_cat.or v_catT))
/-- * of ints and of texts -/
def pMulU : P2 := fun a b Q => pMul a b Q ∨ pMulS a b Q
theorem op_mulU {X : Cx} : OpR X (binaryOp .Mult) (fun x y H Q => rI CMul (fun i j => .int (i * j)) x y H Q ∨ rMulS x y H Q) := op_mul.or op_mulS
theorem v_mulU : V2 K (fun x y H Q => rI CMul (fun i j => .int (i * j)) x y H Q ∨ rMulS x y H Q) pMulU := v_mul.or v_mulS
end
end Pu
end
section
open PySem PySem.W PySem.Spec PyProof.Rows L2
set_option Elab.async false
set_option linter.unusedVariables false
set_option maxRecDepth 100000
set_option maxHeartbeats 4000000
namespace Pu
/-! ### enumerate(tuple) -/
theorem meets_enum1 {v : Value} {o : Obj} {H : Heap → Prop} (B : Begins v o H) :
    Meets (Builtin.«enumerate.__new__» ⟨[.type "enumerate", v], []⟩) (fun _ R s => H s.heap ∧
      R (.ok (.ret (.ref (s.heap.push o).objs.size))) { s with heap := (s.heap.push o).push { cls := .type "enumerate", data := .fields #[.none, .bool false, .ref s.heap.objs.size, rawInt 0, .none, .none] } }) :=
  .of_wp fun prog w A R s h => by
    obtain ⟨hp, g, d, tk, os⟩ := s; obtain ⟨h1, h⟩ := h
    have hsub := sub_enumerate
    have q1 : ∀ {A' : Around} {E : Value → Shared → Prop} {Q : Value → Shared → Prop}, Q (.ref hp.objs.size) ⟨hp.push o, g, d, tk, os⟩ → wpAny (model prog w) A' (pyIter v) Q E ⟨hp, g, d, tk, os⟩ :=
      fun q => B.iter prog w _ _ ⟨hp, g, d, tk, os⟩ _ h1 q
    wp_walk using q1
    refine wpAny_stack_any fun st => wpAny_pure ?_
    split
    · rename_i c _ _ _ _ _
      cases (c == Value.type "enumerate")
      · wp_walk using q1
        exact ⟨_, rfl, h⟩
      · wp_walk using q1
        exact ⟨_, rfl, h⟩
    · wp_walk using q1
      exact ⟨_, rfl, h⟩
section
variable {prog : Program} {w : World} {A : Around} {E : Value → Shared → Prop} {s : Shared}
theorem enum1_begins {v : Value} {o : Obj} {H : Heap → Prop} {Q : Value → Shared → Prop} (B : Begins v o H) (h1 : H s.heap)
    (h : ∀ h', IsEnum h' (s.heap.objs.size + 1) s.heap.objs.size 0 .none → h'.get? s.heap.objs.size = some o → h'.objs.size = s.heap.objs.size + 2 →
      (∀ b o, s.heap.get? b = some o → h'.get? b = some o) → Q (.ref (s.heap.objs.size + 1)) { s with heap := h' }) :
    wpAny (model prog w) A (call (.type "enumerate") [v]) Q E s := by
  refine callType_new PySem.F.called_enumerate (by decide) (PySem.F.typeCall_enumerate_1 _) (PySem.F.newCall_enumerate_1 _) (fun obj => PySem.F.args_object_init_2 obj _) PySem.F.entry_enumerate_new
    (meets_enum1 B) ⟨h1, ?_⟩
  have hz : (s.heap.push o).objs.size = s.heap.objs.size + 1 := Heap.size_push ..
  show _ ∧ _
  rw [hz]
  have he : IsEnum ((s.heap.push o).push { cls := .type "enumerate", data := .fields #[.none, .bool false, .ref s.heap.objs.size, rawInt 0, .none, .none] }) (s.heap.objs.size + 1) s.heap.objs.size 0 .none := by
    have := Heap.get?_push_size (s.heap.push o) (o := { cls := .type "enumerate", data := .fields #[.none, .bool false, .ref s.heap.objs.size, rawInt 0, .none, .none] }) rfl
    rw [hz] at this; exact this
  exact ⟨⟨_, he, rfl⟩, h _ he (Heap.get?_push_of_some _ (Heap.get?_push_size _ B.free)) (by rw [Heap.size_push, hz]) fun b o x => Heap.get?_push_of_some _ (Heap.get?_push_of_some _ x)⟩
theorem enumT_end {e it a : Addr} {i : Nat} {items : Array Value} {k : Int} {old : Value} {Q : Option Value → Shared → Prop} (hh : A.in1.handled = none)
    (he : IsEnum s.heap e it k old) (hit : s.heap.IsTupleIter it a i) (ht : s.heap.IsTuple a items) (hle : items.size ≤ i)
    (hQ : ∀ h', Heap.ExtBut it s.heap h' → Q none { s with heap := h' }) : wpAny (model prog w) A (pyNext (.ref e)) Q E s := by
  have hT : s.TypeIs (.ref e) "enumerate" := ⟨_, he, rfl⟩
  unfold pyNext
  refine wpAny_bind (wpAny_attempt (wpAny_callSpecial?_slot (name := Str.ofString "__next__") hT PySem.F.slot_enumerate_next
    (wpAny_call_entry PySem.F.slot_enumerate_next hT PySem.F.entry_enumerate_next ?_ (PySem.F.args_enumerate_next_1 _))))
  show wpAny _ _ (field (.ref e) 2 >>= _) _ _ _
  refine wpAny_bind (wpAny_field he rfl (x := .ref it) rfl ?_)
  refine wpAny_bind (wpAny_nextOf_tuple_end hh hit ht (Array.getElem?_eq_none hle) fun h' x he' hx' => ?_)
  obtain ⟨o, ho, hc⟩ := hx'
  refine wpAny_bind (wpAny_isInstance (T := "StopIteration") (b := true) ⟨o, ho, hc⟩ isSubtype_stop ?_)
  exact wpAny_pure (hQ _ he')
end
/-- the tuple at a, each item in a new pair -/
def IteT (K : PySem.W.Frag) (a : Addr) : It :=
  ⟨fun i H => ∃ (xs : List V) (x : V), SqT K H a xs ∧ xs[i]? = some x, fun i H v H' => ∃ T x, v = .ref T ∧ H T = none ∧ H' = upd H T (.tup [.int (i : Nat), x]) ∧ ∀ xs, SqT K H a xs → xs[i]? = some x, fun i H => ∃ xs : List V, SqT K H a xs ∧ xs.length ≤ i⟩
theorem turn_enumT {P : Program} {w : World} {K : PySem.W.Frag} {elts : List Expr} {kk : Nat} {tpos : Pos} (a e it : Addr) :
    Turn P w K (.Tuple elts kk tpos) (IteT K a) [e, it] e (fun i h => (∃ old, IsEnum h e it ((i : Nat) : Int) old) ∧ h.IsTupleIter it a i ∧ e ≠ it) where
  mem := by simp
  obj := fun i h st b hb => by
    obtain ⟨⟨old, he⟩, ⟨o, ho, hc, hd⟩, _⟩ := st
    have e' : b = e ∨ b = it := by simpa using hb
    rcases e' with z | z
    · rw [z]; exact ⟨_, he, fun v q => nomatch q⟩
    · rw [z]; exact ⟨o, ho, fun v q => by rw [hd] at q; cases q⟩
  keep := fun i h h' st k => let ⟨⟨old, he⟩, hi, hne⟩ := st; ⟨⟨old, k e (by simp) _ he⟩, hi.at fun o q => k it (by simp) o q, hne⟩
  item := by
    intro X hP hw hK hc i pins s sg H E I hf st hg
    subst hP hw hK
    obtain ⟨⟨old, he⟩, hit, hne⟩ := st
    obtain ⟨xs, x, hq, hx⟩ := hg
    obtain ⟨its, rv, p, hz⟩ := I.tuple hq
    obtain ⟨u, hu, ru⟩ := rv.get hx
    have hel : e < s.heap.objs.size := Heap.lt_size he
    have hil : it < s.heap.objs.size := by obtain ⟨_, q, _⟩ := hit; exact Heap.lt_size q
    have hea : e ≠ a := fun z => by
      obtain ⟨o, ho, hc, _⟩ := p
      rw [← z] at ho
      have := he.symm.trans ho
      injection this with this
      rw [← this] at hc
      exact absurd (show Value.type "enumerate" = Value.type "tuple" from hc) (by decide)
    have hia : a ≠ it := fun z => by
      obtain ⟨o, ho, hc, _⟩ := p
      obtain ⟨o2, ho2, hc2, _⟩ := hit
      rw [z] at ho
      have := ho2.symm.trans ho
      injection this with this
      rw [← this, hc2] at hc
      exact absurd hc (by decide)
    have hlt : i < its.toArray.size := by
      have := List.getElem?_eq_some_iff.mp hu
      simpa using this.1
    refine wpAny_pyNext_enum_itemD (Draws.tuple (by exact I.ok.hd hc) it a hia its.toArray) he ⟨hit, p⟩ hlt hne (by simp [hne, hea]) fun x2 h' tk hP ho hit' hT hsz hk => ?_
    have ex : x2 = u := by
      have h1 : its[i]? = some x2 := by simpa using hP
      exact Option.some.inj (h1.symm.trans hu)
    subst ex
    refine ⟨_, rfl, wpAny_letOwnedTupleGo_enum (s := { s with heap := h', toks := tk + 1 }) ho fun h'' he' sb => ?_⟩
    have hT2 : h''.get? s.heap.objs.size = some { cls := .type "tuple", data := .seq #[.int i tk, x2] } := (sb.2 _ (Nat.ne_of_gt hel)).trans hT
    have new : ObjOk X.prog X.w (upd H s.heap.objs.size (.tup [.int (i : Nat), x])) h'' s.heap.objs.size (.tup [.int (i : Nat), x]) :=
      ⟨by show 2 ≤ sizeLine; decide, [.int i tk, x2], .cons ⟨_, rfl⟩ (.cons ru .nil), ⟨_, hT2, rfl, _, rfl⟩⟩
    have I1 : Inv X pins sg (upd H s.heap.objs.size (.tup [.int (i : Nat), x])) { s with heap := h'', toks := tk + 1 } :=
      I.turnedNew (ch := [e, it]) (fun b ob hb q => (sb.2 b (fun z => hb (by simp [z]))).trans (hk b ob (fun z => hb (by simp [z])) (fun z => hb (by simp [z])) q)) hf (Nat.le_refl _) new
    refine ⟨.ref s.heap.objs.size, _, I1, rfl, ⟨_, x, rfl, I.hok.fresh (Nat.le_refl _), rfl, fun ys hy => ?_⟩, ⟨⟨x2, ?_⟩, hit'.1.at fun o q => (sb.2 it (Ne.symm hne)).trans q, hne⟩, fun b hb => ?_⟩
    · obtain ⟨its2, rv2, p2, _⟩ := I.tuple hy
      have e2 : its2.toArray = its.toArray := by
        obtain ⟨o, ho, _, n, hd⟩ := p
        obtain ⟨o2, ho2, _, n2, hd2⟩ := p2
        have := ho.symm.trans ho2
        injection this with this
        subst this
        rw [hd] at hd2
        cases hd2
        rfl
      have e3 : its2 = its := by simpa using congrArg Array.toList e2
      subst e3
      rw [Vals.inj rv2 rv]
      exact hx
    · have e1 : ((i + 1 : Nat) : Int) = (i : Int) + 1 := by omega
      rw [e1]; exact he'
    · have hb' : b < s.heap.objs.size := by
        have e' : b = e ∨ b = it := by simpa using hb
        rcases e' with z | z
        · rw [z]; exact hel
        · rw [z]; exact hil
      rw [upd_ne (Nat.ne_of_lt hb')]
      exact (hf b hb).1
  done := by
    intro X hP hw hK hc i pins s sg H E I hf st hg
    subst hP hw hK
    obtain ⟨⟨old, he⟩, hit, hne⟩ := st
    obtain ⟨xs, hq, hx⟩ := hg
    obtain ⟨its, rv, p, hz⟩ := I.tuple hq
    obtain ⟨f0, f1, f2, f3, f4, f5⟩ := hf it (by simp)
    have hl := rv.length
    exact enumT_end (by exact I.ok.hd hc) he hit p (by simp; omega) fun h' eb => ⟨rfl, I.turned (t' := s.toks) (fun b o hb q => eb b o hb q) f0 f1 f3 f4 f5⟩
  self := fun A i s Q E st h => let ⟨⟨_, he⟩, _⟩ := st; wpAny_pyIter_enum he h
def iEnumT (K : PySem.W.Frag) (ta : TA) : TI := fun sg H R => ta sg H fun vs H1 => ∃ a xs, vs = [.ref a] ∧ SqT K H1 a xs ∧ R (IteT K a) H1
theorem pi_enumT {X : Cx} {e : Expr} {ta : TA} {p pos tpos : Pos} {elts : List Expr} {kk : Nat} (hg : Gl X "enumerate") (hm : X.mg "enumerate" = none) (ha : PA X [e] ta) (hs : starEach [e] X.env = [(false, eval e X.env)] := by rfl) :
    PI X (.Tuple elts kk tpos) (.Call (.Name "enumerate" p) [e] [] pos) (iEnumT X.K ta) := by
  refine ⟨fun pins s sg H R I h => ?_⟩
  refine Call_ (ld_blt I hg hm boot_enumerate (PyProof.Rows.callWith_type1 (thn (ha.run pos pins s sg H _ I h) fun us s1 ⟨vs, H1, I1, r1, q1⟩ => ?_) hs rfl))
  obtain ⟨a, xs, ex, hq, q⟩ := q1
  subst ex
  cases r1 with
  | cons r rr =>
    cases rr
    cases r
    obtain ⟨its, rv, p', hz⟩ := I1.tuple hq
    refine enum1_begins (begins_tuple a its.toArray) p' fun h' he hit hsz hk => wpAny_pyIter_enum he ?_
    have I2 : Inv X pins sg H1 { s1 with heap := h' } := I1.kept (t' := s1.toks) hk
    refine ⟨s1.heap.objs.size + 1, [s1.heap.objs.size + 1, s1.heap.objs.size], _, _, H1, rfl, I2, turn_enumT a (s1.heap.objs.size + 1) s1.heap.objs.size, ⟨⟨.none, he⟩, ⟨_, hit, rfl, rfl⟩, Nat.succ_ne_self _⟩, fun b hb => ?_, q⟩
    have e' : b = s1.heap.objs.size + 1 ∨ b = s1.heap.objs.size := by simpa using hb
    have hle : s1.heap.objs.size ≤ b := by
      rcases e' with z | z
      · rw [z]; exact Nat.le_add_right _ _
      · rw [z]; exact Nat.le_refl _
    exact I1.fpOk hle (I1.hok.fresh hle)
def iEnT (t : TAM) : TIp := fun sg Q => t sg fun ds sg' => match ds with
  | [.tup xs] => Q (enD 0 xs) sg'
  | _ => False
section
variable {K : PySem.W.Frag} {R : Hp}
theorem wk_enumT {a : Addr} {ds : List D} {vs : List V} (h : R a = some (.tup vs)) (w : RoL K R ds vs) : Wk K (IteT K a) R (enD 0 ds) := fun i R2 H2 s s2 => by
  have h2 : SqT K H2 a vs := SqT.of (s2 _ _ (s _ _ h))
  have len : ∀ (n : Nat) (ds : List D), (enD n ds).length = ds.length := by
    intro n ds
    induction ds generalizing n with
    | nil => rfl
    | cons d r ih => show (enD (n + 1) r).length + 1 = _; rw [ih]; rfl
  have get : ∀ (ds : List D) (n i : Nat) (d : D), (enD n ds)[i]? = some d → ∃ e, ds[i]? = some e ∧ d = .tup [.int ((n + i : Nat) : Int), e] := by
    intro ds
    induction ds with
    | nil => intro n i d h; cases h
    | cons d r ih =>
      intro n i d' h
      cases i with
      | zero => cases h; exact ⟨d, rfl, rfl⟩
      | succ i =>
        obtain ⟨e, h1, h2⟩ := ih (n + 1) i d' h
        exact ⟨e, h1, by rw [h2, show n + 1 + i = n + (i + 1) by omega]⟩
  refine ⟨fun d e => ?_, fun e => ⟨vs, h2, by rw [w.len, ← len 0 ds]; exact List.getElem?_eq_none_iff.mp e⟩⟩
  obtain ⟨d0, e0, rfl⟩ := get ds 0 i d e
  obtain ⟨v, hv, wv⟩ := w.get e0
  refine ⟨⟨vs, v, h2, hv⟩, fun x H' y => ?_⟩
  obtain ⟨T, x', rfl, hT, rfl, hx⟩ := y
  have := hx vs h2
  rw [hv] at this
  cases this
  have e2 : (0 + i : Nat) = i := by omega
  rw [e2]
  exact pair_new s2 (a := .int (i : Nat)) rfl (Ro.mono s _ _ wv) hT
end
theorem li_enumT {X : Cx} {e : Expr} {p pos tpos : Pos} {elts : List Expr} {kk : Nat} {t : TAM} (hg : Gl X "enumerate") (hm : X.mg "enumerate" = none) (ha : LAM X [e] t) (hs : starEach [e] X.env = [(false, eval e X.env)] := by rfl) :
    LI X (.Tuple elts kk tpos) (.Call (.Name "enumerate" p) [e] [] pos) (iEnT t) := pi_weak (pi_enumT hg hm ha hs) fun sgV H Q ⟨B, R, sg, Qp, r, ht, k⟩ => by
  refine ⟨B, R, sg, _, r, ht, fun vs H' R' ds sg' s r' w hq => ?_⟩
  split at hq
  · rename_i xs
    obtain ⟨v, rr, rfl, w1, w2⟩ := w
    have w2 : rr = [] := w2
    subst w2
    obtain ⟨a, us, rfl, hs, w⟩ := w1
    exact ⟨a, us, rfl, SqT.of (r'.sub _ _ hs), k _ H' R' _ sg' s r' (wk_enumT hs w) hq⟩
  · exact hq.elim
end Pu
end
section
open PySem PySem.W PySem.Spec PyProof.Rows L2
set_option Elab.async false
set_option linter.unusedVariables false
set_option maxRecDepth 100000
set_option maxHeartbeats 4000000
namespace Pu
/-! ### isinstance of a built-in type -/
theorem lr_ty {X : Cx} {x : Str} {n : String} {pos : Pos} (hg : Gl X x) (hm : X.mg x = none) (hv : bootBuiltins x = some (.type n)) (hn : x ≠ "__name__" := by decide) (hd : (x == ("__debug__" : Str)) = false := by decide) : LR X (.Name x pos) (rC (.ty n)) :=
  lr_c (pe_bltn (v := .ty n) hg hm hv rfl hn hd) fun _ _ => rfl
def D.tyn : D → Option String
  | .non => some "NoneType" | .bl _ => some "bool" | .int _ => some "int" | .str _ => some "str"
  | .lst _ => some "list" | .tup _ => some "tuple"
  | _ => none
section
variable {K : PySem.W.Frag}
theorem own_ty {R H : Hp} {o : O} {v : V} {f : List Addr} {t : String} (s : Same R H) (w : Own K R H o v f) (h : o.d.tyn = some t) : TyX K H v (.type t) := by
  cases o with
  | lst xs =>
    obtain ⟨a, vs, g, rfl, _, h2, h3⟩ := w
    cases h
    exact .base (.lst h2)
  | dct _ _ => cases h
  | ins _ _ => cases h
  | ro d =>
    obtain ⟨_, w⟩ := w
    cases d with
    | non => cases w; cases h; exact .base .non
    | bl _ => cases w; cases h; exact .base (.bl _)
    | int _ => cases w; cases h; exact .base (.int _)
    | str _ => cases w; cases h; exact .base (.str _)
    | lst _ =>
      obtain ⟨a, vs, rfl, h2, h3⟩ := w
      cases h
      rcases s.seq h2 with (h2 | ⟨ob, h2⟩) | ⟨o, its, n, h2, h4, _⟩
      · exact .base (.lst h2)
      · exact .base (.frz h2)
      · exact .kList h2 h4
    | tup _ =>
      obtain ⟨a, vs, rfl, h2, h3⟩ := w
      cases h
      exact .base (.tup (s _ _ h2))
    | dct _ _ => cases h
    | ins _ _ => cases h
    | ty _ => cases h
def pIsi : PN := fun os Q => ∃ (a : O) (n t : String) (b : Bool), os = [a, .ro (.ty n)] ∧ a.d.tyn = some t ∧ kitB t n = some b ∧ Q (.ro (.bl b))
theorem v_isi : VN K (rIsi K) pIsi := fun R H vs os Qp Q s w ⟨a, n, t, b, e, ht, hb, q⟩ k => by
  subst e
  obtain ⟨v, u, f, g, rfl, w1, w2⟩ := ow2 w
  refine ⟨v, u, .type t, .type n, b, rfl, ?_, own_ty s w1 ht, kit_ty hb, k _ H R _ [] (Quiet.refl s) (by exact ⟨rfl, rfl⟩) q⟩
  rw [show u = V.ty n from w2.2]
  exact .ty n
end
end Pu
end
section
open PySem PySem.W PySem.Spec PyProof.Rows L2
set_option Elab.async false
set_option linter.unusedVariables false
set_option maxRecDepth 100000
set_option maxHeartbeats 4000000
namespace Pu
/-! ### loops, by what holds at each turn -/
theorem for_ind {g : TGp} {tb : TSp} {E : PEnds} (I : List D → PSt → Prop) (fin : ∀ sg, I [] sg → E.nx sg)
    (step : ∀ d rest sg (Kn : PSt → Prop), I (d :: rest) sg → (∀ sg', I rest sg' → Kn sg') → g d sg fun sg1 => tb { nx := Kn, ct := Kn, bk := E.nx, rt := E.rt, ex := E.ex } sg1) :
    ∀ ds sg, I ds sg → forGo g tb E ds sg
  | [], sg, h => fin sg h
  | d :: ds, sg, h => step d ds sg _ h fun sg' h' => for_ind I fin step ds sg' h'
theorem lc_ind {g : TGp} {tt : TB} {te : TM} {vs : List Nat} {Q : List D → PSt → Prop} (I : List D → List D → PSt → Prop) (fin : ∀ acc sg, I [] acc sg → Q acc (wipeP sg vs))
    (step : ∀ d rest acc sg (Kn : List D → PSt → Prop), I (d :: rest) acc sg → (∀ acc' sg', I rest acc' sg' → Kn acc' sg') →
      g d (wipeP sg vs) fun sg1 => tt sg1 fun b sg2 => if b = true then te sg2 fun y sg3 => acc.length < sizeLine ∧ Kn (acc ++ [y]) sg3 else Kn acc sg2) :
    ∀ ds acc sg, I ds acc sg → lcGo g tt te vs Q ds acc sg
  | [], acc, sg, h => fin acc sg h
  | d :: ds, acc, sg, h => step d ds acc sg _ h fun acc' sg' h' => lc_ind I fin step ds acc' sg' h'
/-- either reading will do -/
def sOr (t u : TSp) : TSp := fun D sg => t D sg ∨ u D sg
theorem lss_or {X : Cx} {kp : Nat → Prop} {W : WX} {ss : List Stmt} {t u : TSp} (h1 : LSs X kp W ss t) (h2 : LSs X kp W ss u) : LSs X kp W ss (sOr t u) := ⟨fun pins s sg H D I ⟨B, R, sgp, Dp, r, ht, en⟩ => by
  rcases ht with ht | ht
  · exact h1.run pins s sg H D I ⟨B, R, sgp, Dp, r, ht, en⟩
  · exact h2.run pins s sg H D I ⟨B, R, sgp, Dp, r, ht, en⟩⟩
end Pu
end
section
open PySem PySem.W PySem.Spec PyProof.Rows L2
set_option Elab.async false
set_option linter.all false
set_option maxRecDepth 100000
set_option maxHeartbeats 4000000
namespace Pu
/-! ### what the operations answer, by the shapes of what comes -/
section
variable {Q : O → Prop} {i j : Int} {x y : Str} {ds es : List D} {os : List O} {n b : Bool} {d e : D}
theorem e_addI : pAddU (.ro (.int i)) (.ro (.int j)) Q = Q (.ro (.int (i + j))) := by simp [pAddU, pAdd, pZ0, pAddS, pCat, pCatT, O.d]
theorem e_addS : pAddU (.ro (.str x)) (.ro (.str y)) Q = (x.length + y.length ≤ sizeLine ∧ Q (.ro (.str (x ++ y)))) := by simp [pAddU, pAdd, pZ0, pAddS, pCat, pCatT, O.d]
theorem map_ro {xs ys : List D} : (xs.map O.ro = ys.map O.ro) = (xs = ys) := by
  apply propext
  constructor
  · intro h
    have := congrArg O.ds h
    rwa [ds_ro, ds_ro] at this
  · rintro rfl; rfl
theorem e_addL : pAddU (.ro (.lst ds)) (.ro (.lst es)) Q = (ds.length + es.length ≤ sizeLine ∧ Q (.ro (.lst (ds ++ es)))) := by
  apply propext
  constructor
  · rintro (h | h | ⟨xs, ys, h1, _, h3, _, hz, q⟩ | ⟨_, _, h, _⟩)
    · obtain ⟨_, _, h, _⟩ := h; cases h
    · obtain ⟨_, _, h, _⟩ := h; cases h
    · cases h1; cases h3; exact ⟨hz, q⟩
    · cases h
  · rintro ⟨hz, q⟩
    exact .inr (.inr (.inl ⟨ds, es, rfl, rfl, rfl, rfl, hz, q⟩))
theorem e_addT : pAddU (.ro (.tup ds)) (.ro (.tup es)) Q = (ds.length + es.length ≤ sizeLine ∧ Q (.ro (.tup (ds ++ es)))) := by
  apply propext
  constructor
  · rintro (h | h | ⟨xs, ys, h1, _, h3, _, hz, q⟩ | ⟨_, _, h, h2, hz, q⟩)
    · obtain ⟨_, _, h, _⟩ := h; cases h
    · obtain ⟨_, _, h, _⟩ := h; cases h
    · cases h1
    · cases h; cases h2; exact ⟨hz, q⟩
  · rintro ⟨hz, q⟩
    exact .inr (.inr (.inr ⟨ds, es, rfl, rfl, hz, q⟩))
theorem e_sub : pSub (.ro (.int i)) (.ro (.int j)) Q = Q (.ro (.int (i - j))) := by simp [pSub, pZ0]
theorem e_mulI : pMulU (.ro (.int i)) (.ro (.int j)) Q = (CMul i j ∧ Q (.ro (.int (i * j)))) := by simp [pMulU, pMul, pZ, pMulS]
theorem e_mulS : pMulU (.ro (.str x)) (.ro (.int j)) Q = (MulOk x j ∧ Q (.ro (.str (Txt.mul x j)))) := by simp [pMulU, pMul, pZ, pMulS]
theorem e_div : pDiv (.ro (.int i)) (.ro (.int j)) Q = (CDiv i j ∧ Q (.ro (.int (i / j)))) := by simp [pDiv, pZ]
theorem e_mod : pMod (.ro (.int i)) (.ro (.int j)) Q = (0 < j ∧ Q (.ro (.int (i % j)))) := by simp [pMod, pZ]
theorem e_pow : pPow (.ro (.int i)) (.ro (.int j)) Q = (CPow i j ∧ Q (.ro (.int (i ^ j.toNat)))) := by simp [pPow, pZ]
theorem e_lt : pLt (.ro (.int i)) (.ro (.int j)) Q = Q (.ro (.bl (decide (i < j)))) := by simp [pLt, pZ0]
theorem e_le : pLe (.ro (.int i)) (.ro (.int j)) Q = Q (.ro (.bl (decide (i ≤ j)))) := by simp [pLe, pZ0]
theorem e_gt : pGt (.ro (.int i)) (.ro (.int j)) Q = Q (.ro (.bl (decide (j < i)))) := by simp [pGt, pZ0]
theorem e_ge : pGe (.ro (.int i)) (.ro (.int j)) Q = Q (.ro (.bl (decide (j ≤ i)))) := by simp [pGe, pZ0]
theorem e_neg : pNeg (.ro (.int i)) Q = Q (.ro (.int (-i))) := by simp [pNeg]
theorem e_inS {c : Nat} : pInS n (.ro (.str ⟨#[c]⟩)) (.ro (.str y)) Q = Q (.ro (.bl (n.xor (decide (c ∈ y.cps.toList))))) := by simp [pInS]
theorem e_ixL : pIx (.lst os) (.ro (.int i)) Q = (match atI os i with | some o => Q o | none => False) := by
  simp only [pIx, O.seq]
  apply propext
  constructor
  · rintro ⟨k, h, ⟨os', o, h1, h2, q⟩ | ⟨z, c, h1, _⟩⟩
    · cases h; cases h1; rw [h2]; exact q
    · cases h1
  · intro h
    cases e : atI os i with
    | none => rw [e] at h; exact h.elim
    | some o => rw [e] at h; exact ⟨i, rfl, .inl ⟨os, o, rfl, e, h⟩⟩
theorem atI_map {α β : Type} (f : α → β) (xs : List α) (i : Int) : atI (xs.map f) i = (atI xs i).map f := by
  unfold atI
  rw [List.length_map]
  cases ixN xs.length i with
  | none => rfl
  | some j => simp
theorem e_ixRL : pIx (.ro (.lst ds)) (.ro (.int i)) Q = (match atI ds i with | some o => Q (.ro o) | none => False) := by
  apply propext
  constructor
  · rintro ⟨k, h, ⟨os', o, h1, h2, q⟩ | ⟨z, c, h1, _⟩⟩
    · cases h; cases h1
      rw [atI_map] at h2
      cases e : atI ds i with
      | none => rw [e] at h2; cases h2
      | some o => rw [e] at h2; cases h2; exact q
    · cases h1
  · intro h
    cases e : atI ds i with
    | none => rw [e] at h; exact h.elim
    | some o => rw [e] at h; exact ⟨i, rfl, .inl ⟨_, .ro o, rfl, by rw [atI_map, e]; rfl, h⟩⟩
theorem e_ixRT : pIx (.ro (.tup ds)) (.ro (.int i)) Q = (match atI ds i with | some o => Q (.ro o) | none => False) := by
  apply propext
  constructor
  · rintro ⟨k, h, ⟨os', o, h1, h2, q⟩ | ⟨z, c, h1, _⟩⟩
    · cases h; cases h1
      rw [atI_map] at h2
      cases e : atI ds i with
      | none => rw [e] at h2; cases h2
      | some o => rw [e] at h2; cases h2; exact q
    · cases h1
  · intro h
    cases e : atI ds i with
    | none => rw [e] at h; exact h.elim
    | some o => rw [e] at h; exact ⟨i, rfl, .inl ⟨_, .ro o, rfl, by rw [atI_map, e]; rfl, h⟩⟩
theorem e_ixS : pIx (.ro (.str x)) (.ro (.int i)) Q = (x.length ≤ sizeLine ∧ (match atI x.cps.toList i with | some c => Q (.ro (.str ⟨#[c]⟩)) | none => False)) := by
  apply propext
  constructor
  · rintro ⟨k, h, ⟨os', o, h1, h2, q⟩ | ⟨z, c, h1, hz, h2, q⟩⟩
    · cases h1
    · cases h; cases h1
      rw [h2]
      exact ⟨hz, q⟩
  · rintro ⟨hz, h⟩
    cases e : atI x.cps.toList i with
    | none => rw [e] at h; exact h.elim
    | some o => rw [e] at h; exact ⟨i, rfl, .inr ⟨x, o, rfl, hz, e, h⟩⟩
theorem e_lenL : pLen [.lst os] Q = Q (.ro (.int os.length)) := by simp [pLen, O.seq]
theorem e_lenRL : pLen [.ro (.lst ds)] Q = Q (.ro (.int ds.length)) := by simp [pLen, O.seq]
theorem e_lenRT : pLen [.ro (.tup ds)] Q = Q (.ro (.int ds.length)) := by simp [pLen, O.seq]
theorem e_lenS : pLen [.ro (.str x)] Q = (x.length ≤ sizeLine ∧ Q (.ro (.int x.length))) := by simp [pLen, O.seq]
theorem e_abs : pAbs [.ro (.int i)] Q = Q (.ro (.int (if i < 0 then -i else i))) := by simp [pAbs, pF1]
theorem e_max : pMax2 [.ro (.int i), .ro (.int j)] Q = Q (.ro (.int (if j > i then j else i))) := by simp [pMax2, pF2, and_assoc]
theorem e_min : pMin2 [.ro (.int i), .ro (.int j)] Q = Q (.ro (.int (if j < i then j else i))) := by simp [pMin2, pF2, and_assoc]
theorem e_int1 : pInt1 [.ro (.int i)] Q = Q (.ro (.int i)) := by simp [pInt1]
theorem e_int1b : pInt1 [.ro (.bl b)] Q = Q (.ro (.int (if b then 1 else 0))) := by simp [pInt1]
theorem map_int {xs ys : List Int} : (xs.map D.int = ys.map D.int) = (xs = ys) := by
  apply propext
  constructor
  · intro h
    induction xs generalizing ys with
    | nil => cases ys with
      | nil => rfl
      | cons _ _ => cases h
    | cons x xs ih => cases ys with
      | nil => cases h
      | cons y ys => injection h with h1 h2; cases h1; rw [ih h2]
  · rintro rfl; rfl
theorem e_sum {ns : List Int} : pSum [.ro (.lst (ns.map D.int))] Q = Q (.ro (.int ns.sum)) := by
  simp only [pSum]
  apply propext
  constructor
  · rintro ⟨a, ms, h1, h2, q⟩
    cases h1
    injection h2 with h2
    rw [map_int] at h2
    subst h2
    exact q
  · intro q
    exact ⟨_, ns, rfl, rfl, q⟩
theorem e_sumT {ns : List Int} : pSum [.ro (.lst (ns.map D.int))] Q = Q (.ro (.int ns.sum)) := e_sum
theorem e_listRL : pList [.ro (.lst ds)] Q = Q (.ro (.lst ds)) := by
  apply propext
  constructor
  · rintro ⟨a, es, h1, h2, q⟩
    cases h1
    injection h2 with h2
    rw [map_ro] at h2
    rw [h2]; exact q
  · intro q
    exact ⟨_, ds, rfl, rfl, q⟩
theorem e_listRT : pList [.ro (.tup ds)] Q = Q (.ro (.lst ds)) := by
  apply propext
  constructor
  · rintro ⟨a, es, h1, h2, q⟩
    cases h1
    injection h2 with h2
    rw [map_ro] at h2
    rw [h2]; exact q
  · intro q
    exact ⟨_, ds, rfl, rfl, q⟩
theorem e_tupRL : pTuple [.ro (.lst ds)] Q = Q (.ro (.tup ds)) := by
  apply propext
  constructor
  · rintro ⟨a, es, h1, h2, q⟩
    cases h1
    injection h2 with h2
    rw [map_ro] at h2
    rw [h2]; exact q
  · intro q
    exact ⟨_, ds, rfl, rfl, q⟩
theorem e_tupO : pTuple [.lst (ds.map .ro)] Q = Q (.ro (.tup ds)) := by
  apply propext
  constructor
  · rintro ⟨a, es, h1, h2, q⟩
    cases h1
    injection h2 with h2
    rw [map_ro] at h2
    rw [h2]; exact q
  · intro q
    exact ⟨_, ds, rfl, rfl, q⟩
theorem e_slRL {l u : Option Int} : pSl (.ro (.lst ds)) l u Q = Q (.ro (.lst (cut ds l u))) := by
  apply propext
  constructor
  · rintro (⟨es, h1, h2, q⟩ | ⟨es, h1, q⟩ | ⟨z, h1, _⟩)
    · cases h1; exact q
    · cases h1
    · cases h1
  · intro q
    exact .inl ⟨ds, rfl, rfl, q⟩
theorem e_slRT {l u : Option Int} : pSl (.ro (.tup ds)) l u Q = Q (.ro (.tup (cut ds l u))) := by
  apply propext
  constructor
  · rintro (⟨es, h1, h2, q⟩ | ⟨es, h1, q⟩ | ⟨z, h1, _⟩)
    · cases h1
    · cases h1; exact q
    · cases h1
  · intro q
    exact .inr (.inl ⟨ds, rfl, q⟩)
theorem ds_map_ro : O.ds (ds.map O.ro) = ds := ds_ro ds
theorem e_slL {l u : Option Int} : pSl (.lst (ds.map .ro)) l u Q = Q (.ro (.lst (cut ds l u))) := by
  apply propext
  constructor
  · rintro (⟨es, h1, h2, q⟩ | ⟨es, h1, q⟩ | ⟨z, h1, _⟩)
    · injection h2 with h2
      rw [map_ro] at h2
      subst h2
      exact q
    · cases h1
    · cases h1
  · intro q
    exact .inl ⟨ds, by show D.lst _ = _; rw [ds_ro], rfl, q⟩
theorem e_eq {a b : O} : pEq n a b Q = (a.d.fine = true ∧ b.d.fine = true ∧ Q (.ro (.bl (n.xor (a.d.eqb b.d))))) := rfl
theorem e_isN {a : O} : pIsN n a (.ro .non) Q = Q (.ro (.bl (n.xor a.nonB))) := by simp [pIsN]
theorem e_inF {es : List D} : pInF n (.ro d) (.ro (.tup es)) Q = (d.flat = true ∧ es.all D.flat = true ∧ Q (.ro (.bl (n.xor (es.any fun z => z.feq d))))) := by
  apply propext
  constructor
  · rintro ⟨x, ys, h1, h2, h3, h4, q⟩
    cases h1
    injection h2 with h2
    rw [map_ro] at h2
    subst h2
    exact ⟨h3, h4, q⟩
  · rintro ⟨h3, h4, q⟩
    exact ⟨d, es, rfl, rfl, h3, h4, q⟩
end
theorem fine_int {i : Int} : (D.int i).fine = true := rfl
theorem fine_bl {b : Bool} : (D.bl b).fine = true := rfl
theorem fine_non : D.non.fine = true := rfl
theorem fine_str {x : Str} : (D.str x).fine = PyData.strOk x := by simp [D.fine, D.plain, D.py, SeqAt.shaped, PyData.canLay0, PyData.depth]
theorem fine_nil : (D.lst []).fine = true := rfl
theorem eqb_int {i j : Int} : (D.int i).eqb (D.int j) = (i == j) := rfl
theorem eqb_str {x y : Str} : (D.str x).eqb (D.str y) = (x == y) := rfl
theorem eqb_nil {ds : List D} : (D.lst ds).eqb (.lst []) = ds.isEmpty := by cases ds <;> rfl
/-- a comprehension that changes nothing -/
theorem lc_pure {tt : TB} {te : TM} {Q : List D → PSt → Prop} (i : Nat) (p : D → Bool) (f : D → D) {sg0 : PSt} : ∀ (ds acc : List D) (sg : PSt), sg.set i none = sg0 → acc.length + ds.length ≤ sizeLine →
    (∀ d ∈ ds, ∀ Kn : Bool → PSt → Prop, Kn (p d) (sg0.set i (some (.ro d))) → tt (sg0.set i (some (.ro d))) Kn) →
    (∀ d ∈ ds, p d = true → ∀ Kn : D → PSt → Prop, Kn (f d) (sg0.set i (some (.ro d))) → te (sg0.set i (some (.ro d))) Kn) →
    Q (acc ++ (ds.filter p).map f) sg0 → lcGo (gN i) tt te [i] Q ds acc sg
  | [], acc, sg, h, hl, ht, he, q => by
    show Q acc (wipeP sg [i])
    have : wipeP sg [i] = sg0 := h
    rw [this]
    simpa using q
  | d :: ds, acc, sg, h, hl, ht, he, q => by
    show gN i d (wipeP sg [i]) _
    have : wipeP sg [i] = sg0 := h
    rw [this]
    refine ht d List.mem_cons_self _ ?_
    have h2 : (sg0.set i (some (.ro d))).set i none = sg0 := by rw [List.set_set, ← h, List.set_set]
    simp only [List.length_cons] at hl
    by_cases hp : p d = true
    · rw [if_pos hp]
      refine he d List.mem_cons_self hp _ ⟨by omega, ?_⟩
      refine lc_pure i p f ds _ _ h2 (by simp; omega) (fun d' hd => ht d' (List.mem_cons_of_mem _ hd)) (fun d' hd => he d' (List.mem_cons_of_mem _ hd)) ?_
      rw [List.filter_cons_of_pos hp] at q
      simpa using q
    · rw [if_neg hp]
      refine lc_pure i p f ds _ _ h2 (by omega) (fun d' hd => ht d' (List.mem_cons_of_mem _ hd)) (fun d' hd => he d' (List.mem_cons_of_mem _ hd)) ?_
      rw [List.filter_cons_of_neg hp] at q
      exact q
theorem rosL_map {Q : List D → Prop} : ∀ {ds : List D}, rosL Q (ds.map .ro) = Q ds := by
  intro ds
  apply propext
  constructor
  · intro h
    obtain ⟨es, h1, h2⟩ := rosL_iff h
    rw [map_ro] at h1
    rw [h1]; exact h2
  · intro h
    have : ∀ (ds : List D) (Q : List D → Prop), Q ds → rosL Q (ds.map .ro) := by
      intro ds
      induction ds with
      | nil => intro Q h; exact h
      | cons d r ih => intro Q h; exact ih _ h
    exact this ds Q h
end Pu
end
section
open PySem PySem.W PySem.Spec PyProof.Rows L2
set_option Elab.async false
set_option linter.all false
set_option maxRecDepth 100000
set_option maxHeartbeats 4000000
namespace Pu
/-! ### sum of a list or a tuple of ints -/
def rSumT (K : PySem.W.Frag) : List V → Hp → VK → Prop := fun vs H Q => ∃ (a : Addr) (ns : List Int), vs = [V.ref a] ∧ SqT K H a (ns.map V.int) ∧ Q (.int ns.sum) H
theorem cr_sumT {X : Cx} (hc : X.calm = true) : CallR X (.builtin "sum") (rSumT X.K) := by
  intro pins s sg H vs us Q I r h
  obtain ⟨a, ns, rfl, hs, q⟩ := h
  obtain ⟨its, rv, hl, _⟩ := I.tuple hs
  rw [Vals.ref1 r]
  have hi := rv.ints
  obtain ⟨xs, e⟩ := hi.allInts.items
  have hn : numsOf (intItems xs).toList = ns := by rw [← e]; exact hi.numsOf
  rw [nums_intItems] at hn
  rw [e] at hl
  refine PySem.W.ktm_sumG (I.ok.hd hc) hl fun h' tk t' hk => ?_
  rw [preSum_eq, List.take_of_length_le (by simp), hn]
  exact ⟨.int _, H, I.kept hk, ⟨_, rfl⟩, q⟩
section
variable {K : PySem.W.Frag}
theorem VN.or {r r' : List V → Hp → VK → Prop} {p p' : PN} (h : VN K r p) (h' : VN K r' p') : VN K (fun xs H Q => r xs H Q ∨ r' xs H Q) (fun os Q => p os Q ∨ p' os Q) := fun R H vs os Qp Q s w hp k => by
  rcases hp with hp | hp
  · exact .inl (h R H vs os Qp Q s w hp k)
  · exact .inr (h' R H vs os Qp Q s w hp k)
def pSumT : PN := fun os Q => ∃ (ns : List Int), os = [.ro (.tup (ns.map D.int))] ∧ Q (.ro (.int ns.sum))
theorem v_sumT : VN K (rSumT K) pSumT := fun R H vs os Qp Q s w ⟨ns, e, q⟩ k => by
  subst e
  obtain ⟨v, f, rfl, w1⟩ := ow1 w
  obtain ⟨_, p, vs, rfl, h2, h3⟩ := w1
  have ev : vs = ns.map V.int := by
    have : ∀ {xs : List Int} {vs : List V}, RoL K R (xs.map D.int) vs → vs = xs.map V.int := by
      intro xs
      induction xs with
      | nil => intro vs h; exact h
      | cons x xs ih => intro vs h; obtain ⟨v, r, rfl, hv, h⟩ := h; rw [ih h, show v = V.int x from hv]; rfl
    exact this h3
  subst ev
  exact ⟨p, ns, rfl, .inl (.inl (s _ _ h2)), k _ H R _ [] (Quiet.refl s) (by exact ⟨rfl, rfl⟩) q⟩
def pSumU : PN := fun os Q => pSum os Q ∨ pSumT os Q
theorem cr_sumU {X : Cx} (hc : X.calm = true) : CallR X (.builtin "sum") (fun xs H Q => rSum X.K xs H Q ∨ rSumT X.K xs H Q) := (cr_sum hc).or (cr_sumT hc)
theorem v_sumU : VN K (fun xs H Q => rSum K xs H Q ∨ rSumT K xs H Q) pSumU := v_sum.or v_sumT
theorem e_sumL {ns : List Int} {Q : O → Prop} : pSumU [.ro (.lst (ns.map D.int))] Q = Q (.ro (.int ns.sum)) := by
  apply propext
  constructor
  · rintro (h | ⟨ms, h, _⟩)
    · rwa [e_sum] at h
    · cases h
  · intro h
    exact .inl (by rw [e_sum]; exact h)
theorem e_sumTu {ns : List Int} {Q : O → Prop} : pSumU [.ro (.tup (ns.map D.int))] Q = Q (.ro (.int ns.sum)) := by
  apply propext
  constructor
  · rintro (⟨a, ms, h, h2, _⟩ | ⟨ms, h, q⟩)
    · cases h; cases h2
    · injection h with h
      injection h with h
      injection h with h
      rw [map_int] at h
      subst h
      exact q
  · intro h
    exact .inr ⟨ns, rfl, h⟩
end
end Pu
end
section
open PySem PySem.W PySem.Spec PyProof.Rows L2
set_option Elab.async false
set_option linter.unusedVariables false
set_option maxRecDepth 100000
set_option maxHeartbeats 4000000
namespace Pu
/-! ### the start: a script, and the law's answer -/
def PTop (psi_ : PSp) : Prop := ∀ (ns : List Int) (Q : O → List O → Prop) (E : PX), ns.length ≤ 63 → Q (.ro (.bl true)) [.ro (.lst (ns.map D.int))] → psi_ [.ro (.lst (ns.map D.int))] Q E
theorem roL_int {K : PySem.W.Frag} {R : Hp} : ∀ ns : List Int, RoL K R (ns.map D.int) (ns.map V.int)
  | [] => rfl
  | n :: ns => ⟨_, _, rfl, rfl, roL_int ns⟩
theorem top_spP {K : PySem.W.Frag} {psi_ : PSp} (h : PTop psi_) {H : Hp} {a : Addr} {ns : List Int} (hl : ns.length ≤ 63) (hO : Only H) (hS : SqL K H a (ns.map V.int)) : spP K 1 psi_ [.ref a] H (fun v _ => v = .bl true) fun _ _ _ => False := by
  refine ⟨rfl, ⟨H, H, []⟩, H, [.ro (.lst (ns.map D.int))], ⟨⟨[], [], ?_, ?_, by simp, fun a h => by simp at h⟩, Same.refl _, Same.refl _, fun _ _ e _ => e, fun _ h => .inl h, ?_⟩, ?_⟩
  · exact ⟨rfl, rfl⟩
  · exact ⟨_, _, [], [], rfl, rfl, ⟨rfl, a, _, rfl, hS, roL_int ns⟩, rfl, rfl⟩
  · intro b u e
    rcases hO b with z | ⟨o, xs, z⟩
    · rw [z] at e; cases e
    · rw [z] at e; cases e; rfl
  · refine h ns _ _ hl fun v H' R' s r => ?_
    obtain ⟨f1, f2, _, h2, _⟩ := r.ex
    obtain ⟨v1, r1, g1, g2, e1, _, _, h3⟩ := h2
    cases e1
    obtain ⟨v2, r2, g3, g4, e2, _, h4, _⟩ := h3
    cases e2
    exact h4.2
end Pu
end
section
open PySem PySem.W PySem.Spec PyProof.Rows L2
set_option Elab.async false
set_option linter.unusedVariables false
set_option maxRecDepth 100000
set_option maxHeartbeats 4000000
namespace Pu
/-! ### list(range(..)) -/
theorem roL_rg {K : PySem.W.Frag} {R : Hp} {i j : Int} : RoL K R (rgD i (j - i).toNat) (rgV i j) := by
  unfold rgD rgV
  have : ∀ l : List Nat, RoL K R (l.map fun (x : Nat) => D.int (i + (x : Int))) (l.map fun (x : Nat) => V.int (i + (x : Int))) := by
    intro l
    induction l with
    | nil => rfl
    | cons a l ih => exact ⟨_, _, rfl, rfl, ih⟩
  exact this _
section
variable {X : Cx} {a b : Expr} {ta tb : TR}
def rRg1 (ta : TR) : TR := fun sg Q => ta sg fun o => ∃ n, o = .ro (.int n) ∧ RgOk 0 n ∧ Q (.ro (.lst (rgD 0 n.toNat)))
def rRg2 (ta tb : TR) : TR := fun sg Q => ta sg fun o => tb sg fun o2 => ∃ i j, o = .ro (.int i) ∧ o2 = .ro (.int j) ∧ RgOk i j ∧ Q (.ro (.lst (rgD i (j - i).toNat)))
theorem lr_listRg1 {p p2 pos pos2 : Pos} (hc : X.calm = true) (hg : Gl X "list") (hm : X.mg "list" = none) (hg2 : Gl X "range") (hm2 : X.mg "range" = none) (ha : LR X a ta)
    (na : starEach [a] X.env = (false, eval a X.env) :: starEach [] X.env := by rfl)
    (nb : starEach [.Call (.Name "range" p2) [a] [] pos2] X.env = (false, eval (.Call (.Name "range" p2) [a] [] pos2) X.env) :: starEach [] X.env := by rfl) : LR X (.Call (.Name "list" p) [.Call (.Name "range" p2) [a] [] pos2] [] pos) (rRg1 ta) :=
  pe_weak (pe_listRg hc hg hm (prg_1 hg2 hm2 ha na) nb) fun sgV H Q ⟨R, sg, fp, Qp, sl, s, ht, k⟩ => by
    refine ⟨R, sg, fp, _, sl, s, ht, fun v H1 R1 o f q1 w hq => ?_⟩
    obtain ⟨n, rfl, ok, hq⟩ := hq
    refine ⟨n, w.int, ok, fun q hn => k _ _ (upd R1 q (.lst (rgV 0 n))) (.ro (.lst (rgD 0 n.toNat))) [] (q1.trans (Quiet.new q1.s hn rfl)) ⟨rfl, q, rgV 0 n, rfl, .inl (.inl upd_same), ?_⟩ hq⟩
    have := @roL_rg X.K (upd R1 q (.lst (rgV 0 n))) 0 n
    rwa [Int.sub_zero] at this
theorem lr_listRg2 {p p2 pos pos2 : Pos} (hc : X.calm = true) (hg : Gl X "list") (hm : X.mg "list" = none) (hg2 : Gl X "range") (hm2 : X.mg "range" = none) (ha : LR X a ta) (hb : LR X b tb)
    (na : starEach [a, b] X.env = (false, eval a X.env) :: starEach [b] X.env := by rfl) (nc : starEach [b] X.env = (false, eval b X.env) :: starEach [] X.env := by rfl) (hp : (backTo pos2 (starEach [b] X.env)).any (·.1) = false := by rfl)
    (nb : starEach [.Call (.Name "range" p2) [a, b] [] pos2] X.env = (false, eval (.Call (.Name "range" p2) [a, b] [] pos2) X.env) :: starEach [] X.env := by rfl) : LR X (.Call (.Name "list" p) [.Call (.Name "range" p2) [a, b] [] pos2] [] pos) (rRg2 ta tb) :=
  pe_weak (pe_listRg hc hg hm (prg_2 hg2 hm2 ha hb na nc hp) nb) fun sgV H Q ⟨R, sg, fp, Qp, sl, s, ht, k⟩ => by
    refine ⟨R, sg, fp, _, sl, s, ht, fun v H1 R1 o f q1 w hq => ⟨R1, sg, fp, _, sl.quiet q1, q1.s, hq, fun u H2 R2 o2 g q2 w2 hq2 => ?_⟩⟩
    obtain ⟨i, j, rfl, rfl, ok, hq2⟩ := hq2
    exact ⟨i, j, w.int, w2.int, ok, fun q hn => k _ _ (upd R2 q (.lst (rgV i j))) (.ro (.lst (rgD i (j - i).toNat))) [] ((q1.trans q2).trans (Quiet.new q2.s hn rfl)) ⟨rfl, q, rgV i j, rfl, .inl (.inl upd_same), roL_rg⟩ hq2⟩
end
/-! ### sorted of texts, of a list or a tuple -/
section
variable {prog : Program} {w : World} {A : Around} {E : Value → Shared → Prop} {s : Shared}
theorem collectT {l : Addr} {vs : List Value} {Q : List Value → Shared → Prop} (hl : s.heap.IsTuple l vs.toArray) (hz : vs.length ≤ sizeLine)
    (h : Q vs { s with heap := (s.heap.push (seqObj "list" #[] 0)).update s.heap.objs.size (Obj.mapSeq (· ++ vs.toArray)) }) : wpAny (model prog w) A (collect (.ref l)) Q E s := by
  obtain ⟨o, ho, hc, n, hd⟩ := id hl
  unfold collect; refine wpAny_bind (wpAny_runValue (codeAny_builtin entry_proto_collect' ?_))
  show wpAny _ _ (do again (.builtin "list.__iadd__" ⟨[← newList [], .ref l], []⟩)) _ _ s; refine wpAny_bind (wpAny_newList (wpAny_pure ⟨Code.quiet_builtin _ (by decide +kernel), codeAny_builtin entry_list_iadd' ?_⟩))
  show wpAny _ _ (Builtin.List.listExtendWith (.ref s.heap.objs.size) (.ref l) (.ref s.heap.objs.size)) _ _ { s with heap := s.heap.push (seqObj "list" #[] 0) }; unfold Builtin.List.listExtendWith
  have ho' : (s.heap.push (seqObj "list" #[] 0)).get? l = some o := Heap.get?_push_of_some _ ho
  have ht : (Value.type "tuple" == Value.type "tuple") = true := by rfl
  refine wpAny_bind (wpAny_typeOf (T := "tuple") ⟨o, ho', hc⟩ ?_); rw [if_pos (by rw [ht]; simp)]
  refine wpAny_bind (listItems_at ho' hd ?_); refine wpAny_bind (listItems_at (xs := #[]) (n := 0) (Heap.get?_push_size _ rfl) rfl ?_); rw [if_neg (by simp)]
  refine wpAny_bind (listUpdate_at (xs := #[]) (n := 0) (Heap.get?_push_size _ rfl) rfl ?_ (Nat.zero_le _) (by show (#[] ++ vs.toArray).size ≤ sizeLine + 1; simp only [Array.size_append, List.size_toArray, List.length_nil]; omega)); refine wpAny_pure ?_
  show wpAny (model prog w) A (do let o ← load s.heap.objs.size; match o.data with | .seq xs _ => pure xs.toList | _ => unsupported "internal:collect") Q E { s with heap := (s.heap.push (seqObj "list" #[] 0)).update s.heap.objs.size (Obj.mapSeq (· ++ vs.toArray)) }
  refine wpAny_bind (wpAny_load (get?_update_seq (Heap.get?_push_size _ rfl) _) ?_); show wpAny _ _ (pure ((#[] : Array Value) ++ vs.toArray).toList) Q E _
  rw [show ((#[] : Array Value) ++ vs.toArray).toList = vs by simp]; exact wpAny_pure h
theorem sortedKT {κ : KeyKind} (hO : κ.OneLt) {l : Addr} {vs : List Value} {Q : Value → Shared → Prop} (hl : s.heap.IsTuple l vs.toArray) (h0 : KeysOf κ (pairsOf vs)) (hkk : ∀ v₁ v₂ rest, vs = v₁ :: v₂ :: rest → keyKind' (v₁ :: v₂ :: rest).toArray = pure oneType') (hL : vs.length ≤ sizeLine)
    (h : ∀ st' : SortSt, (arrOf st').Perm (pairsOf vs) → SortedToK κ (arrOf st') (pairsOf vs).size → Q (.ref (s.heap.objs.size + 1)) { s with heap := sortedAll s.heap vs ((arrOf st').map (·.2)) }) : wpAny (model prog w) A (call (.builtin "sorted") [.ref l]) Q E s := by
  refine Calls.call_function_entry kind_sorted plain_sorted entry_sorted (args_sorted1 _) ?_; unfold Builtin.«sorted»
  refine wpAny_bind (m := checkCount "sorted" 1 1 _) (wpAny_pure ?_); refine wpAny_bind (collectT hl hL ?_); refine wpAny_bind (wpAny_newList ?_)
  have hsz : ((s.heap.push (seqObj "list" #[] 0)).update s.heap.objs.size (Obj.mapSeq (· ++ vs.toArray))).objs.size = s.heap.objs.size + 1 := by rw [Heap.size_update, size_push']
  have hoL : (((s.heap.push (seqObj "list" #[] 0)).update s.heap.objs.size (Obj.mapSeq (· ++ vs.toArray))).push (seqObj "list" vs.toArray 0)).get? (s.heap.objs.size + 1) = some (seqObj "list" vs.toArray 0) := by rw [← hsz]; exact Heap.get?_push_size _ rfl
  show wpAny _ _ _ _ _ { s with heap := ((s.heap.push (seqObj "list" #[] 0)).update s.heap.objs.size (Obj.mapSeq (· ++ vs.toArray))).push (seqObj "list" vs.toArray 0) }; rw [hsz]
  refine wpAny_bind (wpAny_holding (wpAny_call_entry slot_list_sort ⟨_, hoL, rfl⟩ entry_list_sort (list_sort_treeKAny hO hoL h0 hkk hL fun st' a1 a2 => ⟨_, rfl, ?_⟩) (args_list_sort _))); exact wpAny_pure ⟨_, rfl, h st' a1 a2⟩
theorem sortedST {l : Addr} {vs : List Value} {ss : List Str} {Q : Value → Shared → Prop} (hl : s.heap.IsTuple l vs.toArray) (hS : StrsAre vs ss) (hL : vs.length ≤ sizeLine)
    (h : ∀ (out : Array Value) (ss' : List Str), StrsAre out.toList ss' → ss'.Perm ss → sortedS ss' = true → Q (.ref (s.heap.objs.size + 1)) { s with heap := sortedAll s.heap vs out }) : wpAny (model prog w) A (call (.builtin "sorted") [.ref l]) Q E s := by
  refine sortedKT strKind_oneLt hl hS.keysOf (fun v₁ v₂ rest e => keyKind_strs (by rw [← e]; exact hS)) hL fun st' hp hs => ?_; obtain ⟨ss', h1, h2, h3⟩ := sorted_out_str hS hp hs; exact h _ ss' h1 h2 h3
end
def rSrtS (K : PySem.W.Frag) : List V → Hp → VK → Prop := fun vs H Q => ∃ (a : Addr) (xs : List Str), vs = [V.ref a] ∧ (SqL K H a (xs.map V.str) ∨ SqT K H a (xs.map V.str)) ∧ xs.length ≤ sizeLine ∧
  ∀ (ys : List Str) (p : Addr), ys.Perm xs → sortedS ys = true → H p = none → Q (.ref p) (upd H p (.lst (ys.map V.str)))
theorem cr_srtS {X : Cx} : CallR X (.builtin "sorted") (rSrtS X.K) := by
  intro pins s sg H vs us Q I r h
  obtain ⟨a, xs, rfl, hs, h64, q⟩ := h
  have fin : ∀ {its : List Value} (out : Array Value) (ys : List Str), StrsAre out.toList ys → ys.Perm xs → sortedS ys = true → EP X pins sg Q (.ref (s.heap.objs.size + 1)) { s with heap := sortedAll s.heap its out } := fun {its} out ys h1 h2 h3 => by
    obtain ⟨ep, he'⟩ := PyProof.Rows.sortedAll_at s.heap its out
    have hlen : (ys.map V.str).length ≤ sizeLine := by rw [List.length_map, h2.length_eq]; exact h64
    exact ⟨.ref _, upd H (s.heap.objs.size + 1) (.lst (ys.map V.str)), I.laid (t' := s.toks) (fun _ _ => PyProof.Rows.sortedAll_old) (Nat.le_succ _) ⟨hlen, out.toList, ep, vals_of_strs h1, he'⟩, rfl, q ys _ h2 h3 (I.hok.fresh (Nat.le_succ _))⟩
  rw [Vals.ref1 r]
  rcases hs with hs | hs
  · obtain ⟨its, rv, hl, _⟩ := I.list hs
    have hlen0 := rv.length
    rw [List.length_map] at hlen0
    exact PyProof.Rows.sorted_strsAny hl.isList rv.strs (by rw [← hlen0]; exact h64) fun out ys h1 h2 h3 => fin out ys h1 h2 h3
  · obtain ⟨its, rv, hl, _⟩ := I.tuple hs
    have hlen0 := rv.length
    rw [List.length_map] at hlen0
    exact sortedST hl rv.strs (by rw [← hlen0]; exact h64) fun out ys h1 h2 h3 => fin out ys h1 h2 h3
def pSortS : PN := fun os Q => ∃ xs : List Str, (os = [.ro (.lst (xs.map D.str))] ∨ os = [.ro (.tup (xs.map D.str))]) ∧ xs.length ≤ sizeLine ∧ ∀ ys : List Str, ys.Perm xs → sortedS ys = true → Q (.ro (.lst (ys.map D.str)))
theorem roL_str {K : PySem.W.Frag} {R : Hp} : ∀ {xs : List Str} {vs : List V}, RoL K R (xs.map D.str) vs → vs = xs.map V.str
  | [], vs, h => h
  | x :: xs, vs, h => by obtain ⟨v, r, rfl, hv, h⟩ := h; rw [roL_str h, show v = V.str x from hv]; rfl
theorem str_roL {K : PySem.W.Frag} {R : Hp} : ∀ (xs : List Str), RoL K R (xs.map D.str) (xs.map V.str)
  | [] => rfl
  | x :: xs => ⟨_, _, rfl, rfl, str_roL xs⟩
theorem v_srtS {K : PySem.W.Frag} : VN K (rSrtS K) pSortS := fun R H vs os Qp Q s w ⟨xs, e, hz, q⟩ k => by
  have fin : ∀ (ys : List Str) (p : Addr), ys.Perm xs → sortedS ys = true → H p = none → Q (.ref p) (upd H p (.lst (ys.map V.str))) := fun ys p h1 h2 hn =>
    k _ _ (upd R p (.lst (ys.map V.str))) (.ro (.lst (ys.map D.str))) [] (Quiet.new s hn rfl) ⟨rfl, p, ys.map V.str, rfl, .inl (.inl upd_same), str_roL ys⟩ (q ys h1 h2)
  rcases e with e | e
  · subst e
    obtain ⟨v, f, rfl, w1⟩ := ow1 w
    obtain ⟨_, p, vs, rfl, h2, h3⟩ := w1
    obtain rfl := roL_str h3
    refine ⟨p, xs, rfl, .inl ?_, hz, fin⟩
    rcases h2 with (h2 | ⟨o, h2⟩) | h2
    · exact .inl (.inl (s _ _ h2))
    · exact .inl (.inr ⟨o, s _ _ h2⟩)
    · exact .inr h2
  · subst e
    obtain ⟨v, f, rfl, w1⟩ := ow1 w
    obtain ⟨_, p, vs, rfl, h2, h3⟩ := w1
    obtain rfl := roL_str h3
    exact ⟨p, xs, rfl, .inr (.inl (.inl (s _ _ h2))), hz, fin⟩
end Pu
end
section
open PySem PySem.W PySem.Spec PyProof.Rows L2
set_option Elab.async false
set_option linter.unusedVariables false
set_option maxRecDepth 100000
set_option maxHeartbeats 4000000
namespace Pu
/-! ### data of ints, texts, None, tuples and lists: equality tells what it should -/
inductive Okd : Nat → D → Prop where
  | non {n} : Okd n .non
  | int {n i} : Okd n (.int i)
  | str {n} {z : Str} : PyData.strOk z = true → Okd n (.str z)
  | tup {n xs} : (∀ x ∈ xs, Okd n x) → Okd (n + 1) (.tup xs)
  | lst {n xs} : (∀ x ∈ xs, Okd n x) → Okd (n + 1) (.lst xs)
theorem okd_list {n : Nat} : ∀ {xs : List D}, (∀ x ∈ xs, x.plain = true ∧ x.py.canLay0 = true ∧ x.py.depth ≤ n) → D.plainL xs = true ∧ PyData.canLayAll0 (D.pyL xs) = true ∧ PyData.depthAll (D.pyL xs) ≤ n
  | [], _ => ⟨rfl, by simp [D.pyL, PyData.canLayAll0], by simp [D.pyL, PyData.depthAll]⟩
  | x :: xs, h => by
    obtain ⟨h1, h2, h3⟩ := okd_list fun y hy => h y (List.mem_cons_of_mem _ hy)
    obtain ⟨g1, g2, g3⟩ := h x List.mem_cons_self
    refine ⟨?_, ?_, ?_⟩
    · show (x.plain && D.plainL xs) = true; rw [g1, h1]; rfl
    · simp only [D.pyL, PyData.canLayAll0]; rw [g2, h2]; rfl
    · simp only [D.pyL, PyData.depthAll]; omega
theorem Okd.all {n : Nat} {d : D} (h : Okd n d) : d.plain = true ∧ d.py.canLay0 = true ∧ d.py.depth ≤ n := by
  induction h with
  | non => exact ⟨rfl, by simp [D.py, PyData.canLay0], by simp [D.py, PyData.depth]⟩
  | int => exact ⟨rfl, by simp [D.py, PyData.canLay0], by simp [D.py, PyData.depth]⟩
  | str h => exact ⟨rfl, by simpa [D.py, PyData.canLay0] using h, by simp [D.py, PyData.depth]⟩
  | tup h ih =>
    obtain ⟨h1, h2, h3⟩ := okd_list ih
    exact ⟨h1, by simpa [D.py, PyData.canLay0] using h2, by simp only [D.py, PyData.depth]; omega⟩
  | lst h ih =>
    obtain ⟨h1, h2, h3⟩ := okd_list ih
    exact ⟨h1, by simpa [D.py, PyData.canLay0] using h2, by simp only [D.py, PyData.depth]; omega⟩
theorem Okd.fine {n : Nat} {d : D} (h : Okd n d) (hn : n ≤ 64 := by decide) : d.fine = true := by
  obtain ⟨h1, h2, h3⟩ := h.all
  unfold D.fine SeqAt.shaped
  rw [h1, h2, decide_eq_true (by omega : d.py.depth ≤ 64)]
  rfl
theorem Okd.mono {n m : Nat} {d : D} (h : Okd n d) (hm : n ≤ m) : Okd m d := by
  induction h generalizing m with
  | non => exact .non
  | int => exact .int
  | str h => exact .str h
  | tup h ih =>
    obtain ⟨k, rfl⟩ : ∃ k, m = k + 1 := ⟨m - 1, by omega⟩
    exact .tup fun x hx => ih x hx (by omega)
  | lst h ih =>
    obtain ⟨k, rfl⟩ : ∃ k, m = k + 1 := ⟨m - 1, by omega⟩
    exact .lst fun x hx => ih x hx (by omega)
theorem eqvAll_iff : ∀ {xs ys : List D}, (∀ x ∈ xs, ∀ y ∈ ys, (PyData.eqv x.py y.py = true ↔ x = y)) → (PyData.eqvAll (D.pyL xs) (D.pyL ys) = true ↔ xs = ys)
  | [], [], _ => by simp [D.pyL, PyData.eqvAll]
  | [], y :: ys, _ => by simp [D.pyL, PyData.eqvAll]
  | x :: xs, [], _ => by simp [D.pyL, PyData.eqvAll]
  | x :: xs, y :: ys, h => by
    have h1 := h x List.mem_cons_self y List.mem_cons_self
    have h2 := eqvAll_iff (xs := xs) (ys := ys) fun a ha b hb => h a (List.mem_cons_of_mem _ ha) b (List.mem_cons_of_mem _ hb)
    simp only [D.pyL, PyData.eqvAll, Bool.and_eq_true, h1, h2, List.cons.injEq]
theorem Okd.eqb_iff {n m : Nat} {d e : D} (h : Okd n d) (g : Okd m e) : d.eqb e = true ↔ d = e := by
  unfold D.eqb
  induction h generalizing m e with
  | non => cases g <;> simp [D.py, PyData.eqv]
  | int => cases g <;> simp [D.py, PyData.eqv]
  | str h => cases g <;> simp [D.py, PyData.eqv]
  | tup h ih =>
    cases g with
    | tup h2 =>
      simp only [D.py, PyData.eqv, D.tup.injEq]
      exact eqvAll_iff fun x hx y hy => ih x hx (h2 y hy)
    | _ => simp [D.py, PyData.eqv]
  | lst h ih =>
    cases g with
    | lst h2 =>
      simp only [D.py, PyData.eqv, D.lst.injEq]
      exact eqvAll_iff fun x hx y hy => ih x hx (h2 y hy)
    | _ => simp [D.py, PyData.eqv]
theorem Okd.eqb_self {n : Nat} {d : D} (h : Okd n d) : d.eqb d = true := (h.eqb_iff h).mpr rfl
theorem Okd.eqb_ne {n m : Nat} {d e : D} (h : Okd n d) (g : Okd m e) (hn : d ≠ e) : d.eqb e = false := by
  cases q : d.eqb e with
  | false => rfl
  | true => exact absurd ((h.eqb_iff g).mp q) hn
theorem Okd.eqb_dec {n m : Nat} {d e : D} (h : Okd n d) (g : Okd m e) : d.eqb e = @decide (d = e) (Classical.propDecidable _) := by
  by_cases q : d = e
  · rw [(h.eqb_iff g).mpr q]; simp [q]
  · rw [h.eqb_ne g q]; simp [q]
theorem any_mem {n m : Nat} {ds : List D} {a : D} (h : ∀ z ∈ ds, Okd n z) (g : Okd m a) : (ds.any fun z => z.eqb a) = @decide (a ∈ ds) (Classical.propDecidable _) := by
  by_cases q : a ∈ ds
  · have e : (ds.any fun z => z.eqb a) = true := List.any_eq_true.mpr ⟨a, q, g.eqb_self⟩
    rw [e]; simp [q]
  · have e : (ds.any fun z => z.eqb a) = false := Bool.eq_false_iff.mpr fun z => by
      obtain ⟨b, hb, e⟩ := List.any_eq_true.mp z
      rw [((h b hb).eqb_iff g).mp e] at hb
      exact q hb
    rw [e]; simp [q]
theorem okd_ints {n : Nat} {ns : List Int} : ∀ x ∈ ns.map D.int, Okd n x := fun x h => by
  obtain ⟨i, _, rfl⟩ := List.mem_map.mp h
  exact .int
/-! ### a loop that returns at the first that is found -/
theorem for_find {g : TGp} {tb : TSp} {E : PEnds} (S : PSt → Prop) (f : D → Option D) : ∀ (ds : List D) (sg : PSt), S sg →
    (∀ d ∈ ds, ∀ (sg : PSt) (Kn : PSt → Prop), S sg → (f d = none → ∀ sg', S sg' → Kn sg') → (∀ r, f d = some r → ∀ sg', S sg' → E.rt (.ro r) sg') → g d sg fun sg1 => tb { nx := Kn, ct := Kn, bk := E.nx, rt := E.rt, ex := E.ex } sg1) →
    (ds.findSome? f = none → ∀ sg, S sg → E.nx sg) → (∀ r, ds.findSome? f = some r → ∀ sg, S sg → E.rt (.ro r) sg) → forGo g tb E ds sg
  | [], sg, hs, _, h1, _ => h1 rfl sg hs
  | d :: ds, sg, hs, st, h1, h2 => by
    refine st d List.mem_cons_self sg _ hs (fun hn sg' hs' => ?_) fun r hr sg' hs' => h2 r (by rw [List.findSome?_cons, hr]) sg' hs'
    exact for_find S f ds sg' hs' (fun e he => st e (List.mem_cons_of_mem _ he)) (fun hn2 => h1 (by rw [List.findSome?_cons, hn]; exact hn2)) fun r hr => h2 r (by rw [List.findSome?_cons, hn]; exact hr)
end Pu
end
section
open PySem PySem.W PySem.Spec PyProof.Rows L2 Pu
set_option Elab.async false
set_option linter.unusedVariables false
set_option maxRecDepth 100000
set_option maxHeartbeats 4000000
namespace Rd
def t_cell : TSp :=
  sSeq (sIf (bR (r2 pLt (rV 1) (rN pLen (arC (rV 0) (arN))))) (sRet (wM (mR (r2 pIx (rV 0) (rV 1))))) (sNil)) (sRet (wM (mR (rC (.int 0)))))
def t_dice (psi__cell : PSp) : TSp :=
  sSeq (sSet 2 (wM (mN pAbs (amC (mW (wCall 2 psi__cell (axR (mR (rV 0)) (axR (mR (rV 1)) (axN))))) (amN))))) (sRet (wLst (amC (mR (r2 pMod (rV 2) (rC (.int 2147483647)))) (amC (mR (rV 0)) (amC (mR (r2 pAddU (rV 1) (rC (.int 1)))) (amC (mR (r2 pMulU (rN pInt1 (arC (r2 pGe (rV 2) (r2 pPow (rC (.int 10)) (rC (.int 18)))) (arN))) (rV 2))) (amN)))))))
def t_off (psi__cell : PSp) : TSp :=
  sSeq (sIf (bR (r2 pGt (r2 pIx (rV 0) (rC (.int 3))) (rC (.int 0)))) (sSeq (sSet 2 (wM (mR (r2 pMod (r2 pIx (rV 0) (rC (.int 3))) (rV 1))))) (sSeq (sPutL (wM (mR (r2 pDiv (r2 pIx (rV 0) (rC (.int 3))) (rV 1)))) (pV 0) (rC (.int 3))) (sRet (wM (mR (rV 2)))))) (sNil)) (sSeq (sSet 3 (wM (mN pAbs (amC (mW (wCall 2 psi__cell (axR (mR (r2 pIx (rV 0) (rC (.int 1)))) (axR (mR (r2 pMod (r2 pIx (rV 0) (rC (.int 2))) (rN pMax2 (arC (rC (.int 1)) (arC (rN pLen (arC (r2 pIx (rV 0) (rC (.int 1))) (arN))) (arN)))))) (axN))))) (amN))))) (sSeq (sPutL (wM (mR (r2 pAddU (r2 pIx (rV 0) (rC (.int 2))) (rC (.int 1))))) (pV 0) (rC (.int 2))) (sSeq (sPutL (wM (mR (r2 pMod (r2 pAddU (r2 pAddU (r2 pMulU (r2 pIx (rV 0) (rC (.int 0))) (rC (.int 48271))) (rC (.int 11))) (rV 3)) (rC (.int 2147483647))))) (pV 0) (rC (.int 0))) (sRet (wM (mR (r2 pMod (r2 pDiv (r2 pIx (rV 0) (rC (.int 0))) (rC (.int 64))) (rV 1))))))))
def t_word : TSp :=
  sSeq (sSet 2 (wM (mR (rC (.str "abcdefghijklmnopqrstuvwxyz"))))) (sSeq (sSet 3 (wM (mR (r2 pMulU (r2 pIx (rV 2) (r2 pMod (r2 pAddU (rV 0) (r2 pMulU (rC (.int 5)) (r2 pDiv (rV 1) (rC (.int 3))))) (rC (.int 26)))) (r2 pAddU (rC (.int 1)) (r2 pMod (r2 pDiv (rV 0) (rC (.int 26))) (rC (.int 5)))))))) (sRet (wM (mR (r2 pAddU (rV 3) (r2 pIx (rLst (arC (rC (.str "")) (arC (r2 pIx (rV 2) (r2 pMod (r2 pAddU (rV 0) (rC (.int 7))) (rC (.int 26)))) (arC (r2 pIx (rV 2) (r2 pMod (r2 pAddU (rV 0) (rC (.int 11))) (rC (.int 26)))) (arN))))) (r2 pMod (rV 1) (rC (.int 3)))))))))
def t_set (psi__off : PSp) (psi__word : PSp) : TSp :=
  sSeq (sSet 3 (wM (m2 pAddU (mR (rC (.int 2))) (mW (wCall 2 psi__off (axS 0 (axR (mR (rN pMin2 (arC (rC (.int 6)) (arC (rN pLen (arC (rV 1) (arN))) (arN))))) (axN)))))))) (sSeq (sSet 4 (wM (mW (wCall 2 psi__off (axS 0 (axR (mR (r2 pSub (r2 pAddU (rN pLen (arC (rV 1) (arN))) (rC (.int 2))) (rV 3))) (axN))))))) (sSeq (sSet 5 (wM (mW (wCall 2 psi__off (axS 0 (axR (mR (rC (.int 9))) (axN))))))) (sSeq (sSet 6 (wM (mN pTuple (amC (mW (wLc (iR1 (amC (mR (rV 3)) (amN))) (gN 7) (tYesP) (mW (wCall 2 psi__word (axR (mR (rV 2)) (axR (mR (r2 pMod (r2 pAddU (rV 5) (rV 7)) (rC (.int 9)))) (axN))))) [7])) (amN))))) (sSeq (sSet 8 (wList (arC (rSlc pSl (rV 1) (poI (rV 4)) (poI (r2 pSub (r2 pAddU (rV 4) (rV 3)) (rC (.int 1))))) (arN)))) (sSeq (sIf (bM (m2 (pEq false) (mW (wCall 2 psi__off (axS 0 (axR (mR (rC (.int 3))) (axN))))) (mR (rC (.int 0))))) (sPutM 8 (wM (m2 pAddU (mR (rC (.int 1))) (mW (wCall 2 psi__off (axS 0 (axR (mR (rC (.int 4))) (axN))))))) (mW (wCall 2 psi__off (axS 0 (axR (mR (rN pLen (arC (rV 8) (arN)))) (axN)))))) (sNil)) (sRet (wM (mR (rTup (arC (rV 4) (arC (rV 6) (arC (rN pTuple (arC (rV 8) (arN))) (arN)))))))))))))
def t_rule (psi__off : PSp) (psi__word : PSp) : TSp :=
  sSeq (sSet 3 (wM (mW (wCall 2 psi__off (axS 0 (axR (mR (rC (.int 3))) (axN))))))) (sSeq (sIf (bAnd (bR (r2 (pEq false) (rV 3) (rC (.int 0)))) (bR (r2 pGt (rV 1) (rC (.int 1))))) (sSeq (sSet 4 (wM (mW (wCall 2 psi__off (axS 0 (axR (mR (rV 1)) (axN))))))) (sRet (wM (mTup (amC (mR (rC (.str "over"))) (amC (mR (rV 4)) (amC (m2 pMod (m2 pAddU (mR (r2 pAddU (rV 4) (rC (.int 1)))) (mW (wCall 2 psi__off (axS 0 (axR (mR (r2 pSub (rV 1) (rC (.int 1)))) (axN)))))) (mR (rV 1))) (amN)))))))) (sNil)) (sSeq (sSet 5 (wM (mW (wCall 2 psi__word (axR (mR (rV 2)) (axR (mW (wCall 2 psi__off (axS 0 (axR (mR (rC (.int 10))) (axN))))) (axN))))))) (sSeq (sIf (bR (r2 (pEq false) (rV 3) (rC (.int 1)))) (sRet (wM (mR (rTup (arC (rC (.str "at")) (arC (rV 5) (arN))))))) (sNil)) (sRet (wM (mTup (amC (mR (rC (.str "beside"))) (amC (mR (rV 5)) (amC (mW (wCall 2 psi__word (axR (mR (rV 2)) (axR (mW (wCall 2 psi__off (axS 0 (axR (mR (rC (.int 10))) (axN))))) (axN))))) (amN))))))))))
def t_school (psi__off : PSp) (psi__set : PSp) (psi__rule : PSp) : TSp :=
  sSeq (sSet 2 (wM (mW (wCall 2 psi__off (axS 0 (axR (mR (r2 pMulU (rC (.int 26)) (rC (.int 6)))) (axN))))))) (sSeq (sSet 3 (wLc (iR1 (amC (m2 pAddU (mR (rC (.int 1))) (mW (wCall 2 psi__off (axS 0 (axR (m2 pIx (mR (rLst (arC (rC (.int 8)) (arC (rC (.int 8)) (arC (rC (.int 30)) (arN)))))) (mW (wCall 2 psi__off (axS 0 (axR (mR (rC (.int 3))) (axN)))))) (axN)))))) (amN))) (gN 4) (tYesP) (m2 pIx (mLst (amC (mR (rC (.int 2))) (amC (mR (rC (.int 1))) (amC (mR (rC (.int 2))) (amC (m2 pAddU (mR (rC (.int 1))) (mW (wCall 2 psi__off (axS 0 (axR (mR (rC (.int 4))) (axN)))))) (amN)))))) (mW (wCall 2 psi__off (axS 0 (axR (mR (rC (.int 4))) (axN)))))) [4])) (sSeq (sSet 5 (wLc (iR1 (amC (m2 pAddU (mR (rC (.int 1))) (mW (wCall 2 psi__off (axS 0 (axR (mR (rV 1)) (axN)))))) (amN))) (gN 4) (tYesP) (mW (wCall 3 psi__set (axS 0 (axR (mFz 3) (axR (mR (rV 2)) (axN)))))) [4])) (sSeq (sIf (bAnd (bR (r2 pGt (rN pLen (arC (rV 5) (arN))) (rC (.int 1)))) (bM (m2 (pEq false) (mW (wCall 2 psi__off (axS 0 (axR (mR (rC (.int 4))) (axN))))) (mR (rC (.int 0)))))) (sPutL (wM (mR (r2 pIx (rV 5) (rC (.int 0))))) (pV 5) (r1 pNeg (rC (.int 1)))) (sNil)) (sSeq (sSet 6 (wLc (iR1 (amC (mW (wCall 2 psi__off (axS 0 (axR (m2 pIx (mR (rLst (arC (rC (.int 4)) (arC (rC (.int 4)) (arC (rC (.int 13)) (arN)))))) (mW (wCall 2 psi__off (axS 0 (axR (mR (rC (.int 3))) (axN)))))) (axN))))) (amN))) (gN 4) (tYesP) (mW (wCall 3 psi__rule (axS 0 (axR (mR (rN pLen (arC (rV 5) (arN)))) (axR (mR (rV 2)) (axN)))))) [4])) (sRet (wM (mTup (amC (mFz 3) (amC (mFz 5) (amC (mFz 6) (amN)))))))))))
def t_must : TSp :=
  sIf (bNot (bM (mR (rV 0)))) (sNever) (sNil)
def t_School_table_of (C_School : Addr) : TSp :=
  sSeq (sAsg (mR (rV 1)) (gT 3 (gsC (gN 2) (gsC (gN 3) (gsC (gN 4) (gsN)))))) (sSeq (sSet 5 (wDnew 1)) (sSeq (sSet 6 (wM (mR (r2 pIx (r1 (pFld C_School "heights") (rV 0)) (rV 2))))) (sSeq (sFor (iEnT (amC (mR (rV 3)) (amN))) (gT 2 (gsC (gN 7) (gsC (gN 8) (gsN)))) (sSeq (sIf (bR (r2 pGt (rV 7) (rC (.int 0)))) (sSet 6 (wM (mR (r2 pAddU (rV 6) (r2 pIx (rV 4) (r2 pSub (rV 7) (rC (.int 1)))))))) (sNil)) (sDput (wM (mR (rV 8))) (pV 5) (rTup (arC (r2 pAddU (rV 2) (rV 7)) (arC (r2 pSub (rV 6) (r2 pIx (r1 (pFld C_School "heights") (rV 0)) (r2 pAddU (rV 2) (rV 7)))) (arN))))))) (sRet (wMv 5)))))
def t_are_gaps : TSp :=
  sOr (sRet (wM (m2 (pEq false) (mW (wLc (iL (mR (rV 0))) (gN 1) (bNot (bM (mChain pLe pLe (mR (rC (.int 1))) (mR (rV 1)) (mR (rC (.int 4)))))) (mR (rV 1)) [1])) (mR (rLst (arN)))))) (sRet (wM (m2 (pEq false) (mW (wLc (iT (mR (rV 0))) (gN 1) (bNot (bM (mChain pLe pLe (mR (rC (.int 1))) (mR (rV 1)) (mR (rC (.int 4)))))) (mR (rV 1)) [1])) (mR (rLst (arN))))))
def t_is_word : TSp :=
  sRet (wM (mAnd (mChain pLe pLe (mR (rC (.int 1))) (mR (rN pLen (arC (rV 0) (arN)))) (mR (rC (.int 6)))) (m2 (pEq false) (mW (wLc (iS (mR (rV 0))) (gN 1) (bR (r2 (pInS true) (rV 1) (rC (.str "abcdefghijklmnopqrstuvwxyz")))) (mR (rV 1)) [1])) (mR (rLst (arN))))))
def t_School_is_set (psi__are_gaps : PSp) (psi__is_word : PSp) (C_School : Addr) : TSp :=
  sSeq (sAsg (mR (rV 1)) (gT 3 (gsC (gN 2) (gsC (gN 3) (gsC (gN 4) (gsN)))))) (sSeq (sIf (bOr (bNot (bM (mChain pLe pLe (mR (rC (.int 2))) (mR (rN pLen (arC (rV 3) (arN)))) (mR (rC (.int 7)))))) (bOr (bR (r2 (pEq true) (rN pLen (arC (rV 4) (arN))) (r2 pSub (rN pLen (arC (rV 3) (arN))) (rC (.int 1))))) (bNot (bM (mW (wCall 1 psi__are_gaps (axR (mR (rV 4)) (axN)))))))) (sRet (wM (mR (rC (.bl false))))) (sNil)) (sSeq (sIf (bOr (bM (m2 (pEq true) (mW (wLc (iT (mR (rV 3))) (gN 5) (bNot (bM (mW (wCall 1 psi__is_word (axR (mR (rV 5)) (axN)))))) (mR (rV 5)) [5])) (mR (rLst (arN))))) (bR (r2 (pEq true) (rLenSet (rV 3)) (rN pLen (arC (rV 3) (arN)))))) (sRet (wM (mR (rC (.bl false))))) (sNil)) (sRet (wM (mAnd (mR (r2 pLe (rC (.int 0)) (rV 2))) (mR (r2 pLe (r2 pAddU (rV 2) (rN pLen (arC (rV 3) (arN)))) (rN pLen (arC (r1 (pFld C_School "heights") (rV 0)) (arN))))))))))
def t_School_is_rule (C_School : Addr) (psi__is_word : PSp) : TSp :=
  sSeq (sIf (bOr (bR (r2 pLt (rN pLen (arC (rV 1) (arN))) (rC (.int 2)))) (bOr (bR (r2 (pInF true) (r2 pIx (rV 1) (rC (.int 0))) (rTup (arC (rC (.str "over")) (arC (rC (.str "at")) (arC (rC (.str "beside")) (arN))))))) (bR (r2 (pEq true) (rN pLen (arC (rV 1) (arN))) (r2 pSub (rC (.int 3)) (rN pInt1 (arC (r2 (pEq false) (r2 pIx (rV 1) (rC (.int 0))) (rC (.str "at"))) (arN)))))))) (sRet (wM (mR (rC (.bl false))))) (sNil)) (sSeq (sIf (bR (r2 (pEq false) (r2 pIx (rV 1) (rC (.int 0))) (rC (.str "over")))) (sRet (wM (mAnd (mR (r2 (pEq true) (r2 pIx (rV 1) (rC (.int 1))) (r2 pIx (rV 1) (rC (.int 2))))) (m2 (pEq false) (mW (wLc (iT (mR (rSlc pSl (rV 1) (poI (rC (.int 1))) (poN)))) (gN 2) (bNot (bM (mChain pLe pLt (mR (rC (.int 0))) (mR (rV 2)) (mR (rN pLen (arC (r1 (pFld C_School "told") (rV 0)) (arN))))))) (mR (rV 2)) [2])) (mR (rLst (arN))))))) (sNil)) (sRet (wM (m2 (pEq false) (mW (wLc (iT (mR (rSlc pSl (rV 1) (poI (rC (.int 1))) (poN)))) (gN 3) (bNot (bM (mW (wCall 1 psi__is_word (axR (mR (rV 3)) (axN)))))) (mR (rV 3)) [3])) (mR (rLst (arN)))))))
def t_School_init (psi__must : PSp) (psi__are_gaps : PSp) (C_School : Addr) (psi__School_is_set : PSp) (psi__School_table_of : PSp) (psi__School_is_rule : PSp) : TSp :=
  sSeq (sExpr (mW (wCall 3 psi__must (axR (mChain pLe pLe (mR (rC (.int 1))) (mR (rN pLen (arC (rV 1) (arN)))) (mR (rC (.int 30)))) (axR (mR (rC (.str "ladder"))) (axR (mR (rC (.int 0))) (axN))))))) (sSeq (sFor (iEn (amC (mR (rV 1)) (amN))) (gT 2 (gsC (gN 4) (gsC (gN 5) (gsN)))) (sExpr (mW (wCall 3 psi__must (axR (mW (wCall 1 psi__are_gaps (axR (mR (rLst (arC (rV 5) (arN)))) (axN)))) (axR (mR (rC (.str "gap"))) (axR (mR (rV 4)) (axN)))))))) (sSeq (sFldSet C_School 0 "gaps" (wM (mR (rN pList (arC (rV 1) (arN)))))) (sSeq (sFldSet C_School 0 "heights" (wLst (amC (mR (rC (.int 0))) (amN)))) (sSeq (sFor (iL (mR (r1 (pFld C_School "gaps") (rV 0)))) (gN 5) (sAppP (pF C_School "heights" (pV 0)) (r2 pAddU (r2 pIx (r1 (pFld C_School "heights") (rV 0)) (r1 pNeg (rC (.int 1)))) (rV 5)))) (sSeq (sExpr (mW (wCall 3 psi__must (axR (mChain pLe pLe (mR (rC (.int 1))) (mR (rN pLen (arC (rV 2) (arN)))) (mR (rC (.int 5)))) (axR (mR (rC (.str "sets"))) (axR (mR (rC (.int 0))) (axN))))))) (sSeq (sFor (iEn (amC (mR (rV 2)) (amN))) (gT 2 (gsC (gN 4) (gsC (gN 6) (gsN)))) (sExpr (mW (wCall 3 psi__must (axR (mW (wMethS C_School "is_set" 1 psi__School_is_set 0 (axR (mR (rV 6)) (axN)))) (axR (mR (rC (.str "set"))) (axR (mR (rV 4)) (axN)))))))) (sSeq (sFldSet C_School 0 "told" (wM (mR (rN pList (arC (rV 2) (arN)))))) (sSeq (sFldSet C_School 0 "tables" (wM (mW (wLc (iL (mR (r1 (pFld C_School "told") (rV 0)))) (gN 7) (tYesP) (mW (wMethS C_School "table_of" 1 psi__School_table_of 0 (axR (mR (rV 7)) (axN)))) [7])))) (sSeq (sExpr (mW (wCall 3 psi__must (axR (mR (r2 pLe (rN pLen (arC (rV 3) (arN))) (rC (.int 12)))) (axR (mR (rC (.str "rules"))) (axR (mR (rC (.int 0))) (axN))))))) (sSeq (sFor (iEn (amC (mR (rV 3)) (amN))) (gT 2 (gsC (gN 4) (gsC (gN 8) (gsN)))) (sExpr (mW (wCall 3 psi__must (axR (mW (wMethS C_School "is_rule" 1 psi__School_is_rule 0 (axR (mR (rV 8)) (axN)))) (axR (mR (rC (.str "rule"))) (axR (mR (rV 4)) (axN)))))))) (sFldSet C_School 0 "kept" (wM (mR (rN pList (arC (rV 3) (arN))))))))))))))))
def t_made (psi__School_init : PSp) (C_School : Addr) : TSp :=
  sRet (wMake C_School 3 psi__School_init (axR (mR (rN pList (arC (r2 pIx (rV 0) (rC (.int 0))) (arN)))) (axR (mR (rN pList (arC (r2 pIx (rV 0) (rC (.int 1))) (arN)))) (axR (mR (rN pList (arC (r2 pIx (rV 0) (rC (.int 2))) (arN)))) (axN)))))
def t_height : TSp :=
  sRet (wM (mR (rN pSumU (arC (rSlc pSl (r2 pIx (rV 0) (rC (.int 0))) (poN) (poI (rV 1))) (arN)))))
def t_note_of (psi__height : PSp) : TSp :=
  sSeq (sAsg (mR (r2 pIx (r2 pIx (rV 0) (rC (.int 1))) (rV 1))) (gT 3 (gsC (gN 3) (gsC (gN 4) (gsC (gN 5) (gsN)))))) (sRet (wM (mTup (amC (mR (r2 pAddU (rV 3) (rV 2))) (amC (m2 pSub (m2 pAddU (mW (wCall 2 psi__height (axR (mR (rV 0)) (axR (mR (rV 3)) (axN))))) (mR (rN pSumU (arC (rSlc pSl (rV 5) (poN) (poI (rV 2))) (arN))))) (mW (wCall 2 psi__height (axR (mR (rV 0)) (axR (mR (r2 pAddU (rV 3) (rV 2))) (axN)))))) (amN))))))
def t_name (psi__height : PSp) : TSp :=
  sSeq (sAsg (mR (r2 pIx (r2 pIx (rV 0) (rC (.int 1))) (rV 1))) (gT 3 (gsC (gN 3) (gsC (gN 4) (gsC (gN 5) (gsN)))))) (sSeq (sSet 6 (wM (mR (r2 pSub (r2 pIx (rV 2) (rC (.int 0))) (rV 3))))) (sSeq (sIf (bNot (bM (mChain pLe pLt (mR (rC (.int 0))) (mR (rV 6)) (mR (rN pLen (arC (rV 4) (arN))))))) (sRet (wM (mR (rC .non)))) (sNil)) (sSeq (sIf (bM (m2 (pEq true) (m2 pAddU (mW (wCall 2 psi__height (axR (mR (rV 0)) (axR (mR (r2 pIx (rV 2) (rC (.int 0)))) (axN))))) (mR (r2 pIx (rV 2) (rC (.int 1))))) (m2 pAddU (mW (wCall 2 psi__height (axR (mR (rV 0)) (axR (mR (rV 3)) (axN))))) (mR (rN pSumU (arC (rSlc pSl (rV 5) (poN) (poI (rV 6))) (arN))))))) (sRet (wM (mR (rC .non)))) (sNil)) (sRet (wM (mR (r2 pIx (rV 4) (rV 6))))))))
def t_tune (psi__off : PSp) (psi__name : PSp) (psi__note_of : PSp) : TSp :=
  sSeq (sSet 4 (wM (m2 pAddU (mR (rC (.int 1))) (mW (wCall 2 psi__off (axS 0 (axR (mR (rV 3)) (axN)))))))) (sSeq (sSet 5 (wLc (iR1 (amC (mR (rV 4)) (amN))) (gN 6) (tYesP) (mW (wCall 2 psi__off (axS 0 (axR (mR (rN pLen (arC (r2 pIx (rV 1) (rC (.int 1))) (arN)))) (axN))))) [6])) (sSeq (sSet 7 (wLst (amN))) (sSeq (sFor (iR1 (amC (m2 pAddU (mR (rC (.int 1))) (mW (wCall 2 psi__off (axS 0 (axR (mR (rV 2)) (axN)))))) (amN))) (gN 8) (sSeq (sSet 9 (wLst (amN))) (sSeq (sFor (iR1 (amC (mR (rV 4)) (amN))) (gN 6) (sSeq (sIf (bAnd (bR (r2 (pEq true) (rV 7) (rLst (arN)))) (bM (m2 (pEq false) (mW (wCall 2 psi__off (axS 0 (axR (mR (rC (.int 3))) (axN))))) (mR (rC (.int 0)))))) (sSeq (sSet 10 (wLc (iR1 (amC (mR (rN pLen (arC (r2 pIx (rV 1) (rC (.int 1))) (arN)))) (amN))) (gN 11) (bM (m2 (pIsN true) (mW (wCall 3 psi__name (axR (mR (rV 1)) (axR (mR (rV 11)) (axR (mR (r2 pIx (r2 pIx (rV 7) (r1 pNeg (rC (.int 1)))) (rV 6))) (axN)))))) (mR (rC .non)))) (mR (rV 11)) [11])) (sSeq (sSet 10 (wM (m2 pAddU (mFz 10) (mLst (amC (mW (wCall 2 psi__off (axS 0 (axR (mR (rN pLen (arC (r2 pIx (rV 1) (rC (.int 1))) (arN)))) (axN))))) (amN)))))) (sPutL (wM (m2 pIx (mFz 10) (mW (wCall 2 psi__off (axS 0 (axR (mR (rN pLen (arC (rV 10) (arN)))) (axN))))))) (pV 5) (rV 6)))) (sNil)) (sSeq (sSet 12 (wM (mW (wCall 3 psi__note_of (axR (mR (rV 1)) (axR (mR (r2 pIx (rV 5) (rV 6))) (axR (mW (wCall 2 psi__off (axS 0 (axR (mR (rN pLen (arC (r2 pIx (r2 pIx (r2 pIx (rV 1) (rC (.int 1))) (r2 pIx (rV 5) (rV 6))) (rC (.int 1))) (arN)))) (axN))))) (axN)))))))) (sSeq (sIf (bOr (bM (m2 (pEq false) (mW (wCall 2 psi__off (axS 0 (axR (mR (rC (.int 19))) (axN))))) (mR (rC (.int 0))))) (bR (r2 pGt (rN pAbs (arC (r2 pIx (rV 12) (rC (.int 1))) (arN))) (rC (.int 9))))) (sSet 12 (wM (mTup (amC (mW (wCall 2 psi__off (axS 0 (axR (mR (r2 pAddU (rN pLen (arC (r2 pIx (rV 1) (rC (.int 0))) (arN))) (rC (.int 1)))) (axN))))) (amC (m2 pSub (mW (wCall 2 psi__off (axS 0 (axR (mR (rC (.int 5))) (axN))))) (mR (rC (.int 2)))) (amN)))))) (sNil)) (sApp 9 (wM (mR (rV 12)))))))) (sApp 7 (wM (mR (rN pTuple (arC (rV 9) (arN))))))))) (sRet (wMv 7)))))
def t_drawn (psi__name : PSp) (psi__off : PSp) : TSp :=
  sSeq (sSet 3 (wLst (amN))) (sSeq (sFor (iL (mR (rV 2))) (gN 4) (sSeq (sSet 5 (wLst (amN))) (sSeq (sFor (iR1 (amC (mR (rN pLen (arC (rV 4) (arN)))) (amN))) (gN 6) (sSeq (sSet 7 (wLc (iR1 (amC (mR (rN pLen (arC (r2 pIx (rV 1) (rC (.int 1))) (arN)))) (amN))) (gN 8) (bM (m2 (pIsN true) (mW (wCall 3 psi__name (axR (mR (rV 1)) (axR (mR (rV 8)) (axR (mR (r2 pIx (rV 4) (rV 6))) (axN)))))) (mR (rC .non)))) (mR (rV 8)) [8])) (sSeq (sIf (bOr (bR (r2 (pEq false) (rV 7) (rLst (arN)))) (bM (m2 (pEq false) (mW (wCall 2 psi__off (axS 0 (axR (mR (rC (.int 19))) (axN))))) (mR (rC (.int 0)))))) (sSet 7 (wM (mR (rRg1 (rN pLen (arC (r2 pIx (rV 1) (rC (.int 1))) (arN))))))) (sNil)) (sSeq (sIf (bAnd (bR (r2 (pEq true) (rV 3) (rLst (arN)))) (bAnd (bR (r2 (pIn false) (r2 pIx (r2 pIx (rV 3) (r1 pNeg (rC (.int 1)))) (rV 6)) (rV 7))) (bM (m2 pGt (mW (wCall 2 psi__off (axS 0 (axR (mR (rC (.int 3))) (axN))))) (mR (rC (.int 0))))))) (sSet 7 (wM (mR (rLst (arC (r2 pIx (r2 pIx (rV 3) (r1 pNeg (rC (.int 1)))) (rV 6)) (arN)))))) (sNil)) (sApp 5 (wM (m2 pIx (mFz 7) (mW (wCall 2 psi__off (axS 0 (axR (mR (rN pLen (arC (rV 7) (arN)))) (axN)))))))))))) (sApp 3 (wM (mR (rN pTuple (arC (rV 5) (arN))))))))) (sRet (wMv 3)))
def t_need_tune (C_School : Addr) : TSp :=
  sSeq (sIf (bNot (bM (mChain pLe pLe (mR (rC (.int 1))) (mR (rN pLen (arC (rV 1) (arN)))) (mR (rC (.int 24)))))) (sNever) (sNil)) (sFor (iEn (amC (mR (rV 1)) (amN))) (gT 2 (gsC (gN 2) (gsC (gN 3) (gsN)))) (sSeq (sIf (bOr (bNot (bM (mChain pLe pLe (mR (rC (.int 1))) (mR (rN pLen (arC (rV 3) (arN)))) (mR (rC (.int 3)))))) (bR (r2 (pEq true) (rN pLen (arC (rV 3) (arN))) (rN pLen (arC (r2 pIx (rV 1) (rC (.int 0))) (arN)))))) (sNever) (sNil)) (sFor (iT (mR (rV 3))) (gT 2 (gsC (gN 4) (gsC (gN 5) (gsN)))) (sIf (bOr (bNot (bM (mChain pLe pLt (mR (rC (.int 0))) (mR (rV 4)) (mR (rN pLen (arC (r1 (pFld C_School "heights") (rV 0)) (arN))))))) (bNot (bM (mChain pLe pLe (mR (r2 pSub (rC (.int 0)) (rC (.int 9)))) (mR (rV 5)) (mR (rC (.int 9))))))) (sNever) (sNil)))))
def t_School_named (C_School : Addr) : TSp :=
  sRet (wM (mR (rDGet2 (r2 pIx (r1 (pFld C_School "tables") (rV 0)) (rV 1)) (rV 2) (rC .non))))
def t_column_fault (psi__School_named : PSp) (C_School : Addr) : TSp :=
  sSeq (sSet 3 (wLc (iZp (amC (mR (rV 2)) (amC (mR (rV 1)) (amN)))) (gT 2 (gsC (gN 4) (gsC (gN 5) (gsN)))) (tYesP) (mW (wMethR C_School "named" 2 psi__School_named (mR (rV 0)) (axR (mR (rV 4)) (axR (mR (rV 5)) (axN))))) [4, 5])) (sSeq (sFor (iEn (amC (mFz 3) (amN))) (gT 2 (gsC (gN 6) (gsC (gN 7) (gsN)))) (sIf (bR (r2 (pIsN false) (rV 7) (rC .non))) (sRet (wM (mR (rTup (arC (rC (.str "lacks")) (arC (rV 6) (arN))))))) (sNil))) (sSeq (sFor (iR1 (amC (mR (rN pLen (arC (rV 3) (arN)))) (amN))) (gN 8) (sFor (iR2 (amC (mR (r2 pAddU (rV 8) (rC (.int 1)))) (amC (mR (rN pLen (arC (rV 3) (arN)))) (amN)))) (gN 9) (sSeq (sSet 10 (wM (mR (rTup (arC (r2 pIx (rV 3) (rV 8)) (arC (r2 pIx (rV 3) (rV 9)) (arN))))))) (sIf (bOr (bR (r2 (pIn false) (r2 pAddU (rTup (arC (rC (.str "beside")) (arN))) (rV 10)) (r1 (pFld C_School "kept") (rV 0)))) (bR (r2 (pIn false) (rTup (arC (rC (.str "beside")) (arC (r2 pIx (rV 10) (rC (.int 1))) (arC (r2 pIx (rV 10) (rC (.int 0))) (arN))))) (r1 (pFld C_School "kept") (rV 0))))) (sRet (wM (mR (rTup (arC (rC (.str "beside")) (arC (rV 8) (arC (rV 9) (arN)))))))) (sNil))))) (sRet (wM (mR (rC .non))))))
def t_over_fault (psi__School_named : PSp) (C_School : Addr) : TSp :=
  sSeq (sSet 4 (wM (mW (wMethR C_School "named" 2 psi__School_named (mR (rV 0)) (axR (mR (rV 3)) (axR (mR (rV 1)) (axN))))))) (sSeq (sIf (bR (r2 (pIsN false) (rV 4) (rC .non))) (sRet (wM (mR (rC (.str "common"))))) (sNil)) (sSeq (sIf (bR (r2 (pIn false) (rTup (arC (rC (.str "over")) (arC (rV 2) (arC (rV 3) (arN))))) (r1 (pFld C_School "kept") (rV 0)))) (sRet (wM (mR (rC (.str "over"))))) (sNil)) (sRet (wM (mIf (bR (r2 (pIn false) (rTup (arC (rC (.str "at")) (arC (rV 4) (arN)))) (r1 (pFld C_School "kept") (rV 0)))) (mR (rC (.str "at"))) (mR (rC .non)))))))
def t_step_fault (psi__over_fault : PSp) : TSp :=
  sSeq (sFor (iEnT (amC (mR (rV 1)) (amN))) (gT 2 (gsC (gN 4) (gsC (gN 5) (gsN)))) (sIf (bR (r2 (pEq true) (r2 pIx (rV 2) (rV 4)) (r2 pIx (rV 3) (rV 4)))) (sSeq (sSet 6 (wM (mW (wCall 4 psi__over_fault (axR (mR (rV 0)) (axR (mR (rV 5)) (axR (mR (r2 pIx (rV 2) (rV 4))) (axR (mR (r2 pIx (rV 3) (rV 4))) (axN))))))))) (sIf (bR (r2 (pIsN true) (rV 6) (rC .non))) (sRet (wM (mR (rTup (arC (rV 6) (arC (rV 4) (arN))))))) (sNil))) (sNil))) (sRet (wM (mR (rC .non))))
def t_next_fault (psi__column_fault : PSp) (psi__step_fault : PSp) : TSp :=
  sSeq (sSet 5 (wM (mW (wCall 3 psi__column_fault (axR (mR (rV 0)) (axR (mR (r2 pIx (rV 1) (rV 2))) (axR (mR (rV 4)) (axN)))))))) (sSeq (sIf (bAnd (bR (r2 (pIsN false) (rV 5) (rC .non))) (bR (r2 (pIsN true) (rV 3) (rC .non)))) (sSet 5 (wM (mW (wCall 4 psi__step_fault (axR (mR (rV 0)) (axR (mR (r2 pIx (rV 1) (r2 pSub (rV 2) (rC (.int 1))))) (axR (mR (rV 3)) (axR (mR (rV 4)) (axN))))))))) (sNil)) (sRet (wM (mR (rV 5)))))
def t_fault (psi__need_tune : PSp) (C_School : Addr) (psi__next_fault : PSp) : TSp :=
  sSeq (sExpr (mW (wCall 2 psi__need_tune (axR (mR (rV 0)) (axR (mR (rV 1)) (axN)))))) (sSeq (sIf (bR (r2 (pEq true) (rN pLen (arC (rV 2) (arN))) (rN pLen (arC (rV 1) (arN))))) (sNever) (sNil)) (sSeq (sFor (iL (mR (rV 2))) (gN 3) (sIf (bOr (bR (r2 (pEq true) (rN pLen (arC (rV 3) (arN))) (rN pLen (arC (r2 pIx (rV 1) (rC (.int 0))) (arN))))) (bM (m2 (pEq true) (mW (wLc (iT (mR (rV 3))) (gN 4) (bNot (bM (mChain pLe pLt (mR (rC (.int 0))) (mR (rV 4)) (mR (rN pLen (arC (r1 (pFld C_School "told") (rV 0)) (arN))))))) (mR (rV 4)) [4])) (mR (rLst (arN)))))) (sNever) (sNil))) (sSeq (sSet 5 (wM (mR (rC .non)))) (sSeq (sFor (iEn (amC (mR (rV 2)) (amN))) (gT 2 (gsC (gN 6) (gsC (gN 3) (gsN)))) (sSeq (sSet 7 (wM (mW (wCall 5 psi__next_fault (axR (mR (rV 0)) (axR (mR (rV 1)) (axR (mR (rV 6)) (axR (mR (rV 5)) (axR (mR (rV 3)) (axN)))))))))) (sSeq (sIf (bR (r2 (pIsN true) (rV 7) (rC .non))) (sRet (wM (mR (r2 pAddU (rTup (arC (r2 pIx (rV 7) (rC (.int 0))) (arC (rV 6) (arN)))) (rSlc pSl (rV 7) (poI (rC (.int 1))) (poN)))))) (sNil)) (sSet 5 (wM (mR (rV 3))))))) (sRet (wM (mR (rC .non))))))))
def t_in_column (psi__name : PSp) : TSp :=
  sSeq (sSet 3 (wLc (iR1 (amC (mR (rN pLen (arC (rV 1) (arN)))) (amN))) (gN 4) (tYesP) (mW (wCall 3 psi__name (axR (mR (rV 0)) (axR (mR (r2 pIx (rV 2) (rV 4))) (axR (mR (r2 pIx (rV 1) (rV 4))) (axN)))))) [4])) (sSeq (sFor (iR1 (amC (mR (rN pLen (arC (rV 3) (arN)))) (amN))) (gN 4) (sIf (bR (r2 (pIsN false) (r2 pIx (rV 3) (rV 4)) (rC .non))) (sRet (wM (mR (rTup (arC (rC (.str "lacks")) (arC (rV 4) (arN))))))) (sNil))) (sSeq (sFor (iR1 (amC (mR (rN pLen (arC (rV 3) (arN)))) (amN))) (gN 5) (sFor (iR2 (amC (mR (r2 pAddU (rV 5) (rC (.int 1)))) (amC (mR (rN pLen (arC (rV 3) (arN)))) (amN)))) (gN 6) (sSeq (sSet 7 (wM (mR (rN pSortS (arC (rLst (arC (r2 pIx (rV 3) (rV 5)) (arC (r2 pIx (rV 3) (rV 6)) (arN)))) (arN)))))) (sIf (bM (m2 (pEq true) (mW (wLc (iL (mR (r2 pIx (rV 0) (rC (.int 2))))) (gN 8) (bAnd (bR (r2 (pEq false) (r2 pIx (rV 8) (rC (.int 0))) (rC (.str "beside")))) (bR (r2 (pEq false) (rN pSortS (arC (rSlc pSl (rV 8) (poI (rC (.int 1))) (poN)) (arN))) (rV 7)))) (mR (rV 8)) [8])) (mR (rLst (arN))))) (sRet (wM (mR (rTup (arC (rC (.str "beside")) (arC (rV 5) (arC (rV 6) (arN)))))))) (sNil))))) (sRet (wM (mR (rC .non))))))
def t_follows (psi__name : PSp) : TSp :=
  sSeq (sFor (iR1 (amC (mR (rN pLen (arC (rV 1) (arN)))) (amN))) (gN 4) (sIf (bR (r2 (pEq true) (r2 pIx (rV 2) (rV 4)) (r2 pIx (rV 3) (rV 4)))) (sSeq (sSet 5 (wM (mW (wCall 3 psi__name (axR (mR (rV 0)) (axR (mR (r2 pIx (rV 3) (rV 4))) (axR (mR (r2 pIx (rV 1) (rV 4))) (axN)))))))) (sSeq (sIf (bR (r2 (pIsN false) (rV 5) (rC .non))) (sRet (wM (mR (rTup (arC (rC (.str "common")) (arC (rV 4) (arN))))))) (sNil)) (sSeq (sIf (bR (r2 (pIn false) (rTup (arC (rC (.str "over")) (arC (r2 pIx (rV 2) (rV 4)) (arC (r2 pIx (rV 3) (rV 4)) (arN))))) (r2 pIx (rV 0) (rC (.int 2))))) (sRet (wM (mR (rTup (arC (rC (.str "over")) (arC (rV 4) (arN))))))) (sNil)) (sIf (bR (r2 (pIn false) (rTup (arC (rC (.str "at")) (arC (rV 5) (arN)))) (r2 pIx (rV 0) (rC (.int 2))))) (sRet (wM (mR (rTup (arC (rC (.str "at")) (arC (rV 4) (arN))))))) (sNil))))) (sNil))) (sRet (wM (mR (rC .non))))
def t_L_fault (psi__in_column : PSp) (psi__follows : PSp) : TSp :=
  sSeq (sFor (iR1 (amC (mR (rN pLen (arC (rV 1) (arN)))) (amN))) (gN 3) (sSeq (sSet 4 (wM (mW (wCall 3 psi__in_column (axR (mR (rV 0)) (axR (mR (r2 pIx (rV 1) (rV 3))) (axR (mR (r2 pIx (rV 2) (rV 3))) (axN)))))))) (sSeq (sIf (bAnd (bR (r2 (pIsN false) (rV 4) (rC .non))) (bR (r2 pGt (rV 3) (rC (.int 0))))) (sSet 4 (wM (mW (wCall 4 psi__follows (axR (mR (rV 0)) (axR (mR (r2 pIx (rV 1) (r2 pSub (rV 3) (rC (.int 1))))) (axR (mR (r2 pIx (rV 2) (r2 pSub (rV 3) (rC (.int 1))))) (axR (mR (r2 pIx (rV 2) (rV 3))) (axN))))))))) (sNil)) (sIf (bR (r2 (pIsN true) (rV 4) (rC .non))) (sRet (wM (mR (r2 pAddU (rTup (arC (r2 pIx (rV 4) (rC (.int 0))) (arC (rV 3) (arN)))) (rSlc pSl (rV 4) (poI (rC (.int 1))) (poN)))))) (sNil))))) (sRet (wM (mR (rC .non))))
def t_law (psi__dice : PSp) (psi__school : PSp) (psi__made : PSp) (psi__tune : PSp) (psi__off : PSp) (psi__drawn : PSp) (psi__fault : PSp) (psi__L_fault : PSp) : TSp :=
  sSeq (sSet 1 (wCall 2 psi__dice (axR (mR (rV 0)) (axR (mR (rC (.int 0))) (axN))))) (sSeq (sSet 2 (wM (mW (wCall 2 psi__school (axS 1 (axR (mR (rC (.int 5))) (axN))))))) (sSeq (sSet 3 (wM (mW (wCall 1 psi__made (axR (mR (rV 2)) (axN)))))) (sSeq (sSet 4 (wM (mW (wCall 4 psi__tune (axS 1 (axR (mR (rV 2)) (axR (m2 pIx (mR (rLst (arC (rC (.int 12)) (arC (rC (.int 24)) (arN))))) (mW (wCall 2 psi__off (axS 1 (axR (mR (rC (.int 2))) (axN)))))) (axR (mR (rC (.int 3))) (axN))))))))) (sSeq (sFor (iR1 (amC (mR (rC (.int 4))) (amN))) (gN 5) (sSeq (sSet 6 (wM (mW (wCall 3 psi__drawn (axS 1 (axR (mR (rV 2)) (axR (mR (rV 4)) (axN)))))))) (sSeq (sSet 7 (wM (mR (rLst (arC (rN pList (arC (rV 4) (arN))) (arC (rN pList (arC (rV 6) (arN))) (arN))))))) (sSeq (sSet 8 (wM (mW (wCall 3 psi__fault (axR (mR (rV 3)) (axR (mR (r2 pIx (rV 7) (rC (.int 0)))) (axR (mR (r2 pIx (rV 7) (rC (.int 1)))) (axN)))))))) (sSeq (sSet 9 (wM (mW (wCall 3 psi__L_fault (axR (mR (rV 2)) (axR (mR (rV 4)) (axR (mR (rV 6)) (axN)))))))) (sIf (bOr (bR (r2 (pEq true) (rV 7) (rLst (arC (rV 4) (arC (rV 6) (arN)))))) (bOr (bR (r2 (pEq true) (rV 8) (rV 9))) (bAnd (bR (r2 (pIsN true) (rV 9) (rC .non))) (bNot (bM (mR (rN pIsi (arC (rV 8) (arC (rC (.ty "tuple")) (arN)))))))))) (sRet (wM (mR (rC (.bl false))))) (sNil))))))) (sRet (wM (mR (rC (.bl true)))))))))
end Rd
end
section
open PySem PySem.W PySem.Spec PyProof.Rows L2 Pu Rd
set_option Elab.async false
set_option linter.all false
set_option maxRecDepth 100000
set_option maxHeartbeats 4000000
namespace Sp
/-! ### the dice -/
def dI (ns : List Int) : D := .lst (ns.map D.int)
def Dice (o : O) : Prop := ∃ (ns : List Int) (a k b : Int), 0 ≤ k ∧ o = .lst [.ro (.int a), .ro (dI ns), .ro (.int k), .ro (.int b)]
def psi_cell : PSp := fun os Q _ => ∃ (ns : List Int) (k : Int), os = [.ro (dI ns), .ro (.int k)] ∧ 0 ≤ k ∧ ∀ c, Q (.ro (.int c)) [.ro (dI ns), .ro (.int k)]
theorem mo_cell : PMono psi_cell := fun os Q1 Q2 E1 E2 h _ ⟨ns, k, e, hk, q⟩ => ⟨ns, k, e, hk, fun c => h _ _ (q c)⟩
theorem atI_some {α : Type} {xs : List α} {k : Int} (h0 : 0 ≤ k) (h1 : k < (xs.length : Int)) : ∃ x, atI xs k = some x ∧ x ∈ xs := by
  unfold atI ixN
  rw [if_pos h0, if_pos h1]
  have : k.toNat < xs.length := by omega
  exact ⟨xs[k.toNat], by simp [this], List.getElem_mem _⟩
theorem sz : sizeLine = 16777216 := sizeLine_eq
theorem pu_cell (os : List O) (Qp : O → List O → Prop) (Ep : PX) (hl : os.length = 2) (h : psi_cell os Qp Ep) : t_cell (endP [] os Qp Ep) (startP 2 os) := by
  obtain ⟨ns, k, rfl, hk, h⟩ := h
  simp [t_cell, endP, retTo, outs, exTo, rC, rV, r1, r2, rN, m1, m2, mN, arN, arC, amN, amC, rTup, mTup, rLst, mLst, wLst, mIf, bM, bR, bAnd, bOr, bNot, wMv, mFz, mR, wM, mW, onRo, onBl, rosL, sNil, sSeq, sExpr, sRet, sRetN, sIf, sBrk, sCnt, sNever, sSet, gN, gsN, gsC, gT, sAsg, sFor, wLc, iL, iT, iS, iR1, iR2, iR3, iEn, iEnT, iZp, tYesP, axN, axR, axS, takeA, backA, callGo, wCall, wMethR, wMethS, wMake, mkGo, pFld, sFldSet, fStore, mAnd, mOr, mNot, mChain, wList, wListM, poN, poI, rSlc, rLenSet, rDGet, rDGet1, rDGet2, bDIn, wDnew, sPutL, sPutM, sDput, sApp, sAppP, pV, pF, Pu.pI, pK, startP, O.seq, O.d, fGet, List.lookup, O.nonB, isLst, ↓e_addI, ↓e_addS, ↓e_addL, ↓e_addT, ↓e_sub, ↓e_mulI, ↓e_mulS, ↓e_div, ↓e_mod, ↓e_pow, ↓e_lt, ↓e_le, ↓e_gt, ↓e_ge, ↓e_neg, ↓e_inS, ↓e_ixL, ↓e_ixRL, ↓e_ixRT, ↓e_ixS, ↓e_lenL, ↓e_lenRL, ↓e_lenRT, ↓e_lenS, ↓e_abs, ↓e_max, ↓e_min, ↓e_int1, ↓e_int1b, ↓e_sumL, ↓e_sumTu, ↓e_listRL, ↓e_listRT, ↓e_tupRL, ↓e_tupO, ↓e_slRL, ↓e_slRT, ↓e_slL, ↓e_eq, ↓e_isN, ↓e_inF, ↓map_ro, ↓map_int, fine_int, fine_bl, fine_non, fine_str, eqb_int, eqb_str, eqb_nil, fine_nil, ds_ro, sPut, O.put, O.put1, O.at, O.at1, fPut, -List.map_map, dI]
  split
  · rename_i hlt
    obtain ⟨x, hx, hm⟩ := atI_some (xs := ns.map D.int) hk (by simpa using hlt)
    obtain ⟨n, _, rfl⟩ := List.mem_map.mp hm
    rw [hx]
    exact h n
  · exact h 0
def psi_dice : PSp := fun os Q _ => ∃ (ns : List Int) (k : Int), os = [.ro (dI ns), .ro (.int k)] ∧ 0 ≤ k ∧ ∀ d, Dice d → Q d [.ro (dI ns), .ro (.int k)]
theorem mo_dice : PMono psi_dice := fun os Q1 Q2 E1 E2 h _ ⟨ns, k, e, hk, q⟩ => ⟨ns, k, e, hk, fun c hc => h _ _ (q c hc)⟩
theorem pu_dice (os : List O) (Qp : O → List O → Prop) (Ep : PX) (hl : os.length = 2) (h : psi_dice os Qp Ep) : t_dice psi_cell (endP [] os Qp Ep) (startP 3 os) := by
  obtain ⟨ns, k, rfl, hk, h⟩ := h
  simp [t_dice, endP, retTo, outs, exTo, rC, rV, r1, r2, rN, m1, m2, mN, arN, arC, amN, amC, rTup, mTup, rLst, mLst, wLst, mIf, bM, bR, bAnd, bOr, bNot, wMv, mFz, mR, wM, mW, onRo, onBl, rosL, sNil, sSeq, sExpr, sRet, sRetN, sIf, sBrk, sCnt, sNever, sSet, gN, gsN, gsC, gT, sAsg, sFor, wLc, iL, iT, iS, iR1, iR2, iR3, iEn, iEnT, iZp, tYesP, axN, axR, axS, takeA, backA, callGo, wCall, wMethR, wMethS, wMake, mkGo, pFld, sFldSet, fStore, mAnd, mOr, mNot, mChain, wList, wListM, poN, poI, rSlc, rLenSet, rDGet, rDGet1, rDGet2, bDIn, wDnew, sPutL, sPutM, sDput, sApp, sAppP, pV, pF, Pu.pI, pK, startP, O.seq, O.d, fGet, List.lookup, O.nonB, isLst, ↓e_addI, ↓e_addS, ↓e_addL, ↓e_addT, ↓e_sub, ↓e_mulI, ↓e_mulS, ↓e_div, ↓e_mod, ↓e_pow, ↓e_lt, ↓e_le, ↓e_gt, ↓e_ge, ↓e_neg, ↓e_inS, ↓e_ixL, ↓e_ixRL, ↓e_ixRT, ↓e_ixS, ↓e_lenL, ↓e_lenRL, ↓e_lenRT, ↓e_lenS, ↓e_abs, ↓e_max, ↓e_min, ↓e_int1, ↓e_int1b, ↓e_sumL, ↓e_sumTu, ↓e_listRL, ↓e_listRT, ↓e_tupRL, ↓e_tupO, ↓e_slRL, ↓e_slRT, ↓e_slL, ↓e_eq, ↓e_isN, ↓e_inF, ↓map_ro, ↓map_int, fine_int, fine_bl, fine_non, fine_str, eqb_int, eqb_str, eqb_nil, fine_nil, ds_ro, sPut, O.put, O.put1, O.at, O.at1, fPut, -List.map_map, psi_cell]
  refine ⟨ns, k, ⟨rfl, rfl⟩, hk, fun c => ?_⟩
  refine ⟨⟨by decide, by decide, by decide⟩, .inl (by generalize (if c < 0 then -c else c) = z; split <;> decide), by rw [sz]; decide, h _ ⟨ns, _, _, _, (by omega), rfl⟩⟩
def psi_off : PSp := fun os Q _ => ∃ (d : O) (m : Int), os = [d, .ro (.int m)] ∧ Dice d ∧ 0 < m ∧ m < 1073741824 ∧ ∀ v d', Dice d' → 0 ≤ v → v < m → Q (.ro (.int v)) [d', .ro (.int m)]
theorem mo_off : PMono psi_off := fun os Q1 Q2 E1 E2 h _ ⟨d, m, e, hd, h1, h2, q⟩ => ⟨d, m, e, hd, h1, h2, fun v d' a b c => h _ _ (q v d' a b c)⟩
theorem pu_off (os : List O) (Qp : O → List O → Prop) (Ep : PX) (hl : os.length = 2) (h : psi_off os Qp Ep) : t_off psi_cell (endP [0] os Qp Ep) (startP 4 os) := by
  obtain ⟨d, m, rfl, ⟨ns, a, k, b, hk, rfl⟩, h1, h2, h⟩ := h
  simp [t_off, endP, retTo, outs, exTo, rC, rV, r1, r2, rN, m1, m2, mN, arN, arC, amN, amC, rTup, mTup, rLst, mLst, wLst, mIf, bM, bR, bAnd, bOr, bNot, wMv, mFz, mR, wM, mW, onRo, onBl, rosL, sNil, sSeq, sExpr, sRet, sRetN, sIf, sBrk, sCnt, sNever, sSet, gN, gsN, gsC, gT, sAsg, sFor, wLc, iL, iT, iS, iR1, iR2, iR3, iEn, iEnT, iZp, tYesP, axN, axR, axS, takeA, backA, callGo, wCall, wMethR, wMethS, wMake, mkGo, pFld, sFldSet, fStore, mAnd, mOr, mNot, mChain, wList, wListM, poN, poI, rSlc, rLenSet, rDGet, rDGet1, rDGet2, bDIn, wDnew, sPutL, sPutM, sDput, sApp, sAppP, pV, pF, Pu.pI, pK, startP, O.seq, O.d, fGet, List.lookup, O.nonB, isLst, ↓e_addI, ↓e_addS, ↓e_addL, ↓e_addT, ↓e_sub, ↓e_mulI, ↓e_mulS, ↓e_div, ↓e_mod, ↓e_pow, ↓e_lt, ↓e_le, ↓e_gt, ↓e_ge, ↓e_neg, ↓e_inS, ↓e_ixL, ↓e_ixRL, ↓e_ixRT, ↓e_ixS, ↓e_lenL, ↓e_lenRL, ↓e_lenRT, ↓e_lenS, ↓e_abs, ↓e_max, ↓e_min, ↓e_int1, ↓e_int1b, ↓e_sumL, ↓e_sumTu, ↓e_listRL, ↓e_listRT, ↓e_tupRL, ↓e_tupO, ↓e_slRL, ↓e_slRT, ↓e_slL, ↓e_eq, ↓e_isN, ↓e_inF, ↓map_ro, ↓map_int, fine_int, fine_bl, fine_non, fine_str, eqb_int, eqb_str, eqb_nil, fine_nil, ds_ro, sPut, O.put, O.put1, O.at, O.at1, fPut, -List.map_map, psi_cell, atI, ixN, dI, sPut, O.put, O.put1, CDiv]
  split
  · exact ⟨h1, ⟨h1, h2⟩, h _ _ ⟨ns, _, _, _, hk, rfl⟩ (Int.emod_nonneg _ (by omega)) (Int.emod_lt_of_pos _ h1)⟩
  · have hp : (0 : Int) < if 1 < (ns.length : Int) then (ns.length : Int) else 1 := by split <;> omega
    refine ⟨hp, ns, _, ⟨rfl, rfl⟩, Int.emod_nonneg _ (by omega), fun c => ⟨.inr (by decide), h1, h _ _ ⟨ns, _, _, _, by omega, rfl⟩ (Int.emod_nonneg _ (by omega)) (Int.emod_lt_of_pos _ h1)⟩⟩
/-! ### words -/
def sgn (i : Int) : Str := ⟨#[97 + i.toNat]⟩
def wordS (s k : Int) : Str := Txt.mul (sgn ((s + 5 * (k / 3)) % 26)) (1 + s / 26 % 5) ++ (if k % 3 = 0 then ("" : Str) else if k % 3 = 1 then sgn ((s + 7) % 26) else sgn ((s + 11) % 26))
def psi_word : PSp := fun os Q _ => ∃ (s k : Int), os = [.ro (.int s), .ro (.int k)] ∧ 0 ≤ s ∧ 0 ≤ k ∧ Q (.ro (.str (wordS s k))) [.ro (.int s), .ro (.int k)]
theorem mo_word : PMono psi_word := fun os Q1 Q2 E1 E2 h _ ⟨ns, k, e, hk, h2, q⟩ => ⟨ns, k, e, hk, h2, h _ _ q⟩
def abc : List Nat := [97, 98, 99, 100, 101, 102, 103, 104, 105, 106, 107, 108, 109, 110, 111, 112, 113, 114, 115, 116, 117, 118, 119, 120, 121, 122]
theorem abc_at {i : Int} (h0 : 0 ≤ i) (h1 : i < 26) : atI abc i = some (97 + i.toNat) := by
  have : ∀ j : Fin 26, atI abc (j.val : Int) = some (97 + j.val) := by decide
  obtain ⟨n, rfl⟩ := Int.eq_ofNat_of_zero_le h0
  have h := this ⟨n, by omega⟩
  simpa using h
theorem abc_eq : ("abcdefghijklmnopqrstuvwxyz" : Str).cps.toList = abc := by decide +kernel
theorem abc_len : ("abcdefghijklmnopqrstuvwxyz" : Str).length ≤ sizeLine := by rw [sz]; decide +kernel
theorem m26 (x : Int) : 0 ≤ x % 26 ∧ x % 26 < 26 := ⟨Int.emod_nonneg _ (by decide), Int.emod_lt_of_pos _ (by decide)⟩
theorem sg_ok (i : Int) : (sgn i).length = 1 := rfl
theorem mulOk1 {i n : Int} (h1 : 1 ≤ n) (h2 : n ≤ 5) : MulOk (sgn i) n := by
  have : n = 1 ∨ n = 2 ∨ n = 3 ∨ n = 4 ∨ n = 5 := by omega
  refine ⟨?_, ?_, ?_⟩
  · simp; omega
  · intro _ _
    rw [sg_ok]
    rcases this with h | h | h | h | h <;> subst h <;> decide
  · intro _ _
    rw [sg_ok]
    rcases this with h | h | h | h | h <;> subst h <;> (unfold Builtin.Str.tooLong; rw [sz]; decide)
theorem mul_len {i n : Int} (h1 : 1 ≤ n) (h2 : n ≤ 5) : (Txt.mul (sgn i) n).length = n.toNat := by
  have : n = 1 ∨ n = 2 ∨ n = 3 ∨ n = 4 ∨ n = 5 := by omega
  rcases this with h | h | h | h | h <;> subst h <;> rfl
theorem s5 (s : Int) : 1 ≤ 1 + s / 26 % 5 ∧ 1 + s / 26 % 5 ≤ 5 := by
  have h1 := Int.emod_nonneg (s / 26) (by decide : (5 : Int) ≠ 0)
  have h2 := Int.emod_lt_of_pos (s / 26) (by decide : (0 : Int) < 5)
  omega
theorem pu_word (os : List O) (Qp : O → List O → Prop) (Ep : PX) (hl : os.length = 2) (h : psi_word os Qp Ep) : t_word (endP [] os Qp Ep) (startP 4 os) := by
  obtain ⟨s, k, rfl, hs, hk, h⟩ := h
  simp [t_word, endP, retTo, outs, exTo, rC, rV, r1, r2, rN, m1, m2, mN, arN, arC, amN, amC, rTup, mTup, rLst, mLst, wLst, mIf, bM, bR, bAnd, bOr, bNot, wMv, mFz, mR, wM, mW, onRo, onBl, rosL, sNil, sSeq, sExpr, sRet, sRetN, sIf, sBrk, sCnt, sNever, sSet, gN, gsN, gsC, gT, sAsg, sFor, wLc, iL, iT, iS, iR1, iR2, iR3, iEn, iEnT, iZp, tYesP, axN, axR, axS, takeA, backA, callGo, wCall, wMethR, wMethS, wMake, mkGo, pFld, sFldSet, fStore, mAnd, mOr, mNot, mChain, wList, wListM, poN, poI, rSlc, rLenSet, rDGet, rDGet1, rDGet2, bDIn, wDnew, sPutL, sPutM, sDput, sApp, sAppP, pV, pF, Pu.pI, pK, startP, O.seq, O.d, fGet, List.lookup, O.nonB, isLst, ↓e_addI, ↓e_addS, ↓e_addL, ↓e_addT, ↓e_sub, ↓e_mulI, ↓e_mulS, ↓e_div, ↓e_mod, ↓e_pow, ↓e_lt, ↓e_le, ↓e_gt, ↓e_ge, ↓e_neg, ↓e_inS, ↓e_ixL, ↓e_ixRL, ↓e_ixRT, ↓e_ixS, ↓e_lenL, ↓e_lenRL, ↓e_lenRT, ↓e_lenS, ↓e_abs, ↓e_max, ↓e_min, ↓e_int1, ↓e_int1b, ↓e_sumL, ↓e_sumTu, ↓e_listRL, ↓e_listRT, ↓e_tupRL, ↓e_tupO, ↓e_slRL, ↓e_slRT, ↓e_slL, ↓e_eq, ↓e_isN, ↓e_inF, ↓map_ro, ↓map_int, fine_int, fine_bl, fine_non, fine_str, eqb_int, eqb_str, eqb_nil, fine_nil, ds_ro, sPut, O.put, O.put1, O.at, O.at1, fPut, -List.map_map, CDiv, abc_eq, abc_at (m26 _).1 (m26 _).2]
  have h3 : k % 3 = 0 ∨ k % 3 = 1 ∨ k % 3 = 2 := by omega
  refine ⟨.inl ⟨by decide, by decide⟩, abc_len, mulOk1 (s5 s).1 (s5 s).2, abc_len, by rw [sz]; decide, ?_⟩
  have hm := mul_len (i := (s + 5 * (k / 3)) % 26) (s5 s).1 (s5 s).2
  have h5 := s5 s
  unfold wordS at h
  have fin : ∀ z : Str, z.length ≤ 1 → (Txt.mul (sgn ((s + 5 * (k / 3)) % 26)) (1 + s / 26 % 5)).length + z.length ≤ sizeLine := fun z hz => by rw [hm, sz]; omega
  rcases h3 with e | e | e <;> rw [e] at h ⊢ <;> simp [atI, ixN, endP, retTo, outs, exTo, rC, rV, r1, r2, rN, m1, m2, mN, arN, arC, amN, amC, rTup, mTup, rLst, mLst, wLst, mIf, bM, bR, bAnd, bOr, bNot, wMv, mFz, mR, wM, mW, onRo, onBl, rosL, sNil, sSeq, sExpr, sRet, sRetN, sIf, sBrk, sCnt, sNever, sSet, gN, gsN, gsC, gT, sAsg, sFor, wLc, iL, iT, iS, iR1, iR2, iR3, iEn, iEnT, iZp, tYesP, axN, axR, axS, takeA, backA, callGo, wCall, wMethR, wMethS, wMake, mkGo, pFld, sFldSet, fStore, mAnd, mOr, mNot, mChain, wList, wListM, poN, poI, rSlc, rLenSet, rDGet, rDGet1, rDGet2, bDIn, wDnew, sPutL, sPutM, sDput, sApp, sAppP, pV, pF, Pu.pI, pK, startP, O.seq, O.d, fGet, List.lookup, O.nonB, isLst, ↓e_addI, ↓e_addS, ↓e_addL, ↓e_addT, ↓e_sub, ↓e_mulI, ↓e_mulS, ↓e_div, ↓e_mod, ↓e_pow, ↓e_lt, ↓e_le, ↓e_gt, ↓e_ge, ↓e_neg, ↓e_inS, ↓e_ixL, ↓e_ixRL, ↓e_ixRT, ↓e_ixS, ↓e_lenL, ↓e_lenRL, ↓e_lenRT, ↓e_lenS, ↓e_abs, ↓e_max, ↓e_min, ↓e_int1, ↓e_int1b, ↓e_sumL, ↓e_sumTu, ↓e_listRL, ↓e_listRT, ↓e_tupRL, ↓e_tupO, ↓e_slRL, ↓e_slRT, ↓e_slL, ↓e_eq, ↓e_isN, ↓e_inF, ↓map_ro, ↓map_int, fine_int, fine_bl, fine_non, fine_str, eqb_int, eqb_str, eqb_nil, fine_nil, ds_ro, sPut, O.put, O.put1, O.at, O.at1, fPut, -List.map_map] at h ⊢
  · exact ⟨fin _ (by decide), h⟩
  · exact ⟨fin _ (Nat.le_refl 1), h⟩
  · exact ⟨fin _ (Nat.le_refl 1), h⟩
/-! ### what the law draws -/
def Word (z : Str) : Prop := 1 ≤ z.length ∧ z.length ≤ 6 ∧ ∀ c ∈ z.cps.toList, c ∈ abc
structure OkSet (n : Nat) (step : Int) (names : List Str) (gaps : List Int) : Prop where
  n2 : 2 ≤ names.length
  n7 : names.length ≤ 7
  gl : gaps.length + 1 = names.length
  gp : ∀ g ∈ gaps, 1 ≤ g ∧ g ≤ 4
  wd : ∀ z ∈ names, Word z
  nd : names.Nodup
  s0 : 0 ≤ step
  s1 : step + (names.length : Int) ≤ (n : Int) + 1
def dSet (step : Int) (names : List Str) (gaps : List Int) : D := .tup [.int step, .tup (names.map D.str), .tup (gaps.map D.int)]
inductive OkRule (n : Nat) : D → Prop where
  | over {a b : Int} : 0 ≤ a → a < n → 0 ≤ b → b < n → a ≠ b → OkRule n (.tup [.str "over", .int a, .int b])
  | at' {w : Str} : Word w → OkRule n (.tup [.str "at", .str w])
  | beside {w v : Str} : Word w → Word v → OkRule n (.tup [.str "beside", .str w, .str v])
structure OkLad (lad : List Int) : Prop where
  l1 : 1 ≤ lad.length
  l2 : lad.length ≤ 30
  gp : ∀ g ∈ lad, 1 ≤ g ∧ g ≤ 4
inductive OkS (n : Nat) : D → Prop where
  | mk {step names gaps} : OkSet n step names gaps → OkS n (dSet step names gaps)
def psi_set : PSp := fun os Q _ => ∃ (d : O) (lad : List Int) (s : Int), os = [d, .ro (dI lad), .ro (.int s)] ∧ Dice d ∧ OkLad lad ∧ 0 ≤ s ∧ ∀ d' e, Dice d' → OkS lad.length e → Q (.ro e) [d', .ro (dI lad), .ro (.int s)]
theorem mo_set : PMono psi_set := fun os Q1 Q2 E1 E2 h _ ⟨d, lad, s, e, h1, h2, h3, q⟩ => ⟨d, lad, s, e, h1, h2, h3, fun d' e a b => h _ _ (q d' e a b)⟩
theorem rgD_mem {n : Nat} {d : D} (h : d ∈ rgD 0 n) : ∃ j : Nat, j < n ∧ d = .int j := by
  unfold rgD at h
  obtain ⟨j, hj, rfl⟩ := List.mem_map.mp h
  exact ⟨j, List.mem_range.mp hj, by simp⟩
theorem rgD_len {lo : Int} {n : Nat} : (rgD lo n).length = n := by simp [rgD]
/-- the word at place j of a style and a first place -/
def wAt (s f j : Int) : Str := wordS s ((f + j) % 9)
def dInt : D → Int
  | .int i => i
  | _ => 0
theorem mul_chars {i n : Int} (h1 : 1 ≤ n) (h2 : n ≤ 5) : (Txt.mul (sgn i) n).cps.toList = List.replicate n.toNat (97 + i.toNat) := by
  have : n = 1 ∨ n = 2 ∨ n = 3 ∨ n = 4 ∨ n = 5 := by omega
  rcases this with h | h | h | h | h <;> subst h <;> rfl
theorem app_chars (a b : Str) : (a ++ b).cps.toList = a.cps.toList ++ b.cps.toList := by
  show (a.cps ++ b.cps).toList = _
  simp
theorem chars_len (a : Str) : a.length = a.cps.toList.length := by
  show a.cps.size = _
  simp
def sufL (s k : Int) : List Nat := if k % 3 = 0 then [] else if k % 3 = 1 then [97 + ((s + 7) % 26).toNat] else [97 + ((s + 11) % 26).toNat]
theorem word_chars (s k : Int) : (wordS s k).cps.toList = List.replicate (1 + s / 26 % 5).toNat (97 + ((s + 5 * (k / 3)) % 26).toNat) ++ sufL s k := by
  unfold wordS sufL
  rw [app_chars, mul_chars (s5 s).1 (s5 s).2]
  congr 1
  split
  · rfl
  · split <;> rfl
theorem abc_mem {i : Int} : 97 + (i % 26).toNat ∈ abc := by
  have h := abc_at (m26 i).1 (m26 i).2
  unfold atI at h
  cases e : ixN abc.length (i % 26) with
  | none => rw [e] at h; cases h
  | some j => rw [e] at h; exact List.mem_of_getElem? h
theorem wordS_word (s k : Int) : Word (wordS s k) := by
  have h5 := s5 s
  have hl : (wordS s k).length = (1 + s / 26 % 5).toNat + (sufL s k).length := by rw [chars_len, word_chars]; simp
  have hs : (sufL s k).length ≤ 1 := by
    unfold sufL
    split
    · simp
    · split <;> simp
  refine ⟨by omega, by omega, fun c hc => ?_⟩
  rw [word_chars] at hc
  rcases List.mem_append.mp hc with hc | hc
  · rw [List.eq_of_mem_replicate hc]; exact abc_mem
  · unfold sufL at hc
    split at hc
    · cases hc
    · split at hc <;> (rw [List.mem_singleton.mp hc]; exact abc_mem)
theorem word_inj {s a b : Int} (ha : 0 ≤ a) (ha' : a < 9) (hb : 0 ≤ b) (hb' : b < 9) (h : wordS s a = wordS s b) : a = b := by
  have h5 := s5 s
  have e : (wordS s a).cps.toList = (wordS s b).cps.toList := by rw [h]
  rw [word_chars, word_chars] at e
  obtain ⟨m, hm⟩ : ∃ m, (1 + s / 26 % 5).toNat = m + 1 := ⟨(s / 26 % 5).toNat, by omega⟩
  rw [hm, List.replicate_succ, List.replicate_succ, List.cons_append, List.cons_append] at e
  injection e with e1 e2
  have h3 : a / 3 = b / 3 := by
    have := (m26 (s + 5 * (a / 3))).1
    have := (m26 (s + 5 * (b / 3))).1
    omega
  rw [h3] at e2
  have e3 := List.append_cancel_left e2
  unfold sufL at e3
  have := (m26 (s + 7)).1
  have := (m26 (s + 11)).1
  have h1 : a % 3 = 0 ∨ a % 3 = 1 ∨ a % 3 = 2 := by omega
  have h2 : b % 3 = 0 ∨ b % 3 = 1 ∨ b % 3 = 2 := by omega
  rcases h1 with h1 | h1 | h1 <;> rcases h2 with h2 | h2 | h2 <;> simp [h1, h2] at e3 <;> omega
theorem cut_map {α β : Type} (f : α → β) (xs : List α) (l u : Option Int) : cut (xs.map f) l u = (cut xs l u).map f := by
  unfold cut
  rw [List.length_map, ← List.map_drop, ← List.map_take]
theorem cut_len {α : Type} (xs : List α) {a b : Int} (h0 : 0 ≤ a) (h1 : a ≤ b) (h2 : b ≤ xs.length) : ((cut xs (some a) (some b)).length : Int) = b - a := by
  have e1 : HT.sIx xs.length 0 (some a) = min a.toNat xs.length := by
    show (if a < 0 then _ else _) = _
    rw [if_neg (by omega)]
  have e2 : HT.sIx xs.length xs.length (some b) = min b.toNat xs.length := by
    show (if b < 0 then _ else _) = _
    rw [if_neg (by omega)]
  unfold cut
  rw [e1, e2, List.length_take, List.length_drop]
  omega
theorem cut_mem {α : Type} {xs : List α} {l u : Option Int} {x : α} (h : x ∈ cut xs l u) : x ∈ xs := List.mem_of_mem_drop (List.mem_of_mem_take h)
theorem filter_tt {α : Type} : ∀ l : List α, l.filter (fun _ => true) = l
  | [] => rfl
  | a :: l => by rw [List.filter_cons_of_pos rfl, filter_tt l]
theorem set_ro (xs : List D) (j : Nat) (x : D) : (xs.map O.ro).set j (.ro x) = (xs.set j x).map .ro := by rw [List.map_set]
theorem set_int (xs : List Int) (j : Nat) (x : Int) : (xs.map D.int).set j (.int x) = (xs.set j x).map .int := by rw [List.map_set]
theorem mem_set {xs : List Int} {j : Nat} {x y : Int} (h : y ∈ xs.set j x) : y ∈ xs ∨ y = x := List.mem_or_eq_of_mem_set h
theorem set_end {n : Nat} {s v2 v5 : Int} {gs : List Int} {v : Int} (hv0 : 0 ≤ v) (hv : v < 6) (hlen : (gs.length : Int) = v + 1) (hg : ∀ g ∈ gs, 1 ≤ g ∧ g ≤ 4) (h2 : 0 ≤ v2) (h3 : v2 + (2 + v) ≤ n + 1) (h5 : 0 ≤ v5) :
    OkS n (.tup [.int v2, .tup ((rgD 0 (2 + v).toNat).map fun d => .str (wAt s v5 (dInt d))), .tup (gs.map .int)]) := by
  have e : ((rgD 0 (2 + v).toNat).map fun d => D.str (wAt s v5 (dInt d))) = ((List.range (2 + v).toNat).map fun (j : Nat) => wAt s v5 j).map D.str := by
    unfold rgD
    rw [List.map_map, List.map_map]
    refine List.map_congr_left fun j _ => ?_
    simp [dInt]
  rw [e]
  refine .mk ⟨by simp; omega, by simp; omega, by simp; omega, hg, fun z hz => ?_, ?_, h2, by simp; omega⟩
  · obtain ⟨j, _, rfl⟩ := List.mem_map.mp hz
    exact wordS_word _ _
  · rw [List.Nodup, List.pairwise_map]
    refine List.Pairwise.imp_of_mem (fun {a b} ha hb hlt z => ?_) List.pairwise_lt_range
    rw [List.mem_range] at ha hb
    have := word_inj (Int.emod_nonneg _ (by decide)) (Int.emod_lt_of_pos _ (by decide)) (Int.emod_nonneg _ (by decide)) (Int.emod_lt_of_pos _ (by decide)) z
    omega
theorem pu_set (os : List O) (Qp : O → List O → Prop) (Ep : PX) (hl : os.length = 3) (h : psi_set os Qp Ep) : t_set psi_off psi_word (endP [0] os Qp Ep) (startP 9 os) := by
  obtain ⟨d, lad, s, rfl, hd, hL, hs, h⟩ := h
  have l1 := hL.l1
  have l2 := hL.l2
  simp [t_set, endP, retTo, outs, exTo, rC, rV, r1, r2, rN, m1, m2, mN, arN, arC, amN, amC, rTup, mTup, rLst, mLst, wLst, mIf, bM, bR, bAnd, bOr, bNot, wMv, mFz, mR, wM, mW, onRo, onBl, rosL, sNil, sSeq, sExpr, sRet, sRetN, sIf, sBrk, sCnt, sNever, sSet, gN, gsN, gsC, gT, sAsg, sFor, wLc, iL, iT, iS, iR1, iR2, iR3, iEn, iEnT, iZp, tYesP, axN, axR, axS, takeA, backA, callGo, wCall, wMethR, wMethS, wMake, mkGo, pFld, sFldSet, fStore, mAnd, mOr, mNot, mChain, wList, wListM, poN, poI, rSlc, rLenSet, rDGet, rDGet1, rDGet2, bDIn, wDnew, sPutL, sPutM, sDput, sApp, sAppP, pV, pF, Pu.pI, pK, startP, O.seq, O.d, fGet, List.lookup, O.nonB, isLst, ↓e_addI, ↓e_addS, ↓e_addL, ↓e_addT, ↓e_sub, ↓e_mulI, ↓e_mulS, ↓e_div, ↓e_mod, ↓e_pow, ↓e_lt, ↓e_le, ↓e_gt, ↓e_ge, ↓e_neg, ↓e_inS, ↓e_ixL, ↓e_ixRL, ↓e_ixRT, ↓e_ixS, ↓e_lenL, ↓e_lenRL, ↓e_lenRT, ↓e_lenS, ↓e_abs, ↓e_max, ↓e_min, ↓e_int1, ↓e_int1b, ↓e_sumL, ↓e_sumTu, ↓e_listRL, ↓e_listRT, ↓e_tupRL, ↓e_tupO, ↓e_slRL, ↓e_slRT, ↓e_slL, ↓e_eq, ↓e_isN, ↓e_inF, ↓map_ro, ↓map_int, fine_int, fine_bl, fine_non, fine_str, eqb_int, eqb_str, eqb_nil, fine_nil, ds_ro, sPut, O.put, O.put1, O.at, O.at1, fPut, -List.map_map, psi_off, dI]
  refine ⟨d, _, ⟨rfl, rfl⟩, hd, (by split <;> omega), (by split <;> omega), fun v d1 hd1 v0 v1 => ⟨d1, _, ⟨rfl, rfl⟩, hd1, (by split at v1 <;> omega), (by omega), fun v2 d2 hd2 v3 v4 => ⟨d2, 9, ⟨rfl, rfl⟩, hd2, by decide, by decide, fun v5 d3 hd3 v6 v7 => ⟨⟨by omega, (by split at v1 <;> omega)⟩, ?_⟩⟩⟩⟩
  have v8 : v < 6 := by split at v1 <;> omega
  have v9 : v < lad.length := by split at v1 <;> omega
  refine lc_pure 7 (fun _ => true) (fun d => .str (wAt s v5 (dInt d))) _ _ _ rfl (by rw [rgD_len, sz]; simp; omega) (fun d _ Kn q => q) (fun d hm _ Kn q => ?_) ?_
  · obtain ⟨j, hj, rfl⟩ := rgD_mem hm
    simp [endP, retTo, outs, exTo, rC, rV, r1, r2, rN, m1, m2, mN, arN, arC, amN, amC, rTup, mTup, rLst, mLst, wLst, mIf, bM, bR, bAnd, bOr, bNot, wMv, mFz, mR, wM, mW, onRo, onBl, rosL, sNil, sSeq, sExpr, sRet, sRetN, sIf, sBrk, sCnt, sNever, sSet, gN, gsN, gsC, gT, sAsg, sFor, wLc, iL, iT, iS, iR1, iR2, iR3, iEn, iEnT, iZp, tYesP, axN, axR, axS, takeA, backA, callGo, wCall, wMethR, wMethS, wMake, mkGo, pFld, sFldSet, fStore, mAnd, mOr, mNot, mChain, wList, wListM, poN, poI, rSlc, rLenSet, rDGet, rDGet1, rDGet2, bDIn, wDnew, sPutL, sPutM, sDput, sApp, sAppP, pV, pF, Pu.pI, pK, startP, O.seq, O.d, fGet, List.lookup, O.nonB, isLst, ↓e_addI, ↓e_addS, ↓e_addL, ↓e_addT, ↓e_sub, ↓e_mulI, ↓e_mulS, ↓e_div, ↓e_mod, ↓e_pow, ↓e_lt, ↓e_le, ↓e_gt, ↓e_ge, ↓e_neg, ↓e_inS, ↓e_ixL, ↓e_ixRL, ↓e_ixRT, ↓e_ixS, ↓e_lenL, ↓e_lenRL, ↓e_lenRT, ↓e_lenS, ↓e_abs, ↓e_max, ↓e_min, ↓e_int1, ↓e_int1b, ↓e_sumL, ↓e_sumTu, ↓e_listRL, ↓e_listRT, ↓e_tupRL, ↓e_tupO, ↓e_slRL, ↓e_slRT, ↓e_slL, ↓e_eq, ↓e_isN, ↓e_inF, ↓map_ro, ↓map_int, fine_int, fine_bl, fine_non, fine_str, eqb_int, eqb_str, eqb_nil, fine_nil, ds_ro, sPut, O.put, O.put1, O.at, O.at1, fPut, -List.map_map, psi_word]
    exact ⟨s, _, ⟨rfl, rfl⟩, hs, Int.emod_nonneg _ (by decide), by simpa [wAt, dInt] using q⟩
  · have ef : ([] ++ ((rgD 0 (2 + v).toNat).filter fun _ => true).map fun d => D.str (wAt s v5 (dInt d))) = (rgD 0 (2 + v).toNat).map fun d => D.str (wAt s v5 (dInt d)) := by rw [filter_tt, List.nil_append]
    rw [ef]
    generalize hz : ((rgD 0 (2 + v).toNat).map fun d => D.str (wAt s v5 (dInt d))) = zs
    simp [endP, retTo, outs, exTo, rC, rV, r1, r2, rN, m1, m2, mN, arN, arC, amN, amC, rTup, mTup, rLst, mLst, wLst, mIf, bM, bR, bAnd, bOr, bNot, wMv, mFz, mR, wM, mW, onRo, onBl, rosL, sNil, sSeq, sExpr, sRet, sRetN, sIf, sBrk, sCnt, sNever, sSet, gN, gsN, gsC, gT, sAsg, sFor, wLc, iL, iT, iS, iR1, iR2, iR3, iEn, iEnT, iZp, tYesP, axN, axR, axS, takeA, backA, callGo, wCall, wMethR, wMethS, wMake, mkGo, pFld, sFldSet, fStore, mAnd, mOr, mNot, mChain, wList, wListM, poN, poI, rSlc, rLenSet, rDGet, rDGet1, rDGet2, bDIn, wDnew, sPutL, sPutM, sDput, sApp, sAppP, pV, pF, Pu.pI, pK, startP, O.seq, O.d, fGet, List.lookup, O.nonB, isLst, ↓e_addI, ↓e_addS, ↓e_addL, ↓e_addT, ↓e_sub, ↓e_mulI, ↓e_mulS, ↓e_div, ↓e_mod, ↓e_pow, ↓e_lt, ↓e_le, ↓e_gt, ↓e_ge, ↓e_neg, ↓e_inS, ↓e_ixL, ↓e_ixRL, ↓e_ixRT, ↓e_ixS, ↓e_lenL, ↓e_lenRL, ↓e_lenRT, ↓e_lenS, ↓e_abs, ↓e_max, ↓e_min, ↓e_int1, ↓e_int1b, ↓e_sumL, ↓e_sumTu, ↓e_listRL, ↓e_listRT, ↓e_tupRL, ↓e_tupO, ↓e_slRL, ↓e_slRT, ↓e_slL, ↓e_eq, ↓e_isN, ↓e_inF, ↓map_ro, ↓map_int, fine_int, fine_bl, fine_non, fine_str, eqb_int, eqb_str, eqb_nil, fine_nil, ds_ro, sPut, O.put, O.put1, O.at, O.at1, fPut, -List.map_map, psi_off]
    rw [cut_map]
    have hgl : ((cut lad (some v2) (some (v2 + (2 + v) - 1))).length : Int) = v + 1 := by rw [cut_len _ v3 (by omega) (by omega)]; omega
    have hgm : ∀ g ∈ cut lad (some v2) (some (v2 + (2 + v) - 1)), 1 ≤ g ∧ g ≤ 4 := fun g hg => hL.gp g (cut_mem hg)
    revert hgl hgm
    generalize cut lad (some v2) (some (v2 + (2 + v) - 1)) = gs
    intro hgl hgm
    refine ⟨d3, 3, ⟨rfl, rfl⟩, hd3, by decide, by decide, fun v8 d4 hd4 w0 w1 => ?_⟩
    split
    · refine ⟨d4, 4, ⟨rfl, rfl⟩, hd4, by decide, by decide, fun v9 d5 hd5 w2 w3 => ⟨d5, _, ⟨rfl, rfl⟩, hd5, (by rw [List.length_map]; omega), (by rw [List.length_map]; omega), fun v10 d6 hd6 w4 w5 => ?_⟩⟩
      rw [List.length_map] at w5
      have : ixN (gs.map D.int).length v10 = some v10.toNat := by unfold ixN; rw [List.length_map, if_pos w4, if_pos w5]
      rw [this]
      simp only [set_ro, set_int, e_tupO]
      exact ⟨by rw [sz]; decide, h _ _ hd6 (by rw [← hz]; exact set_end (n := lad.length) (gs := gs.set v10.toNat (1 + v9)) v0 (by omega) (by rw [List.length_set]; exact hgl) (fun g hg => (mem_set hg).elim (hgm g) fun z => by omega) v3 (by omega) v6)⟩
    · exact ⟨by rw [sz]; decide, h _ _ hd4 (by rw [← hz]; exact set_end (n := lad.length) v0 (by omega) hgl hgm v3 (by omega) v6)⟩
def psi_rule : PSp := fun os Q _ => ∃ (d : O) (n : Nat) (s : Int), os = [d, .ro (.int n), .ro (.int s)] ∧ Dice d ∧ 1 ≤ n ∧ n ≤ 5 ∧ 0 ≤ s ∧ ∀ d' e, Dice d' → OkRule n e → Q (.ro e) [d', .ro (.int n), .ro (.int s)]
theorem mo_rule : PMono psi_rule := fun os Q1 Q2 E1 E2 h _ ⟨d, n, s, e, h1, h2, h3, h4, q⟩ => ⟨d, n, s, e, h1, h2, h3, h4, fun d' e a b => h _ _ (q d' e a b)⟩
theorem pu_rule (os : List O) (Qp : O → List O → Prop) (Ep : PX) (hl : os.length = 3) (h : psi_rule os Qp Ep) : t_rule psi_off psi_word (endP [0] os Qp Ep) (startP 6 os) := by
  obtain ⟨d, n, s, rfl, hd, h1, h5, hs, h⟩ := h
  simp [t_rule, endP, retTo, outs, exTo, rC, rV, r1, r2, rN, m1, m2, mN, arN, arC, amN, amC, rTup, mTup, rLst, mLst, wLst, mIf, bM, bR, bAnd, bOr, bNot, wMv, mFz, mR, wM, mW, onRo, onBl, rosL, sNil, sSeq, sExpr, sRet, sRetN, sIf, sBrk, sCnt, sNever, sSet, gN, gsN, gsC, gT, sAsg, sFor, wLc, iL, iT, iS, iR1, iR2, iR3, iEn, iEnT, iZp, tYesP, axN, axR, axS, takeA, backA, callGo, wCall, wMethR, wMethS, wMake, mkGo, pFld, sFldSet, fStore, mAnd, mOr, mNot, mChain, wList, wListM, poN, poI, rSlc, rLenSet, rDGet, rDGet1, rDGet2, bDIn, wDnew, sPutL, sPutM, sDput, sApp, sAppP, pV, pF, Pu.pI, pK, startP, O.seq, O.d, fGet, List.lookup, O.nonB, isLst, ↓e_addI, ↓e_addS, ↓e_addL, ↓e_addT, ↓e_sub, ↓e_mulI, ↓e_mulS, ↓e_div, ↓e_mod, ↓e_pow, ↓e_lt, ↓e_le, ↓e_gt, ↓e_ge, ↓e_neg, ↓e_inS, ↓e_ixL, ↓e_ixRL, ↓e_ixRT, ↓e_ixS, ↓e_lenL, ↓e_lenRL, ↓e_lenRT, ↓e_lenS, ↓e_abs, ↓e_max, ↓e_min, ↓e_int1, ↓e_int1b, ↓e_sumL, ↓e_sumTu, ↓e_listRL, ↓e_listRT, ↓e_tupRL, ↓e_tupO, ↓e_slRL, ↓e_slRT, ↓e_slL, ↓e_eq, ↓e_isN, ↓e_inF, ↓map_ro, ↓map_int, fine_int, fine_bl, fine_non, fine_str, eqb_int, eqb_str, eqb_nil, fine_nil, ds_ro, sPut, O.put, O.put1, O.at, O.at1, fPut, -List.map_map, psi_off, psi_word]
  refine ⟨d, 3, ⟨rfl, rfl⟩, hd, by decide, by decide, fun v d1 hd1 v0 v1 => ?_⟩
  split
  · split
    · rename_i hv hn
      refine ⟨d1, n, ⟨rfl, rfl⟩, hd1, by omega, by omega, fun v2 d2 hd2 v3 v4 => ⟨d2, _, ⟨rfl, rfl⟩, hd2, by omega, by omega, fun v5 d3 hd3 v6 v7 => ⟨by omega, by rw [sz]; decide, h _ _ hd3 (.over v3 v4 (Int.emod_nonneg _ (by omega)) (Int.emod_lt_of_pos _ (by omega)) fun z => ?_)⟩⟩⟩
      by_cases hc : v2 + 1 + v5 < n
      · rw [Int.emod_eq_of_lt (by omega) hc] at z
        omega
      · have : (v2 + 1 + v5) % n = v2 + 1 + v5 - n := by
          rw [← Int.sub_emod_right]
          exact Int.emod_eq_of_lt (by omega) (by omega)
        omega
    · refine ⟨d1, 10, ⟨rfl, rfl⟩, hd1, by decide, by decide, fun v2 d2 hd2 v3 v4 => ⟨s, v2, ⟨rfl, rfl⟩, hs, v3, ?_⟩⟩
      split
      · exact ⟨by rw [sz]; decide, h _ _ hd2 (.at' (wordS_word _ _))⟩
      · exact ⟨d2, 10, ⟨rfl, rfl⟩, hd2, by decide, by decide, fun v5 d3 hd3 v6 v7 => ⟨s, v5, ⟨rfl, rfl⟩, hs, v6, by rw [sz]; decide, h _ _ hd3 (.beside (wordS_word _ _) (wordS_word _ _))⟩⟩
  · refine ⟨d1, 10, ⟨rfl, rfl⟩, hd1, by decide, by decide, fun v2 d2 hd2 v3 v4 => ⟨s, v2, ⟨rfl, rfl⟩, hs, v3, ?_⟩⟩
    split
    · exact ⟨by rw [sz]; decide, h _ _ hd2 (.at' (wordS_word _ _))⟩
    · exact ⟨d2, 10, ⟨rfl, rfl⟩, hd2, by decide, by decide, fun v5 d3 hd3 v6 v7 => ⟨s, v5, ⟨rfl, rfl⟩, hs, v6, by rw [sz]; decide, h _ _ hd3 (.beside (wordS_word _ _) (wordS_word _ _))⟩⟩
end Sp
end
section
open PySem PySem.W PySem.Spec PyProof.Rows L2 Pu Rd
set_option Elab.async false
set_option linter.all false
set_option maxRecDepth 100000
set_option maxHeartbeats 4000000
namespace Sp
/-! ### the whole of what is drawn -/
structure OkT (lad : List Int) (sets rules : List D) : Prop where
  ld : OkLad lad
  s1 : 1 ≤ sets.length
  s5 : sets.length ≤ 5
  st : ∀ e ∈ sets, OkS lad.length e
  r12 : rules.length ≤ 12
  rl : ∀ e ∈ rules, OkRule sets.length e
def dT (lad : List Int) (sets rules : List D) : D := .tup [dI lad, .lst sets, .lst rules]
def psi_school : PSp := fun os Q _ => ∃ (d : O), os = [d, .ro (.int 5)] ∧ Dice d ∧ ∀ d' lad sets rules, Dice d' → OkT lad sets rules → Q (.ro (dT lad sets rules)) [d', .ro (.int 5)]
theorem mo_school : PMono psi_school := fun os Q1 Q2 E1 E2 h _ ⟨d, e, h1, q⟩ => ⟨d, e, h1, fun d' a b c x y => h _ _ (q d' a b c x y)⟩
theorem pu_school (os : List O) (Qp : O → List O → Prop) (Ep : PX) (hl : os.length = 2) (h : psi_school os Qp Ep) : t_school psi_off psi_set psi_rule (endP [0] os Qp Ep) (startP 7 os) := by
  obtain ⟨d, rfl, hd, h⟩ := h
  simp [t_school, endP, retTo, outs, exTo, rC, rV, r1, r2, rN, m1, m2, mN, arN, arC, amN, amC, rTup, mTup, rLst, mLst, wLst, mIf, bM, bR, bAnd, bOr, bNot, wMv, mFz, mR, wM, mW, onRo, onBl, rosL, sNil, sSeq, sExpr, sRet, sRetN, sIf, sBrk, sCnt, sNever, sSet, gN, gsN, gsC, gT, sAsg, sFor, wLc, iL, iT, iS, iR1, iR2, iR3, iEn, iEnT, iZp, tYesP, axN, axR, axS, takeA, backA, callGo, wCall, wMethR, wMethS, wMake, mkGo, pFld, sFldSet, fStore, mAnd, mOr, mNot, mChain, wList, wListM, poN, poI, rSlc, rLenSet, rDGet, rDGet1, rDGet2, bDIn, wDnew, sPutL, sPutM, sDput, sApp, sAppP, pV, pF, Pu.pI, pK, startP, O.seq, O.d, fGet, List.lookup, O.nonB, isLst, ↓e_addI, ↓e_addS, ↓e_addL, ↓e_addT, ↓e_sub, ↓e_mulI, ↓e_mulS, ↓e_div, ↓e_mod, ↓e_pow, ↓e_lt, ↓e_le, ↓e_gt, ↓e_ge, ↓e_neg, ↓e_inS, ↓e_ixL, ↓e_ixRL, ↓e_ixRT, ↓e_ixS, ↓e_lenL, ↓e_lenRL, ↓e_lenRT, ↓e_lenS, ↓e_abs, ↓e_max, ↓e_min, ↓e_int1, ↓e_int1b, ↓e_sumL, ↓e_sumTu, ↓e_listRL, ↓e_listRT, ↓e_tupRL, ↓e_tupO, ↓e_slRL, ↓e_slRT, ↓e_slL, ↓e_eq, ↓e_isN, ↓e_inF, ↓map_ro, ↓map_int, fine_int, fine_bl, fine_non, fine_str, eqb_int, eqb_str, eqb_nil, fine_nil, ds_ro, sPut, O.put, O.put1, O.at, O.at1, fPut, -List.map_map, psi_off]
  refine ⟨.inl ⟨by decide, by decide⟩, d, 156, ⟨rfl, rfl⟩, hd, by decide, by decide, fun v d1 hd1 v0 v1 => ⟨by rw [sz]; decide, d1, 3, ⟨rfl, rfl⟩, hd1, by decide, by decide, fun v2 d2 hd2 v3 v4 => ?_⟩⟩
  have hm : ∃ m : Int, atI [D.int 8, D.int 8, D.int 30] v2 = some (.int m) ∧ 0 < m ∧ m ≤ 30 := by
    have : v2 = 0 ∨ v2 = 1 ∨ v2 = 2 := by omega
    rcases this with rfl | rfl | rfl
    · exact ⟨8, rfl, by decide, by decide⟩
    · exact ⟨8, rfl, by decide, by decide⟩
    · exact ⟨30, rfl, by decide, by decide⟩
  obtain ⟨m, hm1, hm2, hm3⟩ := hm
  rw [hm1]
  refine ⟨d2, m, ⟨rfl, rfl⟩, hd2, hm2, by omega, fun v5 d3 hd3 v6 v7 => ⟨⟨by omega, by omega⟩, ?_⟩⟩
  refine lc_ind (fun rest acc sg => ∃ (dd : O) (x : Option O) (ns : List Int), Dice dd ∧ sg = [some dd, some (.ro (.int 5)), some (.ro (.int v)), none, x, none, none] ∧ acc = ns.map D.int ∧ (∀ g ∈ ns, 1 ≤ g ∧ g ≤ 4) ∧ acc.length + rest.length = (1 + v5).toNat) (fun acc sg hI => ?_) (fun e rest acc sg Kn hI hk => ?_) _ _ _ ⟨d3, none, [], hd3, rfl, rfl, (fun _ h => nomatch h), by rw [rgD_len]; simp⟩
  · obtain ⟨dd, x, lad, hdd, rfl, rfl, hg, hlen⟩ := hI
    simp at hlen
    have hL : OkLad lad := ⟨by omega, by omega, hg⟩
    simp [wipeP, endP, retTo, outs, exTo, rC, rV, r1, r2, rN, m1, m2, mN, arN, arC, amN, amC, rTup, mTup, rLst, mLst, wLst, mIf, bM, bR, bAnd, bOr, bNot, wMv, mFz, mR, wM, mW, onRo, onBl, rosL, sNil, sSeq, sExpr, sRet, sRetN, sIf, sBrk, sCnt, sNever, sSet, gN, gsN, gsC, gT, sAsg, sFor, wLc, iL, iT, iS, iR1, iR2, iR3, iEn, iEnT, iZp, tYesP, axN, axR, axS, takeA, backA, callGo, wCall, wMethR, wMethS, wMake, mkGo, pFld, sFldSet, fStore, mAnd, mOr, mNot, mChain, wList, wListM, poN, poI, rSlc, rLenSet, rDGet, rDGet1, rDGet2, bDIn, wDnew, sPutL, sPutM, sDput, sApp, sAppP, pV, pF, Pu.pI, pK, startP, O.seq, O.d, fGet, List.lookup, O.nonB, isLst, ↓e_addI, ↓e_addS, ↓e_addL, ↓e_addT, ↓e_sub, ↓e_mulI, ↓e_mulS, ↓e_div, ↓e_mod, ↓e_pow, ↓e_lt, ↓e_le, ↓e_gt, ↓e_ge, ↓e_neg, ↓e_inS, ↓e_ixL, ↓e_ixRL, ↓e_ixRT, ↓e_ixS, ↓e_lenL, ↓e_lenRL, ↓e_lenRT, ↓e_lenS, ↓e_abs, ↓e_max, ↓e_min, ↓e_int1, ↓e_int1b, ↓e_sumL, ↓e_sumTu, ↓e_listRL, ↓e_listRT, ↓e_tupRL, ↓e_tupO, ↓e_slRL, ↓e_slRT, ↓e_slL, ↓e_eq, ↓e_isN, ↓e_inF, ↓map_ro, ↓map_int, fine_int, fine_bl, fine_non, fine_str, eqb_int, eqb_str, eqb_nil, fine_nil, ds_ro, sPut, O.put, O.put1, O.at, O.at1, fPut, -List.map_map, psi_off]
    refine ⟨dd, 5, ⟨rfl, rfl⟩, hdd, by decide, by decide, fun v8 d4 hd4 w0 w1 => ⟨⟨by omega, by omega⟩, ?_⟩⟩
    refine lc_ind (fun rest acc sg => ∃ (dd : O) (x : Option O) (ol : O), Dice dd ∧ (ol = .lst ((lad.map D.int).map O.ro) ∨ ol = .ro (dI lad)) ∧ sg = [some dd, some (.ro (.int 5)), some (.ro (.int v)), some ol, x, none, none] ∧ (∀ e ∈ acc, OkS lad.length e) ∧ acc.length + rest.length = (1 + v8).toNat) (fun acc sg hI => ?_) (fun e rest acc sg Kn hI hk => ?_) _ _ _ ⟨d4, none, _, hd4, .inl rfl, by simp, (fun _ h => nomatch h), by rw [rgD_len]; simp⟩
    · obtain ⟨dd, x, ol, hdd, hol, rfl, hs, hlen⟩ := hI
      simp at hlen
      have a1 : 1 ≤ acc.length := by omega
      have a5 : acc.length ≤ 5 := by omega
      simp [wipeP, endP, retTo, outs, exTo, rC, rV, r1, r2, rN, m1, m2, mN, arN, arC, amN, amC, rTup, mTup, rLst, mLst, wLst, mIf, bM, bR, bAnd, bOr, bNot, wMv, mFz, mR, wM, mW, onRo, onBl, rosL, sNil, sSeq, sExpr, sRet, sRetN, sIf, sBrk, sCnt, sNever, sSet, gN, gsN, gsC, gT, sAsg, sFor, wLc, iL, iT, iS, iR1, iR2, iR3, iEn, iEnT, iZp, tYesP, axN, axR, axS, takeA, backA, callGo, wCall, wMethR, wMethS, wMake, mkGo, pFld, sFldSet, fStore, mAnd, mOr, mNot, mChain, wList, wListM, poN, poI, rSlc, rLenSet, rDGet, rDGet1, rDGet2, bDIn, wDnew, sPutL, sPutM, sDput, sApp, sAppP, pV, pF, Pu.pI, pK, startP, O.seq, O.d, fGet, List.lookup, O.nonB, isLst, ↓e_addI, ↓e_addS, ↓e_addL, ↓e_addT, ↓e_sub, ↓e_mulI, ↓e_mulS, ↓e_div, ↓e_mod, ↓e_pow, ↓e_lt, ↓e_le, ↓e_gt, ↓e_ge, ↓e_neg, ↓e_inS, ↓e_ixL, ↓e_ixRL, ↓e_ixRT, ↓e_ixS, ↓e_lenL, ↓e_lenRL, ↓e_lenRT, ↓e_lenS, ↓e_abs, ↓e_max, ↓e_min, ↓e_int1, ↓e_int1b, ↓e_sumL, ↓e_sumTu, ↓e_listRL, ↓e_listRT, ↓e_tupRL, ↓e_tupO, ↓e_slRL, ↓e_slRT, ↓e_slL, ↓e_eq, ↓e_isN, ↓e_inF, ↓map_ro, ↓map_int, fine_int, fine_bl, fine_non, fine_str, eqb_int, eqb_str, eqb_nil, fine_nil, ds_ro, sPut, O.put, O.put1, O.at, O.at1, fPut, -List.map_map, psi_off]
      by_cases hb : (1 : Int) < (acc.length : Int)
      · rw [if_pos hb]
        refine ⟨dd, 4, ⟨rfl, rfl⟩, hdd, by decide, by decide, fun z1 d5 hd5 z2 z3 => ?_⟩
        by_cases hz : z1 = 0
        · rw [if_pos hz]
          have e0 : ∃ d0, atI (acc.map O.ro) 0 = some (.ro d0) ∧ d0 ∈ acc := by
            obtain ⟨x0, hx, hm⟩ := atI_some (xs := acc.map O.ro) (k := 0) (by decide) (by simp; omega)
            obtain ⟨d0, hd0, rfl⟩ := List.mem_map.mp hm
            exact ⟨d0, hx, hd0⟩
          obtain ⟨d0, e0, hd0⟩ := e0
          have e1 : ixN acc.length (-1) = some (acc.length - 1) := by
            unfold ixN
            rw [if_neg (by decide), if_pos (by omega)]
            congr 1
            omega
          rw [e0, e1]
          simp only [set_ro]
          generalize acc.length - 1 = jj
          have hs2 : ∀ e ∈ acc.set jj d0, OkS lad.length e := fun e he => (List.mem_or_eq_of_mem_set he).elim (hs e) fun z => by rw [z]; exact hs _ hd0
          have b1 : 1 ≤ (acc.set jj d0).length := by rw [List.length_set]; exact a1
          have b5 : (acc.set jj d0).length ≤ 5 := by rw [List.length_set]; exact a5
          revert hs2 b1 b5
          generalize acc.set jj d0 = ss
          intro hs2 b1 b5
          refine ⟨by rw [sz]; decide, d5, 3, ⟨rfl, rfl⟩, hd5, by decide, by decide, fun y1 e1 he1 y2 y3 => ?_⟩
          obtain ⟨mm, hm4, hm5, hm6⟩ : ∃ m : Int, atI [D.int 4, D.int 4, D.int 13] y1 = some (.int m) ∧ 0 < m ∧ m ≤ 13 := by
            have : y1 = 0 ∨ y1 = 1 ∨ y1 = 2 := by omega
            rcases this with rfl | rfl | rfl
            · exact ⟨4, rfl, by decide, by decide⟩
            · exact ⟨4, rfl, by decide, by decide⟩
            · exact ⟨13, rfl, by decide, by decide⟩
          rw [hm4]
          refine ⟨e1, mm, ⟨rfl, rfl⟩, he1, hm5, by omega, fun y4 e2 he2 y5 y6 => ⟨⟨by omega, by omega⟩, ?_⟩⟩
          refine lc_ind (fun rest acc' sg => ∃ (dd : O) (x : Option O), Dice dd ∧ sg = [some dd, some (.ro (.int 5)), some (.ro (.int v)), some ol, x, some (.lst ((ss).map O.ro)), none] ∧ (∀ e ∈ acc', OkRule (ss).length e) ∧ acc'.length + rest.length = y4.toNat) (fun acc' sg hI => ?_) (fun e rest acc' sg Kn hI hk => ?_) _ _ _ ⟨e2, none, he2, rfl, (fun _ h => nomatch h), by rw [rgD_len]; simp⟩
          · obtain ⟨dd, x, hdd, rfl, hr, hlen⟩ := hI
            simp at hlen
            rcases hol with rfl | rfl <;> simp [wipeP, endP, retTo, outs, exTo, rC, rV, r1, r2, rN, m1, m2, mN, arN, arC, amN, amC, rTup, mTup, rLst, mLst, wLst, mIf, bM, bR, bAnd, bOr, bNot, wMv, mFz, mR, wM, mW, onRo, onBl, rosL, sNil, sSeq, sExpr, sRet, sRetN, sIf, sBrk, sCnt, sNever, sSet, gN, gsN, gsC, gT, sAsg, sFor, wLc, iL, iT, iS, iR1, iR2, iR3, iEn, iEnT, iZp, tYesP, axN, axR, axS, takeA, backA, callGo, wCall, wMethR, wMethS, wMake, mkGo, pFld, sFldSet, fStore, mAnd, mOr, mNot, mChain, wList, wListM, poN, poI, rSlc, rLenSet, rDGet, rDGet1, rDGet2, bDIn, wDnew, sPutL, sPutM, sDput, sApp, sAppP, pV, pF, Pu.pI, pK, startP, O.seq, O.d, fGet, List.lookup, O.nonB, isLst, ↓e_addI, ↓e_addS, ↓e_addL, ↓e_addT, ↓e_sub, ↓e_mulI, ↓e_mulS, ↓e_div, ↓e_mod, ↓e_pow, ↓e_lt, ↓e_le, ↓e_gt, ↓e_ge, ↓e_neg, ↓e_inS, ↓e_ixL, ↓e_ixRL, ↓e_ixRT, ↓e_ixS, ↓e_lenL, ↓e_lenRL, ↓e_lenRT, ↓e_lenS, ↓e_abs, ↓e_max, ↓e_min, ↓e_int1, ↓e_int1b, ↓e_sumL, ↓e_sumTu, ↓e_listRL, ↓e_listRT, ↓e_tupRL, ↓e_tupO, ↓e_slRL, ↓e_slRT, ↓e_slL, ↓e_eq, ↓e_isN, ↓e_inF, ↓map_ro, ↓map_int, fine_int, fine_bl, fine_non, fine_str, eqb_int, eqb_str, eqb_nil, fine_nil, ds_ro, sPut, O.put, O.put1, O.at, O.at1, fPut, -List.map_map, dI] <;> exact ⟨by rw [sz]; decide, h dd lad (ss) acc' hdd ⟨hL, b1, b5, hs2, by omega, hr⟩⟩
          · obtain ⟨dd, x, hdd, rfl, hr, hlen⟩ := hI
            simp at hlen
            simp [wipeP, endP, retTo, outs, exTo, rC, rV, r1, r2, rN, m1, m2, mN, arN, arC, amN, amC, rTup, mTup, rLst, mLst, wLst, mIf, bM, bR, bAnd, bOr, bNot, wMv, mFz, mR, wM, mW, onRo, onBl, rosL, sNil, sSeq, sExpr, sRet, sRetN, sIf, sBrk, sCnt, sNever, sSet, gN, gsN, gsC, gT, sAsg, sFor, wLc, iL, iT, iS, iR1, iR2, iR3, iEn, iEnT, iZp, tYesP, axN, axR, axS, takeA, backA, callGo, wCall, wMethR, wMethS, wMake, mkGo, pFld, sFldSet, fStore, mAnd, mOr, mNot, mChain, wList, wListM, poN, poI, rSlc, rLenSet, rDGet, rDGet1, rDGet2, bDIn, wDnew, sPutL, sPutM, sDput, sApp, sAppP, pV, pF, Pu.pI, pK, startP, O.seq, O.d, fGet, List.lookup, O.nonB, isLst, ↓e_addI, ↓e_addS, ↓e_addL, ↓e_addT, ↓e_sub, ↓e_mulI, ↓e_mulS, ↓e_div, ↓e_mod, ↓e_pow, ↓e_lt, ↓e_le, ↓e_gt, ↓e_ge, ↓e_neg, ↓e_inS, ↓e_ixL, ↓e_ixRL, ↓e_ixRT, ↓e_ixS, ↓e_lenL, ↓e_lenRL, ↓e_lenRT, ↓e_lenS, ↓e_abs, ↓e_max, ↓e_min, ↓e_int1, ↓e_int1b, ↓e_sumL, ↓e_sumTu, ↓e_listRL, ↓e_listRT, ↓e_tupRL, ↓e_tupO, ↓e_slRL, ↓e_slRT, ↓e_slL, ↓e_eq, ↓e_isN, ↓e_inF, ↓map_ro, ↓map_int, fine_int, fine_bl, fine_non, fine_str, eqb_int, eqb_str, eqb_nil, fine_nil, ds_ro, sPut, O.put, O.put1, O.at, O.at1, fPut, -List.map_map, psi_rule]
            refine ⟨dd, (ss).length, v, ⟨rfl, by simp, rfl⟩, hdd, b1, b5, v0, fun d' e' hd' he' => ⟨by rw [sz]; omega, hk _ _ ⟨d', some (.ro e), hd', by simp, fun z hz => ?_, by simp; omega⟩⟩⟩
            rcases List.mem_append.mp hz with hz | hz
            · exact hr z hz
            · rw [List.mem_singleton.mp hz]; exact he'
        · rw [if_neg hz]
          refine ⟨by rw [sz]; decide, d5, 3, ⟨rfl, rfl⟩, hd5, by decide, by decide, fun y1 e1 he1 y2 y3 => ?_⟩
          obtain ⟨mm, hm4, hm5, hm6⟩ : ∃ m : Int, atI [D.int 4, D.int 4, D.int 13] y1 = some (.int m) ∧ 0 < m ∧ m ≤ 13 := by
            have : y1 = 0 ∨ y1 = 1 ∨ y1 = 2 := by omega
            rcases this with rfl | rfl | rfl
            · exact ⟨4, rfl, by decide, by decide⟩
            · exact ⟨4, rfl, by decide, by decide⟩
            · exact ⟨13, rfl, by decide, by decide⟩
          rw [hm4]
          refine ⟨e1, mm, ⟨rfl, rfl⟩, he1, hm5, by omega, fun y4 e2 he2 y5 y6 => ⟨⟨by omega, by omega⟩, ?_⟩⟩
          refine lc_ind (fun rest acc' sg => ∃ (dd : O) (x : Option O), Dice dd ∧ sg = [some dd, some (.ro (.int 5)), some (.ro (.int v)), some ol, x, some (.lst (acc.map O.ro)), none] ∧ (∀ e ∈ acc', OkRule (acc).length e) ∧ acc'.length + rest.length = y4.toNat) (fun acc' sg hI => ?_) (fun e rest acc' sg Kn hI hk => ?_) _ _ _ ⟨e2, none, he2, rfl, (fun _ h => nomatch h), by rw [rgD_len]; simp⟩
          · obtain ⟨dd, x, hdd, rfl, hr, hlen⟩ := hI
            simp at hlen
            rcases hol with rfl | rfl <;> simp [wipeP, endP, retTo, outs, exTo, rC, rV, r1, r2, rN, m1, m2, mN, arN, arC, amN, amC, rTup, mTup, rLst, mLst, wLst, mIf, bM, bR, bAnd, bOr, bNot, wMv, mFz, mR, wM, mW, onRo, onBl, rosL, sNil, sSeq, sExpr, sRet, sRetN, sIf, sBrk, sCnt, sNever, sSet, gN, gsN, gsC, gT, sAsg, sFor, wLc, iL, iT, iS, iR1, iR2, iR3, iEn, iEnT, iZp, tYesP, axN, axR, axS, takeA, backA, callGo, wCall, wMethR, wMethS, wMake, mkGo, pFld, sFldSet, fStore, mAnd, mOr, mNot, mChain, wList, wListM, poN, poI, rSlc, rLenSet, rDGet, rDGet1, rDGet2, bDIn, wDnew, sPutL, sPutM, sDput, sApp, sAppP, pV, pF, Pu.pI, pK, startP, O.seq, O.d, fGet, List.lookup, O.nonB, isLst, ↓e_addI, ↓e_addS, ↓e_addL, ↓e_addT, ↓e_sub, ↓e_mulI, ↓e_mulS, ↓e_div, ↓e_mod, ↓e_pow, ↓e_lt, ↓e_le, ↓e_gt, ↓e_ge, ↓e_neg, ↓e_inS, ↓e_ixL, ↓e_ixRL, ↓e_ixRT, ↓e_ixS, ↓e_lenL, ↓e_lenRL, ↓e_lenRT, ↓e_lenS, ↓e_abs, ↓e_max, ↓e_min, ↓e_int1, ↓e_int1b, ↓e_sumL, ↓e_sumTu, ↓e_listRL, ↓e_listRT, ↓e_tupRL, ↓e_tupO, ↓e_slRL, ↓e_slRT, ↓e_slL, ↓e_eq, ↓e_isN, ↓e_inF, ↓map_ro, ↓map_int, fine_int, fine_bl, fine_non, fine_str, eqb_int, eqb_str, eqb_nil, fine_nil, ds_ro, sPut, O.put, O.put1, O.at, O.at1, fPut, -List.map_map, dI] <;> exact ⟨by rw [sz]; decide, h dd lad acc acc' hdd ⟨hL, a1, a5, hs, by omega, hr⟩⟩
          · obtain ⟨dd, x, hdd, rfl, hr, hlen⟩ := hI
            simp at hlen
            simp [wipeP, endP, retTo, outs, exTo, rC, rV, r1, r2, rN, m1, m2, mN, arN, arC, amN, amC, rTup, mTup, rLst, mLst, wLst, mIf, bM, bR, bAnd, bOr, bNot, wMv, mFz, mR, wM, mW, onRo, onBl, rosL, sNil, sSeq, sExpr, sRet, sRetN, sIf, sBrk, sCnt, sNever, sSet, gN, gsN, gsC, gT, sAsg, sFor, wLc, iL, iT, iS, iR1, iR2, iR3, iEn, iEnT, iZp, tYesP, axN, axR, axS, takeA, backA, callGo, wCall, wMethR, wMethS, wMake, mkGo, pFld, sFldSet, fStore, mAnd, mOr, mNot, mChain, wList, wListM, poN, poI, rSlc, rLenSet, rDGet, rDGet1, rDGet2, bDIn, wDnew, sPutL, sPutM, sDput, sApp, sAppP, pV, pF, Pu.pI, pK, startP, O.seq, O.d, fGet, List.lookup, O.nonB, isLst, ↓e_addI, ↓e_addS, ↓e_addL, ↓e_addT, ↓e_sub, ↓e_mulI, ↓e_mulS, ↓e_div, ↓e_mod, ↓e_pow, ↓e_lt, ↓e_le, ↓e_gt, ↓e_ge, ↓e_neg, ↓e_inS, ↓e_ixL, ↓e_ixRL, ↓e_ixRT, ↓e_ixS, ↓e_lenL, ↓e_lenRL, ↓e_lenRT, ↓e_lenS, ↓e_abs, ↓e_max, ↓e_min, ↓e_int1, ↓e_int1b, ↓e_sumL, ↓e_sumTu, ↓e_listRL, ↓e_listRT, ↓e_tupRL, ↓e_tupO, ↓e_slRL, ↓e_slRT, ↓e_slL, ↓e_eq, ↓e_isN, ↓e_inF, ↓map_ro, ↓map_int, fine_int, fine_bl, fine_non, fine_str, eqb_int, eqb_str, eqb_nil, fine_nil, ds_ro, sPut, O.put, O.put1, O.at, O.at1, fPut, -List.map_map, psi_rule]
            refine ⟨dd, (acc).length, v, ⟨rfl, by simp, rfl⟩, hdd, a1, a5, v0, fun d' e' hd' he' => ⟨by rw [sz]; omega, hk _ _ ⟨d', some (.ro e), hd', by simp, fun z hz => ?_, by simp; omega⟩⟩⟩
            rcases List.mem_append.mp hz with hz | hz
            · exact hr z hz
            · rw [List.mem_singleton.mp hz]; exact he'
      · rw [if_neg hb]
        refine ⟨by rw [sz]; decide, dd, 3, ⟨rfl, rfl⟩, hdd, by decide, by decide, fun y1 e1 he1 y2 y3 => ?_⟩
        obtain ⟨mm, hm4, hm5, hm6⟩ : ∃ m : Int, atI [D.int 4, D.int 4, D.int 13] y1 = some (.int m) ∧ 0 < m ∧ m ≤ 13 := by
          have : y1 = 0 ∨ y1 = 1 ∨ y1 = 2 := by omega
          rcases this with rfl | rfl | rfl
          · exact ⟨4, rfl, by decide, by decide⟩
          · exact ⟨4, rfl, by decide, by decide⟩
          · exact ⟨13, rfl, by decide, by decide⟩
        rw [hm4]
        refine ⟨e1, mm, ⟨rfl, rfl⟩, he1, hm5, by omega, fun y4 e2 he2 y5 y6 => ⟨⟨by omega, by omega⟩, ?_⟩⟩
        refine lc_ind (fun rest acc' sg => ∃ (dd : O) (x : Option O), Dice dd ∧ sg = [some dd, some (.ro (.int 5)), some (.ro (.int v)), some ol, x, some (.lst (acc.map O.ro)), none] ∧ (∀ e ∈ acc', OkRule (acc).length e) ∧ acc'.length + rest.length = y4.toNat) (fun acc' sg hI => ?_) (fun e rest acc' sg Kn hI hk => ?_) _ _ _ ⟨e2, none, he2, rfl, (fun _ h => nomatch h), by rw [rgD_len]; simp⟩
        · obtain ⟨dd, x, hdd, rfl, hr, hlen⟩ := hI
          simp at hlen
          rcases hol with rfl | rfl <;> simp [wipeP, endP, retTo, outs, exTo, rC, rV, r1, r2, rN, m1, m2, mN, arN, arC, amN, amC, rTup, mTup, rLst, mLst, wLst, mIf, bM, bR, bAnd, bOr, bNot, wMv, mFz, mR, wM, mW, onRo, onBl, rosL, sNil, sSeq, sExpr, sRet, sRetN, sIf, sBrk, sCnt, sNever, sSet, gN, gsN, gsC, gT, sAsg, sFor, wLc, iL, iT, iS, iR1, iR2, iR3, iEn, iEnT, iZp, tYesP, axN, axR, axS, takeA, backA, callGo, wCall, wMethR, wMethS, wMake, mkGo, pFld, sFldSet, fStore, mAnd, mOr, mNot, mChain, wList, wListM, poN, poI, rSlc, rLenSet, rDGet, rDGet1, rDGet2, bDIn, wDnew, sPutL, sPutM, sDput, sApp, sAppP, pV, pF, Pu.pI, pK, startP, O.seq, O.d, fGet, List.lookup, O.nonB, isLst, ↓e_addI, ↓e_addS, ↓e_addL, ↓e_addT, ↓e_sub, ↓e_mulI, ↓e_mulS, ↓e_div, ↓e_mod, ↓e_pow, ↓e_lt, ↓e_le, ↓e_gt, ↓e_ge, ↓e_neg, ↓e_inS, ↓e_ixL, ↓e_ixRL, ↓e_ixRT, ↓e_ixS, ↓e_lenL, ↓e_lenRL, ↓e_lenRT, ↓e_lenS, ↓e_abs, ↓e_max, ↓e_min, ↓e_int1, ↓e_int1b, ↓e_sumL, ↓e_sumTu, ↓e_listRL, ↓e_listRT, ↓e_tupRL, ↓e_tupO, ↓e_slRL, ↓e_slRT, ↓e_slL, ↓e_eq, ↓e_isN, ↓e_inF, ↓map_ro, ↓map_int, fine_int, fine_bl, fine_non, fine_str, eqb_int, eqb_str, eqb_nil, fine_nil, ds_ro, sPut, O.put, O.put1, O.at, O.at1, fPut, -List.map_map, dI] <;> exact ⟨by rw [sz]; decide, h dd lad acc acc' hdd ⟨hL, a1, a5, hs, by omega, hr⟩⟩
        · obtain ⟨dd, x, hdd, rfl, hr, hlen⟩ := hI
          simp at hlen
          simp [wipeP, endP, retTo, outs, exTo, rC, rV, r1, r2, rN, m1, m2, mN, arN, arC, amN, amC, rTup, mTup, rLst, mLst, wLst, mIf, bM, bR, bAnd, bOr, bNot, wMv, mFz, mR, wM, mW, onRo, onBl, rosL, sNil, sSeq, sExpr, sRet, sRetN, sIf, sBrk, sCnt, sNever, sSet, gN, gsN, gsC, gT, sAsg, sFor, wLc, iL, iT, iS, iR1, iR2, iR3, iEn, iEnT, iZp, tYesP, axN, axR, axS, takeA, backA, callGo, wCall, wMethR, wMethS, wMake, mkGo, pFld, sFldSet, fStore, mAnd, mOr, mNot, mChain, wList, wListM, poN, poI, rSlc, rLenSet, rDGet, rDGet1, rDGet2, bDIn, wDnew, sPutL, sPutM, sDput, sApp, sAppP, pV, pF, Pu.pI, pK, startP, O.seq, O.d, fGet, List.lookup, O.nonB, isLst, ↓e_addI, ↓e_addS, ↓e_addL, ↓e_addT, ↓e_sub, ↓e_mulI, ↓e_mulS, ↓e_div, ↓e_mod, ↓e_pow, ↓e_lt, ↓e_le, ↓e_gt, ↓e_ge, ↓e_neg, ↓e_inS, ↓e_ixL, ↓e_ixRL, ↓e_ixRT, ↓e_ixS, ↓e_lenL, ↓e_lenRL, ↓e_lenRT, ↓e_lenS, ↓e_abs, ↓e_max, ↓e_min, ↓e_int1, ↓e_int1b, ↓e_sumL, ↓e_sumTu, ↓e_listRL, ↓e_listRT, ↓e_tupRL, ↓e_tupO, ↓e_slRL, ↓e_slRT, ↓e_slL, ↓e_eq, ↓e_isN, ↓e_inF, ↓map_ro, ↓map_int, fine_int, fine_bl, fine_non, fine_str, eqb_int, eqb_str, eqb_nil, fine_nil, ds_ro, sPut, O.put, O.put1, O.at, O.at1, fPut, -List.map_map, psi_rule]
          refine ⟨dd, (acc).length, v, ⟨rfl, by simp, rfl⟩, hdd, a1, a5, v0, fun d' e' hd' he' => ⟨by rw [sz]; omega, hk _ _ ⟨d', some (.ro e), hd', by simp, fun z hz => ?_, by simp; omega⟩⟩⟩
          rcases List.mem_append.mp hz with hz | hz
          · exact hr z hz
          · rw [List.mem_singleton.mp hz]; exact he'
    · obtain ⟨dd, x, ol, hdd, hol, rfl, hs, hlen⟩ := hI
      simp at hlen
      rcases hol with rfl | rfl <;> simp [wipeP, endP, retTo, outs, exTo, rC, rV, r1, r2, rN, m1, m2, mN, arN, arC, amN, amC, rTup, mTup, rLst, mLst, wLst, mIf, bM, bR, bAnd, bOr, bNot, wMv, mFz, mR, wM, mW, onRo, onBl, rosL, sNil, sSeq, sExpr, sRet, sRetN, sIf, sBrk, sCnt, sNever, sSet, gN, gsN, gsC, gT, sAsg, sFor, wLc, iL, iT, iS, iR1, iR2, iR3, iEn, iEnT, iZp, tYesP, axN, axR, axS, takeA, backA, callGo, wCall, wMethR, wMethS, wMake, mkGo, pFld, sFldSet, fStore, mAnd, mOr, mNot, mChain, wList, wListM, poN, poI, rSlc, rLenSet, rDGet, rDGet1, rDGet2, bDIn, wDnew, sPutL, sPutM, sDput, sApp, sAppP, pV, pF, Pu.pI, pK, startP, O.seq, O.d, fGet, List.lookup, O.nonB, isLst, ↓e_addI, ↓e_addS, ↓e_addL, ↓e_addT, ↓e_sub, ↓e_mulI, ↓e_mulS, ↓e_div, ↓e_mod, ↓e_pow, ↓e_lt, ↓e_le, ↓e_gt, ↓e_ge, ↓e_neg, ↓e_inS, ↓e_ixL, ↓e_ixRL, ↓e_ixRT, ↓e_ixS, ↓e_lenL, ↓e_lenRL, ↓e_lenRT, ↓e_lenS, ↓e_abs, ↓e_max, ↓e_min, ↓e_int1, ↓e_int1b, ↓e_sumL, ↓e_sumTu, ↓e_listRL, ↓e_listRT, ↓e_tupRL, ↓e_tupO, ↓e_slRL, ↓e_slRT, ↓e_slL, ↓e_eq, ↓e_isN, ↓e_inF, ↓map_ro, ↓map_int, fine_int, fine_bl, fine_non, fine_str, eqb_int, eqb_str, eqb_nil, fine_nil, ds_ro, sPut, O.put, O.put1, O.at, O.at1, fPut, -List.map_map, psi_set, dI] <;> refine ⟨dd, lad, v, ⟨rfl, rfl, rfl⟩, hdd, hL, v0, fun d' e' hd' he' => ⟨by rw [sz]; omega, hk _ _ ⟨d', some (.ro e), .ro (dI lad), hd', .inr rfl, by simp [dI], fun z hz => ?_, by simp; omega⟩⟩⟩
      all_goals
        rcases List.mem_append.mp hz with hz | hz
        · exact hs z hz
        · rw [List.mem_singleton.mp hz]; exact he'
  · obtain ⟨dd, x, ns, hdd, rfl, rfl, hg, hlen⟩ := hI
    simp at hlen
    simp [wipeP, endP, retTo, outs, exTo, rC, rV, r1, r2, rN, m1, m2, mN, arN, arC, amN, amC, rTup, mTup, rLst, mLst, wLst, mIf, bM, bR, bAnd, bOr, bNot, wMv, mFz, mR, wM, mW, onRo, onBl, rosL, sNil, sSeq, sExpr, sRet, sRetN, sIf, sBrk, sCnt, sNever, sSet, gN, gsN, gsC, gT, sAsg, sFor, wLc, iL, iT, iS, iR1, iR2, iR3, iEn, iEnT, iZp, tYesP, axN, axR, axS, takeA, backA, callGo, wCall, wMethR, wMethS, wMake, mkGo, pFld, sFldSet, fStore, mAnd, mOr, mNot, mChain, wList, wListM, poN, poI, rSlc, rLenSet, rDGet, rDGet1, rDGet2, bDIn, wDnew, sPutL, sPutM, sDput, sApp, sAppP, pV, pF, Pu.pI, pK, startP, O.seq, O.d, fGet, List.lookup, O.nonB, isLst, ↓e_addI, ↓e_addS, ↓e_addL, ↓e_addT, ↓e_sub, ↓e_mulI, ↓e_mulS, ↓e_div, ↓e_mod, ↓e_pow, ↓e_lt, ↓e_le, ↓e_gt, ↓e_ge, ↓e_neg, ↓e_inS, ↓e_ixL, ↓e_ixRL, ↓e_ixRT, ↓e_ixS, ↓e_lenL, ↓e_lenRL, ↓e_lenRT, ↓e_lenS, ↓e_abs, ↓e_max, ↓e_min, ↓e_int1, ↓e_int1b, ↓e_sumL, ↓e_sumTu, ↓e_listRL, ↓e_listRT, ↓e_tupRL, ↓e_tupO, ↓e_slRL, ↓e_slRT, ↓e_slL, ↓e_eq, ↓e_isN, ↓e_inF, ↓map_ro, ↓map_int, fine_int, fine_bl, fine_non, fine_str, eqb_int, eqb_str, eqb_nil, fine_nil, ds_ro, sPut, O.put, O.put1, O.at, O.at1, fPut, -List.map_map, psi_off]
    refine ⟨dd, 4, ⟨rfl, rfl⟩, hdd, by decide, by decide, fun y1 e1 he1 y2 y3 => ⟨by rw [sz]; decide, e1, 4, ⟨rfl, rfl⟩, he1, by decide, by decide, fun y4 e2 he2 y5 y6 => ?_⟩⟩
    obtain ⟨mm, hm4, hm5, hm6⟩ : ∃ m : Int, atI [D.int 2, D.int 1, D.int 2, D.int (1 + y1)] y4 = some (.int m) ∧ 1 ≤ m ∧ m ≤ 4 := by
      have : y4 = 0 ∨ y4 = 1 ∨ y4 = 2 ∨ y4 = 3 := by omega
      rcases this with rfl | rfl | rfl | rfl
      · exact ⟨2, rfl, by decide, by decide⟩
      · exact ⟨1, rfl, by decide, by decide⟩
      · exact ⟨2, rfl, by decide, by decide⟩
      · exact ⟨1 + y1, rfl, by omega, by omega⟩
    rw [hm4]
    refine ⟨by rw [sz]; omega, hk _ _ ⟨e2, _, ns ++ [mm], he2, rfl, by simp, fun g hg2 => ?_, by simp; omega⟩⟩
    rcases List.mem_append.mp hg2 with h1 | h1
    · exact hg g h1
    · rw [List.mem_singleton.mp h1]; exact ⟨hm5, hm6⟩
end Sp
end
section
open PySem PySem.W PySem.Spec PyProof.Rows L2 Pu Rd
set_option Elab.async false
set_option linter.all false
set_option maxRecDepth 100000
set_option maxHeartbeats 4000000
namespace Sp
theorem filter_ff {α : Type} : ∀ l : List α, l.filter (fun _ => false) = []
  | [] => rfl
  | a :: l => by rw [List.filter_cons_of_neg (by decide), filter_ff l]
theorem map_str {xs ys : List Str} : (xs.map D.str = ys.map D.str) = (xs = ys) := by
  apply propext
  constructor
  · intro h
    induction xs generalizing ys with
    | nil => cases ys with
      | nil => rfl
      | cons _ _ => cases h
    | cons x xs ih => cases ys with
      | nil => cases h
      | cons y ys => injection h with h1 h2; cases h1; rw [ih h2]
  · rintro rfl; rfl
theorem dd_nodup : ∀ {xs acc : List Str}, (acc ++ xs).Nodup → (xs.foldl ddS acc).length = acc.length + xs.length
  | [], acc, _ => rfl
  | x :: r, acc, h => by
    have e : acc.any (· == x) = false := by
      cases hh : acc.any (· == x) with
      | false => rfl
      | true =>
        obtain ⟨y, hy, hz⟩ := List.any_eq_true.mp hh
        have : y = x := by simpa using hz
        subst this
        have := (List.nodup_append.mp h).2.2
        exact absurd rfl (this y hy y List.mem_cons_self)
    rw [List.foldl_cons]
    have e2 : ddS acc x = acc ++ [x] := by unfold ddS; rw [e]; rfl
    rw [e2, dd_nodup (by simpa using h)]
    simp; omega
theorem dd_nd {xs : List Str} (h : xs.Nodup) : (dd xs).length = xs.length := by
  have := dd_nodup (acc := []) (xs := xs) (by simpa using h)
  simpa [dd] using this
/-! ### the school -/
def psi_must : PSp := fun os Q _ => ∃ (a b : D), os = [.ro (.bl true), .ro a, .ro b] ∧ Q (.ro .non) os
theorem mo_must : PMono psi_must := fun os Q1 Q2 E1 E2 h _ ⟨a, b, e, q⟩ => ⟨a, b, e, h _ _ q⟩
theorem pu_must (os : List O) (Qp : O → List O → Prop) (Ep : PX) (hl : os.length = 3) (h : psi_must os Qp Ep) : t_must (endP [] os Qp Ep) (startP 3 os) := by
  obtain ⟨a, b, rfl, h⟩ := h
  simp [t_must, endP, retTo, outs, exTo, rC, rV, r1, r2, rN, m1, m2, mN, arN, arC, amN, amC, rTup, mTup, rLst, mLst, wLst, mIf, bM, bR, bAnd, bOr, bNot, wMv, mFz, mR, wM, mW, onRo, onBl, rosL, sNil, sSeq, sExpr, sRet, sRetN, sIf, sBrk, sCnt, sNever, sSet, gN, gsN, gsC, gT, sAsg, sFor, wLc, iL, iT, iS, iR1, iR2, iR3, iEn, iEnT, iZp, tYesP, axN, axR, axS, takeA, backA, callGo, wCall, wMethR, wMethS, wMake, mkGo, pFld, sFldSet, fStore, mAnd, mOr, mNot, mChain, wList, wListM, poN, poI, rSlc, rLenSet, rDGet, rDGet1, rDGet2, bDIn, wDnew, sPutL, sPutM, sDput, sApp, sAppP, pV, pF, Pu.pI, pK, startP, O.seq, O.d, fGet, List.lookup, O.nonB, isLst, ↓e_addI, ↓e_addS, ↓e_addL, ↓e_addT, ↓e_sub, ↓e_mulI, ↓e_mulS, ↓e_div, ↓e_mod, ↓e_pow, ↓e_lt, ↓e_le, ↓e_gt, ↓e_ge, ↓e_neg, ↓e_inS, ↓e_ixL, ↓e_ixRL, ↓e_ixRT, ↓e_ixS, ↓e_lenL, ↓e_lenRL, ↓e_lenRT, ↓e_lenS, ↓e_abs, ↓e_max, ↓e_min, ↓e_int1, ↓e_int1b, ↓e_sumL, ↓e_sumTu, ↓e_listRL, ↓e_listRT, ↓e_tupRL, ↓e_tupO, ↓e_slRL, ↓e_slRT, ↓e_slL, ↓e_eq, ↓e_isN, ↓e_inF, ↓map_ro, ↓map_int, fine_int, fine_bl, fine_non, fine_str, eqb_int, eqb_str, eqb_nil, fine_nil, ds_ro, sPut, O.put, O.put1, O.at, O.at1, fPut, -List.map_map]
  exact h
def psi_are_gaps : PSp := fun os Q _ => ∃ (ns : List Int), (os = [.ro (dI ns)] ∨ os = [.ro (.tup (ns.map D.int))]) ∧ ns.length ≤ 30 ∧ (∀ g ∈ ns, 1 ≤ g ∧ g ≤ 4) ∧ Q (.ro (.bl true)) os
theorem mo_are_gaps : PMono psi_are_gaps := fun os Q1 Q2 E1 E2 h _ ⟨a, e, h1, h2, q⟩ => ⟨a, e, h1, h2, h _ _ q⟩
def psi_is_word : PSp := fun os Q _ => ∃ z, os = [.ro (.str z)] ∧ Word z ∧ Q (.ro (.bl true)) os
theorem mo_is_word : PMono psi_is_word := fun os Q1 Q2 E1 E2 h _ ⟨a, e, h1, q⟩ => ⟨a, e, h1, h _ _ q⟩
theorem abc_eq2 : (Str.ofString "abcdefghijklmnopqrstuvwxyz").cps.toList = abc := abc_eq
theorem pu_is_word (os : List O) (Qp : O → List O → Prop) (Ep : PX) (hl : os.length = 1) (h : psi_is_word os Qp Ep) : t_is_word (endP [] os Qp Ep) (startP 2 os) := by
  obtain ⟨z, rfl, ⟨h1, h2, h3⟩, h⟩ := h
  simp [t_is_word, endP, retTo, outs, exTo, rC, rV, r1, r2, rN, m1, m2, mN, arN, arC, amN, amC, rTup, mTup, rLst, mLst, wLst, mIf, bM, bR, bAnd, bOr, bNot, wMv, mFz, mR, wM, mW, onRo, onBl, rosL, sNil, sSeq, sExpr, sRet, sRetN, sIf, sBrk, sCnt, sNever, sSet, gN, gsN, gsC, gT, sAsg, sFor, wLc, iL, iT, iS, iR1, iR2, iR3, iEn, iEnT, iZp, tYesP, axN, axR, axS, takeA, backA, callGo, wCall, wMethR, wMethS, wMake, mkGo, pFld, sFldSet, fStore, mAnd, mOr, mNot, mChain, wList, wListM, poN, poI, rSlc, rLenSet, rDGet, rDGet1, rDGet2, bDIn, wDnew, sPutL, sPutM, sDput, sApp, sAppP, pV, pF, Pu.pI, pK, startP, O.seq, O.d, fGet, List.lookup, O.nonB, isLst, ↓e_addI, ↓e_addS, ↓e_addL, ↓e_addT, ↓e_sub, ↓e_mulI, ↓e_mulS, ↓e_div, ↓e_mod, ↓e_pow, ↓e_lt, ↓e_le, ↓e_gt, ↓e_ge, ↓e_neg, ↓e_inS, ↓e_ixL, ↓e_ixRL, ↓e_ixRT, ↓e_ixS, ↓e_lenL, ↓e_lenRL, ↓e_lenRT, ↓e_lenS, ↓e_abs, ↓e_max, ↓e_min, ↓e_int1, ↓e_int1b, ↓e_sumL, ↓e_sumTu, ↓e_listRL, ↓e_listRT, ↓e_tupRL, ↓e_tupO, ↓e_slRL, ↓e_slRT, ↓e_slL, ↓e_eq, ↓e_isN, ↓e_inF, ↓map_ro, ↓map_int, fine_int, fine_bl, fine_non, fine_str, eqb_int, eqb_str, eqb_nil, fine_nil, ds_ro, sPut, O.put, O.put1, O.at, O.at1, fPut, -List.map_map]
  rw [if_pos (by omega), if_pos (by omega)]
  refine ⟨by rw [sz]; omega, lc_pure 1 (fun _ => false) id _ _ _ rfl (by rw [sz, List.length_map, ← chars_len]; simp; omega) (fun d hm Kn q => ?_) (fun d _ z => by cases z) ?_⟩
  · obtain ⟨c, hc, rfl⟩ := List.mem_map.mp hm
    have := h3 c hc
    rw [← abc_eq2] at this
    simp [endP, retTo, outs, exTo, rC, rV, r1, r2, rN, m1, m2, mN, arN, arC, amN, amC, rTup, mTup, rLst, mLst, wLst, mIf, bM, bR, bAnd, bOr, bNot, wMv, mFz, mR, wM, mW, onRo, onBl, rosL, sNil, sSeq, sExpr, sRet, sRetN, sIf, sBrk, sCnt, sNever, sSet, gN, gsN, gsC, gT, sAsg, sFor, wLc, iL, iT, iS, iR1, iR2, iR3, iEn, iEnT, iZp, tYesP, axN, axR, axS, takeA, backA, callGo, wCall, wMethR, wMethS, wMake, mkGo, pFld, sFldSet, fStore, mAnd, mOr, mNot, mChain, wList, wListM, poN, poI, rSlc, rLenSet, rDGet, rDGet1, rDGet2, bDIn, wDnew, sPutL, sPutM, sDput, sApp, sAppP, pV, pF, Pu.pI, pK, startP, O.seq, O.d, fGet, List.lookup, O.nonB, isLst, ↓e_addI, ↓e_addS, ↓e_addL, ↓e_addT, ↓e_sub, ↓e_mulI, ↓e_mulS, ↓e_div, ↓e_mod, ↓e_pow, ↓e_lt, ↓e_le, ↓e_gt, ↓e_ge, ↓e_neg, ↓e_inS, ↓e_ixL, ↓e_ixRL, ↓e_ixRT, ↓e_ixS, ↓e_lenL, ↓e_lenRL, ↓e_lenRT, ↓e_lenS, ↓e_abs, ↓e_max, ↓e_min, ↓e_int1, ↓e_int1b, ↓e_sumL, ↓e_sumTu, ↓e_listRL, ↓e_listRT, ↓e_tupRL, ↓e_tupO, ↓e_slRL, ↓e_slRT, ↓e_slL, ↓e_eq, ↓e_isN, ↓e_inF, ↓map_ro, ↓map_int, fine_int, fine_bl, fine_non, fine_str, eqb_int, eqb_str, eqb_nil, fine_nil, ds_ro, sPut, O.put, O.put1, O.at, O.at1, fPut, -List.map_map, chD, this]
    exact q
  · rw [filter_ff]
    exact ⟨fine_nil, h⟩
theorem pu_are_gaps (os : List O) (Qp : O → List O → Prop) (Ep : PX) (hl : os.length = 1) (h : psi_are_gaps os Qp Ep) : t_are_gaps (endP [] os Qp Ep) (startP 2 os) := by
  obtain ⟨ns, e, hz, hg, h⟩ := h
  rcases e with rfl | rfl
  · refine .inl ?_
    simp [endP, retTo, outs, exTo, rC, rV, r1, r2, rN, m1, m2, mN, arN, arC, amN, amC, rTup, mTup, rLst, mLst, wLst, mIf, bM, bR, bAnd, bOr, bNot, wMv, mFz, mR, wM, mW, onRo, onBl, rosL, sNil, sSeq, sExpr, sRet, sRetN, sIf, sBrk, sCnt, sNever, sSet, gN, gsN, gsC, gT, sAsg, sFor, wLc, iL, iT, iS, iR1, iR2, iR3, iEn, iEnT, iZp, tYesP, axN, axR, axS, takeA, backA, callGo, wCall, wMethR, wMethS, wMake, mkGo, pFld, sFldSet, fStore, mAnd, mOr, mNot, mChain, wList, wListM, poN, poI, rSlc, rLenSet, rDGet, rDGet1, rDGet2, bDIn, wDnew, sPutL, sPutM, sDput, sApp, sAppP, pV, pF, Pu.pI, pK, startP, O.seq, O.d, fGet, List.lookup, O.nonB, isLst, ↓e_addI, ↓e_addS, ↓e_addL, ↓e_addT, ↓e_sub, ↓e_mulI, ↓e_mulS, ↓e_div, ↓e_mod, ↓e_pow, ↓e_lt, ↓e_le, ↓e_gt, ↓e_ge, ↓e_neg, ↓e_inS, ↓e_ixL, ↓e_ixRL, ↓e_ixRT, ↓e_ixS, ↓e_lenL, ↓e_lenRL, ↓e_lenRT, ↓e_lenS, ↓e_abs, ↓e_max, ↓e_min, ↓e_int1, ↓e_int1b, ↓e_sumL, ↓e_sumTu, ↓e_listRL, ↓e_listRT, ↓e_tupRL, ↓e_tupO, ↓e_slRL, ↓e_slRT, ↓e_slL, ↓e_eq, ↓e_isN, ↓e_inF, ↓map_ro, ↓map_int, fine_int, fine_bl, fine_non, fine_str, eqb_int, eqb_str, eqb_nil, fine_nil, ds_ro, sPut, O.put, O.put1, O.at, O.at1, fPut, -List.map_map, dI]
    refine lc_pure 1 (fun _ => false) id _ _ _ rfl (by rw [sz]; simp; omega) (fun d hm Kn q => ?_) (fun d _ z => by cases z) ?_
    · obtain ⟨g, hg1, rfl⟩ := List.mem_map.mp hm
      have := hg g hg1
      simp [endP, retTo, outs, exTo, rC, rV, r1, r2, rN, m1, m2, mN, arN, arC, amN, amC, rTup, mTup, rLst, mLst, wLst, mIf, bM, bR, bAnd, bOr, bNot, wMv, mFz, mR, wM, mW, onRo, onBl, rosL, sNil, sSeq, sExpr, sRet, sRetN, sIf, sBrk, sCnt, sNever, sSet, gN, gsN, gsC, gT, sAsg, sFor, wLc, iL, iT, iS, iR1, iR2, iR3, iEn, iEnT, iZp, tYesP, axN, axR, axS, takeA, backA, callGo, wCall, wMethR, wMethS, wMake, mkGo, pFld, sFldSet, fStore, mAnd, mOr, mNot, mChain, wList, wListM, poN, poI, rSlc, rLenSet, rDGet, rDGet1, rDGet2, bDIn, wDnew, sPutL, sPutM, sDput, sApp, sAppP, pV, pF, Pu.pI, pK, startP, O.seq, O.d, fGet, List.lookup, O.nonB, isLst, ↓e_addI, ↓e_addS, ↓e_addL, ↓e_addT, ↓e_sub, ↓e_mulI, ↓e_mulS, ↓e_div, ↓e_mod, ↓e_pow, ↓e_lt, ↓e_le, ↓e_gt, ↓e_ge, ↓e_neg, ↓e_inS, ↓e_ixL, ↓e_ixRL, ↓e_ixRT, ↓e_ixS, ↓e_lenL, ↓e_lenRL, ↓e_lenRT, ↓e_lenS, ↓e_abs, ↓e_max, ↓e_min, ↓e_int1, ↓e_int1b, ↓e_sumL, ↓e_sumTu, ↓e_listRL, ↓e_listRT, ↓e_tupRL, ↓e_tupO, ↓e_slRL, ↓e_slRT, ↓e_slL, ↓e_eq, ↓e_isN, ↓e_inF, ↓map_ro, ↓map_int, fine_int, fine_bl, fine_non, fine_str, eqb_int, eqb_str, eqb_nil, fine_nil, ds_ro, sPut, O.put, O.put1, O.at, O.at1, fPut, -List.map_map, this.1, this.2]
      exact q
    · rw [filter_ff]
      exact ⟨fine_nil, h⟩
  · refine .inr ?_
    simp [endP, retTo, outs, exTo, rC, rV, r1, r2, rN, m1, m2, mN, arN, arC, amN, amC, rTup, mTup, rLst, mLst, wLst, mIf, bM, bR, bAnd, bOr, bNot, wMv, mFz, mR, wM, mW, onRo, onBl, rosL, sNil, sSeq, sExpr, sRet, sRetN, sIf, sBrk, sCnt, sNever, sSet, gN, gsN, gsC, gT, sAsg, sFor, wLc, iL, iT, iS, iR1, iR2, iR3, iEn, iEnT, iZp, tYesP, axN, axR, axS, takeA, backA, callGo, wCall, wMethR, wMethS, wMake, mkGo, pFld, sFldSet, fStore, mAnd, mOr, mNot, mChain, wList, wListM, poN, poI, rSlc, rLenSet, rDGet, rDGet1, rDGet2, bDIn, wDnew, sPutL, sPutM, sDput, sApp, sAppP, pV, pF, Pu.pI, pK, startP, O.seq, O.d, fGet, List.lookup, O.nonB, isLst, ↓e_addI, ↓e_addS, ↓e_addL, ↓e_addT, ↓e_sub, ↓e_mulI, ↓e_mulS, ↓e_div, ↓e_mod, ↓e_pow, ↓e_lt, ↓e_le, ↓e_gt, ↓e_ge, ↓e_neg, ↓e_inS, ↓e_ixL, ↓e_ixRL, ↓e_ixRT, ↓e_ixS, ↓e_lenL, ↓e_lenRL, ↓e_lenRT, ↓e_lenS, ↓e_abs, ↓e_max, ↓e_min, ↓e_int1, ↓e_int1b, ↓e_sumL, ↓e_sumTu, ↓e_listRL, ↓e_listRT, ↓e_tupRL, ↓e_tupO, ↓e_slRL, ↓e_slRT, ↓e_slL, ↓e_eq, ↓e_isN, ↓e_inF, ↓map_ro, ↓map_int, fine_int, fine_bl, fine_non, fine_str, eqb_int, eqb_str, eqb_nil, fine_nil, ds_ro, sPut, O.put, O.put1, O.at, O.at1, fPut, -List.map_map, dI]
    refine lc_pure 1 (fun _ => false) id _ _ _ rfl (by rw [sz]; simp; omega) (fun d hm Kn q => ?_) (fun d _ z => by cases z) ?_
    · obtain ⟨g, hg1, rfl⟩ := List.mem_map.mp hm
      have := hg g hg1
      simp [endP, retTo, outs, exTo, rC, rV, r1, r2, rN, m1, m2, mN, arN, arC, amN, amC, rTup, mTup, rLst, mLst, wLst, mIf, bM, bR, bAnd, bOr, bNot, wMv, mFz, mR, wM, mW, onRo, onBl, rosL, sNil, sSeq, sExpr, sRet, sRetN, sIf, sBrk, sCnt, sNever, sSet, gN, gsN, gsC, gT, sAsg, sFor, wLc, iL, iT, iS, iR1, iR2, iR3, iEn, iEnT, iZp, tYesP, axN, axR, axS, takeA, backA, callGo, wCall, wMethR, wMethS, wMake, mkGo, pFld, sFldSet, fStore, mAnd, mOr, mNot, mChain, wList, wListM, poN, poI, rSlc, rLenSet, rDGet, rDGet1, rDGet2, bDIn, wDnew, sPutL, sPutM, sDput, sApp, sAppP, pV, pF, Pu.pI, pK, startP, O.seq, O.d, fGet, List.lookup, O.nonB, isLst, ↓e_addI, ↓e_addS, ↓e_addL, ↓e_addT, ↓e_sub, ↓e_mulI, ↓e_mulS, ↓e_div, ↓e_mod, ↓e_pow, ↓e_lt, ↓e_le, ↓e_gt, ↓e_ge, ↓e_neg, ↓e_inS, ↓e_ixL, ↓e_ixRL, ↓e_ixRT, ↓e_ixS, ↓e_lenL, ↓e_lenRL, ↓e_lenRT, ↓e_lenS, ↓e_abs, ↓e_max, ↓e_min, ↓e_int1, ↓e_int1b, ↓e_sumL, ↓e_sumTu, ↓e_listRL, ↓e_listRT, ↓e_tupRL, ↓e_tupO, ↓e_slRL, ↓e_slRT, ↓e_slL, ↓e_eq, ↓e_isN, ↓e_inF, ↓map_ro, ↓map_int, fine_int, fine_bl, fine_non, fine_str, eqb_int, eqb_str, eqb_nil, fine_nil, ds_ro, sPut, O.put, O.put1, O.at, O.at1, fPut, -List.map_map, this.1, this.2]
      exact q
    · rw [filter_ff]
      exact ⟨fine_nil, h⟩
theorem s_oa : (Str.ofString "over" == Str.ofString "at") = false := by decide +kernel
theorem s_ob : (Str.ofString "beside" == Str.ofString "at") = false := by decide +kernel
theorem s_ao : (Str.ofString "at" == Str.ofString "over") = false := by decide +kernel
theorem s_oo : (Str.ofString "beside" == Str.ofString "over") = false := by decide +kernel
theorem s_ok1 : PyData.strOk (Str.ofString "at") = true := by decide +kernel
theorem s_ok2 : PyData.strOk (Str.ofString "over") = true := by decide +kernel
theorem s_ok3 : PyData.strOk (Str.ofString "beside") = true := by decide +kernel
theorem s_x1 : (Str.ofString "over" == Str.ofString "beside") = false := by decide +kernel
theorem s_x2 : (Str.ofString "at" == Str.ofString "beside") = false := by decide +kernel
variable (C : Addr)
def psi_is_set : PSp := fun os Q _ => ∃ (fs : List (Str × O)) (hs : List O) (e : D) (n : Nat), os = [.ins C fs, .ro e] ∧ fGet "heights" fs = some (.lst hs) ∧ hs.length = n + 1 ∧ OkS n e ∧ Q (.ro (.bl true)) os
theorem mo_is_set : PMono (psi_is_set C) := fun os Q1 Q2 E1 E2 h _ ⟨a, b, c, d, e, h1, h2, h3, q⟩ => ⟨a, b, c, d, e, h1, h2, h3, h _ _ q⟩
theorem pu_is_set (os : List O) (Qp : O → List O → Prop) (Ep : PX) (hl : os.length = 2) (h : psi_is_set C os Qp Ep) : t_School_is_set psi_are_gaps psi_is_word C (endP [0] os Qp Ep) (startP 6 os) := by
  obtain ⟨fs, hs, e, n, rfl, hh, hn, ⟨ok⟩, h⟩ := h
  rename_i step names gaps
  have n2 : (2 : Int) ≤ (names.length : Int) := by have := ok.n2; omega
  have n7 : (names.length : Int) ≤ 7 := by have := ok.n7; omega
  have gl : (gaps.length : Int) = (names.length : Int) - 1 := by have := ok.gl; omega
  simp [t_School_is_set, endP, retTo, outs, exTo, rC, rV, r1, r2, rN, m1, m2, mN, arN, arC, amN, amC, rTup, mTup, rLst, mLst, wLst, mIf, bM, bR, bAnd, bOr, bNot, wMv, mFz, mR, wM, mW, onRo, onBl, rosL, sNil, sSeq, sExpr, sRet, sRetN, sIf, sBrk, sCnt, sNever, sSet, gN, gsN, gsC, gT, sAsg, sFor, wLc, iL, iT, iS, iR1, iR2, iR3, iEn, iEnT, iZp, tYesP, axN, axR, axS, takeA, backA, callGo, wCall, wMethR, wMethS, wMake, mkGo, pFld, sFldSet, fStore, mAnd, mOr, mNot, mChain, wList, wListM, poN, poI, rSlc, rLenSet, rDGet, rDGet1, rDGet2, bDIn, wDnew, sPutL, sPutM, sDput, sApp, sAppP, pV, pF, Pu.pI, pK, startP, O.seq, O.d, fGet, List.lookup, O.nonB, isLst, ↓e_addI, ↓e_addS, ↓e_addL, ↓e_addT, ↓e_sub, ↓e_mulI, ↓e_mulS, ↓e_div, ↓e_mod, ↓e_pow, ↓e_lt, ↓e_le, ↓e_gt, ↓e_ge, ↓e_neg, ↓e_inS, ↓e_ixL, ↓e_ixRL, ↓e_ixRT, ↓e_ixS, ↓e_lenL, ↓e_lenRL, ↓e_lenRT, ↓e_lenS, ↓e_abs, ↓e_max, ↓e_min, ↓e_int1, ↓e_int1b, ↓e_sumL, ↓e_sumTu, ↓e_listRL, ↓e_listRT, ↓e_tupRL, ↓e_tupO, ↓e_slRL, ↓e_slRT, ↓e_slL, ↓e_eq, ↓e_isN, ↓e_inF, ↓map_ro, ↓map_int, fine_int, fine_bl, fine_non, fine_str, eqb_int, eqb_str, eqb_nil, fine_nil, ds_ro, sPut, O.put, O.put1, O.at, O.at1, fPut, -List.map_map, dSet, psi_are_gaps, hh, n2, n7, gl]
  refine .inr ⟨by omega, ok.gp, ?_⟩
  refine lc_pure 5 (fun _ => false) id _ _ _ rfl (by rw [sz, List.length_map]; have := ok.n7; simp; omega) (fun d hm Kn q => ?_) (fun d _ z => by cases z) ?_
  · obtain ⟨z, hz, rfl⟩ := List.mem_map.mp hm
    simp [endP, retTo, outs, exTo, rC, rV, r1, r2, rN, m1, m2, mN, arN, arC, amN, amC, rTup, mTup, rLst, mLst, wLst, mIf, bM, bR, bAnd, bOr, bNot, wMv, mFz, mR, wM, mW, onRo, onBl, rosL, sNil, sSeq, sExpr, sRet, sRetN, sIf, sBrk, sCnt, sNever, sSet, gN, gsN, gsC, gT, sAsg, sFor, wLc, iL, iT, iS, iR1, iR2, iR3, iEn, iEnT, iZp, tYesP, axN, axR, axS, takeA, backA, callGo, wCall, wMethR, wMethS, wMake, mkGo, pFld, sFldSet, fStore, mAnd, mOr, mNot, mChain, wList, wListM, poN, poI, rSlc, rLenSet, rDGet, rDGet1, rDGet2, bDIn, wDnew, sPutL, sPutM, sDput, sApp, sAppP, pV, pF, Pu.pI, pK, startP, O.seq, O.d, fGet, List.lookup, O.nonB, isLst, ↓e_addI, ↓e_addS, ↓e_addL, ↓e_addT, ↓e_sub, ↓e_mulI, ↓e_mulS, ↓e_div, ↓e_mod, ↓e_pow, ↓e_lt, ↓e_le, ↓e_gt, ↓e_ge, ↓e_neg, ↓e_inS, ↓e_ixL, ↓e_ixRL, ↓e_ixRT, ↓e_ixS, ↓e_lenL, ↓e_lenRL, ↓e_lenRT, ↓e_lenS, ↓e_abs, ↓e_max, ↓e_min, ↓e_int1, ↓e_int1b, ↓e_sumL, ↓e_sumTu, ↓e_listRL, ↓e_listRT, ↓e_tupRL, ↓e_tupO, ↓e_slRL, ↓e_slRT, ↓e_slL, ↓e_eq, ↓e_isN, ↓e_inF, ↓map_ro, ↓map_int, fine_int, fine_bl, fine_non, fine_str, eqb_int, eqb_str, eqb_nil, fine_nil, ds_ro, sPut, O.put, O.put1, O.at, O.at1, fPut, -List.map_map, psi_is_word]
    exact ⟨ok.wd z hz, q⟩
  · rw [filter_ff]
    simp [endP, retTo, outs, exTo, rC, rV, r1, r2, rN, m1, m2, mN, arN, arC, amN, amC, rTup, mTup, rLst, mLst, wLst, mIf, bM, bR, bAnd, bOr, bNot, wMv, mFz, mR, wM, mW, onRo, onBl, rosL, sNil, sSeq, sExpr, sRet, sRetN, sIf, sBrk, sCnt, sNever, sSet, gN, gsN, gsC, gT, sAsg, sFor, wLc, iL, iT, iS, iR1, iR2, iR3, iEn, iEnT, iZp, tYesP, axN, axR, axS, takeA, backA, callGo, wCall, wMethR, wMethS, wMake, mkGo, pFld, sFldSet, fStore, mAnd, mOr, mNot, mChain, wList, wListM, poN, poI, rSlc, rLenSet, rDGet, rDGet1, rDGet2, bDIn, wDnew, sPutL, sPutM, sDput, sApp, sAppP, pV, pF, Pu.pI, pK, startP, O.seq, O.d, fGet, List.lookup, O.nonB, isLst, ↓e_addI, ↓e_addS, ↓e_addL, ↓e_addT, ↓e_sub, ↓e_mulI, ↓e_mulS, ↓e_div, ↓e_mod, ↓e_pow, ↓e_lt, ↓e_le, ↓e_gt, ↓e_ge, ↓e_neg, ↓e_inS, ↓e_ixL, ↓e_ixRL, ↓e_ixRT, ↓e_ixS, ↓e_lenL, ↓e_lenRL, ↓e_lenRT, ↓e_lenS, ↓e_abs, ↓e_max, ↓e_min, ↓e_int1, ↓e_int1b, ↓e_sumL, ↓e_sumTu, ↓e_listRL, ↓e_listRT, ↓e_tupRL, ↓e_tupO, ↓e_slRL, ↓e_slRT, ↓e_slL, ↓e_eq, ↓e_isN, ↓e_inF, ↓map_ro, ↓map_int, fine_int, fine_bl, fine_non, fine_str, eqb_int, eqb_str, eqb_nil, fine_nil, ds_ro, sPut, O.put, O.put1, O.at, O.at1, fPut, -List.map_map, hh, map_str]
    refine ⟨by unfold scanBound; omega, ?_⟩
    rw [if_pos (by rw [dd_nd ok.nd])]
    have := ok.s1
    have e : decide (step + (names.length : Int) ≤ (hs.length : Int)) = true := by simp; omega
    rw [e]
    exact .inr ⟨ok.s0, h⟩
def psi_is_rule : PSp := fun os Q _ => ∃ (fs : List (Str × O)) (ts : List D) (e : D), os = [.ins C fs, .ro e] ∧ fGet "told" fs = some (.ro (.lst ts)) ∧ OkRule ts.length e ∧ Q (.ro (.bl true)) os
theorem mo_is_rule : PMono (psi_is_rule C) := fun os Q1 Q2 E1 E2 h _ ⟨a, b, c, e, h1, h2, q⟩ => ⟨a, b, c, e, h1, h2, h _ _ q⟩
theorem pu_is_rule (os : List O) (Qp : O → List O → Prop) (Ep : PX) (hl : os.length = 2) (h : psi_is_rule C os Qp Ep) : t_School_is_rule C psi_is_word (endP [0] os Qp Ep) (startP 4 os) := by
  obtain ⟨fs, ts, e, rfl, hh, ok, h⟩ := h
  cases ok with
  | over a1 a2 b1 b2 ne =>
    simp [t_School_is_rule, endP, retTo, outs, exTo, rC, rV, r1, r2, rN, m1, m2, mN, arN, arC, amN, amC, rTup, mTup, rLst, mLst, wLst, mIf, bM, bR, bAnd, bOr, bNot, wMv, mFz, mR, wM, mW, onRo, onBl, rosL, sNil, sSeq, sExpr, sRet, sRetN, sIf, sBrk, sCnt, sNever, sSet, gN, gsN, gsC, gT, sAsg, sFor, wLc, iL, iT, iS, iR1, iR2, iR3, iEn, iEnT, iZp, tYesP, axN, axR, axS, takeA, backA, callGo, wCall, wMethR, wMethS, wMake, mkGo, pFld, sFldSet, fStore, mAnd, mOr, mNot, mChain, wList, wListM, poN, poI, rSlc, rLenSet, rDGet, rDGet1, rDGet2, bDIn, wDnew, sPutL, sPutM, sDput, sApp, sAppP, pV, pF, Pu.pI, pK, startP, O.seq, O.d, fGet, List.lookup, O.nonB, isLst, ↓e_addI, ↓e_addS, ↓e_addL, ↓e_addT, ↓e_sub, ↓e_mulI, ↓e_mulS, ↓e_div, ↓e_mod, ↓e_pow, ↓e_lt, ↓e_le, ↓e_gt, ↓e_ge, ↓e_neg, ↓e_inS, ↓e_ixL, ↓e_ixRL, ↓e_ixRT, ↓e_ixS, ↓e_lenL, ↓e_lenRL, ↓e_lenRT, ↓e_lenS, ↓e_abs, ↓e_max, ↓e_min, ↓e_int1, ↓e_int1b, ↓e_sumL, ↓e_sumTu, ↓e_listRL, ↓e_listRT, ↓e_tupRL, ↓e_tupO, ↓e_slRL, ↓e_slRT, ↓e_slL, ↓e_eq, ↓e_isN, ↓e_inF, ↓map_ro, ↓map_int, fine_int, fine_bl, fine_non, fine_str, eqb_int, eqb_str, eqb_nil, fine_nil, ds_ro, sPut, O.put, O.put1, O.at, O.at1, fPut, -List.map_map, psi_is_word, atI, ixN, D.flat, D.feq, s_oa, s_ob, s_ao, s_oo, s_ok1, s_ok2, s_ok3, s_x1, s_x2, cut, HT.sIx, hh]
    refine ⟨by rw [sz]; decide, .inr ⟨by assumption, ?_⟩⟩
    rename_i a b
    refine lc_pure 2 (fun _ => false) id _ _ _ rfl (by rw [sz]; simp) (fun d hm Kn q => ?_) (fun d _ z => by cases z) ?_
    · have : d = .int a ∨ d = .int b := by simpa using hm
      rcases this with rfl | rfl <;> simp [endP, retTo, outs, exTo, rC, rV, r1, r2, rN, m1, m2, mN, arN, arC, amN, amC, rTup, mTup, rLst, mLst, wLst, mIf, bM, bR, bAnd, bOr, bNot, wMv, mFz, mR, wM, mW, onRo, onBl, rosL, sNil, sSeq, sExpr, sRet, sRetN, sIf, sBrk, sCnt, sNever, sSet, gN, gsN, gsC, gT, sAsg, sFor, wLc, iL, iT, iS, iR1, iR2, iR3, iEn, iEnT, iZp, tYesP, axN, axR, axS, takeA, backA, callGo, wCall, wMethR, wMethS, wMake, mkGo, pFld, sFldSet, fStore, mAnd, mOr, mNot, mChain, wList, wListM, poN, poI, rSlc, rLenSet, rDGet, rDGet1, rDGet2, bDIn, wDnew, sPutL, sPutM, sDput, sApp, sAppP, pV, pF, Pu.pI, pK, startP, O.seq, O.d, fGet, List.lookup, O.nonB, isLst, ↓e_addI, ↓e_addS, ↓e_addL, ↓e_addT, ↓e_sub, ↓e_mulI, ↓e_mulS, ↓e_div, ↓e_mod, ↓e_pow, ↓e_lt, ↓e_le, ↓e_gt, ↓e_ge, ↓e_neg, ↓e_inS, ↓e_ixL, ↓e_ixRL, ↓e_ixRT, ↓e_ixS, ↓e_lenL, ↓e_lenRL, ↓e_lenRT, ↓e_lenS, ↓e_abs, ↓e_max, ↓e_min, ↓e_int1, ↓e_int1b, ↓e_sumL, ↓e_sumTu, ↓e_listRL, ↓e_listRT, ↓e_tupRL, ↓e_tupO, ↓e_slRL, ↓e_slRT, ↓e_slL, ↓e_eq, ↓e_isN, ↓e_inF, ↓map_ro, ↓map_int, fine_int, fine_bl, fine_non, fine_str, eqb_int, eqb_str, eqb_nil, fine_nil, ds_ro, sPut, O.put, O.put1, O.at, O.at1, fPut, -List.map_map, hh, a1, a2, b1, b2] <;> exact q
    · rw [filter_ff]
      simp [endP, retTo, outs, exTo, rC, rV, r1, r2, rN, m1, m2, mN, arN, arC, amN, amC, rTup, mTup, rLst, mLst, wLst, mIf, bM, bR, bAnd, bOr, bNot, wMv, mFz, mR, wM, mW, onRo, onBl, rosL, sNil, sSeq, sExpr, sRet, sRetN, sIf, sBrk, sCnt, sNever, sSet, gN, gsN, gsC, gT, sAsg, sFor, wLc, iL, iT, iS, iR1, iR2, iR3, iEn, iEnT, iZp, tYesP, axN, axR, axS, takeA, backA, callGo, wCall, wMethR, wMethS, wMake, mkGo, pFld, sFldSet, fStore, mAnd, mOr, mNot, mChain, wList, wListM, poN, poI, rSlc, rLenSet, rDGet, rDGet1, rDGet2, bDIn, wDnew, sPutL, sPutM, sDput, sApp, sAppP, pV, pF, Pu.pI, pK, startP, O.seq, O.d, fGet, List.lookup, O.nonB, isLst, ↓e_addI, ↓e_addS, ↓e_addL, ↓e_addT, ↓e_sub, ↓e_mulI, ↓e_mulS, ↓e_div, ↓e_mod, ↓e_pow, ↓e_lt, ↓e_le, ↓e_gt, ↓e_ge, ↓e_neg, ↓e_inS, ↓e_ixL, ↓e_ixRL, ↓e_ixRT, ↓e_ixS, ↓e_lenL, ↓e_lenRL, ↓e_lenRT, ↓e_lenS, ↓e_abs, ↓e_max, ↓e_min, ↓e_int1, ↓e_int1b, ↓e_sumL, ↓e_sumTu, ↓e_listRL, ↓e_listRT, ↓e_tupRL, ↓e_tupO, ↓e_slRL, ↓e_slRT, ↓e_slL, ↓e_eq, ↓e_isN, ↓e_inF, ↓map_ro, ↓map_int, fine_int, fine_bl, fine_non, fine_str, eqb_int, eqb_str, eqb_nil, fine_nil, ds_ro, sPut, O.put, O.put1, O.at, O.at1, fPut, -List.map_map]
      exact h
  | at' w =>
    rename_i z
    simp [t_School_is_rule, endP, retTo, outs, exTo, rC, rV, r1, r2, rN, m1, m2, mN, arN, arC, amN, amC, rTup, mTup, rLst, mLst, wLst, mIf, bM, bR, bAnd, bOr, bNot, wMv, mFz, mR, wM, mW, onRo, onBl, rosL, sNil, sSeq, sExpr, sRet, sRetN, sIf, sBrk, sCnt, sNever, sSet, gN, gsN, gsC, gT, sAsg, sFor, wLc, iL, iT, iS, iR1, iR2, iR3, iEn, iEnT, iZp, tYesP, axN, axR, axS, takeA, backA, callGo, wCall, wMethR, wMethS, wMake, mkGo, pFld, sFldSet, fStore, mAnd, mOr, mNot, mChain, wList, wListM, poN, poI, rSlc, rLenSet, rDGet, rDGet1, rDGet2, bDIn, wDnew, sPutL, sPutM, sDput, sApp, sAppP, pV, pF, Pu.pI, pK, startP, O.seq, O.d, fGet, List.lookup, O.nonB, isLst, ↓e_addI, ↓e_addS, ↓e_addL, ↓e_addT, ↓e_sub, ↓e_mulI, ↓e_mulS, ↓e_div, ↓e_mod, ↓e_pow, ↓e_lt, ↓e_le, ↓e_gt, ↓e_ge, ↓e_neg, ↓e_inS, ↓e_ixL, ↓e_ixRL, ↓e_ixRT, ↓e_ixS, ↓e_lenL, ↓e_lenRL, ↓e_lenRT, ↓e_lenS, ↓e_abs, ↓e_max, ↓e_min, ↓e_int1, ↓e_int1b, ↓e_sumL, ↓e_sumTu, ↓e_listRL, ↓e_listRT, ↓e_tupRL, ↓e_tupO, ↓e_slRL, ↓e_slRT, ↓e_slL, ↓e_eq, ↓e_isN, ↓e_inF, ↓map_ro, ↓map_int, fine_int, fine_bl, fine_non, fine_str, eqb_int, eqb_str, eqb_nil, fine_nil, ds_ro, sPut, O.put, O.put1, O.at, O.at1, fPut, -List.map_map, psi_is_word, atI, ixN, D.flat, D.feq, s_oa, s_ob, s_ao, s_oo, s_ok1, s_ok2, s_ok3, s_x1, s_x2, cut, HT.sIx, hh]
    refine ⟨by rw [sz]; decide, ?_⟩
    refine lc_pure 3 (fun _ => false) id _ _ _ rfl (by rw [sz]; simp) (fun d hm Kn q => ?_) (fun d _ z => by cases z) ?_
    · have : d = .str z := by simpa using hm
      subst this
      simp [endP, retTo, outs, exTo, rC, rV, r1, r2, rN, m1, m2, mN, arN, arC, amN, amC, rTup, mTup, rLst, mLst, wLst, mIf, bM, bR, bAnd, bOr, bNot, wMv, mFz, mR, wM, mW, onRo, onBl, rosL, sNil, sSeq, sExpr, sRet, sRetN, sIf, sBrk, sCnt, sNever, sSet, gN, gsN, gsC, gT, sAsg, sFor, wLc, iL, iT, iS, iR1, iR2, iR3, iEn, iEnT, iZp, tYesP, axN, axR, axS, takeA, backA, callGo, wCall, wMethR, wMethS, wMake, mkGo, pFld, sFldSet, fStore, mAnd, mOr, mNot, mChain, wList, wListM, poN, poI, rSlc, rLenSet, rDGet, rDGet1, rDGet2, bDIn, wDnew, sPutL, sPutM, sDput, sApp, sAppP, pV, pF, Pu.pI, pK, startP, O.seq, O.d, fGet, List.lookup, O.nonB, isLst, ↓e_addI, ↓e_addS, ↓e_addL, ↓e_addT, ↓e_sub, ↓e_mulI, ↓e_mulS, ↓e_div, ↓e_mod, ↓e_pow, ↓e_lt, ↓e_le, ↓e_gt, ↓e_ge, ↓e_neg, ↓e_inS, ↓e_ixL, ↓e_ixRL, ↓e_ixRT, ↓e_ixS, ↓e_lenL, ↓e_lenRL, ↓e_lenRT, ↓e_lenS, ↓e_abs, ↓e_max, ↓e_min, ↓e_int1, ↓e_int1b, ↓e_sumL, ↓e_sumTu, ↓e_listRL, ↓e_listRT, ↓e_tupRL, ↓e_tupO, ↓e_slRL, ↓e_slRT, ↓e_slL, ↓e_eq, ↓e_isN, ↓e_inF, ↓map_ro, ↓map_int, fine_int, fine_bl, fine_non, fine_str, eqb_int, eqb_str, eqb_nil, fine_nil, ds_ro, sPut, O.put, O.put1, O.at, O.at1, fPut, -List.map_map, psi_is_word]
      exact ⟨w, q⟩
    · rw [filter_ff]
      simp [endP, retTo, outs, exTo, rC, rV, r1, r2, rN, m1, m2, mN, arN, arC, amN, amC, rTup, mTup, rLst, mLst, wLst, mIf, bM, bR, bAnd, bOr, bNot, wMv, mFz, mR, wM, mW, onRo, onBl, rosL, sNil, sSeq, sExpr, sRet, sRetN, sIf, sBrk, sCnt, sNever, sSet, gN, gsN, gsC, gT, sAsg, sFor, wLc, iL, iT, iS, iR1, iR2, iR3, iEn, iEnT, iZp, tYesP, axN, axR, axS, takeA, backA, callGo, wCall, wMethR, wMethS, wMake, mkGo, pFld, sFldSet, fStore, mAnd, mOr, mNot, mChain, wList, wListM, poN, poI, rSlc, rLenSet, rDGet, rDGet1, rDGet2, bDIn, wDnew, sPutL, sPutM, sDput, sApp, sAppP, pV, pF, Pu.pI, pK, startP, O.seq, O.d, fGet, List.lookup, O.nonB, isLst, ↓e_addI, ↓e_addS, ↓e_addL, ↓e_addT, ↓e_sub, ↓e_mulI, ↓e_mulS, ↓e_div, ↓e_mod, ↓e_pow, ↓e_lt, ↓e_le, ↓e_gt, ↓e_ge, ↓e_neg, ↓e_inS, ↓e_ixL, ↓e_ixRL, ↓e_ixRT, ↓e_ixS, ↓e_lenL, ↓e_lenRL, ↓e_lenRT, ↓e_lenS, ↓e_abs, ↓e_max, ↓e_min, ↓e_int1, ↓e_int1b, ↓e_sumL, ↓e_sumTu, ↓e_listRL, ↓e_listRT, ↓e_tupRL, ↓e_tupO, ↓e_slRL, ↓e_slRT, ↓e_slL, ↓e_eq, ↓e_isN, ↓e_inF, ↓map_ro, ↓map_int, fine_int, fine_bl, fine_non, fine_str, eqb_int, eqb_str, eqb_nil, fine_nil, ds_ro, sPut, O.put, O.put1, O.at, O.at1, fPut, -List.map_map]
      exact h
  | beside w v =>
    rename_i z y
    simp [t_School_is_rule, endP, retTo, outs, exTo, rC, rV, r1, r2, rN, m1, m2, mN, arN, arC, amN, amC, rTup, mTup, rLst, mLst, wLst, mIf, bM, bR, bAnd, bOr, bNot, wMv, mFz, mR, wM, mW, onRo, onBl, rosL, sNil, sSeq, sExpr, sRet, sRetN, sIf, sBrk, sCnt, sNever, sSet, gN, gsN, gsC, gT, sAsg, sFor, wLc, iL, iT, iS, iR1, iR2, iR3, iEn, iEnT, iZp, tYesP, axN, axR, axS, takeA, backA, callGo, wCall, wMethR, wMethS, wMake, mkGo, pFld, sFldSet, fStore, mAnd, mOr, mNot, mChain, wList, wListM, poN, poI, rSlc, rLenSet, rDGet, rDGet1, rDGet2, bDIn, wDnew, sPutL, sPutM, sDput, sApp, sAppP, pV, pF, Pu.pI, pK, startP, O.seq, O.d, fGet, List.lookup, O.nonB, isLst, ↓e_addI, ↓e_addS, ↓e_addL, ↓e_addT, ↓e_sub, ↓e_mulI, ↓e_mulS, ↓e_div, ↓e_mod, ↓e_pow, ↓e_lt, ↓e_le, ↓e_gt, ↓e_ge, ↓e_neg, ↓e_inS, ↓e_ixL, ↓e_ixRL, ↓e_ixRT, ↓e_ixS, ↓e_lenL, ↓e_lenRL, ↓e_lenRT, ↓e_lenS, ↓e_abs, ↓e_max, ↓e_min, ↓e_int1, ↓e_int1b, ↓e_sumL, ↓e_sumTu, ↓e_listRL, ↓e_listRT, ↓e_tupRL, ↓e_tupO, ↓e_slRL, ↓e_slRT, ↓e_slL, ↓e_eq, ↓e_isN, ↓e_inF, ↓map_ro, ↓map_int, fine_int, fine_bl, fine_non, fine_str, eqb_int, eqb_str, eqb_nil, fine_nil, ds_ro, sPut, O.put, O.put1, O.at, O.at1, fPut, -List.map_map, psi_is_word, atI, ixN, D.flat, D.feq, s_oa, s_ob, s_ao, s_oo, s_ok1, s_ok2, s_ok3, s_x1, s_x2, cut, HT.sIx, hh]
    refine ⟨by rw [sz]; decide, ?_⟩
    refine lc_pure 3 (fun _ => false) id _ _ _ rfl (by rw [sz]; simp) (fun d hm Kn q => ?_) (fun d _ z => by cases z) ?_
    · have : d = .str z ∨ d = .str y := by simpa using hm
      rcases this with rfl | rfl
      · simp [endP, retTo, outs, exTo, rC, rV, r1, r2, rN, m1, m2, mN, arN, arC, amN, amC, rTup, mTup, rLst, mLst, wLst, mIf, bM, bR, bAnd, bOr, bNot, wMv, mFz, mR, wM, mW, onRo, onBl, rosL, sNil, sSeq, sExpr, sRet, sRetN, sIf, sBrk, sCnt, sNever, sSet, gN, gsN, gsC, gT, sAsg, sFor, wLc, iL, iT, iS, iR1, iR2, iR3, iEn, iEnT, iZp, tYesP, axN, axR, axS, takeA, backA, callGo, wCall, wMethR, wMethS, wMake, mkGo, pFld, sFldSet, fStore, mAnd, mOr, mNot, mChain, wList, wListM, poN, poI, rSlc, rLenSet, rDGet, rDGet1, rDGet2, bDIn, wDnew, sPutL, sPutM, sDput, sApp, sAppP, pV, pF, Pu.pI, pK, startP, O.seq, O.d, fGet, List.lookup, O.nonB, isLst, ↓e_addI, ↓e_addS, ↓e_addL, ↓e_addT, ↓e_sub, ↓e_mulI, ↓e_mulS, ↓e_div, ↓e_mod, ↓e_pow, ↓e_lt, ↓e_le, ↓e_gt, ↓e_ge, ↓e_neg, ↓e_inS, ↓e_ixL, ↓e_ixRL, ↓e_ixRT, ↓e_ixS, ↓e_lenL, ↓e_lenRL, ↓e_lenRT, ↓e_lenS, ↓e_abs, ↓e_max, ↓e_min, ↓e_int1, ↓e_int1b, ↓e_sumL, ↓e_sumTu, ↓e_listRL, ↓e_listRT, ↓e_tupRL, ↓e_tupO, ↓e_slRL, ↓e_slRT, ↓e_slL, ↓e_eq, ↓e_isN, ↓e_inF, ↓map_ro, ↓map_int, fine_int, fine_bl, fine_non, fine_str, eqb_int, eqb_str, eqb_nil, fine_nil, ds_ro, sPut, O.put, O.put1, O.at, O.at1, fPut, -List.map_map, psi_is_word]
        exact ⟨w, q⟩
      · simp [endP, retTo, outs, exTo, rC, rV, r1, r2, rN, m1, m2, mN, arN, arC, amN, amC, rTup, mTup, rLst, mLst, wLst, mIf, bM, bR, bAnd, bOr, bNot, wMv, mFz, mR, wM, mW, onRo, onBl, rosL, sNil, sSeq, sExpr, sRet, sRetN, sIf, sBrk, sCnt, sNever, sSet, gN, gsN, gsC, gT, sAsg, sFor, wLc, iL, iT, iS, iR1, iR2, iR3, iEn, iEnT, iZp, tYesP, axN, axR, axS, takeA, backA, callGo, wCall, wMethR, wMethS, wMake, mkGo, pFld, sFldSet, fStore, mAnd, mOr, mNot, mChain, wList, wListM, poN, poI, rSlc, rLenSet, rDGet, rDGet1, rDGet2, bDIn, wDnew, sPutL, sPutM, sDput, sApp, sAppP, pV, pF, Pu.pI, pK, startP, O.seq, O.d, fGet, List.lookup, O.nonB, isLst, ↓e_addI, ↓e_addS, ↓e_addL, ↓e_addT, ↓e_sub, ↓e_mulI, ↓e_mulS, ↓e_div, ↓e_mod, ↓e_pow, ↓e_lt, ↓e_le, ↓e_gt, ↓e_ge, ↓e_neg, ↓e_inS, ↓e_ixL, ↓e_ixRL, ↓e_ixRT, ↓e_ixS, ↓e_lenL, ↓e_lenRL, ↓e_lenRT, ↓e_lenS, ↓e_abs, ↓e_max, ↓e_min, ↓e_int1, ↓e_int1b, ↓e_sumL, ↓e_sumTu, ↓e_listRL, ↓e_listRT, ↓e_tupRL, ↓e_tupO, ↓e_slRL, ↓e_slRT, ↓e_slL, ↓e_eq, ↓e_isN, ↓e_inF, ↓map_ro, ↓map_int, fine_int, fine_bl, fine_non, fine_str, eqb_int, eqb_str, eqb_nil, fine_nil, ds_ro, sPut, O.put, O.put1, O.at, O.at1, fPut, -List.map_map, psi_is_word]
        exact ⟨v, q⟩
    · rw [filter_ff]
      simp [endP, retTo, outs, exTo, rC, rV, r1, r2, rN, m1, m2, mN, arN, arC, amN, amC, rTup, mTup, rLst, mLst, wLst, mIf, bM, bR, bAnd, bOr, bNot, wMv, mFz, mR, wM, mW, onRo, onBl, rosL, sNil, sSeq, sExpr, sRet, sRetN, sIf, sBrk, sCnt, sNever, sSet, gN, gsN, gsC, gT, sAsg, sFor, wLc, iL, iT, iS, iR1, iR2, iR3, iEn, iEnT, iZp, tYesP, axN, axR, axS, takeA, backA, callGo, wCall, wMethR, wMethS, wMake, mkGo, pFld, sFldSet, fStore, mAnd, mOr, mNot, mChain, wList, wListM, poN, poI, rSlc, rLenSet, rDGet, rDGet1, rDGet2, bDIn, wDnew, sPutL, sPutM, sDput, sApp, sAppP, pV, pF, Pu.pI, pK, startP, O.seq, O.d, fGet, List.lookup, O.nonB, isLst, ↓e_addI, ↓e_addS, ↓e_addL, ↓e_addT, ↓e_sub, ↓e_mulI, ↓e_mulS, ↓e_div, ↓e_mod, ↓e_pow, ↓e_lt, ↓e_le, ↓e_gt, ↓e_ge, ↓e_neg, ↓e_inS, ↓e_ixL, ↓e_ixRL, ↓e_ixRT, ↓e_ixS, ↓e_lenL, ↓e_lenRL, ↓e_lenRT, ↓e_lenS, ↓e_abs, ↓e_max, ↓e_min, ↓e_int1, ↓e_int1b, ↓e_sumL, ↓e_sumTu, ↓e_listRL, ↓e_listRT, ↓e_tupRL, ↓e_tupO, ↓e_slRL, ↓e_slRT, ↓e_slL, ↓e_eq, ↓e_isN, ↓e_inF, ↓map_ro, ↓map_int, fine_int, fine_bl, fine_non, fine_str, eqb_int, eqb_str, eqb_nil, fine_nil, ds_ro, sPut, O.put, O.put1, O.at, O.at1, fPut, -List.map_map]
      exact h
end Sp
end
section
open PySem PySem.W PySem.Spec PyProof.Rows L2 Pu Rd
set_option Elab.async false
set_option linter.all false
set_option maxRecDepth 100000
set_option maxHeartbeats 4000000
namespace Sp
/-! ### tables -/
def hAt (lad : List Int) (i : Nat) : Int := (lad.take i).sum
def hts (lad : List Int) : List Int := (List.range (lad.length + 1)).map (hAt lad)
theorem hts_at {α : Type} (f : Int → α) {lad : List Int} {i : Nat} (h : i ≤ lad.length) : atI ((hts lad).map f) (i : Int) = some (f (hAt lad i)) := by
  have hl : (hts lad).length = lad.length + 1 := by simp [hts]
  unfold atI ixN
  rw [List.length_map, hl, if_pos (by omega), if_pos (by omega)]
  simp [hts, h, Nat.lt_succ_of_le h]
theorem kGet_none {k : D} : ∀ kvs : List (D × O), k ∉ kvs.map (·.1) → kGet k kvs = none
  | [], _ => rfl
  | (g, o) :: r, h => by
    unfold kGet
    rw [if_neg (fun z => h (by rw [z]; exact List.mem_cons_self))]
    exact kGet_none r fun z => h (List.mem_cons_of_mem _ z)
theorem ats {α : Type} (f : Int → α) {gs : List Int} {i : Nat} {g : Int} (h : gs[i]? = some g) : atI (gs.map f) (i : Int) = some (f g) := by
  have hi := (List.getElem?_eq_some_iff.mp h).1
  unfold atI ixN
  rw [List.length_map, if_pos (by omega), if_pos (by omega)]
  simp [h]
def hK (lad : List Int) (step : Nat) (gaps : List Int) (k : Nat) : Int := hAt lad step + (gaps.take k).sum
def ent (lad : List Int) (step : Nat) (names : List Str) (gaps : List Int) (i : Nat) : D × O :=
  (.tup [.int ((step + i : Nat) : Int), .int (hK lad step gaps i - hAt lad (step + i))], .ro (.str (names.getD i Str.empty)))
def tab (lad : List Int) (step : Nat) (names : List Str) (gaps : List Int) (k : Nat) : List (D × O) := (List.range k).map (ent lad step names gaps)
theorem tab_succ {lad : List Int} {step : Nat} {names : List Str} {gaps : List Int} {k : Nat} {z : Str} (hz : names[k]? = some z) :
    kPut (.tup [.int ((step : Int) + (k : Int)), .int (hK lad step gaps k - hAt lad (step + k))]) (.ro (.str z)) (tab lad step names gaps k) = tab lad step names gaps (k + 1) := by
  have e : names.getD k Str.empty = z := by simp [List.getD, hz]
  rw [(kPut_new (kGet_none _ ?_)).1]
  · simp only [tab, List.range_succ, List.map_append, List.map_cons, List.map_nil, ent, e]
    simp
  · intro hm
    simp only [tab, List.map_map, List.mem_map, List.mem_range, Function.comp, ent] at hm
    obtain ⟨i, hi, he⟩ := hm
    injection he with he
    injection he with he
    injection he with he
    omega
variable (C : Addr)
def psi_table : PSp := fun os Q _ => ∃ (fs : List (Str × O)) (lad : List Int) (step : Nat) (names : List Str) (gaps : List Int), os = [.ins C fs, .ro (dSet step names gaps)] ∧ fGet "heights" fs = some (.lst ((hts lad).map fun h => .ro (.int h))) ∧ OkSet lad.length step names gaps ∧
  Q (.dct 1 (tab lad step names gaps names.length)) os
theorem mo_table : PMono (psi_table C) := fun os Q1 Q2 E1 E2 h _ ⟨a, b, c, d, e, h1, h2, h3, q⟩ => ⟨a, b, c, d, e, h1, h2, h3, h _ _ q⟩
theorem hK_succ {lad : List Int} {step : Nat} {gaps : List Int} {k : Nat} {g : Int} (h : gaps[k]? = some g) : hK lad step gaps (k + 1) = hK lad step gaps k + g := by
  unfold hK
  rw [List.take_succ, h]
  simp
  omega
theorem enD_drop {names : List Str} {k : Nat} {d : D} {rest : List D} (h : enD k ((names.drop k).map D.str) = d :: rest) : ∃ z, names[k]? = some z ∧ d = .tup [.int (k : Int), .str z] ∧ rest = enD (k + 1) ((names.drop (k + 1)).map D.str) := by
  cases e : names[k]? with
  | none =>
    have : names.length ≤ k := List.getElem?_eq_none_iff.mp e
    rw [List.drop_eq_nil_of_le this] at h
    cases h
  | some z =>
    have hk : k < names.length := (List.getElem?_eq_some_iff.mp e).1
    have ez : names[k] = z := (List.getElem?_eq_some_iff.mp e).2
    rw [List.drop_eq_getElem_cons hk, ez] at h
    injection h with h1 h2
    exact ⟨z, rfl, h1.symm, h2.symm⟩
theorem pu_table (os : List O) (Qp : O → List O → Prop) (Ep : PX) (hl : os.length = 2) (h : psi_table C os Qp Ep) : t_School_table_of C (endP [0] os Qp Ep) (startP 9 os) := by
  obtain ⟨fs, lad, step, names, gaps, rfl, hh, ok, h⟩ := h
  have s1 := ok.s1
  have n2 := ok.n2
  have n7 := ok.n7
  have gl := ok.gl
  simp [t_School_table_of, endP, retTo, outs, exTo, rC, rV, r1, r2, rN, m1, m2, mN, arN, arC, amN, amC, rTup, mTup, rLst, mLst, wLst, mIf, bM, bR, bAnd, bOr, bNot, wMv, mFz, mR, wM, mW, onRo, onBl, rosL, sNil, sSeq, sExpr, sRet, sRetN, sIf, sBrk, sCnt, sNever, sSet, gN, gsN, gsC, gT, sAsg, sFor, wLc, iL, iT, iS, iR1, iR2, iR3, iEn, iEnT, iZp, tYesP, axN, axR, axS, takeA, backA, callGo, wCall, wMethR, wMethS, wMake, mkGo, pFld, sFldSet, fStore, mAnd, mOr, mNot, mChain, wList, wListM, poN, poI, rSlc, rLenSet, rDGet, rDGet1, rDGet2, bDIn, wDnew, sPutL, sPutM, sDput, sApp, sAppP, pV, pF, Pu.pI, pK, startP, O.seq, O.d, fGet, List.lookup, O.nonB, isLst, ↓e_addI, ↓e_addS, ↓e_addL, ↓e_addT, ↓e_sub, ↓e_mulI, ↓e_mulS, ↓e_div, ↓e_mod, ↓e_pow, ↓e_lt, ↓e_le, ↓e_gt, ↓e_ge, ↓e_neg, ↓e_inS, ↓e_ixL, ↓e_ixRL, ↓e_ixRT, ↓e_ixS, ↓e_lenL, ↓e_lenRL, ↓e_lenRT, ↓e_lenS, ↓e_abs, ↓e_max, ↓e_min, ↓e_int1, ↓e_int1b, ↓e_sumL, ↓e_sumTu, ↓e_listRL, ↓e_listRT, ↓e_tupRL, ↓e_tupO, ↓e_slRL, ↓e_slRT, ↓e_slL, ↓e_eq, ↓e_isN, ↓e_inF, ↓map_ro, ↓map_int, fine_int, fine_bl, fine_non, fine_str, eqb_int, eqb_str, eqb_nil, fine_nil, ds_ro, sPut, O.put, O.put1, O.at, O.at1, fPut, -List.map_map, dSet, hh]
  rw [hts_at (f := fun h => O.ro (D.int h)) (by omega)]
  simp only []
  refine for_ind (fun rest sg => ∃ (k : Nat) (x7 x8 : Option O), k ≤ names.length ∧ rest = enD k ((names.drop k).map D.str) ∧ sg = [some (.ins C fs), some (.ro (dSet step names gaps)), some (.ro (.int step)), some (.ro (.tup (names.map D.str))), some (.ro (.tup (gaps.map D.int))), some (.dct 1 (tab lad step names gaps k)), some (.ro (.int (hK lad step gaps (k - 1)))), x7, x8]) (fun sg hI => ?_) (fun d rest sg Kn hI hk => ?_) _ _ ⟨0, none, none, Nat.zero_le _, by simp, by simp [dSet, tab, hK]⟩
  · obtain ⟨k, x7, x8, hle, hr, rfl⟩ := hI
    have hkn : names.length ≤ k := by
      cases e : (names.drop k).map D.str with
      | nil => simpa using e
      | cons a r => rw [e] at hr; cases hr
    have : k = names.length := by omega
    subst this
    simp [endP, retTo, outs, exTo, rC, rV, r1, r2, rN, m1, m2, mN, arN, arC, amN, amC, rTup, mTup, rLst, mLst, wLst, mIf, bM, bR, bAnd, bOr, bNot, wMv, mFz, mR, wM, mW, onRo, onBl, rosL, sNil, sSeq, sExpr, sRet, sRetN, sIf, sBrk, sCnt, sNever, sSet, gN, gsN, gsC, gT, sAsg, sFor, wLc, iL, iT, iS, iR1, iR2, iR3, iEn, iEnT, iZp, tYesP, axN, axR, axS, takeA, backA, callGo, wCall, wMethR, wMethS, wMake, mkGo, pFld, sFldSet, fStore, mAnd, mOr, mNot, mChain, wList, wListM, poN, poI, rSlc, rLenSet, rDGet, rDGet1, rDGet2, bDIn, wDnew, sPutL, sPutM, sDput, sApp, sAppP, pV, pF, Pu.pI, pK, startP, O.seq, O.d, fGet, List.lookup, O.nonB, isLst, ↓e_addI, ↓e_addS, ↓e_addL, ↓e_addT, ↓e_sub, ↓e_mulI, ↓e_mulS, ↓e_div, ↓e_mod, ↓e_pow, ↓e_lt, ↓e_le, ↓e_gt, ↓e_ge, ↓e_neg, ↓e_inS, ↓e_ixL, ↓e_ixRL, ↓e_ixRT, ↓e_ixS, ↓e_lenL, ↓e_lenRL, ↓e_lenRT, ↓e_lenS, ↓e_abs, ↓e_max, ↓e_min, ↓e_int1, ↓e_int1b, ↓e_sumL, ↓e_sumTu, ↓e_listRL, ↓e_listRT, ↓e_tupRL, ↓e_tupO, ↓e_slRL, ↓e_slRT, ↓e_slL, ↓e_eq, ↓e_isN, ↓e_inF, ↓map_ro, ↓map_int, fine_int, fine_bl, fine_non, fine_str, eqb_int, eqb_str, eqb_nil, fine_nil, ds_ro, sPut, O.put, O.put1, O.at, O.at1, fPut, -List.map_map]
    exact h
  · obtain ⟨k, x7, x8, hle, hr, rfl⟩ := hI
    obtain ⟨z, hz, rfl, rfl⟩ := enD_drop hr.symm
    have hkn : k < names.length := (List.getElem?_eq_some_iff.mp hz).1
    simp [endP, retTo, outs, exTo, rC, rV, r1, r2, rN, m1, m2, mN, arN, arC, amN, amC, rTup, mTup, rLst, mLst, wLst, mIf, bM, bR, bAnd, bOr, bNot, wMv, mFz, mR, wM, mW, onRo, onBl, rosL, sNil, sSeq, sExpr, sRet, sRetN, sIf, sBrk, sCnt, sNever, sSet, gN, gsN, gsC, gT, sAsg, sFor, wLc, iL, iT, iS, iR1, iR2, iR3, iEn, iEnT, iZp, tYesP, axN, axR, axS, takeA, backA, callGo, wCall, wMethR, wMethS, wMake, mkGo, pFld, sFldSet, fStore, mAnd, mOr, mNot, mChain, wList, wListM, poN, poI, rSlc, rLenSet, rDGet, rDGet1, rDGet2, bDIn, wDnew, sPutL, sPutM, sDput, sApp, sAppP, pV, pF, Pu.pI, pK, startP, O.seq, O.d, fGet, List.lookup, O.nonB, isLst, ↓e_addI, ↓e_addS, ↓e_addL, ↓e_addT, ↓e_sub, ↓e_mulI, ↓e_mulS, ↓e_div, ↓e_mod, ↓e_pow, ↓e_lt, ↓e_le, ↓e_gt, ↓e_ge, ↓e_neg, ↓e_inS, ↓e_ixL, ↓e_ixRL, ↓e_ixRT, ↓e_ixS, ↓e_lenL, ↓e_lenRL, ↓e_lenRT, ↓e_lenS, ↓e_abs, ↓e_max, ↓e_min, ↓e_int1, ↓e_int1b, ↓e_sumL, ↓e_sumTu, ↓e_listRL, ↓e_listRT, ↓e_tupRL, ↓e_tupO, ↓e_slRL, ↓e_slRT, ↓e_slL, ↓e_eq, ↓e_isN, ↓e_inF, ↓map_ro, ↓map_int, fine_int, fine_bl, fine_non, fine_str, eqb_int, eqb_str, eqb_nil, fine_nil, ds_ro, sPut, O.put, O.put1, O.at, O.at1, fPut, -List.map_map, hh, dSet]
    have e1 := hts_at (lad := lad) (i := step + k) (fun h => O.ro (D.int h)) (by omega)
    rw [show ((step + k : Nat) : Int) = (step : Int) + (k : Int) by omega] at e1
    have tl : (tab lad step names gaps k).length < sizeLine := by simp [tab]; rw [sz]; omega
    by_cases h0 : 0 < k
    · rw [if_pos h0]
      obtain ⟨j, rfl⟩ : ∃ j, k = j + 1 := ⟨k - 1, by omega⟩
      have hj : j < gaps.length := by omega
      have e2 := ats (gs := gaps) (i := j) D.int (List.getElem?_eq_getElem hj)
      rw [show ((j + 1 : Nat) : Int) - 1 = (j : Int) by omega, e2]
      simp only [endP, retTo, outs, exTo, rC, rV, r1, r2, rN, m1, m2, mN, arN, arC, amN, amC, rTup, mTup, rLst, mLst, wLst, mIf, bM, bR, bAnd, bOr, bNot, wMv, mFz, mR, wM, mW, onRo, onBl, rosL, sNil, sSeq, sExpr, sRet, sRetN, sIf, sBrk, sCnt, sNever, sSet, gN, gsN, gsC, gT, sAsg, sFor, wLc, iL, iT, iS, iR1, iR2, iR3, iEn, iEnT, iZp, tYesP, axN, axR, axS, takeA, backA, callGo, wCall, wMethR, wMethS, wMake, mkGo, pFld, sFldSet, fStore, mAnd, mOr, mNot, mChain, wList, wListM, poN, poI, rSlc, rLenSet, rDGet, rDGet1, rDGet2, bDIn, wDnew, sPutL, sPutM, sDput, sApp, sAppP, pV, pF, Pu.pI, pK, startP, O.seq, O.d, fGet, List.lookup, O.nonB, isLst, ↓e_addI, ↓e_addS, ↓e_addL, ↓e_addT, ↓e_sub, ↓e_mulI, ↓e_mulS, ↓e_div, ↓e_mod, ↓e_pow, ↓e_lt, ↓e_le, ↓e_gt, ↓e_ge, ↓e_neg, ↓e_inS, ↓e_ixL, ↓e_ixRL, ↓e_ixRT, ↓e_ixS, ↓e_lenL, ↓e_lenRL, ↓e_lenRT, ↓e_lenS, ↓e_abs, ↓e_max, ↓e_min, ↓e_int1, ↓e_int1b, ↓e_sumL, ↓e_sumTu, ↓e_listRL, ↓e_listRT, ↓e_tupRL, ↓e_tupO, ↓e_slRL, ↓e_slRT, ↓e_slL, ↓e_eq, ↓e_isN, ↓e_inF, ↓map_ro, ↓map_int, fine_int, fine_bl, fine_non, fine_str, eqb_int, eqb_str, eqb_nil, fine_nil, ds_ro, sPut, O.put, O.put1, O.at, O.at1, fPut, -List.map_map, e1]
      refine ⟨by rw [sz]; decide, rfl, tl, hk _ ⟨j + 1 + 1, some (.ro (.int ((j + 1 : Nat) : Int))), some (.ro (.str z)), hkn, rfl, ?_⟩⟩
      have e3 := hK_succ (lad := lad) (step := step) (List.getElem?_eq_getElem hj)
      simp only [Nat.add_sub_cancel]
      rw [← e3, tab_succ hz]
      rfl
    · rw [if_neg h0]
      have : k = 0 := by omega
      subst this
      rw [e1]
      simp only [endP, retTo, outs, exTo, rC, rV, r1, r2, rN, m1, m2, mN, arN, arC, amN, amC, rTup, mTup, rLst, mLst, wLst, mIf, bM, bR, bAnd, bOr, bNot, wMv, mFz, mR, wM, mW, onRo, onBl, rosL, sNil, sSeq, sExpr, sRet, sRetN, sIf, sBrk, sCnt, sNever, sSet, gN, gsN, gsC, gT, sAsg, sFor, wLc, iL, iT, iS, iR1, iR2, iR3, iEn, iEnT, iZp, tYesP, axN, axR, axS, takeA, backA, callGo, wCall, wMethR, wMethS, wMake, mkGo, pFld, sFldSet, fStore, mAnd, mOr, mNot, mChain, wList, wListM, poN, poI, rSlc, rLenSet, rDGet, rDGet1, rDGet2, bDIn, wDnew, sPutL, sPutM, sDput, sApp, sAppP, pV, pF, Pu.pI, pK, startP, O.seq, O.d, fGet, List.lookup, O.nonB, isLst, ↓e_addI, ↓e_addS, ↓e_addL, ↓e_addT, ↓e_sub, ↓e_mulI, ↓e_mulS, ↓e_div, ↓e_mod, ↓e_pow, ↓e_lt, ↓e_le, ↓e_gt, ↓e_ge, ↓e_neg, ↓e_inS, ↓e_ixL, ↓e_ixRL, ↓e_ixRT, ↓e_ixS, ↓e_lenL, ↓e_lenRL, ↓e_lenRT, ↓e_lenS, ↓e_abs, ↓e_max, ↓e_min, ↓e_int1, ↓e_int1b, ↓e_sumL, ↓e_sumTu, ↓e_listRL, ↓e_listRT, ↓e_tupRL, ↓e_tupO, ↓e_slRL, ↓e_slRT, ↓e_slL, ↓e_eq, ↓e_isN, ↓e_inF, ↓map_ro, ↓map_int, fine_int, fine_bl, fine_non, fine_str, eqb_int, eqb_str, eqb_nil, fine_nil, ds_ro, sPut, O.put, O.put1, O.at, O.at1, fPut, -List.map_map]
      refine ⟨by rw [sz]; decide, rfl, tl, hk _ ⟨0 + 1, some (.ro (.int ((0 : Nat) : Int))), some (.ro (.str z)), hkn, rfl, ?_⟩⟩
      simp only [Nat.add_sub_cancel]
      rw [tab_succ hz]
      rfl
end Sp
end
section
open PySem PySem.W PySem.Spec PyProof.Rows L2 Pu Rd
set_option Elab.async false
set_option linter.all false
set_option maxRecDepth 100000
set_option maxHeartbeats 4000000
namespace Sp
/-! ### a school made -/
def tabD (lad : List Int) : D → D
  | .tup [.int s, .tup ns, .tup gs] => .dct 1 (O.dk (tab lad s.toNat (ns.map fun d => match d with | .str z => z | _ => Str.empty) (gs.map dInt) ns.length))
  | _ => .non
theorem f_gaps_heights : (Str.ofString "gaps" = Str.ofString "heights") = False := eq_false (by decide +kernel)
theorem f_gaps_told : (Str.ofString "gaps" = Str.ofString "told") = False := eq_false (by decide +kernel)
theorem f_gaps_tables : (Str.ofString "gaps" = Str.ofString "tables") = False := eq_false (by decide +kernel)
theorem f_gaps_kept : (Str.ofString "gaps" = Str.ofString "kept") = False := eq_false (by decide +kernel)
theorem f_heights_gaps : (Str.ofString "heights" = Str.ofString "gaps") = False := eq_false (by decide +kernel)
theorem f_heights_told : (Str.ofString "heights" = Str.ofString "told") = False := eq_false (by decide +kernel)
theorem f_heights_tables : (Str.ofString "heights" = Str.ofString "tables") = False := eq_false (by decide +kernel)
theorem f_heights_kept : (Str.ofString "heights" = Str.ofString "kept") = False := eq_false (by decide +kernel)
theorem f_told_gaps : (Str.ofString "told" = Str.ofString "gaps") = False := eq_false (by decide +kernel)
theorem f_told_heights : (Str.ofString "told" = Str.ofString "heights") = False := eq_false (by decide +kernel)
theorem f_told_tables : (Str.ofString "told" = Str.ofString "tables") = False := eq_false (by decide +kernel)
theorem f_told_kept : (Str.ofString "told" = Str.ofString "kept") = False := eq_false (by decide +kernel)
theorem f_tables_gaps : (Str.ofString "tables" = Str.ofString "gaps") = False := eq_false (by decide +kernel)
theorem f_tables_heights : (Str.ofString "tables" = Str.ofString "heights") = False := eq_false (by decide +kernel)
theorem f_tables_told : (Str.ofString "tables" = Str.ofString "told") = False := eq_false (by decide +kernel)
theorem f_tables_kept : (Str.ofString "tables" = Str.ofString "kept") = False := eq_false (by decide +kernel)
theorem f_kept_gaps : (Str.ofString "kept" = Str.ofString "gaps") = False := eq_false (by decide +kernel)
theorem f_kept_heights : (Str.ofString "kept" = Str.ofString "heights") = False := eq_false (by decide +kernel)
theorem f_kept_told : (Str.ofString "kept" = Str.ofString "told") = False := eq_false (by decide +kernel)
theorem f_kept_tables : (Str.ofString "kept" = Str.ofString "tables") = False := eq_false (by decide +kernel)
theorem f_is_set_gaps : (Str.ofString "is_set" = Str.ofString "gaps") = False := eq_false (by decide +kernel)
theorem f_is_set_heights : (Str.ofString "is_set" = Str.ofString "heights") = False := eq_false (by decide +kernel)
theorem f_is_set_told : (Str.ofString "is_set" = Str.ofString "told") = False := eq_false (by decide +kernel)
theorem f_is_set_tables : (Str.ofString "is_set" = Str.ofString "tables") = False := eq_false (by decide +kernel)
theorem f_is_set_kept : (Str.ofString "is_set" = Str.ofString "kept") = False := eq_false (by decide +kernel)
theorem f_is_rule_gaps : (Str.ofString "is_rule" = Str.ofString "gaps") = False := eq_false (by decide +kernel)
theorem f_is_rule_heights : (Str.ofString "is_rule" = Str.ofString "heights") = False := eq_false (by decide +kernel)
theorem f_is_rule_told : (Str.ofString "is_rule" = Str.ofString "told") = False := eq_false (by decide +kernel)
theorem f_is_rule_tables : (Str.ofString "is_rule" = Str.ofString "tables") = False := eq_false (by decide +kernel)
theorem f_is_rule_kept : (Str.ofString "is_rule" = Str.ofString "kept") = False := eq_false (by decide +kernel)
theorem f_table_of_gaps : (Str.ofString "table_of" = Str.ofString "gaps") = False := eq_false (by decide +kernel)
theorem f_table_of_heights : (Str.ofString "table_of" = Str.ofString "heights") = False := eq_false (by decide +kernel)
theorem f_table_of_told : (Str.ofString "table_of" = Str.ofString "told") = False := eq_false (by decide +kernel)
theorem f_table_of_tables : (Str.ofString "table_of" = Str.ofString "tables") = False := eq_false (by decide +kernel)
theorem f_table_of_kept : (Str.ofString "table_of" = Str.ofString "kept") = False := eq_false (by decide +kernel)
theorem f_named_gaps : (Str.ofString "named" = Str.ofString "gaps") = False := eq_false (by decide +kernel)
theorem f_named_heights : (Str.ofString "named" = Str.ofString "heights") = False := eq_false (by decide +kernel)
theorem f_named_told : (Str.ofString "named" = Str.ofString "told") = False := eq_false (by decide +kernel)
theorem f_named_tables : (Str.ofString "named" = Str.ofString "tables") = False := eq_false (by decide +kernel)
theorem f_named_kept : (Str.ofString "named" = Str.ofString "kept") = False := eq_false (by decide +kernel)
theorem atI_last {α : Type} (f : Nat → α) (k : Nat) : atI ((List.range (k + 1)).map f) (-1) = some (f k) := by
  unfold atI ixN
  rw [if_neg (by decide), List.length_map, List.length_range, if_pos (by omega)]
  have : (-1 + ((k + 1 : Nat) : Int)).toNat = k := by omega
  show ((List.range (k + 1)).map f)[(-1 + ((k + 1 : Nat) : Int)).toNat]? = _
  rw [this]
  simp
theorem hAt_succ {lad : List Int} {k : Nat} {g : Int} (h : lad[k]? = some g) : hAt lad (k + 1) = hAt lad k + g := by
  unfold hAt
  rw [List.take_succ, h]
  simp
variable (C : Addr)
def schF (lad : List Int) (sets rules : List D) : List (Str × O) :=
  [("gaps", .ro (dI lad)), ("heights", .lst ((hts lad).map fun h => .ro (.int h))), ("told", .ro (.lst sets)), ("tables", .ro (.lst (sets.map (tabD lad)))), ("kept", .ro (.lst rules))]
def psi_init : PSp := fun os Q _ => ∃ (lad : List Int) (sets rules : List D), os = [.ins C [], .ro (dI lad), .ro (.lst sets), .ro (.lst rules)] ∧ OkT lad sets rules ∧ Q (.ro .non) [.ins C (schF lad sets rules), .ro (dI lad), .ro (.lst sets), .ro (.lst rules)]
theorem mo_init : PMono (psi_init C) := fun os Q1 Q2 E1 E2 h _ ⟨a, b, c, e, h1, q⟩ => ⟨a, b, c, e, h1, h _ _ q⟩
theorem pu_init (os : List O) (Qp : O → List O → Prop) (Ep : PX) (hl : os.length = 4) (h : psi_init C os Qp Ep) : t_School_init psi_must psi_are_gaps C (psi_is_set C) (psi_table C) (psi_is_rule C) (endP [0] os Qp Ep) (startP 9 os) := by
  obtain ⟨lad, sets, rules, rfl, ok, h⟩ := h
  have l1 := ok.ld.l1
  have l2 := ok.ld.l2
  have a1 : (1 : Int) ≤ (lad.length : Int) := by omega
  have a2 : (lad.length : Int) ≤ 30 := by omega
  simp [t_School_init, endP, retTo, outs, exTo, rC, rV, r1, r2, rN, m1, m2, mN, arN, arC, amN, amC, rTup, mTup, rLst, mLst, wLst, mIf, bM, bR, bAnd, bOr, bNot, wMv, mFz, mR, wM, mW, onRo, onBl, rosL, sNil, sSeq, sExpr, sRet, sRetN, sIf, sBrk, sCnt, sNever, sSet, gN, gsN, gsC, gT, sAsg, sFor, wLc, iL, iT, iS, iR1, iR2, iR3, iEn, iEnT, iZp, tYesP, axN, axR, axS, takeA, backA, callGo, wCall, wMethR, wMethS, wMake, mkGo, pFld, sFldSet, fStore, mAnd, mOr, mNot, mChain, wList, wListM, poN, poI, rSlc, rLenSet, rDGet, rDGet1, rDGet2, bDIn, wDnew, sPutL, sPutM, sDput, sApp, sAppP, pV, pF, Pu.pI, pK, startP, O.seq, O.d, fGet, List.lookup, O.nonB, isLst, ↓e_addI, ↓e_addS, ↓e_addL, ↓e_addT, ↓e_sub, ↓e_mulI, ↓e_mulS, ↓e_div, ↓e_mod, ↓e_pow, ↓e_lt, ↓e_le, ↓e_gt, ↓e_ge, ↓e_neg, ↓e_inS, ↓e_ixL, ↓e_ixRL, ↓e_ixRT, ↓e_ixS, ↓e_lenL, ↓e_lenRL, ↓e_lenRT, ↓e_lenS, ↓e_abs, ↓e_max, ↓e_min, ↓e_int1, ↓e_int1b, ↓e_sumL, ↓e_sumTu, ↓e_listRL, ↓e_listRT, ↓e_tupRL, ↓e_tupO, ↓e_slRL, ↓e_slRT, ↓e_slL, ↓e_eq, ↓e_isN, ↓e_inF, ↓map_ro, ↓map_int, fine_int, fine_bl, fine_non, fine_str, eqb_int, eqb_str, eqb_nil, fine_nil, ds_ro, sPut, O.put, O.put1, O.at, O.at1, fPut, -List.map_map, psi_must, dI, a1, a2]
  refine for_ind (fun rest sg => ∃ (n : Nat) (gs : List Int) (x4 x5 : Option O), (∀ g ∈ gs, 1 ≤ g ∧ g ≤ 4) ∧ rest = enD n (gs.map D.int) ∧ sg = [some (.ins C []), some (.ro (dI lad)), some (.ro (.lst sets)), some (.ro (.lst rules)), x4, x5, none, none, none]) (fun sg hI => ?_) (fun d rest sg Kn hI hk => ?_) _ _ ⟨0, lad, none, none, ok.ld.gp, rfl, rfl⟩
  case refine_2 =>
    obtain ⟨n, gs, x4, x5, hg, hr, rfl⟩ := hI
    cases gs with
    | nil => cases hr
    | cons g gs =>
      injection hr with h1 h2
      subst h1 h2
      simp [endP, retTo, outs, exTo, rC, rV, r1, r2, rN, m1, m2, mN, arN, arC, amN, amC, rTup, mTup, rLst, mLst, wLst, mIf, bM, bR, bAnd, bOr, bNot, wMv, mFz, mR, wM, mW, onRo, onBl, rosL, sNil, sSeq, sExpr, sRet, sRetN, sIf, sBrk, sCnt, sNever, sSet, gN, gsN, gsC, gT, sAsg, sFor, wLc, iL, iT, iS, iR1, iR2, iR3, iEn, iEnT, iZp, tYesP, axN, axR, axS, takeA, backA, callGo, wCall, wMethR, wMethS, wMake, mkGo, pFld, sFldSet, fStore, mAnd, mOr, mNot, mChain, wList, wListM, poN, poI, rSlc, rLenSet, rDGet, rDGet1, rDGet2, bDIn, wDnew, sPutL, sPutM, sDput, sApp, sAppP, pV, pF, Pu.pI, pK, startP, O.seq, O.d, fGet, List.lookup, O.nonB, isLst, ↓e_addI, ↓e_addS, ↓e_addL, ↓e_addT, ↓e_sub, ↓e_mulI, ↓e_mulS, ↓e_div, ↓e_mod, ↓e_pow, ↓e_lt, ↓e_le, ↓e_gt, ↓e_ge, ↓e_neg, ↓e_inS, ↓e_ixL, ↓e_ixRL, ↓e_ixRT, ↓e_ixS, ↓e_lenL, ↓e_lenRL, ↓e_lenRT, ↓e_lenS, ↓e_abs, ↓e_max, ↓e_min, ↓e_int1, ↓e_int1b, ↓e_sumL, ↓e_sumTu, ↓e_listRL, ↓e_listRT, ↓e_tupRL, ↓e_tupO, ↓e_slRL, ↓e_slRT, ↓e_slL, ↓e_eq, ↓e_isN, ↓e_inF, ↓map_ro, ↓map_int, fine_int, fine_bl, fine_non, fine_str, eqb_int, eqb_str, eqb_nil, fine_nil, ds_ro, sPut, O.put, O.put1, O.at, O.at1, fPut, -List.map_map, psi_are_gaps, psi_must, dI]
      refine ⟨by rw [sz]; decide, [g], rfl, by simp, by simpa using hg g List.mem_cons_self, hk _ ⟨n + 1, gs, _, _, fun z hz => hg z (List.mem_cons_of_mem _ hz), rfl, rfl⟩⟩
  obtain ⟨n, gs, x4, x5, hg, hr, rfl⟩ := hI
  simp [endP, retTo, outs, exTo, rC, rV, r1, r2, rN, m1, m2, mN, arN, arC, amN, amC, rTup, mTup, rLst, mLst, wLst, mIf, bM, bR, bAnd, bOr, bNot, wMv, mFz, mR, wM, mW, onRo, onBl, rosL, sNil, sSeq, sExpr, sRet, sRetN, sIf, sBrk, sCnt, sNever, sSet, gN, gsN, gsC, gT, sAsg, sFor, wLc, iL, iT, iS, iR1, iR2, iR3, iEn, iEnT, iZp, tYesP, axN, axR, axS, takeA, backA, callGo, wCall, wMethR, wMethS, wMake, mkGo, pFld, sFldSet, fStore, mAnd, mOr, mNot, mChain, wList, wListM, poN, poI, rSlc, rLenSet, rDGet, rDGet1, rDGet2, bDIn, wDnew, sPutL, sPutM, sDput, sApp, sAppP, pV, pF, Pu.pI, pK, startP, O.seq, O.d, fGet, List.lookup, O.nonB, isLst, ↓e_addI, ↓e_addS, ↓e_addL, ↓e_addT, ↓e_sub, ↓e_mulI, ↓e_mulS, ↓e_div, ↓e_mod, ↓e_pow, ↓e_lt, ↓e_le, ↓e_gt, ↓e_ge, ↓e_neg, ↓e_inS, ↓e_ixL, ↓e_ixRL, ↓e_ixRT, ↓e_ixS, ↓e_lenL, ↓e_lenRL, ↓e_lenRT, ↓e_lenS, ↓e_abs, ↓e_max, ↓e_min, ↓e_int1, ↓e_int1b, ↓e_sumL, ↓e_sumTu, ↓e_listRL, ↓e_listRT, ↓e_tupRL, ↓e_tupO, ↓e_slRL, ↓e_slRT, ↓e_slL, ↓e_eq, ↓e_isN, ↓e_inF, ↓map_ro, ↓map_int, fine_int, fine_bl, fine_non, fine_str, eqb_int, eqb_str, eqb_nil, fine_nil, ds_ro, sPut, O.put, O.put1, O.at, O.at1, fPut, -List.map_map, dI, f_gaps_heights, f_gaps_told, f_gaps_tables, f_gaps_kept, f_heights_gaps, f_heights_told, f_heights_tables, f_heights_kept, f_told_gaps, f_told_heights, f_told_tables, f_told_kept, f_tables_gaps, f_tables_heights, f_tables_told, f_tables_kept, f_kept_gaps, f_kept_heights, f_kept_told, f_kept_tables, f_is_set_gaps, f_is_set_heights, f_is_set_told, f_is_set_tables, f_is_set_kept, f_is_rule_gaps, f_is_rule_heights, f_is_rule_told, f_is_rule_tables, f_is_rule_kept, f_table_of_gaps, f_table_of_heights, f_table_of_told, f_table_of_tables, f_table_of_kept, f_named_gaps, f_named_heights, f_named_told, f_named_tables, f_named_kept]
  refine ⟨by rw [sz]; decide, ?_⟩
  refine for_ind (fun rest sg => ∃ (k : Nat) (x4 x5 : Option O), k ≤ lad.length ∧ rest = (lad.drop k).map D.int ∧ sg = [some (.ins C [("gaps", .ro (dI lad)), ("heights", .lst ((List.range (k + 1)).map fun i => .ro (.int (hAt lad i))))]), some (.ro (dI lad)), some (.ro (.lst sets)), some (.ro (.lst rules)), x4, x5, none, none, none]) (fun sg hI => ?_) (fun d rest sg Kn hI hk => ?_) _ _ ⟨0, x4, x5, Nat.zero_le _, rfl, rfl⟩
  case refine_2 =>
    obtain ⟨k, x4, x5, hle, hr, rfl⟩ := hI
    cases e : lad[k]? with
    | none =>
      have : lad.length ≤ k := List.getElem?_eq_none_iff.mp e
      rw [List.drop_eq_nil_of_le this] at hr
      cases hr
    | some g =>
      have hk2 : k < lad.length := (List.getElem?_eq_some_iff.mp e).1
      have ez : lad[k] = g := (List.getElem?_eq_some_iff.mp e).2
      rw [List.drop_eq_getElem_cons hk2, ez] at hr
      injection hr with h1 h2
      subst h1 h2
      simp [endP, retTo, outs, exTo, rC, rV, r1, r2, rN, m1, m2, mN, arN, arC, amN, amC, rTup, mTup, rLst, mLst, wLst, mIf, bM, bR, bAnd, bOr, bNot, wMv, mFz, mR, wM, mW, onRo, onBl, rosL, sNil, sSeq, sExpr, sRet, sRetN, sIf, sBrk, sCnt, sNever, sSet, gN, gsN, gsC, gT, sAsg, sFor, wLc, iL, iT, iS, iR1, iR2, iR3, iEn, iEnT, iZp, tYesP, axN, axR, axS, takeA, backA, callGo, wCall, wMethR, wMethS, wMake, mkGo, pFld, sFldSet, fStore, mAnd, mOr, mNot, mChain, wList, wListM, poN, poI, rSlc, rLenSet, rDGet, rDGet1, rDGet2, bDIn, wDnew, sPutL, sPutM, sDput, sApp, sAppP, pV, pF, Pu.pI, pK, startP, O.seq, O.d, fGet, List.lookup, O.nonB, isLst, ↓e_addI, ↓e_addS, ↓e_addL, ↓e_addT, ↓e_sub, ↓e_mulI, ↓e_mulS, ↓e_div, ↓e_mod, ↓e_pow, ↓e_lt, ↓e_le, ↓e_gt, ↓e_ge, ↓e_neg, ↓e_inS, ↓e_ixL, ↓e_ixRL, ↓e_ixRT, ↓e_ixS, ↓e_lenL, ↓e_lenRL, ↓e_lenRT, ↓e_lenS, ↓e_abs, ↓e_max, ↓e_min, ↓e_int1, ↓e_int1b, ↓e_sumL, ↓e_sumTu, ↓e_listRL, ↓e_listRT, ↓e_tupRL, ↓e_tupO, ↓e_slRL, ↓e_slRT, ↓e_slL, ↓e_eq, ↓e_isN, ↓e_inF, ↓map_ro, ↓map_int, fine_int, fine_bl, fine_non, fine_str, eqb_int, eqb_str, eqb_nil, fine_nil, ds_ro, sPut, O.put, O.put1, O.at, O.at1, fPut, -List.map_map, dI, f_gaps_heights, f_gaps_told, f_gaps_tables, f_gaps_kept, f_heights_gaps, f_heights_told, f_heights_tables, f_heights_kept, f_told_gaps, f_told_heights, f_told_tables, f_told_kept, f_tables_gaps, f_tables_heights, f_tables_told, f_tables_kept, f_kept_gaps, f_kept_heights, f_kept_told, f_kept_tables, f_is_set_gaps, f_is_set_heights, f_is_set_told, f_is_set_tables, f_is_set_kept, f_is_rule_gaps, f_is_rule_heights, f_is_rule_told, f_is_rule_tables, f_is_rule_kept, f_table_of_gaps, f_table_of_heights, f_table_of_told, f_table_of_tables, f_table_of_kept, f_named_gaps, f_named_heights, f_named_told, f_named_tables, f_named_kept, atI_last, -List.map_map]
      refine ⟨by rw [sz]; omega, hk _ ⟨k + 1, x4, some (.ro (.int g)), hk2, rfl, ?_⟩⟩
      simp [dI, List.range_succ, hAt_succ e]
  obtain ⟨k, x4, x5, hle, hr, rfl⟩ := hI
  have hkn : k = lad.length := by
    have : lad.drop k = [] := by cases e : lad.drop k with
      | nil => rfl
      | cons a r => rw [e] at hr; cases hr
    have := List.drop_eq_nil_iff.mp this
    omega
  subst hkn
  have b1 : (1 : Int) ≤ (sets.length : Int) := by have := ok.s1; omega
  have b2 : (sets.length : Int) ≤ 5 := by have := ok.s5; omega
  simp [endP, retTo, outs, exTo, rC, rV, r1, r2, rN, m1, m2, mN, arN, arC, amN, amC, rTup, mTup, rLst, mLst, wLst, mIf, bM, bR, bAnd, bOr, bNot, wMv, mFz, mR, wM, mW, onRo, onBl, rosL, sNil, sSeq, sExpr, sRet, sRetN, sIf, sBrk, sCnt, sNever, sSet, gN, gsN, gsC, gT, sAsg, sFor, wLc, iL, iT, iS, iR1, iR2, iR3, iEn, iEnT, iZp, tYesP, axN, axR, axS, takeA, backA, callGo, wCall, wMethR, wMethS, wMake, mkGo, pFld, sFldSet, fStore, mAnd, mOr, mNot, mChain, wList, wListM, poN, poI, rSlc, rLenSet, rDGet, rDGet1, rDGet2, bDIn, wDnew, sPutL, sPutM, sDput, sApp, sAppP, pV, pF, Pu.pI, pK, startP, O.seq, O.d, fGet, List.lookup, O.nonB, isLst, ↓e_addI, ↓e_addS, ↓e_addL, ↓e_addT, ↓e_sub, ↓e_mulI, ↓e_mulS, ↓e_div, ↓e_mod, ↓e_pow, ↓e_lt, ↓e_le, ↓e_gt, ↓e_ge, ↓e_neg, ↓e_inS, ↓e_ixL, ↓e_ixRL, ↓e_ixRT, ↓e_ixS, ↓e_lenL, ↓e_lenRL, ↓e_lenRT, ↓e_lenS, ↓e_abs, ↓e_max, ↓e_min, ↓e_int1, ↓e_int1b, ↓e_sumL, ↓e_sumTu, ↓e_listRL, ↓e_listRT, ↓e_tupRL, ↓e_tupO, ↓e_slRL, ↓e_slRT, ↓e_slL, ↓e_eq, ↓e_isN, ↓e_inF, ↓map_ro, ↓map_int, fine_int, fine_bl, fine_non, fine_str, eqb_int, eqb_str, eqb_nil, fine_nil, ds_ro, sPut, O.put, O.put1, O.at, O.at1, fPut, -List.map_map, dI, f_gaps_heights, f_gaps_told, f_gaps_tables, f_gaps_kept, f_heights_gaps, f_heights_told, f_heights_tables, f_heights_kept, f_told_gaps, f_told_heights, f_told_tables, f_told_kept, f_tables_gaps, f_tables_heights, f_tables_told, f_tables_kept, f_kept_gaps, f_kept_heights, f_kept_told, f_kept_tables, f_is_set_gaps, f_is_set_heights, f_is_set_told, f_is_set_tables, f_is_set_kept, f_is_rule_gaps, f_is_rule_heights, f_is_rule_told, f_is_rule_tables, f_is_rule_kept, f_table_of_gaps, f_table_of_heights, f_table_of_told, f_table_of_tables, f_table_of_kept, f_named_gaps, f_named_heights, f_named_told, f_named_tables, f_named_kept, b1, b2, psi_must]
  refine for_ind (fun rest sg => ∃ (n : Nat) (es : List D) (x4 x5 x6 : Option O), (∀ e ∈ es, OkS lad.length e) ∧ rest = enD n es ∧ sg = [some (.ins C [("gaps", .ro (dI lad)), ("heights", .lst ((hts lad).map fun h => .ro (.int h)))]), some (.ro (dI lad)), some (.ro (.lst sets)), some (.ro (.lst rules)), x4, x5, x6, none, none]) (fun sg hI => ?_) (fun d rest sg Kn hI hk => ?_) _ _ ⟨0, sets, x4, x5, none, ok.st, rfl, by simp [dI, hts]⟩
  case refine_2 =>
    obtain ⟨n, es, x4, x5, x6, hg, hr, rfl⟩ := hI
    cases es with
    | nil => cases hr
    | cons e es =>
      injection hr with h1 h2
      subst h1 h2
      simp [endP, retTo, outs, exTo, rC, rV, r1, r2, rN, m1, m2, mN, arN, arC, amN, amC, rTup, mTup, rLst, mLst, wLst, mIf, bM, bR, bAnd, bOr, bNot, wMv, mFz, mR, wM, mW, onRo, onBl, rosL, sNil, sSeq, sExpr, sRet, sRetN, sIf, sBrk, sCnt, sNever, sSet, gN, gsN, gsC, gT, sAsg, sFor, wLc, iL, iT, iS, iR1, iR2, iR3, iEn, iEnT, iZp, tYesP, axN, axR, axS, takeA, backA, callGo, wCall, wMethR, wMethS, wMake, mkGo, pFld, sFldSet, fStore, mAnd, mOr, mNot, mChain, wList, wListM, poN, poI, rSlc, rLenSet, rDGet, rDGet1, rDGet2, bDIn, wDnew, sPutL, sPutM, sDput, sApp, sAppP, pV, pF, Pu.pI, pK, startP, O.seq, O.d, fGet, List.lookup, O.nonB, isLst, ↓e_addI, ↓e_addS, ↓e_addL, ↓e_addT, ↓e_sub, ↓e_mulI, ↓e_mulS, ↓e_div, ↓e_mod, ↓e_pow, ↓e_lt, ↓e_le, ↓e_gt, ↓e_ge, ↓e_neg, ↓e_inS, ↓e_ixL, ↓e_ixRL, ↓e_ixRT, ↓e_ixS, ↓e_lenL, ↓e_lenRL, ↓e_lenRT, ↓e_lenS, ↓e_abs, ↓e_max, ↓e_min, ↓e_int1, ↓e_int1b, ↓e_sumL, ↓e_sumTu, ↓e_listRL, ↓e_listRT, ↓e_tupRL, ↓e_tupO, ↓e_slRL, ↓e_slRT, ↓e_slL, ↓e_eq, ↓e_isN, ↓e_inF, ↓map_ro, ↓map_int, fine_int, fine_bl, fine_non, fine_str, eqb_int, eqb_str, eqb_nil, fine_nil, ds_ro, sPut, O.put, O.put1, O.at, O.at1, fPut, -List.map_map, psi_is_set, psi_must, dI, f_gaps_heights, f_gaps_told, f_gaps_tables, f_gaps_kept, f_heights_gaps, f_heights_told, f_heights_tables, f_heights_kept, f_told_gaps, f_told_heights, f_told_tables, f_told_kept, f_tables_gaps, f_tables_heights, f_tables_told, f_tables_kept, f_kept_gaps, f_kept_heights, f_kept_told, f_kept_tables, f_is_set_gaps, f_is_set_heights, f_is_set_told, f_is_set_tables, f_is_set_kept, f_is_rule_gaps, f_is_rule_heights, f_is_rule_told, f_is_rule_tables, f_is_rule_kept, f_table_of_gaps, f_table_of_heights, f_table_of_told, f_table_of_tables, f_table_of_kept, f_named_gaps, f_named_heights, f_named_told, f_named_tables, f_named_kept]
      exact ⟨_, (hts lad).map fun h => .ro (.int h), e, ⟨rfl, rfl⟩, by simp [fGet, f_gaps_heights, f_gaps_told, f_gaps_tables, f_gaps_kept, f_heights_gaps, f_heights_told, f_heights_tables, f_heights_kept, f_told_gaps, f_told_heights, f_told_tables, f_told_kept, f_tables_gaps, f_tables_heights, f_tables_told, f_tables_kept, f_kept_gaps, f_kept_heights, f_kept_told, f_kept_tables, f_is_set_gaps, f_is_set_heights, f_is_set_told, f_is_set_tables, f_is_set_kept, f_is_rule_gaps, f_is_rule_heights, f_is_rule_told, f_is_rule_tables, f_is_rule_kept, f_table_of_gaps, f_table_of_heights, f_table_of_told, f_table_of_tables, f_table_of_kept, f_named_gaps, f_named_heights, f_named_told, f_named_tables, f_named_kept], lad.length, by simp [hts], hg e List.mem_cons_self, hk _ ⟨n + 1, es, some (.ro (.int n)), x5, some (.ro e), fun z hz => hg z (List.mem_cons_of_mem _ hz), rfl, rfl⟩⟩
  obtain ⟨n, es, x4, x5, x6, hg, hr, rfl⟩ := hI
  simp [endP, retTo, outs, exTo, rC, rV, r1, r2, rN, m1, m2, mN, arN, arC, amN, amC, rTup, mTup, rLst, mLst, wLst, mIf, bM, bR, bAnd, bOr, bNot, wMv, mFz, mR, wM, mW, onRo, onBl, rosL, sNil, sSeq, sExpr, sRet, sRetN, sIf, sBrk, sCnt, sNever, sSet, gN, gsN, gsC, gT, sAsg, sFor, wLc, iL, iT, iS, iR1, iR2, iR3, iEn, iEnT, iZp, tYesP, axN, axR, axS, takeA, backA, callGo, wCall, wMethR, wMethS, wMake, mkGo, pFld, sFldSet, fStore, mAnd, mOr, mNot, mChain, wList, wListM, poN, poI, rSlc, rLenSet, rDGet, rDGet1, rDGet2, bDIn, wDnew, sPutL, sPutM, sDput, sApp, sAppP, pV, pF, Pu.pI, pK, startP, O.seq, O.d, fGet, List.lookup, O.nonB, isLst, ↓e_addI, ↓e_addS, ↓e_addL, ↓e_addT, ↓e_sub, ↓e_mulI, ↓e_mulS, ↓e_div, ↓e_mod, ↓e_pow, ↓e_lt, ↓e_le, ↓e_gt, ↓e_ge, ↓e_neg, ↓e_inS, ↓e_ixL, ↓e_ixRL, ↓e_ixRT, ↓e_ixS, ↓e_lenL, ↓e_lenRL, ↓e_lenRT, ↓e_lenS, ↓e_abs, ↓e_max, ↓e_min, ↓e_int1, ↓e_int1b, ↓e_sumL, ↓e_sumTu, ↓e_listRL, ↓e_listRT, ↓e_tupRL, ↓e_tupO, ↓e_slRL, ↓e_slRT, ↓e_slL, ↓e_eq, ↓e_isN, ↓e_inF, ↓map_ro, ↓map_int, fine_int, fine_bl, fine_non, fine_str, eqb_int, eqb_str, eqb_nil, fine_nil, ds_ro, sPut, O.put, O.put1, O.at, O.at1, fPut, -List.map_map, dI, f_gaps_heights, f_gaps_told, f_gaps_tables, f_gaps_kept, f_heights_gaps, f_heights_told, f_heights_tables, f_heights_kept, f_told_gaps, f_told_heights, f_told_tables, f_told_kept, f_tables_gaps, f_tables_heights, f_tables_told, f_tables_kept, f_kept_gaps, f_kept_heights, f_kept_told, f_kept_tables, f_is_set_gaps, f_is_set_heights, f_is_set_told, f_is_set_tables, f_is_set_kept, f_is_rule_gaps, f_is_rule_heights, f_is_rule_told, f_is_rule_tables, f_is_rule_kept, f_table_of_gaps, f_table_of_heights, f_table_of_told, f_table_of_tables, f_table_of_kept, f_named_gaps, f_named_heights, f_named_told, f_named_tables, f_named_kept]
  refine lc_pure 7 (fun _ => true) (tabD lad) _ _ _ rfl (by rw [sz]; have := ok.s5; simp; omega) (fun d _ Kn q => q) (fun d hm _ Kn q => ?_) ?_
  · obtain ⟨okd⟩ := ok.st d hm
    rename_i step names gaps
    obtain ⟨st, rfl⟩ := Int.eq_ofNat_of_zero_le okd.s0
    have ed : tabD lad (dSet st names gaps) = .dct 1 (O.dk (tab lad st names gaps names.length)) := by
      simp [tabD, dSet, List.map_map]
      congr 1
      · congr 1
        · exact (List.map_congr_left fun _ _ => rfl).trans (List.map_id _)
        · exact (List.map_congr_left fun _ _ => rfl).trans (List.map_id _)
    rw [ed] at q
    simp [endP, retTo, outs, exTo, rC, rV, r1, r2, rN, m1, m2, mN, arN, arC, amN, amC, rTup, mTup, rLst, mLst, wLst, mIf, bM, bR, bAnd, bOr, bNot, wMv, mFz, mR, wM, mW, onRo, onBl, rosL, sNil, sSeq, sExpr, sRet, sRetN, sIf, sBrk, sCnt, sNever, sSet, gN, gsN, gsC, gT, sAsg, sFor, wLc, iL, iT, iS, iR1, iR2, iR3, iEn, iEnT, iZp, tYesP, axN, axR, axS, takeA, backA, callGo, wCall, wMethR, wMethS, wMake, mkGo, pFld, sFldSet, fStore, mAnd, mOr, mNot, mChain, wList, wListM, poN, poI, rSlc, rLenSet, rDGet, rDGet1, rDGet2, bDIn, wDnew, sPutL, sPutM, sDput, sApp, sAppP, pV, pF, Pu.pI, pK, startP, O.seq, O.d, fGet, List.lookup, O.nonB, isLst, ↓e_addI, ↓e_addS, ↓e_addL, ↓e_addT, ↓e_sub, ↓e_mulI, ↓e_mulS, ↓e_div, ↓e_mod, ↓e_pow, ↓e_lt, ↓e_le, ↓e_gt, ↓e_ge, ↓e_neg, ↓e_inS, ↓e_ixL, ↓e_ixRL, ↓e_ixRT, ↓e_ixS, ↓e_lenL, ↓e_lenRL, ↓e_lenRT, ↓e_lenS, ↓e_abs, ↓e_max, ↓e_min, ↓e_int1, ↓e_int1b, ↓e_sumL, ↓e_sumTu, ↓e_listRL, ↓e_listRT, ↓e_tupRL, ↓e_tupO, ↓e_slRL, ↓e_slRT, ↓e_slL, ↓e_eq, ↓e_isN, ↓e_inF, ↓map_ro, ↓map_int, fine_int, fine_bl, fine_non, fine_str, eqb_int, eqb_str, eqb_nil, fine_nil, ds_ro, sPut, O.put, O.put1, O.at, O.at1, fPut, -List.map_map, psi_table, f_gaps_heights, f_gaps_told, f_gaps_tables, f_gaps_kept, f_heights_gaps, f_heights_told, f_heights_tables, f_heights_kept, f_told_gaps, f_told_heights, f_told_tables, f_told_kept, f_tables_gaps, f_tables_heights, f_tables_told, f_tables_kept, f_kept_gaps, f_kept_heights, f_kept_told, f_kept_tables, f_is_set_gaps, f_is_set_heights, f_is_set_told, f_is_set_tables, f_is_set_kept, f_is_rule_gaps, f_is_rule_heights, f_is_rule_told, f_is_rule_tables, f_is_rule_kept, f_table_of_gaps, f_table_of_heights, f_table_of_told, f_table_of_tables, f_table_of_kept, f_named_gaps, f_named_heights, f_named_told, f_named_tables, f_named_kept]
    refine ⟨_, lad, st, names, gaps, ⟨rfl, rfl⟩, by simp [fGet, f_gaps_heights, f_gaps_told, f_gaps_tables, f_gaps_kept, f_heights_gaps, f_heights_told, f_heights_tables, f_heights_kept, f_told_gaps, f_told_heights, f_told_tables, f_told_kept, f_tables_gaps, f_tables_heights, f_tables_told, f_tables_kept, f_kept_gaps, f_kept_heights, f_kept_told, f_kept_tables, f_is_set_gaps, f_is_set_heights, f_is_set_told, f_is_set_tables, f_is_set_kept, f_is_rule_gaps, f_is_rule_heights, f_is_rule_told, f_is_rule_tables, f_is_rule_kept, f_table_of_gaps, f_table_of_heights, f_table_of_told, f_table_of_tables, f_table_of_kept, f_named_gaps, f_named_heights, f_named_told, f_named_tables, f_named_kept], okd, ?_⟩
    simpa using q
  · rw [filter_tt]
    have b3 : (rules.length : Int) ≤ 12 := by have := ok.r12; omega
    simp [endP, retTo, outs, exTo, rC, rV, r1, r2, rN, m1, m2, mN, arN, arC, amN, amC, rTup, mTup, rLst, mLst, wLst, mIf, bM, bR, bAnd, bOr, bNot, wMv, mFz, mR, wM, mW, onRo, onBl, rosL, sNil, sSeq, sExpr, sRet, sRetN, sIf, sBrk, sCnt, sNever, sSet, gN, gsN, gsC, gT, sAsg, sFor, wLc, iL, iT, iS, iR1, iR2, iR3, iEn, iEnT, iZp, tYesP, axN, axR, axS, takeA, backA, callGo, wCall, wMethR, wMethS, wMake, mkGo, pFld, sFldSet, fStore, mAnd, mOr, mNot, mChain, wList, wListM, poN, poI, rSlc, rLenSet, rDGet, rDGet1, rDGet2, bDIn, wDnew, sPutL, sPutM, sDput, sApp, sAppP, pV, pF, Pu.pI, pK, startP, O.seq, O.d, fGet, List.lookup, O.nonB, isLst, ↓e_addI, ↓e_addS, ↓e_addL, ↓e_addT, ↓e_sub, ↓e_mulI, ↓e_mulS, ↓e_div, ↓e_mod, ↓e_pow, ↓e_lt, ↓e_le, ↓e_gt, ↓e_ge, ↓e_neg, ↓e_inS, ↓e_ixL, ↓e_ixRL, ↓e_ixRT, ↓e_ixS, ↓e_lenL, ↓e_lenRL, ↓e_lenRT, ↓e_lenS, ↓e_abs, ↓e_max, ↓e_min, ↓e_int1, ↓e_int1b, ↓e_sumL, ↓e_sumTu, ↓e_listRL, ↓e_listRT, ↓e_tupRL, ↓e_tupO, ↓e_slRL, ↓e_slRT, ↓e_slL, ↓e_eq, ↓e_isN, ↓e_inF, ↓map_ro, ↓map_int, fine_int, fine_bl, fine_non, fine_str, eqb_int, eqb_str, eqb_nil, fine_nil, ds_ro, sPut, O.put, O.put1, O.at, O.at1, fPut, -List.map_map, dI, f_gaps_heights, f_gaps_told, f_gaps_tables, f_gaps_kept, f_heights_gaps, f_heights_told, f_heights_tables, f_heights_kept, f_told_gaps, f_told_heights, f_told_tables, f_told_kept, f_tables_gaps, f_tables_heights, f_tables_told, f_tables_kept, f_kept_gaps, f_kept_heights, f_kept_told, f_kept_tables, f_is_set_gaps, f_is_set_heights, f_is_set_told, f_is_set_tables, f_is_set_kept, f_is_rule_gaps, f_is_rule_heights, f_is_rule_told, f_is_rule_tables, f_is_rule_kept, f_table_of_gaps, f_table_of_heights, f_table_of_told, f_table_of_tables, f_table_of_kept, f_named_gaps, f_named_heights, f_named_told, f_named_tables, f_named_kept, psi_must, b3]
    refine for_ind (fun rest sg => ∃ (n : Nat) (es : List D) (x4 x5 x6 x8 : Option O), (∀ e ∈ es, OkRule sets.length e) ∧ rest = enD n es ∧ sg = [some (.ins C [("gaps", .ro (dI lad)), ("heights", .lst ((hts lad).map fun h => .ro (.int h))), ("told", .ro (.lst sets)), ("tables", .ro (.lst (sets.map (tabD lad))))]), some (.ro (dI lad)), some (.ro (.lst sets)), some (.ro (.lst rules)), x4, x5, x6, none, x8]) (fun sg hI => ?_) (fun d rest sg Kn hI hk => ?_) _ _ ⟨0, rules, x4, x5, x6, none, ok.rl, rfl, rfl⟩
    case refine_2 =>
      obtain ⟨n, es, x4, x5, x6, x8, hg, hr, rfl⟩ := hI
      cases es with
      | nil => cases hr
      | cons e es =>
        injection hr with h1 h2
        subst h1 h2
        simp [endP, retTo, outs, exTo, rC, rV, r1, r2, rN, m1, m2, mN, arN, arC, amN, amC, rTup, mTup, rLst, mLst, wLst, mIf, bM, bR, bAnd, bOr, bNot, wMv, mFz, mR, wM, mW, onRo, onBl, rosL, sNil, sSeq, sExpr, sRet, sRetN, sIf, sBrk, sCnt, sNever, sSet, gN, gsN, gsC, gT, sAsg, sFor, wLc, iL, iT, iS, iR1, iR2, iR3, iEn, iEnT, iZp, tYesP, axN, axR, axS, takeA, backA, callGo, wCall, wMethR, wMethS, wMake, mkGo, pFld, sFldSet, fStore, mAnd, mOr, mNot, mChain, wList, wListM, poN, poI, rSlc, rLenSet, rDGet, rDGet1, rDGet2, bDIn, wDnew, sPutL, sPutM, sDput, sApp, sAppP, pV, pF, Pu.pI, pK, startP, O.seq, O.d, fGet, List.lookup, O.nonB, isLst, ↓e_addI, ↓e_addS, ↓e_addL, ↓e_addT, ↓e_sub, ↓e_mulI, ↓e_mulS, ↓e_div, ↓e_mod, ↓e_pow, ↓e_lt, ↓e_le, ↓e_gt, ↓e_ge, ↓e_neg, ↓e_inS, ↓e_ixL, ↓e_ixRL, ↓e_ixRT, ↓e_ixS, ↓e_lenL, ↓e_lenRL, ↓e_lenRT, ↓e_lenS, ↓e_abs, ↓e_max, ↓e_min, ↓e_int1, ↓e_int1b, ↓e_sumL, ↓e_sumTu, ↓e_listRL, ↓e_listRT, ↓e_tupRL, ↓e_tupO, ↓e_slRL, ↓e_slRT, ↓e_slL, ↓e_eq, ↓e_isN, ↓e_inF, ↓map_ro, ↓map_int, fine_int, fine_bl, fine_non, fine_str, eqb_int, eqb_str, eqb_nil, fine_nil, ds_ro, sPut, O.put, O.put1, O.at, O.at1, fPut, -List.map_map, psi_is_rule, psi_must, dI, f_gaps_heights, f_gaps_told, f_gaps_tables, f_gaps_kept, f_heights_gaps, f_heights_told, f_heights_tables, f_heights_kept, f_told_gaps, f_told_heights, f_told_tables, f_told_kept, f_tables_gaps, f_tables_heights, f_tables_told, f_tables_kept, f_kept_gaps, f_kept_heights, f_kept_told, f_kept_tables, f_is_set_gaps, f_is_set_heights, f_is_set_told, f_is_set_tables, f_is_set_kept, f_is_rule_gaps, f_is_rule_heights, f_is_rule_told, f_is_rule_tables, f_is_rule_kept, f_table_of_gaps, f_table_of_heights, f_table_of_told, f_table_of_tables, f_table_of_kept, f_named_gaps, f_named_heights, f_named_told, f_named_tables, f_named_kept]
        exact ⟨_, sets, e, ⟨rfl, rfl⟩, by simp [fGet, f_gaps_heights, f_gaps_told, f_gaps_tables, f_gaps_kept, f_heights_gaps, f_heights_told, f_heights_tables, f_heights_kept, f_told_gaps, f_told_heights, f_told_tables, f_told_kept, f_tables_gaps, f_tables_heights, f_tables_told, f_tables_kept, f_kept_gaps, f_kept_heights, f_kept_told, f_kept_tables, f_is_set_gaps, f_is_set_heights, f_is_set_told, f_is_set_tables, f_is_set_kept, f_is_rule_gaps, f_is_rule_heights, f_is_rule_told, f_is_rule_tables, f_is_rule_kept, f_table_of_gaps, f_table_of_heights, f_table_of_told, f_table_of_tables, f_table_of_kept, f_named_gaps, f_named_heights, f_named_told, f_named_tables, f_named_kept], hg e List.mem_cons_self, hk _ ⟨n + 1, es, some (.ro (.int n)), x5, x6, some (.ro e), fun z hz => hg z (List.mem_cons_of_mem _ hz), rfl, rfl⟩⟩
    obtain ⟨n, es, x4, x5, x6, x8, hg, hr, rfl⟩ := hI
    simp [endP, retTo, outs, exTo, rC, rV, r1, r2, rN, m1, m2, mN, arN, arC, amN, amC, rTup, mTup, rLst, mLst, wLst, mIf, bM, bR, bAnd, bOr, bNot, wMv, mFz, mR, wM, mW, onRo, onBl, rosL, sNil, sSeq, sExpr, sRet, sRetN, sIf, sBrk, sCnt, sNever, sSet, gN, gsN, gsC, gT, sAsg, sFor, wLc, iL, iT, iS, iR1, iR2, iR3, iEn, iEnT, iZp, tYesP, axN, axR, axS, takeA, backA, callGo, wCall, wMethR, wMethS, wMake, mkGo, pFld, sFldSet, fStore, mAnd, mOr, mNot, mChain, wList, wListM, poN, poI, rSlc, rLenSet, rDGet, rDGet1, rDGet2, bDIn, wDnew, sPutL, sPutM, sDput, sApp, sAppP, pV, pF, Pu.pI, pK, startP, O.seq, O.d, fGet, List.lookup, O.nonB, isLst, ↓e_addI, ↓e_addS, ↓e_addL, ↓e_addT, ↓e_sub, ↓e_mulI, ↓e_mulS, ↓e_div, ↓e_mod, ↓e_pow, ↓e_lt, ↓e_le, ↓e_gt, ↓e_ge, ↓e_neg, ↓e_inS, ↓e_ixL, ↓e_ixRL, ↓e_ixRT, ↓e_ixS, ↓e_lenL, ↓e_lenRL, ↓e_lenRT, ↓e_lenS, ↓e_abs, ↓e_max, ↓e_min, ↓e_int1, ↓e_int1b, ↓e_sumL, ↓e_sumTu, ↓e_listRL, ↓e_listRT, ↓e_tupRL, ↓e_tupO, ↓e_slRL, ↓e_slRT, ↓e_slL, ↓e_eq, ↓e_isN, ↓e_inF, ↓map_ro, ↓map_int, fine_int, fine_bl, fine_non, fine_str, eqb_int, eqb_str, eqb_nil, fine_nil, ds_ro, sPut, O.put, O.put1, O.at, O.at1, fPut, -List.map_map, dI, f_gaps_heights, f_gaps_told, f_gaps_tables, f_gaps_kept, f_heights_gaps, f_heights_told, f_heights_tables, f_heights_kept, f_told_gaps, f_told_heights, f_told_tables, f_told_kept, f_tables_gaps, f_tables_heights, f_tables_told, f_tables_kept, f_kept_gaps, f_kept_heights, f_kept_told, f_kept_tables, f_is_set_gaps, f_is_set_heights, f_is_set_told, f_is_set_tables, f_is_set_kept, f_is_rule_gaps, f_is_rule_heights, f_is_rule_told, f_is_rule_tables, f_is_rule_kept, f_table_of_gaps, f_table_of_heights, f_table_of_told, f_table_of_tables, f_table_of_kept, f_named_gaps, f_named_heights, f_named_told, f_named_tables, f_named_kept]
    simpa [schF, dI] using h
end Sp
end
section
open PySem PySem.W PySem.Spec PyProof.Rows L2 Pu Rd
set_option Elab.async false
set_option linter.all false
set_option maxRecDepth 100000
set_option maxHeartbeats 4000000
namespace Sp
/-! ### the law -/
variable (C : Addr)
def schD (lad : List Int) (sets rules : List D) : D := .ins C [("gaps", dI lad), ("heights", dI (hts lad)), ("told", .lst sets), ("tables", .lst (sets.map (tabD lad))), ("kept", .lst rules)]
def psi_made : PSp := fun os Q _ => ∃ (lad : List Int) (sets rules : List D), os = [.ro (dT lad sets rules)] ∧ OkT lad sets rules ∧ Q (.ins C (schF lad sets rules)) os
theorem mo_made : PMono (psi_made C) := fun os Q1 Q2 E1 E2 h _ ⟨a, b, c, e, h1, q⟩ => ⟨a, b, c, e, h1, h _ _ q⟩
theorem pu_made (os : List O) (Qp : O → List O → Prop) (Ep : PX) (hl : os.length = 1) (h : psi_made C os Qp Ep) : t_made (psi_init C) C (endP [] os Qp Ep) (startP 1 os) := by
  obtain ⟨lad, sets, rules, rfl, ok, h⟩ := h
  simp [t_made, endP, retTo, outs, exTo, rC, rV, r1, r2, rN, m1, m2, mN, arN, arC, amN, amC, rTup, mTup, rLst, mLst, wLst, mIf, bM, bR, bAnd, bOr, bNot, wMv, mFz, mR, wM, mW, onRo, onBl, rosL, sNil, sSeq, sExpr, sRet, sRetN, sIf, sBrk, sCnt, sNever, sSet, gN, gsN, gsC, gT, sAsg, sFor, wLc, iL, iT, iS, iR1, iR2, iR3, iEn, iEnT, iZp, tYesP, axN, axR, axS, takeA, backA, callGo, wCall, wMethR, wMethS, wMake, mkGo, pFld, sFldSet, fStore, mAnd, mOr, mNot, mChain, wList, wListM, poN, poI, rSlc, rLenSet, rDGet, rDGet1, rDGet2, bDIn, wDnew, sPutL, sPutM, sDput, sApp, sAppP, pV, pF, Pu.pI, pK, startP, O.seq, O.d, fGet, List.lookup, O.nonB, isLst, ↓e_addI, ↓e_addS, ↓e_addL, ↓e_addT, ↓e_sub, ↓e_mulI, ↓e_mulS, ↓e_div, ↓e_mod, ↓e_pow, ↓e_lt, ↓e_le, ↓e_gt, ↓e_ge, ↓e_neg, ↓e_inS, ↓e_ixL, ↓e_ixRL, ↓e_ixRT, ↓e_ixS, ↓e_lenL, ↓e_lenRL, ↓e_lenRT, ↓e_lenS, ↓e_abs, ↓e_max, ↓e_min, ↓e_int1, ↓e_int1b, ↓e_sumL, ↓e_sumTu, ↓e_listRL, ↓e_listRT, ↓e_tupRL, ↓e_tupO, ↓e_slRL, ↓e_slRT, ↓e_slL, ↓e_eq, ↓e_isN, ↓e_inF, ↓map_ro, ↓map_int, fine_int, fine_bl, fine_non, fine_str, eqb_int, eqb_str, eqb_nil, fine_nil, ds_ro, sPut, O.put, O.put1, O.at, O.at1, fPut, -List.map_map, psi_init, dT, dI, atI, ixN]
  exact ⟨lad, sets, rules, ⟨rfl, rfl, rfl⟩, ok, h⟩
theorem sch_d (lad : List Int) (sets rules : List D) : (O.ins C (schF lad sets rules)).d = schD C lad sets rules := by
  simp [schF, schD, O.d, O.df, dI]
  rw [← ds_ro ((hts lad).map D.int), List.map_map]
  rfl
def setAt (sets : List D) (n : Int) : D := (atI sets n).getD .non
/-- what stands for a note in a set -/
def look (lad : List Int) (e k : D) : D := match tabD lad e with
  | .dct _ kvs => (dGet k kvs).getD .non
  | _ => .non
theorem tabD_set {lad : List Int} {st : Nat} {names : List Str} {gaps : List Int} : tabD lad (dSet st names gaps) = .dct 1 (O.dk (tab lad st names gaps names.length)) := by
  simp [tabD, dSet, List.map_map]
  congr 1
  · congr 1
    · exact (List.map_congr_left fun _ _ => rfl).trans (List.map_id _)
    · exact (List.map_congr_left fun _ _ => rfl).trans (List.map_id _)
theorem b_tables_gaps : (Str.ofString "tables" == Str.ofString "gaps") = false := by decide +kernel
theorem b_tables_heights : (Str.ofString "tables" == Str.ofString "heights") = false := by decide +kernel
theorem b_tables_told : (Str.ofString "tables" == Str.ofString "told") = false := by decide +kernel
def psi_named : PSp := fun os Q _ => ∃ (lad : List Int) (sets rules : List D) (n : Int) (a b : Int) (e : D), os = [.ro (schD C lad sets rules), .ro (.int n), .ro (.tup [.int a, .int b])] ∧ atI sets n = some e ∧ OkS lad.length e ∧ Q (.ro (look lad e (.tup [.int a, .int b]))) os
theorem mo_named : PMono (psi_named C) := fun os Q1 Q2 E1 E2 h _ ⟨a, b, c, d, e, f, g, e1, h1, h2, q⟩ => ⟨a, b, c, d, e, f, g, e1, h1, h2, h _ _ q⟩
end Sp
end
section
open PySem PySem.W PySem.Spec PyProof.Rows L2 Pu Rd
set_option Elab.async false
set_option linter.all false
set_option maxRecDepth 100000
set_option maxHeartbeats 4000000
namespace Sp
variable (C : Addr)
theorem pu_named (os : List O) (Qp : O → List O → Prop) (Ep : PX) (hl : os.length = 3) (h : psi_named C os Qp Ep) : t_School_named C (endP [] os Qp Ep) (startP 3 os) := by
  obtain ⟨lad, sets, rules, n, a, b, e, rfl, he, ok, h⟩ := h
  obtain ⟨ok⟩ := ok
  rename_i step names gaps
  obtain ⟨st, rfl⟩ := Int.eq_ofNat_of_zero_le ok.s0
  simp [t_School_named, endP, retTo, outs, exTo, rC, rV, r1, r2, rN, m1, m2, mN, arN, arC, amN, amC, rTup, mTup, rLst, mLst, wLst, mIf, bM, bR, bAnd, bOr, bNot, wMv, mFz, mR, wM, mW, onRo, onBl, rosL, sNil, sSeq, sExpr, sRet, sRetN, sIf, sBrk, sCnt, sNever, sSet, gN, gsN, gsC, gT, sAsg, sFor, wLc, iL, iT, iS, iR1, iR2, iR3, iEn, iEnT, iZp, tYesP, axN, axR, axS, takeA, backA, callGo, wCall, wMethR, wMethS, wMake, mkGo, pFld, sFldSet, fStore, mAnd, mOr, mNot, mChain, wList, wListM, poN, poI, rSlc, rLenSet, rDGet, rDGet1, rDGet2, bDIn, wDnew, sPutL, sPutM, sDput, sApp, sAppP, pV, pF, Pu.pI, pK, startP, O.seq, O.d, fGet, List.lookup, O.nonB, isLst, ↓e_addI, ↓e_addS, ↓e_addL, ↓e_addT, ↓e_sub, ↓e_mulI, ↓e_mulS, ↓e_div, ↓e_mod, ↓e_pow, ↓e_lt, ↓e_le, ↓e_gt, ↓e_ge, ↓e_neg, ↓e_inS, ↓e_ixL, ↓e_ixRL, ↓e_ixRT, ↓e_ixS, ↓e_lenL, ↓e_lenRL, ↓e_lenRT, ↓e_lenS, ↓e_abs, ↓e_max, ↓e_min, ↓e_int1, ↓e_int1b, ↓e_sumL, ↓e_sumTu, ↓e_listRL, ↓e_listRT, ↓e_tupRL, ↓e_tupO, ↓e_slRL, ↓e_slRT, ↓e_slL, ↓e_eq, ↓e_isN, ↓e_inF, ↓map_ro, ↓map_int, fine_int, fine_bl, fine_non, fine_str, eqb_int, eqb_str, eqb_nil, fine_nil, ds_ro, sPut, O.put, O.put1, O.at, O.at1, fPut, -List.map_map, schD, atI_map, he, b_tables_gaps, b_tables_heights, b_tables_told, tabD_set, isDct, dLook, keyOk, keyT, keyTs, keyK]
  have e : look lad (dSet st names gaps) (.tup [.int a, .int b]) = (dGet (.tup [.int a, .int b]) (O.dk (tab lad st names gaps names.length))).getD .non := by
    unfold look
    rw [tabD_set]
  rw [e] at h
  cases hd : dGet (.tup [.int a, .int b]) (O.dk (tab lad st names gaps names.length)) with
  | none => rw [hd] at h; simpa [schD] using h
  | some d => rw [hd] at h; simpa [schD] using h
def psi_height : PSp := fun os Q _ => ∃ (lad : List Int) (sets rules : List D) (i : Nat), os = [.ro (dT lad sets rules), .ro (.int i)] ∧ Q (.ro (.int (hAt lad i))) os
theorem mo_height : PMono psi_height := fun os Q1 Q2 E1 E2 h _ ⟨a, b, c, d, e, q⟩ => ⟨a, b, c, d, e, h _ _ q⟩
theorem cut_to {α : Type} (xs : List α) (i : Nat) : cut xs none (some (i : Int)) = xs.take i := by
  unfold cut
  have e1 : HT.sIx xs.length 0 none = 0 := rfl
  have e2 : HT.sIx xs.length xs.length (some (i : Int)) = min i xs.length := by
    show (if (i : Int) < 0 then ((i : Int) + (xs.length : Int)).toNat else min (i : Int).toNat xs.length) = _
    rw [if_neg (by omega)]
    simp
  rw [e1, e2, List.drop_zero, Nat.sub_zero]
  by_cases h : i ≤ xs.length
  · rw [Nat.min_eq_left h]
  · rw [Nat.min_eq_right (by omega), List.take_length, List.take_of_length_le (by omega)]
theorem pu_height (os : List O) (Qp : O → List O → Prop) (Ep : PX) (hl : os.length = 2) (h : psi_height os Qp Ep) : t_height (endP [] os Qp Ep) (startP 2 os) := by
  obtain ⟨lad, sets, rules, i, rfl, h⟩ := h
  simp [t_height, endP, retTo, outs, exTo, rC, rV, r1, r2, rN, m1, m2, mN, arN, arC, amN, amC, rTup, mTup, rLst, mLst, wLst, mIf, bM, bR, bAnd, bOr, bNot, wMv, mFz, mR, wM, mW, onRo, onBl, rosL, sNil, sSeq, sExpr, sRet, sRetN, sIf, sBrk, sCnt, sNever, sSet, gN, gsN, gsC, gT, sAsg, sFor, wLc, iL, iT, iS, iR1, iR2, iR3, iEn, iEnT, iZp, tYesP, axN, axR, axS, takeA, backA, callGo, wCall, wMethR, wMethS, wMake, mkGo, pFld, sFldSet, fStore, mAnd, mOr, mNot, mChain, wList, wListM, poN, poI, rSlc, rLenSet, rDGet, rDGet1, rDGet2, bDIn, wDnew, sPutL, sPutM, sDput, sApp, sAppP, pV, pF, Pu.pI, pK, startP, O.seq, O.d, fGet, List.lookup, O.nonB, isLst, ↓e_addI, ↓e_addS, ↓e_addL, ↓e_addT, ↓e_sub, ↓e_mulI, ↓e_mulS, ↓e_div, ↓e_mod, ↓e_pow, ↓e_lt, ↓e_le, ↓e_gt, ↓e_ge, ↓e_neg, ↓e_inS, ↓e_ixL, ↓e_ixRL, ↓e_ixRT, ↓e_ixS, ↓e_lenL, ↓e_lenRL, ↓e_lenRT, ↓e_lenS, ↓e_abs, ↓e_max, ↓e_min, ↓e_int1, ↓e_int1b, ↓e_sumL, ↓e_sumTu, ↓e_listRL, ↓e_listRT, ↓e_tupRL, ↓e_tupO, ↓e_slRL, ↓e_slRT, ↓e_slL, ↓e_eq, ↓e_isN, ↓e_inF, ↓map_ro, ↓map_int, fine_int, fine_bl, fine_non, fine_str, eqb_int, eqb_str, eqb_nil, fine_nil, ds_ro, sPut, O.put, O.put1, O.at, O.at1, fPut, -List.map_map, dT, dI, atI, ixN, cut_to]
  rw [← List.map_take, e_sumL]
  exact h
/-! ### what the tables hold -/
theorem dGet_map (f : Nat → D × O) (inj : ∀ i j, (f i).1 = (f j).1 → i = j) (key : D) : ∀ l : List Nat, (∀ k ∈ l, (f k).1 = key → dGet key (O.dk (l.map f)) = some (f k).2.d) ∧ ((∀ k ∈ l, (f k).1 ≠ key) → dGet key (O.dk (l.map f)) = none)
  | [] => ⟨(fun _ h _ => nomatch h), fun _ => rfl⟩
  | i :: l => by
    obtain ⟨h1, h2⟩ := dGet_map f inj key l
    have e : O.dk ((i :: l).map f) = ((f i).1, (f i).2.d) :: O.dk (l.map f) := rfl
    rw [e]
    unfold dGet
    refine ⟨fun k hk hf => ?_, fun hn => ?_⟩
    · by_cases z : key = (f i).1
      · rw [if_pos z]
        have := inj k i (hf.trans z)
        rw [this]
      · rw [if_neg z]
        rcases List.mem_cons.mp hk with rfl | hk
        · exact absurd hf.symm z
        · exact h1 k hk hf
    · rw [if_neg fun z => hn i List.mem_cons_self z.symm]
      exact h2 fun k hk => hn k (List.mem_cons_of_mem _ hk)
theorem ent_inj {lad : List Int} {step : Nat} {names : List Str} {gaps : List Int} (i j : Nat) (h : (ent lad step names gaps i).1 = (ent lad step names gaps j).1) : i = j := by
  simp only [ent] at h
  injection h with h
  injection h with h
  injection h with h
  omega
theorem look_yes {lad : List Int} {st : Nat} {names : List Str} {gaps : List Int} {k : Nat} {z : Str} (hz : names[k]? = some z) {b : Int} (hb : hAt lad (st + k) + b = hK lad st gaps k) : look lad (dSet st names gaps) (.tup [.int ((st : Int) + k), .int b]) = .str z := by
  unfold look
  rw [tabD_set]
  have hk := (List.getElem?_eq_some_iff.mp hz).1
  have e : (ent lad st names gaps k).1 = .tup [.int ((st : Int) + k), .int b] := by
    simp only [ent]
    rw [show hK lad st gaps k - hAt lad (st + k) = b by omega]
    simp
  show (dGet _ (O.dk ((List.range names.length).map _))).getD .non = _
  rw [(dGet_map (ent lad st names gaps) ent_inj _ _).1 k (List.mem_range.mpr hk) e]
  simp [ent, hz, O.d, List.getD]
theorem look_no {lad : List Int} {st : Nat} {names : List Str} {gaps : List Int} {a b : Int} (h : ∀ k : Nat, k < names.length → a = (st : Int) + k → hAt lad (st + k) + b ≠ hK lad st gaps k) : look lad (dSet st names gaps) (.tup [.int a, .int b]) = .non := by
  unfold look
  rw [tabD_set]
  show (dGet _ (O.dk ((List.range names.length).map _))).getD .non = _
  rw [(dGet_map (ent lad st names gaps) ent_inj _ _).2 fun k hk e => ?_]
  · rfl
  · simp only [ent] at e
    injection e with e
    injection e with e1 e
    injection e1 with e1
    injection e with e
    injection e with e
    exact h k (List.mem_range.mp hk) (by omega) (by omega)
theorem at2_0 {α : Type} {a b : α} : atI [a, b] 0 = some a := by simp [atI, ixN]
theorem at2_1 {α : Type} {a b : α} : atI [a, b] 1 = some b := by simp [atI, ixN]
theorem at3_0 {α : Type} {a b c : α} : atI [a, b, c] 0 = some a := by simp [atI, ixN]
theorem at3_1 {α : Type} {a b c : α} : atI [a, b, c] 1 = some b := by simp [atI, ixN]
theorem at3_2 {α : Type} {a b c : α} : atI [a, b, c] 2 = some c := by simp [atI, ixN]
def psi_name : PSp := fun os Q _ => ∃ (lad : List Int) (sets rules : List D) (n a b : Int) (e : D), os = [.ro (dT lad sets rules), .ro (.int n), .ro (.tup [.int a, .int b])] ∧ 0 ≤ a ∧ atI sets n = some e ∧ OkS lad.length e ∧ Q (.ro (look lad e (.tup [.int a, .int b]))) os
theorem mo_name : PMono psi_name := fun os Q1 Q2 E1 E2 h _ ⟨a, b, c, d, e, f, g, e1, h1, h2, h3, q⟩ => ⟨a, b, c, d, e, f, g, e1, h1, h2, h3, h _ _ q⟩
end Sp
end
section
open PySem PySem.W PySem.Spec PyProof.Rows L2 Pu Rd
set_option Elab.async false
set_option linter.all false
set_option maxRecDepth 100000
set_option maxHeartbeats 4000000
namespace Sp
theorem pu_name (os : List O) (Qp : O → List O → Prop) (Ep : PX) (hl : os.length = 3) (h : psi_name os Qp Ep) : t_name psi_height (endP [] os Qp Ep) (startP 7 os) := by
  obtain ⟨lad, sets, rules, n, a, b, e, rfl, ha, he, ⟨ok⟩, h⟩ := h
  rename_i step names gaps
  simp only [dSet] at he
  simp only [t_name, sSeq, sAsg, mR, r2, rV, rC, startP, dT, ↓e_ixRT, at3_1, ↓e_ixRL, he, onRo, List.map_cons, List.map_nil, List.cons_append, List.getElem?_cons_zero, List.getElem?_cons_succ]
  simp [gT, gsC, gN, gsN, sSet, wM, r2, rV, rC, mR, onRo, at2_0, at2_1, e_ixRT, e_sub]
  simp only [sSeq, sSet, wM, mR, r2, rV, rC, onRo, List.getElem?_cons_zero, List.getElem?_cons_succ, List.set_cons_succ, List.set_cons_zero, ↓e_ixRT, at2_0, ↓e_sub, sIf, bNot, bM, mChain, ↓e_le, onBl, rN, arC, arN, ↓e_lenRT, ↓e_lt, List.length_map]
  have no : ∀ (hno : ∀ k : Nat, k < names.length → a = step + (k : Int) → False), look lad (dSet step names gaps) (.tup [.int a, .int b]) = .non := fun hno => by
    obtain ⟨st, rfl⟩ := Int.eq_ofNat_of_zero_le ok.s0
    exact look_no fun k hk e => (hno k hk e).elim
  by_cases h1 : 0 ≤ a - step
  · rw [if_pos (decide_eq_true h1)]
    by_cases h2 : a - step < (names.length : Int)
    · rw [if_neg (by simp [h2])]
      simp only [sSeq, sNil, sIf, bM, m2, mW, wCall, axR, axN, mR, rV, r2, rC, callGo, takeA, onRo, List.getElem?_cons_zero, List.getElem?_cons_succ, ↓e_ixRT, at2_0, at2_1]
      obtain ⟨an, rfl⟩ := Int.eq_ofNat_of_zero_le ha
      obtain ⟨st, rfl⟩ := Int.eq_ofNat_of_zero_le ok.s0
      refine ⟨rfl, lad, sets, rules, an, rfl, ?_⟩
      simp only [backA, List.getElem?_cons_zero, List.getElem?_cons_succ, ↓e_ixRT, at2_1, onRo, O.d, ↓e_addI, takeA]
      refine ⟨rfl, lad, sets, rules, st, rfl, ?_⟩
      obtain ⟨k, rfl⟩ : ∃ k, an = st + k := ⟨an - st, by omega⟩
      have ek : ((st + k : Nat) : Int) - (st : Int) = (k : Int) := by omega
      simp only [backA, List.getElem?_cons_zero, List.getElem?_cons_succ, rN, arC, arN, rSlc, poN, poI, r2, rV, ↓e_slRT, ek]
      refine ⟨k, rfl, ?_⟩
      rw [cut_to, ← List.map_take, e_sumTu]
      simp only [onRo, O.d, ↓e_addI, ↓e_eq, fine_int, eqb_int, onBl, true_and]
      have hk : k < names.length := by omega
      have hz := List.getElem?_eq_getElem hk
      have hat : atI (names.map D.str) (k : Int) = some (.str names[k]) := by
        unfold atI ixN
        rw [List.length_map, if_pos (by omega), if_pos (by omega)]
        simp [hk]
      by_cases h3 : hAt lad (st + k) + b = hAt lad st + (gaps.take k).sum
      · have hb : (hAt lad (st + k) + b == hAt lad st + (gaps.take k).sum) = true := by simpa using h3
        simp only [hb, Bool.xor_self, Bool.false_eq_true, ↓reduceIte]
        simp only [sNil, sRet, wM, mR, r2, rV, List.getElem?_cons_zero, List.getElem?_cons_succ, ↓e_ixRT, hat, onRo]
        have e := look_yes (gaps := gaps) hz h3
        rw [show (((st + k : Nat) : Int)) = (st : Int) + (k : Int) by omega] at h ⊢
        rw [e] at h
        exact h
      · have hb : (hAt lad (st + k) + b == hAt lad st + (gaps.take k).sum) = false := by simpa using h3
        simp only [hb, Bool.xor_false, ↓reduceIte]
        rw [look_no (a := ((st + k : Nat) : Int)) fun j hj e => by
          have : j = k := by omega
          subst this
          exact h3] at h
        exact h
    · rw [if_pos (by simp [h2])]
      rw [no fun k hk e => by omega] at h
      exact h
  · rw [if_neg (by simpa using h1)]
    rw [no fun k hk e => by omega] at h
    exact h
end Sp
end
section
open PySem PySem.W PySem.Spec PyProof.Rows L2 Pu Rd
set_option Elab.async false
set_option linter.all false
set_option maxRecDepth 100000
set_option maxHeartbeats 4000000
namespace Sp
variable (C : Addr)
/-! ### the law -/
theorem word_fine {z : Str} (h : Word z) : (D.str z).fine = true := by
  rw [fine_str]
  unfold PyData.strOk
  rw [Array.all_eq_true']
  intro c hc
  have := h.2.2 c (by simpa using hc)
  have h2 : ∀ c ∈ abc, c < 0x110000 := by decide
  exact decide_eq_true (h2 c this)
theorem atI_mem {α : Type} {xs : List α} {k : Int} {x : α} (h : atI xs k = some x) : x ∈ xs := by
  unfold atI at h
  cases e : ixN xs.length k with
  | none => rw [e] at h; cases h
  | some j => rw [e] at h; exact List.mem_of_getElem? h
theorem look_ne {lad : List Int} {st : Nat} {names : List Str} {gaps : List Int} {a b : Int} (h : look lad (dSet st names gaps) (.tup [.int a, .int b]) ≠ .non) : ∃ k : Nat, k < names.length ∧ a = (st : Int) + k ∧ hAt lad (st + k) + b = hK lad st gaps k := by
  refine Classical.byContradiction fun hn => h (look_no fun k hk e z => hn ⟨k, hk, e, z⟩)
theorem look_or {lad : List Int} {n : Nat} {e : D} (ok : OkS n e) (a b : Int) : look lad e (.tup [.int a, .int b]) = .non ∨ ∃ z, Word z ∧ look lad e (.tup [.int a, .int b]) = .str z := by
  obtain ⟨ok⟩ := ok
  rename_i step names gaps
  obtain ⟨st, rfl⟩ := Int.eq_ofNat_of_zero_le ok.s0
  refine Classical.byCases (fun h => .inl h) fun h => .inr ?_
  obtain ⟨k, hk, rfl, hb⟩ := look_ne h
  exact ⟨_, ok.wd _ (List.getElem_mem hk), look_yes (List.getElem?_eq_getElem hk) hb⟩
theorem look_one {lad : List Int} {n : Nat} {e : D} (ok : OkS n e) {a b c : Int} (h1 : look lad e (.tup [.int a, .int b]) ≠ .non) (h2 : look lad e (.tup [.int a, .int c]) ≠ .non) : b = c := by
  obtain ⟨ok⟩ := ok
  rename_i step names gaps
  obtain ⟨st, rfl⟩ := Int.eq_ofNat_of_zero_le ok.s0
  obtain ⟨k, hk, e1, hb⟩ := look_ne h1
  obtain ⟨j, hj, e2, hc⟩ := look_ne h2
  have : j = k := by omega
  subst this
  omega
def isS : D → Bool
  | .str _ => true
  | _ => false
theorem isi_str {Q : O → Prop} {z : Str} : pIsi [.ro (.str z), .ro (.ty "str")] Q = Q (.ro (.bl true)) := by
  apply propext
  constructor
  · rintro ⟨a, n, t, b, e, ht, hb, q⟩
    cases e
    cases ht
    cases hb
    exact q
  · intro q
    exact ⟨_, _, _, true, rfl, rfl, rfl, q⟩
theorem isi_non {Q : O → Prop} : pIsi [.ro .non, .ro (.ty "str")] Q = Q (.ro (.bl false)) := by
  apply propext
  constructor
  · rintro ⟨a, n, t, b, e, ht, hb, q⟩
    cases e
    cases ht
    cases hb
    exact q
  · intro q
    exact ⟨_, _, _, false, rfl, rfl, rfl, q⟩
theorem str_refl (z : Str) : (z == z) = true := by simp
theorem rgD_nodup (lo : Int) (n : Nat) : (rgD lo n).Nodup := by
  unfold rgD
  rw [List.Nodup, List.pairwise_map]
  refine List.Pairwise.imp (fun {a b} hlt z => ?_) List.pairwise_lt_range
  injection z with z
  omega
theorem rgD_mem2 {lo : Int} {n : Nat} {d : D} (h : d ∈ rgD lo n) : ∃ j : Nat, j < n ∧ d = .int (lo + j) := by
  unfold rgD at h
  obtain ⟨j, hj, rfl⟩ := List.mem_map.mp h
  exact ⟨j, List.mem_range.mp hj, rfl⟩
theorem look_fine {lad : List Int} {n : Nat} {e : D} (ok : OkS n e) {a b : Int} : (look lad e (.tup [.int a, .int b])).fine = true := by
  rcases look_or (lad := lad) ok a b with h | ⟨z, hz, h⟩
  · rw [h]; rfl
  · rw [h]; exact word_fine hz
theorem look_eqb {lad : List Int} {n : Nat} {e : D} (ok : OkS n e) {a b : Int} : (look lad e (.tup [.int a, .int b])).eqb (look lad e (.tup [.int a, .int b])) = true := by
  rcases look_or (lad := lad) ok a b with h | ⟨z, hz, h⟩
  · rw [h]; rfl
  · rw [h, eqb_str]; exact str_refl z
end Sp
end
section
open PySem PySem.W PySem.Spec PyProof.Rows L2 Pu Rd
set_option Elab.async false
set_option linter.all false
set_option maxRecDepth 100000
set_option maxHeartbeats 4000000
namespace Sp
/-! ### tunes and sayings -/
abbrev Note := Int × Int
def nD (p : Note) : D := .tup [.int p.1, .int p.2]
def cD (ps : List Note) : D := .tup (ps.map nD)
def sD (ss : List Int) : D := .tup (ss.map D.int)
def tD (tune : List (List Note)) : D := .lst (tune.map cD)
def gD (g : List (List Int)) : D := .lst (g.map sD)
def OkNote (n : Nat) (p : Note) : Prop := 0 ≤ p.1 ∧ p.1 ≤ n ∧ -9 ≤ p.2 ∧ p.2 ≤ 9
structure OkTune (n : Nat) (many : Nat) (tune : List (List Note)) : Prop where
  m1 : 1 ≤ many
  m3 : many ≤ 3
  t1 : 1 ≤ tune.length
  t24 : tune.length ≤ 24
  co : ∀ c ∈ tune, c.length = many ∧ ∀ p ∈ c, OkNote n p
def OkSets (n many : Nat) (ss : List Int) : Prop := ss.length = many ∧ ∀ i ∈ ss, 0 ≤ i ∧ i < n
def OkSay (n many len : Nat) (g : List (List Int)) : Prop := g.length = len ∧ ∀ ss ∈ g, OkSets n many ss
/-- the word of a note by the set of a number -/
def wd (lad : List Int) (sets : List D) (i : Int) (p : Note) : D := match atI sets i with
  | some e => look lad e (nD p)
  | none => .non
theorem wd_or {lad : List Int} {sets rules : List D} (ok : OkT lad sets rules) (i : Int) (p : Note) : wd lad sets i p = .non ∨ ∃ z, Word z ∧ wd lad sets i p = .str z := by
  unfold wd
  split
  · rename_i e he
    exact look_or (ok.st _ (atI_mem he)) _ _
  · exact .inl rfl
def words (lad : List Int) (sets : List D) (ss : List Int) (ps : List Note) : List D := List.zipWith (wd lad sets) ss ps
theorem words_len {lad : List Int} {sets : List D} {ss : List Int} {ps : List Note} (h : ps.length = ss.length) : (words lad sets ss ps).length = ss.length := by
  unfold words
  rw [List.length_zipWith]
  omega
theorem words_get {lad : List Int} {sets : List D} {ss : List Int} {ps : List Note} {k : Nat} {s : Int} {p : Note} (h1 : ss[k]? = some s) (h2 : ps[k]? = some p) : (words lad sets ss ps)[k]? = some (wd lad sets s p) := by
  unfold words
  rw [List.getElem?_zipWith, h1, h2]
theorem words_or {lad : List Int} {sets rules : List D} (ok : OkT lad sets rules) {ss : List Int} {ps : List Note} {w : D} (h : w ∈ words lad sets ss ps) : w = .non ∨ ∃ z, Word z ∧ w = .str z := by
  unfold words at h
  obtain ⟨k, hk, e⟩ := List.getElem_of_mem h
  rw [List.getElem_zipWith] at e
  rw [← e]
  exact wd_or ok _ _
theorem word_ok {z : Str} {n : Nat} (h : Word z) : Okd n (.str z) := by
  have := word_fine h
  rw [fine_str] at this
  exact .str this
theorem rule_ok {n : Nat} {e : D} (h : OkRule n e) : Okd 1 e := by
  have s : ∀ x : Str, PyData.strOk x = true → Okd 0 (.str x) := fun x h => .str h
  cases h with
  | over => refine .tup fun x hx => ?_
            simp only [List.mem_cons, List.not_mem_nil, or_false] at hx
            rcases hx with rfl | rfl | rfl
            · exact .str (by decide +kernel)
            · exact .int
            · exact .int
  | at' hw => refine .tup fun x hx => ?_
              simp only [List.mem_cons, List.not_mem_nil, or_false] at hx
              rcases hx with rfl | rfl
              · exact .str (by decide +kernel)
              · exact word_ok hw
  | beside hw hv => refine .tup fun x hx => ?_
                    simp only [List.mem_cons, List.not_mem_nil, or_false] at hx
                    rcases hx with rfl | rfl | rfl
                    · exact .str (by decide +kernel)
                    · exact word_ok hw
                    · exact word_ok hv
theorem rules_ok {n : Nat} {rules : List D} (h : ∀ e ∈ rules, OkRule n e) : Okd 2 (.lst rules) := .lst fun e he => rule_ok (h e he)
theorem note_ok {n : Nat} {p : Note} : Okd (n + 1) (nD p) := .tup fun x hx => by
  simp only [List.mem_cons, List.not_mem_nil, or_false] at hx
  rcases hx with rfl | rfl <;> exact .int
/-! ### what is found in a column -/
open Classical in
noncomputable def hasB (rules : List D) (r : D) : Bool := decide (r ∈ rules)
noncomputable def besB (rules : List D) (w v : D) : Bool := hasB rules (.tup [.str "beside", w, v]) || hasB rules (.tup [.str "beside", v, w])
noncomputable def lackF (ws : List D) : Option D := (List.range ws.length).findSome? fun k => if (O.ro (ws.getD k .non)).nonB = true then some (.tup [.str "lacks", .int k]) else none
noncomputable def pairI (rules ws : List D) (i : Nat) : Option D := (List.range (ws.length - (i + 1))).findSome? fun j => if besB rules (ws.getD i .non) (ws.getD (i + 1 + j) .non) = true then some (.tup [.str "beside", .int i, .int ((i + 1 + j : Nat) : Int)]) else none
noncomputable def pairF (rules ws : List D) : Option D := (List.range ws.length).findSome? (pairI rules ws)
noncomputable def colF (rules ws : List D) : D := match lackF ws with
  | some r => r
  | none => match pairF rules ws with
    | some r => r
    | none => .non
/-! loops over ranges, enumerated lists -/
def fI (F : Nat → Option D) : D → Option D
  | .int i => F i.toNat
  | _ => none
theorem find_rg (F : Nat → Option D) (n : Nat) : (rgD 0 n).findSome? (fI F) = (List.range n).findSome? F := by
  unfold rgD
  rw [List.findSome?_map]
  congr 1
  funext k
  simp [fI]
theorem find_rg2 (F : Nat → Option D) (a n : Nat) : (rgD (a : Int) n).findSome? (fI F) = (List.range n).findSome? fun j => F (a + j) := by
  unfold rgD
  rw [List.findSome?_map]
  congr 1
end Sp
end
section
open PySem PySem.W PySem.Spec PyProof.Rows L2 Pu Rd
set_option Elab.async false
set_option linter.all false
set_option maxRecDepth 100000
set_option maxHeartbeats 4000000
namespace Sp
def fE (F : Nat → D → Option D) : D → Option D
  | .tup [.int i, d] => F i.toNat d
  | _ => none
theorem find_en (F : Nat → D → Option D) : ∀ (ws : List D) (n : Nat), (enD n ws).findSome? (fE F) = (List.range ws.length).findSome? fun k => F (n + k) (ws.getD k .non)
  | [], _ => rfl
  | w :: ws, n => by
    have h := find_en F ws (n + 1)
    rw [List.length_cons, List.range_succ_eq_map, List.findSome?_cons, List.findSome?_map]
    rw [show enD n (w :: ws) = .tup [.int n, w] :: enD (n + 1) ws from rfl, List.findSome?_cons, h]
    rw [show fE F (.tup [.int n, w]) = F n w from rfl, show F (n + 0) ((w :: ws).getD 0 .non) = F n w from rfl]
    cases F n w with
    | some b => rfl
    | none =>
      dsimp only
      congr 1
      funext k
      show F (n + 1 + k) _ = F (n + (k + 1)) _
      rw [show n + 1 + k = n + (k + 1) by omega]
      rfl
theorem mem_en {d : D} : ∀ {ws : List D} {n : Nat}, d ∈ enD n ws → ∃ k : Nat, k < ws.length ∧ d = .tup [.int ((n + k : Nat) : Int), ws.getD k .non]
  | [], _, h => nomatch h
  | w :: ws, n, h => by
    rcases List.mem_cons.mp h with rfl | h
    · exact ⟨0, by simp, rfl⟩
    · obtain ⟨k, hk, rfl⟩ := mem_en h
      exact ⟨k + 1, by simpa using hk, by rw [show n + 1 + k = n + (k + 1) by omega]; rfl⟩
theorem e_in {n : Bool} {a : O} {ds : List D} {Q : O → Prop} : pIn n a (.ro (.lst ds)) Q = (a.d.fine = true ∧ (D.lst ds).fine = true ∧ Q (.ro (.bl (n.xor (ds.any fun z => z.eqb a.d))))) := by
  apply propext
  constructor
  · rintro ⟨es, h, h1, h2, q⟩
    cases h
    exact ⟨h1, h2, q⟩
  · rintro ⟨h1, h2, q⟩
    exact ⟨ds, rfl, h1, h2, q⟩
theorem lack_none {ws : List D} (h : lackF ws = none) {k : Nat} (hk : k < ws.length) : (O.ro (ws.getD k .non)).nonB = false := by
  unfold lackF at h
  rw [List.findSome?_eq_none_iff] at h
  have := h k (List.mem_range.mpr hk)
  split at this
  · cases this
  · rename_i q
    exact Bool.eq_false_iff.mpr q
theorem getD_mem {ws : List D} {k : Nat} (hk : k < ws.length) : ws.getD k .non ∈ ws := by
  rw [List.getD_eq_getElem?_getD, List.getElem?_eq_getElem hk]
  exact List.getElem_mem hk
theorem lack_words {lad : List Int} {sets rules : List D} (ok : OkT lad sets rules) {ss : List Int} {ps : List Note} (h : lackF (words lad sets ss ps) = none) {k : Nat} (hk : k < (words lad sets ss ps).length) : ∃ z, Word z ∧ (words lad sets ss ps).getD k .non = .str z := by
  have := lack_none h hk
  rcases words_or ok (getD_mem hk) with e | e
  · rw [e] at this; cases this
  · exact e
theorem atI_getD {ws : List D} {k : Nat} (hk : k < ws.length) : atI ws (k : Int) = some (ws.getD k .non) := by
  unfold atI ixN
  rw [if_pos (by omega), if_pos (by omega)]
  rw [List.getD_eq_getElem?_getD]
  simp [List.getElem?_eq_getElem hk]
theorem kw_ok {n : Nat} : Okd n (.str "beside") ∧ Okd n (.str "over") ∧ Okd n (.str "at") ∧ Okd n (.str "lacks") ∧ Okd n (.str "common") := ⟨.str (by decide +kernel), .str (by decide +kernel), .str (by decide +kernel), .str (by decide +kernel), .str (by decide +kernel)⟩
theorem mem2_ok {n : Nat} {a b : D} (h1 : Okd n a) (h2 : Okd n b) : Okd (n + 1) (.tup [a, b]) := .tup fun x hx => by
  simp only [List.mem_cons, List.not_mem_nil, or_false] at hx
  rcases hx with rfl | rfl
  · exact h1
  · exact h2
theorem mem3_ok {n : Nat} {a b c : D} (h1 : Okd n a) (h2 : Okd n b) (h3 : Okd n c) : Okd (n + 1) (.tup [a, b, c]) := .tup fun x hx => by
  simp only [List.mem_cons, List.not_mem_nil, or_false] at hx
  rcases hx with rfl | rfl | rfl
  · exact h1
  · exact h2
  · exact h3
theorem has_any {n : Nat} {rules : List D} (h : ∀ e ∈ rules, OkRule n e) {a : D} {m : Nat} (ha : Okd m a) : (rules.any fun z => z.eqb a) = hasB rules a := by
  rw [any_mem (fun z hz => rule_ok (h z hz)) ha]
  unfold hasB
  congr
theorem kept_get {C : Addr} {lad : List Int} {sets rules : List D} {Q : O → Prop} : pFld C "kept" (.ro (schD C lad sets rules)) Q = Q (.ro (.lst rules)) := by
  apply propext
  constructor
  · rintro ⟨_, q⟩; exact q
  · intro q; exact ⟨rfl, q⟩
variable (C : Addr)
def psi_column_fault : PSp := fun os Q _ => ∃ (lad : List Int) (sets rules : List D) (ps : List Note) (ss : List Int), os = [.ro (schD C lad sets rules), .ro (cD ps), .ro (sD ss)] ∧ OkT lad sets rules ∧ OkSets sets.length ps.length ss ∧ ps.length ≤ 3 ∧ Q (.ro (colF rules (words lad sets ss ps))) os
theorem mo_column_fault : PMono (psi_column_fault C) := fun os Q1 Q2 E1 E2 h _ ⟨a, b, c, d, e, f, h1, h2, h3, q⟩ => ⟨a, b, c, d, e, f, h1, h2, h3, h _ _ q⟩
theorem pu_column_fault (os : List O) (Qp : O → List O → Prop) (Ep : PX) (hl : os.length = 3) (h : psi_column_fault C os Qp Ep) : t_column_fault (psi_named C) C (endP [] os Qp Ep) (startP 11 os) := by
  obtain ⟨lad, sets, rules, ps, ss, rfl, ok, hs, h3, h⟩ := h
  change sSeq _ _ _ [some (.ro (schD C lad sets rules)), some (.ro (cD ps)), some (.ro (sD ss)), none, none, none, none, none, none, none, none]
  simp only [sSeq, sSet, wLc, iZp, amC, amN, mR, rV, onRo, List.getElem?_cons_zero, List.getElem?_cons_succ, cD, sD]
  refine lc_ind (fun rest acc sg => ∃ (x4 x5 : Option O) (ss' : List Int) (ps' : List Note), sg = [some (.ro (schD C lad sets rules)), some (.ro (cD ps)), some (.ro (sD ss)), none, x4, x5, none, none, none, none, none] ∧ rest = zpD (ss'.map D.int) (ps'.map nD) ∧ acc ++ words lad sets ss' ps' = words lad sets ss ps ∧ OkSets sets.length ps'.length ss' ∧ acc.length + ss'.length = ss.length) ?_ ?_ _ _ _ ⟨none, none, ss, ps, rfl, rfl, rfl, hs, by simp⟩
  · rintro acc sg ⟨x4, x5, ss', ps', rfl, hr, ha, ho, hn⟩
    have : ss' = [] ∧ ps' = [] := by
      cases ss' with
      | nil => exact ⟨rfl, List.eq_nil_of_length_eq_zero ho.1.symm⟩
      | cons s ss' => cases ps' with
        | nil => exact absurd ho.1 (by simp)
        | cons p ps' => cases hr
    obtain ⟨rfl, rfl⟩ := this
    have ha : acc = words lad sets ss ps := by simpa [words] using ha
    subst ha
    have wl := words_len (lad := lad) (sets := sets) (ss := ss) (ps := ps) hs.1.symm
    have hsl := hs.1
    have wor : ∀ w ∈ words lad sets ss ps, w = .non ∨ ∃ z, Word z ∧ w = .str z := fun w hw => words_or ok hw
    have lw : lackF (words lad sets ss ps) = none → ∀ k, k < (words lad sets ss ps).length → ∃ z, Word z ∧ (words lad sets ss ps).getD k .non = .str z := fun h k hk => lack_words ok h hk
    generalize words lad sets ss ps = ws at *
    simp only [wipeP, List.set]
    simp only [sFor, iEn, amC, amN, mFz, List.getElem?_cons_zero, List.getElem?_cons_succ, O.d, ds_ro, List.set]
    refine for_find (fun sg => ∃ x6 x7 : Option O, sg = [some (.ro (schD C lad sets rules)), some (.ro (cD ps)), some (.ro (sD ss)), some (.ro (.lst ws)), none, none, x6, x7, none, none, none]) (fE fun k d => if (O.ro d).nonB = true then some (.tup [.str "lacks", .int k]) else none) _ _ ⟨none, none, by simp [wipeP, O.d, ds_ro]⟩ ?_ ?_ ?_
    · rintro d hd sg Kn ⟨x6, x7, rfl⟩ h0 h1
      obtain ⟨k, hk, rfl⟩ := mem_en hd
      rw [Nat.zero_add] at h0 h1 ⊢
      refine ⟨rfl, ?_⟩
      simp only [gsC, gsN, gN, List.set, sIf, bR, r2, rV, rC, List.getElem?_cons_zero, List.getElem?_cons_succ, ↓e_isN, onRo, onBl, Bool.false_xor]
      cases hb : (O.ro (ws.getD k .non)).nonB with
      | true =>
        simp only [↓reduceIte, sRet, wM, mR, rTup, arC, arN, rC, rV, List.getElem?_cons_zero, List.getElem?_cons_succ, onRo, rosL]
        exact ⟨by rw [sz]; simp, h1 _ (if_pos hb) _ ⟨none, none, rfl⟩⟩
      | false =>
        simp only [Bool.false_eq_true, ↓reduceIte, sNil]
        exact h0 (if_neg (by rw [hb]; exact Bool.false_ne_true)) _ ⟨_, _, rfl⟩
    · intro hf sg hsg
      obtain ⟨x6, x7, rfl⟩ := hsg
      rw [find_en] at hf
      have hlk : lackF ws = none := by
        simp only [Nat.zero_add] at hf
        exact hf
      have hws := lw hlk
      simp only [sSeq, sFor, iR1, amC, amN, mR, rN, arC, arN, rV, List.getElem?_cons_zero, List.getElem?_cons_succ, ↓e_lenRL, onRo]
      refine ⟨⟨by omega, by omega⟩, ?_⟩
      refine for_find (fun sg => ∃ x6 x7 x8 x9 x10 : Option O, sg = [some (.ro (schD C lad sets rules)), some (.ro (cD ps)), some (.ro (sD ss)), some (.ro (.lst ws)), none, none, x6, x7, x8, x9, x10]) (fI (pairI rules ws)) _ _ ⟨_, _, _, _, _, rfl⟩ ?_ ?_ ?_
      · rintro d hd sg Kn ⟨x6, x7, x8, x9, x10, rfl⟩ h0 h1
        obtain ⟨i, hi, rfl⟩ := rgD_mem hd
        have hi : i < ws.length := by simpa using hi
        simp only [gN, List.set, sFor, iR2, amC, amN, mR, rN, r2, rC, arC, arN, rV, List.getElem?_cons_zero, List.getElem?_cons_succ, ↓e_lenRL, ↓e_addI, onRo]
        refine ⟨⟨by omega, by omega, by omega, by omega⟩, ?_⟩
        have e1 : ((ws.length : Int) - ((i : Int) + 1)).toNat = ws.length - (i + 1) := by omega
        rw [e1, show ((i : Int) + 1) = ((i + 1 : Nat) : Int) by omega]
        refine for_find (fun sg => ∃ x6 x7 x9 x10 : Option O, sg = [some (.ro (schD C lad sets rules)), some (.ro (cD ps)), some (.ro (sD ss)), some (.ro (.lst ws)), none, none, x6, x7, some (.ro (.int i)), x9, x10]) (fI fun o => if besB rules (ws.getD i .non) (ws.getD o .non) = true then some (.tup [.str "beside", .int i, .int o]) else none) _ _ ⟨_, _, _, _, rfl⟩ ?_ ?_ ?_
        · rintro d hd2 sg Kn2 ⟨x6, x7, x9, x10, rfl⟩ h20 h21
          obtain ⟨j, hj, rfl⟩ := rgD_mem2 hd2
          rw [show (((i + 1 : Nat) : Int) + (j : Int)) = ((i + 1 + j : Nat) : Int) by omega] at h20 h21 ⊢
          have ho : i + 1 + j < ws.length := by omega
          generalize i + 1 + j = o at *
          obtain ⟨z1, hz1, ez1⟩ := hws i hi
          obtain ⟨z2, hz2, ez2⟩ := hws o ho
          have a1 := atI_getD hi
          have a2 := atI_getD ho
          rw [ez1] at a1
          rw [ez2] at a2
          have rk := (rules_ok ok.rl).fine
          have k1 : Okd 1 (.tup [.str "beside", .str z1, .str z2]) := mem3_ok kw_ok.1 (word_ok hz1) (word_ok hz2)
          have k2 : Okd 1 (.tup [.str "beside", .str z2, .str z1]) := mem3_ok kw_ok.1 (word_ok hz2) (word_ok hz1)
          simp only [gN, List.set, sSeq, sSet, wM, mR, rTup, arC, arN, r1, r2, rC, rV, List.getElem?_cons_zero, List.getElem?_cons_succ, ↓e_ixRL, a1, a2, onRo, rosL, sIf, bOr, bR]
          refine ⟨by rw [sz]; simp, by rw [sz]; simp, ?_⟩
          simp only [↓e_addT, ↓kept_get, ↓e_in, O.d, List.cons_append, List.nil_append, onRo, onBl, has_any ok.rl k1, has_any ok.rl k2]
          have hbes : besB rules (ws.getD i .non) (ws.getD o .non) = (hasB rules (.tup [.str "beside", .str z1, .str z2]) || hasB rules (.tup [.str "beside", .str z2, .str z1])) := by unfold besB; rw [ez1, ez2]
          refine ⟨by rw [sz]; simp, k1.fine, rk, ?_⟩
          cases hb1 : hasB rules (.tup [.str "beside", .str z1, .str z2]) with
          | true =>
            simp only [Bool.false_xor, ↓reduceIte, sRet, wM, mR, rTup, arC, arN, rC, rV, List.getElem?_cons_zero, List.getElem?_cons_succ, onRo, rosL]
            exact ⟨by rw [sz]; simp, h21 _ (if_pos (hbes.trans (by rw [hb1]; rfl))) _ ⟨none, none, none, none, rfl⟩⟩
          | false =>
            simp only [Bool.false_xor, Bool.false_eq_true, ↓reduceIte, bR, r2, rTup, arC, arN, rC, rV, List.getElem?_cons_zero, List.getElem?_cons_succ, ↓e_ixRT, at2_0, at2_1, onRo, rosL, r1, ↓kept_get, ↓e_in, O.d, has_any ok.rl k2, onBl]
            refine ⟨by rw [sz]; simp, k2.fine, rk, ?_⟩
            cases hb2 : hasB rules (.tup [.str "beside", .str z2, .str z1]) with
            | true =>
              simp only [↓reduceIte, sRet, wM, mR, rTup, arC, arN, rC, rV, List.getElem?_cons_zero, List.getElem?_cons_succ, onRo, rosL]
              exact ⟨by rw [sz]; simp, h21 _ (if_pos (hbes.trans (by rw [hb1, hb2]; rfl))) _ ⟨none, none, none, none, rfl⟩⟩
            | false =>
              simp only [Bool.false_eq_true, ↓reduceIte, sNil]
              exact h20 (if_neg (Bool.eq_false_iff.mp (hbes.trans (by rw [hb1, hb2]; rfl)))) _ ⟨_, _, _, _, rfl⟩
        · rintro hf sg ⟨x6, x7, x9, x10, rfl⟩
          rw [find_rg2] at hf
          exact h0 hf _ ⟨_, _, _, _, _, rfl⟩
        · rintro r hf sg ⟨x6, x7, x9, x10, rfl⟩
          rw [find_rg2] at hf
          exact h1 r hf _ ⟨_, _, _, _, _, rfl⟩
      · rintro hf sg ⟨x6, x7, x8, x9, x10, rfl⟩
        rw [Int.toNat_natCast, find_rg] at hf
        have : colF rules ws = .non := by
          unfold colF pairF
          rw [hlk, hf]
        rw [this] at h
        exact h
      · rintro r hf sg ⟨x6, x7, x8, x9, x10, rfl⟩
        rw [Int.toNat_natCast, find_rg] at hf
        have : colF rules ws = r := by
          unfold colF pairF
          rw [hlk, hf]
        rw [this] at h
        exact h
    · intro r hf sg hsg
      obtain ⟨x6, x7, rfl⟩ := hsg
      rw [find_en] at hf
      have hlk : lackF ws = some r := by
        simp only [Nat.zero_add] at hf
        exact hf
      have : colF rules ws = r := by unfold colF; rw [hlk]
      rw [this] at h
      exact h
  · rintro r rest acc sg Kn ⟨x4, x5, ss', ps', rfl, hr, ha, ho, hn⟩ hk
    obtain ⟨s, ss', p, ps', rfl, rfl, rfl, rfl⟩ : ∃ s ss2 p ps2, ss' = s :: ss2 ∧ ps' = p :: ps2 ∧ r = .tup [.int s, nD p] ∧ rest = zpD (ss2.map D.int) (ps2.map nD) := by
      cases ss' with
      | nil => cases hr
      | cons s ss' => cases ps' with
        | nil => cases hr
        | cons p ps' => cases hr; exact ⟨s, ss', p, ps', rfl, rfl, rfl, rfl⟩
    have hs1 := ho.2 s List.mem_cons_self
    obtain ⟨e, he, hm⟩ := atI_some (xs := sets) hs1.1 hs1.2
    simp only [wipeP, List.set, gT, gsC, gsN, gN, tYesP, mW, wMethR, mR, rV, onRo, List.getElem?_cons_zero, List.getElem?_cons_succ, axR, axN, callGo, takeA, schD]
    refine ⟨rfl, ?_⟩
    rw [if_pos trivial]
    refine ⟨trivial, rfl, rfl, lad, sets, rules, s, p.1, p.2, e, rfl, he, ok.st _ hm, by rw [sz]; have := hs.1; omega, hk _ _ ⟨_, _, ss', ps', rfl, rfl, ?_, ⟨by have := ho.1; simpa using this, fun i hi => ho.2 i (List.mem_cons_of_mem _ hi)⟩, by simp at hn ⊢; omega⟩⟩
    have e2 : words lad sets (s :: ss') (p :: ps') = wd lad sets s p :: words lad sets ss' ps' := rfl
    have e3 : wd lad sets s p = look lad e (nD p) := by unfold wd; rw [he]
    rw [← ha, e2, e3]
    simp [O.d, nD]
end Sp
end
section
open PySem PySem.W PySem.Spec PyProof.Rows L2 Pu Rd
set_option Elab.async false
set_option linter.all false
set_option maxRecDepth 100000
set_option maxHeartbeats 4000000
namespace Sp
theorem perm2 {a b : Str} {l : List Str} (h : l.Perm [a, b]) : l = [a, b] ∨ l = [b, a] := by
  have hl := h.length_eq
  match l, hl with
  | [x, y], _ =>
    have hx : x ∈ [a, b] := h.subset (by simp)
    simp only [List.mem_cons, List.not_mem_nil, or_false] at hx
    rcases hx with rfl | rfl
    · have := (List.perm_cons x).mp h
      rw [List.perm_singleton] at this
      cases this
      exact .inl rfl
    · have := (List.perm_cons x).mp (h.trans (List.Perm.swap x a []))
      rw [List.perm_singleton] at this
      cases this
      exact .inr rfl
theorem cps_inj {x y : Str} (h : x.cps.toList = y.cps.toList) : x = y := by
  cases x; cases y
  simp only [Str.mk.injEq] at h ⊢
  exact Array.toList_inj.mp h
theorem sort2_ne {x y : Str} (h1 : sortedS [x, y] = true) (h2 : sortedS [y, x] = true) : x = y := by
  simp only [sortedS, risingS, Bool.and_true, Bool.not_eq_true', ltCps_eq, decide_eq_false_iff_not] at h1 h2
  exact cps_inj (List.le_antisymm h1 h2)
theorem sort2 {a b : Str} {p q : List Str} (hp : p.Perm [a, b]) (sp : sortedS p = true) (hq : q.Perm [a, b]) (sq : sortedS q = true) : p = q := by
  rcases perm2 hp with rfl | rfl <;> rcases perm2 hq with rfl | rfl
  · rfl
  · rw [sort2_ne sp sq]
  · rw [sort2_ne sp sq]
  · rfl
open Classical in
noncomputable def isB (z1 z2 : Str) (d : D) : Bool := decide (d = .tup [.str "beside", .str z1, .str z2] ∨ d = .tup [.str "beside", .str z2, .str z1])
theorem isB_over {z1 z2 : Str} {a b : Int} : isB z1 z2 (.tup [.str "over", .int a, .int b]) = false := by
  unfold isB
  apply decide_eq_false
  rintro (h | h) <;> simp at h
theorem isB_at {z1 z2 w : Str} : isB z1 z2 (.tup [.str "at", .str w]) = false := by
  unfold isB
  apply decide_eq_false
  rintro (h | h) <;> simp at h
theorem isB_bes {z1 z2 w v : Str} : (isB z1 z2 (.tup [.str "beside", .str w, .str v]) = true) ↔ (w = z1 ∧ v = z2 ∨ w = z2 ∧ v = z1) := by
  unfold isB
  rw [decide_eq_true_iff]
  simp
theorem strs_ok {n : Nat} {xs : List Str} (h : ∀ x ∈ xs, Word x) : Okd (n + 1) (.lst (xs.map D.str)) := .lst fun d hd => by
  obtain ⟨x, hx, rfl⟩ := List.mem_map.mp hd
  exact word_ok (h x hx)
theorem sort_eqb {z1 z2 w v : Str} (h1 : Word z1) (h2 : Word z2) (h3 : Word w) (h4 : Word v) {p q : List Str} (hp : p.Perm [z1, z2]) (sp : sortedS p = true) (hq : q.Perm [w, v]) (sq : sortedS q = true) :
    (D.lst (q.map D.str)).fine = true ∧ (D.lst (p.map D.str)).fine = true ∧ (D.lst (q.map D.str)).eqb (.lst (p.map D.str)) = isB z1 z2 (.tup [.str "beside", .str w, .str v]) := by
  have wq : ∀ x ∈ q, Word x := fun x hx => by
    have := hq.subset hx
    simp only [List.mem_cons, List.not_mem_nil, or_false] at this
    rcases this with rfl | rfl
    · exact h3
    · exact h4
  have wp : ∀ x ∈ p, Word x := fun x hx => by
    have := hp.subset hx
    simp only [List.mem_cons, List.not_mem_nil, or_false] at this
    rcases this with rfl | rfl
    · exact h1
    · exact h2
  have oq := strs_ok (n := 0) wq
  have op := strs_ok (n := 0) wp
  refine ⟨oq.fine, op.fine, ?_⟩
  rw [Bool.eq_iff_iff, oq.eqb_iff op, isB_bes]
  constructor
  · intro e
    injection e with e
    rw [map_str] at e
    subst e
    rcases perm2 hq with e1 | e1 <;> rcases perm2 hp with e2 | e2 <;> rw [e1] at e2 <;> simp at e2
    · exact .inl e2
    · exact .inr e2
    · exact .inr ⟨e2.2, e2.1⟩
    · exact .inl ⟨e2.2, e2.1⟩
  · rintro (⟨rfl, rfl⟩ | ⟨rfl, rfl⟩)
    · rw [sort2 hq sq hp sp]
    · rw [sort2 hq sq (hp.trans (List.Perm.swap _ _ [])) sp]
theorem filt_bes {rules : List D} {z1 z2 : Str} : (rules.filter (isB z1 z2)).isEmpty = !(besB rules (.str z1) (.str z2)) := by
  rw [Bool.eq_iff_iff, List.isEmpty_iff, List.filter_eq_nil_iff]
  unfold besB hasB isB
  simp only [Bool.not_eq_true', Bool.or_eq_false_iff, decide_eq_false_iff_not, decide_eq_true_iff]
  constructor
  · exact fun h => ⟨fun z => h _ z (.inl rfl), fun z => h _ z (.inr rfl)⟩
  · rintro ⟨h1, h2⟩ a ha (rfl | rfl)
    · exact h1 ha
    · exact h2 ha
theorem rg_map {ws : List D} {n : Nat} (h : ws.length = n) : (rgD 0 n).map (fun d => ws.getD (dInt d).toNat .non) = ws := by
  subst h
  unfold rgD
  rw [List.map_map]
  refine List.ext_getElem (by simp) fun i h1 h2 => ?_
  simp [dInt, h2]
theorem b_over_bes : (("over" : Str) == ("beside" : Str)) = false := by decide +kernel
theorem b_at_bes : (("at" : Str) == ("beside" : Str)) = false := by decide +kernel
def psi_in_column : PSp := fun os Q _ => ∃ (lad : List Int) (sets rules : List D) (ps : List Note) (ss : List Int), os = [.ro (dT lad sets rules), .ro (cD ps), .ro (sD ss)] ∧ OkT lad sets rules ∧ OkSets sets.length ps.length ss ∧ (∀ p ∈ ps, 0 ≤ p.1) ∧ ps.length ≤ 3 ∧ Q (.ro (colF rules (words lad sets ss ps))) os
theorem mo_in_column : PMono psi_in_column := fun os Q1 Q2 E1 E2 h _ ⟨a, b, c, d, e, f, h1, h2, h3, h4, q⟩ => ⟨a, b, c, d, e, f, h1, h2, h3, h4, h _ _ q⟩
theorem pu_in_column (os : List O) (Qp : O → List O → Prop) (Ep : PX) (hl : os.length = 3) (h : psi_in_column os Qp Ep) : t_in_column psi_name (endP [] os Qp Ep) (startP 9 os) := by
  obtain ⟨lad, sets, rules, ps, ss, rfl, ok, hs, hp0, h3, h⟩ := h
  change sSeq _ _ _ [some (.ro (dT lad sets rules)), some (.ro (cD ps)), some (.ro (sD ss)), none, none, none, none, none, none]
  have wl := words_len (lad := lad) (sets := sets) (ss := ss) (ps := ps) hs.1.symm
  have hsl := hs.1
  simp only [sSeq, sSet, wLc, iR1, amC, amN, mR, rN, arC, arN, rV, onRo, List.getElem?_cons_zero, List.getElem?_cons_succ, cD, sD, ↓e_lenRT, List.length_map]
  refine ⟨⟨by omega, by omega⟩, ?_⟩
  refine lc_pure 4 (fun _ => true) (fun d => (words lad sets ss ps).getD (dInt d).toNat .non) _ _ _ rfl (by rw [rgD_len, sz]; simp; omega) (fun d _ Kn q => q) (fun d hm _ Kn q => ?_) ?_
  · obtain ⟨k, hk, rfl⟩ := rgD_mem hm
    have hk : k < ps.length := by simpa using hk
    have hp : ps[k]? = some ps[k] := List.getElem?_eq_getElem hk
    have hs2 : ss[k]? = some ss[k] := List.getElem?_eq_getElem (by omega)
    have a1 : atI (ps.map nD) (k : Int) = some (nD ps[k]) := by
      rw [atI_map]; unfold atI ixN
      rw [if_pos (by omega), if_pos (by omega)]
      simp [hk]
    have a2 : atI (ss.map D.int) (k : Int) = some (.int ss[k]) := by
      rw [atI_map]; unfold atI ixN
      rw [if_pos (by omega), if_pos (by omega)]
      simp [hs2]
    have hs1 := hs.2 ss[k] (List.getElem_mem _)
    obtain ⟨e, he, hm⟩ := atI_some (xs := sets) hs1.1 hs1.2
    have eq2 : (words lad sets ss ps).getD k .non = look lad e (nD ps[k]) := by
      rw [List.getD_eq_getElem?_getD, words_get hs2 hp]
      unfold wd
      rw [he]; rfl
    simp only [List.set, mW, wCall, axR, axN, mR, rV, r2, onRo, callGo, takeA, List.getElem?_cons_zero, List.getElem?_cons_succ, ↓e_ixRT, a1, a2]
    refine ⟨rfl, lad, sets, rules, ss[k], ps[k].1, ps[k].2, e, rfl, hp0 _ (List.getElem_mem _), he, ok.st _ hm, ?_⟩
    simp only [dInt, Int.toNat_natCast, eq2] at q
    exact q
  · have ef : ([] ++ ((rgD 0 ((ps.length : Int)).toNat).filter fun _ => true).map fun d => (words lad sets ss ps).getD (dInt d).toNat .non) = words lad sets ss ps := by
      rw [filter_tt, List.nil_append, rg_map (by rw [wl, hsl]; simp)]
    rw [ef]
    have lw : lackF (words lad sets ss ps) = none → ∀ k, k < (words lad sets ss ps).length → ∃ z, Word z ∧ (words lad sets ss ps).getD k .non = .str z := fun h k hk => lack_words ok h hk
    generalize words lad sets ss ps = ws at *
    simp only [List.set]
    simp only [sFor, iR1, amC, amN, mR, rN, arC, arN, rV, List.getElem?_cons_zero, List.getElem?_cons_succ, ↓e_lenL, onRo, List.length_map]
    refine ⟨⟨by omega, by omega⟩, ?_⟩
    refine for_find (fun sg => ∃ x4 : Option O, sg = [some (.ro (dT lad sets rules)), some (.ro (cD ps)), some (.ro (sD ss)), some (.lst (ws.map .ro)), x4, none, none, none, none]) (fI fun k => if (O.ro (ws.getD k .non)).nonB = true then some (.tup [.str "lacks", .int k]) else none) _ _ ⟨none, rfl⟩ ?_ ?_ ?_
    · rintro d hd sg Kn ⟨x4, rfl⟩ h0 h1
      obtain ⟨k, hk, rfl⟩ := rgD_mem hd
      have hk : k < ws.length := by simpa using hk
      have a1 : atI (ws.map O.ro) (k : Int) = some (.ro (ws.getD k .non)) := by rw [atI_map, atI_getD hk]; rfl
      simp only [gN, List.set, sIf, bR, r2, rV, rC, List.getElem?_cons_zero, List.getElem?_cons_succ, ↓e_ixL, a1, ↓e_isN, onRo, onBl, Bool.false_xor]
      cases hb : (O.ro (ws.getD k .non)).nonB with
      | true =>
        simp only [↓reduceIte, sRet, wM, mR, rTup, arC, arN, rC, rV, List.getElem?_cons_zero, List.getElem?_cons_succ, onRo, rosL]
        exact ⟨by rw [sz]; simp, h1 _ (if_pos hb) _ ⟨none, rfl⟩⟩
      | false =>
        simp only [Bool.false_eq_true, ↓reduceIte, sNil]
        exact h0 (if_neg (Bool.eq_false_iff.mp hb)) _ ⟨_, rfl⟩
    · rintro hf sg ⟨x4, rfl⟩
      rw [Int.toNat_natCast, find_rg] at hf
      have hlk : lackF ws = none := hf
      have hws := lw hlk
      simp only [sSeq, sFor, iR1, amC, amN, mR, rN, arC, arN, rV, List.getElem?_cons_zero, List.getElem?_cons_succ, ↓e_lenL, onRo, List.length_map]
      refine ⟨⟨by omega, by omega⟩, ?_⟩
      refine for_find (fun sg => ∃ x4 x5 x6 x7 x8 : Option O, sg = [some (.ro (dT lad sets rules)), some (.ro (cD ps)), some (.ro (sD ss)), some (.lst (ws.map .ro)), x4, x5, x6, x7, x8]) (fI (pairI rules ws)) _ _ ⟨_, _, _, _, _, rfl⟩ ?_ ?_ ?_
      · rintro d hd sg Kn ⟨x4, x5, x6, x7, x8, rfl⟩ h0 h1
        obtain ⟨i, hi, rfl⟩ := rgD_mem hd
        have hi : i < ws.length := by simpa using hi
        simp only [gN, List.set, sFor, iR2, amC, amN, mR, rN, r2, rC, arC, arN, rV, List.getElem?_cons_zero, List.getElem?_cons_succ, ↓e_lenL, ↓e_addI, onRo, List.length_map]
        refine ⟨⟨by omega, by omega, by omega, by omega⟩, ?_⟩
        have e1 : ((ws.length : Int) - ((i : Int) + 1)).toNat = ws.length - (i + 1) := by omega
        rw [e1, show ((i : Int) + 1) = ((i + 1 : Nat) : Int) by omega]
        refine for_find (fun sg => ∃ x4 x6 x7 x8 : Option O, sg = [some (.ro (dT lad sets rules)), some (.ro (cD ps)), some (.ro (sD ss)), some (.lst (ws.map .ro)), x4, some (.ro (.int i)), x6, x7, x8]) (fI fun o => if besB rules (ws.getD i .non) (ws.getD o .non) = true then some (.tup [.str "beside", .int i, .int o]) else none) _ _ ⟨_, _, _, _, rfl⟩ ?_ ?_ ?_
        · rintro d hd2 sg Kn2 ⟨x4, x6, x7, x8, rfl⟩ h20 h21
          obtain ⟨j, hj, rfl⟩ := rgD_mem2 hd2
          rw [show (((i + 1 : Nat) : Int) + (j : Int)) = ((i + 1 + j : Nat) : Int) by omega] at h20 h21 ⊢
          have ho : i + 1 + j < ws.length := by omega
          generalize i + 1 + j = o at *
          obtain ⟨z1, hz1, ez1⟩ := hws i hi
          obtain ⟨z2, hz2, ez2⟩ := hws o ho
          have a1 : atI (ws.map O.ro) (i : Int) = some (.ro (.str z1)) := by rw [atI_map, atI_getD hi, ez1]; rfl
          have a2 : atI (ws.map O.ro) (o : Int) = some (.ro (.str z2)) := by rw [atI_map, atI_getD ho, ez2]; rfl
          have rk := rules_ok ok.rl
          simp only [gN, List.set, sSeq, sSet, wM, mR, rN, rLst, arC, arN, r2, rC, rV, List.getElem?_cons_zero, List.getElem?_cons_succ, ↓e_ixL, a1, a2, onRo, rosL]
          refine ⟨by rw [sz]; simp, [z1, z2], .inl rfl, by rw [sz]; simp, fun pr hpr spr => ?_⟩
          simp only [onRo, sIf, bM, m2, mW, wLc, iL, mR, r2, rC, rV, List.getElem?_cons_zero, List.getElem?_cons_succ, dT, ↓e_ixRT, at3_2, List.set]
          refine lc_pure 8 (isB z1 z2) id _ _ _ rfl (by rw [sz]; have := ok.r12; simp; omega) (fun d hd Kn q => ?_) (fun d hm _ Kn q => q) ?_
          · simp only [bAnd, bR, r2, rC, rV, List.set, List.getElem?_cons_zero, List.getElem?_cons_succ]
            cases ok.rl d hd with
            | over h1 h2 h3 h4 h5 =>
              rw [isB_over] at q
              simp only [↓e_ixRT, at3_0, e_eq, O.d, eqb_str, b_over_bes, onRo, onBl, Bool.false_xor, Bool.false_eq_true, ↓reduceIte]
              exact ⟨kw_ok.2.1.fine (n := 0), kw_ok.1.fine (n := 0), q⟩
            | at' h1 =>
              rw [isB_at] at q
              simp only [↓e_ixRT, at2_0, e_eq, O.d, eqb_str, b_at_bes, onRo, onBl, Bool.false_xor, Bool.false_eq_true, ↓reduceIte]
              exact ⟨kw_ok.2.2.1.fine (n := 0), kw_ok.1.fine (n := 0), q⟩
            | beside hw hv =>
              rename_i w v
              simp only [↓e_ixRT, at3_0, e_eq, O.d, eqb_str, str_refl, onRo, onBl, Bool.false_xor, ↓reduceIte, rN, arC, arN, rSlc, poI, poN, rV, rC, List.getElem?_cons_zero, List.getElem?_cons_succ, ↓e_slRT]
              refine ⟨kw_ok.1.fine (n := 0), kw_ok.1.fine (n := 0), 1, rfl, [w, v], .inr rfl, by rw [sz]; simp, fun ys hy sy => ?_⟩
              obtain ⟨f1, f2, e⟩ := sort_eqb hz1 hz2 hw hv hpr spr hy sy
              simp only [O.d, e, onRo, onBl, Bool.false_xor]
              exact ⟨f1, f2, q⟩
          · have ef : ([] ++ (rules.filter (isB z1 z2)).map id) = rules.filter (isB z1 z2) := by simp
            rw [ef]
            have fo : Okd 2 (.lst (rules.filter (isB z1 z2))) := .lst fun x hx => rule_ok (ok.rl x ((List.mem_filter.mp hx).1))
            simp only [rLst, arN, rosL, onRo, e_eq, O.d, ds_ro, eqb_nil, filt_bes, onBl, List.set, dT]
            have hbes : besB rules (ws.getD i .non) (ws.getD o .non) = besB rules (.str z1) (.str z2) := by rw [ez1, ez2]
            refine ⟨by rw [sz]; simp, fo.fine, fine_nil, ?_⟩
            cases hb : besB rules (.str z1) (.str z2) with
            | true =>
              simp only [Bool.not_true, Bool.xor_false, ↓reduceIte, sRet, wM, mR, rTup, arC, arN, rC, rV, List.getElem?_cons_zero, List.getElem?_cons_succ, onRo, rosL]
              exact ⟨by rw [sz]; simp, h21 _ (if_pos (hbes.trans hb)) _ ⟨none, none, none, none, rfl⟩⟩
            | false =>
              simp only [Bool.not_false, Bool.xor_self, Bool.false_eq_true, ↓reduceIte, sNil]
              exact h20 (if_neg (Bool.eq_false_iff.mp (hbes.trans hb))) _ ⟨_, _, _, _, rfl⟩
        · rintro hf sg ⟨x4, x6, x7, x8, rfl⟩
          rw [find_rg2] at hf
          exact h0 hf _ ⟨_, _, _, _, _, rfl⟩
        · rintro r hf sg ⟨x4, x6, x7, x8, rfl⟩
          rw [find_rg2] at hf
          exact h1 r hf _ ⟨_, _, _, _, _, rfl⟩
      · rintro hf sg ⟨x4, x5, x6, x7, x8, rfl⟩
        rw [Int.toNat_natCast, find_rg] at hf
        have : colF rules ws = .non := by
          unfold colF pairF
          rw [hlk, hf]
        rw [this] at h
        exact h
      · rintro r hf sg ⟨x4, x5, x6, x7, x8, rfl⟩
        rw [Int.toNat_natCast, find_rg] at hf
        have : colF rules ws = r := by
          unfold colF pairF
          rw [hlk, hf]
        rw [this] at h
        exact h
    · rintro r hf sg ⟨x4, rfl⟩
      rw [Int.toNat_natCast, find_rg] at hf
      have hlk : lackF ws = some r := hf
      have : colF rules ws = r := by unfold colF; rw [hlk]
      rw [this] at h
      exact h
end Sp
end
section
open PySem PySem.W PySem.Spec PyProof.Rows L2 Pu Rd
set_option Elab.async false
set_option linter.all false
set_option maxRecDepth 100000
set_option maxHeartbeats 4000000
namespace Sp
/-! ### from column to column -/
noncomputable def over1 (rules : List D) (w : D) (a b : Int) : D := if (O.ro w).nonB = true then .str "common" else if hasB rules (.tup [.str "over", .int a, .int b]) = true then .str "over" else if hasB rules (.tup [.str "at", w]) = true then .str "at" else .non
theorem over1_or {rules : List D} {w : D} {a b : Int} : over1 rules w a b = .non ∨ ∃ z, over1 rules w a b = .str z := by
  unfold over1
  split
  · exact .inr ⟨_, rfl⟩
  · split
    · exact .inr ⟨_, rfl⟩
    · split
      · exact .inr ⟨_, rfl⟩
      · exact .inl rfl
noncomputable def stepI (lad : List Int) (sets rules : List D) (ps : List Note) (ah ss : List Int) (k : Nat) : Option D :=
  if ah.getD k 0 = ss.getD k 0 then none else match over1 rules (wd lad sets (ss.getD k 0) (ps.getD k (0, 0))) (ah.getD k 0) (ss.getD k 0) with
    | .str z => some (.tup [.str z, .int k])
    | _ => none
noncomputable def stepF (lad : List Int) (sets rules : List D) (ps : List Note) (ah ss : List Int) : D := match (List.range ps.length).findSome? (stepI lad sets rules ps ah ss) with
  | some r => r
  | none => .non
theorem atI_int {ss : List Int} {k : Nat} (h : k < ss.length) : atI (ss.map D.int) (k : Int) = some (.int (ss.getD k 0)) := by
  rw [atI_map]; unfold atI ixN
  rw [if_pos (by omega), if_pos (by omega), List.getD_eq_getElem?_getD]
  simp [h]
theorem atI_note {ps : List Note} {k : Nat} (h : k < ps.length) : atI (ps.map nD) (k : Int) = some (nD (ps.getD k (0, 0))) := by
  rw [atI_map]; unfold atI ixN
  rw [if_pos (by omega), if_pos (by omega), List.getD_eq_getElem?_getD]
  simp [h]
theorem getD_memI {ss : List Int} {k : Nat} (h : k < ss.length) : ss.getD k 0 ∈ ss := by
  rw [List.getD_eq_getElem?_getD, List.getElem?_eq_getElem h]
  exact List.getElem_mem h
theorem getD_memN {ps : List Note} {k : Nat} (h : k < ps.length) : ps.getD k (0, 0) ∈ ps := by
  rw [List.getD_eq_getElem?_getD, List.getElem?_eq_getElem h]
  exact List.getElem_mem h
theorem kept_get' {C : Addr} {lad : List Int} {sets rules : List D} {Q : O → Prop} : pFld C "kept" (.ro (.ins C [("gaps", dI lad), ("heights", dI (hts lad)), ("told", .lst sets), ("tables", .lst (sets.map (tabD lad))), ("kept", .lst rules)])) Q = Q (.ro (.lst rules)) := kept_get
variable (C : Addr)
def psi_over_fault : PSp := fun os Q _ => ∃ (lad : List Int) (sets rules : List D) (p : Note) (a b : Int), os = [.ro (schD C lad sets rules), .ro (nD p), .ro (.int a), .ro (.int b)] ∧ OkT lad sets rules ∧ 0 ≤ b ∧ b < (sets.length : Int) ∧ Q (.ro (over1 rules (wd lad sets b p) a b)) os
theorem mo_over_fault : PMono (psi_over_fault C) := fun os Q1 Q2 E1 E2 h _ ⟨a, b, c, d, e, f, h1, h2, h3, h4, q⟩ => ⟨a, b, c, d, e, f, h1, h2, h3, h4, h _ _ q⟩
theorem pu_over_fault (os : List O) (Qp : O → List O → Prop) (Ep : PX) (hl : os.length = 4) (h : psi_over_fault C os Qp Ep) : t_over_fault (psi_named C) C (endP [] os Qp Ep) (startP 5 os) := by
  obtain ⟨lad, sets, rules, p, a, b, rfl, ok, hb0, hb1, h⟩ := h
  change sSeq _ _ _ [some (.ro (schD C lad sets rules)), some (.ro (nD p)), some (.ro (.int a)), some (.ro (.int b)), none]
  obtain ⟨e, he, hm⟩ := atI_some (xs := sets) hb0 hb1
  have ew : wd lad sets b p = look lad e (nD p) := by unfold wd; rw [he]
  have rk := rules_ok ok.rl
  have k1 : Okd 1 (.tup [.str "over", .int a, .int b]) := mem3_ok kw_ok.2.1 .int .int
  simp only [sSeq, sSet, wM, mW, wMethR, mR, rV, onRo, List.getElem?_cons_zero, List.getElem?_cons_succ, axR, axN, callGo, takeA, schD]
  refine ⟨trivial, rfl, rfl, lad, sets, rules, b, p.1, p.2, e, rfl, he, ok.st _ hm, ?_⟩
  rw [show look lad e (.tup [.int p.1, .int p.2]) = wd lad sets b p from ew.symm]
  have wo := wd_or ok b p
  generalize wd lad sets b p = w at *
  simp only [backA, O.d, List.set, sIf, bR, r2, rV, rC, List.getElem?_cons_zero, List.getElem?_cons_succ, ↓e_isN, onRo, onBl, Bool.false_xor]
  rcases wo with rfl | ⟨z, hz, rfl⟩
  · simp only [O.nonB, ↓reduceIte, sRet, wM, mR, rC, onRo]
    exact h
  · have k2 : Okd 1 (.tup [.str "at", .str z]) := mem2_ok kw_ok.2.2.1 (word_ok hz)
    simp only [O.nonB, Bool.false_eq_true, ↓reduceIte, sNil, sSeq, sIf, bR, r2, r1, rTup, arC, arN, rC, rV, List.getElem?_cons_zero, List.getElem?_cons_succ, onRo, rosL, ↓kept_get, ↓kept_get', ↓e_in, O.d, has_any ok.rl k1, onBl, Bool.false_xor]
    refine ⟨by rw [sz]; simp, k1.fine, rk.fine, ?_⟩
    unfold over1 at h
    rw [if_neg (by simp [O.nonB])] at h
    cases hb1 : hasB rules (.tup [.str "over", .int a, .int b]) with
    | true =>
      rw [if_pos hb1] at h
      simp only [↓reduceIte, sRet, wM, mR, rC, onRo]
      exact h
    | false =>
      rw [if_neg (Bool.eq_false_iff.mp hb1)] at h
      simp only [Bool.false_eq_true, ↓reduceIte, sRet, wM, mIf, mR, bR, r1, r2, rTup, arC, arN, rC, rV, List.getElem?_cons_zero, List.getElem?_cons_succ, onRo, rosL, ↓kept_get, ↓kept_get', ↓e_in, O.d, has_any ok.rl k2, onBl, Bool.false_xor]
      refine ⟨by rw [sz]; simp, k2.fine, rk.fine, ?_⟩
      cases hb2 : hasB rules (.tup [.str "at", .str z]) with
      | true =>
        rw [if_pos hb2] at h
        simp only [↓reduceIte]
        exact h
      | false =>
        rw [if_neg (Bool.eq_false_iff.mp hb2)] at h
        simp only [Bool.false_eq_true, ↓reduceIte]
        exact h
def psi_step_fault : PSp := fun os Q _ => ∃ (lad : List Int) (sets rules : List D) (ps : List Note) (ah ss : List Int), os = [.ro (schD C lad sets rules), .ro (cD ps), .ro (sD ah), .ro (sD ss)] ∧ OkT lad sets rules ∧ OkSets sets.length ps.length ss ∧ ah.length = ps.length ∧ Q (.ro (stepF lad sets rules ps ah ss)) os
theorem mo_step_fault : PMono (psi_step_fault C) := fun os Q1 Q2 E1 E2 h _ ⟨a, b, c, d, e, f, h1, h2, h3, h4, q⟩ => ⟨a, b, c, d, e, f, h1, h2, h3, h4, h _ _ q⟩
theorem pu_step_fault (os : List O) (Qp : O → List O → Prop) (Ep : PX) (hl : os.length = 4) (h : psi_step_fault C os Qp Ep) : t_step_fault (psi_over_fault C) (endP [] os Qp Ep) (startP 7 os) := by
  obtain ⟨lad, sets, rules, ps, ah, ss, rfl, ok, hs, ha, h⟩ := h
  have hsl := hs.1
  change sSeq _ _ _ [some (.ro (schD C lad sets rules)), some (.ro (cD ps)), some (.ro (sD ah)), some (.ro (sD ss)), none, none, none]
  simp only [sSeq, sFor, iEnT, amC, amN, mR, rV, onRo, List.getElem?_cons_zero, List.getElem?_cons_succ, cD]
  have en : ∀ d ∈ enD 0 (ps.map nD), ∃ k : Nat, k < ps.length ∧ d = .tup [.int k, nD (ps.getD k (0, 0))] := fun d hd => by
    obtain ⟨k, hk, rfl⟩ := mem_en hd
    rw [List.length_map] at hk
    refine ⟨k, hk, ?_⟩
    rw [Nat.zero_add, List.getD_eq_getElem?_getD, List.getD_eq_getElem?_getD]
    simp [hk]
  have ff : (enD 0 (ps.map nD)).findSome? (fE fun k _ => stepI lad sets rules ps ah ss k) = (List.range ps.length).findSome? (stepI lad sets rules ps ah ss) := by
    rw [find_en, List.length_map]
    simp only [Nat.zero_add]
  refine for_find (fun sg => ∃ x4 x5 x6 : Option O, sg = [some (.ro (schD C lad sets rules)), some (.ro (cD ps)), some (.ro (sD ah)), some (.ro (sD ss)), x4, x5, x6]) (fE fun k _ => stepI lad sets rules ps ah ss k) _ _ ⟨none, none, none, rfl⟩ ?_ ?_ ?_
  · rintro d hd sg Kn ⟨x4, x5, x6, rfl⟩ h0 h1
    obtain ⟨k, hk, rfl⟩ := en d hd
    replace h0 : stepI lad sets rules ps ah ss k = none → _ := h0
    replace h1 : ∀ r, stepI lad sets rules ps ah ss k = some r → _ := h1
    have a1 := atI_int (ss := ah) (k := k) (by omega)
    have a2 := atI_int (ss := ss) (k := k) (by omega)
    have b := hs.2 _ (getD_memI (ss := ss) (k := k) (by omega))
    refine ⟨rfl, ?_⟩
    simp only [gsC, gsN, gN, List.set, sIf, bR, r2, rV, rC, List.getElem?_cons_zero, List.getElem?_cons_succ, sD, ↓e_ixRT, a1, a2, e_eq, fine_int, O.d, eqb_int, onRo, onBl, true_and]
    unfold stepI at h0 h1
    by_cases he : ah.getD k 0 = ss.getD k 0
    · rw [if_pos he] at h0
      have hb : (ah.getD k 0 == ss.getD k 0) = true := by simpa using he
      simp only [hb, Bool.xor_self, Bool.false_eq_true, ↓reduceIte, sNil]
      exact h0 rfl _ ⟨_, _, _, rfl⟩
    · rw [if_neg he] at h0
      simp only [if_neg he] at h1
      have hb : (ah.getD k 0 == ss.getD k 0) = false := by simpa using he
      simp only [hb, Bool.xor_false, ↓reduceIte, sSeq, sSet, wM, mW, wCall, axR, axN, mR, rV, r2, onRo, callGo, takeA, List.getElem?_cons_zero, List.getElem?_cons_succ, ↓e_ixRT, a1, a2]
      refine ⟨rfl, lad, sets, rules, ps.getD k (0, 0), ah.getD k 0, ss.getD k 0, rfl, ok, b.1, b.2, ?_⟩
      simp only [backA, O.d, List.set, sIf, bR, r2, rV, rC, List.getElem?_cons_zero, List.getElem?_cons_succ, ↓e_isN, onRo, onBl]
      rcases over1_or (rules := rules) (w := wd lad sets (ss.getD k 0) (ps.getD k (0, 0))) (a := ah.getD k 0) (b := ss.getD k 0) with e | ⟨z, e⟩
      · rw [e] at h0 ⊢
        simp only [O.nonB, Bool.xor_self, Bool.false_eq_true, ↓reduceIte, sNil]
        exact h0 rfl _ ⟨_, _, _, rfl⟩
      · rw [e] at h1 ⊢
        simp only [O.nonB, Bool.xor_false, ↓reduceIte, sRet, wM, mR, rTup, arC, arN, rV, List.getElem?_cons_zero, List.getElem?_cons_succ, onRo, rosL]
        exact ⟨by rw [sz]; simp, h1 _ rfl _ ⟨_, _, _, rfl⟩⟩
  · rintro hf sg ⟨x4, x5, x6, rfl⟩
    rw [ff] at hf
    have : stepF lad sets rules ps ah ss = .non := by unfold stepF; rw [hf]
    rw [this] at h
    exact h
  · rintro r hf sg ⟨x4, x5, x6, rfl⟩
    rw [ff] at hf
    have : stepF lad sets rules ps ah ss = r := by unfold stepF; rw [hf]
    rw [this] at h
    exact h
end Sp
end
section
open PySem PySem.W PySem.Spec PyProof.Rows L2 Pu Rd
set_option Elab.async false
set_option linter.all false
set_option maxRecDepth 100000
set_option maxHeartbeats 4000000
namespace Sp
def psi_follows : PSp := fun os Q _ => ∃ (lad : List Int) (sets rules : List D) (ps : List Note) (ah ss : List Int), os = [.ro (dT lad sets rules), .ro (cD ps), .ro (sD ah), .ro (sD ss)] ∧ OkT lad sets rules ∧ OkSets sets.length ps.length ss ∧ ah.length = ps.length ∧ (∀ p ∈ ps, 0 ≤ p.1) ∧ ps.length ≤ 3 ∧ Q (.ro (stepF lad sets rules ps ah ss)) os
theorem mo_follows : PMono psi_follows := fun os Q1 Q2 E1 E2 h _ ⟨a, b, c, d, e, f, h1, h2, h3, h4, h5, h6, q⟩ => ⟨a, b, c, d, e, f, h1, h2, h3, h4, h5, h6, h _ _ q⟩
theorem pu_follows (os : List O) (Qp : O → List O → Prop) (Ep : PX) (hl : os.length = 4) (h : psi_follows os Qp Ep) : t_follows psi_name (endP [] os Qp Ep) (startP 6 os) := by
  obtain ⟨lad, sets, rules, ps, ah, ss, rfl, ok, hs, ha, hp0, h3, h⟩ := h
  have hsl := hs.1
  change sSeq _ _ _ [some (.ro (dT lad sets rules)), some (.ro (cD ps)), some (.ro (sD ah)), some (.ro (sD ss)), none, none]
  simp only [sSeq, sFor, iR1, amC, amN, mR, rN, arC, arN, rV, onRo, List.getElem?_cons_zero, List.getElem?_cons_succ, cD, ↓e_lenRT, List.length_map]
  refine ⟨⟨by omega, by omega⟩, ?_⟩
  rw [Int.toNat_natCast]
  refine for_find (fun sg => ∃ x4 x5 : Option O, sg = [some (.ro (dT lad sets rules)), some (.ro (cD ps)), some (.ro (sD ah)), some (.ro (sD ss)), x4, x5]) (fI (stepI lad sets rules ps ah ss)) _ _ ⟨none, none, rfl⟩ ?_ ?_ ?_
  · rintro d hd sg Kn ⟨x4, x5, rfl⟩ h0 h1
    obtain ⟨k, hk, rfl⟩ := rgD_mem hd
    replace h0 : stepI lad sets rules ps ah ss k = none → _ := h0
    replace h1 : ∀ r, stepI lad sets rules ps ah ss k = some r → _ := h1
    have a1 := atI_int (ss := ah) (k := k) (by omega)
    have a2 := atI_int (ss := ss) (k := k) (by omega)
    have a3 := atI_note (ps := ps) (k := k) (by omega)
    have b := hs.2 _ (getD_memI (ss := ss) (k := k) (by omega))
    have rk := rules_ok ok.rl
    simp only [gN, List.set, sIf, bR, r2, rV, rC, List.getElem?_cons_zero, List.getElem?_cons_succ, sD, ↓e_ixRT, a1, a2, e_eq, fine_int, O.d, eqb_int, onRo, onBl, true_and]
    unfold stepI at h0 h1
    by_cases he : ah.getD k 0 = ss.getD k 0
    · rw [if_pos he] at h0
      have hb : (ah.getD k 0 == ss.getD k 0) = true := by simpa using he
      simp only [hb, Bool.xor_self, Bool.false_eq_true, ↓reduceIte, sNil]
      exact h0 rfl _ ⟨_, _, rfl⟩
    · rw [if_neg he] at h0
      simp only [if_neg he] at h1
      have hb : (ah.getD k 0 == ss.getD k 0) = false := by simpa using he
      have k1 : Okd 1 (.tup [.str "over", .int (ah.getD k 0), .int (ss.getD k 0)]) := mem3_ok kw_ok.2.1 .int .int
      simp only [hb, Bool.xor_false, ↓reduceIte, sSeq, sSet, wM, mW, wCall, axR, axN, mR, rV, r2, onRo, callGo, takeA, List.getElem?_cons_zero, List.getElem?_cons_succ, ↓e_ixRT, cD, a1, a2, a3]
      obtain ⟨e, he, hm⟩ := atI_some (xs := sets) b.1 b.2
      have ew : wd lad sets (ss.getD k 0) (ps.getD k (0, 0)) = look lad e (nD (ps.getD k (0, 0))) := by unfold wd; rw [he]
      refine ⟨rfl, lad, sets, rules, ss.getD k 0, (ps.getD k (0, 0)).1, (ps.getD k (0, 0)).2, e, rfl, hp0 _ (getD_memN hk), he, ok.st _ hm, ?_⟩
      rw [show look lad e (.tup [.int (ps.getD k (0, 0)).1, .int (ps.getD k (0, 0)).2]) = wd lad sets (ss.getD k 0) (ps.getD k (0, 0)) from ew.symm]
      have wo := wd_or ok (ss.getD k 0) (ps.getD k (0, 0))
      generalize wd lad sets (ss.getD k 0) (ps.getD k (0, 0)) = w at *
      unfold over1 at h0 h1
      simp only [backA, O.d, List.set, sIf, bR, r2, rV, rC, List.getElem?_cons_zero, List.getElem?_cons_succ, ↓e_isN, onRo, onBl, Bool.false_xor]
      rcases wo with rfl | ⟨z, hz, rfl⟩
      · simp only [O.nonB, ↓reduceIte, sRet, wM, mR, rTup, arC, arN, rC, rV, List.getElem?_cons_zero, List.getElem?_cons_succ, onRo, rosL] at h1 ⊢
        exact ⟨by rw [sz]; simp, h1 _ rfl _ ⟨_, _, rfl⟩⟩
      · have k2 : Okd 1 (.tup [.str "at", .str z]) := mem2_ok kw_ok.2.2.1 (word_ok hz)
        rw [if_neg (by simp [O.nonB])] at h0 h1
        simp only [O.nonB, Bool.false_eq_true, ↓reduceIte, sNil, sSeq, sIf, bR, r2, r1, rTup, arC, arN, rC, rV, List.getElem?_cons_zero, List.getElem?_cons_succ, ↓e_ixRT, a1, a2, dT, at3_2, onRo, rosL, ↓e_in, O.d, has_any ok.rl k1, onBl, Bool.false_xor]
        refine ⟨by rw [sz]; simp, k1.fine, rk.fine, ?_⟩
        cases hb1 : hasB rules (.tup [.str "over", .int (ah.getD k 0), .int (ss.getD k 0)]) with
        | true =>
          simp only [if_pos hb1] at h1
          simp only [↓reduceIte, sRet, wM, mR, rTup, arC, arN, rC, rV, List.getElem?_cons_zero, List.getElem?_cons_succ, onRo, rosL]
          exact ⟨by rw [sz]; simp, h1 _ rfl _ ⟨_, _, rfl⟩⟩
        | false =>
          rw [if_neg (Bool.eq_false_iff.mp hb1)] at h0
          simp only [if_neg (Bool.eq_false_iff.mp hb1)] at h1
          simp only [Bool.false_eq_true, ↓reduceIte, sIf, bR, r2, rTup, arC, arN, rC, rV, List.getElem?_cons_zero, List.getElem?_cons_succ, ↓e_ixRT, at3_2, onRo, rosL, ↓e_in, O.d, has_any ok.rl k2, onBl, Bool.false_xor]
          refine ⟨by rw [sz]; simp, k2.fine, rk.fine, ?_⟩
          cases hb2 : hasB rules (.tup [.str "at", .str z]) with
          | true =>
            simp only [if_pos hb2] at h1
            simp only [↓reduceIte, sRet, wM, mR, rTup, arC, arN, rC, rV, List.getElem?_cons_zero, List.getElem?_cons_succ, onRo, rosL]
            exact ⟨by rw [sz]; simp, h1 _ rfl _ ⟨_, _, rfl⟩⟩
          | false =>
            rw [if_neg (Bool.eq_false_iff.mp hb2)] at h0
            simp only [Bool.false_eq_true, ↓reduceIte, sNil]
            exact h0 rfl _ ⟨_, _, rfl⟩
  · rintro hf sg ⟨x4, x5, rfl⟩
    rw [find_rg] at hf
    have : stepF lad sets rules ps ah ss = .non := by unfold stepF; rw [hf]
    rw [this] at h
    exact h
  · rintro r hf sg ⟨x4, x5, rfl⟩
    rw [find_rg] at hf
    have : stepF lad sets rules ps ah ss = r := by unfold stepF; rw [hf]
    rw [this] at h
    exact h
variable (C : Addr)
theorem hei_get {C : Addr} {lad : List Int} {sets rules : List D} {Q : O → Prop} : pFld C "heights" (.ro (schD C lad sets rules)) Q = Q (.ro (dI (hts lad))) := by
  apply propext
  constructor
  · rintro ⟨_, q⟩; exact q
  · intro q; exact ⟨rfl, q⟩
theorem told_get {C : Addr} {lad : List Int} {sets rules : List D} {Q : O → Prop} : pFld C "told" (.ro (schD C lad sets rules)) Q = Q (.ro (.lst sets)) := by
  apply propext
  constructor
  · rintro ⟨_, q⟩; exact q
  · intro q; exact ⟨rfl, q⟩
def psi_need_tune : PSp := fun os Q _ => ∃ (lad : List Int) (sets rules : List D) (many : Nat) (tune : List (List Note)), os = [.ro (schD C lad sets rules), .ro (tD tune)] ∧ OkTune lad.length many tune ∧ Q (.ro .non) os
theorem mo_need_tune : PMono (psi_need_tune C) := fun os Q1 Q2 E1 E2 h _ ⟨a, b, c, d, e, h1, h2, q⟩ => ⟨a, b, c, d, e, h1, h2, h _ _ q⟩
theorem pu_need_tune (os : List O) (Qp : O → List O → Prop) (Ep : PX) (hl : os.length = 2) (h : psi_need_tune C os Qp Ep) : t_need_tune C (endP [] os Qp Ep) (startP 6 os) := by
  obtain ⟨lad, sets, rules, many, tune, rfl, ok, h⟩ := h
  have t1 := ok.t1
  have t24 := ok.t24
  have m1 := ok.m1
  have m3 := ok.m3
  change sSeq _ _ _ [some (.ro (schD C lad sets rules)), some (.ro (tD tune)), none, none, none, none]
  obtain ⟨c0, hc0, hc0m⟩ := atI_some (xs := tune.map cD) (k := 0) (by decide) (by rw [List.length_map]; omega)
  obtain ⟨ps0, hps0, rfl⟩ := List.mem_map.mp hc0m
  have l0 := (ok.co _ hps0).1
  simp only [sSeq, sIf, bNot, bM, mChain, mR, rC, rN, arC, arN, rV, List.getElem?_cons_zero, List.getElem?_cons_succ, tD, ↓e_le, ↓e_lenRL, onRo, onBl, List.length_map]
  rw [if_pos (decide_eq_true (by omega))]
  rw [if_neg (by simp; omega)]
  simp only [sNil, sFor, iEn, amC, amN, mR, rV, List.getElem?_cons_zero, List.getElem?_cons_succ, onRo]
  refine for_ind (fun rest sg => (∃ x2 x3 x4 x5 : Option O, sg = [some (.ro (schD C lad sets rules)), some (.ro (tD tune)), x2, x3, x4, x5]) ∧ ∀ r ∈ rest, ∃ (k : Nat) (ps : List Note), ps ∈ tune ∧ r = .tup [.int k, cD ps]) ?_ ?_ _ _ ⟨⟨none, none, none, none, rfl⟩, fun r hr => ?_⟩
  · rintro sg ⟨⟨x2, x3, x4, x5, rfl⟩, _⟩
    exact h
  · rintro r rest sg Kn ⟨⟨x2, x3, x4, x5, rfl⟩, hr⟩ hk
    obtain ⟨k, ps, hps, rfl⟩ := hr r List.mem_cons_self
    obtain ⟨hlen, hn⟩ := ok.co _ hps
    refine ⟨rfl, ?_⟩
    simp only [gsC, gsN, gN, List.set, sSeq, sIf, bOr, bNot, bM, bR, r2, mChain, mR, rC, rN, arC, arN, rV, List.getElem?_cons_zero, List.getElem?_cons_succ, tD, cD, ↓e_le, ↓e_lenRT, ↓e_ixRL, hc0, e_eq, fine_int, eqb_int, O.d, onRo, onBl, List.length_map, true_and]
    rw [if_pos (decide_eq_true (by omega))]
    have e1 : decide ((ps.length : Int) ≤ 3) = true := decide_eq_true (by omega)
    have e2 : ((ps.length : Int) == (ps0.length : Int)) = true := by rw [hlen, l0]; simp
    simp only [e1, e2, Bool.not_true, Bool.false_eq_true, ↓reduceIte, Bool.xor_self, sNil, sFor, iT, mR, rV, List.getElem?_cons_zero, List.getElem?_cons_succ, onRo]
    refine for_ind (fun rest sg => (∃ x4 x5 : Option O, sg = [some (.ro (schD C lad sets rules)), some (.ro (tD tune)), some (.ro (.int k)), some (.ro (cD ps)), x4, x5]) ∧ ∀ r ∈ rest, ∃ p : Note, OkNote lad.length p ∧ r = nD p) ?_ ?_ _ _ ⟨⟨_, _, rfl⟩, fun r hr => ?_⟩
    · rintro sg ⟨⟨x4, x5, rfl⟩, _⟩
      exact hk _ ⟨⟨_, _, _, _, rfl⟩, fun r h => hr r (List.mem_cons_of_mem _ h)⟩
    · rintro r rest2 sg Kn2 ⟨⟨x4, x5, rfl⟩, hr2⟩ hk2
      obtain ⟨p, hp, rfl⟩ := hr2 r List.mem_cons_self
      obtain ⟨p1, p2, p3, p4⟩ := hp
      refine ⟨rfl, ?_⟩
      have hl : (hts lad).length = lad.length + 1 := by simp [hts]
      simp only [gsC, gsN, gN, List.set, sSeq, sIf, bOr, bNot, bM, mChain, mR, rC, rN, arC, arN, r1, r2, rV, List.getElem?_cons_zero, List.getElem?_cons_succ, ↓e_le, ↓e_lt, ↓e_sub, ↓hei_get, dI, ↓e_lenRL, onRo, onBl, List.length_map, hl]
      rw [if_pos (decide_eq_true p1)]
      have e3 : decide (p.1 < ((lad.length + 1 : Nat) : Int)) = true := decide_eq_true (by omega)
      simp only [e3, Bool.not_true, Bool.false_eq_true, ↓reduceIte]
      rw [if_pos (decide_eq_true (by omega))]
      have e4 : decide (p.2 ≤ (9 : Int)) = true := decide_eq_true p4
      simp only [e4, Bool.not_true, Bool.false_eq_true, ↓reduceIte, sNil]
      exact hk2 _ ⟨⟨_, _, rfl⟩, fun r h => hr2 r (List.mem_cons_of_mem _ h)⟩
    · obtain ⟨p, hp, rfl⟩ := List.mem_map.mp hr
      exact ⟨p, hn p hp, rfl⟩
  · obtain ⟨k, hk, rfl⟩ := mem_en hr
    have hm := getD_mem hk
    obtain ⟨ps, hps, e⟩ := List.mem_map.mp hm
    exact ⟨_, ps, hps, by rw [e]⟩
end Sp
end
section
open PySem PySem.W PySem.Spec PyProof.Rows L2 Pu Rd
set_option Elab.async false
set_option linter.all false
set_option maxRecDepth 100000
set_option maxHeartbeats 4000000
namespace Sp
theorem for_findR {g : TGp} {tb : TSp} {E : PEnds} (S : List D → PSt → Prop) (f : D → Option D) : ∀ (ds : List D) (sg : PSt), S ds sg →
    (∀ d rest, (∃ pre, ds = pre ++ d :: rest) → ∀ (sg : PSt) (Kn : PSt → Prop), S (d :: rest) sg → (f d = none → ∀ sg', S rest sg' → Kn sg') → (∀ r, f d = some r → ∀ sg', E.rt (.ro r) sg') → g d sg fun sg1 => tb { nx := Kn, ct := Kn, bk := E.nx, rt := E.rt, ex := E.ex } sg1) →
    (ds.findSome? f = none → ∀ sg, S [] sg → E.nx sg) → (∀ r, ds.findSome? f = some r → ∀ sg, E.rt (.ro r) sg) → forGo g tb E ds sg
  | [], sg, hs, _, h1, _ => h1 rfl sg hs
  | d :: ds, sg, hs, st, h1, h2 => by
    refine st d ds ⟨[], rfl⟩ sg _ hs (fun hn sg' hs' => ?_) fun r hr sg' => h2 r (by rw [List.findSome?_cons, hr]) sg'
    exact for_findR S f ds sg' hs' (fun e r2 ⟨pre, he⟩ => st e r2 ⟨d :: pre, by rw [he]; rfl⟩) (fun hn2 => h1 (by rw [List.findSome?_cons, hn]; exact hn2)) fun r hr => h2 r (by rw [List.findSome?_cons, hn]; exact hr)
/-! shapes -/
def Shp (d : D) : Prop := d = .non ∨ ∃ (z : Str) (i : Int) (r : List D), d = .tup (.str z :: .int i :: r) ∧ r.length ≤ 1 ∧ PyData.strOk z = true ∧ ∀ x ∈ r, ∃ j, x = .int j
theorem find_some {f : Nat → Option D} {n : Nat} {r : D} (h : (List.range n).findSome? f = some r) : ∃ k, k < n ∧ f k = some r := by
  obtain ⟨k, hk, e⟩ := List.exists_of_findSome?_eq_some h
  exact ⟨k, List.mem_range.mp hk, e⟩
theorem sk {z : Str} (h : Okd 0 (.str z)) : PyData.strOk z = true := by
  cases h with
  | str h => exact h
theorem colF_shp (rules ws : List D) : Shp (colF rules ws) := by
  unfold colF
  cases e : lackF ws with
  | some r =>
    obtain ⟨k, hk, e⟩ := find_some (f := fun k => if (O.ro (ws.getD k .non)).nonB = true then some (.tup [.str "lacks", .int k]) else none) e
    split at e
    · cases e; exact .inr ⟨_, _, [], rfl, by simp, sk kw_ok.2.2.2.1, fun _ h => nomatch h⟩
    · cases e
  | none =>
    dsimp only
    cases e2 : pairF rules ws with
    | some r =>
      obtain ⟨i, hi, e2⟩ := find_some (f := pairI rules ws) e2
      obtain ⟨j, hj, e2⟩ := find_some (f := fun j => if besB rules (ws.getD i .non) (ws.getD (i + 1 + j) .non) = true then some (.tup [.str "beside", .int i, .int ((i + 1 + j : Nat) : Int)]) else none) e2
      split at e2
      · cases e2; exact .inr ⟨_, _, [_], rfl, by simp, sk kw_ok.1, fun x h => by rw [List.mem_singleton.mp h]; exact ⟨_, rfl⟩⟩
      · cases e2
    | none => exact .inl rfl
theorem over1_ok (rules : List D) (w : D) (a b : Int) : ∀ z, over1 rules w a b = .str z → PyData.strOk z = true := by
  intro z h
  unfold over1 at h
  split at h
  · cases h; exact sk kw_ok.2.2.2.2
  · split at h
    · cases h; exact sk kw_ok.2.1
    · split at h
      · cases h; exact sk kw_ok.2.2.1
      · cases h
theorem stepF_shp (lad : List Int) (sets rules : List D) (ps : List Note) (ah ss : List Int) : Shp (stepF lad sets rules ps ah ss) := by
  unfold stepF
  cases e : (List.range ps.length).findSome? (stepI lad sets rules ps ah ss) with
  | some r =>
    obtain ⟨k, hk, e⟩ := find_some e
    unfold stepI at e
    split at e
    · cases e
    · split at e
      · rename_i z hz
        cases e
        exact .inr ⟨_, _, [], rfl, by simp, over1_ok _ _ _ _ _ hz, fun _ h => nomatch h⟩
      · cases e
  | none => exact .inl rfl
noncomputable def nextX (lad : List Int) (sets rules : List D) (tune : List (List Note)) (k : Nat) (ah : Option (List Int)) (ss : List Int) : D := match colF rules (words lad sets ss (tune.getD k [])) with
  | .non => match ah with
    | some a => stepF lad sets rules (tune.getD (k - 1) []) a ss
    | none => .non
  | r => r
theorem nextX_shp (lad : List Int) (sets rules : List D) (tune : List (List Note)) (k : Nat) (ah : Option (List Int)) (ss : List Int) : Shp (nextX lad sets rules tune k ah ss) := by
  have h := colF_shp rules (words lad sets ss (tune.getD k []))
  unfold nextX
  rcases h with h | ⟨z, i, r, h, h2⟩
  · rw [h]
    cases ah with
    | none => exact .inl rfl
    | some a => exact stepF_shp _ _ _ _ _ _
  · rw [h]
    exact .inr ⟨z, i, r, rfl, h2⟩
theorem atI_col {tune : List (List Note)} {k : Nat} (h : k < tune.length) : atI (tune.map cD) (k : Int) = some (cD (tune.getD k [])) := by
  rw [atI_map]; unfold atI ixN
  rw [if_pos (by omega), if_pos (by omega), List.getD_eq_getElem?_getD]
  simp [h]
theorem getD_memT {α : Type} {tune : List (List α)} {k : Nat} (h : k < tune.length) : tune.getD k [] ∈ tune := by
  rw [List.getD_eq_getElem?_getD, List.getElem?_eq_getElem h]
  exact List.getElem_mem h
def ahD : Option (List Int) → D
  | none => .non
  | some a => sD a
variable (C : Addr)
def psi_next_fault : PSp := fun os Q _ => ∃ (lad : List Int) (sets rules : List D) (many : Nat) (tune : List (List Note)) (k : Nat) (ah : Option (List Int)) (ss : List Int), os = [.ro (schD C lad sets rules), .ro (tD tune), .ro (.int k), .ro (ahD ah), .ro (sD ss)] ∧ OkT lad sets rules ∧ OkTune lad.length many tune ∧ k < tune.length ∧ OkSets sets.length many ss ∧ (∀ a, ah = some a → 1 ≤ k ∧ a.length = many) ∧ Q (.ro (nextX lad sets rules tune k ah ss)) os
theorem mo_next_fault : PMono (psi_next_fault C) := fun os Q1 Q2 E1 E2 h _ ⟨a, b, c, d, e, f, g, g2, h1, h2, h3, h4, h5, h6, q⟩ => ⟨a, b, c, d, e, f, g, g2, h1, h2, h3, h4, h5, h6, h _ _ q⟩
theorem pu_next_fault (os : List O) (Qp : O → List O → Prop) (Ep : PX) (hl : os.length = 5) (h : psi_next_fault C os Qp Ep) : t_next_fault (psi_column_fault C) (psi_step_fault C) (endP [] os Qp Ep) (startP 6 os) := by
  obtain ⟨lad, sets, rules, many, tune, k, ah, ss, rfl, ok, okt, hk, hs, hah, h⟩ := h
  change sSeq _ _ _ [some (.ro (schD C lad sets rules)), some (.ro (tD tune)), some (.ro (.int k)), some (.ro (ahD ah)), some (.ro (sD ss)), none]
  have m3 := okt.m3
  have lc := (okt.co _ (getD_memT hk)).1
  simp only [sSeq, sSet, wM, mW, wCall, axR, axN, mR, rV, r2, onRo, callGo, takeA, List.getElem?_cons_zero, List.getElem?_cons_succ, tD, ↓e_ixRL, atI_col hk]
  refine ⟨rfl, lad, sets, rules, tune.getD k [], ss, rfl, ok, by rw [lc]; exact hs, by omega, ?_⟩
  simp only [backA, O.d, List.set, sIf, bAnd, bR, r2, rV, rC, List.getElem?_cons_zero, List.getElem?_cons_succ, ↓e_isN, onRo, onBl, Bool.false_xor, Bool.true_xor]
  unfold nextX at h
  rcases colF_shp rules (words lad sets ss (tune.getD k [])) with e | ⟨z, i, r, e, _⟩
  · rw [e] at h ⊢
    simp only [O.nonB, ↓reduceIte]
    cases ah with
    | none =>
      simp only [ahD, O.nonB, Bool.not_true, Bool.false_eq_true, ↓reduceIte, sNil, sRet, wM, mR, rV, List.getElem?_cons_zero, List.getElem?_cons_succ, onRo]
      exact h
    | some a =>
      obtain ⟨k1, la⟩ := hah a rfl
      have hk2 : k - 1 < tune.length := by omega
      have lc2 := (okt.co _ (getD_memT hk2)).1
      have ek : ((k : Int) - 1) = ((k - 1 : Nat) : Int) := by omega
      simp only [ahD, sD, O.nonB, Bool.not_false, ↓reduceIte, sSet, wM, mW, wCall, axR, axN, mR, rV, rC, r2, onRo, callGo, takeA, List.getElem?_cons_zero, List.getElem?_cons_succ, ↓e_sub, ek, ↓e_ixRL, atI_col hk2]
      refine ⟨rfl, lad, sets, rules, tune.getD (k - 1) [], a, ss, rfl, ok, by rw [lc2]; exact hs, by omega, ?_⟩
      simp only [backA, O.d, List.set, sRet, wM, mR, rV, List.getElem?_cons_zero, List.getElem?_cons_succ, onRo]
      exact h
  · rw [e] at h ⊢
    simp only [O.nonB, Bool.false_eq_true, ↓reduceIte, sNil, sRet, wM, mR, rV, List.getElem?_cons_zero, List.getElem?_cons_succ, onRo]
    exact h
/-! ### the whole -/
def ahOf (g : List (List Int)) (k : Nat) : Option (List Int) := if k = 0 then none else some (g.getD (k - 1) [])
noncomputable def faultI (lad : List Int) (sets rules : List D) (tune : List (List Note)) (g : List (List Int)) (k : Nat) : Option D := match nextX lad sets rules tune k (ahOf g k) (g.getD k []) with
  | .tup (x :: r) => some (.tup (x :: .int k :: r))
  | _ => none
noncomputable def faultF (lad : List Int) (sets rules : List D) (tune : List (List Note)) (g : List (List Int)) : D := match (List.range g.length).findSome? (faultI lad sets rules tune g) with
  | some r => r
  | none => .non
theorem cut_from1 {α : Type} (x : α) (r : List α) : cut (x :: r) (some 1) none = r := by
  unfold cut
  have e1 : HT.sIx (x :: r).length 0 (some 1) = min 1 (x :: r).length := rfl
  have e2 : HT.sIx (x :: r).length (x :: r).length none = (x :: r).length := rfl
  rw [e1, e2]
  simp
theorem sets_at {g : List (List Int)} {k : Nat} (h : k < g.length) : atI (g.map sD) (k : Int) = some (sD (g.getD k [])) := by
  rw [atI_map]; unfold atI ixN
  rw [if_pos (by omega), if_pos (by omega), List.getD_eq_getElem?_getD]
  simp [h]
theorem en_sets {g : List (List Int)} : ∀ {n : Nat}, enD n (g.map sD) = (List.range g.length).map fun k => .tup [.int ((n + k : Nat) : Int), sD (g.getD k [])] := by
  induction g with
  | nil => intro n; rfl
  | cons a g ih =>
    intro n
    rw [List.length_cons, List.range_succ_eq_map, List.map_cons, List.map_cons, List.map_map]
    show .tup [.int n, sD a] :: enD (n + 1) (g.map sD) = _
    rw [ih]
    congr 1
    refine List.map_congr_left fun k hk => ?_
    show _ = D.tup [.int ((n + (k + 1) : Nat) : Int), sD ((a :: g).getD (k + 1) [])]
    rw [show n + (k + 1) = n + 1 + k by omega]
    rfl
theorem sNil_eq {E : PEnds} {sg : PSt} : sNil E sg = E.nx sg := rfl
theorem tail_fault {i j : Nat} {E : PEnds} {sg : PSt} {d : D} {k : Nat} (hi : sg[i]? = some (some (.ro d))) (hj : sg[j]? = some (some (.ro (.int k)))) (sh : Shp d) (h0 : d = .non → E.nx sg) (h1 : ∀ x r, d = .tup (x :: r) → E.rt (.ro (.tup (x :: .int k :: r))) sg) :
    sIf (bR (r2 (pIsN true) (rV i) (rC .non))) (sRet (wM (mR (r2 pAddU (rTup (arC (r2 pIx (rV i) (rC (.int 0))) (arC (rV j) (arN)))) (rSlc pSl (rV i) (poI (rC (.int 1))) (poN)))))) sNil E sg := by
  simp only [sIf, bR, r2, rV, rC, hi, ↓e_isN, onRo, onBl]
  rcases sh with rfl | ⟨z, i2, r, rfl, hr, _⟩
  · simp only [O.nonB, Bool.xor_self, Bool.false_eq_true, ↓reduceIte, sNil]
    exact h0 rfl
  · have e0 : atI (D.str z :: D.int i2 :: r) 0 = some (.str z) := by
      unfold atI ixN
      rw [if_pos (by omega), if_pos (by simp only [List.length_cons]; omega)]
      rfl
    simp only [O.nonB, Bool.xor_false, ↓reduceIte, sRet, wM, mR, r2, rTup, arC, arN, rSlc, poI, poN, rV, rC, hi, hj, ↓e_ixRT, e0, ↓e_slRT, onRo, rosL]
    refine ⟨by rw [sz]; simp, 1, rfl, ?_⟩
    rw [cut_from1]
    simp only [↓e_addT, onRo]
    exact ⟨by rw [sz]; simp; omega, h1 _ _ rfl⟩
def psi_L_fault : PSp := fun os Q _ => ∃ (lad : List Int) (sets rules : List D) (many : Nat) (tune : List (List Note)) (g : List (List Int)), os = [.ro (dT lad sets rules), .ro (tD tune), .ro (gD g)] ∧ OkT lad sets rules ∧ OkTune lad.length many tune ∧ OkSay sets.length many tune.length g ∧ Q (.ro (faultF lad sets rules tune g)) os
theorem mo_L_fault : PMono psi_L_fault := fun os Q1 Q2 E1 E2 h _ ⟨a, b, c, d, e, f, h1, h2, h3, h4, q⟩ => ⟨a, b, c, d, e, f, h1, h2, h3, h4, h _ _ q⟩
theorem pu_L_fault (os : List O) (Qp : O → List O → Prop) (Ep : PX) (hl : os.length = 3) (h : psi_L_fault os Qp Ep) : t_L_fault psi_in_column psi_follows (endP [] os Qp Ep) (startP 5 os) := by
  obtain ⟨lad, sets, rules, many, tune, g, rfl, ok, okt, okg, h⟩ := h
  change sSeq _ _ _ [some (.ro (dT lad sets rules)), some (.ro (tD tune)), some (.ro (gD g)), none, none]
  have m3 := okt.m3
  have t24 := okt.t24
  have lg := okg.1
  simp only [sSeq, sFor, iR1, amC, amN, mR, rN, arC, arN, rV, onRo, List.getElem?_cons_zero, List.getElem?_cons_succ, tD, ↓e_lenRL, List.length_map]
  refine ⟨⟨by omega, by omega⟩, ?_⟩
  rw [Int.toNat_natCast]
  refine for_find (fun sg => ∃ x3 x4 : Option O, sg = [some (.ro (dT lad sets rules)), some (.ro (tD tune)), some (.ro (gD g)), x3, x4]) (fI (faultI lad sets rules tune g)) _ _ ⟨none, none, rfl⟩ ?_ ?_ ?_
  · rintro d hd sg Kn ⟨x3, x4, rfl⟩ h0 h1
    obtain ⟨k, hk, rfl⟩ := rgD_mem hd
    replace h0 : faultI lad sets rules tune g k = none → _ := h0
    replace h1 : ∀ r, faultI lad sets rules tune g k = some r → _ := h1
    have hkg : k < g.length := by omega
    have lc := okt.co _ (getD_memT hk)
    have hs := okg.2 _ (getD_memT hkg)
    simp only [gN, List.set, sSeq, sSet, wM, mW, wCall, axR, axN, mR, rV, r2, onRo, callGo, takeA, List.getElem?_cons_zero, List.getElem?_cons_succ, tD, gD, ↓e_ixRL, atI_col hk, sets_at hkg]
    refine ⟨rfl, lad, sets, rules, tune.getD k [], g.getD k [], rfl, ok, by rw [lc.1]; exact hs, fun p hp => (lc.2 p hp).1, by omega, ?_⟩
    simp only [backA, O.d, List.set, sIf, bAnd, bR, r2, rV, rC, List.getElem?_cons_zero, List.getElem?_cons_succ, ↓e_isN, ↓e_gt, onRo, onBl, Bool.false_xor, Bool.true_xor]
    have h0' : nextX lad sets rules tune k (ahOf g k) (g.getD k []) = .non → ∀ x3 x4 : Option O, Kn [some (.ro (dT lad sets rules)), some (.ro (tD tune)), some (.ro (gD g)), x3, x4] := fun e x3 x4 => h0 (by unfold faultI; rw [e]) _ ⟨_, _, rfl⟩
    have h1' := fun (x : D) (r : List D) (e : nextX lad sets rules tune k (ahOf g k) (g.getD k []) = .tup (x :: r)) => h1 _ (by unfold faultI; rw [e])
    rcases colF_shp rules (words lad sets (g.getD k []) (tune.getD k [])) with e | e
    · rw [e]
      simp only [O.nonB, ↓reduceIte]
      by_cases hk0 : k = 0
      · have hN : nextX lad sets rules tune k (ahOf g k) (g.getD k []) = .non := by unfold nextX ahOf; rw [e, if_pos hk0]
        rw [if_neg (by simp; omega)]
        rw [sNil_eq]
        dsimp only
        exact tail_fault (i := 4) (j := 3) rfl rfl (.inl rfl) (fun _ => h0' hN _ _) fun x r z => nomatch z
      · have hN : nextX lad sets rules tune k (ahOf g k) (g.getD k []) = stepF lad sets rules (tune.getD (k - 1) []) (g.getD (k - 1) []) (g.getD k []) := by unfold nextX ahOf; rw [e, if_neg hk0]
        rw [if_pos (decide_eq_true (by omega))]
        have hk2 : k - 1 < tune.length := by omega
        have hkg2 : k - 1 < g.length := by omega
        have ek : ((k : Int) - 1) = ((k - 1 : Nat) : Int) := by omega
        have lc2 := okt.co _ (getD_memT hk2)
        have hs2 := okg.2 _ (getD_memT hkg2)
        simp only [sSet, wM, mW, wCall, axR, axN, mR, rV, rC, r2, onRo, callGo, takeA, List.getElem?_cons_zero, List.getElem?_cons_succ, ↓e_sub, ek, ↓e_ixRL, atI_col hk2, sets_at hkg, sets_at hkg2]
        refine ⟨rfl, lad, sets, rules, tune.getD (k - 1) [], g.getD (k - 1) [], g.getD k [], rfl, ok, by rw [lc2.1]; exact hs, by rw [lc2.1]; exact hs2.1, fun p hp => (lc2.2 p hp).1, by omega, ?_⟩
        simp only [backA, O.d, List.set]
        refine tail_fault (i := 4) (j := 3) rfl rfl (stepF_shp _ _ _ _ _ _) (fun z => h0' (hN.trans z) _ _) fun x r z => h1' x r (hN.trans z) _ ⟨_, _, rfl⟩
    · have hN : nextX lad sets rules tune k (ahOf g k) (g.getD k []) = colF rules (words lad sets (g.getD k []) (tune.getD k [])) := by
        obtain ⟨z, i, r, e, _⟩ := e
        unfold nextX; rw [e]
      have e2 := e
      obtain ⟨z, i, r, e, _⟩ := e
      have hb : (O.ro (colF rules (words lad sets (g.getD k []) (tune.getD k [])))).nonB = false := by rw [e]; rfl
      rw [if_neg (by rw [hb]; exact Bool.false_ne_true)]
      rw [if_neg Bool.false_ne_true, sNil_eq]
      dsimp only
      exact tail_fault (i := 4) (j := 3) rfl rfl (.inr e2) (fun z => h0' (hN.trans z) _ _) fun x r z => h1' x r (hN.trans z) _ ⟨_, _, rfl⟩
  · rintro hf sg ⟨x3, x4, rfl⟩
    rw [find_rg, ← lg] at hf
    have : faultF lad sets rules tune g = .non := by unfold faultF; rw [hf]
    rw [this] at h
    exact h
  · rintro r hf sg ⟨x3, x4, rfl⟩
    rw [find_rg, ← lg] at hf
    have : faultF lad sets rules tune g = r := by unfold faultF; rw [hf]
    rw [this] at h
    exact h
end Sp
end
section
open PySem PySem.W PySem.Spec PyProof.Rows L2 Pu Rd
set_option Elab.async false
set_option linter.all false
set_option maxRecDepth 100000
set_option maxHeartbeats 4000000
namespace Sp
variable (C : Addr)
def psi_fault : PSp := fun os Q _ => ∃ (lad : List Int) (sets rules : List D) (many : Nat) (tune : List (List Note)) (g : List (List Int)), os = [.ro (schD C lad sets rules), .ro (tD tune), .ro (gD g)] ∧ OkT lad sets rules ∧ OkTune lad.length many tune ∧ OkSay sets.length many tune.length g ∧ Q (.ro (faultF lad sets rules tune g)) os
theorem mo_fault : PMono (psi_fault C) := fun os Q1 Q2 E1 E2 h _ ⟨a, b, c, d, e, f, h1, h2, h3, h4, q⟩ => ⟨a, b, c, d, e, f, h1, h2, h3, h4, h _ _ q⟩
theorem pu_fault (os : List O) (Qp : O → List O → Prop) (Ep : PX) (hl : os.length = 3) (h : psi_fault C os Qp Ep) : t_fault (psi_need_tune C) C (psi_next_fault C) (endP [] os Qp Ep) (startP 8 os) := by
  obtain ⟨lad, sets, rules, many, tune, g, rfl, ok, okt, okg, h⟩ := h
  change sSeq _ _ _ [some (.ro (schD C lad sets rules)), some (.ro (tD tune)), some (.ro (gD g)), none, none, none, none, none]
  have t1 := okt.t1
  have t24 := okt.t24
  have m1 := okt.m1
  have m3 := okt.m3
  have lg := okg.1
  have k0 : (0 : Nat) < tune.length := by omega
  have lc0 := (okt.co _ (getD_memT k0)).1
  have hc0 := atI_col k0
  rw [show ((0 : Nat) : Int) = 0 from rfl] at hc0
  have sl := ok.s5
  simp only [sSeq, sExpr, mW, wCall, axR, axN, mR, rV, onRo, callGo, takeA, List.getElem?_cons_zero, List.getElem?_cons_succ]
  refine ⟨rfl, lad, sets, rules, many, tune, rfl, okt, ?_⟩
  simp only [backA, sIf, bR, r2, rN, arC, arN, rV, List.getElem?_cons_zero, List.getElem?_cons_succ, tD, gD, ↓e_lenRL, e_eq, fine_int, O.d, eqb_int, onRo, onBl, List.length_map, true_and]
  have hb : ((g.length : Int) == (tune.length : Int)) = true := by rw [lg]; simp
  simp only [hb, Bool.xor_self, Bool.false_eq_true, ↓reduceIte, sNil, sFor, iL, mR, rV, List.getElem?_cons_zero, List.getElem?_cons_succ, onRo]
  refine for_ind (fun rest sg => (∃ x3 x4 : Option O, sg = [some (.ro (schD C lad sets rules)), some (.ro (tD tune)), some (.ro (gD g)), x3, x4, none, none, none]) ∧ ∀ r ∈ rest, ∃ ss, ss ∈ g ∧ r = sD ss) ?_ ?_ _ _ ⟨⟨none, none, rfl⟩, fun r hr => ?_⟩
  · rintro sg ⟨⟨x3, x4, rfl⟩, _⟩
    simp only [sSeq, sSet, wM, sFor, iEn, amC, amN, mR, rC, rV, onRo, List.getElem?_cons_zero, List.getElem?_cons_succ, List.set, gD]
    rw [en_sets]
    have ff : ((List.range g.length).map fun k => D.tup [.int ((0 + k : Nat) : Int), sD (g.getD k [])]).findSome? (fE fun k _ => faultI lad sets rules tune g k) = (List.range g.length).findSome? (faultI lad sets rules tune g) := by
      rw [List.findSome?_map]
      congr 1
      funext k
      simp [fE]
    have rg : ∀ n, ((List.range g.length).map fun k => D.tup [.int ((0 + k : Nat) : Int), sD (g.getD k [])]).length = n → n = g.length := fun n h => by rw [← h]; simp
    refine for_findR (fun rest sg => ∃ (x3 x4 x6 x7 : Option O), sg = [some (.ro (schD C lad sets rules)), some (.ro (tD tune)), some (.ro (gD g)), x3, x4, some (.ro (ahD (ahOf g (g.length - rest.length)))), x6, x7]) (fE fun k _ => faultI lad sets rules tune g k) _ _ ⟨x3, x4, none, none, by simp [ahOf, ahD, gD]⟩ ?_ ?_ ?_
    · rintro d rest ⟨pre, hpre⟩ sg Kn ⟨x3, x4, x6, x7, rfl⟩ h0 h1
      have hle := congrArg List.length hpre
      simp only [List.length_map, List.length_range, List.length_append, List.length_cons] at hle
      have hk : pre.length < g.length := by omega
      have hd : d = .tup [.int ((pre.length : Nat) : Int), sD (g.getD pre.length [])] := by
        have := congrArg (fun l : List D => l[pre.length]?) hpre
        simp only [List.getElem?_map, List.getElem?_append_right (Nat.le_refl _), Nat.sub_self, List.getElem?_cons_zero] at this
        rw [List.getElem?_range hk] at this
        simpa using this.symm
      subst hd
      have e1 : g.length - (rest.length + 1) = pre.length := by omega
      have e2 : g.length - rest.length = pre.length + 1 := by omega
      rw [e2] at h0
      simp only [List.length_cons, e1]
      generalize pre.length = k at *
      have hkt : k < tune.length := by omega
      replace h0 : faultI lad sets rules tune g k = none → _ := h0
      replace h1 : ∀ r, faultI lad sets rules tune g k = some r → _ := h1
      have hs := okg.2 _ (getD_memT hk)
      refine ⟨rfl, ?_⟩
      simp only [gsC, gsN, gN, List.set, sSeq, sSet, wM, mW, wCall, axR, axN, mR, rV, onRo, callGo, takeA, List.getElem?_cons_zero, List.getElem?_cons_succ]
      refine ⟨rfl, lad, sets, rules, many, tune, k, ahOf g k, g.getD k [], rfl, ok, okt, hkt, hs, fun a ha => ?_, ?_⟩
      · unfold ahOf at ha
        by_cases hk0 : k = 0
        · rw [if_pos hk0] at ha; cases ha
        · rw [if_neg hk0] at ha; cases ha
          exact ⟨by omega, (okg.2 _ (getD_memT (by omega))).1⟩
      · simp only [backA, O.d, List.set]
        refine tail_fault (i := 7) (j := 6) rfl rfl (nextX_shp _ _ _ _ _ _ _) (fun e => ?_) fun x r e => h1 _ (by unfold faultI; rw [e]) _
        simp only [rV, List.getElem?_cons_zero, List.getElem?_cons_succ, onRo]
        rw [show ahD (ahOf g (k + 1)) = sD (g.getD k []) by unfold ahOf; rw [if_neg (by omega), Nat.add_sub_cancel]; rfl] at h0
        exact h0 (by unfold faultI; rw [e]) _ ⟨_, _, _, _, rfl⟩
    · rintro hf sg ⟨x3, x4, x6, x7, rfl⟩
      rw [ff] at hf
      have : faultF lad sets rules tune g = .non := by unfold faultF; rw [hf]
      rw [this] at h
      exact h
    · rintro r hf sg
      rw [ff] at hf
      have : faultF lad sets rules tune g = r := by unfold faultF; rw [hf]
      rw [this] at h
      exact h
  · rintro r rest sg Kn ⟨⟨x3, x4, rfl⟩, hr⟩ hk
    obtain ⟨ss, hss, rfl⟩ := hr r List.mem_cons_self
    have hs := okg.2 _ hss
    have hsl := hs.1
    have hb2 : ((ss.length : Int) == ((tune.getD 0 []).length : Int)) = true := by rw [hsl, lc0]; simp
    simp only [gN, List.set, sIf, bOr, bR, bM, m2, r2, rN, rC, arC, arN, mR, mW, wLc, iT, rV, List.getElem?_cons_zero, List.getElem?_cons_succ, tD, sD, ↓e_ixRL, hc0, cD, ↓e_lenRT, e_eq, fine_int, O.d, eqb_int, onRo, onBl, List.length_map, true_and, hb2, Bool.xor_self, Bool.false_eq_true, ↓reduceIte]
    refine lc_pure 4 (fun _ => false) id (ss.map D.int) [] _ rfl (by rw [sz, List.length_map]; have : ([] : List D).length = 0 := rfl; omega) (fun d hd Kn q => ?_) (fun d hm hp _ q => absurd hp Bool.false_ne_true) ?_
    · obtain ⟨i, hi, rfl⟩ := List.mem_map.mp hd
      obtain ⟨i0, i1⟩ := hs.2 i hi
      simp only [bNot, bM, mChain, mR, rC, rN, arC, arN, r1, rV, List.set, List.getElem?_cons_zero, List.getElem?_cons_succ, ↓e_le, ↓e_lt, ↓told_get, ↓e_lenRL, onRo, onBl]
      rw [if_pos (decide_eq_true i0)]
      have e3 : decide (i < (sets.length : Int)) = true := decide_eq_true i1
      simp only [e3, Bool.not_true]
      exact q
    · have ef : ([] ++ ((ss.map D.int).filter fun _ => false).map id) = [] := by rw [filter_ff]; rfl
      rw [ef]
      simp only [rLst, arN, rosL, onRo, e_eq, O.d, O.ds, List.map_nil, eqb_nil, fine_nil, List.isEmpty_nil, onBl, Bool.xor_self, Bool.false_eq_true, ↓reduceIte, true_and, List.set]
      exact ⟨by rw [sz]; simp, hk _ ⟨⟨_, _, rfl⟩, fun r h => hr r (List.mem_cons_of_mem _ h)⟩⟩
  · obtain ⟨ss, hss, rfl⟩ := List.mem_map.mp hr
    exact ⟨ss, hss, rfl⟩
end Sp
end
section
open PySem PySem.W PySem.Spec PyProof.Rows L2 Pu Rd
set_option Elab.async false
set_option linter.all false
set_option maxRecDepth 100000
set_option maxHeartbeats 4000000
namespace Sp
/-! ### tunes that are drawn -/
def psi_note_of : PSp := fun os Q _ => ∃ (lad : List Int) (sets rules : List D) (n : Int) (k : Nat) (st : Nat) (names : List Str) (gaps : List Int), os = [.ro (dT lad sets rules), .ro (.int n), .ro (.int k)] ∧ atI sets n = some (dSet st names gaps) ∧ OkSet lad.length st names gaps ∧ k < names.length ∧ ∀ p : Note, 0 ≤ p.1 → p.1 ≤ lad.length → Q (.ro (nD p)) os
theorem mo_note_of : PMono psi_note_of := fun os Q1 Q2 E1 E2 h _ ⟨a, b, c, d, e, f, g, g2, h1, h2, h3, h4, q⟩ => ⟨a, b, c, d, e, f, g, g2, h1, h2, h3, h4, fun p a b => h _ _ (q p a b)⟩
theorem pu_note_of (os : List O) (Qp : O → List O → Prop) (Ep : PX) (hl : os.length = 3) (h : psi_note_of os Qp Ep) : t_note_of psi_height (endP [] os Qp Ep) (startP 6 os) := by
  obtain ⟨lad, sets, rules, n, k, st, names, gaps, rfl, he, ok, hk, h⟩ := h
  have s1 := ok.s1
  change sSeq _ _ _ [some (.ro (dT lad sets rules)), some (.ro (.int n)), some (.ro (.int k)), none, none, none]
  simp only [dSet] at he
  simp only [sSeq, sAsg, mR, r2, rV, rC, List.getElem?_cons_zero, List.getElem?_cons_succ, dT, ↓e_ixRT, at3_1, ↓e_ixRL, he, onRo, gT, gsC, gsN, gN, List.set]
  refine ⟨rfl, ?_⟩
  simp only [sRet, wM, mTup, amC, amN, mR, r2, rV, rC, List.getElem?_cons_zero, List.getElem?_cons_succ, ↓e_addI, onRo, m2, mW, wCall, axR, axN, callGo, takeA]
  refine ⟨rfl, lad, sets, rules, st, rfl, ?_⟩
  simp only [backA, rN, arC, arN, rSlc, poN, poI, rV, List.getElem?_cons_zero, List.getElem?_cons_succ, onRo]
  refine ⟨k, rfl, ?_⟩
  rw [show pSl = pSl from rfl, e_slRT, cut_to, ← List.map_take, e_sumTu]
  simp only [onRo, O.d, ↓e_addI]
  refine ⟨rfl, lad, sets, rules, st + k, ?_, ?_⟩
  · simp [dT]
  · simp only [backA, O.d, ↓e_sub, onRo]
    exact ⟨by rw [sz]; simp, h ((st : Int) + k, _) (by show (0 : Int) ≤ st + k; omega) (by show (st : Int) + k ≤ _; omega)⟩
theorem seq_mid {t u : TSp} {D : PEnds} {sg : PSt} (P : PSt → Prop) (h1 : ∀ Kn : PSt → Prop, (∀ sg', P sg' → Kn sg') → t { nx := Kn, rt := D.rt, bk := D.bk, ct := D.ct, ex := D.ex } sg) (h2 : ∀ sg', P sg' → u D sg') : sSeq t u D sg := h1 _ h2
theorem nx_mid {t : TSp} {K bk ct : PSt → Prop} {rt} {ex} {sg : PSt} (P : PSt → Prop) (h1 : ∀ Kn : PSt → Prop, (∀ sg', P sg' → Kn sg') → t { nx := Kn, rt := rt, bk := bk, ct := ct, ex := ex } sg) (h2 : ∀ sg', P sg' → K sg') : t { nx := K, rt := rt, bk := bk, ct := ct, ex := ex } sg := h1 _ h2
theorem atI_last1 {α : Type} {xs : List α} (h : xs ≠ []) : ∃ x, atI xs (-1) = some x ∧ x ∈ xs := by
  have hl : 0 < xs.length := List.length_pos_iff.mpr h
  unfold atI ixN
  rw [if_neg (by decide), if_pos (by omega)]
  have : (-1 + (xs.length : Int)).toNat < xs.length := by omega
  exact ⟨xs[(-1 + (xs.length : Int)).toNat], List.getElem?_eq_getElem this, List.getElem_mem _⟩
theorem ints_of {P : Int → Prop} : ∀ {l : List D}, (∀ x ∈ l, ∃ i, P i ∧ x = .int i) → ∃ zs : List Int, l = zs.map D.int ∧ ∀ z ∈ zs, P z
  | [], _ => ⟨[], rfl, fun _ h => nomatch h⟩
  | x :: l, h => by
    obtain ⟨zs, e, hz⟩ := ints_of (l := l) fun y hy => h y (List.mem_cons_of_mem _ hy)
    obtain ⟨i, hi, rfl⟩ := h x List.mem_cons_self
    refine ⟨i :: zs, by rw [e]; rfl, fun z hz2 => ?_⟩
    rcases List.mem_cons.mp hz2 with rfl | hz2
    · exact hi
    · exact hz z hz2
theorem set_int2 (xs : List Int) (j : Nat) (x : Int) : ((xs.map D.int).map O.ro).set j (.ro (.int x)) = ((xs.set j x).map D.int).map .ro := by rw [List.map_set, List.map_set]
theorem okS_get {n : Nat} {e : D} (h : OkS n e) : ∃ (st : Nat) (names : List Str) (gaps : List Int), e = dSet st names gaps ∧ OkSet n st names gaps := by
  cases h with
  | mk o =>
    obtain ⟨st, hst⟩ := Int.eq_ofNat_of_zero_le o.s0
    exact ⟨st, _, _, by rw [← hst], by rw [← hst]; exact o⟩
theorem col_ok {n : Nat} {c : List Note} : Okd (n + 2) (cD c) := .tup fun x hx => by
  obtain ⟨p, _, rfl⟩ := List.mem_map.mp hx
  exact note_ok
theorem tune_ok {n : Nat} {t : List (List Note)} : Okd (n + 3) (tD t) := .lst fun x hx => by
  obtain ⟨p, _, rfl⟩ := List.mem_map.mp hx
  exact col_ok
def psi_tune : PSp := fun os Q _ => ∃ (d : O) (lad : List Int) (sets rules : List D) (most voices : Int), os = [d, .ro (dT lad sets rules), .ro (.int most), .ro (.int voices)] ∧ Dice d ∧ OkT lad sets rules ∧ 1 ≤ most ∧ most ≤ 24 ∧ 1 ≤ voices ∧ voices ≤ 3 ∧
  ∀ d' many tune, Dice d' → OkTune lad.length many tune → (tune.length : Int) ≤ most → (many : Int) ≤ voices → Q (.lst ((tune.map cD).map .ro)) [d', .ro (dT lad sets rules), .ro (.int most), .ro (.int voices)]
theorem mo_tune : PMono psi_tune := fun os Q1 Q2 E1 E2 h _ ⟨a, b, c, d, e, f, h1, h2, h3, h4, h5, h6, h7, q⟩ => ⟨a, b, c, d, e, f, h1, h2, h3, h4, h5, h6, h7, fun d m t a b c g => h _ _ (q d m t a b c g)⟩
theorem pu_tune (os : List O) (Qp : O → List O → Prop) (Ep : PX) (hl : os.length = 4) (h : psi_tune os Qp Ep) : t_tune psi_off psi_name psi_note_of (endP [0] os Qp Ep) (startP 13 os) := by
  obtain ⟨d, lad, sets, rules, most, voices, rfl, hd, ok, m1, m24, v1, v3, h⟩ := h
  have s1 := ok.s1
  have s5 := ok.s5
  have l1 := ok.ld.l1
  have l2 := ok.ld.l2
  change sSeq _ _ _ [some d, some (.ro (dT lad sets rules)), some (.ro (.int most)), some (.ro (.int voices)), none, none, none, none, none, none, none, none, none]
  simp only [sSeq, sSet, wM, m2, mR, rC, onRo, mW, wCall, axS, axR, axN, rV, callGo, takeA, List.getElem?_cons_zero, List.getElem?_cons_succ]
  refine ⟨rfl, d, _, rfl, hd, by omega, by omega, fun v d1 hd1 v0 v1' => ?_⟩
  simp only [backA, O.d, ↓e_addI, onRo, List.set, wLc, iR1, amC, amN, mR, rV, List.getElem?_cons_zero, List.getElem?_cons_succ]
  refine ⟨⟨by omega, by omega⟩, ?_⟩
  have hm : ∃ many : Nat, (1 + v).toNat = many ∧ (1 + v) = (many : Int) ∧ 1 ≤ many ∧ many ≤ 3 ∧ (many : Int) ≤ voices := ⟨(1 + v).toNat, rfl, by omega, by omega, by omega, by omega⟩
  obtain ⟨many, hm1, hm2, hm3, hm4, hm5⟩ := hm
  rw [hm1, hm2]
  refine lc_ind (fun rest acc sg => ∃ (dd : O) (x : Option O), Dice dd ∧ sg = [some dd, some (.ro (dT lad sets rules)), some (.ro (.int most)), some (.ro (.int voices)), some (.ro (.int many)), none, x, none, none, none, none, none, none] ∧ (∀ x ∈ acc, ∃ i : Int, (0 ≤ i ∧ i < sets.length) ∧ x = .int i) ∧ acc.length + rest.length = many) ?_ ?_ _ [] _ ⟨d1, none, hd1, rfl, (fun _ h => nomatch h), by rw [rgD_len]; simp⟩
  · rintro acc sg ⟨d2, x, hd2, rfl, hacc, hlen⟩
    simp only [List.length_nil, Nat.add_zero] at hlen
    obtain ⟨places, rfl, hpl⟩ := ints_of hacc
    rw [List.length_map] at hlen
    simp only [wipeP, List.set, wLst, amN, List.map_nil, sFor, iR1, amC, m2, mR, rC, rV, onRo, mW, wCall, axS, axR, axN, callGo, takeA, List.getElem?_cons_zero, List.getElem?_cons_succ]
    refine ⟨by rw [sz]; simp, rfl, d2, _, rfl, hd2, by omega, by omega, fun u d3 hd3 u0 u1 => ?_⟩
    simp only [backA, O.d, ↓e_addI, onRo, List.set]
    refine ⟨⟨by omega, by omega⟩, ?_⟩
    have hu : ∃ tot : Nat, (1 + u).toNat = tot ∧ 1 ≤ tot ∧ (tot : Int) ≤ most := ⟨(1 + u).toNat, rfl, by omega, by omega⟩
    obtain ⟨tot, hu1, hu2, hu3⟩ := hu
    rw [hu1]
    refine for_ind (fun rest sg => ∃ (dd : O) (places : List Int) (tl : List (List Note)) (x6 x8 x9 x10 x11 x12 : Option O), Dice dd ∧ sg = [some dd, some (.ro (dT lad sets rules)), some (.ro (.int most)), some (.ro (.int voices)), some (.ro (.int many)), some (.lst ((places.map D.int).map .ro)), x6, some (.lst ((tl.map cD).map .ro)), x8, x9, x10, x11, x12] ∧ places.length = many ∧ (∀ i ∈ places, 0 ≤ i ∧ i < (sets.length : Int)) ∧ tl.length + rest.length = tot ∧ ∀ c ∈ tl, c.length = many ∧ ∀ p ∈ c, OkNote lad.length p) ?_ ?_ _ _ ⟨d3, places, [], _, _, _, _, _, _, hd3, rfl, hlen, hpl, by rw [rgD_len]; simp, (fun _ h => nomatch h)⟩
    · rintro sg ⟨dd, places, tl, x6, x8, x9, x10, x11, x12, hdd, rfl, _, _, htl, hc⟩
      simp only [List.length_nil, Nat.add_zero] at htl
      exact h dd many tl hdd ⟨hm3, hm4, by omega, by omega, hc⟩ (by omega) hm5
    · rintro r rest sg Kn ⟨dd, places, tl, x6, x8, x9, x10, x11, x12, hdd, rfl, hpl1, hpl2, htl, hc⟩ hk
      simp only [gN, List.set, sSeq, sSet, wLst, amN, List.map_nil, sFor, iR1, amC, mR, rV, onRo, List.getElem?_cons_zero, List.getElem?_cons_succ]
      refine ⟨by rw [sz]; simp, ⟨by omega, by omega⟩, ?_⟩
      rw [Int.toNat_natCast]
      refine for_ind (fun rest sg => (∃ (dd : O) (places : List Int) (ps : List Note) (x6 x10 x11 x12 : Option O), Dice dd ∧ sg = [some dd, some (.ro (dT lad sets rules)), some (.ro (.int most)), some (.ro (.int voices)), some (.ro (.int many)), some (.lst ((places.map D.int).map .ro)), x6, some (.lst ((tl.map cD).map .ro)), some (.ro r), some (.lst ((ps.map nD).map .ro)), x10, x11, x12] ∧ places.length = many ∧ (∀ i ∈ places, 0 ≤ i ∧ i < (sets.length : Int)) ∧ ps.length + rest.length = many ∧ ∀ p ∈ ps, OkNote lad.length p) ∧ ∀ r ∈ rest, ∃ j : Nat, j < many ∧ r = .int j) ?_ ?_ _ _ ⟨⟨dd, places, [], _, _, _, _, hdd, rfl, hpl1, hpl2, by rw [rgD_len]; simp, (fun _ h => nomatch h)⟩, fun r hr => rgD_mem hr⟩
      · rintro sg ⟨⟨dd, places, ps, x6, x10, x11, x12, hdd, rfl, hpl1, hpl2, hps, hpn⟩, _⟩
        simp only [sApp, wM, mR, rN, arC, arN, rV, onRo, isLst, List.getElem?_cons_zero, List.getElem?_cons_succ, ↓e_tupO, true_and]
        have hap : (tl.map cD).map O.ro ++ [O.ro (D.tup (ps.map nD))] = ((tl ++ [ps]).map cD).map O.ro := by simp [cD]
        rw [hap]
        refine ⟨by rw [sz]; simp at htl ⊢; omega, hk _ ⟨dd, places, tl ++ [ps], _, _, _, _, _, _, hdd, rfl, hpl1, hpl2, by simp at htl ⊢; omega, fun c hc2 => ?_⟩⟩
        · rcases List.mem_append.mp hc2 with hc2 | hc2
          · exact hc c hc2
          · rw [List.mem_singleton.mp hc2]
            exact ⟨by simpa using hps, hpn⟩
      · rintro r2 rest2 sg Kn2 ⟨⟨dd, places, ps, x6, x10, x11, x12, hdd, rfl, hpl1, hpl2, hps, hpn⟩, hr2⟩ hk2
        obtain ⟨j, hj, rfl⟩ := hr2 r2 List.mem_cons_self
        simp only [gN, List.set]
        refine seq_mid (fun sg => ∃ (dd : O) (places : List Int) (x10 x11 x12 : Option O), Dice dd ∧ sg = [some dd, some (.ro (dT lad sets rules)), some (.ro (.int most)), some (.ro (.int voices)), some (.ro (.int many)), some (.lst ((places.map D.int).map .ro)), some (.ro (.int j)), some (.lst ((tl.map cD).map .ro)), some (.ro r), some (.lst ((ps.map nD).map .ro)), x10, x11, x12] ∧ places.length = many ∧ (∀ i ∈ places, 0 ≤ i ∧ i < (sets.length : Int))) ?_ ?_
        · intro Kn3 hk3
          have base := hk3 _ ⟨dd, places, x10, x11, x12, hdd, rfl, hpl1, hpl2⟩
          simp only [sIf, bAnd, bR, bM, r2, m2, rLst, arN, mR, mW, wCall, axS, axR, axN, rC, rV, List.getElem?_cons_zero, List.getElem?_cons_succ, e_eq, O.d, ds_ro, eqb_nil, fine_nil, onRo, rosL, onBl, callGo, takeA, true_and]
          refine ⟨by rw [sz]; simp, (tune_ok (n := 0)).fine, ?_⟩
          by_cases htl0 : tl = []
          · subst htl0
            simp only [List.map_nil, List.isEmpty_nil, Bool.xor_self, Bool.false_eq_true, ↓reduceIte, sNil]
            exact base
          · have hem : (tl.map cD).isEmpty = false := by
              cases tl with
              | nil => exact absurd rfl htl0
              | cons a b => rfl
            simp only [hem, Bool.xor_false, ↓reduceIte]
            refine ⟨rfl, dd, _, rfl, hdd, by decide, by decide, fun q0 dd2 hdd2 q00 q01 => ?_⟩
            simp only [backA, O.d, fine_int, eqb_int, List.set, Bool.false_xor, true_and]
            by_cases hq : q0 = 0
            · have hb : (q0 == 0) = true := by simpa using hq
              simp only [hb, ↓reduceIte]
              obtain ⟨cl, hcl, hclm⟩ := atI_last1 (xs := tl) htl0
              have a7 : atI ((tl.map cD).map O.ro) (-1) = some (.ro (cD cl)) := by rw [atI_map, atI_map, hcl]; rfl
              have lcl := hc cl hclm
              have a8 := atI_note (ps := cl) (k := j) (by omega)
              have pn := lcl.2 _ (getD_memN (ps := cl) (k := j) (by omega))
              simp only [sSeq, sSet, wLc, iR1, amC, amN, mR, rN, arC, arN, r2, rC, rV, List.getElem?_cons_zero, List.getElem?_cons_succ, dT, ↓e_ixRT, at3_1, ↓e_lenRL, onRo]
              refine ⟨⟨by omega, by omega⟩, ?_⟩
              rw [Int.toNat_natCast]
              refine lc_pure 11 (fun d => !(O.ro (wd lad sets (dInt d) (cl.getD j (0, 0)))).nonB) id (rgD 0 sets.length) [] _ rfl (by rw [rgD_len, sz]; have : ([] : List D).length = 0 := rfl; omega) (fun d hd Kn q => ?_) (fun d hm _ Kn q => q) ?_
              · obtain ⟨k, hk, rfl⟩ := rgD_mem hd
                obtain ⟨e, he, hm⟩ := atI_some (xs := sets) (k := k) (by omega) (by omega)
                have ew : wd lad sets k (cl.getD j (0, 0)) = look lad e (nD (cl.getD j (0, 0))) := by unfold wd; rw [he]
                simp only [bM, m2, mW, wCall, axR, axN, mR, r1, r2, rC, rV, onRo, callGo, takeA, List.set, List.getElem?_cons_zero, List.getElem?_cons_succ, ↓e_neg, ↓e_ixL, a7, cD, ↓e_ixRT, a8]
                refine ⟨rfl, lad, sets, rules, k, (cl.getD j (0, 0)).1, (cl.getD j (0, 0)).2, e, rfl, pn.1, he, ok.st _ hm, ?_⟩
                simp only [backA, O.d, ↓e_isN, onRo, onBl, Bool.true_xor]
                simp only [dInt, ew] at q
                exact q
              · generalize hfl : ([] ++ ((rgD 0 sets.length).filter fun d => !(O.ro (wd lad sets (dInt d) (cl.getD j (0, 0)))).nonB).map id) = fl
                have hfp : ∀ x ∈ fl, ∃ i : Int, (0 ≤ i ∧ i < (sets.length : Int)) ∧ x = .int i := fun x hx => by
                  rw [← hfl] at hx
                  simp only [List.nil_append, List.map_id_fun, id, List.mem_filter] at hx
                  obtain ⟨k, hk, rfl⟩ := rgD_mem hx.1
                  exact ⟨k, by omega, rfl⟩
                have hfn : fl.length ≤ sets.length := by
                  rw [← hfl]
                  simp only [List.nil_append, List.length_map]
                  exact Nat.le_trans (List.length_filter_le _ _) (by rw [rgD_len]; exact Nat.le_refl _)
                clear hfl
                obtain ⟨fs, rfl, hfs⟩ := ints_of hfp
                rw [List.length_map] at hfn
                simp only [List.set, wM, m2, mFz, mLst, amC, amN, mW, wCall, axS, axR, axN, mR, rN, arC, arN, r2, rC, rV, onRo, callGo, takeA, List.getElem?_cons_zero, List.getElem?_cons_succ, O.d, ds_ro, dT, ↓e_ixRT, at3_1, ↓e_lenRL]
                refine ⟨rfl, dd2, _, rfl, hdd2, by omega, by omega, fun w dd3 hdd3 w0 w1 => ?_⟩
                simp only [backA, O.d, ↓e_addL, onRo, List.set, sPutL, wM, m2, mFz, mW, wCall, axS, axR, axN, mR, rN, arC, arN, rV, callGo, takeA, List.getElem?_cons_zero, List.getElem?_cons_succ, ↓e_lenRL]
                refine ⟨by rw [sz]; simp, by rw [sz]; simp <;> omega, rfl, dd3, _, rfl, hdd3, by simp <;> omega, by simp <;> omega, fun y dd4 hdd4 y0 y1 => ?_⟩
                have hz : ∀ z ∈ fs ++ [w], 0 ≤ z ∧ z < (sets.length : Int) := fun z hz => by
                  rcases List.mem_append.mp hz with hz | hz
                  · exact hfs z hz
                  · rw [List.mem_singleton.mp hz]; exact ⟨w0, w1⟩
                obtain ⟨zz, hzz, hzm⟩ := atI_some (xs := fs ++ [w]) (k := y) y0 (by simp at y1 ⊢; omega)
                have ez : atI (fs.map D.int ++ [.int w]) y = some (.int zz) := by
                  rw [show fs.map D.int ++ [D.int w] = (fs ++ [w]).map D.int by simp, atI_map, hzz]; rfl
                have ij : ixN ((places.map D.int).map O.ro).length (j : Int) = some j := by
                  unfold ixN
                  rw [if_pos (by omega), if_pos (by simp; omega)]; simp
                simp only [backA, O.d, ↓e_ixRL, ez, onRo, List.set, pV, rV, List.getElem?_cons_zero, List.getElem?_cons_succ, ij, sPut, O.put, set_int2]
                exact hk3 _ ⟨dd4, places.set j zz, _, _, _, hdd4, rfl, by rw [List.length_set]; exact hpl1, fun i hi => (mem_set hi).elim (hpl2 i) fun z => by rw [z]; exact hz zz hzm⟩
            · have hb : (q0 == 0) = false := by simpa using hq
              simp only [hb, Bool.false_eq_true, ↓reduceIte, sNil]
              exact hk3 _ ⟨dd2, places, x10, x11, x12, hdd2, rfl, hpl1, hpl2⟩
        · rintro sg ⟨dd, places, x10, x11, x12, hdd, rfl, hpl1, hpl2⟩
          simp only [sSeq, sSet, wM, mW, wCall, axS, axR, axN, mR, rN, arC, arN, r2, rC, rV, onRo, callGo, takeA, List.getElem?_cons_zero, List.getElem?_cons_succ]
          have aj := atI_int (ss := places) (k := j) (by omega)
          have aj2 : atI ((places.map D.int).map O.ro) (j : Int) = some (.ro (.int (places.getD j 0))) := by rw [atI_map, aj]; rfl
          have bj := hpl2 _ (getD_memI (ss := places) (k := j) (by omega))
          obtain ⟨e, he, hm⟩ := atI_some (xs := sets) bj.1 bj.2
          obtain ⟨st, names, gaps, rfl, os0⟩ := okS_get (ok.st _ hm)
          have n2 := os0.n2
          have n7 := os0.n7
          simp only [↓e_ixL, aj2, onRo, dT, ↓e_ixRT, at3_1, ↓e_ixRL, he]
          simp only [dSet, ↓e_ixRT, at3_1, ↓e_lenRT, onRo, List.length_map]
          refine ⟨rfl, dd, _, rfl, hdd, by omega, by omega, fun y dd2 hdd2 y0 y1 => ?_⟩
          obtain ⟨yn, rfl⟩ := Int.eq_ofNat_of_zero_le y0
          simp only [O.d]
          refine ⟨rfl, lad, sets, rules, places.getD j 0, yn, st, names, gaps, rfl, he, os0, by omega, fun p p0 p1 => ?_⟩
          simp only [backA, O.d, List.set]
          refine nx_mid (fun sg => ∃ (dd : O) (p : Note), Dice dd ∧ OkNote lad.length p ∧ sg = [some dd, some (.ro (dT lad sets rules)), some (.ro (.int most)), some (.ro (.int voices)), some (.ro (.int many)), some (.lst ((places.map D.int).map .ro)), some (.ro (.int j)), some (.lst ((tl.map cD).map .ro)), some (.ro r), some (.lst ((ps.map nD).map .ro)), x10, x11, some (.ro (nD p))]) ?_ ?_
          · intro Kn4 hk4
            simp only [sIf, bOr, bM, m2, mW, wCall, axS, axR, axN, mR, rC, onRo, callGo, takeA, List.getElem?_cons_zero, List.getElem?_cons_succ]
            refine ⟨rfl, dd2, _, rfl, hdd2, by decide, by decide, fun q dd3 hdd3 q0 q1 => ?_⟩
            simp only [backA, O.d, e_eq, fine_int, eqb_int, onRo, onBl, Bool.false_xor, true_and, List.set, bR, r2, rN, arC, arN, rC, rV, List.getElem?_cons_zero, List.getElem?_cons_succ, nD, ↓e_ixRT, at2_1, ↓e_abs, ↓e_gt]
            cases hq : (q == 0) with
            | true =>
              simp only [↓reduceIte]
              simp only [sSet, wM, mTup, amC, amN, m2, mW, wCall, axS, axR, axN, mR, r2, rN, arC, arN, rC, rV, onRo, callGo, takeA, List.getElem?_cons_zero, List.getElem?_cons_succ, dT, ↓e_ixRT, at3_0, dI, ↓e_lenRL, ↓e_addI, List.length_map]
              refine ⟨rfl, dd3, _, rfl, hdd3, by omega, by omega, fun a dd4 hdd4 a0 a1 => ?_⟩
              simp only [backA, O.d, List.set, List.getElem?_cons_zero, List.getElem?_cons_succ]
              refine ⟨rfl, dd4, _, rfl, hdd4, by decide, by decide, fun b dd5 hdd5 b0 b1 => ?_⟩
              simp only [backA, O.d, ↓e_sub, onRo, List.set]
              exact ⟨by rw [sz]; simp, hk4 _ ⟨dd5, (a, b - 2), hdd5, ⟨a0, by show a ≤ _; omega, by show -9 ≤ b - 2; omega, by show b - 2 ≤ 9; omega⟩, rfl⟩⟩
            | false =>
              simp only [Bool.false_eq_true, ↓reduceIte]
              by_cases h9 : 9 < (if p.2 < 0 then -p.2 else p.2)
              · rw [if_pos (decide_eq_true h9)]
                simp only [sSet, wM, mTup, amC, amN, m2, mW, wCall, axS, axR, axN, mR, r2, rN, arC, arN, rC, rV, onRo, callGo, takeA, List.getElem?_cons_zero, List.getElem?_cons_succ, dT, ↓e_ixRT, at3_0, dI, ↓e_lenRL, ↓e_addI, List.length_map]
                refine ⟨rfl, dd3, _, rfl, hdd3, by omega, by omega, fun a dd4 hdd4 a0 a1 => ?_⟩
                simp only [backA, O.d, List.set, List.getElem?_cons_zero, List.getElem?_cons_succ]
                refine ⟨rfl, dd4, _, rfl, hdd4, by decide, by decide, fun b dd5 hdd5 b0 b1 => ?_⟩
                simp only [backA, O.d, ↓e_sub, onRo, List.set]
                exact ⟨by rw [sz]; simp, hk4 _ ⟨dd5, (a, b - 2), hdd5, ⟨a0, by show a ≤ _; omega, by show -9 ≤ b - 2; omega, by show b - 2 ≤ 9; omega⟩, rfl⟩⟩
              · rw [if_neg (by simpa using h9)]
                simp only [sNil]
                exact hk4 _ ⟨dd3, p, hdd3, ⟨p0, p1, by split at h9 <;> omega, by split at h9 <;> omega⟩, rfl⟩
          · rintro sg ⟨dd, p, hdd, hp, rfl⟩
            simp only [sApp, wM, mR, rV, onRo, isLst, List.getElem?_cons_zero, List.getElem?_cons_succ, true_and]
            have hap : (ps.map nD).map O.ro ++ [O.ro (nD p)] = ((ps ++ [p]).map nD).map O.ro := by simp
            rw [hap]
            refine ⟨by rw [sz]; simp at hps ⊢; omega, hk2 _ ⟨⟨dd, places, ps ++ [p], _, _, _, _, hdd, rfl, hpl1, hpl2, by simp at hps ⊢; omega, fun p2 hp2 => ?_⟩, fun r hr => hr2 r (List.mem_cons_of_mem _ hr)⟩⟩
            rcases List.mem_append.mp hp2 with hp2 | hp2
            · exact hpn p2 hp2
            · rw [List.mem_singleton.mp hp2]; exact hp
  · rintro r rest acc sg Kn ⟨d2, x, hd2, rfl, hacc, hlen⟩ hk
    simp only [wipeP, List.set, gN, tYesP, mW, wCall, axS, axR, axN, mR, rN, arC, arN, r2, rC, rV, onRo, callGo, takeA, List.getElem?_cons_zero, List.getElem?_cons_succ, dT, ↓e_ixRT, at3_1, ↓e_lenRL]
    refine ⟨rfl, ?_⟩
    refine ⟨d2, _, rfl, hd2, by omega, by omega, fun v2 d3 hd3 w0 w1 => ⟨by simp only [List.length_cons] at hlen; rw [sz]; omega, hk _ _ ⟨d3, _, hd3, rfl, fun x hx => ?_, by simp at hlen ⊢; omega⟩⟩⟩
    rcases List.mem_append.mp hx with hx | hx
    · exact hacc x hx
    · rw [List.mem_singleton.mp hx]
      exact ⟨v2, ⟨w0, w1⟩, rfl⟩
end Sp
end
section
open PySem PySem.W PySem.Spec PyProof.Rows L2 Pu Rd
set_option Elab.async false
set_option linter.all false
set_option maxRecDepth 100000
set_option maxHeartbeats 4000000
namespace Sp
theorem e_inL {n : Bool} {a : O} {ds : List D} {Q : O → Prop} : pIn n a (.lst (ds.map .ro)) Q = (a.d.fine = true ∧ (D.lst ds).fine = true ∧ Q (.ro (.bl (n.xor (ds.any fun z => z.eqb a.d))))) := by
  have e : (O.lst (ds.map .ro)).d = .lst ds := by show D.lst _ = _; rw [ds_ro]
  apply propext
  constructor
  · rintro ⟨es, h, h1, h2, q⟩
    rw [e] at h h2
    cases h
    exact ⟨h1, h2, q⟩
  · rintro ⟨h1, h2, q⟩
    exact ⟨ds, e, h1, by rw [e]; exact h2, q⟩
theorem sets_ok {n : Nat} {ss : List Int} : Okd (n + 1) (sD ss) := .tup okd_ints
theorem say_ok {n : Nat} {g : List (List Int)} : Okd (n + 2) (gD g) := .lst fun x hx => by
  obtain ⟨p, _, rfl⟩ := List.mem_map.mp hx
  exact sets_ok
def LstO (zs : List Int) (o : O) : Prop := o = .lst ((zs.map D.int).map .ro) ∨ o = .ro (.lst (zs.map D.int))
theorem rgD_ints (n : Nat) : rgD 0 n = ((List.range n).map fun (k : Nat) => (k : Int)).map D.int := by
  unfold rgD
  rw [List.map_map]
  refine List.map_congr_left fun k _ => ?_
  simp
theorem LstO.fz {zs : List Int} {o : O} (h : LstO zs o) : o.d = .lst (zs.map D.int) := by
  rcases h with rfl | rfl
  · show D.lst _ = _; rw [ds_ro]
  · rfl
def psi_drawn : PSp := fun os Q _ => ∃ (d : O) (lad : List Int) (sets rules : List D) (many : Nat) (tune : List (List Note)), os = [d, .ro (dT lad sets rules), .ro (tD tune)] ∧ Dice d ∧ OkT lad sets rules ∧ OkTune lad.length many tune ∧
  ∀ d' g, Dice d' → OkSay sets.length many tune.length g → Q (.lst ((g.map sD).map .ro)) [d', .ro (dT lad sets rules), .ro (tD tune)]
theorem mo_drawn : PMono psi_drawn := fun os Q1 Q2 E1 E2 h _ ⟨a, b, c, d, e, f, h1, h2, h3, h4, q⟩ => ⟨a, b, c, d, e, f, h1, h2, h3, h4, fun d g a b => h _ _ (q d g a b)⟩
theorem pu_drawn (os : List O) (Qp : O → List O → Prop) (Ep : PX) (hl : os.length = 3) (h : psi_drawn os Qp Ep) : t_drawn psi_name psi_off (endP [0] os Qp Ep) (startP 9 os) := by
  obtain ⟨d, lad, sets, rules, many, tune, rfl, hd, ok, okt, h⟩ := h
  have s1 := ok.s1
  have s5 := ok.s5
  have m1 := okt.m1
  have m3 := okt.m3
  have t24 := okt.t24
  change sSeq _ _ _ [some d, some (.ro (dT lad sets rules)), some (.ro (tD tune)), none, none, none, none, none, none]
  simp only [sSeq, sSet, wLst, amN, List.map_nil, List.set, sFor, iL, mR, rV, onRo, List.getElem?_cons_zero, List.getElem?_cons_succ, tD]
  refine ⟨by rw [sz]; simp, ?_⟩
  refine for_ind (fun rest sg => (∃ (dd : O) (g : List (List Int)) (x4 x5 x6 x7 x8 : Option O), Dice dd ∧ sg = [some dd, some (.ro (dT lad sets rules)), some (.ro (tD tune)), some (.lst ((g.map sD).map .ro)), x4, x5, x6, x7, x8] ∧ g.length + rest.length = tune.length ∧ ∀ ss ∈ g, OkSets sets.length many ss) ∧ ∀ r ∈ rest, ∃ c ∈ tune, r = cD c) ?_ ?_ _ _ ⟨⟨d, [], none, none, none, none, none, hd, rfl, by simp, (fun _ h => nomatch h)⟩, fun r hr => ?_⟩
  · rintro sg ⟨⟨dd, g, x4, x5, x6, x7, x8, hdd, rfl, hg, hgs⟩, _⟩
    exact h dd g hdd ⟨by simpa using hg, hgs⟩
  · rintro r rest sg Kn ⟨⟨dd, g, x4, x5, x6, x7, x8, hdd, rfl, hg, hgs⟩, hr⟩ hk
    obtain ⟨c, hcm, rfl⟩ := hr r List.mem_cons_self
    obtain ⟨lc, hcn⟩ := okt.co c hcm
    simp only [gN, List.set, sSeq, sSet, wLst, amN, List.map_nil, sFor, iR1, amC, mR, rN, arC, arN, rV, onRo, List.getElem?_cons_zero, List.getElem?_cons_succ, cD, ↓e_lenRT, List.length_map]
    refine ⟨by rw [sz]; simp, ⟨by omega, by omega⟩, ?_⟩
    rw [Int.toNat_natCast, lc]
    refine for_ind (fun rest sg => (∃ (dd : O) (ss : List Int) (x6 x7 x8 : Option O), Dice dd ∧ sg = [some dd, some (.ro (dT lad sets rules)), some (.ro (tD tune)), some (.lst ((g.map sD).map .ro)), some (.ro (cD c)), some (.lst ((ss.map D.int).map .ro)), x6, x7, x8] ∧ ss.length + rest.length = many ∧ ∀ i ∈ ss, 0 ≤ i ∧ i < (sets.length : Int)) ∧ ∀ r ∈ rest, ∃ j : Nat, j < many ∧ r = .int j) ?_ ?_ _ _ ⟨⟨dd, [], x6, x7, x8, hdd, rfl, by rw [rgD_len]; simp, (fun _ h => nomatch h)⟩, fun r hr => rgD_mem hr⟩
    · rintro sg ⟨⟨dd, ss, x6, x7, x8, hdd, rfl, hss, hsi⟩, _⟩
      simp only [sApp, wM, mR, rN, arC, arN, rV, onRo, isLst, List.getElem?_cons_zero, List.getElem?_cons_succ, ↓e_tupO, true_and]
      have hap : (g.map sD).map O.ro ++ [O.ro (D.tup (ss.map D.int))] = ((g ++ [ss]).map sD).map O.ro := by simp [sD]
      rw [hap]
      refine ⟨by rw [sz]; simp at hg ⊢; omega, hk _ ⟨⟨dd, g ++ [ss], _, _, _, _, _, hdd, rfl, by simp at hg ⊢; omega, fun s2 hs2 => ?_⟩, fun r h => hr r (List.mem_cons_of_mem _ h)⟩⟩
      rcases List.mem_append.mp hs2 with hs2 | hs2
      · exact hgs s2 hs2
      · rw [List.mem_singleton.mp hs2]
        exact ⟨by simpa using hss, hsi⟩
    · rintro r2 rest2 sg Kn2 ⟨⟨dd, ss, x6, x7, x8, hdd, rfl, hss, hsi⟩, hr2⟩ hk2
      obtain ⟨j, hj, rfl⟩ := hr2 r2 List.mem_cons_self
      have a8 := atI_note (ps := c) (k := j) (by omega)
      have pn := hcn _ (getD_memN (ps := c) (k := j) (by omega))
      simp only [gN, List.set, sSeq, sSet, wLc, iR1, amC, amN, mR, rN, arC, arN, r2, rC, rV, List.getElem?_cons_zero, List.getElem?_cons_succ, dT, ↓e_ixRT, at3_1, ↓e_lenRL, onRo]
      refine ⟨⟨by omega, by omega⟩, ?_⟩
      rw [Int.toNat_natCast]
      refine lc_pure 8 (fun d => !(O.ro (wd lad sets (dInt d) (c.getD j (0, 0)))).nonB) id (rgD 0 sets.length) [] _ rfl (by rw [rgD_len, sz]; have : ([] : List D).length = 0 := rfl; omega) (fun d hd Kn q => ?_) (fun d hm _ Kn q => q) ?_
      · obtain ⟨k, hk, rfl⟩ := rgD_mem hd
        obtain ⟨e, he, hm⟩ := atI_some (xs := sets) (k := k) (by omega) (by omega)
        have ew : wd lad sets k (c.getD j (0, 0)) = look lad e (nD (c.getD j (0, 0))) := by unfold wd; rw [he]
        simp only [bM, m2, mW, wCall, axR, axN, mR, r1, r2, rC, rV, onRo, callGo, takeA, List.set, List.getElem?_cons_zero, List.getElem?_cons_succ, cD, ↓e_ixRT, a8]
        refine ⟨rfl, lad, sets, rules, k, (c.getD j (0, 0)).1, (c.getD j (0, 0)).2, e, rfl, pn.1, he, ok.st _ hm, ?_⟩
        simp only [backA, O.d, ↓e_isN, onRo, onBl, Bool.true_xor]
        simp only [dInt, ew] at q
        exact q
      · generalize hfl : ([] ++ ((rgD 0 sets.length).filter fun d => !(O.ro (wd lad sets (dInt d) (c.getD j (0, 0)))).nonB).map id) = fl
        have hfp : ∀ x ∈ fl, ∃ i : Int, (0 ≤ i ∧ i < (sets.length : Int)) ∧ x = .int i := fun x hx => by
          rw [← hfl] at hx
          simp only [List.nil_append, List.map_id_fun, id, List.mem_filter] at hx
          obtain ⟨k, hk, rfl⟩ := rgD_mem hx.1
          exact ⟨k, by omega, rfl⟩
        have hfn : fl.length ≤ sets.length := by
          rw [← hfl]
          simp only [List.nil_append, List.length_map]
          exact Nat.le_trans (List.length_filter_le _ _) (by rw [rgD_len]; exact Nat.le_refl _)
        clear hfl
        obtain ⟨fs, rfl, hfs⟩ := ints_of hfp
        rw [List.length_map] at hfn
        refine nx_mid (fun sg => ∃ (dd o : O) (zs : List Int) (x8 : Option O), Dice dd ∧ LstO zs o ∧ sg = [some dd, some (.ro (dT lad sets rules)), some (.ro (tD tune)), some (.lst ((g.map sD).map .ro)), some (.ro (cD c)), some (.lst ((ss.map D.int).map .ro)), some (.ro (.int j)), some o, x8] ∧ zs ≠ [] ∧ zs.length ≤ 5 ∧ ∀ i ∈ zs, 0 ≤ i ∧ i < (sets.length : Int)) ?_ ?_
        · intro Kn3 hk3
          simp only [List.set, sIf, bOr, bM, bR, r2, rLst, arN, rosL, rV, List.getElem?_cons_zero, List.getElem?_cons_succ, e_eq, O.d, ds_ro, eqb_nil, fine_nil, onRo, onBl, Bool.false_xor, true_and]
          refine ⟨by rw [sz]; simp, (Okd.lst (n := 0) okd_ints).fine, ?_⟩
          cases hfe : (fs.map D.int).isEmpty with
          | true =>
            simp only [↓reduceIte]
            simp only [sSet, wM, mR, rRg1, rN, arC, arN, r2, rC, rV, onRo, List.getElem?_cons_zero, List.getElem?_cons_succ, dT, ↓e_ixRT, at3_1, ↓e_lenRL, List.set]
            refine ⟨_, rfl, RgOk.of_le (by omega) (by omega) (by omega) (by omega), hk3 _ ⟨dd, _, (List.range sets.length).map fun (k : Nat) => (k : Int), _, hdd, .inr rfl, by rw [Int.toNat_natCast, rgD_ints]; rfl, fun z => ?_, by simp; omega, fun i hi => ?_⟩⟩
            · have := congrArg List.length z
              simp at this
              rw [this] at s1
              exact absurd s1 (by decide)
            · obtain ⟨k, hk2, rfl⟩ := List.mem_map.mp hi
              have := List.mem_range.mp hk2
              exact ⟨by omega, by omega⟩
          | false =>
            have hfs0 : fs ≠ [] := fun z => by rw [z] at hfe; cases hfe
            simp only [Bool.false_eq_true, ↓reduceIte, m2, mW, wCall, axS, axR, axN, mR, rC, onRo, callGo, takeA, List.getElem?_cons_zero, List.getElem?_cons_succ]
            refine ⟨rfl, dd, _, rfl, hdd, by decide, by decide, fun q dd2 hdd2 q0 q1 => ?_⟩
            simp only [backA, O.d, e_eq, fine_int, eqb_int, onRo, onBl, Bool.false_xor, true_and, List.set]
            cases hq : (q == 0) with
            | true =>
              simp only [↓reduceIte]
              simp only [sSet, wM, mR, rRg1, rN, arC, arN, r2, rC, rV, onRo, List.getElem?_cons_zero, List.getElem?_cons_succ, dT, ↓e_ixRT, at3_1, ↓e_lenRL, List.set]
              refine ⟨_, rfl, RgOk.of_le (by omega) (by omega) (by omega) (by omega), hk3 _ ⟨dd2, _, (List.range sets.length).map fun (k : Nat) => (k : Int), _, hdd2, .inr rfl, by rw [Int.toNat_natCast, rgD_ints]; rfl, fun z => ?_, by simp; omega, fun i hi => ?_⟩⟩
              · have := congrArg List.length z
                simp at this
                rw [this] at s1
                exact absurd s1 (by decide)
              · obtain ⟨k, hk2, rfl⟩ := List.mem_map.mp hi
                have := List.mem_range.mp hk2
                exact ⟨by omega, by omega⟩
            | false =>
              simp only [Bool.false_eq_true, ↓reduceIte, sNil]
              exact hk3 _ ⟨dd2, _, fs, _, hdd2, .inl rfl, rfl, hfs0, by omega, hfs⟩
        · rintro sg ⟨dd, o, zs, x8, hdd, ho, rfl, hz0, hz5, hzs⟩
          refine seq_mid (fun sg => ∃ (dd o : O) (zs : List Int) (x8 : Option O), Dice dd ∧ LstO zs o ∧ sg = [some dd, some (.ro (dT lad sets rules)), some (.ro (tD tune)), some (.lst ((g.map sD).map .ro)), some (.ro (cD c)), some (.lst ((ss.map D.int).map .ro)), some (.ro (.int j)), some o, x8] ∧ zs ≠ [] ∧ zs.length ≤ 5 ∧ ∀ i ∈ zs, 0 ≤ i ∧ i < (sets.length : Int)) ?_ ?_
          · intro Kn3 hk3
            have base := hk3 _ ⟨dd, o, zs, x8, hdd, ho, rfl, hz0, hz5, hzs⟩
            simp only [sIf, bAnd, bR, bM, r2, rLst, arN, rosL, rV, List.getElem?_cons_zero, List.getElem?_cons_succ, e_eq, O.d, ds_ro, eqb_nil, fine_nil, onRo, onBl, Bool.true_xor, true_and]
            refine ⟨by rw [sz]; simp, (say_ok (n := 0)).fine, ?_⟩
            by_cases hg0 : g = []
            · subst hg0
              simp only [List.map_nil, List.isEmpty_nil, Bool.not_true, Bool.false_eq_true, ↓reduceIte, sNil]
              exact base
            · have hem : (g.map sD).isEmpty = false := by
                cases g with
                | nil => exact absurd rfl hg0
                | cons a b => rfl
              obtain ⟨sl, hsl, hslm⟩ := atI_last1 (xs := g) hg0
              have a7 : atI ((g.map sD).map O.ro) (-1) = some (.ro (sD sl)) := by rw [atI_map, atI_map, hsl]; rfl
              have lsl := hgs sl hslm
              have lsl1 := lsl.1
              have a9 := atI_int (ss := sl) (k := j) (by omega)
              have bj := lsl.2 _ (getD_memI (ss := sl) (k := j) (by omega))
              simp only [hem, Bool.not_false, ↓reduceIte, r1, r2, rV, rC, List.getElem?_cons_zero, List.getElem?_cons_succ, ↓e_neg, ↓e_ixL, a7, onRo, sD, ↓e_ixRT, a9]
              have hin : ∀ Q : O → Prop, (∀ b, Q (.ro (.bl b))) → pIn false (.ro (.int (sl.getD j 0))) o Q := fun Q hQ => by
                rcases ho with rfl | rfl
                · rw [e_inL]; exact ⟨fine_int, (Okd.lst (n := 0) okd_ints).fine, hQ _⟩
                · rw [e_in]; exact ⟨fine_int, (Okd.lst (n := 0) okd_ints).fine, hQ _⟩
              refine hin _ fun b => ?_
              simp only [onRo, onBl]
              cases b with
              | false =>
                simp only [Bool.false_eq_true, ↓reduceIte, sNil]
                exact base
              | true =>
                simp only [↓reduceIte, m2, mW, wCall, axS, axR, axN, mR, rC, onRo, callGo, takeA, List.getElem?_cons_zero, List.getElem?_cons_succ]
                refine ⟨rfl, dd, _, rfl, hdd, by decide, by decide, fun q dd2 hdd2 q0 q1 => ?_⟩
                simp only [backA, O.d, ↓e_gt, onRo, onBl, List.set]
                cases hq : decide (0 < q) with
                | true =>
                  simp only [↓reduceIte, sSet, wM, mR, rLst, arC, arN, r1, r2, rC, rV, List.getElem?_cons_zero, List.getElem?_cons_succ, ↓e_neg, ↓e_ixL, a7, onRo, rosL, sD, ↓e_ixRT, a9, List.set]
                  exact ⟨by rw [sz]; simp, hk3 _ ⟨dd2, _, [sl.getD j 0], _, hdd2, .inr rfl, rfl, by simp, by simp, fun i hi => by rw [List.mem_singleton.mp hi]; exact bj⟩⟩
                | false =>
                  simp only [Bool.false_eq_true, ↓reduceIte, sNil]
                  exact hk3 _ ⟨dd2, _, zs, _, hdd2, ho, rfl, hz0, hz5, hzs⟩
          · rintro sg ⟨dd, o, zs, x8, hdd, ho, rfl, hz0, hz5, hzs⟩
            have hzl : 0 < zs.length := List.length_pos_iff.mpr hz0
            simp only [sApp, wM, m2, mFz, mW, wCall, axS, axR, axN, mR, rN, arC, arN, rV, onRo, isLst, callGo, takeA, List.set, List.getElem?_cons_zero, List.getElem?_cons_succ, ho.fz, ↓e_lenRL, List.length_map, true_and]
            refine ⟨rfl, dd, _, rfl, hdd, by omega, by omega, fun y dd2 hdd2 y0 y1 => ?_⟩
            obtain ⟨zz, hzz, hzm⟩ := atI_some (xs := zs) (k := y) y0 y1
            have ez : atI (zs.map D.int) y = some (.int zz) := by rw [atI_map, hzz]; rfl
            simp only [backA, O.d, ↓e_ixRL, ez, onRo, List.set, List.getElem?_cons_zero, List.getElem?_cons_succ]
            have hap : (ss.map D.int).map O.ro ++ [O.ro (D.int zz)] = ((ss ++ [zz]).map D.int).map O.ro := by simp
            rw [hap]
            refine ⟨by rw [sz]; simp at hss ⊢; omega, hk2 _ ⟨⟨dd2, ss ++ [zz], _, _, _, hdd2, rfl, by simp at hss ⊢; omega, fun i hi => ?_⟩, fun r h => hr2 r (List.mem_cons_of_mem _ h)⟩⟩
            rcases List.mem_append.mp hi with hi | hi
            · exact hsi i hi
            · rw [List.mem_singleton.mp hi]; exact hzs zz hzm
  · obtain ⟨c, hc, rfl⟩ := List.mem_map.mp hr
    exact ⟨c, hc, rfl⟩
end Sp
end
section
open PySem PySem.W PySem.Spec PyProof.Rows L2 Pu Rd
set_option Elab.async false
set_option linter.all false
set_option maxRecDepth 100000
set_option maxHeartbeats 4000000
namespace Sp
variable (C : Addr)
theorem isi_tup {Q : O → Prop} {xs : List D} : pIsi [.ro (.tup xs), .ro (.ty "tuple")] Q = Q (.ro (.bl true)) := by
  apply propext
  constructor
  · rintro ⟨a, n, t, b, e, ht, hb, q⟩
    cases e
    cases ht
    cases hb
    exact q
  · intro q
    exact ⟨_, _, _, true, rfl, rfl, rfl, q⟩
theorem faultF_or (lad : List Int) (sets rules : List D) (tune : List (List Note)) (g : List (List Int)) : faultF lad sets rules tune g = .non ∨ ∃ xs, faultF lad sets rules tune g = .tup xs ∧ Okd 1 (.tup xs) := by
  unfold faultF
  cases e : (List.range g.length).findSome? (faultI lad sets rules tune g) with
  | none => exact .inl rfl
  | some r =>
    obtain ⟨k, hk, e⟩ := find_some e
    refine .inr ?_
    unfold faultI at e
    rcases nextX_shp lad sets rules tune k (ahOf g k) (g.getD k []) with h | ⟨z, i, r2, h, h2, h3, h4⟩
    · rw [h] at e; cases e
    · rw [h] at e
      cases e
      refine ⟨_, rfl, .tup fun x hx => ?_⟩
      simp only [List.mem_cons] at hx
      rcases hx with rfl | rfl | rfl | hx
      · exact .str h3
      · exact .int
      · exact .int
      · obtain ⟨j, rfl⟩ := h4 x hx; exact .int
def psi_law : PSp := fun os Q _ => ∃ ns : List Int, os = [.ro (dI ns)] ∧ Q (.ro (.bl true)) [.ro (dI ns)]
theorem mo_law : PMono psi_law := fun os Q1 Q2 E1 E2 h _ ⟨a, e, q⟩ => ⟨a, e, h _ _ q⟩
theorem top_law : PTop psi_law := fun ns Q E hl q => ⟨ns, rfl, q⟩
theorem pu_law (os : List O) (Qp : O → List O → Prop) (Ep : PX) (hl : os.length = 1) (h : psi_law os Qp Ep) : t_law psi_dice psi_school (psi_made C) psi_tune psi_off psi_drawn (psi_fault C) psi_L_fault (endP [] os Qp Ep) (startP 10 os) := by
  obtain ⟨ns, rfl, h⟩ := h
  refine And.intro rfl ⟨ns, 0, rfl, by decide, fun d hd => ?_⟩
  refine And.intro rfl ⟨d, rfl, hd, fun d1 lad sets rules hd1 ok => ?_⟩
  refine And.intro rfl ⟨lad, sets, rules, rfl, ok, ?_⟩
  dsimp only [backA, O.d, startP, List.set, List.map, List.append, HAppend.hAppend, Append.append, List.replicate, List.length, Nat.sub]
  rw [show D.ins C (O.df (schF lad sets rules)) = schD C lad sets rules from sch_d C lad sets rules]
  change sSeq _ _ _ [some (.ro (dI ns)), some d1, some (.ro (dT lad sets rules)), some (.ro (schD C lad sets rules)), none, none, none, none, none, none]
  simp only [sSeq, sSet, wM, m2, mR, rLst, arC, arN, rC, rosL, onRo, mW, wCall, axS, axR, axN, rV, callGo, takeA, List.getElem?_cons_zero, List.getElem?_cons_succ]
  refine ⟨by rw [sz]; simp, rfl, d1, _, rfl, hd1, by decide, by decide, fun v d2 hd2 v0 v1 => ?_⟩
  obtain ⟨mm, hm4, hm5, hm6⟩ : ∃ m : Int, atI [D.int 12, D.int 24] v = some (.int m) ∧ 1 ≤ m ∧ m ≤ 24 := by
    have : v = 0 ∨ v = 1 := by omega
    rcases this with rfl | rfl
    · exact ⟨12, rfl, by decide, by decide⟩
    · exact ⟨24, rfl, by decide, by decide⟩
  simp only [backA, O.d, ↓e_ixRL, hm4, onRo, List.set, List.getElem?_cons_zero, List.getElem?_cons_succ]
  refine ⟨rfl, d2, lad, sets, rules, mm, 3, rfl, hd2, ok, hm5, hm6, by decide, by decide, fun d3 many tune hd3 okt ht24 hm3 => ?_⟩
  simp only [backA, O.d, ds_ro, sFor, iR1, amC, amN, mR, rC, onRo, List.set]
  refine ⟨⟨by decide, by decide⟩, ?_⟩
  refine for_ind (fun rest sg => ∃ (dd : O) (x5 x6 x7 x8 x9 : Option O), Dice dd ∧ sg = [some (.ro (dI ns)), some dd, some (.ro (dT lad sets rules)), some (.ro (schD C lad sets rules)), some (.ro (tD tune)), x5, x6, x7, x8, x9]) ?_ ?_ _ _ ⟨d3, none, none, none, none, none, hd3, rfl⟩
  · rintro sg ⟨dd, x5, x6, x7, x8, x9, hdd, rfl⟩
    exact h
  · rintro r rest sg Kn ⟨dd, x5, x6, x7, x8, x9, hdd, rfl⟩ hk
    simp only [gN, List.set, sSeq, sSet, wM, mW, wCall, axS, axR, axN, mR, rV, onRo, callGo, takeA, List.getElem?_cons_zero, List.getElem?_cons_succ]
    refine ⟨rfl, dd, lad, sets, rules, many, tune, rfl, hdd, ok, okt, fun d4 g hd4 okg => ?_⟩
    simp only [backA, O.d, ds_ro, List.set, rLst, arC, arN, rN, rV, onRo, rosL, List.getElem?_cons_zero, List.getElem?_cons_succ, tD, ↓e_listRL]
    refine ⟨by rw [sz]; simp, ?_⟩
    simp only [r2, rC, rV, onRo, List.getElem?_cons_zero, List.getElem?_cons_succ, ↓e_ixRL, at2_0, at2_1, axR, axN, mR, callGo, takeA]
    refine ⟨rfl, lad, sets, rules, many, tune, g, rfl, ok, okt, okg, ?_⟩
    simp only [backA, O.d, List.set, List.getElem?_cons_zero, List.getElem?_cons_succ]
    refine ⟨rfl, lad, sets, rules, many, tune, g, rfl, ok, okt, okg, ?_⟩
    have o1 : Okd 4 (.lst [tD tune, gD g]) := .lst fun x hx => by
      simp only [List.mem_cons, List.not_mem_nil, or_false] at hx
      rcases hx with rfl | rfl
      · exact tune_ok
      · exact say_ok
    simp only [backA, O.d, List.set, sIf, bOr, bAnd, bNot, bR, r2, rLst, arC, arN, rC, rV, rosL, onRo, onBl, List.getElem?_cons_zero, List.getElem?_cons_succ]
    have o2 : (D.lst [.lst (tune.map cD), .lst (g.map sD)]).eqb (.lst [.lst (tune.map cD), .lst (g.map sD)]) = true := o1.eqb_self
    have o3 : (D.lst [.lst (tune.map cD), .lst (g.map sD)]).fine = true := o1.fine
    refine ⟨by rw [sz]; simp, ?_⟩
    simp only [e_eq, O.d, o2, o3, onRo, onBl, Bool.xor_self, Bool.false_eq_true, ↓reduceIte, true_and]
    rcases faultF_or lad sets rules tune g with e | ⟨xs, e, ox⟩
    · rw [e]
      have o5 : D.non.eqb D.non = true := rfl
      simp only [fine_non, o5, Bool.xor_self, Bool.false_eq_true, ↓reduceIte, true_and, ↓e_isN, O.nonB, onRo, onBl, sNil]
      exact hk _ ⟨d4, _, _, _, _, _, hd4, rfl⟩
    · rw [e]
      simp only [ox.fine, ox.eqb_self, Bool.xor_self, Bool.false_eq_true, ↓reduceIte, true_and, ↓e_isN, O.nonB, Bool.xor_false, bM, mR, rN, arC, arN, rC, rV, List.getElem?_cons_zero, List.getElem?_cons_succ, onRo, onBl, ↓isi_tup, Bool.not_true, sNil]
      exact hk _ ⟨d4, _, _, _, _, _, hd4, rfl⟩
end Sp
end
section
open PySem PySem.W PySem.Spec PyProof.Rows L2 Pu Rd
set_option Elab.async false
set_option linter.unusedVariables false
set_option maxRecDepth 100000
set_option maxHeartbeats 4000000
namespace Wk
def top (i : Nat) : Stmt := PySem.Challenge.pw_gamutsay_k04_faults.main.body.getD i (.Pass ⟨0, 0, 0, 0⟩)
theorem hu65 {k : Nat} {A : Around} (h : Room k A) : A.units + 65 < cLine := by have := h.un; omega
theorem hu1 {k : Nat} {A : Around} (h : Room k A) : A.units + 1 < cLine := by have := h.units; omega
section
variable {P : Program} {w : World} {K : PySem.W.Frag} {mg : Str → Option Value} {base : Heap} {f : Addr} {fd : FuncData}
abbrev S_cell : Stmt := top 28
abbrev N_cell : List Str := ["_law_script", "_law_k"]
theorem sc_cell : FnScope N_cell ["_law_script", "_law_k"] (defScope S_cell) := ⟨rfl, rfl, rfl, by decide +kernel, rfl, by decide +kernel, by decide +kernel⟩
theorem ok_cell {psi_ : PSp} (F : FunD K "_law_cell" "_law_cell" (defArgs S_cell) (defBody S_cell) (defScope S_cell) [] [] f fd) (b_len : mg "len" = none)
    (hp : ∀ os Qp Ep, os.length = 2 → psi_ os Qp Ep → t_cell (endP [] os Qp Ep) (startP 2 os)) : FnOk P w K mg base CX0 1 f fd ["_law_script", "_law_k"] (spP K 2 psi_) := by
  have nd : (N_cell : List Str).Nodup := sc_cell.nd
  refine fn_ok0 [] F sc_cell (fun cdv A outer s H E hr => ?_) hp
  exact (ls_cons (ls_if (lt_cmpR op_lt v_lt (lr_v 1) (lr_callB call_len v_len rfl b_len rfl (lar_cons (lr_v 0) lar_nil))) (ls_one (ls_ret (LM.w (LR.m (lr_ix ix_seq v_ix (lr_v 0) (lr_v 1)))))) ls_nil)
   (ls_one (ls_ret (LM.w (LR.m lr_int)))))
abbrev S_dice : Stmt := top 29
abbrev N_dice : List Str := ["_law_script", "_law_k", "_law_cell_here"]
theorem sc_dice : FnScope N_dice ["_law_script", "_law_k"] (defScope S_dice) := ⟨rfl, rfl, rfl, by decide +kernel, rfl, by decide +kernel, by decide +kernel⟩
theorem ok_dice {psi__cell : PSp} {psi_ : PSp} (F : FunD K "_law_dice" "_law_dice" (defArgs S_dice) (defBody S_dice) (defScope S_dice) [] [] f fd) (b_abs : mg "abs" = none) (G_cell : Cal P w K mg base 1 "_law_cell" 2 psi__cell) (b_int : mg "int" = none)
    (hp : ∀ os Qp Ep, os.length = 2 → psi_ os Qp Ep → t_dice psi__cell (endP [] os Qp Ep) (startP 3 os)) : FnOk P w K mg base CX0 2 f fd ["_law_script", "_law_k"] (spP K 2 psi_) := by
  have nd : (N_dice : List Str).Nodup := sc_dice.nd
  refine fn_ok0 [] F sc_dice (fun cdv A outer s H E hr => ?_) hp
  exact (ls_cons (ls_set (i := 2) nd rfl (by first | exact Or.inl rfl | exact Or.inr rfl) (by decide) (LM.w (lm_callB call_abs v_f1 rfl b_abs rfl (lam_cons (LO.m (lo_fn G_cell hr (by decide) rfl (lax_ro (LR.m (lr_v 0)) (lax_ro (LR.m (lr_v 1)) lax_nil)))) lam_nil))))
   (ls_one (ls_ret (lo_lst (lam_cons (LR.m (lr_bin op_mod v_mod (lr_v 2) lr_int)) (lam_cons (LR.m (lr_v 0)) (lam_cons (LR.m (lr_bin op_addU v_addU (lr_v 1) lr_int)) (lam_cons (LR.m (lr_bin op_mulU v_mulU (lr_callT call_int1 v_int1 rfl b_int rfl (lar_cons (lr_cmp op_ge v_ge (lr_v 2) (lr_bin op_pow v_pow lr_int lr_int)) lar_nil)) (lr_v 2))) lam_nil))))))))
abbrev S_off : Stmt := top 30
abbrev N_off : List Str := ["_law_d", "_law_most", "_law_found", "_law_more"]
theorem sc_off : FnScope N_off ["_law_d", "_law_most"] (defScope S_off) := ⟨rfl, rfl, rfl, by decide +kernel, rfl, by decide +kernel, by decide +kernel⟩
theorem ok_off {psi__cell : PSp} {psi_ : PSp} (F : FunD K "_law_off" "_law_off" (defArgs S_off) (defBody S_off) (defScope S_off) [] [] f fd) (b_abs : mg "abs" = none) (G_cell : Cal P w K mg base 1 "_law_cell" 2 psi__cell) (b_max : mg "max" = none) (b_len : mg "len" = none)
    (hp : ∀ os Qp Ep, os.length = 2 → psi_ os Qp Ep → t_off psi__cell (endP [0] os Qp Ep) (startP 4 os)) : FnOk P w K mg base CX0 2 f fd ["_law_d", "_law_most"] (spP K 2 psi_) := by
  have nd : (N_off : List Str).Nodup := sc_off.nd
  refine fn_ok0 [0] F sc_off (fun cdv A outer s H E hr => ?_) hp
  exact (ls_cons (ls_if (lt_cmpR op_gt v_gt (lr_ix ix_seq v_ix (lr_v 0) lr_int) lr_int) (ls_cons (ls_set (i := 2) nd rfl (by first | exact Or.inl rfl | exact Or.inr rfl) (by decide) (LM.w (LR.m (lr_bin op_mod v_mod (lr_ix ix_seq v_ix (lr_v 0) lr_int) (lr_v 1)))))
   (ls_cons (ls_putL (LM.w (LR.m (lr_bin op_fdiv v_div (lr_ix ix_seq v_ix (lr_v 0) lr_int) (lr_v 1)))) (lp_v 0) lr_int)
   (ls_one (ls_ret (LM.w (LR.m (lr_v 2))))))) ls_nil)
   (ls_cons (ls_set (i := 3) nd rfl (by first | exact Or.inl rfl | exact Or.inr rfl) (by decide) (LM.w (lm_callB call_abs v_f1 rfl b_abs rfl (lam_cons (LO.m (lo_fn G_cell hr (by decide) rfl (lax_ro (LR.m (lr_ix ix_seq v_ix (lr_v 0) lr_int)) (lax_ro (LR.m (lr_bin op_mod v_mod (lr_ix ix_seq v_ix (lr_v 0) lr_int) (lr_callB (call_max2 rfl) v_f2 rfl b_max rfl (lar_cons lr_int (lar_cons (lr_callB call_len v_len rfl b_len rfl (lar_cons (lr_ix ix_seq v_ix (lr_v 0) lr_int) lar_nil)) lar_nil))))) lax_nil)))) lam_nil))))
   (ls_cons (ls_putL (LM.w (LR.m (lr_bin op_addU v_addU (lr_ix ix_seq v_ix (lr_v 0) lr_int) lr_int))) (lp_v 0) lr_int)
   (ls_cons (ls_putL (LM.w (LR.m (lr_bin op_mod v_mod (lr_bin op_addU v_addU (lr_bin op_addU v_addU (lr_bin op_mulU v_mulU (lr_ix ix_seq v_ix (lr_v 0) lr_int) lr_int) lr_int) (lr_v 3)) lr_int))) (lp_v 0) lr_int)
   (ls_one (ls_ret (LM.w (LR.m (lr_bin op_mod v_mod (lr_bin op_fdiv v_div (lr_ix ix_seq v_ix (lr_v 0) lr_int) lr_int) (lr_v 1))))))))))
abbrev S_word : Stmt := top 31
abbrev N_word : List Str := ["_law_style", "_law_k", "_law_signs", "_law_word_here"]
theorem sc_word : FnScope N_word ["_law_style", "_law_k"] (defScope S_word) := ⟨rfl, rfl, rfl, by decide +kernel, rfl, by decide +kernel, by decide +kernel⟩
theorem ok_word {psi_ : PSp} (F : FunD K "_law_word" "_law_word" (defArgs S_word) (defBody S_word) (defScope S_word) [] [] f fd)
    (hp : ∀ os Qp Ep, os.length = 2 → psi_ os Qp Ep → t_word (endP [] os Qp Ep) (startP 4 os)) : FnOk P w K mg base CX0 1 f fd ["_law_style", "_law_k"] (spP K 2 psi_) := by
  have nd : (N_word : List Str).Nodup := sc_word.nd
  refine fn_ok0 [] F sc_word (fun cdv A outer s H E hr => ?_) hp
  exact (ls_cons (ls_set (i := 2) nd rfl (by first | exact Or.inl rfl | exact Or.inr rfl) (by decide) (LM.w (LR.m lr_str)))
   (ls_cons (ls_set (i := 3) nd rfl (by first | exact Or.inl rfl | exact Or.inr rfl) (by decide) (LM.w (LR.m (lr_bin op_mulU v_mulU (lr_ix ix_seq v_ix (lr_v 2) (lr_bin op_mod v_mod (lr_bin op_addU v_addU (lr_v 0) (lr_bin op_mulU v_mulU lr_int (lr_bin op_fdiv v_div (lr_v 1) lr_int))) lr_int)) (lr_bin op_addU v_addU lr_int (lr_bin op_mod v_mod (lr_bin op_fdiv v_div (lr_v 0) lr_int) lr_int))))))
   (ls_one (ls_ret (LM.w (LR.m (lr_bin op_addU v_addU (lr_v 3) (lr_ix ix_seq v_ix (lr_lst (lar_cons lr_str (lar_cons (lr_ix ix_seq v_ix (lr_v 2) (lr_bin op_mod v_mod (lr_bin op_addU v_addU (lr_v 0) lr_int) lr_int)) (lar_cons (lr_ix ix_seq v_ix (lr_v 2) (lr_bin op_mod v_mod (lr_bin op_addU v_addU (lr_v 0) lr_int) lr_int)) lar_nil)))) (lr_bin op_mod v_mod (lr_v 1) lr_int)))))))))
abbrev S_set : Stmt := top 32
abbrev N_set : List Str := ["_law_d", "_law_ladder", "_law_style", "_law_many", "_law_step", "_law_first", "_law_names", "_law_k", "_law_gaps"]
theorem sc_set : FnScope N_set ["_law_d", "_law_ladder", "_law_style"] (defScope S_set) := ⟨rfl, rfl, rfl, by decide +kernel, rfl, by decide +kernel, by decide +kernel⟩
theorem ok_set {psi__off : PSp} {psi__word : PSp} {psi_ : PSp} (F : FunD K "_law_set" "_law_set" (defArgs S_set) (defBody S_set) (defScope S_set) [] [] f fd) (G_off : Cal P w K mg base 2 "_law_off" 2 psi__off) (b_min : mg "min" = none) (b_len : mg "len" = none) (b_tuple : mg "tuple" = none) (b_range : mg "range" = none) (G_word : Cal P w K mg base 1 "_law_word" 2 psi__word) (b_list : mg "list" = none)
    (hp : ∀ os Qp Ep, os.length = 3 → psi_ os Qp Ep → t_set psi__off psi__word (endP [0] os Qp Ep) (startP 9 os)) : FnOk P w K mg base CX0 3 f fd ["_law_d", "_law_ladder", "_law_style"] (spP K 3 psi_) := by
  have nd : (N_set : List Str).Nodup := sc_set.nd
  refine fn_ok0 [0] F sc_set (fun cdv A outer s H E hr => ?_) hp
  exact (ls_cons (ls_set (i := 3) nd rfl (by first | exact Or.inl rfl | exact Or.inr rfl) (by decide) (LM.w (lm_bin op_addU v_addU (LR.m lr_int) (LO.m (lo_fn G_off hr (by decide) rfl (lax_sl 0 (lax_ro (LR.m (lr_callB (call_min2 rfl) v_f2 rfl b_min rfl (lar_cons lr_int (lar_cons (lr_callB call_len v_len rfl b_len rfl (lar_cons (lr_v 1) lar_nil)) lar_nil)))) lax_nil)))))))
   (ls_cons (ls_set (i := 4) nd rfl (by first | exact Or.inl rfl | exact Or.inr rfl) (by decide) (LM.w (LO.m (lo_fn G_off hr (by decide) rfl (lax_sl 0 (lax_ro (LR.m (lr_bin op_sub v_sub (lr_bin op_addU v_addU (lr_callB call_len v_len rfl b_len rfl (lar_cons (lr_v 1) lar_nil)) lr_int) (lr_v 3))) lax_nil))))))
   (ls_cons (ls_set (i := 5) nd rfl (by first | exact Or.inl rfl | exact Or.inr rfl) (by decide) (LM.w (LO.m (lo_fn G_off hr (by decide) rfl (lax_sl 0 (lax_ro (LR.m lr_int) lax_nil))))))
   (ls_cons (ls_set (i := 6) nd rfl (by first | exact Or.inl rfl | exact Or.inr rfl) (by decide) (LM.w (lm_callT call_tuple_of v_tuple rfl b_tuple rfl (lam_cons (LO.m (lo_lc (own := [("_law_k", 7)]) rfl nd (li_range1 rfl b_range (lam_cons (LR.m (lr_v 3)) lam_nil)) (blkOk_by (own := [("_law_k", 7)]) (N := N_set) (sc := defScope S_set) (by decide +kernel)) (fun _ _ _ _ _ => (lg_name (i := 7) nd rfl (by first | exact Or.inl rfl | exact Or.inr rfl) (by decide))) (fun _ _ _ _ _ => lts_nil) (fun _ _ _ _ _ => (LO.m (lo_fn G_word hr (by decide) rfl (lax_ro (LR.m (lr_v 2)) (lax_ro (LR.m (lr_bin op_mod v_mod (lr_bin op_addU v_addU (lr_v 5) (lr_v 7)) lr_int)) lax_nil))))))) lam_nil))))
   (ls_cons (ls_set (i := 8) nd rfl (by first | exact Or.inl rfl | exact Or.inr rfl) (by decide) (lo_list rfl b_list rfl (lar_cons (lr_slice sl_seq v_sl (lr_v 1) (lpo_i (lr_v 4)) (lpo_i (lr_bin op_sub v_sub (lr_bin op_addU v_addU (lr_v 4) (lr_v 3)) lr_int))) lar_nil)))
   (ls_cons (ls_if (lt_cmp (op_eqD hr.units) v_eq (LO.m (lo_fn G_off hr (by decide) rfl (lax_sl 0 (lax_ro (LR.m lr_int) lax_nil)))) (LR.m lr_int)) (ls_one (ls_putM 8 (LM.w (lm_bin op_addU v_addU (LR.m lr_int) (LO.m (lo_fn G_off hr (by decide) rfl (lax_sl 0 (lax_ro (LR.m lr_int) lax_nil)))))) (LO.m (lo_fn G_off hr (by decide) rfl (lax_sl 0 (lax_ro (LR.m (lr_callB call_len v_len rfl b_len rfl (lar_cons (lr_v 8) lar_nil))) lax_nil)))))) ls_nil)
   (ls_one (ls_ret (LM.w (LR.m (lr_tup (lar_cons (lr_v 4) (lar_cons (lr_v 6) (lar_cons (lr_callT call_tuple_of v_tuple rfl b_tuple rfl (lar_cons (lr_v 8) lar_nil)) lar_nil))))))))))))))
abbrev S_rule : Stmt := top 33
abbrev N_rule : List Str := ["_law_d", "_law_many", "_law_style", "_law_way", "_law_one", "_law_word_here"]
theorem sc_rule : FnScope N_rule ["_law_d", "_law_many", "_law_style"] (defScope S_rule) := ⟨rfl, rfl, rfl, by decide +kernel, rfl, by decide +kernel, by decide +kernel⟩
theorem ok_rule {psi__off : PSp} {psi__word : PSp} {psi_ : PSp} (F : FunD K "_law_rule" "_law_rule" (defArgs S_rule) (defBody S_rule) (defScope S_rule) [] [] f fd) (G_off : Cal P w K mg base 2 "_law_off" 2 psi__off) (G_word : Cal P w K mg base 1 "_law_word" 2 psi__word)
    (hp : ∀ os Qp Ep, os.length = 3 → psi_ os Qp Ep → t_rule psi__off psi__word (endP [0] os Qp Ep) (startP 6 os)) : FnOk P w K mg base CX0 3 f fd ["_law_d", "_law_many", "_law_style"] (spP K 3 psi_) := by
  have nd : (N_rule : List Str).Nodup := sc_rule.nd
  refine fn_ok0 [0] F sc_rule (fun cdv A outer s H E hr => ?_) hp
  exact (ls_cons (ls_set (i := 3) nd rfl (by first | exact Or.inl rfl | exact Or.inr rfl) (by decide) (LM.w (LO.m (lo_fn G_off hr (by decide) rfl (lax_sl 0 (lax_ro (LR.m lr_int) lax_nil))))))
   (ls_cons (ls_if (LW.toT (lw_and (lt_cmpR (op_eqD hr.units) v_eq (lr_v 3) lr_int) (lw_and1 (lt_cmpR op_gt v_gt (lr_v 1) lr_int)))) (ls_cons (ls_set (i := 4) nd rfl (by first | exact Or.inl rfl | exact Or.inr rfl) (by decide) (LM.w (LO.m (lo_fn G_off hr (by decide) rfl (lax_sl 0 (lax_ro (LR.m (lr_v 1)) lax_nil))))))
   (ls_one (ls_ret (LM.w (lm_tup (lam_cons (LR.m lr_str) (lam_cons (LR.m (lr_v 4)) (lam_cons (lm_bin op_mod v_mod (lm_bin op_addU v_addU (LR.m (lr_bin op_addU v_addU (lr_v 4) lr_int)) (LO.m (lo_fn G_off hr (by decide) rfl (lax_sl 0 (lax_ro (LR.m (lr_bin op_sub v_sub (lr_v 1) lr_int)) lax_nil))))) (LR.m (lr_v 1))) lam_nil)))))))) ls_nil)
   (ls_cons (ls_set (i := 5) nd rfl (by first | exact Or.inl rfl | exact Or.inr rfl) (by decide) (LM.w (LO.m (lo_fn G_word hr (by decide) rfl (lax_ro (LR.m (lr_v 2)) (lax_ro (LO.m (lo_fn G_off hr (by decide) rfl (lax_sl 0 (lax_ro (LR.m lr_int) lax_nil)))) lax_nil))))))
   (ls_cons (ls_if (lt_cmpR (op_eqD hr.units) v_eq (lr_v 3) lr_int) (ls_one (ls_ret (LM.w (LR.m (lr_tup (lar_cons lr_str (lar_cons (lr_v 5) lar_nil))))))) ls_nil)
   (ls_one (ls_ret (LM.w (lm_tup (lam_cons (LR.m lr_str) (lam_cons (LR.m (lr_v 5)) (lam_cons (LO.m (lo_fn G_word hr (by decide) rfl (lax_ro (LR.m (lr_v 2)) (lax_ro (LO.m (lo_fn G_off hr (by decide) rfl (lax_sl 0 (lax_ro (LR.m lr_int) lax_nil)))) lax_nil)))) lam_nil)))))))))))
abbrev S_school : Stmt := top 34
abbrev N_school : List Str := ["_law_d", "_law_most", "_law_style", "_law_ladder", "_law_k", "_law_sets", "_law_rules"]
theorem sc_school : FnScope N_school ["_law_d", "_law_most"] (defScope S_school) := ⟨rfl, rfl, rfl, by decide +kernel, rfl, by decide +kernel, by decide +kernel⟩
theorem ok_school {psi__off : PSp} {psi__set : PSp} {psi__rule : PSp} {psi_ : PSp} (F : FunD K "_law_school" "_law_school" (defArgs S_school) (defBody S_school) (defScope S_school) [] [] f fd) (G_off : Cal P w K mg base 2 "_law_off" 2 psi__off) (b_range : mg "range" = none) (G_set : Cal P w K mg base 3 "_law_set" 3 psi__set) (b_len : mg "len" = none) (G_rule : Cal P w K mg base 3 "_law_rule" 3 psi__rule)
    (hp : ∀ os Qp Ep, os.length = 2 → psi_ os Qp Ep → t_school psi__off psi__set psi__rule (endP [0] os Qp Ep) (startP 7 os)) : FnOk P w K mg base CX0 4 f fd ["_law_d", "_law_most"] (spP K 2 psi_) := by
  have nd : (N_school : List Str).Nodup := sc_school.nd
  refine fn_ok0 [0] F sc_school (fun cdv A outer s H E hr => ?_) hp
  exact (ls_cons (ls_set (i := 2) nd rfl (by first | exact Or.inl rfl | exact Or.inr rfl) (by decide) (LM.w (LO.m (lo_fn G_off hr (by decide) rfl (lax_sl 0 (lax_ro (LR.m (lr_bin op_mulU v_mulU lr_int lr_int)) lax_nil))))))
   (ls_cons (by first | exact ls_setLc (i := 3) (own := [("_law_k", 4)]) (by decide) rfl nd rfl rfl (sw_true rfl rfl rfl (by decide +kernel)) (li_range1 rfl b_range (lam_cons (lm_bin op_addU v_addU (LR.m lr_int) (LO.m (lo_fn G_off hr (by decide) rfl (lax_sl 0 (lax_ro (lm_ix ix_seq v_ix (LR.m (lr_lst (lar_cons lr_int (lar_cons lr_int (lar_cons lr_int lar_nil))))) (LO.m (lo_fn G_off hr (by decide) rfl (lax_sl 0 (lax_ro (LR.m lr_int) lax_nil))))) lax_nil))))) lam_nil)) (blkOk_by (own := [("_law_k", 4)]) (N := N_school) (sc := defScope S_school) (by decide +kernel)) (fun _ _ _ _ _ => (lg_name (i := 4) nd rfl (by first | exact Or.inl rfl | exact Or.inr rfl) (by decide))) (fun _ _ _ _ _ => lts_nil) (fun _ _ _ _ _ => (lm_ix ix_seq v_ix (lm_lst (lam_cons (LR.m lr_int) (lam_cons (LR.m lr_int) (lam_cons (LR.m lr_int) (lam_cons (lm_bin op_addU v_addU (LR.m lr_int) (LO.m (lo_fn G_off hr (by decide) rfl (lax_sl 0 (lax_ro (LR.m lr_int) lax_nil))))) lam_nil))))) (LO.m (lo_fn G_off hr (by decide) rfl (lax_sl 0 (lax_ro (LR.m lr_int) lax_nil)))))) | exact ls_set (i := 3) nd rfl (by first | exact Or.inl rfl | exact Or.inr rfl) (by decide) (lo_lc (own := [("_law_k", 4)]) rfl nd (li_range1 rfl b_range (lam_cons (lm_bin op_addU v_addU (LR.m lr_int) (LO.m (lo_fn G_off hr (by decide) rfl (lax_sl 0 (lax_ro (lm_ix ix_seq v_ix (LR.m (lr_lst (lar_cons lr_int (lar_cons lr_int (lar_cons lr_int lar_nil))))) (LO.m (lo_fn G_off hr (by decide) rfl (lax_sl 0 (lax_ro (LR.m lr_int) lax_nil))))) lax_nil))))) lam_nil)) (blkOk_by (own := [("_law_k", 4)]) (N := N_school) (sc := defScope S_school) (by decide +kernel)) (fun _ _ _ _ _ => (lg_name (i := 4) nd rfl (by first | exact Or.inl rfl | exact Or.inr rfl) (by decide))) (fun _ _ _ _ _ => lts_nil) (fun _ _ _ _ _ => (lm_ix ix_seq v_ix (lm_lst (lam_cons (LR.m lr_int) (lam_cons (LR.m lr_int) (lam_cons (LR.m lr_int) (lam_cons (lm_bin op_addU v_addU (LR.m lr_int) (LO.m (lo_fn G_off hr (by decide) rfl (lax_sl 0 (lax_ro (LR.m lr_int) lax_nil))))) lam_nil))))) (LO.m (lo_fn G_off hr (by decide) rfl (lax_sl 0 (lax_ro (LR.m lr_int) lax_nil))))))))
   (ls_cons (by first | exact ls_setLc (i := 5) (own := [("_law_k", 4)]) (by decide) rfl nd rfl rfl (sw_true rfl rfl rfl (by decide +kernel)) (li_range1 rfl b_range (lam_cons (lm_bin op_addU v_addU (LR.m lr_int) (LO.m (lo_fn G_off hr (by decide) rfl (lax_sl 0 (lax_ro (LR.m (lr_v 1)) lax_nil))))) lam_nil)) (blkOk_by (own := [("_law_k", 4)]) (N := N_school) (sc := defScope S_school) (by decide +kernel)) (fun _ _ _ _ _ => (lg_name (i := 4) nd rfl (by first | exact Or.inl rfl | exact Or.inr rfl) (by decide))) (fun _ _ _ _ _ => lts_nil) (fun _ _ _ _ _ => (LO.m (lo_fn G_set hr (by decide) rfl (lax_sl 0 (lax_ro (lm_fz 3) (lax_ro (LR.m (lr_v 2)) lax_nil)))))) | exact ls_set (i := 5) nd rfl (by first | exact Or.inl rfl | exact Or.inr rfl) (by decide) (lo_lc (own := [("_law_k", 4)]) rfl nd (li_range1 rfl b_range (lam_cons (lm_bin op_addU v_addU (LR.m lr_int) (LO.m (lo_fn G_off hr (by decide) rfl (lax_sl 0 (lax_ro (LR.m (lr_v 1)) lax_nil))))) lam_nil)) (blkOk_by (own := [("_law_k", 4)]) (N := N_school) (sc := defScope S_school) (by decide +kernel)) (fun _ _ _ _ _ => (lg_name (i := 4) nd rfl (by first | exact Or.inl rfl | exact Or.inr rfl) (by decide))) (fun _ _ _ _ _ => lts_nil) (fun _ _ _ _ _ => (LO.m (lo_fn G_set hr (by decide) rfl (lax_sl 0 (lax_ro (lm_fz 3) (lax_ro (LR.m (lr_v 2)) lax_nil))))))))
   (ls_cons (ls_if (LW.toT (lw_and (lt_cmpR op_gt v_gt (lr_callB call_len v_len rfl b_len rfl (lar_cons (lr_v 5) lar_nil)) lr_int) (lw_and1 (lt_cmp (op_eqD hr.units) v_eq (LO.m (lo_fn G_off hr (by decide) rfl (lax_sl 0 (lax_ro (LR.m lr_int) lax_nil)))) (LR.m lr_int))))) (ls_one (ls_putL (LM.w (LR.m (lr_ix ix_seq v_ix (lr_v 5) lr_int))) (lp_v 5) (lr_un un_neg v_neg lr_int))) ls_nil)
   (ls_cons (by first | exact ls_setLc (i := 6) (own := [("_law_k", 4)]) (by decide) rfl nd rfl rfl (sw_true rfl rfl rfl (by decide +kernel)) (li_range1 rfl b_range (lam_cons (LO.m (lo_fn G_off hr (by decide) rfl (lax_sl 0 (lax_ro (lm_ix ix_seq v_ix (LR.m (lr_lst (lar_cons lr_int (lar_cons lr_int (lar_cons lr_int lar_nil))))) (LO.m (lo_fn G_off hr (by decide) rfl (lax_sl 0 (lax_ro (LR.m lr_int) lax_nil))))) lax_nil)))) lam_nil)) (blkOk_by (own := [("_law_k", 4)]) (N := N_school) (sc := defScope S_school) (by decide +kernel)) (fun _ _ _ _ _ => (lg_name (i := 4) nd rfl (by first | exact Or.inl rfl | exact Or.inr rfl) (by decide))) (fun _ _ _ _ _ => lts_nil) (fun _ _ _ _ _ => (LO.m (lo_fn G_rule hr (by decide) rfl (lax_sl 0 (lax_ro (LR.m (lr_callB call_len v_len rfl b_len rfl (lar_cons (lr_v 5) lar_nil))) (lax_ro (LR.m (lr_v 2)) lax_nil)))))) | exact ls_set (i := 6) nd rfl (by first | exact Or.inl rfl | exact Or.inr rfl) (by decide) (lo_lc (own := [("_law_k", 4)]) rfl nd (li_range1 rfl b_range (lam_cons (LO.m (lo_fn G_off hr (by decide) rfl (lax_sl 0 (lax_ro (lm_ix ix_seq v_ix (LR.m (lr_lst (lar_cons lr_int (lar_cons lr_int (lar_cons lr_int lar_nil))))) (LO.m (lo_fn G_off hr (by decide) rfl (lax_sl 0 (lax_ro (LR.m lr_int) lax_nil))))) lax_nil)))) lam_nil)) (blkOk_by (own := [("_law_k", 4)]) (N := N_school) (sc := defScope S_school) (by decide +kernel)) (fun _ _ _ _ _ => (lg_name (i := 4) nd rfl (by first | exact Or.inl rfl | exact Or.inr rfl) (by decide))) (fun _ _ _ _ _ => lts_nil) (fun _ _ _ _ _ => (LO.m (lo_fn G_rule hr (by decide) rfl (lax_sl 0 (lax_ro (LR.m (lr_callB call_len v_len rfl b_len rfl (lar_cons (lr_v 5) lar_nil))) (lax_ro (LR.m (lr_v 2)) lax_nil))))))))
   (ls_one (ls_ret (LM.w (lm_tup (lam_cons (lm_fz 3) (lam_cons (lm_fz 5) (lam_cons (lm_fz 6) lam_nil))))))))))))
abbrev S_must : Stmt := top 16
abbrev N_must : List Str := ["good", "word", "number"]
theorem sc_must : FnScope N_must ["good", "word", "number"] (defScope S_must) := ⟨rfl, rfl, rfl, by decide +kernel, rfl, by decide +kernel, by decide +kernel⟩
theorem ok_must {psi_ : PSp} (F : FunD K "must" "must" (defArgs S_must) (defBody S_must) (defScope S_must) [] [] f fd)
    (hp : ∀ os Qp Ep, os.length = 3 → psi_ os Qp Ep → t_must (endP [] os Qp Ep) (startP 3 os)) : FnOk P w K mg base CX0 1 f fd ["good", "word", "number"] (spP K 3 psi_) := by
  have nd : (N_must : List Str).Nodup := sc_must.nd
  refine fn_ok0 [] F sc_must (fun cdv A outer s H E hr => ?_) hp
  exact (ls_one (ls_if (lt_not (lt_val (LR.m (lr_v 0)))) (ls_one ls_never) ls_nil))
abbrev S_School_table_of : Stmt := inClass (top 19) 3
abbrev N_School_table_of : List Str := ["self", "told", "step", "names", "gaps", "found", "height", "k", "name"]
theorem sc_School_table_of : FnScope N_School_table_of ["self", "told"] (defScope S_School_table_of) := ⟨rfl, rfl, rfl, by decide +kernel, rfl, by decide +kernel, by decide +kernel⟩
theorem ok_School_table_of {C_School : Addr} {psi_ : PSp} (F : FunD K "table_of" "School.table_of" (defArgs S_School_table_of) (defBody S_School_table_of) (defScope S_School_table_of) [] [] f fd) (c_School : Cls K C_School) (n_School_heights : NoAttr K C_School "heights") (b_enumerate : mg "enumerate" = none)
    (hp : ∀ os Qp Ep, os.length = 2 → psi_ os Qp Ep → t_School_table_of C_School (endP [0] os Qp Ep) (startP 9 os)) : FnOk P w K mg base CX0 1 f fd ["self", "told"] (spP K 2 psi_) := by
  have nd : (N_School_table_of : List Str).Nodup := sc_School_table_of.nd
  refine fn_ok0 [0] F sc_School_table_of (fun cdv A outer s H E hr => ?_) hp
  exact (ls_cons (ls_asg (LR.m (lr_v 1)) (lg_tup rfl (lgs_cons (lg_name (i := 2) nd rfl (by first | exact Or.inl rfl | exact Or.inr rfl) (by decide)) (lgs_cons (lg_name (i := 3) nd rfl (by first | exact Or.inl rfl | exact Or.inr rfl) (by decide)) (lgs_cons (lg_name (i := 4) nd rfl (by first | exact Or.inl rfl | exact Or.inr rfl) (by decide)) lgs_nil)))))
   (ls_cons (ls_set (i := 5) nd rfl (by first | exact Or.inl rfl | exact Or.inr rfl) (by decide) lo_dnewT)
   (ls_cons (ls_set (i := 6) nd rfl (by first | exact Or.inl rfl | exact Or.inr rfl) (by decide) (LM.w (LR.m (lr_ix ix_seq v_ix (lr_fld (lr_v 0) c_School n_School_heights) (lr_v 2)))))
   (ls_cons (ls_for PassesOwn.never rfl (li_enumT rfl b_enumerate (lam_cons (LR.m (lr_v 3)) lam_nil)) (lg_tup rfl (lgs_cons (lg_name (i := 7) nd rfl (by first | exact Or.inl rfl | exact Or.inr rfl) (by decide)) (lgs_cons (lg_name (i := 8) nd rfl (by first | exact Or.inl rfl | exact Or.inr rfl) (by decide)) lgs_nil))) (ls_cons (ls_if (lt_cmpR op_gt v_gt (lr_v 7) lr_int) (ls_one (ls_set (i := 6) nd rfl (by first | exact Or.inl rfl | exact Or.inr rfl) (by decide) (LM.w (LR.m (lr_bin op_addU v_addU (lr_v 6) (lr_ix ix_seq v_ix (lr_v 4) (lr_bin op_sub v_sub (lr_v 7) lr_int))))))) ls_nil)
   (ls_one (ls_dput (hu1 hr) (LM.w (LR.m (lr_v 8))) (lp_v 5) (lr_tup (lar_cons (lr_bin op_addU v_addU (lr_v 2) (lr_v 7)) (lar_cons (lr_bin op_sub v_sub (lr_v 6) (lr_ix ix_seq v_ix (lr_fld (lr_v 0) c_School n_School_heights) (lr_bin op_addU v_addU (lr_v 2) (lr_v 7)))) lar_nil)))))))
   (ls_one (ls_ret (lo_mv 5)))))))
abbrev S_are_gaps : Stmt := top 18
abbrev N_are_gaps : List Str := ["gaps", "gap"]
theorem sc_are_gaps : FnScope N_are_gaps ["gaps"] (defScope S_are_gaps) := ⟨rfl, rfl, rfl, by decide +kernel, rfl, by decide +kernel, by decide +kernel⟩
theorem ok_are_gaps {psi_ : PSp} (F : FunD K "are_gaps" "are_gaps" (defArgs S_are_gaps) (defBody S_are_gaps) (defScope S_are_gaps) [] [] f fd) (i_MOST_GAP : ∃ t, mg "MOST_GAP" = some (.int 4 t))
    (hp : ∀ os Qp Ep, os.length = 1 → psi_ os Qp Ep → t_are_gaps (endP [] os Qp Ep) (startP 2 os)) : FnOk P w K mg base CX0 1 f fd ["gaps"] (spP K 1 psi_) := by
  have nd : (N_are_gaps : List Str).Nodup := sc_are_gaps.nd
  refine fn_ok0 [] F sc_are_gaps (fun cdv A outer s H E hr => ?_) hp
  exact (lss_or (ls_one (ls_ret (LM.w (lm_cmp (op_eqD hr.units) v_eq (LO.m (lo_lc (own := [("gap", 1)]) rfl nd (li_list (LR.m (lr_v 0))) (blkOk_by (own := [("gap", 1)]) (N := N_are_gaps) (sc := defScope S_are_gaps) (by decide +kernel)) (fun _ _ _ _ _ => (lg_name (i := 1) nd rfl (by first | exact Or.inl rfl | exact Or.inr rfl) (by decide))) (fun _ _ _ _ _ => (lts_one (lt_not (lt_chain op_le op_le v_le v_le (LR.m lr_int) (LR.m (lr_v 1)) (LR.m (lr_gint rfl i_MOST_GAP)))))) (fun _ _ _ _ _ => (LR.m (lr_v 1))))) (LR.m (lr_lst lar_nil)))))) (ls_one (ls_ret (LM.w (lm_cmp (op_eqD hr.units) v_eq (LO.m (lo_lc (own := [("gap", 1)]) rfl nd (li_tup (LR.m (lr_v 0))) (blkOk_by (own := [("gap", 1)]) (N := N_are_gaps) (sc := defScope S_are_gaps) (by decide +kernel)) (fun _ _ _ _ _ => (lg_name (i := 1) nd rfl (by first | exact Or.inl rfl | exact Or.inr rfl) (by decide))) (fun _ _ _ _ _ => (lts_one (lt_not (lt_chain op_le op_le v_le v_le (LR.m lr_int) (LR.m (lr_v 1)) (LR.m (lr_gint rfl i_MOST_GAP)))))) (fun _ _ _ _ _ => (LR.m (lr_v 1))))) (LR.m (lr_lst lar_nil)))))))
abbrev S_is_word : Stmt := top 17
abbrev N_is_word : List Str := ["word", "sign"]
theorem sc_is_word : FnScope N_is_word ["word"] (defScope S_is_word) := ⟨rfl, rfl, rfl, by decide +kernel, rfl, by decide +kernel, by decide +kernel⟩
theorem ok_is_word {psi_ : PSp} (F : FunD K "is_word" "is_word" (defArgs S_is_word) (defBody S_is_word) (defScope S_is_word) [] [] f fd) (s_SMALL : ∃ t, mg "SMALL" = some (.str "abcdefghijklmnopqrstuvwxyz" t)) (b_len : mg "len" = none) (i_MOST_LETTERS : ∃ t, mg "MOST_LETTERS" = some (.int 6 t))
    (hp : ∀ os Qp Ep, os.length = 1 → psi_ os Qp Ep → t_is_word (endP [] os Qp Ep) (startP 2 os)) : FnOk P w K mg base CX0 1 f fd ["word"] (spP K 1 psi_) := by
  have nd : (N_is_word : List Str).Nodup := sc_is_word.nd
  refine fn_ok0 [] F sc_is_word (fun cdv A outer s H E hr => ?_) hp
  exact (ls_one (ls_ret (LM.w (lm_and (lm_chain op_le op_le v_le v_le (LR.m lr_int) (LR.m (lr_callB call_len v_len rfl b_len rfl (lar_cons (lr_v 0) lar_nil))) (LR.m (lr_gint rfl i_MOST_LETTERS))) (lm_one (lm_cmp (op_eqD hr.units) v_eq (LO.m (lo_lc (own := [("sign", 1)]) rfl nd (li_str (LR.m (lr_v 0))) (blkOk_by (own := [("sign", 1)]) (N := N_is_word) (sc := defScope S_is_word) (by decide +kernel)) (fun _ _ _ _ _ => (lg_name (i := 1) nd rfl (by first | exact Or.inl rfl | exact Or.inr rfl) (by decide))) (fun _ _ _ _ _ => (lts_one (lt_cmpR op_notIn_sign v_notInS (lr_v 1) (lr_gstr rfl s_SMALL)))) (fun _ _ _ _ _ => (LR.m (lr_v 1))))) (LR.m (lr_lst lar_nil))))))))
abbrev S_School_is_set : Stmt := inClass (top 19) 1
abbrev N_School_is_set : List Str := ["self", "told", "step", "names", "gaps", "name"]
theorem sc_School_is_set : FnScope N_School_is_set ["self", "told"] (defScope S_School_is_set) := ⟨rfl, rfl, rfl, by decide +kernel, rfl, by decide +kernel, by decide +kernel⟩
theorem ok_School_is_set {psi__are_gaps : PSp} {psi__is_word : PSp} {C_School : Addr} {psi_ : PSp} (F : FunD K "is_set" "School.is_set" (defArgs S_School_is_set) (defBody S_School_is_set) (defScope S_School_is_set) [] [] f fd) (G_are_gaps : Cal P w K mg base 1 "are_gaps" 1 psi__are_gaps) (b_len : mg "len" = none) (i_MOST_NAMES : ∃ t, mg "MOST_NAMES" = some (.int 7 t)) (b_set : mg "set" = none) (G_is_word : Cal P w K mg base 1 "is_word" 1 psi__is_word) (c_School : Cls K C_School) (n_School_heights : NoAttr K C_School "heights")
    (hp : ∀ os Qp Ep, os.length = 2 → psi_ os Qp Ep → t_School_is_set psi__are_gaps psi__is_word C_School (endP [0] os Qp Ep) (startP 6 os)) : FnOk P w K mg base CX0 2 f fd ["self", "told"] (spP K 2 psi_) := by
  have nd : (N_School_is_set : List Str).Nodup := sc_School_is_set.nd
  refine fn_ok0 [0] F sc_School_is_set (fun cdv A outer s H E hr => ?_) hp
  exact (ls_cons (ls_asg (LR.m (lr_v 1)) (lg_tup rfl (lgs_cons (lg_name (i := 2) nd rfl (by first | exact Or.inl rfl | exact Or.inr rfl) (by decide)) (lgs_cons (lg_name (i := 3) nd rfl (by first | exact Or.inl rfl | exact Or.inr rfl) (by decide)) (lgs_cons (lg_name (i := 4) nd rfl (by first | exact Or.inl rfl | exact Or.inr rfl) (by decide)) lgs_nil)))))
   (ls_cons (ls_if (LW.toT (lw_or (lt_not (lt_chain op_le op_le v_le v_le (LR.m lr_int) (LR.m (lr_callB call_len v_len rfl b_len rfl (lar_cons (lr_v 3) lar_nil))) (LR.m (lr_gint rfl i_MOST_NAMES)))) (lw_or (lt_cmpR (op_neD hr.units) v_ne (lr_callB call_len v_len rfl b_len rfl (lar_cons (lr_v 4) lar_nil)) (lr_bin op_sub v_sub (lr_callB call_len v_len rfl b_len rfl (lar_cons (lr_v 3) lar_nil)) lr_int)) (lw_or1 (lt_not (lt_val (LO.m (lo_fn G_are_gaps hr (by decide) rfl (lax_ro (LR.m (lr_v 4)) lax_nil))))))))) (ls_one (ls_ret (LM.w (LR.m lr_bl)))) ls_nil)
   (ls_cons (ls_if (LW.toT (lw_or (lt_cmp (op_neD hr.units) v_ne (LO.m (lo_lc (own := [("name", 5)]) rfl nd (li_tup (LR.m (lr_v 3))) (blkOk_by (own := [("name", 5)]) (N := N_School_is_set) (sc := defScope S_School_is_set) (by decide +kernel)) (fun _ _ _ _ _ => (lg_name (i := 5) nd rfl (by first | exact Or.inl rfl | exact Or.inr rfl) (by decide))) (fun _ _ _ _ _ => (lts_one (lt_not (lt_val (LO.m (lo_fn G_is_word hr (by decide) rfl (lax_ro (LR.m (lr_v 5)) lax_nil))))))) (fun _ _ _ _ _ => (LR.m (lr_v 5))))) (LR.m (lr_lst lar_nil))) (lw_or1 (lt_cmpR (op_neD hr.units) v_ne (lr_lenSet rfl rfl b_len rfl b_set (lr_v 3)) (lr_callB call_len v_len rfl b_len rfl (lar_cons (lr_v 3) lar_nil)))))) (ls_one (ls_ret (LM.w (LR.m lr_bl)))) ls_nil)
   (ls_one (ls_ret (LM.w (lm_and (LR.m (lr_cmp op_le v_le lr_int (lr_v 2))) (lm_one (LR.m (lr_cmp op_le v_le (lr_bin op_addU v_addU (lr_v 2) (lr_callB call_len v_len rfl b_len rfl (lar_cons (lr_v 3) lar_nil))) (lr_callB call_len v_len rfl b_len rfl (lar_cons (lr_fld (lr_v 0) c_School n_School_heights) lar_nil))))))))))))
abbrev S_School_is_rule : Stmt := inClass (top 19) 2
abbrev N_School_is_rule : List Str := ["self", "rule", "one", "word"]
theorem sc_School_is_rule : FnScope N_School_is_rule ["self", "rule"] (defScope S_School_is_rule) := ⟨rfl, rfl, rfl, by decide +kernel, rfl, by decide +kernel, by decide +kernel⟩
theorem ok_School_is_rule {C_School : Addr} {psi__is_word : PSp} {psi_ : PSp} (F : FunD K "is_rule" "School.is_rule" (defArgs S_School_is_rule) (defBody S_School_is_rule) (defScope S_School_is_rule) [] [] f fd) (b_len : mg "len" = none) (b_int : mg "int" = none) (c_School : Cls K C_School) (n_School_told : NoAttr K C_School "told") (G_is_word : Cal P w K mg base 1 "is_word" 1 psi__is_word)
    (hp : ∀ os Qp Ep, os.length = 2 → psi_ os Qp Ep → t_School_is_rule C_School psi__is_word (endP [0] os Qp Ep) (startP 4 os)) : FnOk P w K mg base CX0 2 f fd ["self", "rule"] (spP K 2 psi_) := by
  have nd : (N_School_is_rule : List Str).Nodup := sc_School_is_rule.nd
  refine fn_ok0 [0] F sc_School_is_rule (fun cdv A outer s H E hr => ?_) hp
  exact (ls_cons (ls_if (LW.toT (lw_or (lt_cmpR op_lt v_lt (lr_callB call_len v_len rfl b_len rfl (lar_cons (lr_v 1) lar_nil)) lr_int) (lw_or (lt_cmpR op_notIn_seq (v_inF true) (lr_ix ix_seq v_ix (lr_v 1) lr_int) (lr_tup (lar_cons lr_str (lar_cons lr_str (lar_cons lr_str lar_nil))))) (lw_or1 (lt_cmpR (op_neD hr.units) v_ne (lr_callB call_len v_len rfl b_len rfl (lar_cons (lr_v 1) lar_nil)) (lr_bin op_sub v_sub lr_int (lr_callT call_int1 v_int1 rfl b_int rfl (lar_cons (lr_cmp (op_eqD hr.units) v_eq (lr_ix ix_seq v_ix (lr_v 1) lr_int) lr_str) lar_nil)))))))) (ls_one (ls_ret (LM.w (LR.m lr_bl)))) ls_nil)
   (ls_cons (ls_if (lt_cmpR (op_eqD hr.units) v_eq (lr_ix ix_seq v_ix (lr_v 1) lr_int) lr_str) (ls_one (ls_ret (LM.w (lm_and (LR.m (lr_cmp (op_neD hr.units) v_ne (lr_ix ix_seq v_ix (lr_v 1) lr_int) (lr_ix ix_seq v_ix (lr_v 1) lr_int))) (lm_one (lm_cmp (op_eqD hr.units) v_eq (LO.m (lo_lc (own := [("one", 2)]) rfl nd (li_tup (LR.m (lr_slice sl_seq v_sl (lr_v 1) (lpo_i lr_int) lpo_n))) (blkOk_by (own := [("one", 2)]) (N := N_School_is_rule) (sc := defScope S_School_is_rule) (by decide +kernel)) (fun _ _ _ _ _ => (lg_name (i := 2) nd rfl (by first | exact Or.inl rfl | exact Or.inr rfl) (by decide))) (fun _ _ _ _ _ => (lts_one (lt_not (lt_chain op_le op_lt v_le v_lt (LR.m lr_int) (LR.m (lr_v 2)) (LR.m (lr_callB call_len v_len rfl b_len rfl (lar_cons (lr_fld (lr_v 0) c_School n_School_told) lar_nil))))))) (fun _ _ _ _ _ => (LR.m (lr_v 2))))) (LR.m (lr_lst lar_nil)))))))) ls_nil)
   (ls_one (ls_ret (LM.w (lm_cmp (op_eqD hr.units) v_eq (LO.m (lo_lc (own := [("word", 3)]) rfl nd (li_tup (LR.m (lr_slice sl_seq v_sl (lr_v 1) (lpo_i lr_int) lpo_n))) (blkOk_by (own := [("word", 3)]) (N := N_School_is_rule) (sc := defScope S_School_is_rule) (by decide +kernel)) (fun _ _ _ _ _ => (lg_name (i := 3) nd rfl (by first | exact Or.inl rfl | exact Or.inr rfl) (by decide))) (fun _ _ _ _ _ => (lts_one (lt_not (lt_val (LO.m (lo_fn G_is_word hr (by decide) rfl (lax_ro (LR.m (lr_v 3)) lax_nil))))))) (fun _ _ _ _ _ => (LR.m (lr_v 3))))) (LR.m (lr_lst lar_nil))))))))
abbrev S_School_init : Stmt := inClass (top 19) 0
abbrev N_School_init : List Str := ["self", "ladder", "sets", "rules", "number", "gap", "told", "one", "rule"]
theorem sc_School_init : FnScope N_School_init ["self", "ladder", "sets", "rules"] (defScope S_School_init) := ⟨rfl, rfl, rfl, by decide +kernel, rfl, by decide +kernel, by decide +kernel⟩
theorem ok_School_init {psi__must : PSp} {psi__are_gaps : PSp} {C_School : Addr} {psi__School_is_set : PSp} {psi__School_table_of : PSp} {psi__School_is_rule : PSp} {psi_ : PSp} (F : FunD K "__init__" "School.__init__" (defArgs S_School_init) (defBody S_School_init) (defScope S_School_init) [] [] f fd) (G_must : Cal P w K mg base 1 "must" 3 psi__must) (b_len : mg "len" = none) (i_MOST_GAPS : ∃ t, mg "MOST_GAPS" = some (.int 30 t)) (b_enumerate : mg "enumerate" = none) (G_are_gaps : Cal P w K mg base 1 "are_gaps" 1 psi__are_gaps) (c_School : Cls K C_School) (n_School_gaps : NoAttr K C_School "gaps") (b_list : mg "list" = none) (n_School_heights : NoAttr K C_School "heights") (i_MOST_SETS : ∃ t, mg "MOST_SETS" = some (.int 5 t)) (G_School_is_set : CalM P w K mg base 2 C_School "is_set" 1 psi__School_is_set) (n_School_told : NoAttr K C_School "told") (n_School_tables : NoAttr K C_School "tables") (G_School_table_of : CalM P w K mg base 1 C_School "table_of" 1 psi__School_table_of) (i_MOST_RULES : ∃ t, mg "MOST_RULES" = some (.int 12 t)) (G_School_is_rule : CalM P w K mg base 2 C_School "is_rule" 1 psi__School_is_rule) (n_School_kept : NoAttr K C_School "kept")
    (hp : ∀ os Qp Ep, os.length = 4 → psi_ os Qp Ep → t_School_init psi__must psi__are_gaps C_School psi__School_is_set psi__School_table_of psi__School_is_rule (endP [0] os Qp Ep) (startP 9 os)) : FnOk P w K mg base CX0 3 f fd ["self", "ladder", "sets", "rules"] (spP K 4 psi_) := by
  have nd : (N_School_init : List Str).Nodup := sc_School_init.nd
  refine fn_ok0 [0] F sc_School_init (fun cdv A outer s H E hr => ?_) hp
  exact (ls_cons (ls_expr (LO.m (lo_fn G_must hr (by decide) rfl (lax_ro (lm_chain op_le op_le v_le v_le (LR.m lr_int) (LR.m (lr_callB call_len v_len rfl b_len rfl (lar_cons (lr_v 1) lar_nil))) (LR.m (lr_gint rfl i_MOST_GAPS))) (lax_ro (LR.m lr_str) (lax_ro (LR.m lr_int) lax_nil))))))
   (ls_cons (ls_for PassesOwn.never rfl (li_enum rfl b_enumerate (lam_cons (LR.m (lr_v 1)) lam_nil)) (lg_tup rfl (lgs_cons (lg_name (i := 4) nd rfl (by first | exact Or.inl rfl | exact Or.inr rfl) (by decide)) (lgs_cons (lg_name (i := 5) nd rfl (by first | exact Or.inl rfl | exact Or.inr rfl) (by decide)) lgs_nil))) (ls_one (ls_expr (LO.m (lo_fn G_must hr (by decide) rfl (lax_ro (LO.m (lo_fn G_are_gaps hr (by decide) rfl (lax_ro (LR.m (lr_lst (lar_cons (lr_v 5) lar_nil))) lax_nil))) (lax_ro (LR.m lr_str) (lax_ro (LR.m (lr_v 4)) lax_nil))))))))
   (ls_cons (ls_fld 0 (LM.w (LR.m (lr_callT call_list_of v_list rfl b_list rfl (lar_cons (lr_v 1) lar_nil)))) c_School n_School_gaps)
   (ls_cons (ls_fld 0 (lo_lst (lam_cons (LR.m lr_int) lam_nil)) c_School n_School_heights)
   (ls_cons (ls_for PassesOwn.never rfl (li_list (LR.m (lr_fld (lr_v 0) c_School n_School_gaps))) (lg_name (i := 5) nd rfl (by first | exact Or.inl rfl | exact Or.inr rfl) (by decide)) (ls_one (ls_appP (lp_f (lp_v 0) c_School n_School_heights) (lr_bin op_addU v_addU (lr_ix ix_seq v_ix (lr_fld (lr_v 0) c_School n_School_heights) (lr_un un_neg v_neg lr_int)) (lr_v 5)))))
   (ls_cons (ls_expr (LO.m (lo_fn G_must hr (by decide) rfl (lax_ro (lm_chain op_le op_le v_le v_le (LR.m lr_int) (LR.m (lr_callB call_len v_len rfl b_len rfl (lar_cons (lr_v 2) lar_nil))) (LR.m (lr_gint rfl i_MOST_SETS))) (lax_ro (LR.m lr_str) (lax_ro (LR.m lr_int) lax_nil))))))
   (ls_cons (ls_for PassesOwn.never rfl (li_enum rfl b_enumerate (lam_cons (LR.m (lr_v 2)) lam_nil)) (lg_tup rfl (lgs_cons (lg_name (i := 4) nd rfl (by first | exact Or.inl rfl | exact Or.inr rfl) (by decide)) (lgs_cons (lg_name (i := 6) nd rfl (by first | exact Or.inl rfl | exact Or.inr rfl) (by decide)) lgs_nil))) (ls_one (ls_expr (LO.m (lo_fn G_must hr (by decide) rfl (lax_ro (LO.m (lo_mS 0 G_School_is_set hr (by decide) (lax_ro (LR.m (lr_v 6)) lax_nil))) (lax_ro (LR.m lr_str) (lax_ro (LR.m (lr_v 4)) lax_nil))))))))
   (ls_cons (ls_fld 0 (LM.w (LR.m (lr_callT call_list_of v_list rfl b_list rfl (lar_cons (lr_v 2) lar_nil)))) c_School n_School_told)
   (ls_cons (ls_fld 0 (LM.w (LO.m (lo_lc (own := [("one", 7)]) rfl nd (li_list (LR.m (lr_fld (lr_v 0) c_School n_School_told))) (blkOk_by (own := [("one", 7)]) (N := N_School_init) (sc := defScope S_School_init) (by decide +kernel)) (fun _ _ _ _ _ => (lg_name (i := 7) nd rfl (by first | exact Or.inl rfl | exact Or.inr rfl) (by decide))) (fun _ _ _ _ _ => lts_nil) (fun _ _ _ _ _ => (LO.m (lo_mS 0 G_School_table_of hr (by decide) (lax_ro (LR.m (lr_v 7)) lax_nil))))))) c_School n_School_tables)
   (ls_cons (ls_expr (LO.m (lo_fn G_must hr (by decide) rfl (lax_ro (LR.m (lr_cmp op_le v_le (lr_callB call_len v_len rfl b_len rfl (lar_cons (lr_v 3) lar_nil)) (lr_gint rfl i_MOST_RULES))) (lax_ro (LR.m lr_str) (lax_ro (LR.m lr_int) lax_nil))))))
   (ls_cons (ls_for PassesOwn.never rfl (li_enum rfl b_enumerate (lam_cons (LR.m (lr_v 3)) lam_nil)) (lg_tup rfl (lgs_cons (lg_name (i := 4) nd rfl (by first | exact Or.inl rfl | exact Or.inr rfl) (by decide)) (lgs_cons (lg_name (i := 8) nd rfl (by first | exact Or.inl rfl | exact Or.inr rfl) (by decide)) lgs_nil))) (ls_one (ls_expr (LO.m (lo_fn G_must hr (by decide) rfl (lax_ro (LO.m (lo_mS 0 G_School_is_rule hr (by decide) (lax_ro (LR.m (lr_v 8)) lax_nil))) (lax_ro (LR.m lr_str) (lax_ro (LR.m (lr_v 4)) lax_nil))))))))
   (ls_one (ls_fld 0 (LM.w (LR.m (lr_callT call_list_of v_list rfl b_list rfl (lar_cons (lr_v 3) lar_nil)))) c_School n_School_kept)))))))))))))
abbrev S_made : Stmt := top 35
abbrev N_made : List Str := ["_law_t"]
theorem sc_made : FnScope N_made ["_law_t"] (defScope S_made) := ⟨rfl, rfl, rfl, by decide +kernel, rfl, by decide +kernel, by decide +kernel⟩
theorem ok_made {psi__School_init : PSp} {C_School : Addr} {psi_ : PSp} (F : FunD K "_law_made" "_law_made" (defArgs S_made) (defBody S_made) (defScope S_made) [] [] f fd) (G_School : CalC P w K mg base 3 "School" C_School 3 psi__School_init) (b_list : mg "list" = none)
    (hp : ∀ os Qp Ep, os.length = 1 → psi_ os Qp Ep → t_made psi__School_init C_School (endP [] os Qp Ep) (startP 1 os)) : FnOk P w K mg base CX0 5 f fd ["_law_t"] (spP K 1 psi_) := by
  have nd : (N_made : List Str).Nodup := sc_made.nd
  refine fn_ok0 [] F sc_made (fun cdv A outer s H E hr => ?_) hp
  exact (ls_one (ls_ret (lo_mk G_School hr (by decide) rfl (lax_ro (LR.m (lr_callT call_list_of v_list rfl b_list rfl (lar_cons (lr_ix ix_seq v_ix (lr_v 0) lr_int) lar_nil))) (lax_ro (LR.m (lr_callT call_list_of v_list rfl b_list rfl (lar_cons (lr_ix ix_seq v_ix (lr_v 0) lr_int) lar_nil))) (lax_ro (LR.m (lr_callT call_list_of v_list rfl b_list rfl (lar_cons (lr_ix ix_seq v_ix (lr_v 0) lr_int) lar_nil))) lax_nil))))))
abbrev S_height : Stmt := top 36
abbrev N_height : List Str := ["_law_t", "_law_step"]
theorem sc_height : FnScope N_height ["_law_t", "_law_step"] (defScope S_height) := ⟨rfl, rfl, rfl, by decide +kernel, rfl, by decide +kernel, by decide +kernel⟩
theorem ok_height {psi_ : PSp} (F : FunD K "_law_height" "_law_height" (defArgs S_height) (defBody S_height) (defScope S_height) [] [] f fd) (b_sum : mg "sum" = none)
    (hp : ∀ os Qp Ep, os.length = 2 → psi_ os Qp Ep → t_height (endP [] os Qp Ep) (startP 2 os)) : FnOk P w K mg base CX0 1 f fd ["_law_t", "_law_step"] (spP K 2 psi_) := by
  have nd : (N_height : List Str).Nodup := sc_height.nd
  refine fn_ok0 [] F sc_height (fun cdv A outer s H E hr => ?_) hp
  exact (ls_one (ls_ret (LM.w (LR.m (lr_callB (cr_sumU rfl) v_sumU rfl b_sum rfl (lar_cons (lr_slice sl_seq v_sl (lr_ix ix_seq v_ix (lr_v 0) lr_int) lpo_n (lpo_i (lr_v 1))) lar_nil))))))
abbrev S_note_of : Stmt := top 38
abbrev N_note_of : List Str := ["_law_t", "_law_number", "_law_k", "_law_step", "_law_names", "_law_gaps"]
theorem sc_note_of : FnScope N_note_of ["_law_t", "_law_number", "_law_k"] (defScope S_note_of) := ⟨rfl, rfl, rfl, by decide +kernel, rfl, by decide +kernel, by decide +kernel⟩
theorem ok_note_of {psi__height : PSp} {psi_ : PSp} (F : FunD K "_law_note_of" "_law_note_of" (defArgs S_note_of) (defBody S_note_of) (defScope S_note_of) [] [] f fd) (G_height : Cal P w K mg base 1 "_law_height" 2 psi__height) (b_sum : mg "sum" = none)
    (hp : ∀ os Qp Ep, os.length = 3 → psi_ os Qp Ep → t_note_of psi__height (endP [] os Qp Ep) (startP 6 os)) : FnOk P w K mg base CX0 2 f fd ["_law_t", "_law_number", "_law_k"] (spP K 3 psi_) := by
  have nd : (N_note_of : List Str).Nodup := sc_note_of.nd
  refine fn_ok0 [] F sc_note_of (fun cdv A outer s H E hr => ?_) hp
  exact (ls_cons (ls_asg (LR.m (lr_ix ix_seq v_ix (lr_ix ix_seq v_ix (lr_v 0) lr_int) (lr_v 1))) (lg_tup rfl (lgs_cons (lg_name (i := 3) nd rfl (by first | exact Or.inl rfl | exact Or.inr rfl) (by decide)) (lgs_cons (lg_name (i := 4) nd rfl (by first | exact Or.inl rfl | exact Or.inr rfl) (by decide)) (lgs_cons (lg_name (i := 5) nd rfl (by first | exact Or.inl rfl | exact Or.inr rfl) (by decide)) lgs_nil)))))
   (ls_one (ls_ret (LM.w (lm_tup (lam_cons (LR.m (lr_bin op_addU v_addU (lr_v 3) (lr_v 2))) (lam_cons (lm_bin op_sub v_sub (lm_bin op_addU v_addU (LO.m (lo_fn G_height hr (by decide) rfl (lax_ro (LR.m (lr_v 0)) (lax_ro (LR.m (lr_v 3)) lax_nil)))) (LR.m (lr_callB (cr_sumU rfl) v_sumU rfl b_sum rfl (lar_cons (lr_slice sl_seq v_sl (lr_v 5) lpo_n (lpo_i (lr_v 2))) lar_nil)))) (LO.m (lo_fn G_height hr (by decide) rfl (lax_ro (LR.m (lr_v 0)) (lax_ro (LR.m (lr_bin op_addU v_addU (lr_v 3) (lr_v 2))) lax_nil))))) lam_nil)))))))
abbrev S_name : Stmt := top 37
abbrev N_name : List Str := ["_law_t", "_law_number", "_law_note", "_law_step", "_law_names", "_law_gaps", "_law_k"]
theorem sc_name : FnScope N_name ["_law_t", "_law_number", "_law_note"] (defScope S_name) := ⟨rfl, rfl, rfl, by decide +kernel, rfl, by decide +kernel, by decide +kernel⟩
theorem ok_name {psi__height : PSp} {psi_ : PSp} (F : FunD K "_law_name" "_law_name" (defArgs S_name) (defBody S_name) (defScope S_name) [] [] f fd) (b_len : mg "len" = none) (G_height : Cal P w K mg base 1 "_law_height" 2 psi__height) (b_sum : mg "sum" = none)
    (hp : ∀ os Qp Ep, os.length = 3 → psi_ os Qp Ep → t_name psi__height (endP [] os Qp Ep) (startP 7 os)) : FnOk P w K mg base CX0 2 f fd ["_law_t", "_law_number", "_law_note"] (spP K 3 psi_) := by
  have nd : (N_name : List Str).Nodup := sc_name.nd
  refine fn_ok0 [] F sc_name (fun cdv A outer s H E hr => ?_) hp
  exact (ls_cons (ls_asg (LR.m (lr_ix ix_seq v_ix (lr_ix ix_seq v_ix (lr_v 0) lr_int) (lr_v 1))) (lg_tup rfl (lgs_cons (lg_name (i := 3) nd rfl (by first | exact Or.inl rfl | exact Or.inr rfl) (by decide)) (lgs_cons (lg_name (i := 4) nd rfl (by first | exact Or.inl rfl | exact Or.inr rfl) (by decide)) (lgs_cons (lg_name (i := 5) nd rfl (by first | exact Or.inl rfl | exact Or.inr rfl) (by decide)) lgs_nil)))))
   (ls_cons (ls_set (i := 6) nd rfl (by first | exact Or.inl rfl | exact Or.inr rfl) (by decide) (LM.w (LR.m (lr_bin op_sub v_sub (lr_ix ix_seq v_ix (lr_v 2) lr_int) (lr_v 3)))))
   (ls_cons (ls_if (lt_not (lt_chain op_le op_lt v_le v_lt (LR.m lr_int) (LR.m (lr_v 6)) (LR.m (lr_callB call_len v_len rfl b_len rfl (lar_cons (lr_v 4) lar_nil))))) (ls_one (ls_ret (LM.w (LR.m lr_non)))) ls_nil)
   (ls_cons (ls_if (lt_cmp (op_neD hr.units) v_ne (lm_bin op_addU v_addU (LO.m (lo_fn G_height hr (by decide) rfl (lax_ro (LR.m (lr_v 0)) (lax_ro (LR.m (lr_ix ix_seq v_ix (lr_v 2) lr_int)) lax_nil)))) (LR.m (lr_ix ix_seq v_ix (lr_v 2) lr_int))) (lm_bin op_addU v_addU (LO.m (lo_fn G_height hr (by decide) rfl (lax_ro (LR.m (lr_v 0)) (lax_ro (LR.m (lr_v 3)) lax_nil)))) (LR.m (lr_callB (cr_sumU rfl) v_sumU rfl b_sum rfl (lar_cons (lr_slice sl_seq v_sl (lr_v 5) lpo_n (lpo_i (lr_v 6))) lar_nil))))) (ls_one (ls_ret (LM.w (LR.m lr_non)))) ls_nil)
   (ls_one (ls_ret (LM.w (LR.m (lr_ix ix_seq v_ix (lr_v 4) (lr_v 6))))))))))
abbrev S_tune : Stmt := top 39
abbrev N_tune : List Str := ["_law_d", "_law_t", "_law_most", "_law_voices", "_law_many", "_law_places", "_law_voice", "_law_tune_here", "_law_turn", "_law_column", "_law_some", "_law_k", "_law_note"]
theorem sc_tune : FnScope N_tune ["_law_d", "_law_t", "_law_most", "_law_voices"] (defScope S_tune) := ⟨rfl, rfl, rfl, by decide +kernel, rfl, by decide +kernel, by decide +kernel⟩
theorem ok_tune {psi__off : PSp} {psi__name : PSp} {psi__note_of : PSp} {psi_ : PSp} (F : FunD K "_law_tune" "_law_tune" (defArgs S_tune) (defBody S_tune) (defScope S_tune) [] [] f fd) (G_off : Cal P w K mg base 2 "_law_off" 2 psi__off) (b_range : mg "range" = none) (b_len : mg "len" = none) (G_name : Cal P w K mg base 2 "_law_name" 3 psi__name) (G_note_of : Cal P w K mg base 2 "_law_note_of" 3 psi__note_of) (b_abs : mg "abs" = none) (b_tuple : mg "tuple" = none)
    (hp : ∀ os Qp Ep, os.length = 4 → psi_ os Qp Ep → t_tune psi__off psi__name psi__note_of (endP [0] os Qp Ep) (startP 13 os)) : FnOk P w K mg base CX0 3 f fd ["_law_d", "_law_t", "_law_most", "_law_voices"] (spP K 4 psi_) := by
  have nd : (N_tune : List Str).Nodup := sc_tune.nd
  refine fn_ok0 [0] F sc_tune (fun cdv A outer s H E hr => ?_) hp
  exact (ls_cons (ls_set (i := 4) nd rfl (by first | exact Or.inl rfl | exact Or.inr rfl) (by decide) (LM.w (lm_bin op_addU v_addU (LR.m lr_int) (LO.m (lo_fn G_off hr (by decide) rfl (lax_sl 0 (lax_ro (LR.m (lr_v 3)) lax_nil)))))))
   (ls_cons (by first | exact ls_setLc (i := 5) (own := [("_law_voice", 6)]) (by decide) rfl nd rfl rfl (sw_true rfl rfl rfl (by decide +kernel)) (li_range1 rfl b_range (lam_cons (LR.m (lr_v 4)) lam_nil)) (blkOk_by (own := [("_law_voice", 6)]) (N := N_tune) (sc := defScope S_tune) (by decide +kernel)) (fun _ _ _ _ _ => (lg_name (i := 6) nd rfl (by first | exact Or.inl rfl | exact Or.inr rfl) (by decide))) (fun _ _ _ _ _ => lts_nil) (fun _ _ _ _ _ => (LO.m (lo_fn G_off hr (by decide) rfl (lax_sl 0 (lax_ro (LR.m (lr_callB call_len v_len rfl b_len rfl (lar_cons (lr_ix ix_seq v_ix (lr_v 1) lr_int) lar_nil))) lax_nil))))) | exact ls_set (i := 5) nd rfl (by first | exact Or.inl rfl | exact Or.inr rfl) (by decide) (lo_lc (own := [("_law_voice", 6)]) rfl nd (li_range1 rfl b_range (lam_cons (LR.m (lr_v 4)) lam_nil)) (blkOk_by (own := [("_law_voice", 6)]) (N := N_tune) (sc := defScope S_tune) (by decide +kernel)) (fun _ _ _ _ _ => (lg_name (i := 6) nd rfl (by first | exact Or.inl rfl | exact Or.inr rfl) (by decide))) (fun _ _ _ _ _ => lts_nil) (fun _ _ _ _ _ => (LO.m (lo_fn G_off hr (by decide) rfl (lax_sl 0 (lax_ro (LR.m (lr_callB call_len v_len rfl b_len rfl (lar_cons (lr_ix ix_seq v_ix (lr_v 1) lr_int) lar_nil))) lax_nil)))))))
   (ls_cons (ls_set (i := 7) nd rfl (by first | exact Or.inl rfl | exact Or.inr rfl) (by decide) (lo_lst lam_nil))
   (ls_cons (ls_for PassesOwn.never rfl (li_range1 rfl b_range (lam_cons (lm_bin op_addU v_addU (LR.m lr_int) (LO.m (lo_fn G_off hr (by decide) rfl (lax_sl 0 (lax_ro (LR.m (lr_v 2)) lax_nil))))) lam_nil)) (lg_name (i := 8) nd rfl (by first | exact Or.inl rfl | exact Or.inr rfl) (by decide)) (ls_cons (ls_set (i := 9) nd rfl (by first | exact Or.inl rfl | exact Or.inr rfl) (by decide) (lo_lst lam_nil))
   (ls_cons (ls_for PassesOwn.never rfl (li_range1 rfl b_range (lam_cons (LR.m (lr_v 4)) lam_nil)) (lg_name (i := 6) nd rfl (by first | exact Or.inl rfl | exact Or.inr rfl) (by decide)) (ls_cons (ls_if (LW.toT (lw_and (lt_cmpR (op_neD hr.units) v_ne (lr_v 7) (lr_lst lar_nil)) (lw_and1 (lt_cmp (op_eqD hr.units) v_eq (LO.m (lo_fn G_off hr (by decide) rfl (lax_sl 0 (lax_ro (LR.m lr_int) lax_nil)))) (LR.m lr_int))))) (ls_cons (by first | exact ls_setLc (i := 10) (own := [("_law_k", 11)]) (by decide) rfl nd rfl rfl (sw_true rfl rfl rfl (by decide +kernel)) (li_range1 rfl b_range (lam_cons (LR.m (lr_callB call_len v_len rfl b_len rfl (lar_cons (lr_ix ix_seq v_ix (lr_v 1) lr_int) lar_nil))) lam_nil)) (blkOk_by (own := [("_law_k", 11)]) (N := N_tune) (sc := defScope S_tune) (by decide +kernel)) (fun _ _ _ _ _ => (lg_name (i := 11) nd rfl (by first | exact Or.inl rfl | exact Or.inr rfl) (by decide))) (fun _ _ _ _ _ => (lts_one (lt_cmp op_notN v_notN (LO.m (lo_fn G_name hr (by decide) rfl (lax_ro (LR.m (lr_v 1)) (lax_ro (LR.m (lr_v 11)) (lax_ro (LR.m (lr_ix ix_seq v_ix (lr_ix ix_seq v_ix (lr_v 7) (lr_un un_neg v_neg lr_int)) (lr_v 6))) lax_nil))))) (LR.m lr_non)))) (fun _ _ _ _ _ => (LR.m (lr_v 11))) | exact ls_set (i := 10) nd rfl (by first | exact Or.inl rfl | exact Or.inr rfl) (by decide) (lo_lc (own := [("_law_k", 11)]) rfl nd (li_range1 rfl b_range (lam_cons (LR.m (lr_callB call_len v_len rfl b_len rfl (lar_cons (lr_ix ix_seq v_ix (lr_v 1) lr_int) lar_nil))) lam_nil)) (blkOk_by (own := [("_law_k", 11)]) (N := N_tune) (sc := defScope S_tune) (by decide +kernel)) (fun _ _ _ _ _ => (lg_name (i := 11) nd rfl (by first | exact Or.inl rfl | exact Or.inr rfl) (by decide))) (fun _ _ _ _ _ => (lts_one (lt_cmp op_notN v_notN (LO.m (lo_fn G_name hr (by decide) rfl (lax_ro (LR.m (lr_v 1)) (lax_ro (LR.m (lr_v 11)) (lax_ro (LR.m (lr_ix ix_seq v_ix (lr_ix ix_seq v_ix (lr_v 7) (lr_un un_neg v_neg lr_int)) (lr_v 6))) lax_nil))))) (LR.m lr_non)))) (fun _ _ _ _ _ => (LR.m (lr_v 11)))))
   (ls_cons (ls_set (i := 10) nd rfl (by first | exact Or.inl rfl | exact Or.inr rfl) (by decide) (LM.w (lm_bin op_addU v_addU (lm_fz 10) (lm_lst (lam_cons (LO.m (lo_fn G_off hr (by decide) rfl (lax_sl 0 (lax_ro (LR.m (lr_callB call_len v_len rfl b_len rfl (lar_cons (lr_ix ix_seq v_ix (lr_v 1) lr_int) lar_nil))) lax_nil)))) lam_nil)))))
   (ls_one (ls_putL (LM.w (lm_ix ix_seq v_ix (lm_fz 10) (LO.m (lo_fn G_off hr (by decide) rfl (lax_sl 0 (lax_ro (LR.m (lr_callB call_len v_len rfl b_len rfl (lar_cons (lr_v 10) lar_nil))) lax_nil)))))) (lp_v 5) (lr_v 6))))) ls_nil)
   (ls_cons (ls_set (i := 12) nd rfl (by first | exact Or.inl rfl | exact Or.inr rfl) (by decide) (LM.w (LO.m (lo_fn G_note_of hr (by decide) rfl (lax_ro (LR.m (lr_v 1)) (lax_ro (LR.m (lr_ix ix_seq v_ix (lr_v 5) (lr_v 6))) (lax_ro (LO.m (lo_fn G_off hr (by decide) rfl (lax_sl 0 (lax_ro (LR.m (lr_callB call_len v_len rfl b_len rfl (lar_cons (lr_ix ix_seq v_ix (lr_ix ix_seq v_ix (lr_ix ix_seq v_ix (lr_v 1) lr_int) (lr_ix ix_seq v_ix (lr_v 5) (lr_v 6))) lr_int) lar_nil))) lax_nil)))) lax_nil)))))))
   (ls_cons (ls_if (LW.toT (lw_or (lt_cmp (op_eqD hr.units) v_eq (LO.m (lo_fn G_off hr (by decide) rfl (lax_sl 0 (lax_ro (LR.m lr_int) lax_nil)))) (LR.m lr_int)) (lw_or1 (lt_cmpR op_gt v_gt (lr_callB call_abs v_f1 rfl b_abs rfl (lar_cons (lr_ix ix_seq v_ix (lr_v 12) lr_int) lar_nil)) lr_int)))) (ls_one (ls_set (i := 12) nd rfl (by first | exact Or.inl rfl | exact Or.inr rfl) (by decide) (LM.w (lm_tup (lam_cons (LO.m (lo_fn G_off hr (by decide) rfl (lax_sl 0 (lax_ro (LR.m (lr_bin op_addU v_addU (lr_callB call_len v_len rfl b_len rfl (lar_cons (lr_ix ix_seq v_ix (lr_v 1) lr_int) lar_nil)) lr_int)) lax_nil)))) (lam_cons (lm_bin op_sub v_sub (LO.m (lo_fn G_off hr (by decide) rfl (lax_sl 0 (lax_ro (LR.m lr_int) lax_nil)))) (LR.m lr_int)) lam_nil)))))) ls_nil)
   (ls_one (ls_app 9 (LM.w (LR.m (lr_v 12)))))))))
   (ls_one (ls_app 7 (LM.w (LR.m (lr_callT call_tuple_of v_tuple rfl b_tuple rfl (lar_cons (lr_v 9) lar_nil)))))))))
   (ls_one (ls_ret (lo_mv 7)))))))
abbrev S_drawn : Stmt := top 43
abbrev N_drawn : List Str := ["_law_d", "_law_t", "_law_tune_here", "_law_saying", "_law_column", "_law_sets", "_law_k", "_law_some", "_law_number"]
theorem sc_drawn : FnScope N_drawn ["_law_d", "_law_t", "_law_tune_here"] (defScope S_drawn) := ⟨rfl, rfl, rfl, by decide +kernel, rfl, by decide +kernel, by decide +kernel⟩
theorem ok_drawn {psi__name : PSp} {psi__off : PSp} {psi_ : PSp} (F : FunD K "_law_drawn" "_law_drawn" (defArgs S_drawn) (defBody S_drawn) (defScope S_drawn) [] [] f fd) (b_range : mg "range" = none) (b_len : mg "len" = none) (G_name : Cal P w K mg base 2 "_law_name" 3 psi__name) (G_off : Cal P w K mg base 2 "_law_off" 2 psi__off) (b_list : mg "list" = none) (b_tuple : mg "tuple" = none)
    (hp : ∀ os Qp Ep, os.length = 3 → psi_ os Qp Ep → t_drawn psi__name psi__off (endP [0] os Qp Ep) (startP 9 os)) : FnOk P w K mg base CX0 3 f fd ["_law_d", "_law_t", "_law_tune_here"] (spP K 3 psi_) := by
  have nd : (N_drawn : List Str).Nodup := sc_drawn.nd
  refine fn_ok0 [0] F sc_drawn (fun cdv A outer s H E hr => ?_) hp
  exact (ls_cons (ls_set (i := 3) nd rfl (by first | exact Or.inl rfl | exact Or.inr rfl) (by decide) (lo_lst lam_nil))
   (ls_cons (ls_for PassesOwn.never rfl (li_list (LR.m (lr_v 2))) (lg_name (i := 4) nd rfl (by first | exact Or.inl rfl | exact Or.inr rfl) (by decide)) (ls_cons (ls_set (i := 5) nd rfl (by first | exact Or.inl rfl | exact Or.inr rfl) (by decide) (lo_lst lam_nil))
   (ls_cons (ls_for PassesOwn.never rfl (li_range1 rfl b_range (lam_cons (LR.m (lr_callB call_len v_len rfl b_len rfl (lar_cons (lr_v 4) lar_nil))) lam_nil)) (lg_name (i := 6) nd rfl (by first | exact Or.inl rfl | exact Or.inr rfl) (by decide)) (ls_cons (by first | exact ls_setLc (i := 7) (own := [("_law_number", 8)]) (by decide) rfl nd rfl rfl (sw_true rfl rfl rfl (by decide +kernel)) (li_range1 rfl b_range (lam_cons (LR.m (lr_callB call_len v_len rfl b_len rfl (lar_cons (lr_ix ix_seq v_ix (lr_v 1) lr_int) lar_nil))) lam_nil)) (blkOk_by (own := [("_law_number", 8)]) (N := N_drawn) (sc := defScope S_drawn) (by decide +kernel)) (fun _ _ _ _ _ => (lg_name (i := 8) nd rfl (by first | exact Or.inl rfl | exact Or.inr rfl) (by decide))) (fun _ _ _ _ _ => (lts_one (lt_cmp op_notN v_notN (LO.m (lo_fn G_name hr (by decide) rfl (lax_ro (LR.m (lr_v 1)) (lax_ro (LR.m (lr_v 8)) (lax_ro (LR.m (lr_ix ix_seq v_ix (lr_v 4) (lr_v 6))) lax_nil))))) (LR.m lr_non)))) (fun _ _ _ _ _ => (LR.m (lr_v 8))) | exact ls_set (i := 7) nd rfl (by first | exact Or.inl rfl | exact Or.inr rfl) (by decide) (lo_lc (own := [("_law_number", 8)]) rfl nd (li_range1 rfl b_range (lam_cons (LR.m (lr_callB call_len v_len rfl b_len rfl (lar_cons (lr_ix ix_seq v_ix (lr_v 1) lr_int) lar_nil))) lam_nil)) (blkOk_by (own := [("_law_number", 8)]) (N := N_drawn) (sc := defScope S_drawn) (by decide +kernel)) (fun _ _ _ _ _ => (lg_name (i := 8) nd rfl (by first | exact Or.inl rfl | exact Or.inr rfl) (by decide))) (fun _ _ _ _ _ => (lts_one (lt_cmp op_notN v_notN (LO.m (lo_fn G_name hr (by decide) rfl (lax_ro (LR.m (lr_v 1)) (lax_ro (LR.m (lr_v 8)) (lax_ro (LR.m (lr_ix ix_seq v_ix (lr_v 4) (lr_v 6))) lax_nil))))) (LR.m lr_non)))) (fun _ _ _ _ _ => (LR.m (lr_v 8)))))
   (ls_cons (ls_if (LW.toT (lw_or (lt_cmpR (op_eqD hr.units) v_eq (lr_v 7) (lr_lst lar_nil)) (lw_or1 (lt_cmp (op_eqD hr.units) v_eq (LO.m (lo_fn G_off hr (by decide) rfl (lax_sl 0 (lax_ro (LR.m lr_int) lax_nil)))) (LR.m lr_int))))) (ls_one (ls_set (i := 7) nd rfl (by first | exact Or.inl rfl | exact Or.inr rfl) (by decide) (LM.w (LR.m (lr_listRg1 rfl rfl b_list rfl b_range (lr_callB call_len v_len rfl b_len rfl (lar_cons (lr_ix ix_seq v_ix (lr_v 1) lr_int) lar_nil))))))) ls_nil)
   (ls_cons (ls_if (LW.toT (lw_and (lt_cmpR (op_neD hr.units) v_ne (lr_v 3) (lr_lst lar_nil)) (lw_and (lt_cmpR (op_inD (hu65 hr)) v_in (lr_ix ix_seq v_ix (lr_ix ix_seq v_ix (lr_v 3) (lr_un un_neg v_neg lr_int)) (lr_v 6)) (lr_v 7)) (lw_and1 (lt_cmp op_gt v_gt (LO.m (lo_fn G_off hr (by decide) rfl (lax_sl 0 (lax_ro (LR.m lr_int) lax_nil)))) (LR.m lr_int)))))) (ls_one (ls_set (i := 7) nd rfl (by first | exact Or.inl rfl | exact Or.inr rfl) (by decide) (LM.w (LR.m (lr_lst (lar_cons (lr_ix ix_seq v_ix (lr_ix ix_seq v_ix (lr_v 3) (lr_un un_neg v_neg lr_int)) (lr_v 6)) lar_nil)))))) ls_nil)
   (ls_one (ls_app 5 (LM.w (lm_ix ix_seq v_ix (lm_fz 7) (LO.m (lo_fn G_off hr (by decide) rfl (lax_sl 0 (lax_ro (LR.m (lr_callB call_len v_len rfl b_len rfl (lar_cons (lr_v 7) lar_nil))) lax_nil))))))))))))
   (ls_one (ls_app 3 (LM.w (LR.m (lr_callT call_tuple_of v_tuple rfl b_tuple rfl (lar_cons (lr_v 5) lar_nil)))))))))
   (ls_one (ls_ret (lo_mv 3)))))
abbrev S_need_tune : Stmt := top 20
abbrev N_need_tune : List Str := ["school", "tune", "number", "column", "step", "alter"]
theorem sc_need_tune : FnScope N_need_tune ["school", "tune"] (defScope S_need_tune) := ⟨rfl, rfl, rfl, by decide +kernel, rfl, by decide +kernel, by decide +kernel⟩
theorem ok_need_tune {C_School : Addr} {psi_ : PSp} (F : FunD K "need_tune" "need_tune" (defArgs S_need_tune) (defBody S_need_tune) (defScope S_need_tune) [] [] f fd) (b_len : mg "len" = none) (i_MOST_COLUMNS : ∃ t, mg "MOST_COLUMNS" = some (.int 24 t)) (b_enumerate : mg "enumerate" = none) (i_MOST_VOICES : ∃ t, mg "MOST_VOICES" = some (.int 3 t)) (i_MOST_ALTER : ∃ t, mg "MOST_ALTER" = some (.int 9 t)) (c_School : Cls K C_School) (n_School_heights : NoAttr K C_School "heights")
    (hp : ∀ os Qp Ep, os.length = 2 → psi_ os Qp Ep → t_need_tune C_School (endP [] os Qp Ep) (startP 6 os)) : FnOk P w K mg base CX0 1 f fd ["school", "tune"] (spP K 2 psi_) := by
  have nd : (N_need_tune : List Str).Nodup := sc_need_tune.nd
  refine fn_ok0 [] F sc_need_tune (fun cdv A outer s H E hr => ?_) hp
  exact (ls_cons (ls_if (lt_not (lt_chain op_le op_le v_le v_le (LR.m lr_int) (LR.m (lr_callB call_len v_len rfl b_len rfl (lar_cons (lr_v 1) lar_nil))) (LR.m (lr_gint rfl i_MOST_COLUMNS)))) (ls_one ls_never) ls_nil)
   (ls_one (ls_for PassesOwn.never rfl (li_enum rfl b_enumerate (lam_cons (LR.m (lr_v 1)) lam_nil)) (lg_tup rfl (lgs_cons (lg_name (i := 2) nd rfl (by first | exact Or.inl rfl | exact Or.inr rfl) (by decide)) (lgs_cons (lg_name (i := 3) nd rfl (by first | exact Or.inl rfl | exact Or.inr rfl) (by decide)) lgs_nil))) (ls_cons (ls_if (LW.toT (lw_or (lt_not (lt_chain op_le op_le v_le v_le (LR.m lr_int) (LR.m (lr_callB call_len v_len rfl b_len rfl (lar_cons (lr_v 3) lar_nil))) (LR.m (lr_gint rfl i_MOST_VOICES)))) (lw_or1 (lt_cmpR (op_neD hr.units) v_ne (lr_callB call_len v_len rfl b_len rfl (lar_cons (lr_v 3) lar_nil)) (lr_callB call_len v_len rfl b_len rfl (lar_cons (lr_ix ix_seq v_ix (lr_v 1) lr_int) lar_nil)))))) (ls_one ls_never) ls_nil)
   (ls_one (ls_for PassesOwn.never rfl (li_tup (LR.m (lr_v 3))) (lg_tup rfl (lgs_cons (lg_name (i := 4) nd rfl (by first | exact Or.inl rfl | exact Or.inr rfl) (by decide)) (lgs_cons (lg_name (i := 5) nd rfl (by first | exact Or.inl rfl | exact Or.inr rfl) (by decide)) lgs_nil))) (ls_one (ls_if (LW.toT (lw_or (lt_not (lt_chain op_le op_lt v_le v_lt (LR.m lr_int) (LR.m (lr_v 4)) (LR.m (lr_callB call_len v_len rfl b_len rfl (lar_cons (lr_fld (lr_v 0) c_School n_School_heights) lar_nil))))) (lw_or1 (lt_not (lt_chain op_le op_le v_le v_le (LR.m (lr_bin op_sub v_sub lr_int (lr_gint rfl i_MOST_ALTER))) (LR.m (lr_v 5)) (LR.m (lr_gint rfl i_MOST_ALTER))))))) (ls_one ls_never) ls_nil))))))))
abbrev S_School_named : Stmt := inClass (top 19) 7
abbrev N_School_named : List Str := ["self", "number", "note"]
theorem sc_School_named : FnScope N_School_named ["self", "number", "note"] (defScope S_School_named) := ⟨rfl, rfl, rfl, by decide +kernel, rfl, by decide +kernel, by decide +kernel⟩
theorem ok_School_named {C_School : Addr} {psi_ : PSp} (F : FunD K "named" "School.named" (defArgs S_School_named) (defBody S_School_named) (defScope S_School_named) [] [] f fd) (c_School : Cls K C_School) (n_School_tables : NoAttr K C_School "tables")
    (hp : ∀ os Qp Ep, os.length = 3 → psi_ os Qp Ep → t_School_named C_School (endP [] os Qp Ep) (startP 3 os)) : FnOk P w K mg base CX0 1 f fd ["self", "number", "note"] (spP K 3 psi_) := by
  have nd : (N_School_named : List Str).Nodup := sc_School_named.nd
  refine fn_ok0 [] F sc_School_named (fun cdv A outer s H E hr => ?_) hp
  exact (ls_one (ls_ret (LM.w (LR.m (lr_dget2 (hu1 hr) (lr_ix ix_seq v_ix (lr_fld (lr_v 0) c_School n_School_tables) (lr_v 1)) (lr_v 2) lr_non)))))
abbrev S_column_fault : Stmt := top 22
abbrev N_column_fault : List Str := ["school", "column", "sets", "words", "number", "note", "voice", "word", "one", "other", "pair"]
theorem sc_column_fault : FnScope N_column_fault ["school", "column", "sets"] (defScope S_column_fault) := ⟨rfl, rfl, rfl, by decide +kernel, rfl, by decide +kernel, by decide +kernel⟩
theorem ok_column_fault {psi__School_named : PSp} {C_School : Addr} {psi_ : PSp} (F : FunD K "column_fault" "column_fault" (defArgs S_column_fault) (defBody S_column_fault) (defScope S_column_fault) [] [] f fd) (b_zip : mg "zip" = none) (G_School_named : CalM P w K mg base 1 C_School "named" 2 psi__School_named) (b_enumerate : mg "enumerate" = none) (b_range : mg "range" = none) (b_len : mg "len" = none) (c_School : Cls K C_School) (n_School_kept : NoAttr K C_School "kept")
    (hp : ∀ os Qp Ep, os.length = 3 → psi_ os Qp Ep → t_column_fault psi__School_named C_School (endP [] os Qp Ep) (startP 11 os)) : FnOk P w K mg base CX0 2 f fd ["school", "column", "sets"] (spP K 3 psi_) := by
  have nd : (N_column_fault : List Str).Nodup := sc_column_fault.nd
  refine fn_ok0 [] F sc_column_fault (fun cdv A outer s H E hr => ?_) hp
  exact (ls_cons (by first | exact ls_setLc (i := 3) (own := [("number", 4), ("note", 5)]) (by decide) rfl nd rfl rfl (sw_true rfl rfl rfl (by decide +kernel)) (li_zip rfl b_zip (lam_cons (LR.m (lr_v 2)) (lam_cons (LR.m (lr_v 1)) lam_nil))) (blkOk_by (own := [("number", 4), ("note", 5)]) (N := N_column_fault) (sc := defScope S_column_fault) (by decide +kernel)) (fun _ _ _ _ _ => (lg_tup rfl (lgs_cons (lg_name (i := 4) nd rfl (by first | exact Or.inl rfl | exact Or.inr rfl) (by decide)) (lgs_cons (lg_name (i := 5) nd rfl (by first | exact Or.inl rfl | exact Or.inr rfl) (by decide)) lgs_nil)))) (fun _ _ _ _ _ => lts_nil) (fun _ _ _ _ _ => (LO.m (lo_mR G_School_named hr (by decide) (LR.m (lr_v 0)) (lax_ro (LR.m (lr_v 4)) (lax_ro (LR.m (lr_v 5)) lax_nil))))) | exact ls_set (i := 3) nd rfl (by first | exact Or.inl rfl | exact Or.inr rfl) (by decide) (lo_lc (own := [("number", 4), ("note", 5)]) rfl nd (li_zip rfl b_zip (lam_cons (LR.m (lr_v 2)) (lam_cons (LR.m (lr_v 1)) lam_nil))) (blkOk_by (own := [("number", 4), ("note", 5)]) (N := N_column_fault) (sc := defScope S_column_fault) (by decide +kernel)) (fun _ _ _ _ _ => (lg_tup rfl (lgs_cons (lg_name (i := 4) nd rfl (by first | exact Or.inl rfl | exact Or.inr rfl) (by decide)) (lgs_cons (lg_name (i := 5) nd rfl (by first | exact Or.inl rfl | exact Or.inr rfl) (by decide)) lgs_nil)))) (fun _ _ _ _ _ => lts_nil) (fun _ _ _ _ _ => (LO.m (lo_mR G_School_named hr (by decide) (LR.m (lr_v 0)) (lax_ro (LR.m (lr_v 4)) (lax_ro (LR.m (lr_v 5)) lax_nil)))))))
   (ls_cons (ls_for PassesOwn.never rfl (li_enum rfl b_enumerate (lam_cons (lm_fz 3) lam_nil)) (lg_tup rfl (lgs_cons (lg_name (i := 6) nd rfl (by first | exact Or.inl rfl | exact Or.inr rfl) (by decide)) (lgs_cons (lg_name (i := 7) nd rfl (by first | exact Or.inl rfl | exact Or.inr rfl) (by decide)) lgs_nil))) (ls_one (ls_if (lt_cmpR op_isN v_isN (lr_v 7) lr_non) (ls_one (ls_ret (LM.w (LR.m (lr_tup (lar_cons lr_str (lar_cons (lr_v 6) lar_nil))))))) ls_nil)))
   (ls_cons (ls_for PassesOwn.never rfl (li_range1 rfl b_range (lam_cons (LR.m (lr_callB call_len v_len rfl b_len rfl (lar_cons (lr_v 3) lar_nil))) lam_nil)) (lg_name (i := 8) nd rfl (by first | exact Or.inl rfl | exact Or.inr rfl) (by decide)) (ls_one (ls_for PassesOwn.never rfl (li_range2 rfl b_range (lam_cons (LR.m (lr_bin op_addU v_addU (lr_v 8) lr_int)) (lam_cons (LR.m (lr_callB call_len v_len rfl b_len rfl (lar_cons (lr_v 3) lar_nil))) lam_nil))) (lg_name (i := 9) nd rfl (by first | exact Or.inl rfl | exact Or.inr rfl) (by decide)) (ls_cons (ls_set (i := 10) nd rfl (by first | exact Or.inl rfl | exact Or.inr rfl) (by decide) (LM.w (LR.m (lr_tup (lar_cons (lr_ix ix_seq v_ix (lr_v 3) (lr_v 8)) (lar_cons (lr_ix ix_seq v_ix (lr_v 3) (lr_v 9)) lar_nil))))))
   (ls_one (ls_if (LW.toT (lw_or (lt_cmpR (op_inD (hu65 hr)) v_in (lr_bin op_addU v_addU (lr_tup (lar_cons lr_str lar_nil)) (lr_v 10)) (lr_fld (lr_v 0) c_School n_School_kept)) (lw_or1 (lt_cmpR (op_inD (hu65 hr)) v_in (lr_tup (lar_cons lr_str (lar_cons (lr_ix ix_seq v_ix (lr_v 10) lr_int) (lar_cons (lr_ix ix_seq v_ix (lr_v 10) lr_int) lar_nil)))) (lr_fld (lr_v 0) c_School n_School_kept))))) (ls_one (ls_ret (LM.w (LR.m (lr_tup (lar_cons lr_str (lar_cons (lr_v 8) (lar_cons (lr_v 9) lar_nil)))))))) ls_nil))))))
   (ls_one (ls_ret (LM.w (LR.m lr_non)))))))
abbrev S_over_fault : Stmt := top 23
abbrev N_over_fault : List Str := ["school", "note", "one", "other", "word"]
theorem sc_over_fault : FnScope N_over_fault ["school", "note", "one", "other"] (defScope S_over_fault) := ⟨rfl, rfl, rfl, by decide +kernel, rfl, by decide +kernel, by decide +kernel⟩
theorem ok_over_fault {psi__School_named : PSp} {C_School : Addr} {psi_ : PSp} (F : FunD K "over_fault" "over_fault" (defArgs S_over_fault) (defBody S_over_fault) (defScope S_over_fault) [] [] f fd) (G_School_named : CalM P w K mg base 1 C_School "named" 2 psi__School_named) (c_School : Cls K C_School) (n_School_kept : NoAttr K C_School "kept")
    (hp : ∀ os Qp Ep, os.length = 4 → psi_ os Qp Ep → t_over_fault psi__School_named C_School (endP [] os Qp Ep) (startP 5 os)) : FnOk P w K mg base CX0 2 f fd ["school", "note", "one", "other"] (spP K 4 psi_) := by
  have nd : (N_over_fault : List Str).Nodup := sc_over_fault.nd
  refine fn_ok0 [] F sc_over_fault (fun cdv A outer s H E hr => ?_) hp
  exact (ls_cons (ls_set (i := 4) nd rfl (by first | exact Or.inl rfl | exact Or.inr rfl) (by decide) (LM.w (LO.m (lo_mR G_School_named hr (by decide) (LR.m (lr_v 0)) (lax_ro (LR.m (lr_v 3)) (lax_ro (LR.m (lr_v 1)) lax_nil))))))
   (ls_cons (ls_if (lt_cmpR op_isN v_isN (lr_v 4) lr_non) (ls_one (ls_ret (LM.w (LR.m lr_str)))) ls_nil)
   (ls_cons (ls_if (lt_cmpR (op_inD (hu65 hr)) v_in (lr_tup (lar_cons lr_str (lar_cons (lr_v 2) (lar_cons (lr_v 3) lar_nil)))) (lr_fld (lr_v 0) c_School n_School_kept)) (ls_one (ls_ret (LM.w (LR.m lr_str)))) ls_nil)
   (ls_one (ls_ret (LM.w (lm_if (lt_cmpR (op_inD (hu65 hr)) v_in (lr_tup (lar_cons lr_str (lar_cons (lr_v 4) lar_nil))) (lr_fld (lr_v 0) c_School n_School_kept)) (LR.m lr_str) (LR.m lr_non))))))))
abbrev S_step_fault : Stmt := top 24
abbrev N_step_fault : List Str := ["school", "column", "ahead", "sets", "voice", "note", "word"]
theorem sc_step_fault : FnScope N_step_fault ["school", "column", "ahead", "sets"] (defScope S_step_fault) := ⟨rfl, rfl, rfl, by decide +kernel, rfl, by decide +kernel, by decide +kernel⟩
theorem ok_step_fault {psi__over_fault : PSp} {psi_ : PSp} (F : FunD K "step_fault" "step_fault" (defArgs S_step_fault) (defBody S_step_fault) (defScope S_step_fault) [] [] f fd) (b_enumerate : mg "enumerate" = none) (G_over_fault : Cal P w K mg base 2 "over_fault" 4 psi__over_fault)
    (hp : ∀ os Qp Ep, os.length = 4 → psi_ os Qp Ep → t_step_fault psi__over_fault (endP [] os Qp Ep) (startP 7 os)) : FnOk P w K mg base CX0 3 f fd ["school", "column", "ahead", "sets"] (spP K 4 psi_) := by
  have nd : (N_step_fault : List Str).Nodup := sc_step_fault.nd
  refine fn_ok0 [] F sc_step_fault (fun cdv A outer s H E hr => ?_) hp
  exact (ls_cons (ls_for PassesOwn.never rfl (li_enumT rfl b_enumerate (lam_cons (LR.m (lr_v 1)) lam_nil)) (lg_tup rfl (lgs_cons (lg_name (i := 4) nd rfl (by first | exact Or.inl rfl | exact Or.inr rfl) (by decide)) (lgs_cons (lg_name (i := 5) nd rfl (by first | exact Or.inl rfl | exact Or.inr rfl) (by decide)) lgs_nil))) (ls_one (ls_if (lt_cmpR (op_neD hr.units) v_ne (lr_ix ix_seq v_ix (lr_v 2) (lr_v 4)) (lr_ix ix_seq v_ix (lr_v 3) (lr_v 4))) (ls_cons (ls_set (i := 6) nd rfl (by first | exact Or.inl rfl | exact Or.inr rfl) (by decide) (LM.w (LO.m (lo_fn G_over_fault hr (by decide) rfl (lax_ro (LR.m (lr_v 0)) (lax_ro (LR.m (lr_v 5)) (lax_ro (LR.m (lr_ix ix_seq v_ix (lr_v 2) (lr_v 4))) (lax_ro (LR.m (lr_ix ix_seq v_ix (lr_v 3) (lr_v 4))) lax_nil))))))))
   (ls_one (ls_if (lt_cmpR op_notN v_notN (lr_v 6) lr_non) (ls_one (ls_ret (LM.w (LR.m (lr_tup (lar_cons (lr_v 6) (lar_cons (lr_v 4) lar_nil))))))) ls_nil))) ls_nil)))
   (ls_one (ls_ret (LM.w (LR.m lr_non)))))
abbrev S_next_fault : Stmt := top 25
abbrev N_next_fault : List Str := ["school", "tune", "number", "ahead", "sets", "found"]
theorem sc_next_fault : FnScope N_next_fault ["school", "tune", "number", "ahead", "sets"] (defScope S_next_fault) := ⟨rfl, rfl, rfl, by decide +kernel, rfl, by decide +kernel, by decide +kernel⟩
theorem ok_next_fault {psi__column_fault : PSp} {psi__step_fault : PSp} {psi_ : PSp} (F : FunD K "next_fault" "next_fault" (defArgs S_next_fault) (defBody S_next_fault) (defScope S_next_fault) [] [] f fd) (G_column_fault : Cal P w K mg base 2 "column_fault" 3 psi__column_fault) (G_step_fault : Cal P w K mg base 3 "step_fault" 4 psi__step_fault)
    (hp : ∀ os Qp Ep, os.length = 5 → psi_ os Qp Ep → t_next_fault psi__column_fault psi__step_fault (endP [] os Qp Ep) (startP 6 os)) : FnOk P w K mg base CX0 4 f fd ["school", "tune", "number", "ahead", "sets"] (spP K 5 psi_) := by
  have nd : (N_next_fault : List Str).Nodup := sc_next_fault.nd
  refine fn_ok0 [] F sc_next_fault (fun cdv A outer s H E hr => ?_) hp
  exact (ls_cons (ls_set (i := 5) nd rfl (by first | exact Or.inl rfl | exact Or.inr rfl) (by decide) (LM.w (LO.m (lo_fn G_column_fault hr (by decide) rfl (lax_ro (LR.m (lr_v 0)) (lax_ro (LR.m (lr_ix ix_seq v_ix (lr_v 1) (lr_v 2))) (lax_ro (LR.m (lr_v 4)) lax_nil)))))))
   (ls_cons (ls_if (LW.toT (lw_and (lt_cmpR op_isN v_isN (lr_v 5) lr_non) (lw_and1 (lt_cmpR op_notN v_notN (lr_v 3) lr_non)))) (ls_one (ls_set (i := 5) nd rfl (by first | exact Or.inl rfl | exact Or.inr rfl) (by decide) (LM.w (LO.m (lo_fn G_step_fault hr (by decide) rfl (lax_ro (LR.m (lr_v 0)) (lax_ro (LR.m (lr_ix ix_seq v_ix (lr_v 1) (lr_bin op_sub v_sub (lr_v 2) lr_int))) (lax_ro (LR.m (lr_v 3)) (lax_ro (LR.m (lr_v 4)) lax_nil))))))))) ls_nil)
   (ls_one (ls_ret (LM.w (LR.m (lr_v 5)))))))
abbrev S_fault : Stmt := top 26
abbrev N_fault : List Str := ["school", "tune", "saying", "sets", "one", "ahead", "number", "found"]
theorem sc_fault : FnScope N_fault ["school", "tune", "saying"] (defScope S_fault) := ⟨rfl, rfl, rfl, by decide +kernel, rfl, by decide +kernel, by decide +kernel⟩
theorem ok_fault {psi__need_tune : PSp} {C_School : Addr} {psi__next_fault : PSp} {psi_ : PSp} (F : FunD K "fault" "fault" (defArgs S_fault) (defBody S_fault) (defScope S_fault) [] [] f fd) (G_need_tune : Cal P w K mg base 1 "need_tune" 2 psi__need_tune) (b_len : mg "len" = none) (c_School : Cls K C_School) (n_School_told : NoAttr K C_School "told") (b_enumerate : mg "enumerate" = none) (G_next_fault : Cal P w K mg base 4 "next_fault" 5 psi__next_fault)
    (hp : ∀ os Qp Ep, os.length = 3 → psi_ os Qp Ep → t_fault psi__need_tune C_School psi__next_fault (endP [] os Qp Ep) (startP 8 os)) : FnOk P w K mg base CX0 5 f fd ["school", "tune", "saying"] (spP K 3 psi_) := by
  have nd : (N_fault : List Str).Nodup := sc_fault.nd
  refine fn_ok0 [] F sc_fault (fun cdv A outer s H E hr => ?_) hp
  exact (ls_cons (ls_expr (LO.m (lo_fn G_need_tune hr (by decide) rfl (lax_ro (LR.m (lr_v 0)) (lax_ro (LR.m (lr_v 1)) lax_nil)))))
   (ls_cons (ls_if (lt_cmpR (op_neD hr.units) v_ne (lr_callB call_len v_len rfl b_len rfl (lar_cons (lr_v 2) lar_nil)) (lr_callB call_len v_len rfl b_len rfl (lar_cons (lr_v 1) lar_nil))) (ls_one ls_never) ls_nil)
   (ls_cons (ls_for PassesOwn.never rfl (li_list (LR.m (lr_v 2))) (lg_name (i := 3) nd rfl (by first | exact Or.inl rfl | exact Or.inr rfl) (by decide)) (ls_one (ls_if (LW.toT (lw_or (lt_cmpR (op_neD hr.units) v_ne (lr_callB call_len v_len rfl b_len rfl (lar_cons (lr_v 3) lar_nil)) (lr_callB call_len v_len rfl b_len rfl (lar_cons (lr_ix ix_seq v_ix (lr_v 1) lr_int) lar_nil))) (lw_or1 (lt_cmp (op_neD hr.units) v_ne (LO.m (lo_lc (own := [("one", 4)]) rfl nd (li_tup (LR.m (lr_v 3))) (blkOk_by (own := [("one", 4)]) (N := N_fault) (sc := defScope S_fault) (by decide +kernel)) (fun _ _ _ _ _ => (lg_name (i := 4) nd rfl (by first | exact Or.inl rfl | exact Or.inr rfl) (by decide))) (fun _ _ _ _ _ => (lts_one (lt_not (lt_chain op_le op_lt v_le v_lt (LR.m lr_int) (LR.m (lr_v 4)) (LR.m (lr_callB call_len v_len rfl b_len rfl (lar_cons (lr_fld (lr_v 0) c_School n_School_told) lar_nil))))))) (fun _ _ _ _ _ => (LR.m (lr_v 4))))) (LR.m (lr_lst lar_nil)))))) (ls_one ls_never) ls_nil)))
   (ls_cons (ls_set (i := 5) nd rfl (by first | exact Or.inl rfl | exact Or.inr rfl) (by decide) (LM.w (LR.m lr_non)))
   (ls_cons (ls_for PassesOwn.never rfl (li_enum rfl b_enumerate (lam_cons (LR.m (lr_v 2)) lam_nil)) (lg_tup rfl (lgs_cons (lg_name (i := 6) nd rfl (by first | exact Or.inl rfl | exact Or.inr rfl) (by decide)) (lgs_cons (lg_name (i := 3) nd rfl (by first | exact Or.inl rfl | exact Or.inr rfl) (by decide)) lgs_nil))) (ls_cons (ls_set (i := 7) nd rfl (by first | exact Or.inl rfl | exact Or.inr rfl) (by decide) (LM.w (LO.m (lo_fn G_next_fault hr (by decide) rfl (lax_ro (LR.m (lr_v 0)) (lax_ro (LR.m (lr_v 1)) (lax_ro (LR.m (lr_v 6)) (lax_ro (LR.m (lr_v 5)) (lax_ro (LR.m (lr_v 3)) lax_nil)))))))))
   (ls_cons (ls_if (lt_cmpR op_notN v_notN (lr_v 7) lr_non) (ls_one (ls_ret (LM.w (LR.m (lr_bin op_addU v_addU (lr_tup (lar_cons (lr_ix ix_seq v_ix (lr_v 7) lr_int) (lar_cons (lr_v 6) lar_nil))) (lr_slice sl_seq v_sl (lr_v 7) (lpo_i lr_int) lpo_n)))))) ls_nil)
   (ls_one (ls_set (i := 5) nd rfl (by first | exact Or.inl rfl | exact Or.inr rfl) (by decide) (LM.w (LR.m (lr_v 3))))))))
   (ls_one (ls_ret (LM.w (LR.m lr_non)))))))))
abbrev S_in_column : Stmt := top 40
abbrev N_in_column : List Str := ["_law_t", "_law_column", "_law_sets", "_law_words", "_law_k", "_law_one", "_law_other", "_law_pair", "_law_rule_here"]
theorem sc_in_column : FnScope N_in_column ["_law_t", "_law_column", "_law_sets"] (defScope S_in_column) := ⟨rfl, rfl, rfl, by decide +kernel, rfl, by decide +kernel, by decide +kernel⟩
theorem ok_in_column {psi__name : PSp} {psi_ : PSp} (F : FunD K "_law_in_column" "_law_in_column" (defArgs S_in_column) (defBody S_in_column) (defScope S_in_column) [] [] f fd) (b_range : mg "range" = none) (b_len : mg "len" = none) (G_name : Cal P w K mg base 2 "_law_name" 3 psi__name) (b_sorted : mg "sorted" = none)
    (hp : ∀ os Qp Ep, os.length = 3 → psi_ os Qp Ep → t_in_column psi__name (endP [] os Qp Ep) (startP 9 os)) : FnOk P w K mg base CX0 3 f fd ["_law_t", "_law_column", "_law_sets"] (spP K 3 psi_) := by
  have nd : (N_in_column : List Str).Nodup := sc_in_column.nd
  refine fn_ok0 [] F sc_in_column (fun cdv A outer s H E hr => ?_) hp
  exact (ls_cons (by first | exact ls_setLc (i := 3) (own := [("_law_k", 4)]) (by decide) rfl nd rfl rfl (sw_true rfl rfl rfl (by decide +kernel)) (li_range1 rfl b_range (lam_cons (LR.m (lr_callB call_len v_len rfl b_len rfl (lar_cons (lr_v 1) lar_nil))) lam_nil)) (blkOk_by (own := [("_law_k", 4)]) (N := N_in_column) (sc := defScope S_in_column) (by decide +kernel)) (fun _ _ _ _ _ => (lg_name (i := 4) nd rfl (by first | exact Or.inl rfl | exact Or.inr rfl) (by decide))) (fun _ _ _ _ _ => lts_nil) (fun _ _ _ _ _ => (LO.m (lo_fn G_name hr (by decide) rfl (lax_ro (LR.m (lr_v 0)) (lax_ro (LR.m (lr_ix ix_seq v_ix (lr_v 2) (lr_v 4))) (lax_ro (LR.m (lr_ix ix_seq v_ix (lr_v 1) (lr_v 4))) lax_nil)))))) | exact ls_set (i := 3) nd rfl (by first | exact Or.inl rfl | exact Or.inr rfl) (by decide) (lo_lc (own := [("_law_k", 4)]) rfl nd (li_range1 rfl b_range (lam_cons (LR.m (lr_callB call_len v_len rfl b_len rfl (lar_cons (lr_v 1) lar_nil))) lam_nil)) (blkOk_by (own := [("_law_k", 4)]) (N := N_in_column) (sc := defScope S_in_column) (by decide +kernel)) (fun _ _ _ _ _ => (lg_name (i := 4) nd rfl (by first | exact Or.inl rfl | exact Or.inr rfl) (by decide))) (fun _ _ _ _ _ => lts_nil) (fun _ _ _ _ _ => (LO.m (lo_fn G_name hr (by decide) rfl (lax_ro (LR.m (lr_v 0)) (lax_ro (LR.m (lr_ix ix_seq v_ix (lr_v 2) (lr_v 4))) (lax_ro (LR.m (lr_ix ix_seq v_ix (lr_v 1) (lr_v 4))) lax_nil))))))))
   (ls_cons (ls_for PassesOwn.never rfl (li_range1 rfl b_range (lam_cons (LR.m (lr_callB call_len v_len rfl b_len rfl (lar_cons (lr_v 3) lar_nil))) lam_nil)) (lg_name (i := 4) nd rfl (by first | exact Or.inl rfl | exact Or.inr rfl) (by decide)) (ls_one (ls_if (lt_cmpR op_isN v_isN (lr_ix ix_seq v_ix (lr_v 3) (lr_v 4)) lr_non) (ls_one (ls_ret (LM.w (LR.m (lr_tup (lar_cons lr_str (lar_cons (lr_v 4) lar_nil))))))) ls_nil)))
   (ls_cons (ls_for PassesOwn.never rfl (li_range1 rfl b_range (lam_cons (LR.m (lr_callB call_len v_len rfl b_len rfl (lar_cons (lr_v 3) lar_nil))) lam_nil)) (lg_name (i := 5) nd rfl (by first | exact Or.inl rfl | exact Or.inr rfl) (by decide)) (ls_one (ls_for PassesOwn.never rfl (li_range2 rfl b_range (lam_cons (LR.m (lr_bin op_addU v_addU (lr_v 5) lr_int)) (lam_cons (LR.m (lr_callB call_len v_len rfl b_len rfl (lar_cons (lr_v 3) lar_nil))) lam_nil))) (lg_name (i := 6) nd rfl (by first | exact Or.inl rfl | exact Or.inr rfl) (by decide)) (ls_cons (ls_set (i := 7) nd rfl (by first | exact Or.inl rfl | exact Or.inr rfl) (by decide) (LM.w (LR.m (lr_callB cr_srtS v_srtS rfl b_sorted rfl (lar_cons (lr_lst (lar_cons (lr_ix ix_seq v_ix (lr_v 3) (lr_v 5)) (lar_cons (lr_ix ix_seq v_ix (lr_v 3) (lr_v 6)) lar_nil))) lar_nil)))))
   (ls_one (ls_if (lt_cmp (op_neD hr.units) v_ne (LO.m (lo_lc (own := [("_law_rule_here", 8)]) rfl nd (li_list (LR.m (lr_ix ix_seq v_ix (lr_v 0) lr_int))) (blkOk_by (own := [("_law_rule_here", 8)]) (N := N_in_column) (sc := defScope S_in_column) (by decide +kernel)) (fun _ _ _ _ _ => (lg_name (i := 8) nd rfl (by first | exact Or.inl rfl | exact Or.inr rfl) (by decide))) (fun _ _ _ _ _ => (lts_one (LW.toT (lw_and (lt_cmpR (op_eqD hr.units) v_eq (lr_ix ix_seq v_ix (lr_v 8) lr_int) lr_str) (lw_and1 (lt_cmpR (op_eqD hr.units) v_eq (lr_callB cr_srtS v_srtS rfl b_sorted rfl (lar_cons (lr_slice sl_seq v_sl (lr_v 8) (lpo_i lr_int) lpo_n) lar_nil)) (lr_v 7))))))) (fun _ _ _ _ _ => (LR.m (lr_v 8))))) (LR.m (lr_lst lar_nil))) (ls_one (ls_ret (LM.w (LR.m (lr_tup (lar_cons lr_str (lar_cons (lr_v 5) (lar_cons (lr_v 6) lar_nil)))))))) ls_nil))))))
   (ls_one (ls_ret (LM.w (LR.m lr_non)))))))
abbrev S_follows : Stmt := top 41
abbrev N_follows : List Str := ["_law_t", "_law_column", "_law_ahead", "_law_sets", "_law_k", "_law_word_here"]
theorem sc_follows : FnScope N_follows ["_law_t", "_law_column", "_law_ahead", "_law_sets"] (defScope S_follows) := ⟨rfl, rfl, rfl, by decide +kernel, rfl, by decide +kernel, by decide +kernel⟩
theorem ok_follows {psi__name : PSp} {psi_ : PSp} (F : FunD K "_law_follows" "_law_follows" (defArgs S_follows) (defBody S_follows) (defScope S_follows) [] [] f fd) (b_range : mg "range" = none) (b_len : mg "len" = none) (G_name : Cal P w K mg base 2 "_law_name" 3 psi__name)
    (hp : ∀ os Qp Ep, os.length = 4 → psi_ os Qp Ep → t_follows psi__name (endP [] os Qp Ep) (startP 6 os)) : FnOk P w K mg base CX0 3 f fd ["_law_t", "_law_column", "_law_ahead", "_law_sets"] (spP K 4 psi_) := by
  have nd : (N_follows : List Str).Nodup := sc_follows.nd
  refine fn_ok0 [] F sc_follows (fun cdv A outer s H E hr => ?_) hp
  exact (ls_cons (ls_for PassesOwn.never rfl (li_range1 rfl b_range (lam_cons (LR.m (lr_callB call_len v_len rfl b_len rfl (lar_cons (lr_v 1) lar_nil))) lam_nil)) (lg_name (i := 4) nd rfl (by first | exact Or.inl rfl | exact Or.inr rfl) (by decide)) (ls_one (ls_if (lt_cmpR (op_neD hr.units) v_ne (lr_ix ix_seq v_ix (lr_v 2) (lr_v 4)) (lr_ix ix_seq v_ix (lr_v 3) (lr_v 4))) (ls_cons (ls_set (i := 5) nd rfl (by first | exact Or.inl rfl | exact Or.inr rfl) (by decide) (LM.w (LO.m (lo_fn G_name hr (by decide) rfl (lax_ro (LR.m (lr_v 0)) (lax_ro (LR.m (lr_ix ix_seq v_ix (lr_v 3) (lr_v 4))) (lax_ro (LR.m (lr_ix ix_seq v_ix (lr_v 1) (lr_v 4))) lax_nil)))))))
   (ls_cons (ls_if (lt_cmpR op_isN v_isN (lr_v 5) lr_non) (ls_one (ls_ret (LM.w (LR.m (lr_tup (lar_cons lr_str (lar_cons (lr_v 4) lar_nil))))))) ls_nil)
   (ls_cons (ls_if (lt_cmpR (op_inD (hu65 hr)) v_in (lr_tup (lar_cons lr_str (lar_cons (lr_ix ix_seq v_ix (lr_v 2) (lr_v 4)) (lar_cons (lr_ix ix_seq v_ix (lr_v 3) (lr_v 4)) lar_nil)))) (lr_ix ix_seq v_ix (lr_v 0) lr_int)) (ls_one (ls_ret (LM.w (LR.m (lr_tup (lar_cons lr_str (lar_cons (lr_v 4) lar_nil))))))) ls_nil)
   (ls_one (ls_if (lt_cmpR (op_inD (hu65 hr)) v_in (lr_tup (lar_cons lr_str (lar_cons (lr_v 5) lar_nil))) (lr_ix ix_seq v_ix (lr_v 0) lr_int)) (ls_one (ls_ret (LM.w (LR.m (lr_tup (lar_cons lr_str (lar_cons (lr_v 4) lar_nil))))))) ls_nil))))) ls_nil)))
   (ls_one (ls_ret (LM.w (LR.m lr_non)))))
abbrev S_L_fault : Stmt := top 44
abbrev N_L_fault : List Str := ["_law_t", "_law_tune_here", "_law_saying", "_law_k", "_law_found"]
theorem sc_L_fault : FnScope N_L_fault ["_law_t", "_law_tune_here", "_law_saying"] (defScope S_L_fault) := ⟨rfl, rfl, rfl, by decide +kernel, rfl, by decide +kernel, by decide +kernel⟩
theorem ok_L_fault {psi__in_column : PSp} {psi__follows : PSp} {psi_ : PSp} (F : FunD K "_law_fault" "_law_fault" (defArgs S_L_fault) (defBody S_L_fault) (defScope S_L_fault) [] [] f fd) (b_range : mg "range" = none) (b_len : mg "len" = none) (G_in_column : Cal P w K mg base 3 "_law_in_column" 3 psi__in_column) (G_follows : Cal P w K mg base 3 "_law_follows" 4 psi__follows)
    (hp : ∀ os Qp Ep, os.length = 3 → psi_ os Qp Ep → t_L_fault psi__in_column psi__follows (endP [] os Qp Ep) (startP 5 os)) : FnOk P w K mg base CX0 4 f fd ["_law_t", "_law_tune_here", "_law_saying"] (spP K 3 psi_) := by
  have nd : (N_L_fault : List Str).Nodup := sc_L_fault.nd
  refine fn_ok0 [] F sc_L_fault (fun cdv A outer s H E hr => ?_) hp
  exact (ls_cons (ls_for PassesOwn.never rfl (li_range1 rfl b_range (lam_cons (LR.m (lr_callB call_len v_len rfl b_len rfl (lar_cons (lr_v 1) lar_nil))) lam_nil)) (lg_name (i := 3) nd rfl (by first | exact Or.inl rfl | exact Or.inr rfl) (by decide)) (ls_cons (ls_set (i := 4) nd rfl (by first | exact Or.inl rfl | exact Or.inr rfl) (by decide) (LM.w (LO.m (lo_fn G_in_column hr (by decide) rfl (lax_ro (LR.m (lr_v 0)) (lax_ro (LR.m (lr_ix ix_seq v_ix (lr_v 1) (lr_v 3))) (lax_ro (LR.m (lr_ix ix_seq v_ix (lr_v 2) (lr_v 3))) lax_nil)))))))
   (ls_cons (ls_if (LW.toT (lw_and (lt_cmpR op_isN v_isN (lr_v 4) lr_non) (lw_and1 (lt_cmpR op_gt v_gt (lr_v 3) lr_int)))) (ls_one (ls_set (i := 4) nd rfl (by first | exact Or.inl rfl | exact Or.inr rfl) (by decide) (LM.w (LO.m (lo_fn G_follows hr (by decide) rfl (lax_ro (LR.m (lr_v 0)) (lax_ro (LR.m (lr_ix ix_seq v_ix (lr_v 1) (lr_bin op_sub v_sub (lr_v 3) lr_int))) (lax_ro (LR.m (lr_ix ix_seq v_ix (lr_v 2) (lr_bin op_sub v_sub (lr_v 3) lr_int))) (lax_ro (LR.m (lr_ix ix_seq v_ix (lr_v 2) (lr_v 3))) lax_nil))))))))) ls_nil)
   (ls_one (ls_if (lt_cmpR op_notN v_notN (lr_v 4) lr_non) (ls_one (ls_ret (LM.w (LR.m (lr_bin op_addU v_addU (lr_tup (lar_cons (lr_ix ix_seq v_ix (lr_v 4) lr_int) (lar_cons (lr_v 3) lar_nil))) (lr_slice sl_seq v_sl (lr_v 4) (lpo_i lr_int) lpo_n)))))) ls_nil)))))
   (ls_one (ls_ret (LM.w (LR.m lr_non)))))
abbrev S_law : Stmt := top 45
abbrev N_law : List Str := ["_law_script", "_law_d", "_law_t", "_law_school_here", "_law_tune_here", "_law_turn", "_law_saying", "_law_handed", "_law_found", "_law_due"]
theorem sc_law : FnScope N_law ["_law_script"] (defScope S_law) := ⟨rfl, rfl, rfl, by decide +kernel, rfl, by decide +kernel, by decide +kernel⟩
theorem ok_law {psi__dice : PSp} {psi__school : PSp} {psi__made : PSp} {psi__tune : PSp} {psi__off : PSp} {psi__drawn : PSp} {psi__fault : PSp} {psi__L_fault : PSp} {psi_ : PSp} (F : FunD K "law" "law" (defArgs S_law) (defBody S_law) (defScope S_law) [] [] f fd) (G_dice : Cal P w K mg base 2 "_law_dice" 2 psi__dice) (G_school : Cal P w K mg base 4 "_law_school" 2 psi__school) (G_made : Cal P w K mg base 5 "_law_made" 1 psi__made) (G_tune : Cal P w K mg base 3 "_law_tune" 4 psi__tune) (G_off : Cal P w K mg base 2 "_law_off" 2 psi__off) (b_range : mg "range" = none) (G_drawn : Cal P w K mg base 3 "_law_drawn" 3 psi__drawn) (b_list : mg "list" = none) (G_fault : Cal P w K mg base 5 "fault" 3 psi__fault) (G_L_fault : Cal P w K mg base 4 "_law_fault" 3 psi__L_fault) (b_isinstance : mg "isinstance" = none) (b_tuple : mg "tuple" = none)
    (hp : ∀ os Qp Ep, os.length = 1 → psi_ os Qp Ep → t_law psi__dice psi__school psi__made psi__tune psi__off psi__drawn psi__fault psi__L_fault (endP [] os Qp Ep) (startP 10 os)) : FnOk P w K mg base CX0 6 f fd ["_law_script"] (spP K 1 psi_) := by
  have nd : (N_law : List Str).Nodup := sc_law.nd
  refine fn_ok0 [] F sc_law (fun cdv A outer s H E hr => ?_) hp
  exact (ls_cons (ls_set (i := 1) nd rfl (by first | exact Or.inl rfl | exact Or.inr rfl) (by decide) (lo_fn G_dice hr (by decide) rfl (lax_ro (LR.m (lr_v 0)) (lax_ro (LR.m lr_int) lax_nil))))
   (ls_cons (ls_set (i := 2) nd rfl (by first | exact Or.inl rfl | exact Or.inr rfl) (by decide) (LM.w (LO.m (lo_fn G_school hr (by decide) rfl (lax_sl 1 (lax_ro (LR.m lr_int) lax_nil))))))
   (ls_cons (ls_set (i := 3) nd rfl (by first | exact Or.inl rfl | exact Or.inr rfl) (by decide) (LM.w (LO.m (lo_fn G_made hr (by decide) rfl (lax_ro (LR.m (lr_v 2)) lax_nil)))))
   (ls_cons (ls_set (i := 4) nd rfl (by first | exact Or.inl rfl | exact Or.inr rfl) (by decide) (LM.w (LO.m (lo_fn G_tune hr (by decide) rfl (lax_sl 1 (lax_ro (LR.m (lr_v 2)) (lax_ro (lm_ix ix_seq v_ix (LR.m (lr_lst (lar_cons lr_int (lar_cons lr_int lar_nil)))) (LO.m (lo_fn G_off hr (by decide) rfl (lax_sl 1 (lax_ro (LR.m lr_int) lax_nil))))) (lax_ro (LR.m lr_int) lax_nil))))))))
   (ls_cons (ls_for PassesOwn.never rfl (li_range1 rfl b_range (lam_cons (LR.m lr_int) lam_nil)) (lg_name (i := 5) nd rfl (by first | exact Or.inl rfl | exact Or.inr rfl) (by decide)) (ls_cons (ls_set (i := 6) nd rfl (by first | exact Or.inl rfl | exact Or.inr rfl) (by decide) (LM.w (LO.m (lo_fn G_drawn hr (by decide) rfl (lax_sl 1 (lax_ro (LR.m (lr_v 2)) (lax_ro (LR.m (lr_v 4)) lax_nil)))))))
   (ls_cons (ls_set (i := 7) nd rfl (by first | exact Or.inl rfl | exact Or.inr rfl) (by decide) (LM.w (LR.m (lr_lst (lar_cons (lr_callT call_list_of v_list rfl b_list rfl (lar_cons (lr_v 4) lar_nil)) (lar_cons (lr_callT call_list_of v_list rfl b_list rfl (lar_cons (lr_v 6) lar_nil)) lar_nil))))))
   (ls_cons (ls_set (i := 8) nd rfl (by first | exact Or.inl rfl | exact Or.inr rfl) (by decide) (LM.w (LO.m (lo_fn G_fault hr (by decide) rfl (lax_ro (LR.m (lr_v 3)) (lax_ro (LR.m (lr_ix ix_seq v_ix (lr_v 7) lr_int)) (lax_ro (LR.m (lr_ix ix_seq v_ix (lr_v 7) lr_int)) lax_nil)))))))
   (ls_cons (ls_set (i := 9) nd rfl (by first | exact Or.inl rfl | exact Or.inr rfl) (by decide) (LM.w (LO.m (lo_fn G_L_fault hr (by decide) rfl (lax_ro (LR.m (lr_v 2)) (lax_ro (LR.m (lr_v 4)) (lax_ro (LR.m (lr_v 6)) lax_nil)))))))
   (ls_one (ls_if (LW.toT (lw_or (lt_cmpR (op_neD hr.units) v_ne (lr_v 7) (lr_lst (lar_cons (lr_v 4) (lar_cons (lr_v 6) lar_nil)))) (lw_or (lt_cmpR (op_neD hr.units) v_ne (lr_v 8) (lr_v 9)) (lw_or1 (LW.toT (lw_and (lt_cmpR op_notN v_notN (lr_v 9) lr_non) (lw_and1 (lt_not (lt_val (LR.m (lr_callB call_isi v_isi rfl b_isinstance rfl (lar_cons (lr_v 8) (lar_cons (lr_ty rfl b_tuple rfl) lar_nil))))))))))))) (ls_one (ls_ret (LM.w (LR.m lr_bl)))) ls_nil)))))))
   (ls_one (ls_ret (LM.w (LR.m lr_bl)))))))))
end
end Wk
end
section
open PySem PySem.Spec PyProof.Rows L2 Pu
set_option Elab.async false
set_option linter.all false
set_option maxRecDepth 100000
set_option maxHeartbeats 0
namespace Hd
/-! ### the head, what it tells -/
def d0 : He.DefD := ⟨("_law_cell", none), "_law_cell", "_law_cell", defArgs Wk.S_cell, defBody Wk.S_cell, defScope Wk.S_cell, [], []⟩
def d1 : He.DefD := ⟨("_law_dice", none), "_law_dice", "_law_dice", defArgs Wk.S_dice, defBody Wk.S_dice, defScope Wk.S_dice, [], []⟩
def d2 : He.DefD := ⟨("_law_off", none), "_law_off", "_law_off", defArgs Wk.S_off, defBody Wk.S_off, defScope Wk.S_off, [], []⟩
def d3 : He.DefD := ⟨("_law_word", none), "_law_word", "_law_word", defArgs Wk.S_word, defBody Wk.S_word, defScope Wk.S_word, [], []⟩
def d4 : He.DefD := ⟨("_law_set", none), "_law_set", "_law_set", defArgs Wk.S_set, defBody Wk.S_set, defScope Wk.S_set, [], []⟩
def d5 : He.DefD := ⟨("_law_rule", none), "_law_rule", "_law_rule", defArgs Wk.S_rule, defBody Wk.S_rule, defScope Wk.S_rule, [], []⟩
def d6 : He.DefD := ⟨("_law_school", none), "_law_school", "_law_school", defArgs Wk.S_school, defBody Wk.S_school, defScope Wk.S_school, [], []⟩
def d7 : He.DefD := ⟨("must", none), "must", "must", defArgs Wk.S_must, defBody Wk.S_must, defScope Wk.S_must, [], []⟩
def d8 : He.DefD := ⟨("School", some "table_of"), "table_of", "School.table_of", defArgs Wk.S_School_table_of, defBody Wk.S_School_table_of, defScope Wk.S_School_table_of, [], []⟩
def d9 : He.DefD := ⟨("are_gaps", none), "are_gaps", "are_gaps", defArgs Wk.S_are_gaps, defBody Wk.S_are_gaps, defScope Wk.S_are_gaps, [], []⟩
def d10 : He.DefD := ⟨("is_word", none), "is_word", "is_word", defArgs Wk.S_is_word, defBody Wk.S_is_word, defScope Wk.S_is_word, [], []⟩
def d11 : He.DefD := ⟨("School", some "is_set"), "is_set", "School.is_set", defArgs Wk.S_School_is_set, defBody Wk.S_School_is_set, defScope Wk.S_School_is_set, [], []⟩
def d12 : He.DefD := ⟨("School", some "is_rule"), "is_rule", "School.is_rule", defArgs Wk.S_School_is_rule, defBody Wk.S_School_is_rule, defScope Wk.S_School_is_rule, [], []⟩
def d13 : He.DefD := ⟨("School", some "__init__"), "__init__", "School.__init__", defArgs Wk.S_School_init, defBody Wk.S_School_init, defScope Wk.S_School_init, [], []⟩
def d14 : He.DefD := ⟨("_law_made", none), "_law_made", "_law_made", defArgs Wk.S_made, defBody Wk.S_made, defScope Wk.S_made, [], []⟩
def d15 : He.DefD := ⟨("_law_height", none), "_law_height", "_law_height", defArgs Wk.S_height, defBody Wk.S_height, defScope Wk.S_height, [], []⟩
def d16 : He.DefD := ⟨("_law_note_of", none), "_law_note_of", "_law_note_of", defArgs Wk.S_note_of, defBody Wk.S_note_of, defScope Wk.S_note_of, [], []⟩
def d17 : He.DefD := ⟨("_law_name", none), "_law_name", "_law_name", defArgs Wk.S_name, defBody Wk.S_name, defScope Wk.S_name, [], []⟩
def d18 : He.DefD := ⟨("_law_tune", none), "_law_tune", "_law_tune", defArgs Wk.S_tune, defBody Wk.S_tune, defScope Wk.S_tune, [], []⟩
def d19 : He.DefD := ⟨("_law_drawn", none), "_law_drawn", "_law_drawn", defArgs Wk.S_drawn, defBody Wk.S_drawn, defScope Wk.S_drawn, [], []⟩
def d20 : He.DefD := ⟨("need_tune", none), "need_tune", "need_tune", defArgs Wk.S_need_tune, defBody Wk.S_need_tune, defScope Wk.S_need_tune, [], []⟩
def d21 : He.DefD := ⟨("School", some "named"), "named", "School.named", defArgs Wk.S_School_named, defBody Wk.S_School_named, defScope Wk.S_School_named, [], []⟩
def d22 : He.DefD := ⟨("column_fault", none), "column_fault", "column_fault", defArgs Wk.S_column_fault, defBody Wk.S_column_fault, defScope Wk.S_column_fault, [], []⟩
def d23 : He.DefD := ⟨("over_fault", none), "over_fault", "over_fault", defArgs Wk.S_over_fault, defBody Wk.S_over_fault, defScope Wk.S_over_fault, [], []⟩
def d24 : He.DefD := ⟨("step_fault", none), "step_fault", "step_fault", defArgs Wk.S_step_fault, defBody Wk.S_step_fault, defScope Wk.S_step_fault, [], []⟩
def d25 : He.DefD := ⟨("next_fault", none), "next_fault", "next_fault", defArgs Wk.S_next_fault, defBody Wk.S_next_fault, defScope Wk.S_next_fault, [], []⟩
def d26 : He.DefD := ⟨("fault", none), "fault", "fault", defArgs Wk.S_fault, defBody Wk.S_fault, defScope Wk.S_fault, [], []⟩
def d27 : He.DefD := ⟨("_law_in_column", none), "_law_in_column", "_law_in_column", defArgs Wk.S_in_column, defBody Wk.S_in_column, defScope Wk.S_in_column, [], []⟩
def d28 : He.DefD := ⟨("_law_follows", none), "_law_follows", "_law_follows", defArgs Wk.S_follows, defBody Wk.S_follows, defScope Wk.S_follows, [], []⟩
def d29 : He.DefD := ⟨("_law_fault", none), "_law_fault", "_law_fault", defArgs Wk.S_L_fault, defBody Wk.S_L_fault, defScope Wk.S_L_fault, [], []⟩
def d30 : He.DefD := ⟨("law", none), "law", "law", defArgs Wk.S_law, defBody Wk.S_law, defScope Wk.S_law, [], []⟩
def fn : List He.DefD := [d0, d1, d2, d3, d4, d5, d6, d7, d8, d9, d10, d11, d12, d13, d14, d15, d16, d17, d18, d19] ++ [d20, d21, d22, d23, d24, d25, d26, d27, d28, d29, d30]
def fa : List He.Fa := [.free "len", .glo "_law_cell", .free "abs", .free "int", .glo "_law_dice", .free "max", .glo "_law_off", .glo "_law_word", .free "min", .free "tuple", .free "range", .free "list", .glo "_law_set", .glo "_law_rule", .glo "_law_school", .glo "must", .cls "School", .noat "School" "heights", .free "enumerate", .meth "School" "table_of"] ++ [.int "MOST_GAP" 4, .glo "are_gaps", .str "SMALL" "abcdefghijklmnopqrstuvwxyz", .int "MOST_LETTERS" 6, .glo "is_word", .int "MOST_NAMES" 7, .free "set", .meth "School" "is_set", .noat "School" "told", .meth "School" "is_rule", .int "MOST_GAPS" 30, .noat "School" "gaps", .int "MOST_SETS" 5, .noat "School" "tables", .int "MOST_RULES" 12, .noat "School" "kept", .glo "School", .mkr "School", .glo "_law_made", .free "sum"] ++ [.glo "_law_height", .glo "_law_note_of", .glo "_law_name", .glo "_law_tune", .glo "_law_drawn", .int "MOST_COLUMNS" 24, .int "MOST_VOICES" 3, .int "MOST_ALTER" 9, .glo "need_tune", .meth "School" "named", .free "zip", .glo "column_fault", .glo "over_fault", .glo "step_fault", .glo "next_fault", .glo "fault", .free "sorted", .glo "_law_in_column", .glo "_law_follows", .glo "_law_fault"] ++ [.free "isinstance", .glo "law"]
def nms : List PySem.Str := [("SingError" : PySem.Str), ("BadSchool" : PySem.Str), ("BadTune" : PySem.Str), ("BadSaying" : PySem.Str), ("SMALL" : PySem.Str), ("MOST_GAPS" : PySem.Str), ("MOST_GAP" : PySem.Str), ("MOST_SETS" : PySem.Str), ("MOST_NAMES" : PySem.Str), ("MOST_LETTERS" : PySem.Str), ("MOST_RULES" : PySem.Str), ("MOST_ALTER" : PySem.Str), ("MOST_COLUMNS" : PySem.Str), ("MOST_VOICES" : PySem.Str), ("must" : PySem.Str), ("is_word" : PySem.Str), ("are_gaps" : PySem.Str), ("School" : PySem.Str), ("need_tune" : PySem.Str), ("column_fault" : PySem.Str)] ++ [("over_fault" : PySem.Str), ("step_fault" : PySem.Str), ("next_fault" : PySem.Str), ("fault" : PySem.Str), ("_law_cell" : PySem.Str), ("_law_dice" : PySem.Str), ("_law_off" : PySem.Str), ("_law_word" : PySem.Str), ("_law_set" : PySem.Str), ("_law_rule" : PySem.Str), ("_law_school" : PySem.Str), ("_law_made" : PySem.Str), ("_law_height" : PySem.Str), ("_law_name" : PySem.Str), ("_law_note_of" : PySem.Str), ("_law_tune" : PySem.Str), ("_law_in_column" : PySem.Str), ("_law_follows" : PySem.Str), ("_law_overs" : PySem.Str), ("_law_drawn" : PySem.Str)] ++ [("_law_fault" : PySem.Str)]
abbrev R : PySem.W.OpenRow := PySem.W.OpenLaw.row PySem.Challenge.rw_gamutsay_k04_faults
abbrev hk : PySem.W.Hook := He.hookD 5 fa fn
def ob (s : PySem.W.SharedT) : He.AlD := He.obsDG 5 fa fn (HandSHeadRun.getT s)
theorem ob_eq (s : PySem.W.SharedT) : ob s = hk.obs s.abs := He.obsDG_eq (HandSHeadRun.getT_eq s)
theorem run (w : World) : HandSHeadRun.RunEq R (PySem.W.view R.prog [45]) hk ob 6000 nms w := by
  intro os
  kernel_rfl
theorem facts {P : Program} {w : World} {K : PySem.W.Frag} {h : Heap} {mg : Str → Option Value} {f : Addr} (X : K.In h) (G : h.Ns mainGlobals mg) (hfa : mg ("law" : Str) = some (.ref f)) (c : He.SaysD fa fn K) :
    ∃ fd : FuncData, (∀ (s : Shared) (v : Value), BindsTo s fd ⟨[v], []⟩ [("_law_script", v)]) ∧ (PTop Sp.psi_law) ∧ ∀ base : Heap, K.In base → base.Ns mainGlobals mg → FnOk P w K mg base CX0 6 f fd ["_law_script"] (spP K 1 Sp.psi_law) := by
  obtain ⟨fd, F⟩ := c.def_ 30 (d := d30) rfl
  have e := hfa.symm.trans (He.glo_ok X G (c.fact 61 (f := .glo "law") rfl))
  cases e
  have b := FunD.bindsA (ps := ["_law_script"]) F fun _ _ _ _ _ _ us hl => match us, hl with | [_], _ => rfl
  refine ⟨fd, fun s v => b s [v] rfl, Sp.top_law, fun base _ _ => ?_⟩
  obtain ⟨fd_cell, F_cell⟩ := c.def_ 0 (d := d0) rfl
  have G_cell : Cal P w K mg base 1 "_law_cell" 2 Sp.psi_cell := ⟨Sp.mo_cell, _, _, _, Wk.ok_cell F_cell (He.free_ok X G (c.fact 0 (f := .free "len") rfl)) Sp.pu_cell, He.glo_ok X G (c.fact 1 (f := .glo "_law_cell") rfl), F_cell.kp, F_cell.bindsN fun _ _ _ _ _ _ us hl => match us, hl with | [_, _], _ => rfl⟩
  obtain ⟨fd_dice, F_dice⟩ := c.def_ 1 (d := d1) rfl
  have G_dice : Cal P w K mg base 2 "_law_dice" 2 Sp.psi_dice := ⟨Sp.mo_dice, _, _, _, Wk.ok_dice F_dice (He.free_ok X G (c.fact 2 (f := .free "abs") rfl)) G_cell (He.free_ok X G (c.fact 3 (f := .free "int") rfl)) Sp.pu_dice, He.glo_ok X G (c.fact 4 (f := .glo "_law_dice") rfl), F_dice.kp, F_dice.bindsN fun _ _ _ _ _ _ us hl => match us, hl with | [_, _], _ => rfl⟩
  obtain ⟨fd_off, F_off⟩ := c.def_ 2 (d := d2) rfl
  have G_off : Cal P w K mg base 2 "_law_off" 2 Sp.psi_off := ⟨Sp.mo_off, _, _, _, Wk.ok_off F_off (He.free_ok X G (c.fact 2 (f := .free "abs") rfl)) G_cell (He.free_ok X G (c.fact 5 (f := .free "max") rfl)) (He.free_ok X G (c.fact 0 (f := .free "len") rfl)) Sp.pu_off, He.glo_ok X G (c.fact 6 (f := .glo "_law_off") rfl), F_off.kp, F_off.bindsN fun _ _ _ _ _ _ us hl => match us, hl with | [_, _], _ => rfl⟩
  obtain ⟨fd_word, F_word⟩ := c.def_ 3 (d := d3) rfl
  have G_word : Cal P w K mg base 1 "_law_word" 2 Sp.psi_word := ⟨Sp.mo_word, _, _, _, Wk.ok_word F_word  Sp.pu_word, He.glo_ok X G (c.fact 7 (f := .glo "_law_word") rfl), F_word.kp, F_word.bindsN fun _ _ _ _ _ _ us hl => match us, hl with | [_, _], _ => rfl⟩
  obtain ⟨fd_set, F_set⟩ := c.def_ 4 (d := d4) rfl
  have G_set : Cal P w K mg base 3 "_law_set" 3 Sp.psi_set := ⟨Sp.mo_set, _, _, _, Wk.ok_set F_set G_off (He.free_ok X G (c.fact 8 (f := .free "min") rfl)) (He.free_ok X G (c.fact 0 (f := .free "len") rfl)) (He.free_ok X G (c.fact 9 (f := .free "tuple") rfl)) (He.free_ok X G (c.fact 10 (f := .free "range") rfl)) G_word (He.free_ok X G (c.fact 11 (f := .free "list") rfl)) Sp.pu_set, He.glo_ok X G (c.fact 12 (f := .glo "_law_set") rfl), F_set.kp, F_set.bindsN fun _ _ _ _ _ _ us hl => match us, hl with | [_, _, _], _ => rfl⟩
  obtain ⟨fd_rule, F_rule⟩ := c.def_ 5 (d := d5) rfl
  have G_rule : Cal P w K mg base 3 "_law_rule" 3 Sp.psi_rule := ⟨Sp.mo_rule, _, _, _, Wk.ok_rule F_rule G_off G_word Sp.pu_rule, He.glo_ok X G (c.fact 13 (f := .glo "_law_rule") rfl), F_rule.kp, F_rule.bindsN fun _ _ _ _ _ _ us hl => match us, hl with | [_, _, _], _ => rfl⟩
  obtain ⟨fd_school, F_school⟩ := c.def_ 6 (d := d6) rfl
  have G_school : Cal P w K mg base 4 "_law_school" 2 Sp.psi_school := ⟨Sp.mo_school, _, _, _, Wk.ok_school F_school G_off (He.free_ok X G (c.fact 10 (f := .free "range") rfl)) G_set (He.free_ok X G (c.fact 0 (f := .free "len") rfl)) G_rule Sp.pu_school, He.glo_ok X G (c.fact 14 (f := .glo "_law_school") rfl), F_school.kp, F_school.bindsN fun _ _ _ _ _ _ us hl => match us, hl with | [_, _], _ => rfl⟩
  obtain ⟨fd_must, F_must⟩ := c.def_ 7 (d := d7) rfl
  have G_must : Cal P w K mg base 1 "must" 3 Sp.psi_must := ⟨Sp.mo_must, _, _, _, Wk.ok_must F_must  Sp.pu_must, He.glo_ok X G (c.fact 15 (f := .glo "must") rfl), F_must.kp, F_must.bindsN fun _ _ _ _ _ _ us hl => match us, hl with | [_, _, _], _ => rfl⟩
  obtain ⟨fd_School_table_of, F_School_table_of⟩ := c.def_ 8 (d := d8) rfl
  have G_School_table_of : CalM P w K mg base 1 (He.ga K "School") "table_of" 1 (Sp.psi_table (He.ga K "School")) := ⟨(Sp.mo_table (He.ga K "School")), He.cls_ok (c.fact 16 (f := .cls "School") rfl), _, _, _, Wk.ok_School_table_of F_School_table_of (He.cls_ok (c.fact 16 (f := .cls "School") rfl)) (He.noat_ok (c.fact 17 (f := .noat "School" "heights") rfl)) (He.free_ok X G (c.fact 18 (f := .free "enumerate") rfl)) (Sp.pu_table (He.ga K "School")), He.meth_ok (c.fact 19 (f := .meth "School" "table_of") rfl), F_School_table_of.bindsN fun _ _ _ _ _ _ us hl => match us, hl with | [_, _], _ => rfl⟩
  obtain ⟨fd_are_gaps, F_are_gaps⟩ := c.def_ 9 (d := d9) rfl
  have G_are_gaps : Cal P w K mg base 1 "are_gaps" 1 Sp.psi_are_gaps := ⟨Sp.mo_are_gaps, _, _, _, Wk.ok_are_gaps F_are_gaps (He.int_ok X G (c.fact 20 (f := .int "MOST_GAP" 4) rfl)) Sp.pu_are_gaps, He.glo_ok X G (c.fact 21 (f := .glo "are_gaps") rfl), F_are_gaps.kp, F_are_gaps.bindsN fun _ _ _ _ _ _ us hl => match us, hl with | [_], _ => rfl⟩
  obtain ⟨fd_is_word, F_is_word⟩ := c.def_ 10 (d := d10) rfl
  have G_is_word : Cal P w K mg base 1 "is_word" 1 Sp.psi_is_word := ⟨Sp.mo_is_word, _, _, _, Wk.ok_is_word F_is_word (He.str_ok X G (c.fact 22 (f := .str "SMALL" "abcdefghijklmnopqrstuvwxyz") rfl)) (He.free_ok X G (c.fact 0 (f := .free "len") rfl)) (He.int_ok X G (c.fact 23 (f := .int "MOST_LETTERS" 6) rfl)) Sp.pu_is_word, He.glo_ok X G (c.fact 24 (f := .glo "is_word") rfl), F_is_word.kp, F_is_word.bindsN fun _ _ _ _ _ _ us hl => match us, hl with | [_], _ => rfl⟩
  obtain ⟨fd_School_is_set, F_School_is_set⟩ := c.def_ 11 (d := d11) rfl
  have G_School_is_set : CalM P w K mg base 2 (He.ga K "School") "is_set" 1 (Sp.psi_is_set (He.ga K "School")) := ⟨(Sp.mo_is_set (He.ga K "School")), He.cls_ok (c.fact 16 (f := .cls "School") rfl), _, _, _, Wk.ok_School_is_set F_School_is_set G_are_gaps (He.free_ok X G (c.fact 0 (f := .free "len") rfl)) (He.int_ok X G (c.fact 25 (f := .int "MOST_NAMES" 7) rfl)) (He.free_ok X G (c.fact 26 (f := .free "set") rfl)) G_is_word (He.cls_ok (c.fact 16 (f := .cls "School") rfl)) (He.noat_ok (c.fact 17 (f := .noat "School" "heights") rfl)) (Sp.pu_is_set (He.ga K "School")), He.meth_ok (c.fact 27 (f := .meth "School" "is_set") rfl), F_School_is_set.bindsN fun _ _ _ _ _ _ us hl => match us, hl with | [_, _], _ => rfl⟩
  obtain ⟨fd_School_is_rule, F_School_is_rule⟩ := c.def_ 12 (d := d12) rfl
  have G_School_is_rule : CalM P w K mg base 2 (He.ga K "School") "is_rule" 1 (Sp.psi_is_rule (He.ga K "School")) := ⟨(Sp.mo_is_rule (He.ga K "School")), He.cls_ok (c.fact 16 (f := .cls "School") rfl), _, _, _, Wk.ok_School_is_rule F_School_is_rule (He.free_ok X G (c.fact 0 (f := .free "len") rfl)) (He.free_ok X G (c.fact 3 (f := .free "int") rfl)) (He.cls_ok (c.fact 16 (f := .cls "School") rfl)) (He.noat_ok (c.fact 28 (f := .noat "School" "told") rfl)) G_is_word (Sp.pu_is_rule (He.ga K "School")), He.meth_ok (c.fact 29 (f := .meth "School" "is_rule") rfl), F_School_is_rule.bindsN fun _ _ _ _ _ _ us hl => match us, hl with | [_, _], _ => rfl⟩
  obtain ⟨fd_School_init, F_School_init⟩ := c.def_ 13 (d := d13) rfl
  have G_School_init : CalC P w K mg base 3 "School" (He.ga K "School") 3 (Sp.psi_init (He.ga K "School")) := ⟨(Sp.mo_init (He.ga K "School")), He.glo_ok X G (c.fact 36 (f := .glo "School") rfl), _, _, _, Wk.ok_School_init F_School_init G_must (He.free_ok X G (c.fact 0 (f := .free "len") rfl)) (He.int_ok X G (c.fact 30 (f := .int "MOST_GAPS" 30) rfl)) (He.free_ok X G (c.fact 18 (f := .free "enumerate") rfl)) G_are_gaps (He.cls_ok (c.fact 16 (f := .cls "School") rfl)) (He.noat_ok (c.fact 31 (f := .noat "School" "gaps") rfl)) (He.free_ok X G (c.fact 11 (f := .free "list") rfl)) (He.noat_ok (c.fact 17 (f := .noat "School" "heights") rfl)) (He.int_ok X G (c.fact 32 (f := .int "MOST_SETS" 5) rfl)) G_School_is_set (He.noat_ok (c.fact 28 (f := .noat "School" "told") rfl)) (He.noat_ok (c.fact 33 (f := .noat "School" "tables") rfl)) G_School_table_of (He.int_ok X G (c.fact 34 (f := .int "MOST_RULES" 12) rfl)) G_School_is_rule (He.noat_ok (c.fact 35 (f := .noat "School" "kept") rfl)) (Sp.pu_init (He.ga K "School")), He.mkr_ok (c.fact 37 (f := .mkr "School") rfl), F_School_init.bindsN fun _ _ _ _ _ _ us hl => match us, hl with | [_, _, _, _], _ => rfl⟩
  obtain ⟨fd_made, F_made⟩ := c.def_ 14 (d := d14) rfl
  have G_made : Cal P w K mg base 5 "_law_made" 1 (Sp.psi_made (He.ga K "School")) := ⟨(Sp.mo_made (He.ga K "School")), _, _, _, Wk.ok_made F_made G_School_init (He.free_ok X G (c.fact 11 (f := .free "list") rfl)) (Sp.pu_made (He.ga K "School")), He.glo_ok X G (c.fact 38 (f := .glo "_law_made") rfl), F_made.kp, F_made.bindsN fun _ _ _ _ _ _ us hl => match us, hl with | [_], _ => rfl⟩
  obtain ⟨fd_height, F_height⟩ := c.def_ 15 (d := d15) rfl
  have G_height : Cal P w K mg base 1 "_law_height" 2 Sp.psi_height := ⟨Sp.mo_height, _, _, _, Wk.ok_height F_height (He.free_ok X G (c.fact 39 (f := .free "sum") rfl)) Sp.pu_height, He.glo_ok X G (c.fact 40 (f := .glo "_law_height") rfl), F_height.kp, F_height.bindsN fun _ _ _ _ _ _ us hl => match us, hl with | [_, _], _ => rfl⟩
  obtain ⟨fd_note_of, F_note_of⟩ := c.def_ 16 (d := d16) rfl
  have G_note_of : Cal P w K mg base 2 "_law_note_of" 3 Sp.psi_note_of := ⟨Sp.mo_note_of, _, _, _, Wk.ok_note_of F_note_of G_height (He.free_ok X G (c.fact 39 (f := .free "sum") rfl)) Sp.pu_note_of, He.glo_ok X G (c.fact 41 (f := .glo "_law_note_of") rfl), F_note_of.kp, F_note_of.bindsN fun _ _ _ _ _ _ us hl => match us, hl with | [_, _, _], _ => rfl⟩
  obtain ⟨fd_name, F_name⟩ := c.def_ 17 (d := d17) rfl
  have G_name : Cal P w K mg base 2 "_law_name" 3 Sp.psi_name := ⟨Sp.mo_name, _, _, _, Wk.ok_name F_name (He.free_ok X G (c.fact 0 (f := .free "len") rfl)) G_height (He.free_ok X G (c.fact 39 (f := .free "sum") rfl)) Sp.pu_name, He.glo_ok X G (c.fact 42 (f := .glo "_law_name") rfl), F_name.kp, F_name.bindsN fun _ _ _ _ _ _ us hl => match us, hl with | [_, _, _], _ => rfl⟩
  obtain ⟨fd_tune, F_tune⟩ := c.def_ 18 (d := d18) rfl
  have G_tune : Cal P w K mg base 3 "_law_tune" 4 Sp.psi_tune := ⟨Sp.mo_tune, _, _, _, Wk.ok_tune F_tune G_off (He.free_ok X G (c.fact 10 (f := .free "range") rfl)) (He.free_ok X G (c.fact 0 (f := .free "len") rfl)) G_name G_note_of (He.free_ok X G (c.fact 2 (f := .free "abs") rfl)) (He.free_ok X G (c.fact 9 (f := .free "tuple") rfl)) Sp.pu_tune, He.glo_ok X G (c.fact 43 (f := .glo "_law_tune") rfl), F_tune.kp, F_tune.bindsN fun _ _ _ _ _ _ us hl => match us, hl with | [_, _, _, _], _ => rfl⟩
  obtain ⟨fd_drawn, F_drawn⟩ := c.def_ 19 (d := d19) rfl
  have G_drawn : Cal P w K mg base 3 "_law_drawn" 3 Sp.psi_drawn := ⟨Sp.mo_drawn, _, _, _, Wk.ok_drawn F_drawn (He.free_ok X G (c.fact 10 (f := .free "range") rfl)) (He.free_ok X G (c.fact 0 (f := .free "len") rfl)) G_name G_off (He.free_ok X G (c.fact 11 (f := .free "list") rfl)) (He.free_ok X G (c.fact 9 (f := .free "tuple") rfl)) Sp.pu_drawn, He.glo_ok X G (c.fact 44 (f := .glo "_law_drawn") rfl), F_drawn.kp, F_drawn.bindsN fun _ _ _ _ _ _ us hl => match us, hl with | [_, _, _], _ => rfl⟩
  obtain ⟨fd_need_tune, F_need_tune⟩ := c.def_ 20 (d := d20) rfl
  have G_need_tune : Cal P w K mg base 1 "need_tune" 2 (Sp.psi_need_tune (He.ga K "School")) := ⟨(Sp.mo_need_tune (He.ga K "School")), _, _, _, Wk.ok_need_tune F_need_tune (He.free_ok X G (c.fact 0 (f := .free "len") rfl)) (He.int_ok X G (c.fact 45 (f := .int "MOST_COLUMNS" 24) rfl)) (He.free_ok X G (c.fact 18 (f := .free "enumerate") rfl)) (He.int_ok X G (c.fact 46 (f := .int "MOST_VOICES" 3) rfl)) (He.int_ok X G (c.fact 47 (f := .int "MOST_ALTER" 9) rfl)) (He.cls_ok (c.fact 16 (f := .cls "School") rfl)) (He.noat_ok (c.fact 17 (f := .noat "School" "heights") rfl)) (Sp.pu_need_tune (He.ga K "School")), He.glo_ok X G (c.fact 48 (f := .glo "need_tune") rfl), F_need_tune.kp, F_need_tune.bindsN fun _ _ _ _ _ _ us hl => match us, hl with | [_, _], _ => rfl⟩
  obtain ⟨fd_School_named, F_School_named⟩ := c.def_ 21 (d := d21) rfl
  have G_School_named : CalM P w K mg base 1 (He.ga K "School") "named" 2 (Sp.psi_named (He.ga K "School")) := ⟨(Sp.mo_named (He.ga K "School")), He.cls_ok (c.fact 16 (f := .cls "School") rfl), _, _, _, Wk.ok_School_named F_School_named (He.cls_ok (c.fact 16 (f := .cls "School") rfl)) (He.noat_ok (c.fact 33 (f := .noat "School" "tables") rfl)) (Sp.pu_named (He.ga K "School")), He.meth_ok (c.fact 49 (f := .meth "School" "named") rfl), F_School_named.bindsN fun _ _ _ _ _ _ us hl => match us, hl with | [_, _, _], _ => rfl⟩
  obtain ⟨fd_column_fault, F_column_fault⟩ := c.def_ 22 (d := d22) rfl
  have G_column_fault : Cal P w K mg base 2 "column_fault" 3 (Sp.psi_column_fault (He.ga K "School")) := ⟨(Sp.mo_column_fault (He.ga K "School")), _, _, _, Wk.ok_column_fault F_column_fault (He.free_ok X G (c.fact 50 (f := .free "zip") rfl)) G_School_named (He.free_ok X G (c.fact 18 (f := .free "enumerate") rfl)) (He.free_ok X G (c.fact 10 (f := .free "range") rfl)) (He.free_ok X G (c.fact 0 (f := .free "len") rfl)) (He.cls_ok (c.fact 16 (f := .cls "School") rfl)) (He.noat_ok (c.fact 35 (f := .noat "School" "kept") rfl)) (Sp.pu_column_fault (He.ga K "School")), He.glo_ok X G (c.fact 51 (f := .glo "column_fault") rfl), F_column_fault.kp, F_column_fault.bindsN fun _ _ _ _ _ _ us hl => match us, hl with | [_, _, _], _ => rfl⟩
  obtain ⟨fd_over_fault, F_over_fault⟩ := c.def_ 23 (d := d23) rfl
  have G_over_fault : Cal P w K mg base 2 "over_fault" 4 (Sp.psi_over_fault (He.ga K "School")) := ⟨(Sp.mo_over_fault (He.ga K "School")), _, _, _, Wk.ok_over_fault F_over_fault G_School_named (He.cls_ok (c.fact 16 (f := .cls "School") rfl)) (He.noat_ok (c.fact 35 (f := .noat "School" "kept") rfl)) (Sp.pu_over_fault (He.ga K "School")), He.glo_ok X G (c.fact 52 (f := .glo "over_fault") rfl), F_over_fault.kp, F_over_fault.bindsN fun _ _ _ _ _ _ us hl => match us, hl with | [_, _, _, _], _ => rfl⟩
  obtain ⟨fd_step_fault, F_step_fault⟩ := c.def_ 24 (d := d24) rfl
  have G_step_fault : Cal P w K mg base 3 "step_fault" 4 (Sp.psi_step_fault (He.ga K "School")) := ⟨(Sp.mo_step_fault (He.ga K "School")), _, _, _, Wk.ok_step_fault F_step_fault (He.free_ok X G (c.fact 18 (f := .free "enumerate") rfl)) G_over_fault (Sp.pu_step_fault (He.ga K "School")), He.glo_ok X G (c.fact 53 (f := .glo "step_fault") rfl), F_step_fault.kp, F_step_fault.bindsN fun _ _ _ _ _ _ us hl => match us, hl with | [_, _, _, _], _ => rfl⟩
  obtain ⟨fd_next_fault, F_next_fault⟩ := c.def_ 25 (d := d25) rfl
  have G_next_fault : Cal P w K mg base 4 "next_fault" 5 (Sp.psi_next_fault (He.ga K "School")) := ⟨(Sp.mo_next_fault (He.ga K "School")), _, _, _, Wk.ok_next_fault F_next_fault G_column_fault G_step_fault (Sp.pu_next_fault (He.ga K "School")), He.glo_ok X G (c.fact 54 (f := .glo "next_fault") rfl), F_next_fault.kp, F_next_fault.bindsN fun _ _ _ _ _ _ us hl => match us, hl with | [_, _, _, _, _], _ => rfl⟩
  obtain ⟨fd_fault, F_fault⟩ := c.def_ 26 (d := d26) rfl
  have G_fault : Cal P w K mg base 5 "fault" 3 (Sp.psi_fault (He.ga K "School")) := ⟨(Sp.mo_fault (He.ga K "School")), _, _, _, Wk.ok_fault F_fault G_need_tune (He.free_ok X G (c.fact 0 (f := .free "len") rfl)) (He.cls_ok (c.fact 16 (f := .cls "School") rfl)) (He.noat_ok (c.fact 28 (f := .noat "School" "told") rfl)) (He.free_ok X G (c.fact 18 (f := .free "enumerate") rfl)) G_next_fault (Sp.pu_fault (He.ga K "School")), He.glo_ok X G (c.fact 55 (f := .glo "fault") rfl), F_fault.kp, F_fault.bindsN fun _ _ _ _ _ _ us hl => match us, hl with | [_, _, _], _ => rfl⟩
  obtain ⟨fd_in_column, F_in_column⟩ := c.def_ 27 (d := d27) rfl
  have G_in_column : Cal P w K mg base 3 "_law_in_column" 3 Sp.psi_in_column := ⟨Sp.mo_in_column, _, _, _, Wk.ok_in_column F_in_column (He.free_ok X G (c.fact 10 (f := .free "range") rfl)) (He.free_ok X G (c.fact 0 (f := .free "len") rfl)) G_name (He.free_ok X G (c.fact 56 (f := .free "sorted") rfl)) Sp.pu_in_column, He.glo_ok X G (c.fact 57 (f := .glo "_law_in_column") rfl), F_in_column.kp, F_in_column.bindsN fun _ _ _ _ _ _ us hl => match us, hl with | [_, _, _], _ => rfl⟩
  obtain ⟨fd_follows, F_follows⟩ := c.def_ 28 (d := d28) rfl
  have G_follows : Cal P w K mg base 3 "_law_follows" 4 Sp.psi_follows := ⟨Sp.mo_follows, _, _, _, Wk.ok_follows F_follows (He.free_ok X G (c.fact 10 (f := .free "range") rfl)) (He.free_ok X G (c.fact 0 (f := .free "len") rfl)) G_name Sp.pu_follows, He.glo_ok X G (c.fact 58 (f := .glo "_law_follows") rfl), F_follows.kp, F_follows.bindsN fun _ _ _ _ _ _ us hl => match us, hl with | [_, _, _, _], _ => rfl⟩
  obtain ⟨fd_L_fault, F_L_fault⟩ := c.def_ 29 (d := d29) rfl
  have G_L_fault : Cal P w K mg base 4 "_law_fault" 3 Sp.psi_L_fault := ⟨Sp.mo_L_fault, _, _, _, Wk.ok_L_fault F_L_fault (He.free_ok X G (c.fact 10 (f := .free "range") rfl)) (He.free_ok X G (c.fact 0 (f := .free "len") rfl)) G_in_column G_follows Sp.pu_L_fault, He.glo_ok X G (c.fact 59 (f := .glo "_law_fault") rfl), F_L_fault.kp, F_L_fault.bindsN fun _ _ _ _ _ _ us hl => match us, hl with | [_, _, _], _ => rfl⟩
  exact Wk.ok_law F G_dice G_school G_made G_tune G_off (He.free_ok X G (c.fact 10 (f := .free "range") rfl)) G_drawn (He.free_ok X G (c.fact 11 (f := .free "list") rfl)) G_fault G_L_fault (He.free_ok X G (c.fact 60 (f := .free "isinstance") rfl)) (He.free_ok X G (c.fact 9 (f := .free "tuple") rfl)) (Sp.pu_law (He.ga K "School"))
end Hd
end
section
open PySem PySem.W PySem.Calls PyProof.Rows
set_option Elab.async false
set_option linter.all false
set_option maxRecDepth 100000
set_option maxHeartbeats 0
theorem PySem.Challenge.cw_gamutsay_k04_faults_holds : PySem.Challenge.rw_gamutsay_k04_faults.Holds := by
  w_on; o_law
  refine HandSHeadRun.head_any (r := OpenLaw.row PySem.Challenge.rw_gamutsay_k04_faults) (q := view (OpenLaw.row PySem.Challenge.rw_gamutsay_k04_faults).prog [45]) (H := Hd.hk) (ob := Hd.ob) (M := 6000) (loose := Hd.nms) (d := HandSHeadRun.topDef (OpenLaw.row PySem.Challenge.rw_gamutsay_k04_faults).prog 45) (kwd := []) Hd.ob_eq
    (by kernel_rfl) (fun s => by kernel_rfl) Hd.run (by kernel_rfl) (by kernel_rfl) (by kernel_rfl) (by rfl) (by first | assumption | decide +kernel) (by decide +kernel) ⟨rfl, rfl, rfl, rfl, rfl, by decide +kernel⟩ ?hw ?hc
  case hw => w_witness2
  case hc =>
    refine L2.walk_ofE (l := PySem.Challenge.rw_gamutsay_k04_faults) (n := 63) (k := 6) (x := "_law_script") (CX := L2.CX0) rfl (by decide) (by kernel_rfl) ⟨rfl, by decide, by decide⟩ ?F (fun _ _ _ _ z => z)
    intro w mg fa h Y G hmg0
    obtain ⟨K, KX, c⟩ := Y
    have hmg : mg ("law" : PySem.Str) = some (.ref fa) := by
      have e : (HandSHeadRun.topDef (OpenLaw.row PySem.Challenge.rw_gamutsay_k04_faults).prog 45).name = ("law" : PySem.Str) := by kernel_rfl
      rw [← e]
      exact hmg0
    obtain ⟨fd, hb, ht, hF⟩ := Hd.facts (P := (PySem.Challenge.rw_gamutsay_k04_faults).prog) (w := w) KX G hmg c
    exact ⟨K, fd, _, KX, hb, fun H a ns hl hO hS => Pu.top_spP ht hl hO hS, hF⟩
end
