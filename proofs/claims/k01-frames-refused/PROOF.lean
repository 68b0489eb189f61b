import PyProof.Rows.All
import Wide.All
import OpenK.AllK
import Wide.FinOn
import HandS.ForMost
import HandS.ForExc
import HandS.Conv
import HandS.Flow
import HandS.Codes
import HandS.Wide
import HandS.TupAny
import HandS.Deep
import HandS.Small
import HandS.Steps
import HandS.Iter
import HandS.Walk
import HandS.Rev
import HandS.Defaults
import HandS.WordsExc
import HandS.ExcOwn
import HandS.ExcCtx
import HandS.SortInts
import HandS.Text
import HandS.Comp
import HandS.IsInst
import HandS.CallLocal
import HandS.HeadHook2
import HandS.Ends
import HandS.HeadEnd
import HandS.Zip
import HandS.Style
import HandS.Strs
import HandS.SetFor
import HandS.SetKeys
import HandS.More
import HandS.Replace
import KE.GoesEnum
import KE.DataCmp
import KE.DataMinMax
import KE.SortData
import HandS.Exc
import HandS.ExcIs
import HandS.HeadHook1
import HandS.HotCalls
import HandS.NoneIn
import HandS.Property
import HandS.OwnEq
import OpenK.KOps
import HandS.TupMul
import KE.KStateDown
import HandS.Base
import HandS.Call
import HandS.Words
import HandS.Head0
import HandS.Head1
import HandS.Head2
import PySem.Challenge.RW_gapperiods_k01_frames_refused
set_option Elab.async false
set_option linter.all false
set_option maxRecDepth 100000
set_option maxHeartbeats 4000000
set_option autoImplicit false
/-! Pv0: pure values D for what stands in the heap, who holds an object, the judgements over pure environments. -/
noncomputable section
namespace Pv
open PySem PySem.Spec L2
open PyProof.Rows hiding St

/-- a condition that is not computed -/
def cdec (p : Prop) : Bool := @decide p (Classical.propDecidable p)
theorem cdec_true {p : Prop} (h : p) : cdec p = true := @decide_eq_true p (Classical.propDecidable p) h
theorem cdec_of {p : Prop} (h : cdec p = true) : p := @of_decide_eq_true p (Classical.propDecidable p) h
theorem cdec_not {p : Prop} (h : ¬ p) : ¬ cdec p = true := fun e => h (cdec_of e)
/-! ### pure values -/
inductive D where
  | non | bl (b : Bool) | int (i : Int) | str (x : List Nat)
  | lst (xs : List D) | tup (xs : List D)
  | dik (kvs : List (Key × D)) | dit (kvs : List (List Key × D))
  | ins (C : Addr) (fs : List (Str × D))
  | ref (a : Addr)
  | ty (n : String)
  | set (ks : List Key)
  | rnd (la : Addr) (s : Int) (cs : List Int) (i : Int)
  | lol (xs : List (List D))
  | ino (C : Addr) (fs : List (Str × D)) (f : Str) (xs : List D)
  | dil (kvs : List (Key × List D))

abbrev Env := List (Option D)

open Classical in
noncomputable def hide (N : Addr → Prop) (H : Hp) : Hp := fun a => if N a then none else H a
theorem hide_some {N : Addr → Prop} {H : Hp} {a : Addr} {o : HO} : hide N H a = some o ↔ ¬ N a ∧ H a = some o := by
  unfold hide
  by_cases h : N a
  · rw [if_pos h]; exact ⟨fun q => (nomatch q), fun q => absurd h q.1⟩
  · rw [if_neg h]; exact ⟨fun q => ⟨h, q⟩, fun q => q.2⟩
theorem hide_same {N N' : Addr → Prop} {H H' : Hp} (s : Same H H') (n : ∀ a, N' a → H a ≠ none → N a) : Same (hide N H) (hide N' H') := fun a o e => by
  obtain ⟨h1, h2⟩ := hide_some.mp e
  exact hide_some.mpr ⟨fun q => h1 (n a q (by rw [h2]; exact fun z => nomatch z)), s a o h2⟩
theorem hide_sub {N : Addr → Prop} {H : Hp} : Same (hide N H) H := fun a o e => (hide_some.mp e).2
theorem hide_upd {N : Addr → Prop} {H : Hp} {p : Addr} {o : HO} (h : N p) : hide N (upd H p o) = hide N H := by
  funext a
  unfold hide
  by_cases e : N a
  · rw [if_pos e, if_pos e]
  · rw [if_neg e, if_neg e, upd_ne (fun q => e (by rw [q]; exact h))]
theorem same_new {H : Hp} {p : Addr} {o : HO} (h : H p = none) : Same H (upd H p o) := fun b x e => by
  rw [upd_ne (ne_of_none e h)]
  exact e
theorem same_sqL {K : PySem.W.Frag} {h h' : Hp} (s : Same h h') {a : Addr} {vs : List V} (e : SqL K h a vs) : SqL K h' a vs := s.seq e
theorem same_sqT {K : PySem.W.Frag} {h h' : Hp} (s : Same h h') {a : Addr} {vs : List V} (e : SqT K h a vs) : SqT K h' a vs := by
  rcases e with e | e
  · rcases e with e | ⟨o, e⟩
    · exact .inl (.inl (s _ _ e))
    · exact .inl (.inr ⟨o, s _ _ e⟩)
  · exact .inr e

theorem same_rd {h h' : Hp} (s : Same h h') {a : Addr} {u : HO} (e : Rd h a u) : Rd h' a u := e.imp (s _ _) fun ⟨o, q⟩ => ⟨o, s _ _ q⟩
mutual
inductive Rep (K : PySem.W.Frag) (h : Hp) : D → V → Prop
  | non : Rep K h .non .non
  | bl (b : Bool) : Rep K h (.bl b) (.bl b)
  | int (i : Int) : Rep K h (.int i) (.int i)
  | str (x : List Nat) : Rep K h (.str x) (.str ⟨x.toArray⟩)
  | lst {a : Addr} {ds : List D} {vs : List V} : h a = some (.lst vs) → Reps K h ds vs → Rep K h (.lst ds) (.ref a)
  | tup {a : Addr} {ds : List D} {vs : List V} : h a = some (.tup vs) → Reps K h ds vs → Rep K h (.tup ds) (.ref a)
  | dik {a : Addr} {kvs : List (Key × D)} {ks : List (Key × V)} : Rd h a (.dK ks) → ks.map (·.1) = kvs.map (·.1) → Reps K h (kvs.map (·.2)) (ks.map (·.2)) → Rep K h (.dik kvs) (.ref a)
  | dit {a : Addr} {kvs : List (List Key × D)} {ks : List (List Key × V)} : Rd h a (.dT ks) → ks.map (·.1) = kvs.map (·.1) → Reps K h (kvs.map (·.2)) (ks.map (·.2)) → Rep K h (.dit kvs) (.ref a)
  | ins {a C dx : Addr} {fs : List (Str × D)} {gs : List (Str × V)} : h a = some (.ins C dx gs) → gs.map (·.1) = fs.map (·.1) → Reps K h (fs.map (·.2)) (gs.map (·.2)) → Rep K h (.ins C fs) (.ref a)
  | ref (a : Addr) : Rep K h (.ref a) (.ref a)
  | ty (n : String) : Rep K h (.ty n) (.ty n)
inductive Reps (K : PySem.W.Frag) (h : Hp) : List D → List V → Prop
  | nil : Reps K h [] []
  | cons {d : D} {v : V} {ds : List D} {vs : List V} : Rep K h d v → Reps K h ds vs → Reps K h (d :: ds) (v :: vs)
end
mutual
theorem Rep.mono {K : PySem.W.Frag} {h h' : Hp} (s : Same h h') {d : D} {v : V} : Rep K h d v → Rep K h' d v
  | .non => .non
  | .bl b => .bl b
  | .int i => .int i
  | .str x => .str x
  | .lst e r => .lst (s _ _ e) (Reps.mono s r)
  | .tup e r => .tup (s _ _ e) (Reps.mono s r)
  | .dik e k r => .dik (same_rd s e) k (Reps.mono s r)
  | .dit e k r => .dit (same_rd s e) k (Reps.mono s r)
  | .ins e k r => .ins (s _ _ e) k (Reps.mono s r)
  | .ref a => .ref a
  | .ty n => .ty n
theorem Reps.mono {K : PySem.W.Frag} {h h' : Hp} (s : Same h h') {ds : List D} {vs : List V} : Reps K h ds vs → Reps K h' ds vs
  | .nil => .nil
  | .cons r t => .cons (Rep.mono s r) (Reps.mono s t)
end
section
variable {K : PySem.W.Frag} {h : Hp}
theorem Reps.length : ∀ {ds : List D} {vs : List V}, Reps K h ds vs → ds.length = vs.length
  | _, _, .nil => rfl
  | _, _, .cons _ t => congrArg Nat.succ (Reps.length t)
theorem Reps.append : ∀ {ds es : List D} {vs us : List V}, Reps K h ds vs → Reps K h es us → Reps K h (ds ++ es) (vs ++ us)
  | _, _, _, _, .nil, q => q
  | _, _, _, _, .cons r t, q => .cons r (Reps.append t q)
theorem Reps.get : ∀ {ds : List D} {vs : List V} {i : Nat} {d : D}, Reps K h ds vs → ds[i]? = some d → ∃ v, vs[i]? = some v ∧ Rep K h d v
  | _, _, _, _, .nil, e => by simp at e
  | _, _, 0, _, .cons r _, e => by simp at e; subst e; exact ⟨_, rfl, r⟩
  | _, _, i + 1, d, .cons _ t, e => by
    obtain ⟨v, h1, h2⟩ := Reps.get (i := i) (d := d) t (by simpa using e)
    exact ⟨v, by simpa using h1, h2⟩
theorem Reps.getV : ∀ {ds : List D} {vs : List V} {i : Nat} {v : V}, Reps K h ds vs → vs[i]? = some v → ∃ d, ds[i]? = some d ∧ Rep K h d v
  | _, _, _, _, .nil, e => by simp at e
  | _, _, 0, _, .cons r _, e => by simp at e; subst e; exact ⟨_, rfl, r⟩
  | _, _, i + 1, d, .cons _ t, e => by
    obtain ⟨v, h1, h2⟩ := Reps.getV (i := i) (v := d) t (by simpa using e)
    exact ⟨v, by simpa using h1, h2⟩
theorem Reps.set : ∀ {ds : List D} {vs : List V} {d : D} {v : V} (i : Nat), Reps K h ds vs → Rep K h d v → Reps K h (ds.set i d) (vs.set i v)
  | _, _, _, _, _, .nil, _ => .nil
  | _, _, _, _, 0, .cons _ t, q => .cons q t
  | _, _, _, _, i + 1, .cons r t, q => .cons r (Reps.set i t q)
theorem Reps.take : ∀ {ds : List D} {vs : List V} (n : Nat), Reps K h ds vs → Reps K h (ds.take n) (vs.take n)
  | _, _, 0, _ => .nil
  | _, _, _ + 1, .nil => .nil
  | _, _, n + 1, .cons r t => .cons r (Reps.take n t)
theorem Reps.drop : ∀ {ds : List D} {vs : List V} (n : Nat), Reps K h ds vs → Reps K h (ds.drop n) (vs.drop n)
  | _, _, 0, r => r
  | _, _, _ + 1, .nil => .nil
  | _, _, n + 1, .cons _ t => Reps.drop n t
theorem Reps.reverse {ds : List D} {vs : List V} (r : Reps K h ds vs) : Reps K h ds.reverse vs.reverse := by
  induction ds generalizing vs with
  | nil => cases r; exact .nil
  | cons d ds ih =>
    cases r with
    | cons r t =>
      rw [List.reverse_cons, List.reverse_cons]
      exact Reps.append (ih t) (.cons r .nil)
theorem Reps.dropLast {ds : List D} {vs : List V} (r : Reps K h ds vs) : Reps K h ds.dropLast vs.dropLast := by
  rw [List.dropLast_eq_take, List.dropLast_eq_take, r.length]
  exact r.take _
theorem Reps.rep {ds : List D} {vs : List V} (r : Reps K h ds vs) : ∀ k : Nat, Reps K h (List.replicate k ds).flatten (List.replicate k vs).flatten
  | 0 => .nil
  | k + 1 => by
    rw [List.replicate_succ, List.replicate_succ, List.flatten_cons, List.flatten_cons]
    exact r.append (Reps.rep r k)
theorem Reps.ints : ∀ ns : List Int, Reps K h (ns.map D.int) (ns.map V.int)
  | [] => .nil
  | n :: ns => .cons (.int n) (Reps.ints ns)
theorem Reps.intsV : ∀ {ns : List Int} {vs : List V}, Reps K h (ns.map D.int) vs → vs = ns.map V.int
  | [], _, .nil => rfl
  | n :: ns, _, .cons r t => by cases r; rw [Reps.intsV t]; rfl
theorem Reps.strsV : ∀ {ns : List (List Nat)} {vs : List V}, Reps K h (ns.map D.str) vs → vs = ns.map fun x => V.str ⟨x.toArray⟩
  | [], _, .nil => rfl
  | n :: ns, _, .cons r t => by cases r; rw [Reps.strsV t]; rfl
theorem Reps.strs : ∀ ns : List (List Nat), Reps K h (ns.map D.str) (ns.map fun x => V.str ⟨x.toArray⟩)
  | [] => .nil
  | n :: ns => .cons (.str n) (Reps.strs ns)
theorem Reps.bls : ∀ ns : List Bool, Reps K h (ns.map D.bl) (ns.map V.bl)
  | [] => .nil
  | n :: ns => .cons (.bl n) (Reps.bls ns)
theorem Reps.blsV : ∀ {ns : List Bool} {vs : List V}, Reps K h (ns.map D.bl) vs → vs = ns.map V.bl
  | [], _, .nil => rfl
  | n :: ns, _, .cons r t => by cases r; rw [Reps.blsV t]; rfl
end

/-! ### who holds an object -/
inductive Ow where
  | pub | frame | tmp | slot (i : Nat)
  deriving DecidableEq
abbrev pubH (ow : Addr → Ow) (H : Hp) : Hp := hide (fun a => ow a ≠ .pub) H
def setOw (ow : Addr → Ow) (p : Addr) (w : Ow) : Addr → Ow := fun a => if a = p then w else ow a
theorem setOw_same {ow : Addr → Ow} {p : Addr} {w : Ow} : setOw ow p w p = w := by unfold setOw; rw [if_pos rfl]
theorem setOw_ne {ow : Addr → Ow} {p a : Addr} {w : Ow} (h : a ≠ p) : setOw ow p w a = ow a := by unfold setOw; rw [if_neg h]

/-- the lists of a dict, each held by who -/
def DilAt (K : PySem.W.Frag) (H : Hp) (ow : Addr → Ow) (who : Ow) : List (Key × List D) → List (Key × Addr) → Prop
  | [], [] => True
  | q :: kvs, r :: ks => q.1 = r.1 ∧ ow r.2 = who ∧ (∃ vs, H r.2 = some (.lst vs) ∧ Reps K (pubH ow H) q.2 vs) ∧ DilAt K H ow who kvs ks
  | _, _ => False
def lolAt (K : PySem.W.Frag) (H : Hp) (ow : Addr → Ow) (who : Ow) : List (List D) → List Addr → Prop
  | [], [] => True
  | q :: kvs, r :: ks => ow r = who ∧ (∃ vs, H r = some (.lst vs) ∧ Reps K (pubH ow H) q vs) ∧ lolAt K H ow who kvs ks
  | _, _ => False
/-- the fields of an instance, one of them the list at la -/
def FRep (K : PySem.W.Frag) (h : Hp) (f : Str) (la : Addr) : List (Str × D) → List (Str × V) → Prop
  | [], [] => True
  | q :: fs, r :: gs => q.1 = r.1 ∧ (if q.1 = f then r.2 = .ref la else Rep K h q.2 r.2) ∧ FRep K h f la fs gs
  | _, _ => False
theorem FRep.mono {K : PySem.W.Frag} {h h' : Hp} (s : Same h h') {f : Str} {la : Addr} : ∀ {fs : List (Str × D)} {gs : List (Str × V)}, FRep K h f la fs gs → FRep K h' f la fs gs
  | [], [], _ => trivial
  | q :: fs, r :: gs, ⟨e, a, t⟩ => ⟨e, by
    by_cases c : q.1 = f
    · rw [if_pos c] at a ⊢; exact a
    · rw [if_neg c] at a ⊢; exact a.mono s, FRep.mono s t⟩
def dilV (ks : List (Key × Addr)) : List (Key × V) := ks.map fun q => (q.1, V.ref q.2)
/-- the object at p, held by who alone, is d -/
def OwnAt (K : PySem.W.Frag) (H : Hp) (ow : Addr → Ow) (who : Ow) (p : Addr) : D → Prop
  | .lst ds => ow p = who ∧ ∃ vs, H p = some (.lst vs) ∧ Reps K (pubH ow H) ds vs
  | .dik kvs => ow p = who ∧ ∃ ks, H p = some (.dK ks) ∧ ks.map (·.1) = kvs.map (·.1) ∧ Reps K (pubH ow H) (kvs.map (·.2)) (ks.map (·.2))
  | .dit kvs => ow p = who ∧ ∃ ks, H p = some (.dT ks) ∧ ks.map (·.1) = kvs.map (·.1) ∧ Reps K (pubH ow H) (kvs.map (·.2)) (ks.map (·.2))
  | .ins C fs => ow p = who ∧ ∃ dx gs, H p = some (.ins C dx gs) ∧ gs.map (·.1) = fs.map (·.1) ∧ Reps K (pubH ow H) (fs.map (·.2)) (gs.map (·.2))
  | .rnd la s cs i => ow p = who ∧ la ≠ p ∧ ow la = who ∧ H p = some (.lst [.int s, .ref la, .int i]) ∧ H la = some (.lst (cs.map V.int))
  | .dil kvs => ow p = who ∧ ∃ ks : List (Key × Addr), H p = some (.dK (dilV ks)) ∧ (ks.map (·.2)).Nodup ∧ DilAt K H ow who kvs ks
  | .ino C fs f xs => ow p = who ∧ ∃ dx gs la vs, H p = some (.ins C dx gs) ∧ la ≠ p ∧ ow la = who ∧ H la = some (.lst vs) ∧ Reps K (pubH ow H) xs vs ∧ FRep K (pubH ow H) f la fs gs
  | .lol xs => ow p = who ∧ ∃ ks : List Addr, H p = some (.lst (ks.map V.ref)) ∧ p ∉ ks ∧ ks.Nodup ∧ lolAt K H ow who xs ks
  | _ => False

theorem DilAt.gen {K : PySem.W.Frag} {H H' : Hp} {ow ow' : Addr → Ow} {who who' : Ow} (s : ∀ a o, ow a = who → H a = some o → H' a = some o) (sp : Same (pubH ow H) (pubH ow' H')) (f : ∀ a, ow a = who → ow' a = who') : ∀ {kvs : List (Key × List D)} {ks : List (Key × Addr)}, DilAt K H ow who kvs ks → DilAt K H' ow' who' kvs ks
  | [], [], _ => trivial
  | _ :: _, _ :: _, ⟨e, h, ⟨vs, h1, h2⟩, r⟩ => ⟨e, f _ h, ⟨vs, s _ _ h h1, h2.mono sp⟩, DilAt.gen s sp f r⟩
theorem lolAt.gen {K : PySem.W.Frag} {H H' : Hp} {ow ow' : Addr → Ow} {who who' : Ow} (s : ∀ a o, ow a = who → H a = some o → H' a = some o) (sp : Same (pubH ow H) (pubH ow' H')) (f : ∀ a, ow a = who → ow' a = who') : ∀ {kvs : List (List D)} {ks : List Addr}, lolAt K H ow who kvs ks → lolAt K H' ow' who' kvs ks
  | [], [], _ => trivial
  | _ :: _, _ :: _, ⟨h, ⟨vs, h1, h2⟩, r⟩ => ⟨f _ h, ⟨vs, s _ _ h h1, h2.mono sp⟩, lolAt.gen s sp f r⟩
theorem OwnAt.gen {K : PySem.W.Frag} {H H' : Hp} {ow ow' : Addr → Ow} {who who' : Ow} (s : ∀ a o, ow a = who → H a = some o → H' a = some o) (sp : Same (pubH ow H) (pubH ow' H')) (f : ∀ a, ow a = who → ow' a = who') {p : Addr} {d : D} (h : OwnAt K H ow who p d) : OwnAt K H' ow' who' p d := by
  cases d with
  | lst ds => obtain ⟨e, vs, h1, h2⟩ := h; exact ⟨f _ e, vs, s _ _ e h1, h2.mono sp⟩
  | dik kvs => obtain ⟨e, ks, h1, h2, h3⟩ := h; exact ⟨f _ e, ks, s _ _ e h1, h2, h3.mono sp⟩
  | dit kvs => obtain ⟨e, ks, h1, h2, h3⟩ := h; exact ⟨f _ e, ks, s _ _ e h1, h2, h3.mono sp⟩
  | ins C fs => obtain ⟨e, dx, gs, h1, h2, h3⟩ := h; exact ⟨f _ e, dx, gs, s _ _ e h1, h2, h3.mono sp⟩
  | rnd la s' cs i => obtain ⟨e, h1, h2, h3, h4⟩ := h; exact ⟨f _ e, h1, f _ h2, s _ _ e h3, s _ _ h2 h4⟩
  | dil kvs => obtain ⟨e, ks, h1, h2, h3⟩ := h; exact ⟨f _ e, ks, s _ _ e h1, h2, h3.gen s sp f⟩
  | ino C fs fn xs => obtain ⟨e, dx, gs, la, vs, h1, h2, h3, h4, h5, h6⟩ := h; exact ⟨f _ e, dx, gs, la, vs, s _ _ e h1, h2, f _ h3, s _ _ h3 h4, h5.mono sp, h6.mono sp⟩
  | lol kvs => obtain ⟨e, ks, h1, h2, h3, h4⟩ := h; exact ⟨f _ e, ks, s _ _ e h1, h2, h3, h4.gen s sp f⟩
  | _ => exact h.elim

structure Bd where
  M : Addr → Prop
  H0 : Hp
  bor : List Addr
  fr : Bool := false

structure ERo (K : PySem.W.Frag) (B : Bd) (fl : List Bool) (ow : Addr → Ow) (σ : St) (H : Hp) (ρ : Env) (T : List (D × V)) : Prop where
  len : ρ.length = σ.length
  fll : fl.length = σ.length
  frame : ∀ a, B.M a → ow a = .frame
  live : ∀ a, ow a ≠ .pub → H a ≠ none
  nt : ∀ a vs, H a = some (.tup vs) → ow a = .pub
  sh : ∀ (i : Nat) (d : D), ρ[i]? = some (some d) → fl[i]? ≠ some true → ∃ v, σ[i]? = some (some v) ∧ Rep K (pubH ow H) d v
  hd : ∀ (i : Nat) (d : D), ρ[i]? = some (some d) → fl[i]? = some true → ∃ p, σ[i]? = some (some (.ref p)) ∧ OwnAt K H ow (.slot i) p d
  new : ∀ a, ow a ≠ .pub → ow a ≠ .frame → B.H0 a = none ∨ a ∈ B.bor
  same : ∀ a o, B.H0 a = some o → a ∉ B.bor → H a = some o
  tmp : ∀ q ∈ T, Rep K (pubH ow H) q.1 q.2
  bown : ∀ a ∈ B.bor, ow a = .slot 0
  b0 : ∀ p, B.bor.head? = some p → σ[0]? = some (some (.ref p)) ∧ fl[0]? = some true

def ER (K : PySem.W.Frag) (B : Bd) (fl : List Bool) (σ : St) (H : Hp) (ρ : Env) (T : List (D × V)) : Prop := ∃ ow, ERo K B fl ow σ H ρ T

section
variable {K : PySem.W.Frag} {B : Bd} {fl : List Bool} {ow : Addr → Ow} {σ : St} {H H' : Hp} {ρ : Env} {T : List (D × V)}
theorem pubH_same (s : Same H H') : Same (pubH ow H) (pubH ow H') := hide_same s fun _ q _ => q
theorem OwnAt.mono (s : Same H H') {who : Ow} {p : Addr} {d : D} (h : OwnAt K H ow who p d) : OwnAt K H' ow who p d := h.gen (fun a o _ e => s a o e) (pubH_same s) fun _ e => e
/-- new objects that nobody holds -/
theorem ERo.mono (E : ERo K B fl ow σ H ρ T) (s : Same H H') : ERo K B fl ow σ H' ρ T where
  len := E.len
  fll := E.fll
  frame := E.frame
  live := fun a q z => by
    cases e : H a with
    | none => exact E.live a q e
    | some o => rw [s a o e] at z; cases z
  nt := fun a vs h => by
    cases e : ow a with
    | pub => rfl
    | _ =>
      have n1 : ow a ≠ .pub := by rw [e]; exact fun z => nomatch z
      cases e1 : H a with
      | none => exact absurd e1 (E.live a n1)
      | some o =>
        rw [s a o e1] at h
        cases h
        rw [E.nt a vs e1] at e
        exact e.symm
  sh := fun i d h1 h2 => let ⟨v, e, r⟩ := E.sh i d h1 h2; ⟨v, e, r.mono (pubH_same s)⟩
  hd := fun i d h1 h2 => let ⟨p, e, r⟩ := E.hd i d h1 h2; ⟨p, e, r.mono s⟩
  new := E.new
  same := fun a o h1 h2 => s a o (E.same a o h1 h2)
  tmp := fun q hq => (E.tmp q hq).mono (pubH_same s)
  bown := E.bown
  b0 := E.b0
theorem ERo.push (E : ERo K B fl ow σ H ρ T) {d : D} {v : V} (r : Rep K (pubH ow H) d v) : ERo K B fl ow σ H ρ ((d, v) :: T) :=
  { E with tmp := fun q hq => (List.mem_cons.mp hq).elim (fun e => by rw [e]; exact r) (fun hq => E.tmp q hq) }
theorem ERo.drop {q : D × V} (E : ERo K B fl ow σ H ρ (q :: T)) : ERo K B fl ow σ H ρ T := { E with tmp := fun p hp => E.tmp p (List.mem_cons_of_mem _ hp) }
theorem ERo.top {d : D} {v : V} (E : ERo K B fl ow σ H ρ ((d, v) :: T)) : Rep K (pubH ow H) d v := E.tmp (d, v) List.mem_cons_self
theorem ERo.sub {T' : List (D × V)} (E : ERo K B fl ow σ H ρ T) (h : ∀ q ∈ T', q ∈ T) : ERo K B fl ow σ H ρ T' := { E with tmp := fun q hq => E.tmp q (h q hq) }
theorem ER.sub {T' : List (D × V)} (E : ER K B fl σ H ρ T) (h : ∀ q ∈ T', q ∈ T) : ER K B fl σ H ρ T' := let ⟨ow, e⟩ := E; ⟨ow, e.sub h⟩
theorem ERo.fresh (E : ERo K B fl ow σ H ρ T) {p : Addr} (h : H p = none) : ow p = .pub := by
  cases e : ow p with
  | pub => rfl
  | _ => exact absurd h (E.live p (by rw [e]; exact fun z => nomatch z))
end

/-- there, and no tuple -/
def MuH (H : Hp) (a : Addr) : Prop := H a ≠ none ∧ ∀ vs, H a ≠ some (.tup vs)
theorem MuH.mono {H H' : Hp} {a : Addr} (h : MuH H a) (s : ∀ o, H a = some o → H' a = some o) : MuH H' a := by
  cases e : H a with
  | none => exact absurd e h.1
  | some o => exact ⟨fun z => by rw [s o e] at z; exact (nomatch z), fun vs z => h.2 vs (by rw [s o e] at z; rw [e]; exact z)⟩
theorem ERo.mu {K : PySem.W.Frag} {B : Bd} {fl : List Bool} {ow : Addr → Ow} {σ : St} {H : Hp} {ρ : Env} {T : List (D × V)} (E : ERo K B fl ow σ H ρ T) {a : Addr} (h : ow a ≠ .pub) : MuH H a := ⟨E.live a h, fun vs z => h (E.nt a vs z)⟩
theorem ERo.nt1 {K : PySem.W.Frag} {B : Bd} {fl : List Bool} {ow : Addr → Ow} {σ : St} {H : Hp} {ρ : Env} {T : List (D × V)} (E : ERo K B fl ow σ H ρ T) {p : Addr} {o : HO} {w : Ow} (h : ∀ vs, o ≠ .tup vs) : ∀ a vs, upd H p o a = some (.tup vs) → setOw ow p w a = .pub := fun a vs z => by
  by_cases e : a = p
  · rw [e, upd_same] at z; cases z; exact absurd rfl (h vs)
  · rw [upd_ne e] at z; rw [setOw_ne e]; exact E.nt a vs z
theorem ERo.nt2 {K : PySem.W.Frag} {B : Bd} {fl : List Bool} {ow : Addr → Ow} {σ : St} {H : Hp} {ρ : Env} {T : List (D × V)} (E : ERo K B fl ow σ H ρ T) {p : Addr} {o : HO} (h : ∀ vs, o ≠ .tup vs) : ∀ a vs, upd H p o a = some (.tup vs) → ow a = .pub := fun a vs z => by
  by_cases e : a = p
  · rw [e, upd_same] at z; cases z; exact absurd rfl (h vs)
  · rw [upd_ne e] at z; exact E.nt a vs z
theorem ERo.nt3 {K : PySem.W.Frag} {B : Bd} {fl : List Bool} {ow : Addr → Ow} {σ : St} {H : Hp} {ρ : Env} {T : List (D × V)} (E : ERo K B fl ow σ H ρ T) {p : Addr} {w : Ow} (h : ∀ vs, H p ≠ some (.tup vs)) : ∀ a vs, H a = some (.tup vs) → setOw ow p w a = .pub := fun a vs z => by
  rw [setOw_ne fun e => h vs (by rw [← e]; exact z)]; exact E.nt a vs z
/-! ### results -/
structure Exc where
  cls : Addr
  fs : Option (List (Str × Int))
inductive ERes where
  | ok (d : D) (ρ : Env) | ex (x : Exc) (ρ : Env) | no
inductive Out where
  | nx (ρ : Env) | rt (d : D) (ρ : Env) | ex (x : Exc) (ρ : Env) | bk (ρ : Env) | ct (ρ : Env) | no
/-- how the exception's own dict stands -/
def XOk (x : Exc) (H : Hp) (d : Option Addr) : Prop := match x.fs with
  | none => d = none
  | some fs => ∃ a, d = some a ∧ H a = some (.xd (fs.map fun q => (q.1, V.int q.2)))

abbrev ValF := Env → ERes
def EvT (K : PySem.W.Frag) (B : Bd) (W : WX) (fl : List Bool) (f : ValF) : TE := fun σ H Q => ∃ ρ T, ER K B fl σ H ρ T ∧ match f ρ with
  | .ok d ρ' => ∀ v H', ER K B fl σ H' ρ' ((d, v) :: T) → Q v H'
  | .ex x ρ' => ∀ dx H', ER K B fl σ H' ρ' T → XOk x H' dx → W (.ref x.cls) dx σ H'
  | .no => False
/-- a new object that is held by nobody else -/
def EvF (K : PySem.W.Frag) (B : Bd) (W : WX) (fl : List Bool) (f : ValF) : TE := fun σ H Q => ∃ ρ T, ER K B fl σ H ρ T ∧ match f ρ with
  | .ok d ρ' => ∀ p H' ow, ERo K B fl ow σ H' ρ' T → OwnAt K H' ow .tmp p d → Q (.ref p) H'
  | .ex x ρ' => ∀ dx H', ER K B fl σ H' ρ' T → XOk x H' dx → W (.ref x.cls) dx σ H'
  | .no => False

structure PV (X : Cx) (B : Bd) (W : WX) (fl : List Bool) (e : Expr) (f : ValF) : Prop where
  pe : PE X e (EvT X.K B W fl f)
structure PF (X : Cx) (B : Bd) (W : WX) (fl : List Bool) (e : Expr) (f : ValF) : Prop where
  pe : PE X e (EvF X.K B W fl f)

theorem PE.weaken {X : Cx} {e : Expr} {t t' : TE} (h : PE X e t) (w : ∀ σ H Q, t' σ H Q → t σ H Q) : PE X e t' := ⟨fun pins s σ H Q I q => h.run pins s σ H Q I (w σ H Q q)⟩
theorem PT.weaken {X : Cx} {e : Expr} {t t' : TT} (h : PT X e t) (w : ∀ σ H Q, t' σ H Q → t σ H Q) : PT X e t' := ⟨fun pins s σ H Q I q => h.run pins s σ H Q I (w σ H Q q)⟩
theorem PA.weaken {X : Cx} {e : List Expr} {t t' : TA} (h : PA X e t) (w : ∀ σ H Q, t' σ H Q → t σ H Q) : PA X e t' := ⟨fun pos pins s σ H Q I q => h.run pos pins s σ H Q I (w σ H Q q)⟩
theorem PS.weaken {X : Cx} {e : Stmt} {t t' : TS} (h : PS X e t) (w : ∀ D (σ : St) (H : Hp), t' D σ H → t D σ H) : PS X e t' := ⟨fun pins s σ H Q I q => h.run pins s σ H Q I (w Q σ H q)⟩
theorem PSs.weaken {X : Cx} {e : List Stmt} {t t' : TS} (h : PSs X e t) (w : ∀ D (σ : St) (H : Hp), t' D σ H → t D σ H) : PSs X e t' := ⟨fun pins s σ H Q I q => h.run pins s σ H Q I (w Q σ H q)⟩

/-- a held object becomes everybody's -/
def shr (ow : Addr → Ow) (w : Ow) : Addr → Ow := fun a => if ow a = w then .pub else ow a
theorem share_pub {ow : Addr → Ow} {w : Ow} {H : Hp} : Same (pubH ow H) (pubH (shr ow w) H) := hide_same (fun _ _ e => e) fun a q _ z => by
  apply q
  unfold shr
  split
  · rfl
  · exact z
theorem OwnAt.shared {K : PySem.W.Frag} {H : Hp} {ow : Addr → Ow} {who w : Ow} {p : Addr} {d : D} (h : OwnAt K H ow who p d) (hw : who ≠ w) : OwnAt K H (shr ow w) who p d := h.gen (fun _ _ _ e => e) share_pub fun a e => by
  unfold Pv.shr
  rw [if_neg (by rw [e]; exact hw), e]
def noRnd : D → Bool
  | .rnd _ _ _ _ => false
  | .dil _ => false
  | .lol _ => false
  | .ino _ _ _ _ => false
  | _ => true
/-- a dict of lists, as a value -/
def dilD (kvs : List (Key × List D)) : D := .dik (kvs.map fun q => (q.1, .lst q.2))
theorem DilAt.keys {K : PySem.W.Frag} {H : Hp} {ow : Addr → Ow} {who : Ow} : ∀ {kvs : List (Key × List D)} {ks : List (Key × Addr)}, DilAt K H ow who kvs ks → ks.map (·.1) = kvs.map (·.1)
  | [], [], _ => rfl
  | _ :: _, _ :: _, ⟨e, _, _, r⟩ => by rw [List.map_cons, List.map_cons, DilAt.keys r, e]
theorem OwnAt.repDil {K : PySem.W.Frag} {H : Hp} {ow : Addr → Ow} {w : Ow} {p : Addr} {kvs : List (Key × List D)} (h : OwnAt K H ow w p (.dil kvs)) : Rep K (pubH (shr ow w) H) (dilD kvs) (.ref p) := by
  have e1 : ∀ a o, ow a = w → H a = some o → pubH (shr ow w) H a = some o := fun a o e q => hide_some.mpr ⟨fun z => z (by unfold shr; rw [if_pos e]), q⟩
  obtain ⟨e, ks, h1, h2, h3⟩ := h
  have key : ∀ {kvs : List (Key × List D)} {ks : List (Key × Addr)}, DilAt K H ow w kvs ks → Reps K (pubH (shr ow w) H) ((kvs.map fun q => (q.1, D.lst q.2)).map (·.2)) ((dilV ks).map (·.2)) := by
    intro kvs
    induction kvs with
    | nil => intro ks h; cases ks with | nil => exact .nil | cons _ _ => exact h.elim
    | cons q kvs ih =>
      intro ks h
      cases ks with
      | nil => exact h.elim
      | cons r ks =>
        obtain ⟨_, ho, ⟨vs, g1, g2⟩, rest⟩ := h
        exact .cons (.lst (e1 _ _ ho g1) (g2.mono share_pub)) (ih rest)
  refine .dik (.inl (e1 _ _ e h1)) ?_ (key h3)
  unfold dilV
  rw [List.map_map, List.map_map]
  exact h3.keys
def lolD (xs : List (List D)) : D := .lst (xs.map D.lst)
theorem OwnAt.repLol {K : PySem.W.Frag} {H : Hp} {ow : Addr → Ow} {w : Ow} {p : Addr} {xs : List (List D)} (h : OwnAt K H ow w p (.lol xs)) : Rep K (pubH (shr ow w) H) (lolD xs) (.ref p) := by
  have e1 : ∀ a o, ow a = w → H a = some o → pubH (shr ow w) H a = some o := fun a o e q => hide_some.mpr ⟨fun z => z (by unfold shr; rw [if_pos e]), q⟩
  obtain ⟨e, ks, h1, _, _, h3⟩ := h
  have key : ∀ {xs : List (List D)} {ks : List Addr}, lolAt K H ow w xs ks → Reps K (pubH (shr ow w) H) (xs.map D.lst) (ks.map V.ref) := by
    intro xs
    induction xs with
    | nil => intro ks h; cases ks with | nil => exact .nil | cons _ _ => exact h.elim
    | cons q xs ih =>
      intro ks h
      cases ks with
      | nil => exact h.elim
      | cons r ks =>
        obtain ⟨ho, ⟨vs, g1, g2⟩, rest⟩ := h
        exact .cons (.lst (e1 _ _ ho g1) (g2.mono share_pub)) (ih rest)
  exact .lst (e1 _ _ e h1) (key h3)
def fillF (f : Str) (d : D) (fs : List (Str × D)) : List (Str × D) := fs.map fun q => if q.1 = f then (q.1, d) else q
theorem OwnAt.repIno {K : PySem.W.Frag} {H : Hp} {ow : Addr → Ow} {w : Ow} {p : Addr} {C : Addr} {fs : List (Str × D)} {f : Str} {xs : List D} (h : OwnAt K H ow w p (.ino C fs f xs)) : Rep K (pubH (shr ow w) H) (.ins C (fillF f (.lst xs) fs)) (.ref p) := by
  have e1 : ∀ a o, ow a = w → H a = some o → pubH (shr ow w) H a = some o := fun a o e q => hide_some.mpr ⟨fun z => z (by unfold shr; rw [if_pos e]), q⟩
  obtain ⟨e, dx, gs, la, vs, h1, _, h3, h4, h5, h6⟩ := h
  have rl : Rep K (pubH (shr ow w) H) (.lst xs) (.ref la) := .lst (e1 _ _ h3 h4) (h5.mono share_pub)
  have key : ∀ {fs : List (Str × D)} {gs : List (Str × V)}, FRep K (pubH ow H) f la fs gs → gs.map (·.1) = (fillF f (.lst xs) fs).map (·.1) ∧ Reps K (pubH (shr ow w) H) ((fillF f (.lst xs) fs).map (·.2)) (gs.map (·.2)) := by
    intro fs
    induction fs with
    | nil => intro gs h; cases gs with | nil => exact ⟨rfl, .nil⟩ | cons _ _ => exact h.elim
    | cons q fs ih =>
      intro gs h
      cases gs with
      | nil => exact h.elim
      | cons r gs =>
        obtain ⟨a, b, c⟩ := h
        obtain ⟨i1, i2⟩ := ih c
        by_cases z : q.1 = f
        · rw [if_pos z] at b
          refine ⟨?_, ?_⟩
          · show r.1 :: gs.map (·.1) = (if q.1 = f then (q.1, D.lst xs) else q).1 :: (fillF f (.lst xs) fs).map (·.1)
            rw [if_pos z, ← a, i1]
          · show Reps K _ ((if q.1 = f then (q.1, D.lst xs) else q).2 :: (fillF f (.lst xs) fs).map (·.2)) (r.2 :: gs.map (·.2))
            rw [if_pos z, b]
            exact .cons rl i2
        · rw [if_neg z] at b
          refine ⟨?_, ?_⟩
          · show r.1 :: gs.map (·.1) = (if q.1 = f then (q.1, D.lst xs) else q).1 :: (fillF f (.lst xs) fs).map (·.1)
            rw [if_neg z, ← a, i1]
          · show Reps K _ ((if q.1 = f then (q.1, D.lst xs) else q).2 :: (fillF f (.lst xs) fs).map (·.2)) (r.2 :: gs.map (·.2))
            rw [if_neg z]
            exact .cons (b.mono share_pub) i2
  obtain ⟨k1, k2⟩ := key h6
  exact .ins (e1 _ _ e h1) k1 k2
/-- as a value -/
def frzD : D → D
  | .dil kvs => dilD kvs
  | .lol xs => lolD xs
  | .ino C fs f xs => .ins C (fillF f (.lst xs) fs)
  | d => d
def isRnd : D → Bool
  | .rnd _ _ _ _ => true
  | _ => false
/-- .. and is then as a value (a source of draws is none) -/
theorem OwnAt.rep {K : PySem.W.Frag} {H : Hp} {ow : Addr → Ow} {w : Ow} {p : Addr} {d : D} (h : OwnAt K H ow w p d) (hr : noRnd d = true) : Rep K (pubH (shr ow w) H) d (.ref p) := by
  have e1 : ∀ o, ow p = w → H p = some o → pubH (shr ow w) H p = some o := fun o e q => hide_some.mpr ⟨fun z => z (by unfold shr; rw [if_pos e]), q⟩
  cases d with
  | lst ds => obtain ⟨e, vs, h1, h2⟩ := h; exact .lst (e1 _ e h1) (h2.mono share_pub)
  | dik kvs => obtain ⟨e, ks, h1, h2, h3⟩ := h; exact .dik (.inl (e1 _ e h1)) h2 (h3.mono share_pub)
  | dit kvs => obtain ⟨e, ks, h1, h2, h3⟩ := h; exact .dit (.inl (e1 _ e h1)) h2 (h3.mono share_pub)
  | ins C fs => obtain ⟨e, dx, gs, h1, h2, h3⟩ := h; exact .ins (e1 _ e h1) h2 (h3.mono share_pub)
  | rnd la s' cs i => cases hr
  | dil kvs => cases hr
  | lol kvs => cases hr
  | ino C fs f xs => cases hr
  | _ => exact h.elim
section
variable {K : PySem.W.Frag} {B : Bd} {fl : List Bool} {ow : Addr → Ow} {σ : St} {H H' : Hp} {ρ : Env} {T : List (D × V)}
theorem ERo.shareTmp (E : ERo K B fl ow σ H ρ T) : ERo K B fl (shr ow .tmp) σ H ρ T where
  len := E.len
  fll := E.fll
  frame := fun a h => by
    have e := E.frame a h
    unfold shr
    rw [if_neg (by rw [e]; exact fun z => nomatch z), e]
  live := fun a q z => by
    refine E.live a (fun e => q ?_) z
    unfold shr
    rw [e]; split <;> rfl
  nt := fun a vs h => by
    have e := E.nt a vs h
    unfold shr
    rw [e]; split <;> rfl
  sh := fun i d h1 h2 => let ⟨v, e, r⟩ := E.sh i d h1 h2; ⟨v, e, r.mono share_pub⟩
  hd := fun i d h1 h2 => let ⟨p, e, r⟩ := E.hd i d h1 h2; ⟨p, e, r.shared (fun z => nomatch z)⟩
  new := fun a q1 q2 => by
    unfold shr at q1 q2
    split at q1
    · exact absurd rfl q1
    · rename_i h
      rw [if_neg h] at q2
      exact E.new a q1 q2
  same := E.same
  tmp := fun q hq => (E.tmp q hq).mono share_pub
  bown := fun a h => by
    have q := E.bown a h
    unfold shr
    rw [if_neg (by rw [q]; exact fun z => nomatch z), q]
  b0 := E.b0
end
/-- what is new is a value -/
theorem PF.pv {X : Cx} {B : Bd} {W : WX} {fl : List Bool} {e : Expr} {f : ValF} (h : PF X B W fl e f) : PV X B W fl e (fun ρ => match f ρ with
  | .ok d ρ' => if noRnd d then .ok d ρ' else .no
  | r => r) := ⟨PE.weaken h.pe fun σ H Q ⟨ρ, T, E, q⟩ => ⟨ρ, T, E, by
    dsimp only at q
    cases e : f ρ with
    | ok d ρ' =>
      rw [e] at q
      dsimp only at q ⊢
      by_cases hd : noRnd d = true
      · rw [if_pos hd] at q
        intro p H' ow E' o
        exact q _ _ ⟨_, E'.shareTmp.push (o.rep hd)⟩
      · rw [if_neg hd] at q
        exact q.elim
    | ex x ρ' => rw [e] at q; exact q
    | no => rw [e] at q; exact q⟩⟩
end Pv

/-! Pv1: operands, operations of one and of two operands, tests, constants. -/
noncomputable section
namespace Pv
open PySem PySem.Spec L2
open PyProof.Rows hiding St

/-! ### results, one behind another -/
def ERes.bind (r : ERes) (k : D → Env → ERes) : ERes := match r with
  | .ok d ρ => k d ρ
  | .ex x ρ => .ex x ρ
  | .no => .no
def ofO (o : Option D) (ρ : Env) : ERes := match o with
  | some d => .ok d ρ
  | none => .no
def look (ρ : Env) (i : Nat) (k : D → ERes) : ERes := match ρ[i]? with
  | some (some d) => k d
  | _ => .no

/-! ### what is read: a value, or the object in a slot as it then stands -/
inductive BRep (K : PySem.W.Frag) (h : Hp) (H : Hp) : D → V → Prop
  | val {d : D} {v : V} : Rep K h d v → BRep K h H d v
  | lst {a : Addr} {ds : List D} {vs : List V} : H a = some (.lst vs) → Reps K h ds vs → BRep K h H (.lst ds) (.ref a)
  | dik {a : Addr} {kvs : List (Key × D)} {ks : List (Key × V)} : Rd H a (.dK ks) → ks.map (·.1) = kvs.map (·.1) → Reps K h (kvs.map (·.2)) (ks.map (·.2)) → BRep K h H (.dik kvs) (.ref a)
  | dit {a : Addr} {kvs : List (List Key × D)} {ks : List (List Key × V)} : Rd H a (.dT ks) → ks.map (·.1) = kvs.map (·.1) → Reps K h (kvs.map (·.2)) (ks.map (·.2)) → BRep K h H (.dit kvs) (.ref a)
  | ins {a C dx : Addr} {fs : List (Str × D)} {gs : List (Str × V)} : H a = some (.ins C dx gs) → gs.map (·.1) = fs.map (·.1) → Reps K h (fs.map (·.2)) (gs.map (·.2)) → BRep K h H (.ins C fs) (.ref a)
  | rnd {a la : Addr} {s : Int} {cs : List Int} {i : Int} : BRep K h H (.rnd la s cs i) (.ref a)
  | dil {a : Addr} {kvs : List (Key × List D)} : BRep K h H (.dil kvs) (.ref a)
  | lol {a : Addr} {xs : List (List D)} : BRep K h H (.lol xs) (.ref a)
  | ino {a C dx la : Addr} {fs : List (Str × D)} {gs : List (Str × V)} {f : Str} {xs : List D} : H a = some (.ins C dx gs) → FRep K h f la fs gs → BRep K h H (.ino C fs f xs) (.ref a)
section
variable {K : PySem.W.Frag} {h H : Hp}
theorem BRep.lstE {ds : List D} {v : V} (b : BRep K h H (.lst ds) v) (s : Same h H) : ∃ a vs, v = .ref a ∧ H a = some (.lst vs) ∧ Reps K h ds vs := by
  cases b with
  | val r => cases r with | lst e q => exact ⟨_, _, rfl, s _ _ e, q⟩
  | lst e q => exact ⟨_, _, rfl, e, q⟩
theorem BRep.dikE {kvs : List (Key × D)} {v : V} (b : BRep K h H (.dik kvs) v) (s : Same h H) : ∃ a ks, v = .ref a ∧ Rd H a (.dK ks) ∧ ks.map (·.1) = kvs.map (·.1) ∧ Reps K h (kvs.map (·.2)) (ks.map (·.2)) := by
  cases b with
  | val r => cases r with | dik e k q => exact ⟨_, _, rfl, same_rd s e, k, q⟩
  | dik e k q => exact ⟨_, _, rfl, e, k, q⟩
theorem BRep.ditE {kvs : List (List Key × D)} {v : V} (b : BRep K h H (.dit kvs) v) (s : Same h H) : ∃ a ks, v = .ref a ∧ Rd H a (.dT ks) ∧ ks.map (·.1) = kvs.map (·.1) ∧ Reps K h (kvs.map (·.2)) (ks.map (·.2)) := by
  cases b with
  | val r => cases r with | dit e k q => exact ⟨_, _, rfl, same_rd s e, k, q⟩
  | dit e k q => exact ⟨_, _, rfl, e, k, q⟩
theorem BRep.insE {C : Addr} {fs : List (Str × D)} {v : V} (b : BRep K h H (.ins C fs) v) (s : Same h H) : ∃ a dx gs, v = .ref a ∧ H a = some (.ins C dx gs) ∧ gs.map (·.1) = fs.map (·.1) ∧ Reps K h (fs.map (·.2)) (gs.map (·.2)) := by
  cases b with
  | val r => cases r with | ins e k q => exact ⟨_, _, _, rfl, s _ _ e, k, q⟩
  | ins e k q => exact ⟨_, _, _, rfl, e, k, q⟩
theorem BRep.tupE {ds : List D} {v : V} (b : BRep K h H (.tup ds) v) (s : Same h H) : ∃ a vs, v = .ref a ∧ H a = some (.tup vs) ∧ Reps K h ds vs := by
  cases b with | val r => cases r with | tup e q => exact ⟨_, _, rfl, s _ _ e, q⟩
theorem BRep.intE {i : Int} {v : V} (b : BRep K h H (.int i) v) : v = .int i := by
  cases b with | val r => cases r; rfl
theorem BRep.blE {i : Bool} {v : V} (b : BRep K h H (.bl i) v) : v = .bl i := by
  cases b with | val r => cases r; rfl
theorem BRep.strE {i : List Nat} {v : V} (b : BRep K h H (.str i) v) : v = .str ⟨i.toArray⟩ := by
  cases b with | val r => cases r; rfl
theorem BRep.nonE {v : V} (b : BRep K h H .non v) : v = .non := by
  cases b with | val r => cases r; rfl
end
theorem OwnAt.brep {K : PySem.W.Frag} {H : Hp} {ow : Addr → Ow} {w : Ow} {p : Addr} {d : D} (h : OwnAt K H ow w p d) : BRep K (pubH ow H) H d (.ref p) := by
  cases d with
  | lst ds => obtain ⟨e, vs, h1, h2⟩ := h; exact .lst h1 h2
  | dik kvs => obtain ⟨e, ks, h1, h2, h3⟩ := h; exact .dik (.inl h1) h2 h3
  | dit kvs => obtain ⟨e, ks, h1, h2, h3⟩ := h; exact .dit (.inl h1) h2 h3
  | dil kvs => exact .dil
  | lol kvs => exact .lol
  | ino C fs f xs => obtain ⟨e, dx, gs, la, vs, h1, h2, h3, h4, h5, h6⟩ := h; exact .ino h1 h6
  | ins C fs => obtain ⟨e, dx, gs, h1, h2, h3⟩ := h; exact .ins h1 h2 h3
  | rnd la s' cs i => exact .rnd
  | _ => exact h.elim
theorem ERo.peek {K : PySem.W.Frag} {B : Bd} {fl : List Bool} {ow : Addr → Ow} {σ : St} {H : Hp} {ρ : Env} {T : List (D × V)} (E : ERo K B fl ow σ H ρ T) {i : Nat} {d : D} (h : ρ[i]? = some (some d)) :
    ∃ v, σ[i]? = some (some v) ∧ BRep K (pubH ow H) H d v := by
  by_cases q : fl[i]? = some true
  · obtain ⟨p, e, o⟩ := E.hd i d h q
    exact ⟨_, e, o.brep⟩
  · obtain ⟨v, e, r⟩ := E.sh i d h q
    exact ⟨v, e, .val r⟩

inductive Opd where
  | v (f : ValF) | s (i : Nat)
def EvO (K : PySem.W.Frag) (B : Bd) (W : WX) (fl : List Bool) : Opd → TE
  | .v f => EvT K B W fl f
  | .s i => tVar i
structure POp (X : Cx) (B : Bd) (W : WX) (fl : List Bool) (e : Expr) (o : Opd) : Prop where
  pe : PE X e (EvO X.K B W fl o)

/-! ### operations that read and give a value -/
/-- what is new behind H -/
def Op2 (K : PySem.W.Frag) (r : R2) (g : D → D → Option D) : Prop := ∀ (N : Addr → Prop) (H : Hp) (x y : D) (v w : V) (z : D) (Q : VK), (∀ a, N a → H a ≠ none) → BRep K (hide N H) H x v → BRep K (hide N H) H y w → g x y = some z →
  (∀ u H', Same H H' → Rep K (hide N H') z u → Q u H') → r v w H Q
def Op1 (K : PySem.W.Frag) (r : V → Hp → VK → Prop) (g : D → Option D) : Prop := ∀ (N : Addr → Prop) (H : Hp) (x : D) (v : V) (z : D) (Q : VK), (∀ a, N a → H a ≠ none) → BRep K (hide N H) H x v → g x = some z →
  (∀ u H', Same H H' → Rep K (hide N H') z u → Q u H') → r v H Q
/-- .. a new object -/
def FreshAt (K : PySem.W.Frag) (N : Addr → Prop) (H : Hp) (p : Addr) : D → Prop
  | .lst ds => ∃ vs, H p = some (.lst vs) ∧ Reps K (hide (fun a => N a ∨ a = p) H) ds vs
  | .dik kvs => ∃ ks, H p = some (.dK ks) ∧ ks.map (·.1) = kvs.map (·.1) ∧ Reps K (hide (fun a => N a ∨ a = p) H) (kvs.map (·.2)) (ks.map (·.2))
  | .dit kvs => ∃ ks, H p = some (.dT ks) ∧ ks.map (·.1) = kvs.map (·.1) ∧ Reps K (hide (fun a => N a ∨ a = p) H) (kvs.map (·.2)) (ks.map (·.2))
  | _ => False
def Op2F (K : PySem.W.Frag) (r : R2) (g : D → D → Option D) : Prop := ∀ (N : Addr → Prop) (H : Hp) (x y : D) (v w : V) (z : D) (Q : VK), (∀ a, N a → H a ≠ none) → BRep K (hide N H) H x v → BRep K (hide N H) H y w → g x y = some z →
  (∀ p H', H p = none → Same H H' → FreshAt K N H' p z → Q (.ref p) H') → r v w H Q
def Op1F (K : PySem.W.Frag) (r : V → Hp → VK → Prop) (g : D → Option D) : Prop := ∀ (N : Addr → Prop) (H : Hp) (x : D) (v : V) (z : D) (Q : VK), (∀ a, N a → H a ≠ none) → BRep K (hide N H) H x v → g x = some z →
  (∀ p H', H p = none → Same H H' → FreshAt K N H' p z → Q (.ref p) H') → r v H Q
theorem FreshAt.rep {K : PySem.W.Frag} {N : Addr → Prop} {H : Hp} {p : Addr} {d : D} (h : FreshAt K N H p d) (hp : ¬ N p) : Rep K (hide N H) d (.ref p) := by
  have s : Same (hide (fun a => N a ∨ a = p) H) (hide N H) := hide_same (Same.refl _) fun a q _ => .inl q
  cases d with
  | lst ds => obtain ⟨vs, h1, h2⟩ := h; exact .lst (hide_some.mpr ⟨hp, h1⟩) (h2.mono s)
  | dik kvs => obtain ⟨ks, h1, h2, h3⟩ := h; exact .dik (.inl (hide_some.mpr ⟨hp, h1⟩)) h2 (h3.mono s)
  | dit kvs => obtain ⟨ks, h1, h2, h3⟩ := h; exact .dit (.inl (hide_some.mpr ⟨hp, h1⟩)) h2 (h3.mono s)
  | _ => exact h.elim
theorem Op2F.val {K : PySem.W.Frag} {r : R2} {g : D → D → Option D} (h : Op2F K r g) : Op2 K r g := fun N H x y v w z Q hN bx hy e q =>
  h N H x y v w z Q hN bx hy e fun p H' hp s f => q _ _ s (f.rep fun n => hN p n hp)
theorem Op1F.val {K : PySem.W.Frag} {r : V → Hp → VK → Prop} {g : D → Option D} (h : Op1F K r g) : Op1 K r g := fun N H x v z Q hN bx e q =>
  h N H x v z Q hN bx e fun p H' hp s f => q _ _ s (f.rep fun n => hN p n hp)

/-! ### both operands, then the operation -/
def opd1 (o : Opd) (g : D → Env → ERes) : ValF := match o with
  | .v f => fun ρ => (f ρ).bind g
  | .s i => fun ρ => look ρ i fun x => g x ρ
def opd2 (o o' : Opd) (g : D → D → Env → ERes) : ValF := match o, o' with
  | .v f, .v f' => fun ρ => (f ρ).bind fun x ρ1 => (f' ρ1).bind fun y ρ2 => g x y ρ2
  | .v f, .s j => fun ρ => (f ρ).bind fun x ρ1 => look ρ1 j fun y => g x y ρ1
  | .s i, .v f' => fun ρ => look ρ i fun _ => (f' ρ).bind fun y ρ1 => look ρ1 i fun x => g x y ρ1
  | .s i, .s j => fun ρ => look ρ i fun x => look ρ j fun y => g x y ρ
def un1 (o : Opd) (g : D → Option D) : ValF := opd1 o fun x => ofO (g x)
def bin2 (o o' : Opd) (g : D → D → Option D) : ValF := opd2 o o' fun x y => ofO (g x y)

/-- what is known of an end -/
def Post (K : PySem.W.Frag) (B : Bd) (W : WX) (fl : List Bool) (σ : St) (T : List (D × V)) (Q : D → Env → (Addr → Ow) → Hp → Prop) : ERes → Prop
  | .ok d ρ' => ∀ H' ow, ERo K B fl ow σ H' ρ' T → Q d ρ' ow H'
  | .ex x ρ' => ∀ dx H', ER K B fl σ H' ρ' T → XOk x H' dx → W (.ref x.cls) dx σ H'
  | .no => False
section
variable {X : Cx} {B : Bd} {W : WX} {fl : List Bool}
/-- an operand is asked; then a statement about what it is, at an end that has run from there -/
theorem evO1 {K : PySem.W.Frag} {o : Opd} {g : D → Env → ERes} {σ : St} {H : Hp} {ρ : Env} {T : List (D × V)} {R : V → Hp → Prop} (E : ER K B fl σ H ρ T)
    (hn : opd1 o g ρ ≠ .no)
    (hx : ∀ x ρ', opd1 o g ρ = .ex x ρ' → ∀ dx H', ER K B fl σ H' ρ' T → XOk x H' dx → W (.ref x.cls) dx σ H')
    (hR : ∀ (ow : Addr → Ow) (v : V) (H' : Hp) (d : D) (ρ' : Env), opd1 o g ρ = g d ρ' → ERo K B fl ow σ H' ρ' T → BRep K (pubH ow H') H' d v → R v H') : EvO K B W fl o σ H R := by
  cases o with
  | v f =>
    show EvT K B W fl f σ H R
    have hn : (f ρ).bind g ≠ .no := hn
    refine ⟨ρ, T, E, ?_⟩
    cases e : f ρ with
    | ok d ρ' =>
      intro v H' ⟨ow, E'⟩
      exact hR ow v H' d ρ' (show (f ρ).bind g = _ by rw [e]; rfl) E'.drop (.val E'.top)
    | ex x ρ' => exact hx x ρ' (show (f ρ).bind g = _ by rw [e]; rfl)
    | no => exact hn (by rw [e]; rfl)
  | s i =>
    show tVar i σ H R
    obtain ⟨ow, E⟩ := E
    have hn : look ρ i (fun x => g x ρ) ≠ .no := hn
    cases e : ρ[i]? with
    | none => exact absurd (by unfold look; rw [e]) hn
    | some r =>
      cases r with
      | none => exact absurd (by unfold look; rw [e]) hn
      | some d =>
        obtain ⟨v, hv, b⟩ := E.peek e
        exact ⟨v, hv, hR ow v H d ρ (by show look ρ i (fun x => g x ρ) = _; unfold look; rw [e]) E b⟩
theorem evO2 {K : PySem.W.Frag} {o o' : Opd} {g : D → D → Env → ERes} {σ : St} {H : Hp} {ρ : Env} {T : List (D × V)} {R : V → V → Hp → Prop} (E : ER K B fl σ H ρ T)
    (hn : opd2 o o' g ρ ≠ .no)
    (hx : ∀ x ρ', opd2 o o' g ρ = .ex x ρ' → ∀ dx H', ER K B fl σ H' ρ' T → XOk x H' dx → W (.ref x.cls) dx σ H')
    (hR : ∀ (ow : Addr → Ow) (v w : V) (H' : Hp) (d d' : D) (ρ' : Env), opd2 o o' g ρ = g d d' ρ' → ERo K B fl ow σ H' ρ' T → BRep K (pubH ow H') H' d v → BRep K (pubH ow H') H' d' w → R v w H') :
    EvO K B W fl o σ H fun v H1 => EvO K B W fl o' σ H1 fun w H2 => R v w H2 := by
  cases o with
  | v f =>
    refine ⟨ρ, T, E, ?_⟩
    cases e : f ρ with
    | ok d ρ1 =>
      intro v H1 E1
      have e0 : opd2 (.v f) o' g ρ = opd1 o' (g d) ρ1 := by
        cases o' with
        | v f' => show ((f ρ).bind fun x ρ1 => (f' ρ1).bind fun y ρ2 => g x y ρ2) = _; rw [e]; rfl
        | s j => show ((f ρ).bind fun x ρ1 => look ρ1 j fun y => g x y ρ1) = _; rw [e]; rfl
      rw [e0] at hn hx hR
      refine evO1 (W := W) E1 hn (fun x ρ' q dx H' E' => hx x ρ' q dx H' (E'.sub fun q hq => List.mem_cons_of_mem _ hq)) fun ow w H' d' ρ' q E' b => ?_
      exact hR ow v w H' d d' ρ' q E'.drop (.val E'.top) b
    | ex x ρ' => exact hx x ρ' (by cases o' <;> (show ((f ρ).bind _) = _; rw [e]; rfl))
    | no => exact hn (by cases o' <;> (show ((f ρ).bind _) = _; rw [e]; rfl))
  | s i =>
    cases e : ρ[i]? with
    | none => exact absurd (by cases o' <;> (show look ρ i _ = _; unfold look; rw [e])) hn
    | some r =>
      cases r with
      | none => exact absurd (by cases o' <;> (show look ρ i _ = _; unfold look; rw [e])) hn
      | some d =>
        have E0 := E
        obtain ⟨ow, E⟩ := E
        obtain ⟨v, hv, b⟩ := E.peek e
        refine ⟨v, hv, ?_⟩
        cases o' with
        | v f' =>
          have e0 : opd2 (.s i) (.v f') g ρ = opd1 (.v f') (fun y ρ1 => look ρ1 i fun x => g x y ρ1) ρ := by
            show look ρ i _ = _; unfold look; rw [e]; rfl
          rw [e0] at hn hx hR
          refine evO1 (W := W) E0 hn hx fun ow' w H' d' ρ' q E' b' => ?_
          rw [q] at hn hR
          cases e' : ρ'[i]? with
          | none => exact absurd (by unfold look; rw [e']) hn
          | some r' =>
            cases r' with
            | none => exact absurd (by unfold look; rw [e']) hn
            | some d1 =>
              obtain ⟨v', hv', b1⟩ := E'.peek e'
              rw [hv] at hv'; cases hv'
              exact hR ow' v w H' d1 d' ρ' (by unfold look; rw [e']) E' b1 b'
        | s j =>
          have e0 : opd2 (.s i) (.s j) g ρ = opd1 (.s j) (fun y ρ => g d y ρ) ρ := by
            show look ρ i (fun x => look ρ j fun y => g x y ρ) = look ρ j fun y => g d y ρ
            unfold look; rw [e]
          rw [e0] at hn hx hR
          show tVar j σ H _
          cases e' : ρ[j]? with
          | none => exact absurd (by show look ρ j _ = _; unfold look; rw [e']) hn
          | some r' =>
            cases r' with
            | none => exact absurd (by show look ρ j _ = _; unfold look; rw [e']) hn
            | some d' =>
              obtain ⟨w, hw, b'⟩ := E.peek e'
              exact ⟨w, hw, hR ow v w H d d' ρ (by show look ρ j _ = _; unfold look; rw [e']) E b b'⟩
end
theorem evT_no {K : PySem.W.Frag} {B : Bd} {W : WX} {fl : List Bool} {f : ValF} {ρ : Env} {σ : St} {Q : VK} {T : List (D × V)} (q : match f ρ with
  | .ok d ρ' => ∀ v H', ER K B fl σ H' ρ' ((d, v) :: T) → Q v H'
  | .ex x ρ' => ∀ dx H', ER K B fl σ H' ρ' T → XOk x H' dx → W (.ref x.cls) dx σ H'
  | .no => False) : f ρ ≠ .no ∧ (∀ x ρ', f ρ = .ex x ρ' → ∀ dx H', ER K B fl σ H' ρ' T → XOk x H' dx → W (.ref x.cls) dx σ H') ∧ ∀ d ρ', f ρ = .ok d ρ' → ∀ v H', ER K B fl σ H' ρ' ((d, v) :: T) → Q v H' := by
  cases e : f ρ with
  | ok d ρ' => rw [e] at q; exact ⟨fun z => (nomatch z), fun _ _ z => (nomatch z), fun _ _ z => by cases z; exact q⟩
  | ex x ρ' => rw [e] at q; exact ⟨fun z => (nomatch z), fun _ _ z => by cases z; exact q, fun _ _ z => nomatch z⟩
  | no => rw [e] at q; exact q.elim
theorem evF_no {K : PySem.W.Frag} {B : Bd} {W : WX} {fl : List Bool} {f : ValF} {ρ : Env} {σ : St} {Q : VK} {T : List (D × V)} (q : match f ρ with
  | .ok d ρ' => ∀ p H' ow, ERo K B fl ow σ H' ρ' T → OwnAt K H' ow .tmp p d → Q (.ref p) H'
  | .ex x ρ' => ∀ dx H', ER K B fl σ H' ρ' T → XOk x H' dx → W (.ref x.cls) dx σ H'
  | .no => False) : f ρ ≠ .no ∧ (∀ x ρ', f ρ = .ex x ρ' → ∀ dx H', ER K B fl σ H' ρ' T → XOk x H' dx → W (.ref x.cls) dx σ H') ∧ ∀ d ρ', f ρ = .ok d ρ' → ∀ p H' ow, ERo K B fl ow σ H' ρ' T → OwnAt K H' ow .tmp p d → Q (.ref p) H' := by
  cases e : f ρ with
  | ok d ρ' => rw [e] at q; exact ⟨fun z => (nomatch z), fun _ _ z => (nomatch z), fun _ _ z => by cases z; exact q⟩
  | ex x ρ' => rw [e] at q; exact ⟨fun z => (nomatch z), fun _ _ z => by cases z; exact q, fun _ _ z => nomatch z⟩
  | no => rw [e] at q; exact q.elim
theorem ofO_ok {o : Option D} {ρ ρ' : Env} {d : D} (h : ofO o ρ = .ok d ρ') : o = some d ∧ ρ' = ρ := by
  cases o with
  | none => cases h
  | some z => cases h; exact ⟨rfl, rfl⟩
theorem ofO_ne {o : Option D} {ρ : Env} (h : ofO o ρ ≠ .no) : ∃ d, o = some d := by
  cases o with
  | none => exact absurd rfl h
  | some z => exact ⟨z, rfl⟩
section
variable {K : PySem.W.Frag} {B : Bd} {W : WX} {fl : List Bool} {σ : St} {H : Hp}
theorem Op2.w {r : R2} {g : D → D → Option D} (hg : Op2 K r g) {o o' : Opd} {Q : VK} (h : EvT K B W fl (bin2 o o' g) σ H Q) : tOp r (EvO K B W fl o) (EvO K B W fl o') σ H Q := by
  obtain ⟨ρ, T, E, q⟩ := h
  obtain ⟨hn, hx, hk⟩ := evT_no q
  refine evO2 (g := fun x y => ofO (g x y)) (R := fun v w H2 => r v w H2 Q) E hn hx fun ow v w H' d d' ρ' e E' b b' => ?_
  have e1 : bin2 o o' g ρ = ofO (g d d') ρ' := e
  rw [e1] at hn hk
  obtain ⟨z, hz⟩ := ofO_ne hn
  refine hg (fun a => ow a ≠ .pub) H' d d' v w z Q E'.live b b' hz fun u H'' s r => ?_
  exact hk z ρ' (by rw [hz]; rfl) u H'' ⟨ow, (E'.mono s).push r⟩
theorem Op1.w {r : V → Hp → VK → Prop} {g : D → Option D} (hg : Op1 K r g) {o : Opd} {Q : VK} (h : EvT K B W fl (un1 o g) σ H Q) : tUn r (EvO K B W fl o) σ H Q := by
  obtain ⟨ρ, T, E, q⟩ := h
  obtain ⟨hn, hx, hk⟩ := evT_no q
  refine evO1 (g := fun x => ofO (g x)) (R := fun v H2 => r v H2 Q) E hn hx fun ow v H' d ρ' e E' b => ?_
  have e1 : un1 o g ρ = ofO (g d) ρ' := e
  rw [e1] at hn hk
  obtain ⟨z, hz⟩ := ofO_ne hn
  refine hg (fun a => ow a ≠ .pub) H' d v z Q E'.live b hz fun u H'' s r => ?_
  exact hk z ρ' (by rw [hz]; rfl) u H'' ⟨ow, (E'.mono s).push r⟩
/-- a new object is held for a moment -/
theorem ERo.holdW {ow : Addr → Ow} {H' : Hp} {ρ : Env} {T : List (D × V)} {w : Ow} (w1 : w ≠ .pub) (E : ERo K B fl ow σ H ρ T) {p : Addr} {d : D} (hp : H p = none) (s : Same H H') (f : FreshAt K (fun a => ow a ≠ .pub) H' p d) :
    ERo K B fl (setOw ow p w) σ H' ρ T ∧ OwnAt K H' (setOw ow p w) w p d := by
  have e0 : ow p = .pub := E.fresh hp
  have Hp' : H' p ≠ none := by cases d with
    | lst ds => obtain ⟨vs, h1, _⟩ := f; rw [h1]; exact fun z => nomatch z
    | dik ds => obtain ⟨vs, h1, _⟩ := f; rw [h1]; exact fun z => nomatch z
    | dit ds => obtain ⟨vs, h1, _⟩ := f; rw [h1]; exact fun z => nomatch z
    | _ => exact f.elim
  have sp : Same (pubH ow H) (pubH (setOw ow p w) H') := fun a o e => by
    obtain ⟨e1, e2⟩ := hide_some.mp e
    have ne : a ≠ p := ne_of_none e2 hp
    exact hide_some.mpr ⟨fun z => e1 (by rw [setOw_ne ne] at z; exact z), s a o e2⟩
  have sf : Same (hide (fun a => ow a ≠ .pub ∨ a = p) H') (pubH (setOw ow p w) H') := hide_same (Same.refl _) fun a q _ => by
    by_cases ne : a = p
    · exact .inr ne
    · rw [setOw_ne ne] at q; exact .inl q
  have own : ∀ {who : Ow} {q : Addr} {d : D}, who ≠ .pub → OwnAt K H ow who q d → OwnAt K H' (setOw ow p w) who q d := fun {who q d} hw o => by
    have k : ∀ a, ow a = who → setOw ow p w a = who := fun a e => by
      rw [setOw_ne (fun z => by rw [z, e0] at e; exact hw e.symm), e]
    exact o.gen (fun a o _ e => s a o e) sp k
  have ntp : ∀ vs, H' p ≠ some (.tup vs) := fun vs => by cases d with
    | lst ds => obtain ⟨vs, h1, _⟩ := f; rw [h1]; exact fun z => nomatch z
    | dik ds => obtain ⟨vs, h1, _⟩ := f; rw [h1]; exact fun z => nomatch z
    | dit ds => obtain ⟨vs, h1, _⟩ := f; rw [h1]; exact fun z => nomatch z
    | _ => exact f.elim
  have ntE := (E.mono s).nt
  refine ⟨⟨E.len, E.fll, fun a h => ?_, fun a q z => ?_, fun a vs h => (by
    have ne : a ≠ p := fun z => ntp vs (by rw [← z]; exact h)
    rw [setOw_ne ne]; exact ntE a vs h), fun i d h1 h2 => ?_, fun i d h1 h2 => ?_, fun a q1 q2 => ?_, fun a o h1 h2 => s a o (E.same a o h1 h2), fun q hq => (E.tmp q hq).mono sp, fun a h => ?_, E.b0⟩, ?_⟩
  · have q := E.frame a h
    rw [setOw_ne (fun z => by rw [z, e0] at q; cases q)]; exact q
  · by_cases ne : a = p
    · rw [ne] at z; exact Hp' z
    · rw [setOw_ne ne] at q
      cases e : H a with
      | none => exact E.live a q e
      | some o => rw [s a o e] at z; cases z
  · obtain ⟨v, e, r⟩ := E.sh i d h1 h2; exact ⟨v, e, r.mono sp⟩
  · obtain ⟨q, e, r⟩ := E.hd i d h1 h2; exact ⟨q, e, own (fun z => nomatch z) r⟩
  · by_cases ne : a = p
    · rw [ne]
      by_cases hb : p ∈ B.bor
      · exact .inr hb
      · left
        cases e : B.H0 p with
        | none => rfl
        | some o => rw [E.same p o e hb] at hp; cases hp
    · rw [setOw_ne ne] at q1 q2; exact E.new a q1 q2
  · have q := E.bown a h
    rw [setOw_ne (fun z => by rw [z, e0] at q; cases q)]; exact q
  · cases d with
    | lst ds => obtain ⟨vs, h1, h2⟩ := f; exact ⟨setOw_same, vs, h1, h2.mono sf⟩
    | dik kvs => obtain ⟨ks, h1, h2, h3⟩ := f; exact ⟨setOw_same, ks, h1, h2, h3.mono sf⟩
    | dit kvs => obtain ⟨ks, h1, h2, h3⟩ := f; exact ⟨setOw_same, ks, h1, h2, h3.mono sf⟩
    | _ => exact f.elim
theorem ERo.hold {ow : Addr → Ow} {H' : Hp} {ρ : Env} {T : List (D × V)} (E : ERo K B fl ow σ H ρ T) {p : Addr} {d : D} (hp : H p = none) (s : Same H H') (f : FreshAt K (fun a => ow a ≠ .pub) H' p d) :
    ERo K B fl (setOw ow p .tmp) σ H' ρ T ∧ OwnAt K H' (setOw ow p .tmp) .tmp p d := ERo.holdW (w := .tmp) (fun z => nomatch z) E hp s f
theorem Op2F.w {r : R2} {g : D → D → Option D} (hg : Op2F K r g) {o o' : Opd} {Q : VK} (h : EvF K B W fl (bin2 o o' g) σ H Q) : tOp r (EvO K B W fl o) (EvO K B W fl o') σ H Q := by
  obtain ⟨ρ, T, E, q⟩ := h
  obtain ⟨hn, hx, hk⟩ := evF_no q
  refine evO2 (g := fun x y => ofO (g x y)) (R := fun v w H2 => r v w H2 Q) E hn hx fun ow v w H' d d' ρ' e E' b b' => ?_
  have e1 : bin2 o o' g ρ = ofO (g d d') ρ' := e
  rw [e1] at hn hk
  obtain ⟨z, hz⟩ := ofO_ne hn
  refine hg (fun a => ow a ≠ .pub) H' d d' v w z Q E'.live b b' hz fun p H'' hp s f => ?_
  obtain ⟨E2, o2⟩ := E'.hold hp s f
  exact hk z ρ' (by rw [hz]; rfl) p H'' _ E2 o2
theorem Op1F.w {r : V → Hp → VK → Prop} {g : D → Option D} (hg : Op1F K r g) {o : Opd} {Q : VK} (h : EvF K B W fl (un1 o g) σ H Q) : tUn r (EvO K B W fl o) σ H Q := by
  obtain ⟨ρ, T, E, q⟩ := h
  obtain ⟨hn, hx, hk⟩ := evF_no q
  refine evO1 (g := fun x => ofO (g x)) (R := fun v H2 => r v H2 Q) E hn hx fun ow v H' d ρ' e E' b => ?_
  have e1 : un1 o g ρ = ofO (g d) ρ' := e
  rw [e1] at hn hk
  obtain ⟨z, hz⟩ := ofO_ne hn
  refine hg (fun a => ow a ≠ .pub) H' d v z Q E'.live b hz fun p H'' hp s f => ?_
  obtain ⟨E2, o2⟩ := E'.hold hp s f
  exact hk z ρ' (by rw [hz]; rfl) p H'' _ E2 o2
end
end Pv

/-! Pv2: the operations. -/
noncomputable section
namespace Pv
open PySem PySem.Spec L2
open PyProof.Rows hiding St

abbrev lim : Nat := 1000000
theorem lim_line {n : Nat} (h : n ≤ lim) : n ≤ sizeLine := by rw [sizeLine_eq]; unfold lim at h; omega
theorem lim_lt {n : Nat} (h : n ≤ lim) : n < sizeLine := by rw [sizeLine_eq]; unfold lim at h; omega
theorem str_len (x : List Nat) : (⟨x.toArray⟩ : Str).length = x.length := by simp [Str.length]
theorem str_app (x y : List Nat) : (⟨x.toArray⟩ : Str) ++ ⟨y.toArray⟩ = ⟨(x ++ y).toArray⟩ := by
  show (⟨x.toArray ++ y.toArray⟩ : Str) = _
  simp
theorem str_cps (x : List Nat) : (⟨x.toArray⟩ : Str).cps.toList = x := by simp
theorem str_inj {x y : List Nat} (h : (⟨x.toArray⟩ : Str) = ⟨y.toArray⟩) : x = y := by
  have := congrArg (fun z : Str => z.cps.toList) h
  simpa using this

section
variable {K : PySem.W.Frag}
theorem Op2.orL {r r' : R2} {g : D → D → Option D} (h : Op2 K r g) : Op2 K (fun x y H Q => r x y H Q ∨ r' x y H Q) g := fun N H x y v w z Q a b c d e => .inl (h N H x y v w z Q a b c d e)
theorem Op2.orR {r r' : R2} {g : D → D → Option D} (h : Op2 K r' g) : Op2 K (fun x y H Q => r x y H Q ∨ r' x y H Q) g := fun N H x y v w z Q a b c d e => .inr (h N H x y v w z Q a b c d e)
/-- by cases: first where the first says something -/
def alt (g g' : D → D → Option D) : D → D → Option D := fun x y => match g x y with
  | some z => some z
  | none => g' x y
theorem Op2.alt {r r' : R2} {g g' : D → D → Option D} (h : Op2 K r g) (h' : Op2 K r' g') : Op2 K (fun x y H Q => r x y H Q ∨ r' x y H Q) (alt g g') := fun N H x y v w z Q a b c d e => by
  unfold Pv.alt at d
  cases q : g x y with
  | some z' => rw [q] at d; cases d; exact .inl (h N H x y v w _ Q a b c q e)
  | none => rw [q] at d; exact .inr (h' N H x y v w z Q a b c d e)
end

/-! ### + -/
def addI : D → D → Option D
  | .int i, .int j => some (.int (i + j))
  | _, _ => none
def addS : D → D → Option D
  | .str x, .str y => if x.length + y.length ≤ lim then some (.str (x ++ y)) else none
  | _, _ => none
def addL : D → D → Option D
  | .lst x, .lst y => if x.length + y.length ≤ lim then some (.lst (x ++ y)) else none
  | _, _ => none
def addT : D → D → Option D
  | .tup x, .tup y => if x.length + y.length ≤ lim then some (.tup (x ++ y)) else none
  | _, _ => none
section
variable {K : PySem.W.Frag}
theorem op2I {g : Int → Int → D} {f : Int → Int → V} (hf : ∀ (h : Hp) i j, Rep K h (g i j) (f i j)) : Op2 K (rI0 f) (fun x y => match x, y with
  | .int i, .int j => some (g i j)
  | _, _ => none) := by
  intro N H x y v w z Q hN bx hy e q
  cases x with
  | int i => cases y with
    | int j =>
      cases e
      cases bx.intE
      cases hy.intE
      exact ⟨i, j, rfl, rfl, q _ H (Same.refl H) (hf _ i j)⟩
    | _ => cases e
  | _ => cases e
theorem o_addI : Op2 K (rI0 fun i j => .int (i + j)) addI := by
  have := op2I (K := K) (g := fun i j => .int (i + j)) (f := fun i j => .int (i + j)) fun _ i j => .int _
  intro N H x y v w z Q hN bx hy e q
  refine this N H x y v w z Q hN bx hy ?_ q
  rw [← e]; cases x <;> cases y <;> rfl
theorem o_addS : Op2 K (fun x y H Q => ∃ i j, x = .str i ∧ y = .str j ∧ i.length + j.length ≤ sizeLine ∧ Q (.str (i ++ j)) H) addS := by
  intro N H x y v w z Q hN bx hy e q
  cases x with
  | str i => cases y with
    | str j =>
      unfold addS at e
      by_cases c : i.length + j.length ≤ lim
      · dsimp only at e
        rw [if_pos c] at e; cases e
        cases bx.strE
        cases hy.strE
        refine ⟨_, _, rfl, rfl, by rw [str_len, str_len]; exact lim_line c, ?_⟩
        rw [str_app]
        exact q _ H (Same.refl H) (.str _)
      · dsimp only at e
        rw [if_neg c] at e; cases e
    | _ => cases e
  | _ => cases e
theorem o_addLF : Op2F K rCat addL := by
  intro N H x y v w z Q hN bx hy e q
  cases x with
  | lst i => cases y with
    | lst j =>
      unfold addL at e
      by_cases c : i.length + j.length ≤ lim
      · dsimp only at e
        rw [if_pos c] at e; cases e
        obtain ⟨a, vs, rfl, h1, h2⟩ := bx.lstE hide_sub
        obtain ⟨b, us, rfl, h3, h4⟩ := hy.lstE hide_sub
        refine ⟨a, b, vs, us, rfl, rfl, h1, h3, by rw [← h2.length, ← h4.length]; exact lim_line c, fun p hp => ?_⟩
        refine q p _ hp (same_new hp) ⟨vs ++ us, upd_same, ?_⟩
        exact (h2.append h4).mono (fun a o e => by
          obtain ⟨e1, e2⟩ := hide_some.mp e
          have ne := ne_of_none e2 hp
          exact hide_some.mpr ⟨fun z => z.elim e1 ne, by rw [upd_ne ne]; exact e2⟩)
      · dsimp only at e
        rw [if_neg c] at e; cases e
    | _ => cases e
  | _ => cases e
theorem fresh_sub {N : Addr → Prop} {H : Hp} {p : Addr} {o : HO} (hp : H p = none) : Same (hide N H) (hide (fun a => N a ∨ a = p) (upd H p o)) := fun a u e => by
  obtain ⟨e1, e2⟩ := hide_some.mp e
  have ne := ne_of_none e2 hp
  exact hide_some.mpr ⟨fun z => z.elim e1 ne, by rw [upd_ne ne]; exact e2⟩
theorem new_sub {N : Addr → Prop} {H : Hp} {p : Addr} {o : HO} (hp : H p = none) : Same (hide N H) (hide N (upd H p o)) := hide_same (same_new hp) fun _ q _ => q
theorem not_hid {N : Addr → Prop} {H : Hp} {p : Addr} (hN : ∀ a, N a → H a ≠ none) (hp : H p = none) : ¬ N p := fun n => hN p n hp
theorem o_addT : Op2 K (rCatA K) addT := by
  intro N H x y v w z Q hN bx hy e q
  cases x with
  | tup i => cases y with
    | tup j =>
      unfold addT at e
      by_cases c : i.length + j.length ≤ lim
      · dsimp only at e
        rw [if_pos c] at e; cases e
        have bx' := bx
        have hy' := hy
        obtain ⟨a, vs, rfl, h1, h2⟩ := bx.tupE hide_sub
        obtain ⟨b, us, rfl, h3, h4⟩ := hy.tupE hide_sub
        have l1 := h2.length
        have l2 := h4.length
        refine ⟨a, b, vs, us, rfl, rfl, SqT.of h1, SqT.of h3, by rw [← l1, ← l2]; exact lim_line c, fun z => ?_, fun z1 z2 => ?_, fun z1 z2 p hp => ?_⟩
        · have : i = [] := List.eq_nil_of_length_eq_zero (by rw [l1, z]; rfl)
          subst this
          refine q _ H (Same.refl H) ?_
          cases hy' with | val r => exact r
        · have : j = [] := List.eq_nil_of_length_eq_zero (by rw [l2, z2]; rfl)
          subst this
          refine q _ H (Same.refl H) ?_
          rw [List.append_nil]
          cases bx' with | val r => exact r
        · exact q _ _ (same_new hp) (.tup (hide_some.mpr ⟨not_hid hN hp, upd_same⟩) ((h2.append h4).mono (new_sub hp)))
      · dsimp only at e
        rw [if_neg c] at e; cases e
    | _ => cases e
  | _ => cases e
def addD : D → D → Option D := alt addI (alt addS (alt addL addT))
end
def rAddP (K : PySem.W.Frag) : R2 := fun x y H Q => (rI0 fun i j => .int (i + j)) x y H Q ∨ ((fun x y H Q => ∃ i j, x = .str i ∧ y = .str j ∧ i.length + j.length ≤ sizeLine ∧ Q (.str (i ++ j)) H) x y H Q ∨ (rCat x y H Q ∨ rCatA K x y H Q))
theorem o_add {K : PySem.W.Frag} : Op2 K (rAddP K) addD := o_addI.alt (o_addS.alt (o_addLF.val.alt o_addT))
theorem op_addP {X : Cx} : OpR X (binaryOp .Add) (rAddP X.K) := op_add.or (op_add_str.or (op_cat.or op_catA))
/-! ### - * // % ** -/
def subD : D → D → Option D
  | .int i, .int j => some (.int (i - j))
  | _, _ => none
theorem o_sub {K : PySem.W.Frag} : Op2 K (rI0 fun i j => .int (i - j)) subD := by
  have := op2I (K := K) (g := fun i j => .int (i - j)) (f := fun i j => .int (i - j)) fun _ i j => .int _
  intro N H x y v w z Q hN bx hy e q
  refine this N H x y v w z Q hN bx hy ?_ q
  rw [← e]; cases x <;> cases y <;> rfl
theorem op2C {K : PySem.W.Frag} {C : Int → Int → Prop} {c : Int → Int → Bool} {g : Int → Int → D} {f : Int → Int → V} (hc : ∀ i j, c i j = true → C i j) (hf : ∀ (h : Hp) i j, Rep K h (g i j) (f i j)) {G : D → D → Option D}
    (hG : ∀ x y z, G x y = some z → ∃ i j, x = .int i ∧ y = .int j ∧ c i j = true ∧ z = g i j) : Op2 K (rI C f) G := by
  intro N H x y v w z Q hN bx hy e q
  obtain ⟨i, j, rfl, rfl, h, rfl⟩ := hG x y z e
  cases bx.intE
  cases hy.intE
  exact ⟨i, j, rfl, rfl, hc i j h, q _ H (Same.refl H) (hf _ i j)⟩
def mulOk (i j : Int) : Bool := cdec ((-(2 ^ 64) < i ∧ i < 2 ^ 64) ∨ (-(2 ^ 64) < j ∧ j < 2 ^ 64) ∨ i.natAbs.log2 + j.natAbs.log2 < 1000000)
def mulI : D → D → Option D
  | .int i, .int j => if mulOk i j = true then some (.int (i * j)) else none
  | _, _ => none
def CMulA (i j : Int) : Prop := CMul i j ∨ CMulW i j
theorem op_mulA {X : Cx} : OpR X (binaryOp .Mult) (rI CMulA fun i j => .int (i * j)) := opI fun _ _ _ _ _ _ _ hc q => mul_int q (hc.elim CMul.ok CMulW.ok)
theorem o_mulI {K : PySem.W.Frag} : Op2 K (rI CMulA fun i j => .int (i * j)) mulI := op2C (c := mulOk) (g := fun i j => .int (i * j)) (fun i j h => by
    unfold mulOk at h
    rcases cdec_of h with h | h | h
    · exact .inl (.inl h)
    · exact .inl (.inr h)
    · exact .inr (show i.natAbs.log2 + j.natAbs.log2 < 1000000 from h)) (fun _ _ _ => .int _) fun x y z e => by
  unfold mulI at e
  split at e
  · split at e
    · rename_i i j h; cases e; exact ⟨i, j, rfl, rfl, h, rfl⟩
    · cases e
  · cases e
def fdivD : D → D → Option D
  | .int i, .int j => if cdec (0 < j ∧ j.natAbs.log2 < 9000) = true then some (.int (i / j)) else none
  | _, _ => none
theorem o_fdiv {K : PySem.W.Frag} : Op2 K (rI CDivW fun i j => .int (i / j)) fdivD := op2C (c := fun i j => cdec (0 < j ∧ j.natAbs.log2 < 9000)) (g := fun i j => .int (i / j)) (fun i j h => cdec_of h) (fun _ _ _ => .int _) fun x y z e => by
  unfold fdivD at e
  split at e
  · split at e
    · rename_i i j h; cases e; exact ⟨i, j, rfl, rfl, h, rfl⟩
    · cases e
  · cases e
def modD : D → D → Option D
  | .int i, .int j => if cdec (0 < j) = true then some (.int (i % j)) else none
  | _, _ => none
theorem o_mod {K : PySem.W.Frag} : Op2 K (rI (fun _ j => 0 < j) fun i j => .int (i % j)) modD := op2C (c := fun i j => cdec (0 < j)) (g := fun i j => .int (i % j)) (fun i j h => cdec_of h) (fun _ _ _ => .int _) fun x y z e => by
  unfold modD at e
  split at e
  · split at e
    · rename_i i j h; cases e; exact ⟨i, j, rfl, rfl, h, rfl⟩
    · cases e
  · cases e
def powD : D → D → Option D
  | .int i, .int j => if cdec (0 ≤ j ∧ j ≤ 1000 ∧ i.natAbs < 2 ^ 64) = true then some (.int (i ^ j.toNat)) else none
  | _, _ => none
theorem o_pow {K : PySem.W.Frag} : Op2 K (rI CPow fun i j => .int (i ^ j.toNat)) powD := op2C (c := fun i j => cdec (0 ≤ j ∧ j ≤ 1000 ∧ i.natAbs < 2 ^ 64)) (g := fun i j => .int (i ^ j.toNat)) (fun i j h => by
    obtain ⟨h1, h2, h3⟩ := cdec_of h
    exact ⟨h1, by omega, h3⟩) (fun _ _ _ => .int _) fun x y z e => by
  unfold powD at e
  split at e
  · split at e
    · rename_i i j h; cases e; exact ⟨i, j, rfl, rfl, h, rfl⟩
    · cases e
  · cases e
def repL : D → D → Option D
  | .lst xs, .int k => if k ≤ lim ∧ -(lim : Int) ≤ k ∧ xs.length * k.toNat ≤ lim then some (.lst (List.replicate k.toNat xs).flatten) else none
  | _, _ => none
theorem o_repLF {K : PySem.W.Frag} : Op2F K rRep repL := by
  intro N H x y v w z Q hN bx hy e q
  cases x with
  | lst i => cases y with
    | int j =>
      unfold repL at e
      by_cases c : j ≤ lim ∧ -(lim : Int) ≤ j ∧ i.length * j.toNat ≤ lim
      · dsimp only at e
        rw [if_pos c] at e; cases e
        obtain ⟨a, vs, rfl, h1, h2⟩ := bx.lstE hide_sub
        cases hy.intE
        refine ⟨a, j, vs, rfl, rfl, h1, by have := c.2.1; unfold lim at this; omega, by have := c.1; unfold lim at this; omega, by rw [← h2.length]; exact lim_line c.2.2, fun p hp => ?_⟩
        exact q p _ hp (same_new hp) ⟨_, upd_same, (h2.rep j.toNat).mono (fresh_sub hp)⟩
      · dsimp only at e
        rw [if_neg c] at e; cases e
    | _ => cases e
  | _ => cases e
/-- text * int -/
def repS : D → D → Option D
  | .str xs, .int k => if k ≤ lim ∧ -(lim : Int) ≤ k ∧ xs.length * k.toNat ≤ lim then some (.str (List.replicate k.toNat xs).flatten) else none
  | _, _ => none
theorem flat_rep (x : List Nat) (n : Nat) : ((List.replicate n x.toArray).foldl (· ++ ·) #[]) = (List.replicate n x).flatten.toArray := by
  have g : ∀ (n : Nat) (a : Array Nat), (List.replicate n x.toArray).foldl (· ++ ·) a = a ++ (List.replicate n x).flatten.toArray := by
    intro n
    induction n with
    | zero => intro a; simp
    | succ n ih => intro a; rw [List.replicate_succ, List.foldl_cons, ih, List.replicate_succ, List.flatten_cons]; simp
  rw [g]; simp
def rRepS : R2 := fun x y H Q => ∃ (xs : List Nat) (k : Int), x = .str ⟨xs.toArray⟩ ∧ y = .int k ∧ k ≤ lim ∧ -(lim : Int) ≤ k ∧ xs.length * k.toNat ≤ lim ∧ Q (.str ⟨(List.replicate k.toNat xs).flatten.toArray⟩) H
theorem op_repS {X : Cx} : OpR X (binaryOp .Mult) rRepS := by
  intro pins s σ H x y v u Q I rx ry h
  obtain ⟨xs, k, rfl, rfl, c1, c2, c3, q⟩ := h
  obtain ⟨t, rfl⟩ := rx
  obtain ⟨t', rfl⟩ := ry
  unfold lim at c1 c2 c3
  have lx : (⟨xs.toArray⟩ : Str).length = xs.length := str_len xs
  refine PySem.P.mul_str ?_ ?_ ?_ ?_
  · rw [decide_eq_false (by omega), decide_eq_false (by omega)]; rfl
  · intro h1 h2
    rw [lx]
    have e1 : (xs.length : Int) * k ≤ 1000000 := by
      have e2 : ((xs.length * k.toNat : Nat) : Int) ≤ 1000000 := by omega
      have e3 : (k.toNat : Int) = k := by omega
      rw [Int.natCast_mul, e3] at e2
      exact e2
    have e2 : (1 : Int) ≤ k := by omega
    have e3 : (xs.length : Int) ≤ 1000000 := by
      have : (xs.length : Int) * 1 ≤ (xs.length : Int) * k := Int.mul_le_mul_of_nonneg_left e2 (by omega)
      omega
    have e4 : (1000000 : Int) ≤ (2 ^ 63 - 1) / k := by
      rw [Int.le_ediv_iff_mul_le (by omega)]
      omega
    omega
  · intro h1 h2
    rw [lx]
    have : (PySem.Builtin.Str.tooLong (xs.length * k.toNat)) = false := by
      unfold PySem.Builtin.Str.tooLong
      rw [sizeLine_eq]
      simp; omega
    exact this
  · have fin : ∀ (y : Str) (s' : Shared), y = ⟨(List.replicate k.toNat xs).flatten.toArray⟩ → s' = { s with toks := s.toks + 1 } → EP X pins σ Q (.str y s.toks) s' := fun y s' e e' => by
      rw [e, e']; exact ⟨.str _, H, I.tok _, ⟨_, rfl⟩, q⟩
    by_cases h1 : k < 1
    · rw [if_pos h1]
      have : k.toNat = 0 := by omega
      refine ⟨by decide, fin _ _ ?_ rfl⟩
      rw [this]; rfl
    · rw [if_neg h1]
      by_cases h2 : (k == 1 || (⟨xs.toArray⟩ : Str).length == 0) = true
      · rw [if_pos h2]
        refine ⟨.str ⟨xs.toArray⟩, H, I, ⟨_, rfl⟩, ?_⟩
        rw [lx, Bool.or_eq_true] at h2
        rcases h2 with h2 | h2
        · have : k = 1 := eq_of_beq h2
          subst this
          simpa using q
        · have : xs = [] := List.eq_nil_of_length_eq_zero (eq_of_beq h2)
          subst this
          simpa using q
      · rw [if_neg h2]
        refine ⟨?_, fin _ _ ?_ rfl⟩
        · rw [show (⟨xs.toArray⟩ : Str).cps = xs.toArray from rfl, flat_rep, str_len]
          have : (List.replicate k.toNat xs).flatten.length = xs.length * k.toNat := by simp [Nat.mul_comm]
          rw [this]; exact lim_line (by unfold lim; omega)
        · rw [show (⟨xs.toArray⟩ : Str).cps = xs.toArray from rfl, flat_rep]
theorem o_repS {K : PySem.W.Frag} : Op2 K rRepS repS := by
  intro N H x y v w z Q hN bx hy e q
  cases x with
  | str i => cases y with
    | int j =>
      unfold repS at e
      by_cases c : j ≤ lim ∧ -(lim : Int) ≤ j ∧ i.length * j.toNat ≤ lim
      · dsimp only at e
        rw [if_pos c] at e; cases e
        cases bx.strE
        cases hy.intE
        exact ⟨i, j, rfl, rfl, c.1, c.2.1, c.2.2, q _ H (Same.refl H) (.str _)⟩
      · dsimp only at e
        rw [if_neg c] at e; cases e
    | _ => cases e
  | _ => cases e
def mulD : D → D → Option D := alt mulI (alt repL repS)
def rMulP : R2 := fun x y H Q => (rI CMulA fun i j => .int (i * j)) x y H Q ∨ (rRep x y H Q ∨ rRepS x y H Q)
theorem o_mul {K : PySem.W.Frag} : Op2 K rMulP mulD := o_mulI.alt (o_repLF.val.alt o_repS)
theorem op_mulP {X : Cx} : OpR X (binaryOp .Mult) rMulP := op_mulA.or (op_rep.or op_repS)

/-! ### == != by depth -/
def eq0 : D → D → Bool
  | .non, .non => true
  | .bl a, .bl b => a == b
  | .bl a, .int b => (if a then 1 else 0) == b
  | .int a, .bl b => a == (if b then 1 else 0)
  | .int a, .int b => a == b
  | .str a, .str b => a == b
  | _, _ => false
def all2 (p : D → D → Bool) : List D → List D → Bool
  | [], [] => true
  | x :: xs, y :: ys => p x y && all2 p xs ys
  | _, _ => false
def eqN : Nat → D → D → Bool
  | n + 1, .lst xs, .lst ys => all2 (eqN n) xs ys
  | n + 1, .tup xs, .tup ys => all2 (eqN n) xs ys
  | _, x, y => eq0 x y
/-- data: of a depth, of true texts -/
def okN : Nat → D → Bool
  | _, .non => true
  | _, .bl _ => true
  | _, .int _ => true
  | _, .str x => x.all (· < 0x110000)
  | n + 1, .lst xs => xs.all (okN n)
  | n + 1, .tup xs => xs.all (okN n)
  | _, _ => false
def toPy : Nat → D → PyData
  | _, .non => .none
  | _, .bl b => .bool b
  | _, .int i => .int i
  | _, .str x => .str ⟨x.toArray⟩
  | n + 1, .lst xs => .list (xs.map (toPy n))
  | n + 1, .tup xs => .tuple (xs.map (toPy n))
  | _, _ => .none
theorem toPy_dp {K : PySem.W.Frag} {h H : Hp} (s : Same h H) : ∀ (n : Nat) (d : D) (v : V), okN n d = true → BRep K h H d v → Dp K H v (toPy n d) := by
  intro n
  induction n with
  | zero =>
    intro d v ok b
    cases d with
    | non => cases b.nonE; exact .non
    | bl x => cases b.blE; exact .bl x
    | int x => cases b.intE; exact .int x
    | str x => cases b.strE; exact .str _
    | _ => cases ok
  | succ n ih =>
    have ihs : ∀ (ds : List D) (vs : List V), ds.all (okN n) = true → Reps K h ds vs → DpAll K H vs (ds.map (toPy n)) := by
      intro ds
      induction ds with
      | nil => intro vs _ r; cases r; exact .nil
      | cons d ds ih2 =>
        intro vs ok r
        rw [List.all_cons, Bool.and_eq_true] at ok
        cases r with
        | cons r t => exact .cons (ih _ _ ok.1 (.val r)) (ih2 _ ok.2 t)
    intro d v ok b
    cases d with
    | non => cases b.nonE; exact .non
    | bl x => cases b.blE; exact .bl x
    | int x => cases b.intE; exact .int x
    | str x => cases b.strE; exact .str _
    | lst xs =>
      obtain ⟨a, vs, rfl, h1, h2⟩ := b.lstE s
      exact .lst (SqL.of h1) (ihs _ _ ok h2)
    | tup xs =>
      obtain ⟨a, vs, rfl, h1, h2⟩ := b.tupE s
      exact .tup (SqT.of h1) (ihs _ _ ok h2)
    | _ => cases ok
theorem lay_okN : ∀ (n : Nat) (d : D), okN n d = true → (toPy n d).canLay0 = true ∧ (toPy n d).depth ≤ n := by
  intro n
  induction n with
  | zero =>
    intro d ok
    cases d with
    | str x =>
      refine ⟨?_, Nat.le_refl _⟩
      show PyData.strOk _ = true
      unfold PyData.strOk
      rw [← Array.all_toList]; exact ok
    | lst _ => cases ok
    | tup _ => cases ok
    | _ => first | exact ⟨rfl, Nat.le_refl _⟩ | (cases ok; done)
  | succ n ih =>
    have ihs : ∀ ds : List D, ds.all (okN n) = true → PyData.canLayAll0 (ds.map (toPy n)) = true ∧ PyData.depthAll (ds.map (toPy n)) ≤ n := by
      intro ds
      induction ds with
      | nil => intro _; exact ⟨rfl, Nat.zero_le _⟩
      | cons d ds ih2 =>
        intro ok
        rw [List.all_cons, Bool.and_eq_true] at ok
        obtain ⟨a, b⟩ := ih _ ok.1
        obtain ⟨c, e⟩ := ih2 ok.2
        refine ⟨?_, ?_⟩
        · show (PyData.canLay0 (toPy n d) && PyData.canLayAll0 (ds.map (toPy n))) = true
          rw [a, c]; rfl
        · show max (PyData.depth (toPy n d)) (PyData.depthAll (ds.map (toPy n))) ≤ n
          omega
    intro d ok
    cases d with
    | str x =>
      refine ⟨?_, Nat.zero_le _⟩
      show PyData.strOk _ = true
      unfold PyData.strOk
      rw [← Array.all_toList]; exact ok
    | lst xs =>
      obtain ⟨a, b⟩ := ihs xs ok
      exact ⟨a, Nat.succ_le_succ b⟩
    | tup xs =>
      obtain ⟨a, b⟩ := ihs xs ok
      exact ⟨a, Nat.succ_le_succ b⟩
    | _ => first | exact ⟨rfl, Nat.zero_le _⟩ | (cases ok; done)
theorem eqv_eqN : ∀ (n : Nat) (x y : D), okN n x = true → okN n y = true → PyData.eqv (toPy n x) (toPy n y) = eqN n x y := by
  have sc : ∀ a b : List Nat, ((⟨a.toArray⟩ : Str) == ⟨b.toArray⟩) = (a == b) := fun a b => by
    rw [Bool.eq_iff_iff, beq_iff_eq, beq_iff_eq]
    exact ⟨str_inj, fun h => by rw [h]⟩
  intro n
  induction n with
  | zero =>
    intro x y hx hy
    cases x <;> first | (cases hx; done) | (cases y <;> first | rfl | exact sc _ _ | (cases hy; done))
  | succ n ih =>
    have ihs : ∀ xs ys : List D, xs.all (okN n) = true → ys.all (okN n) = true → PyData.eqvAll (xs.map (toPy n)) (ys.map (toPy n)) = all2 (eqN n) xs ys := by
      intro xs
      induction xs with
      | nil => intro ys _ _; cases ys <;> rfl
      | cons x xs ih2 =>
        intro ys hx hy
        cases ys with
        | nil => rfl
        | cons y ys =>
          rw [List.all_cons, Bool.and_eq_true] at hx hy
          show (PyData.eqv (toPy n x) (toPy n y) && PyData.eqvAll (xs.map (toPy n)) (ys.map (toPy n))) = (eqN n x y && all2 (eqN n) xs ys)
          rw [ih _ _ hx.1 hy.1, ih2 _ hx.2 hy.2]
    intro x y hx hy
    cases x with
    | lst xs => cases y with
      | lst ys => exact ihs xs ys hx hy
      | _ => first | rfl | cases hy
    | tup xs => cases y with
      | tup ys => exact ihs xs ys hx hy
      | _ => first | rfl | cases hy
    | _ => first
      | (cases y <;> first | rfl | exact sc _ _ | (cases hy; done))
      | (cases hx; done)
abbrev dep : Nat := 6
abbrev okD : D → Bool := okN dep
abbrev eqD : D → D → Bool := eqN dep
theorem shaped_ok {d : D} (h : okD d = true) : SeqAt.shaped (toPy dep d) = true := by
  obtain ⟨a, b⟩ := lay_okN dep d h
  unfold SeqAt.shaped
  rw [a, decide_eq_true (Nat.le_trans b (by decide))]; rfl
def eqO (x y : D) : Option D := if okD x = true ∧ okD y = true then some (.bl (eqD x y)) else none
def neO (x y : D) : Option D := if okD x = true ∧ okD y = true then some (.bl (!eqD x y)) else none
theorem o_eq {K : PySem.W.Frag} : Op2 K (rEqD K) eqO := by
  intro N H x y v w z Q hN bx hy e q
  unfold eqO at e
  split at e
  · rename_i c; cases e
    refine ⟨_, _, toPy_dp hide_sub dep x v c.1 bx, toPy_dp hide_sub dep y w c.2 hy, shaped_ok c.1, shaped_ok c.2, ?_⟩
    rw [eqv_eqN dep x y c.1 c.2]
    exact q _ H (Same.refl H) (.bl _)
  · cases e
theorem o_ne {K : PySem.W.Frag} : Op2 K (rNeD K) neO := by
  intro N H x y v w z Q hN bx hy e q
  unfold neO at e
  split at e
  · rename_i c; cases e
    refine ⟨_, _, toPy_dp hide_sub dep x v c.1 bx, toPy_dp hide_sub dep y w c.2 hy, shaped_ok c.1, shaped_ok c.2, ?_⟩
    rw [eqv_eqN dep x y c.1 c.2]
    exact q _ H (Same.refl H) (.bl _)
  · cases e
/-! ### in -/
def isFlat : D → Bool
  | .non => true
  | .bl _ => true
  | .int _ => true
  | .str _ => true
  | _ => false
def inL : D → D → Option D
  | x, .lst ys => if okD x = true ∧ okD (.lst ys) = true then some (.bl (ys.any fun y => eqN (dep - 1) y x)) else none
  | _, _ => none
theorem okN_succ : ∀ (n : Nat) (d : D), okN n d = true → okN (n + 1) d = true ∧ toPy (n + 1) d = toPy n d := by
  intro n
  induction n with
  | zero => intro d h; cases d <;> first | (exact ⟨h, rfl⟩) | cases h
  | succ n ih =>
    intro d h
    cases d with
    | lst xs =>
      have h' : ∀ x ∈ xs, okN n x = true := List.all_eq_true.mp h
      exact ⟨List.all_eq_true.mpr fun x hx => (ih x (h' x hx)).1, congrArg PyData.list (List.map_congr_left fun x hx => (ih x (h' x hx)).2)⟩
    | tup xs =>
      have h' : ∀ x ∈ xs, okN n x = true := List.all_eq_true.mp h
      exact ⟨List.all_eq_true.mpr fun x hx => (ih x (h' x hx)).1, congrArg PyData.tuple (List.map_congr_left fun x hx => (ih x (h' x hx)).2)⟩
    | _ => first | exact ⟨h, rfl⟩ | cases h
/-- membership: items of depth 5 -/
def ok5 : D → Bool := okN 5
def inL5 : D → D → Option D
  | x, .lst ys => if ok5 x = true ∧ okD (.lst ys) = true then some (.bl (ys.any fun y => eqN 5 y x)) else none
  | _, _ => none
theorem o_inL {K : PySem.W.Frag} : Op2 K (rInD K) inL5 := by
  intro N H x y v w z Q hN bx hy e q
  cases y with
  | lst ys =>
    unfold inL5 at e
    by_cases c : ok5 x = true ∧ okD (.lst ys) = true
    · dsimp only at e
      rw [if_pos c] at e; cases e
      have hx : ok5 x = true := c.1
      have e6 : toPy 6 x = toPy 5 x := (okN_succ 5 x hx).2
      have e7 : okD x = true := (okN_succ 5 x hx).1
      refine ⟨toPy 5 x, ys.map (toPy 5), toPy_dp hide_sub 5 x v hx bx, toPy_dp hide_sub dep _ w c.2 hy, by rw [← e6]; exact shaped_ok e7, shaped_ok c.2, ?_⟩
      have ey : ∀ y ∈ ys, okN 5 y = true := List.all_eq_true.mp c.2
      have e1 : ((ys.map (toPy 5)).any fun z => PyData.eqv z (toPy 5 x)) = ys.any fun y => eqN 5 y x := by
        rw [List.any_map]
        clear e7 e6 hy q c hN
        induction ys with
        | nil => rfl
        | cons y ys ih =>
          rw [List.any_cons, List.any_cons, ih (fun z hz => ey z (List.mem_cons_of_mem _ hz))]
          rw [Function.comp_apply, eqv_eqN 5 y x (ey y List.mem_cons_self) hx]
      rw [e1]
      exact q _ H (Same.refl H) (.bl _)
    · dsimp only at e
      rw [if_neg c] at e; cases e
  | _ => cases e
def inT : D → D → Option D
  | x, .tup ys => if isFlat x = true ∧ ys.all isFlat = true then some (.bl (ys.any fun y => eq0 y x)) else none
  | _, _ => none
theorem flat_V {K : PySem.W.Frag} {h : Hp} {d : D} {v : V} (r : Rep K h d v) (f : isFlat d = true) : flatV v = true := by
  cases r <;> first | rfl | cases f
theorem eqV_eq0 {K : PySem.W.Frag} {h : Hp} {d e : D} {v w : V} (r : Rep K h d v) (q : Rep K h e w) (f : isFlat d = true) (g : isFlat e = true) : eqV v w = eq0 d e := by
  cases r <;> (try cases f) <;> cases q <;> (try cases g) <;> first | rfl | skip
  rename_i a b
  show ((⟨a.toArray⟩ : Str) == ⟨b.toArray⟩) = (a == b)
  rw [Bool.eq_iff_iff, beq_iff_eq, beq_iff_eq]
  exact ⟨str_inj, fun h => by rw [h]⟩
theorem flat_all {K : PySem.W.Frag} {h : Hp} : ∀ {ds : List D} {vs : List V}, Reps K h ds vs → ds.all isFlat = true → vs.all flatV = true
  | _, _, .nil, _ => rfl
  | _, _, .cons r t, f => by
    rw [List.all_cons, Bool.and_eq_true] at f
    rw [List.all_cons, flat_V r f.1, flat_all t f.2]; rfl
theorem inV_any {K : PySem.W.Frag} {h : Hp} {x : D} {v : V} (rx : Rep K h x v) (fx : isFlat x = true) : ∀ {ds : List D} {vs : List V}, Reps K h ds vs → ds.all isFlat = true → inV v vs = ds.any fun y => eq0 y x
  | _, _, .nil, _ => rfl
  | _, _, .cons r t, f => by
    rw [List.all_cons, Bool.and_eq_true] at f
    have := inV_any rx fx t f.2
    unfold inV at this ⊢
    rw [List.any_cons, List.any_cons, this, eqV_eq0 r rx f.1 fx]
theorem brep_flat {K : PySem.W.Frag} {h H : Hp} {d : D} {v : V} (b : BRep K h H d v) (f : isFlat d = true) : Rep K h d v := by
  cases b <;> first | assumption | cases f
theorem o_inT {K : PySem.W.Frag} : Op2 K (rIn K false) inT := by
  intro N H x y v w z Q hN bx hy e q
  cases y with
  | tup ys =>
    unfold inT at e
    by_cases c : isFlat x = true ∧ ys.all isFlat = true
    · dsimp only at e
      rw [if_pos c] at e; cases e
      obtain ⟨a, vs, rfl, h1, h2⟩ := hy.tupE hide_sub
      have rx := brep_flat bx c.1
      refine ⟨a, vs, rfl, .inr (SqT.of h1), flat_V rx c.1, flat_all h2 c.2, ?_⟩
      rw [if_neg Bool.false_ne_true, inV_any rx c.1 h2 c.2]
      exact q _ H (Same.refl H) (.bl _)
    · dsimp only at e
      rw [if_neg c] at e; cases e
  | _ => cases e
def inS : D → D → Option D
  | .str [c], .str z => some (.bl (decide (c ∈ z)))
  | _, _ => none
theorem o_inS {K : PySem.W.Frag} : Op2 K rInS inS := by
  intro N H x y v w z Q hN bx hy e q
  unfold inS at e
  split at e
  · cases e
    cases bx.strE
    cases hy.strE
    exact ⟨_, _, rfl, rfl, by rw [str_cps]; exact q _ H (Same.refl H) (.bl _)⟩
  · cases e
def inD : D → D → Option D := alt inL5 (alt inT inS)
def notO (o : Option D) : Option D := match o with
  | some (.bl b) => some (.bl (!b))
  | _ => none
def ninD (x y : D) : Option D := notO (inD x y)
def rInP (K : PySem.W.Frag) : R2 := fun x y H Q => rInD K x y H Q ∨ (rIn K false x y H Q ∨ rInS x y H Q)
def rNinP (K : PySem.W.Frag) : R2 := fun x y H Q => rNotInD K x y H Q ∨ (rIn K true x y H Q ∨ rNotInS x y H Q)
theorem o_in {K : PySem.W.Frag} : Op2 K (rInP K) inD := o_inL.alt (o_inT.alt o_inS)
theorem op_inP {X : Cx} {k : Nat} (hr : Room k X.A) : OpR X (compareOp .In) (rInP X.K) := (op_inD (by have := hr.un; omega)).or (op_in_seq.or op_inS)
theorem op_ninP {X : Cx} {k : Nat} (hr : Room k X.A) : OpR X (compareOp .NotIn) (rNinP X.K) := (op_notInD (by have := hr.un; omega)).or (op_notIn_seq.or op_notInS)
/-- the answer turned: from a rule of in to one of not in -/
theorem o_nin {K : PySem.W.Frag} : Op2 K (rNinP K) ninD := by
  intro N H x y v w z Q hN bx hy e q
  unfold ninD notO at e
  split at e
  · rename_i b h
    cases e
    have := o_in (K := K) N H x y v w (.bl b) (fun u H' => ∃ b', u = .bl b' ∧ Q (.bl (!b')) H') hN bx hy h fun u H' s r => by
      cases r
      exact ⟨b, rfl, q _ H' s (.bl _)⟩
    rcases this with ⟨d, ds, h1, h2, h3, h4, b', h5, h6⟩ | ⟨p, xs, h1, h2, h3, h4, b', h5, h6⟩ | ⟨c, z, h1, h2, b', h5, h6⟩
    · cases h5; exact .inl ⟨d, ds, h1, h2, h3, h4, h6⟩
    · rw [if_neg Bool.false_ne_true] at h5
      cases h5; exact .inr (.inl ⟨p, xs, h1, h2, h3, h4, by rw [if_pos rfl]; exact h6⟩)
    · cases h5; exact .inr (.inr ⟨c, z, h1, h2, h6⟩)
  · cases e
end Pv

/-! Pv3: statements, blocks, loops, defs. -/
noncomputable section
namespace Pv
open PySem PySem.Spec L2
open PyProof.Rows hiding St

/-! ### relabelling -/
/-- what w held is held by w' -/
def rel (ow : Addr → Ow) (w w' : Ow) : Addr → Ow := fun a => if ow a = w then w' else ow a
theorem rel_eq {ow : Addr → Ow} {w w' : Ow} {a : Addr} (h : ow a = w) : rel ow w w' a = w' := by unfold rel; rw [if_pos h]
theorem rel_ne {ow : Addr → Ow} {w w' : Ow} {a : Addr} (h : ow a ≠ w) : rel ow w w' a = ow a := by unfold rel; rw [if_neg h]
theorem pubH_rel {ow : Addr → Ow} {w w' : Ow} (h : w ≠ .pub) (H : Hp) : Same (pubH ow H) (pubH (rel ow w w') H) := hide_same (Same.refl _) fun a q _ => by
  by_cases e : ow a = w
  · rw [e]; exact h
  · rw [rel_ne e] at q; exact q
theorem OwnAt.rel_ne {K : PySem.W.Frag} {H : Hp} {ow : Addr → Ow} {who w w' : Ow} {p : Addr} {d : D} (hw : w ≠ .pub) (h : OwnAt K H ow who p d) (hn : who ≠ w) : OwnAt K H (rel ow w w') who p d := by
  have k : ∀ a, ow a = who → rel ow w w' a = who := fun a e => by rw [Pv.rel_ne (by rw [e]; exact hn), e]
  have s := pubH_rel (w' := w') (ow := ow) hw H
  exact h.gen (fun _ _ _ e => e) s k
theorem OwnAt.rel_eq {K : PySem.W.Frag} {H : Hp} {ow : Addr → Ow} {w w' : Ow} {p : Addr} {d : D} (hw : w ≠ .pub) (h : OwnAt K H ow w p d) : OwnAt K H (rel ow w w') w' p d := by
  have k : ∀ a, ow a = w → rel ow w w' a = w' := fun a e => Pv.rel_eq e
  have s := pubH_rel (w' := w') (ow := ow) hw H
  exact h.gen (fun _ _ _ e => e) s k
/-! ### stores to a slot -/
theorem get_set {α : Type} {l : List α} {i j : Nat} {v x : α} (h : (l.set i v)[j]? = some x) : (j = i ∧ x = v ∧ i < l.length) ∨ (j ≠ i ∧ l[j]? = some x) := by
  rw [List.getElem?_set] at h
  split at h
  · rename_i e
    split at h
    · cases h; exact .inl ⟨e.symm, rfl, by assumption⟩
    · cases h
  · rename_i e
    exact .inr ⟨fun z => e z.symm, h⟩
section
variable {K : PySem.W.Frag} {B : Bd} {fl : List Bool} {ow : Addr → Ow} {σ : St} {H : Hp} {ρ : Env} {T : List (D × V)}
theorem fl_ne {fl : List Bool} {i j : Nat} {b : Bool} (h : j ≠ i) : (fl.set i b)[j]? = fl[j]? := by
  rw [List.getElem?_set_ne (fun z => h z.symm)]
theorem fl_eqF {fl : List Bool} {i : Nat} : (fl.set i false)[i]? ≠ some true := by
  intro h
  rcases get_set h with ⟨_, e, _⟩ | ⟨e, _⟩
  · cases e
  · exact e rfl
/-- name = a value -/
theorem ERo.set (E : ERo K B fl ow σ H ρ T) {i : Nat} {d : D} {v : V} (r : Rep K (pubH ow H) d v) (hi : i < σ.length) (hb : i ≠ 0 ∨ B.bor = []) : ERo K B (fl.set i false) ow (σ.set i (some v)) H (ρ.set i (some d)) T :=
  { E with
    len := by rw [List.length_set, List.length_set]; exact E.len
    fll := by rw [List.length_set, List.length_set]; exact E.fll
    sh := fun j e h1 h2 => by
      rcases get_set h1 with ⟨rfl, q, _⟩ | ⟨ne, q⟩
      · cases q; exact ⟨v, by rw [List.getElem?_set_self hi], r⟩
      · rw [fl_ne ne] at h2
        obtain ⟨u, q1, q2⟩ := E.sh j e q h2
        exact ⟨u, by rw [List.getElem?_set_ne (fun z => ne z.symm)]; exact q1, q2⟩
    hd := fun j e h1 h2 => by
      rcases get_set h1 with ⟨rfl, q, _⟩ | ⟨ne, q⟩
      · exact absurd h2 fl_eqF
      · rw [fl_ne ne] at h2
        obtain ⟨u, q1, q2⟩ := E.hd j e q h2
        exact ⟨u, by rw [List.getElem?_set_ne (fun z => ne z.symm)]; exact q1, q2⟩
    b0 := fun p hp => by
      rcases hb with hb | hb
      · rw [List.getElem?_set_ne hb, List.getElem?_set_ne hb]; exact E.b0 p hp
      · rw [hb] at hp; cases hp }
/-- name = a new object, held by the name alone -/
theorem ERo.setF (E : ERo K B fl ow σ H ρ T) {i : Nat} {d : D} {p : Addr} (r : OwnAt K H ow .tmp p d) (hi : i < σ.length) (hb : i ≠ 0 ∨ B.bor = []) : ERo K B (fl.set i true) (rel ow .tmp (.slot i)) (σ.set i (some (.ref p))) H (ρ.set i (some d)) T where
  len := by rw [List.length_set, List.length_set]; exact E.len
  fll := by rw [List.length_set, List.length_set]; exact E.fll
  frame := fun a h => by rw [Pv.rel_ne (by rw [E.frame a h]; exact fun z => nomatch z)]; exact E.frame a h
  live := fun a q => by
    refine E.live a fun z => q ?_
    rw [Pv.rel_ne (by rw [z]; exact fun z => nomatch z)]; exact z
  nt := fun a vs h => by
    have z := E.nt a vs h
    rw [Pv.rel_ne (by rw [z]; exact fun z => nomatch z)]; exact z
  sh := fun j e h1 h2 => by
    rcases get_set h1 with ⟨rfl, q, hl⟩ | ⟨ne, q⟩
    · exact absurd (by rw [List.getElem?_set_self (by rw [E.fll]; exact hi)]) h2
    · rw [fl_ne ne] at h2
      obtain ⟨u, q1, q2⟩ := E.sh j e q h2
      exact ⟨u, by rw [List.getElem?_set_ne (fun z => ne z.symm)]; exact q1, q2.mono (pubH_rel (w := .tmp) (fun z => nomatch z) H)⟩
  hd := fun j e h1 h2 => by
    rcases get_set h1 with ⟨rfl, q, _⟩ | ⟨ne, q⟩
    · cases q; exact ⟨p, by rw [List.getElem?_set_self hi], r.rel_eq (fun z => nomatch z)⟩
    · rw [fl_ne ne] at h2
      obtain ⟨u, q1, q2⟩ := E.hd j e q h2
      exact ⟨u, by rw [List.getElem?_set_ne (fun z => ne z.symm)]; exact q1, q2.rel_ne (fun z => nomatch z) (fun z => nomatch z)⟩
  new := fun a q1 q2 => by
    by_cases e : ow a = .tmp
    · exact E.new a (by rw [e]; exact fun z => nomatch z) (by rw [e]; exact fun z => nomatch z)
    · rw [Pv.rel_ne e] at q1 q2; exact E.new a q1 q2
  same := E.same
  tmp := fun q hq => (E.tmp q hq).mono (pubH_rel (w := .tmp) (fun z => nomatch z) H)
  bown := fun a h => by rw [Pv.rel_ne (by rw [E.bown a h]; exact fun z => nomatch z)]; exact E.bown a h
  b0 := fun p hp => by
    rcases hb with hb | hb
    · rw [List.getElem?_set_ne hb, List.getElem?_set_ne hb]; exact E.b0 p hp
    · rw [hb] at hp; cases hp
end

/-! ### the end of a def -/
def BAt (K : PySem.W.Frag) (N : Addr → Prop) (H : Hp) (p : Addr) : D → Prop
  | .rnd la s cs i => H p = some (.lst [.int s, .ref la, .int i]) ∧ H la = some (.lst (cs.map V.int))
  | .ins C fs => ∃ dx gs, H p = some (.ins C dx gs) ∧ gs.map (·.1) = fs.map (·.1) ∧ Reps K (hide N H) (fs.map (·.2)) (gs.map (·.2))
  | _ => False
open Classical in
/-- S is held for a moment, N by others -/
noncomputable def owS (S N : Addr → Prop) : Addr → Ow := fun a => if S a then .tmp else if N a then .frame else .pub
/-- a new object, with all that it alone holds -/
def NewV (K : PySem.W.Frag) (N : Addr → Prop) (H0 H : Hp) (d : D) (v : V) : Prop :=
  ∃ (p : Addr) (S : Addr → Prop), v = .ref p ∧ (∀ a, S a → H0 a = none ∧ H a ≠ none ∧ ∀ vs, H a ≠ some (.tup vs)) ∧ OwnAt K H (owS S N) .tmp p d
def RetV (K : PySem.W.Frag) (fr : Bool) (N : Addr → Prop) (H0 H : Hp) (d : D) (v : V) : Prop :=
  if fr = true then NewV K N H0 H d v else Rep K (hide N H) d v
def RetOk (K : PySem.W.Frag) (B : Bd) (d : D) (ρ : Env) (v : V) (H : Hp) : Prop :=
  (∀ a o, B.H0 a = some o → a ∉ B.bor → H a = some o) ∧ RetV K B.fr (fun a => B.M a ∨ a ∈ B.bor) B.H0 H d v ∧
  ∀ p d0, B.bor.head? = some p → ρ[0]? = some (some d0) → BAt K (fun a => B.M a ∨ a ∈ B.bor) H p d0
section
variable {K : PySem.W.Frag} {B : Bd} {fl : List Bool} {ow : Addr → Ow} {σ : St} {H : Hp} {ρ : Env} {T : List (D × V)}
theorem ERo.held (E : ERo K B fl ow σ H ρ T) {a : Addr} (h : B.M a ∨ a ∈ B.bor) : ow a ≠ .pub := by
  rcases h with h | h
  · rw [E.frame a h]; exact fun z => nomatch z
  · rw [E.bown a h]; exact fun z => nomatch z
theorem ERo.sub_ret (E : ERo K B fl ow σ H ρ T) : Same (pubH ow H) (hide (fun a => B.M a ∨ a ∈ B.bor) H) := hide_same (Same.refl _) fun a q _ => E.held q
theorem ERo.bat (E : ERo K B fl ow σ H ρ T) {p : Addr} {d0 : D} (hp : B.bor.head? = some p) (h : ρ[0]? = some (some d0)) (hk : ∀ la s cs i, d0 = .rnd la s cs i ∨ ∃ C fs, d0 = .ins C fs → True) : True := trivial
theorem ERo.borrowed (E : ERo K B fl ow σ H ρ T) {p : Addr} {d0 : D} (hp : B.bor.head? = some p) (h : ρ[0]? = some (some d0)) (hk : (∃ la s cs i, d0 = .rnd la s cs i) ∨ ∃ C fs, d0 = .ins C fs) : BAt K (fun a => B.M a ∨ a ∈ B.bor) H p d0 := by
  obtain ⟨e1, e2⟩ := E.b0 p hp
  obtain ⟨q, e3, o⟩ := E.hd 0 d0 h e2
  rw [e1] at e3
  cases e3
  rcases hk with ⟨la, s, cs, i, rfl⟩ | ⟨C, fs, rfl⟩
  · obtain ⟨_, _, _, h3, h4⟩ := o; exact ⟨h3, h4⟩
  · obtain ⟨_, dx, gs, h1, h2, h3⟩ := o; exact ⟨dx, gs, h1, h2, h3.mono E.sub_ret⟩
end
/-- the borrowed one is a source of draws, or an instance -/
def bOk (B : Bd) (ρ : Env) : Prop := B.bor = [] ∨ ∃ d0, ρ[0]? = some (some d0) ∧ ((∃ la s cs i, d0 = .rnd la s cs i) ∨ ∃ C fs, d0 = .ins C fs)

/-! ### statements -/
abbrev StF := Env → Out
def SvT (K : PySem.W.Frag) (B : Bd) (W : WX) (fl fl' flL : List Bool) (f : StF) : TS := fun D σ H => ∃ ρ T, ER K B fl σ H ρ T ∧ match f ρ with
  | .nx ρ' => ∀ σ' H', ER K B fl' σ' H' ρ' T → D.nx σ' H'
  | .rt d ρ' => ∀ v H', RetOk K B d ρ' v H' → D.rt v H'
  | .ex x ρ' => ∀ dx σ' H' fl'', ER K B fl'' σ' H' ρ' T → XOk x H' dx → W (.ref x.cls) dx σ' H'
  | .bk ρ' => ∀ σ' H', ER K B flL σ' H' ρ' T → D.bk σ' H'
  | .ct ρ' => ∀ σ' H', ER K B flL σ' H' ρ' T → D.ct σ' H'
  | .no => False
structure PSv (X : Cx) (B : Bd) (W : WX) (flL fl fl' : List Bool) (st : Stmt) (f : StF) : Prop where
  ps : PS X st (SvT X.K B W fl fl' flL f)
structure PBv (X : Cx) (B : Bd) (W : WX) (flL fl fl' : List Bool) (st : List Stmt) (f : StF) : Prop where
  ps : PSs X st (SvT X.K B W fl fl' flL f)
def Out.bind (r : Out) (k : Env → Out) : Out := match r with
  | .nx ρ => k ρ
  | r => r
def sSeq (f g : StF) : StF := fun ρ => (f ρ).bind g
def sSkip : StF := .nx
/-- an end, as a statement about what follows -/
def OutQ (K : PySem.W.Frag) (B : Bd) (W : WX) (fl' flL : List Bool) (T : List (Pv.D × V)) (D : Ends) : Out → Prop
  | .nx ρ' => ∀ σ' H', ER K B fl' σ' H' ρ' T → D.nx σ' H'
  | .rt d ρ' => ∀ v H', RetOk K B d ρ' v H' → D.rt v H'
  | .ex x ρ' => ∀ dx σ' H' fl'', ER K B fl'' σ' H' ρ' T → XOk x H' dx → W (.ref x.cls) dx σ' H'
  | .bk ρ' => ∀ σ' H', ER K B flL σ' H' ρ' T → D.bk σ' H'
  | .ct ρ' => ∀ σ' H', ER K B flL σ' H' ρ' T → D.ct σ' H'
  | .no => False
theorem svT_iff {K : PySem.W.Frag} {B : Bd} {W : WX} {fl fl' flL : List Bool} {f : StF} {D : Ends} {σ : St} {H : Hp} : SvT K B W fl fl' flL f D σ H ↔ ∃ ρ T, ER K B fl σ H ρ T ∧ OutQ K B W fl' flL T D (f ρ) := by
  constructor
  · rintro ⟨ρ, T, E, q⟩
    refine ⟨ρ, T, E, ?_⟩
    cases e : f ρ <;> rw [e] at q <;> exact q
  · rintro ⟨ρ, T, E, q⟩
    refine ⟨ρ, T, E, ?_⟩
    cases e : f ρ <;> rw [e] at q <;> exact q
theorem svT_mk {K : PySem.W.Frag} {B : Bd} {W : WX} {fl fl' flL : List Bool} {f : StF} {D : Ends} {σ : St} {H : Hp} {ρ : Env} {T : List (Pv.D × V)} (E : ER K B fl σ H ρ T) (q : OutQ K B W fl' flL T D (f ρ)) : SvT K B W fl fl' flL f D σ H := svT_iff.mpr ⟨ρ, T, E, q⟩
section
variable {X : Cx} {B : Bd} {W : WX} {fl fl1 fl' flL : List Bool}
theorem PS.svT {st : Stmt} {t : TS} {f : StF} (h : PS X st t) (w : ∀ D σ H ρ T, ER X.K B fl σ H ρ T → OutQ X.K B W fl' flL T D (f ρ) → t D σ H) : PSv X B W flL fl fl' st f :=
  ⟨PS.weaken h fun D σ H q => let ⟨ρ, T, E, q⟩ := svT_iff.mp q; w D σ H ρ T E q⟩
theorem pb_nil : PBv X B W flL fl fl [] sSkip := ⟨PSs.weaken pss_nil fun D σ H q => let ⟨ρ, T, E, q⟩ := svT_iff.mp q; q σ H E⟩
theorem pb_cons {st : Stmt} {rest : List Stmt} {f g : StF} (h1 : PSv X B W flL fl fl1 st f) (h2 : PBv X B W flL fl1 fl' rest g) : PBv X B W flL fl fl' (st :: rest) (sSeq f g) :=
  ⟨PSs.weaken (pss_cons h1.ps h2.ps) fun D σ H q => by
    obtain ⟨ρ, T, E, q⟩ := svT_iff.mp q
    refine svT_mk E ?_
    unfold sSeq Out.bind at q
    cases e : f ρ with
    | nx ρ' => rw [e] at q; exact fun σ' H' E' => svT_mk E' q
    | rt d ρ' => rw [e] at q; exact q
    | ex x ρ' => rw [e] at q; exact q
    | bk ρ' => rw [e] at q; exact q
    | ct ρ' => rw [e] at q; exact q
    | no => rw [e] at q; exact q⟩
theorem pb_one {st : Stmt} {f : StF} (h1 : PSv X B W flL fl fl' st f) : PBv X B W flL fl fl' [st] f :=
  ⟨PSs.weaken (pss_one h1.ps) fun D σ H q => q⟩
theorem psv_pass {pos : Pos} : PSv X B W flL fl fl (.Pass pos) sSkip := PS.svT ps_pass fun D σ H ρ T E q => q σ H E
theorem psv_break {pos : Pos} : PSv X B W flL flL fl' (.Break pos) .bk := PS.svT ps_break fun D σ H ρ T E q => q σ H E
theorem psv_cont {pos : Pos} : PSv X B W flL flL fl' (.Continue pos) .ct := PS.svT ps_continue fun D σ H ρ T E q => q σ H E
/-- what is held by a name becomes a value -/
def frzE (i : Nat) (ρ : Env) : Env := match (ρ[i]? : Option (Option D)) with
  | some (some (.dil kvs)) => ρ.set i (some (dilD kvs))
  | some (some (.lol xs)) => ρ.set i (some (lolD xs))
  | some (some (.ino C fs f xs)) => ρ.set i (some (.ins C (fillF f (.lst xs) fs)))
  | _ => ρ
def frz (i : Nat) (f : StF) : StF := fun ρ => match (ρ[i]? : Option (Option D)) with
  | some (some d) => if isRnd d = true then .no else f (frzE i ρ)
  | _ => f ρ
theorem frzE_len (i : Nat) (ρ : Env) : (frzE i ρ).length = ρ.length := by
  unfold frzE
  split <;> simp
theorem frzE_ne {i j : Nat} {ρ : Env} (h : j ≠ i) : (frzE i ρ)[j]? = ρ[j]? := by
  unfold frzE
  split
  · exact List.getElem?_set_ne fun z => h z.symm
  · exact List.getElem?_set_ne fun z => h z.symm
  · exact List.getElem?_set_ne fun z => h z.symm
  · rfl
theorem frzE_eq {i : Nat} {ρ : Env} {d' : D} (h : (frzE i ρ)[i]? = some (some d')) : ∃ d, ρ[i]? = some (some d) ∧ d' = frzD d := by
  unfold frzE at h
  split at h
  · rename_i kvs e
    rw [List.getElem?_set_self (List.getElem?_eq_some_iff.mp e).1] at h
    cases h
    exact ⟨_, e, rfl⟩
  · rename_i kvs e
    rw [List.getElem?_set_self (List.getElem?_eq_some_iff.mp e).1] at h
    cases h
    exact ⟨_, e, rfl⟩
  · rename_i C fs f xs e
    rw [List.getElem?_set_self (List.getElem?_eq_some_iff.mp e).1] at h
    cases h
    exact ⟨_, e, rfl⟩
  · rename_i n1 n2 n3
    refine ⟨d', h, ?_⟩
    cases d' with
    | dil kvs => exact absurd h (n1 kvs)
    | lol kvs => exact absurd h (n2 kvs)
    | ino C fs f xs => exact absurd h (n3 C fs f xs)
    | _ => rfl
theorem OwnAt.repF {K : PySem.W.Frag} {H : Hp} {ow : Addr → Ow} {w : Ow} {p : Addr} {d : D} (h : OwnAt K H ow w p d) (hr : isRnd d = false) : Rep K (pubH (shr ow w) H) (frzD d) (.ref p) := by
  cases d with
  | dil kvs => exact h.repDil
  | lol xs => exact h.repLol
  | ino C fs f xs => exact h.repIno
  | rnd la s cs i => cases hr
  | _ => exact h.rep rfl
theorem ERo.freeze {K : PySem.W.Frag} {ow : Addr → Ow} {σ : St} {H : Hp} {ρ : Env} {T : List (D × V)} (E : ERo K B fl ow σ H ρ T) {i : Nat} (hi : i ≠ 0 ∨ B.bor = []) (hd : ∀ d, ρ[i]? = some (some d) → isRnd d = false) : ERo K B (fl.set i false) (shr ow (.slot i)) σ H (frzE i ρ) T where
  len := by rw [frzE_len]; exact E.len
  fll := by rw [List.length_set]; exact E.fll
  frame := fun a h => by
    have e := E.frame a h
    unfold shr
    rw [if_neg (by rw [e]; exact fun z => nomatch z), e]
  live := fun a q z => by
    refine E.live a (fun e => q ?_) z
    unfold shr
    rw [e]; split <;> rfl
  nt := fun a vs h => by
    have e := E.nt a vs h
    unfold shr
    rw [e]; split <;> rfl
  sh := fun j d h1 h2 => by
    by_cases e : j = i
    · subst e
      obtain ⟨d0, h0, rfl⟩ := frzE_eq h1
      by_cases q : fl[j]? = some true
      · obtain ⟨p, e1, o⟩ := E.hd j d0 h0 q
        exact ⟨_, e1, o.repF (hd d0 h0)⟩
      · obtain ⟨v, e1, r⟩ := E.sh j d0 h0 q
        refine ⟨v, e1, ?_⟩
        have : frzD d0 = d0 := by cases r <;> rfl
        rw [this]
        exact r.mono share_pub
    · rw [fl_ne e] at h2
      rw [frzE_ne e] at h1
      obtain ⟨v, e1, r⟩ := E.sh j d h1 h2
      exact ⟨v, e1, r.mono share_pub⟩
  hd := fun j d h1 h2 => by
    by_cases e : j = i
    · subst e; exact absurd h2 fl_eqF
    · rw [fl_ne e] at h2
      rw [frzE_ne e] at h1
      obtain ⟨p, e1, o⟩ := E.hd j d h1 h2
      exact ⟨p, e1, o.shared fun z => by cases z; exact e rfl⟩
  new := fun a q1 q2 => by
    unfold shr at q1 q2
    split at q1
    · exact absurd rfl q1
    · rename_i h
      rw [if_neg h] at q2
      exact E.new a q1 q2
  same := E.same
  tmp := fun q hq => (E.tmp q hq).mono share_pub
  bown := fun a h => by
    have q := E.bown a h
    unfold shr
    rcases hi with hi | hi
    · rw [if_neg (by rw [q]; intro z; cases z; exact hi rfl), q]
    · rw [hi] at h; cases h
  b0 := fun p hp => by
    rcases hi with hi | hi
    · rw [List.getElem?_set_ne hi]; exact E.b0 p hp
    · rw [hi] at hp; cases hp
theorem frz_run {f : StF} {ρ : Env} {i : Nat} {D : Ends} {K : PySem.W.Frag} {T : List (Pv.D × V)} (q : OutQ K B W fl' flL T D (frz i f ρ)) : (∀ d, ρ[i]? = some (some d) → isRnd d = false) ∧ OutQ K B W fl' flL T D (f (frzE i ρ)) := by
  unfold frz at q
  split at q
  · rename_i d e
    split at q
    · exact q.elim
    · rename_i h
      exact ⟨fun d' e' => by rw [e] at e'; cases e'; simpa using h, q⟩
  · rename_i e
    refine ⟨fun d' e' => absurd e' (e d'), ?_⟩
    have : frzE i ρ = ρ := by
      unfold frzE
      split
      · rename_i kvs h; exact absurd h (e _)
      · rename_i kvs h; exact absurd h (e _)
      · rename_i h; exact absurd h (e _)
      · rfl
    rw [this]; exact q
theorem PSv.frz {st : Stmt} {f : StF} {i : Nat} (h : PSv X B W flL (fl.set i false) fl' st f) (hi : i ≠ 0 ∨ B.bor = [] := by first | exact Or.inl (by decide) | (exact Or.inr ‹_›)) : PSv X B W flL fl fl' st (Pv.frz i f) :=
  PS.svT h.ps fun D σ H ρ T ⟨ow, E⟩ q => let ⟨q1, q2⟩ := frz_run q; svT_mk ⟨_, E.freeze hi q1⟩ q2
theorem PBv.frz {st : List Stmt} {f : StF} {i : Nat} (h : PBv X B W flL (fl.set i false) fl' st f) (hi : i ≠ 0 ∨ B.bor = [] := by first | exact Or.inl (by decide) | (exact Or.inr ‹_›)) : PBv X B W flL fl fl' st (Pv.frz i f) :=
  ⟨PSs.weaken h.ps fun D σ H q => by
    obtain ⟨ρ, T, ⟨ow, E⟩, q⟩ := svT_iff.mp q
    obtain ⟨q1, q2⟩ := frz_run q
    exact svT_mk ⟨_, E.freeze hi q1⟩ q2⟩
/-- what is not asked any more -/
def fgt (is : List Nat) : StF := fun ρ => .nx (is.foldl (fun ρ i => ρ.set i none) ρ)
theorem ERo.forget {K : PySem.W.Frag} {ow : Addr → Ow} {σ : St} {H : Hp} {ρ : Env} {T : List (D × V)} (E : ERo K B fl ow σ H ρ T) (i : Nat) : ERo K B fl ow σ H (ρ.set i none) T :=
  { E with
    len := by rw [List.length_set]; exact E.len
    sh := fun j d h1 h2 => by
      rcases get_set h1 with ⟨rfl, q, _⟩ | ⟨ne, q⟩
      · cases q
      · exact E.sh j d q h2
    hd := fun j d h1 h2 => by
      rcases get_set h1 with ⟨rfl, q, _⟩ | ⟨ne, q⟩
      · cases q
      · exact E.hd j d q h2 }
theorem ER.forgets {K : PySem.W.Frag} {σ : St} {H : Hp} {T : List (D × V)} : ∀ (is : List Nat) {ρ : Env}, ER K B fl σ H ρ T → ER K B fl σ H (is.foldl (fun ρ i => ρ.set i none) ρ) T
  | [], _, E => E
  | i :: is, _, ⟨ow, E⟩ => ER.forgets is ⟨ow, E.forget i⟩
theorem PBv.fgt {st : List Stmt} {f : StF} (is : List Nat) (h : PBv X B W flL fl fl' st f) : PBv X B W flL fl fl' st (sSeq f (Pv.fgt is)) :=
  ⟨PSs.weaken h.ps fun D σ H q => by
    obtain ⟨ρ, T, E, q⟩ := svT_iff.mp q
    refine svT_mk E ?_
    unfold sSeq Out.bind at q
    cases e : f ρ with
    | nx ρ' => rw [e] at q; exact fun σ' H' E' => q σ' H' (ER.forgets is E')
    | rt d ρ' => rw [e] at q; exact q
    | ex x ρ' => rw [e] at q; exact q
    | bk ρ' => rw [e] at q; exact q
    | ct ρ' => rw [e] at q; exact q
    | no => rw [e] at q; exact q⟩
theorem PSv.fgt {st : Stmt} {f : StF} (is : List Nat) (h : PSv X B W flL fl fl' st f) : PSv X B W flL fl fl' st (sSeq f (Pv.fgt is)) :=
  PS.svT h.ps fun D σ H ρ T E q => by
    refine svT_mk E ?_
    unfold sSeq Out.bind at q
    cases e : f ρ with
    | nx ρ' => rw [e] at q; exact fun σ' H' E' => q σ' H' (ER.forgets is E')
    | rt d ρ' => rw [e] at q; exact q
    | ex x ρ' => rw [e] at q; exact q
    | bk ρ' => rw [e] at q; exact q
    | ct ρ' => rw [e] at q; exact q
    | no => rw [e] at q; exact q
/-- a value, then a statement -/
def ERes.out (r : ERes) (k : D → Env → Out) : Out := match r with
  | .ok d ρ => k d ρ
  | .ex x ρ => .ex x ρ
  | .no => .no
theorem evT_out {K : PySem.W.Frag} {f : ValF} {k : D → Env → Out} {D : Ends} {σ : St} {H : Hp} {ρ : Env} {T : List (Pv.D × V)} {Q : VK} (E : ER K B fl σ H ρ T) (q : OutQ K B W fl' flL T D ((f ρ).out k))
    (h : ∀ d ρ' ow v H', f ρ = .ok d ρ' → ERo K B fl ow σ H' ρ' T → Rep K (pubH ow H') d v → OutQ K B W fl' flL T D (k d ρ') → Q v H') : EvT K B W fl f σ H Q := by
  refine ⟨ρ, T, E, ?_⟩
  unfold ERes.out at q
  cases e : f ρ with
  | ok d ρ' => rw [e] at q; exact fun v H' ⟨ow, E'⟩ => h d ρ' ow v H' e E'.drop E'.top q
  | ex x ρ' => rw [e] at q; exact fun dx H' E' z => q dx σ H' fl E' z
  | no => rw [e] at q; exact q.elim
theorem evF_out {K : PySem.W.Frag} {f : ValF} {k : D → Env → Out} {D : Ends} {σ : St} {H : Hp} {ρ : Env} {T : List (Pv.D × V)} {Q : VK} (E : ER K B fl σ H ρ T) (q : OutQ K B W fl' flL T D ((f ρ).out k))
    (h : ∀ d ρ' ow p H', f ρ = .ok d ρ' → ERo K B fl ow σ H' ρ' T → OwnAt K H' ow .tmp p d → OutQ K B W fl' flL T D (k d ρ') → Q (.ref p) H') : EvF K B W fl f σ H Q := by
  refine ⟨ρ, T, E, ?_⟩
  unfold ERes.out at q
  cases e : f ρ with
  | ok d ρ' => rw [e] at q; exact fun p H' ow E' o => h d ρ' ow p H' e E' o q
  | ex x ρ' => rw [e] at q; exact fun dx H' E' z => q dx σ H' fl E' z
  | no => rw [e] at q; exact q.elim
def put (i : Nat) (f : ValF) : StF := fun ρ => (f ρ).out fun d ρ' => if i < ρ'.length then .nx (ρ'.set i (some d)) else .no
/-- x = e, by a rule for the store -/
theorem psv_asg {st : Stmt} {e : Expr} {f : ValF} {i : Nat} (mk : ∀ te, PE X e te → PS X st (tAsg te (gName i))) (he : PV X B W fl e f) (hb : i ≠ 0 ∨ B.bor = []) : PSv X B W flL fl (fl.set i false) st (put i f) :=
  PS.svT (mk _ he.pe) fun D σ H ρ T E q => by
    refine evT_out E q fun d ρ' ow v H' e E' r q => ?_
    split at q
    · rename_i hi
      exact q _ _ ⟨ow, E'.set r (by rw [← E'.len]; exact hi) hb⟩
    · exact q.elim
theorem psv_asgF {st : Stmt} {e : Expr} {f : ValF} {i : Nat} (mk : ∀ te, PE X e te → PS X st (tAsg te (gName i))) (he : PF X B W fl e f) (hb : i ≠ 0 ∨ B.bor = []) : PSv X B W flL fl (fl.set i true) st (put i f) :=
  PS.svT (mk _ he.pe) fun D σ H ρ T E q => by
    refine evF_out E q fun d ρ' ow v H' e E' r q => ?_
    split at q
    · rename_i hi
      exact q _ _ ⟨_, E'.setF r (by rw [← E'.len]; exact hi) hb⟩
    · exact q.elim
def drp (f : ValF) : StF := fun ρ => (f ρ).out fun _ ρ' => .nx ρ'
theorem psv_expr {e : Expr} {f : ValF} {pos : Pos} (he : PV X B W fl e f) (hs : swapsWith e none pos.line X.env = pure false := by rfl) : PSv X B W flL fl fl (.Expr e pos) (drp f) :=
  PS.svT (ps_expr he.pe hs) fun D σ H ρ T E q => evT_out E q fun d ρ' ow v H' e E' r q => q _ _ ⟨ow, E'⟩
def retE (f : ValF) : StF := fun ρ => (f ρ).out fun d ρ' => .rt d ρ'
theorem ERo.retOk {K : PySem.W.Frag} {ow : Addr → Ow} {σ : St} {H : Hp} {ρ : Env} {T : List (D × V)} {d : D} {v : V} (E : ERo K B fl ow σ H ρ T) (r : Rep K (pubH ow H) d v) (hf : B.fr = false) (hb : bOk B ρ) : RetOk K B d ρ v H := by
  refine ⟨E.same, ?_, fun p d0 h1 h2 => ?_⟩
  · unfold RetV
    rw [hf, if_neg Bool.false_ne_true]
    exact r.mono E.sub_ret
  · rcases hb with hb | ⟨d1, h3, h4⟩
    · rw [hb] at h1; cases h1
    · rw [h2] at h3; cases h3
      exact E.borrowed h1 h2 h4
/-- the borrowed object is still there -/
def keepB (r : Out) : Out := match r with
  | .rt d ρ => match (ρ[0]? : Option (Option D)) with
    | some (some (.rnd _ _ _ _)) => .rt d ρ
    | some (some (.ins _ _)) => .rt d ρ
    | _ => .no
  | r => r
theorem psv_ret {e : Expr} {f : ValF} {pos : Pos} (he : PV X B W fl e f) (hf : B.fr = false) (hb : B.bor = []) : PSv X B W flL fl fl' (.Return (some e) pos) (retE f) :=
  PS.svT (ps_ret he.pe) fun D σ H ρ T E q => evT_out E q fun d ρ' ow v H' e E' r q => q _ _ (E'.retOk r hf (.inl hb))
def retB (f : ValF) : StF := fun ρ => keepB ((f ρ).out fun d ρ' => .rt d ρ')
theorem keepB_ok {d : D} {ρ : Env} (h : keepB (.rt d ρ) ≠ .no) : keepB (.rt d ρ) = .rt d ρ ∧ ∃ d0, ρ[0]? = some (some d0) ∧ ((∃ la s cs i, d0 = .rnd la s cs i) ∨ ∃ C fs, d0 = .ins C fs) := by
  unfold keepB at h ⊢
  dsimp only at h ⊢
  split at h
  · rename_i la s cs i e; rw [e]; exact ⟨rfl, _, rfl, .inl ⟨_, _, _, _, rfl⟩⟩
  · rename_i C fs e; rw [e]; exact ⟨rfl, _, rfl, .inr ⟨_, _, rfl⟩⟩
  · exact absurd rfl h
theorem psv_retB {e : Expr} {f : ValF} {pos : Pos} (he : PV X B W fl e f) (hf : B.fr = false) : PSv X B W flL fl fl' (.Return (some e) pos) (retB f) :=
  PS.svT (ps_ret he.pe) fun D σ H ρ T E q => by
    refine ⟨ρ, T, E, ?_⟩
    unfold retB ERes.out at q
    cases e : f ρ with
    | ok d ρ' =>
      rw [e] at q
      dsimp only at q
      by_cases hn : keepB (.rt d ρ') = .no
      · rw [hn] at q; exact q.elim
      · obtain ⟨e1, e2⟩ := keepB_ok hn
        rw [e1] at q
        exact fun v H' ⟨ow, E'⟩ => q _ _ (E'.drop.retOk E'.top hf (.inr e2))
    | ex x ρ' => rw [e] at q; exact fun dx H' E' z => q dx σ H' fl E' z
    | no => rw [e] at q; exact q.elim
theorem ERo.newOk {K : PySem.W.Frag} {ow : Addr → Ow} {σ : St} {H : Hp} {ρ : Env} {T : List (D × V)} {w : Ow} {p : Addr} {d : D} (E : ERo K B fl ow σ H ρ T) (hb : B.bor = []) (w1 : w ≠ .pub) (w2 : w ≠ .frame) (o : OwnAt K H ow w p d) : NewV K (fun a => B.M a ∨ a ∈ B.bor) B.H0 H d (.ref p) := by
  refine ⟨p, fun a => ow a = w, rfl, fun a h => ⟨?_, E.live a (by rw [h]; exact w1), fun vs z => w1 (by rw [← h]; exact E.nt a vs z)⟩, o.gen (fun a o _ e => e) (hide_same (Same.refl _) fun a q _ z => ?_) fun a h => by unfold owS; rw [if_pos h]⟩
  · rcases E.new a (by rw [h]; exact w1) (by rw [h]; exact w2) with z | z
    · exact z
    · rw [hb] at z; cases z
  · refine q ?_
    unfold owS
    rw [if_neg (fun y : ow a = w => w1 (y.symm.trans z)), if_neg fun y => E.held y z]
/-- return x, x held: a new object -/
def retS (i : Nat) : StF := fun ρ => match (ρ[i]? : Option (Option D)) with
  | some (some d) => .rt d ρ
  | _ => .no
theorem psv_retS {x : Str} {i : Nat} {p1 pos : Pos} (he : PE X (.Name x p1) (tVar i)) (hf : B.fr = true) (hb : B.bor = []) (hi : fl[i]? = some true) : PSv X B W flL fl fl' (.Return (some (.Name x p1)) pos) (retS i) :=
  PS.svT (ps_ret he) fun D σ H ρ T ⟨ow, E⟩ q => by
    unfold retS at q
    split at q
    · rename_i d e
      obtain ⟨p, e1, o⟩ := E.hd i d e hi
      refine ⟨_, e1, q _ _ ⟨E.same, ?_, fun p' d0 h1 h2 => by rw [hb] at h1; cases h1⟩⟩
      unfold RetV
      rw [hf, if_pos rfl]
      exact E.newOk (w := .slot i) hb (fun z => nomatch z) (fun z => nomatch z) o
    · exact q.elim
/-- return a new object -/
theorem psv_retF {e : Expr} {f : ValF} {pos : Pos} (he : PF X B W fl e f) (hf : B.fr = true) (hb : B.bor = []) : PSv X B W flL fl fl' (.Return (some e) pos) (retE f) :=
  PS.svT (ps_ret he.pe) fun D σ H ρ T E q => evF_out E q fun d ρ' ow p H' e E' o q => q _ _ ⟨E'.same, by
    unfold RetV
    rw [hf, if_pos rfl]
    exact E'.newOk (w := .tmp) hb (fun z => nomatch z) (fun z => nomatch z) o, fun p' d0 h1 h2 => by rw [hb] at h1; cases h1⟩
end
end Pv

/-! Pv4: tests, if, loops, calls, defs. -/
noncomputable section
namespace Pv
open PySem PySem.Spec L2
open PyProof.Rows hiding St

/-! ### tests -/
def EvB (K : PySem.W.Frag) (B : Bd) (W : WX) (fl : List Bool) (f : ValF) : TT := fun σ H Q => ∃ ρ T, ER K B fl σ H ρ T ∧ match f ρ with
  | .ok (.bl b) ρ' => ∀ H', ER K B fl σ H' ρ' T → Q b H'
  | .ex x ρ' => ∀ dx H', ER K B fl σ H' ρ' T → XOk x H' dx → W (.ref x.cls) dx σ H'
  | _ => False
structure PTv (X : Cx) (B : Bd) (W : WX) (fl : List Bool) (e : Expr) (f : ValF) : Prop where
  pt : PT X e (EvB X.K B W fl f)
structure PWv (X : Cx) (B : Bd) (W : WX) (fl : List Bool) (e : Expr) (f : ValF) : Prop where
  pw : PW X e (EvB X.K B W fl f)
theorem evB_T {K : PySem.W.Frag} {B : Bd} {W : WX} {fl : List Bool} {f : ValF} {σ : St} {H : Hp} {Q : Bool → Hp → Prop} (h : EvB K B W fl f σ H Q) : EvT K B W fl f σ H (fun x H' => ∃ k, x = .bl k ∧ Q k H') := by
  obtain ⟨ρ, T, E, q⟩ := h
  refine ⟨ρ, T, E, ?_⟩
  cases e : f ρ with
  | ok d ρ' =>
    rw [e] at q
    cases d with
    | bl b =>
      intro v H' ⟨ow, E'⟩
      have r := E'.top
      cases r
      exact ⟨b, rfl, q H' ⟨ow, E'.drop⟩⟩
    | _ => exact q.elim
  | ex x ρ' => rw [e] at q; exact q
  | no => rw [e] at q; exact q.elim
section
variable {X : Cx} {B : Bd} {W : WX} {fl fl1 fl' flL : List Bool}
theorem ptv_val {e : Expr} {f : ValF} (h : PV X B W fl e f) (he : ∀ whole, isTrue e X.env whole = (do let v ← whole; standAt e.pos; holding [v] (truthy v)) := by intro _; rfl) : PTv X B W fl e f :=
  ⟨PT.weaken (pt_val h.pe he) fun σ H Q q => evB_T q⟩
theorem ptv_op {e : Expr} {r : R2} {g : D → D → Option D} {o o' : Opd} (h : PT X e (tTest (tOp r (EvO X.K B W fl o) (EvO X.K B W fl o')))) (hg : Op2 X.K r g) : PTv X B W fl e (bin2 o o' g) :=
  ⟨PT.weaken h fun σ H Q q => hg.w (evB_T q)⟩
def truD : D → Option D
  | .non => some (.bl false)
  | .bl b => some (.bl b)
  | .int i => some (.bl (i != 0))
  | .str x => if x.length ≤ lim then some (.bl (!x.isEmpty)) else none
  | .lst x => some (.bl (!x.isEmpty))
  | .tup x => some (.bl (!x.isEmpty))
  | _ => none
theorem isEmpty_reps {K : PySem.W.Frag} {h : Hp} {ds : List D} {vs : List V} (r : Reps K h ds vs) : ds.isEmpty = vs.isEmpty := by cases r <;> rfl
theorem ptv_tru {e : Expr} {o : Opd} (h : POp X B W fl e o) (he : ∀ whole, isTrue e X.env whole = (do let v ← whole; standAt e.pos; holding [v] (truthy v)) := by intro _; rfl) : PTv X B W fl e (un1 o truD) :=
  ⟨PT.weaken (pt_truth h.pe he) fun σ H Q q => by
    obtain ⟨ρ, T, E, q⟩ := evB_T q
    obtain ⟨hn, hx, hk⟩ := evT_no q
    refine evO1 (g := fun x => ofO (truD x)) (R := fun v H2 => ∃ k, TruV X.K v H2 k ∧ Q k H2) E hn hx fun ow v H' d ρ' e' E' b => ?_
    have e1 : un1 o truD ρ = ofO (truD d) ρ' := e'
    rw [e1] at hn hk
    have fin : ∀ k : Bool, truD d = some (.bl k) → Q k H' := fun k hk' => by
      obtain ⟨k', e2, q2⟩ := hk (.bl k) ρ' (by rw [hk']; rfl) (.bl k) H' ⟨ow, E'.push (.bl k)⟩
      cases e2; exact q2
    cases d with
    | non => cases b.nonE; exact ⟨false, rfl, fin _ rfl⟩
    | bl x => cases b.blE; exact ⟨x, rfl, fin _ rfl⟩
    | int x => cases b.intE; exact ⟨_, rfl, fin _ rfl⟩
    | str x =>
      cases b.strE
      by_cases c : x.length ≤ lim
      · refine ⟨_, ⟨by rw [str_len]; exact lim_line c, rfl⟩, fin _ ?_⟩
        unfold truD
        dsimp only
        rw [if_pos c, str_len]
        cases x <;> simp
        omega
      · exact absurd (by unfold truD; dsimp only; rw [if_neg c]; rfl) hn
    | lst x =>
      obtain ⟨a, vs, rfl, h1, h2⟩ := b.lstE hide_sub
      exact ⟨_, .inl ⟨vs, SqL.of h1, rfl⟩, fin _ (by show some (Pv.D.bl (!x.isEmpty)) = _; rw [isEmpty_reps h2])⟩
    | tup x =>
      obtain ⟨a, vs, rfl, h1, h2⟩ := b.tupE hide_sub
      exact ⟨_, .inr (.inl ⟨vs, SqT.of h1, rfl⟩), fin _ (by show some (Pv.D.bl (!x.isEmpty)) = _; rw [isEmpty_reps h2])⟩
    | _ => exact absurd rfl hn⟩
def notF (f : ValF) : ValF := fun ρ => (f ρ).bind fun d ρ' => match d with
  | .bl b => .ok (.bl (!b)) ρ'
  | _ => .no
def andF (f g : ValF) : ValF := fun ρ => (f ρ).bind fun d ρ' => match d with
  | .bl true => g ρ'
  | .bl false => .ok (.bl false) ρ'
  | _ => .no
def orF (f g : ValF) : ValF := fun ρ => (f ρ).bind fun d ρ' => match d with
  | .bl true => .ok (.bl true) ρ'
  | .bl false => g ρ'
  | _ => .no
def ifF (c f g : ValF) : ValF := fun ρ => (c ρ).bind fun d ρ' => match d with
  | .bl true => f ρ'
  | .bl false => g ρ'
  | _ => .no
/-- a test, then by its answer -/
theorem evB_bind {K : PySem.W.Frag} {f : ValF} {k : D → Env → ERes} {σ : St} {H : Hp} {ρ : Env} {T : List (D × V)} {R : Bool → Hp → Prop} (E : ER K B fl σ H ρ T) (hk : ∀ d ρ, (∀ b, d ≠ .bl b) → k d ρ = .no)
    (hn : (f ρ).bind k ≠ .no) (hx : ∀ x ρ', (f ρ).bind k = .ex x ρ' → ∀ dx H', ER K B fl σ H' ρ' T → XOk x H' dx → W (.ref x.cls) dx σ H')
    (hR : ∀ b ρ' H', (f ρ).bind k = k (.bl b) ρ' → ER K B fl σ H' ρ' T → R b H') : EvB K B W fl f σ H R := by
  refine ⟨ρ, T, E, ?_⟩
  cases e : f ρ with
  | ok d ρ' =>
    rw [e] at hn hx hR
    cases d with
    | bl b => exact fun H' E' => hR b ρ' H' rfl E'
    | _ => exact absurd (hk _ _ fun b z => by cases z) hn
  | ex x ρ' => rw [e] at hx; exact hx x ρ' rfl
  | no => rw [e] at hn; exact hn rfl
/-- the end of a test -/
theorem evB_no {K : PySem.W.Frag} {f : ValF} {ρ : Env} {σ : St} {Q : Bool → Hp → Prop} {T : List (D × V)} (q : match f ρ with
  | .ok (.bl b) ρ' => ∀ H', ER K B fl σ H' ρ' T → Q b H'
  | .ex x ρ' => ∀ dx H', ER K B fl σ H' ρ' T → XOk x H' dx → W (.ref x.cls) dx σ H'
  | _ => False) : f ρ ≠ .no ∧ (∀ x ρ', f ρ = .ex x ρ' → ∀ dx H', ER K B fl σ H' ρ' T → XOk x H' dx → W (.ref x.cls) dx σ H') ∧ (∀ d ρ', f ρ = .ok d ρ' → ∃ b, d = .bl b ∧ ∀ H', ER K B fl σ H' ρ' T → Q b H') := by
  cases e : f ρ with
  | ok d ρ' =>
    rw [e] at q
    cases d with
    | bl b => exact ⟨fun z => (nomatch z), fun _ _ z => (nomatch z), fun _ _ z => by cases z; exact ⟨b, rfl, q⟩⟩
    | _ => exact q.elim
  | ex x ρ' => rw [e] at q; exact ⟨fun z => (nomatch z), fun _ _ z => by cases z; exact q, fun _ _ z => nomatch z⟩
  | no => rw [e] at q; exact q.elim
theorem evB_mk {K : PySem.W.Frag} {f : ValF} {ρ : Env} {σ : St} {H : Hp} {Q : Bool → Hp → Prop} {T : List (D × V)} (E : ER K B fl σ H ρ T) (hn : f ρ ≠ .no)
    (hx : ∀ x ρ', f ρ = .ex x ρ' → ∀ dx H', ER K B fl σ H' ρ' T → XOk x H' dx → W (.ref x.cls) dx σ H') (hk : ∀ d ρ', f ρ = .ok d ρ' → ∃ b, d = .bl b ∧ ∀ H', ER K B fl σ H' ρ' T → Q b H') : EvB K B W fl f σ H Q := by
  refine ⟨ρ, T, E, ?_⟩
  cases e : f ρ with
  | ok d ρ' => obtain ⟨b, rfl, q⟩ := hk d ρ' e; exact q
  | ex x ρ' => exact hx x ρ' e
  | no => exact hn e
theorem evT_mk {K : PySem.W.Frag} {f : ValF} {ρ : Env} {σ : St} {H : Hp} {Q : VK} {T : List (D × V)} (E : ER K B fl σ H ρ T) (hn : f ρ ≠ .no)
    (hx : ∀ x ρ', f ρ = .ex x ρ' → ∀ dx H', ER K B fl σ H' ρ' T → XOk x H' dx → W (.ref x.cls) dx σ H') (hk : ∀ d ρ', f ρ = .ok d ρ' → ∀ v H', ER K B fl σ H' ρ' ((d, v) :: T) → Q v H') : EvT K B W fl f σ H Q := by
  refine ⟨ρ, T, E, ?_⟩
  cases e : f ρ with
  | ok d ρ' => exact hk d ρ' e
  | ex x ρ' => exact hx x ρ' e
  | no => exact hn e
theorem ptv_not {a : Expr} {f : ValF} {pos : Pos} (h : PTv X B W fl a f) : PTv X B W fl (.UnaryOp .Not a pos) (notF f) :=
  ⟨PT.weaken (pt_not h.pt) fun σ H Q ⟨ρ, T, E, q⟩ => by
    obtain ⟨hn, hx, hk⟩ := evB_no q
    refine evB_bind E (fun d ρ h => by cases d <;> first | rfl | exact absurd rfl (h _)) hn hx fun b ρ' H' e E' => ?_
    have e : notF f ρ = _ := e
    obtain ⟨b', e1, q'⟩ := hk _ _ e
    cases e1; exact q' H' E'⟩
theorem pwv_and1 {a : Expr} {f : ValF} {pos : Pos} (h : PTv X B W fl a f) : PWv X B W fl (.BoolOp .And [a] pos) f := ⟨pw_and1 h.pt⟩
theorem pwv_or1 {a : Expr} {f : ValF} {pos : Pos} (h : PTv X B W fl a f) : PWv X B W fl (.BoolOp .Or [a] pos) f := ⟨pw_or1 h.pt⟩
theorem PW.weaken {e : Expr} {t t' : TT} (h : PW X e t) (w : ∀ σ H Q, t' σ H Q → t σ H Q) : PW X e t' := ⟨fun wh pins s σ H Q I q => h.run wh pins s σ H Q I (w σ H Q q)⟩
theorem pwv_and {a b : Expr} {rest : List Expr} {f g : ValF} {pos : Pos} (h : PTv X B W fl a f) (h2 : PWv X B W fl (.BoolOp .And (b :: rest) pos) g) : PWv X B W fl (.BoolOp .And (a :: b :: rest) pos) (andF f g) :=
  ⟨PW.weaken (pw_and h.pt h2.pw) fun σ H Q ⟨ρ, T, E, q⟩ => by
    obtain ⟨hn, hx, hk⟩ := evB_no q
    refine evB_bind E (fun d ρ h => by cases d <;> first | rfl | exact absurd rfl (h _)) hn hx fun b ρ' H' e E' => ?_
    have e : andF f g ρ = _ := e
    rw [e] at hn hx hk
    cases b with
    | true =>
      rw [if_pos rfl]
      exact evB_mk E' hn hx hk
    | false =>
      rw [if_neg Bool.false_ne_true]
      obtain ⟨b', e1, q'⟩ := hk _ _ rfl
      cases e1; exact q' H' E'⟩
theorem pwv_or {a b : Expr} {rest : List Expr} {f g : ValF} {pos : Pos} (h : PTv X B W fl a f) (h2 : PWv X B W fl (.BoolOp .Or (b :: rest) pos) g) : PWv X B W fl (.BoolOp .Or (a :: b :: rest) pos) (orF f g) :=
  ⟨PW.weaken (pw_or h.pt h2.pw) fun σ H Q ⟨ρ, T, E, q⟩ => by
    obtain ⟨hn, hx, hk⟩ := evB_no q
    refine evB_bind E (fun d ρ h => by cases d <;> first | rfl | exact absurd rfl (h _)) hn hx fun b ρ' H' e E' => ?_
    have e : orF f g ρ = _ := e
    rw [e] at hn hx hk
    cases b with
    | false =>
      rw [if_neg Bool.false_ne_true]
      exact evB_mk E' hn hx hk
    | true =>
      rw [if_pos rfl]
      obtain ⟨b', e1, q'⟩ := hk _ _ rfl
      cases e1; exact q' H' E'⟩
theorem PWv.t {e : Expr} {f : ValF} (h : PWv X B W fl e f) : PTv X B W fl e f := ⟨h.pw.pt⟩
/-! ### and, or, not, if as values -/
theorem PE.bl {e : Expr} {f : ValF} {t : TE} (h : PE X e t) (w : ∀ σ H Q, EvT X.K B W fl f σ H Q → t σ H Q) : PV X B W fl e f := ⟨PE.weaken h w⟩
theorem pv_one {a : Expr} {op : BoolOp} {f : ValF} {pos : Pos} (h : PV X B W fl a f) : PV X B W fl (.BoolOp op [a] pos) f := ⟨pe_one h.pe⟩
/-- a value that is a bool, then by it -/
theorem evT_bl {K : PySem.W.Frag} {f : ValF} {k : D → Env → ERes} {σ : St} {H : Hp} {ρ : Env} {T : List (D × V)} {R : Bool → Hp → Prop} (E : ER K B fl σ H ρ T) (hk : ∀ d ρ, (∀ b, d ≠ .bl b) → k d ρ = .no)
    (hn : (f ρ).bind k ≠ .no) (hx : ∀ x ρ', (f ρ).bind k = .ex x ρ' → ∀ dx H', ER K B fl σ H' ρ' T → XOk x H' dx → W (.ref x.cls) dx σ H')
    (hR : ∀ b ρ' H', (f ρ).bind k = k (.bl b) ρ' → ER K B fl σ H' ρ' T → R b H') : EvT K B W fl f σ H fun x H' => ∃ c, x = .bl c ∧ R c H' := evB_T (evB_bind E hk hn hx hR)
theorem pv_and {a b : Expr} {rest : List Expr} {f g : ValF} {pos : Pos} (h : PV X B W fl a f) (h2 : PV X B W fl (.BoolOp .And (b :: rest) pos) g) : PV X B W fl (.BoolOp .And (a :: b :: rest) pos) (andF f g) :=
  PE.bl (pe_and h.pe h2.pe) fun σ H Q ⟨ρ, T, E, q⟩ => by
    obtain ⟨hn, hx, hk⟩ := evT_no q
    refine evT_bl E (fun d ρ h => by cases d <;> first | rfl | exact absurd rfl (h _)) hn hx fun b ρ' H' e E' => ?_
    have e : andF f g ρ = _ := e
    rw [e] at hn hx hk
    cases b with
    | true =>
      rw [if_pos rfl]
      exact evT_mk E' hn hx hk
    | false =>
      rw [if_neg Bool.false_ne_true]
      exact hk _ _ rfl _ _ (let ⟨ow, E'⟩ := E'; ⟨ow, E'.push (.bl false)⟩)
theorem pv_or {a b : Expr} {rest : List Expr} {f g : ValF} {pos : Pos} (h : PV X B W fl a f) (h2 : PV X B W fl (.BoolOp .Or (b :: rest) pos) g) : PV X B W fl (.BoolOp .Or (a :: b :: rest) pos) (orF f g) :=
  PE.bl (pe_or h.pe h2.pe) fun σ H Q ⟨ρ, T, E, q⟩ => by
    obtain ⟨hn, hx, hk⟩ := evT_no q
    refine evT_bl E (fun d ρ h => by cases d <;> first | rfl | exact absurd rfl (h _)) hn hx fun b ρ' H' e E' => ?_
    have e : orF f g ρ = _ := e
    rw [e] at hn hx hk
    cases b with
    | false =>
      rw [if_neg Bool.false_ne_true]
      exact evT_mk E' hn hx hk
    | true =>
      rw [if_pos rfl]
      exact hk _ _ rfl _ _ (let ⟨ow, E'⟩ := E'; ⟨ow, E'.push (.bl true)⟩)
theorem pv_not {a : Expr} {f : ValF} {pos : Pos} (h : PV X B W fl a f) : PV X B W fl (.UnaryOp .Not a pos) (notF f) :=
  PE.bl (pe_not h.pe) fun σ H Q ⟨ρ, T, E, q⟩ => by
    obtain ⟨hn, hx, hk⟩ := evT_no q
    refine evT_bl E (fun d ρ h => by cases d <;> first | rfl | exact absurd rfl (h _)) hn hx fun b ρ' H' e E' => ?_
    have e : notF f ρ = _ := e
    exact hk _ _ e _ _ (let ⟨ow, E'⟩ := E'; ⟨ow, E'.push (.bl _)⟩)
theorem pv_ifExp {c a b : Expr} {fc f g : ValF} {pos : Pos} (hc : PTv X B W fl c fc) (ha : PV X B W fl a f) (hb : PV X B W fl b g) : PV X B W fl (.IfExp c a b pos) (ifF fc f g) :=
  PE.bl (pe_ifExp hc.pt ha.pe hb.pe) fun σ H Q ⟨ρ, T, E, q⟩ => by
    obtain ⟨hn, hx, hk⟩ := evT_no q
    refine evB_bind E (fun d ρ h => by cases d <;> first | rfl | exact absurd rfl (h _)) hn hx fun b ρ' H' e E' => ?_
    have e : ifF fc f g ρ = _ := e
    rw [e] at hn hx hk
    cases b with
    | true => rw [if_pos rfl]; exact evT_mk E' hn hx hk
    | false => rw [if_neg Bool.false_ne_true]; exact evT_mk E' hn hx hk
/-! ### if -/
def ifS (c : ValF) (f g : StF) : StF := fun ρ => (c ρ).out fun d ρ' => match d with
  | .bl true => f ρ'
  | .bl false => g ρ'
  | _ => .no
theorem psv_if {c : Expr} {a b : List Stmt} {fc : ValF} {f g : StF} {pos : Pos} (hc : PTv X B W fl c fc) (ha : PBv X B W flL fl fl' a f) (hb : PBv X B W flL fl fl' b g) : PSv X B W flL fl fl' (.If c a b pos) (ifS fc f g) :=
  PS.svT (ps_if hc.pt ha.ps hb.ps) fun D σ H ρ T E q => by
    refine ⟨ρ, T, E, ?_⟩
    unfold ifS ERes.out at q
    cases e : fc ρ with
    | ok d ρ' =>
      rw [e] at q
      cases d with
      | bl b => cases b with
        | true => exact fun H' E' => iteT (svT_mk E' q)
        | false => exact fun H' E' => iteF (svT_mk E' q)
      | _ => exact q.elim
    | ex x ρ' => rw [e] at q; exact fun dx H' E' z => q dx σ H' fl E' z
    | no => rw [e] at q; exact q.elim
/-! ### while -/
def whF (t : ValF) (b : StF) : Nat → StF
  | 0, _ => .no
  | n + 1, ρ => (t ρ).out fun d ρ1 => match d with
    | .bl true => match b ρ1 with
      | .nx ρ2 => whF t b n ρ2
      | .ct ρ2 => whF t b n ρ2
      | .bk ρ2 => .nx ρ2
      | r => r
    | .bl false => .nx ρ1
    | _ => .no
theorem whF_succ {t : ValF} {b : StF} : ∀ {n : Nat} {ρ : Env}, whF t b n ρ ≠ .no → whF t b (n + 1) ρ = whF t b n ρ := by
  intro n
  induction n with
  | zero => intro ρ h; exact absurd rfl h
  | succ n ih =>
    intro ρ h
    unfold whF
    unfold whF at h
    cases e : t ρ with
    | ok d ρ1 =>
      rw [e] at h
      cases d with
      | bl c => cases c with
        | true =>
          unfold ERes.out at h ⊢
          dsimp only at h ⊢
          cases e2 : b ρ1 with
          | nx ρ2 => rw [e2] at h; exact ih h
          | ct ρ2 => rw [e2] at h; exact ih h
          | _ => rfl
        | false => rfl
      | _ => rfl
    | _ => rfl
theorem whF_le {t : ValF} {b : StF} {n : Nat} {ρ : Env} (h : whF t b n ρ ≠ .no) : ∀ {m : Nat}, n ≤ m → whF t b m ρ = whF t b n ρ := by
  intro m hm
  induction hm with
  | refl => rfl
  | step _ ih => rw [whF_succ (by rw [ih]; exact h), ih]
open Classical in
def whS (t : ValF) (b : StF) : StF := fun ρ => if h : ∃ n, whF t b n ρ ≠ .no then whF t b (Classical.choose h) ρ else .no
theorem whS_of {t : ValF} {b : StF} {n : Nat} {ρ : Env} (h : whF t b n ρ ≠ .no) : whS t b ρ = whF t b n ρ := by
  unfold whS
  rw [dif_pos ⟨n, h⟩]
  have hc := Classical.choose_spec (⟨n, h⟩ : ∃ n, whF t b n ρ ≠ .no)
  rcases Nat.le_total n (Classical.choose (⟨n, h⟩ : ∃ n, whF t b n ρ ≠ .no)) with l | l
  · exact whF_le h l
  · exact (whF_le hc l).symm
theorem whS_ex {t : ValF} {b : StF} {ρ : Env} (h : whS t b ρ ≠ .no) : ∃ n, whS t b ρ = whF t b n ρ := by
  unfold whS at h ⊢
  split at h
  · rename_i hh; exact ⟨_, by rw [dif_pos hh]⟩
  · exact absurd rfl h
theorem whS_unfold (t : ValF) (b : StF) (ρ : Env) : whS t b ρ = (t ρ).out fun d ρ1 => match d with
    | .bl true => match b ρ1 with
      | .nx ρ2 => whS t b ρ2
      | .ct ρ2 => whS t b ρ2
      | .bk ρ2 => .nx ρ2
      | r => r
    | .bl false => .nx ρ1
    | _ => .no := by
  have key : ∀ n ρ, whF t b n ρ ≠ .no → whF t b n ρ = whS t b ρ := fun n ρ h => (whS_of h).symm
  have un : ∀ n, whF t b (n + 1) ρ = (t ρ).out fun d ρ1 => match d with
    | .bl true => match b ρ1 with
      | .nx ρ2 => whF t b n ρ2
      | .ct ρ2 => whF t b n ρ2
      | .bk ρ2 => .nx ρ2
      | r => r
    | .bl false => .nx ρ1
    | _ => .no := fun n => rfl
  cases e : t ρ with
  | ok d ρ1 =>
    cases d with
    | bl c => cases c with
      | false =>
        have h1 : whF t b 1 ρ = .nx ρ1 := by rw [un, e]; rfl
        rw [whS_of (n := 1) (by rw [h1]; exact fun z => nomatch z), h1]; rfl
      | true =>
        have un2 : ∀ n, whF t b (n + 1) ρ = match b ρ1 with
          | .nx ρ2 => whF t b n ρ2
          | .ct ρ2 => whF t b n ρ2
          | .bk ρ2 => .nx ρ2
          | r => r := fun n => by rw [un, e]; rfl
        show whS t b ρ = match b ρ1 with
          | .nx ρ2 => whS t b ρ2
          | .ct ρ2 => whS t b ρ2
          | .bk ρ2 => .nx ρ2
          | r => r
        cases e2 : b ρ1 with
        | nx ρ2 =>
          dsimp only
          by_cases h : whS t b ρ2 = .no
          · rw [h]
            by_cases h' : whS t b ρ = .no
            · exact h'
            · exfalso
              obtain ⟨n, hn⟩ := whS_ex h'
              rw [hn] at h'
              cases n with
              | zero => exact h' rfl
              | succ n => rw [un2, e2] at h'; dsimp only at h'; exact h' (by rw [key n ρ2 h', h])
          · obtain ⟨n, hn⟩ := whS_ex h
            have : whF t b (n + 1) ρ = whS t b ρ2 := by rw [un2, e2, hn]
            rw [whS_of (n := n + 1) (by rw [this]; exact h), this]
        | ct ρ2 =>
          dsimp only
          by_cases h : whS t b ρ2 = .no
          · rw [h]
            by_cases h' : whS t b ρ = .no
            · exact h'
            · exfalso
              obtain ⟨n, hn⟩ := whS_ex h'
              rw [hn] at h'
              cases n with
              | zero => exact h' rfl
              | succ n => rw [un2, e2] at h'; dsimp only at h'; exact h' (by rw [key n ρ2 h', h])
          · obtain ⟨n, hn⟩ := whS_ex h
            have : whF t b (n + 1) ρ = whS t b ρ2 := by rw [un2, e2, hn]
            rw [whS_of (n := n + 1) (by rw [this]; exact h), this]
        | bk ρ2 =>
          have h1 : whF t b 1 ρ = .nx ρ2 := by rw [un2, e2]
          rw [whS_of (n := 1) (by rw [h1]; exact fun z => nomatch z), h1]
        | rt d ρ2 =>
          have h1 : whF t b 1 ρ = .rt d ρ2 := by rw [un2, e2]
          rw [whS_of (n := 1) (by rw [h1]; exact fun z => nomatch z), h1]
        | ex d ρ2 =>
          have h1 : whF t b 1 ρ = .ex d ρ2 := by rw [un2, e2]
          rw [whS_of (n := 1) (by rw [h1]; exact fun z => nomatch z), h1]
        | no =>
          by_cases h' : whS t b ρ = .no
          · exact h'
          · exfalso
            obtain ⟨n, hn⟩ := whS_ex h'
            rw [hn] at h'
            cases n with
            | zero => exact h' rfl
            | succ n => rw [un2, e2] at h'; exact h' rfl
    | _ =>
      by_cases h' : whS t b ρ = .no
      · exact h'
      · exfalso
        obtain ⟨n, hn⟩ := whS_ex h'
        rw [hn] at h'
        cases n with
        | zero => exact h' rfl
        | succ n => rw [un, e] at h'; exact h' rfl
  | ex x ρ1 =>
    have h1 : whF t b 1 ρ = .ex x ρ1 := by rw [un, e]; rfl
    rw [whS_of (n := 1) (by rw [h1]; exact fun z => nomatch z), h1]; rfl
  | no =>
    by_cases h' : whS t b ρ = .no
    · exact h'
    · exfalso
      obtain ⟨n, hn⟩ := whS_ex h'
      rw [hn] at h'
      cases n with
      | zero => exact h' rfl
      | succ n => rw [un, e] at h'; exact h' rfl
theorem outQ_sub {K : PySem.W.Frag} {T T' : List (D × V)} {Ds : Ends} {r : Out} (h : OutQ K B W fl' flL T Ds r) (s : ∀ q ∈ T, q ∈ T') : OutQ K B W fl' flL T' Ds r := by
  cases r with
  | nx ρ => exact fun σ H E => h σ H (E.sub s)
  | rt d ρ => exact h
  | ex x ρ => exact fun dx σ H fl'' E z => h dx σ H fl'' (E.sub s) z
  | bk ρ => exact fun σ H E => h σ H (E.sub s)
  | ct ρ => exact fun σ H E => h σ H (E.sub s)
  | no => exact h
theorem outQ_ne {K : PySem.W.Frag} {T : List (D × V)} {Ds : Ends} {r : Out} (h : OutQ K B W fl' flL T Ds r) : r ≠ .no := fun e => by rw [e] at h; exact h
theorem psv_while {c : Expr} {body : List Stmt} {fc : ValF} {f : StF} {pos : Pos} (hp : PassesOwn (model X.prog X.w) X.A X.env X.xe) (hc : PTv X B W fl c fc) (hb : PBv X B W fl fl fl body f) : PSv X B W flL fl fl (.While c body [] pos) (whS fc f) :=
  PS.svT (ps_while hp hc.pt hb.ps) fun D σ H ρ T E q => by
    obtain ⟨n0, hn0⟩ := whS_ex (outQ_ne q)
    rw [hn0] at q
    refine ⟨fun m σ H => ∃ ρ, ER X.K B fl σ H ρ T ∧ OutQ X.K B W fl flL T D (whF fc f m ρ), ⟨n0, ρ, E, q⟩, fun m σ H hW => ?_⟩
    obtain ⟨ρ, E, q⟩ := hW
    cases m with
    | zero => exact q.elim
    | succ m =>
      refine ⟨ρ, T, E, ?_⟩
      unfold whF ERes.out at q
      cases e : fc ρ with
      | ok d ρ1 =>
        rw [e] at q
        cases d with
        | bl b => cases b with
          | false => exact fun H' E' => iteF (q σ H' E')
          | true =>
            intro H' E'
            refine iteT ⟨fun σ' H' => ∃ ρ, ER X.K B fl σ' H' ρ T ∧ OutQ X.K B W fl flL T D (whF fc f m ρ), fun σ' H' h => ⟨m, Nat.lt_succ_self m, h⟩, svT_mk E' ?_⟩
            dsimp only at q
            cases e2 : f ρ1 with
            | nx ρ2 => rw [e2] at q; exact fun σ' H' E2 => ⟨ρ2, E2, q⟩
            | ct ρ2 => rw [e2] at q; exact fun σ' H' E2 => ⟨ρ2, E2, q⟩
            | bk ρ2 => rw [e2] at q; exact fun σ' H' E2 => q σ' H' E2
            | rt d ρ2 => rw [e2] at q; exact q
            | ex x ρ2 => rw [e2] at q; exact q
            | no => rw [e2] at q; exact q
        | _ => exact q.elim
      | ex x ρ' => rw [e] at q; exact fun dx H' E' z => q dx σ H' fl E' z
      | no => rw [e] at q; exact q.elim
end
end Pv

/-! Pv5: what is walked, for, arguments, calls, defs. -/
noncomputable section
namespace Pv
open PySem PySem.Spec L2
open PyProof.Rows hiding St

/-! ### what is walked -/
structure ItOk (K : PySem.W.Frag) (J : It) (ds : List D) (src : List D) (v : List V) : Prop where
  go : ∀ (N : Addr → Prop) (H : Hp) (i : Nat), (∀ a, N a → H a ≠ none) → Reps K (hide N H) src v → i < ds.length → J.go i H
  stop : ∀ (N : Addr → Prop) (H : Hp), (∀ a, N a → H a ≠ none) → Reps K (hide N H) src v → J.stop ds.length H
  yld : ∀ (N : Addr → Prop) (H : Hp) (i : Nat) (x : V) (H' : Hp), (∀ a, N a → H a ≠ none) → Reps K (hide N H) src v → i < ds.length → J.yld i H x H' → Same H H' ∧ ∃ d, ds[i]? = some d ∧ Rep K (hide N H') d x
inductive IRes where
  | ok (ds : List D) (src : List D) (ρ : Env) | ex (x : Exc) (ρ : Env) | no
abbrev IterF := Env → IRes
def EvI (K : PySem.W.Frag) (B : Bd) (W : WX) (fl : List Bool) (f : IterF) : TI := fun σ H R => ∃ ρ T, ER K B fl σ H ρ T ∧ match f ρ with
  | .ok ds src ρ' => ∀ vs H' J, src.length = vs.length → ER K B fl σ H' ρ' (src.zip vs ++ T) → ItOk K J ds src vs → R J H'
  | .ex x ρ' => ∀ dx H', ER K B fl σ H' ρ' T → XOk x H' dx → W (.ref x.cls) dx σ H'
  | .no => False
structure PIv (X : Cx) (B : Bd) (W : WX) (fl : List Bool) (tg e : Expr) (f : IterF) : Prop where
  pi : PI X tg e (EvI X.K B W fl f)
theorem PI.weaken {X : Cx} {tg e : Expr} {t t' : TI} (h : PI X tg e t) (w : ∀ σ H Q, t' σ H Q → t σ H Q) : PI X tg e t' := ⟨fun pins s σ H Q I q => h.run pins s σ H Q I (w σ H Q q)⟩
theorem itOk_list {K : PySem.W.Frag} {a : Addr} {ds : List D} : ItOk K (Itl K a) ds [.lst ds] [.ref a] := by
  have key : ∀ {N : Addr → Prop} {H : Hp}, Reps K (hide N H) [.lst ds] [.ref a] → ∃ vs, SqL K H a vs ∧ Reps K (hide N H) ds vs := fun r => by
    cases r with | cons r _ => cases r with | lst e q => exact ⟨_, SqL.of (hide_sub _ _ e), q⟩
  refine ⟨fun N H i _ r hi => ?_, fun N H _ r => ?_, fun N H i x H' hN r hi y => ?_⟩
  · obtain ⟨vs, h1, h2⟩ := key r
    exact walk_list.goes i H (by rw [← h2.length]; exact hi) h1
  · obtain ⟨vs, h1, h2⟩ := key r
    rw [h2.length]; exact walk_list.stops H h1
  · obtain ⟨vs, h1, h2⟩ := key r
    obtain ⟨rfl, e⟩ := walk_list.yields i H x H' (by rw [← h2.length]; exact hi) h1 y
    obtain ⟨d, e2, r2⟩ := h2.getV e
    exact ⟨Same.refl _, d, e2, r2⟩
theorem itOk_tup {K : PySem.W.Frag} {a : Addr} {ds : List D} : ItOk K (Itt K a) ds [.tup ds] [.ref a] := by
  have key : ∀ {N : Addr → Prop} {H : Hp}, Reps K (hide N H) [.tup ds] [.ref a] → ∃ vs, SqT K H a vs ∧ Reps K (hide N H) ds vs := fun r => by
    cases r with | cons r _ => cases r with | tup e q => exact ⟨_, SqT.of (hide_sub _ _ e), q⟩
  refine ⟨fun N H i _ r hi => ?_, fun N H _ r => ?_, fun N H i x H' hN r hi y => ?_⟩
  · obtain ⟨vs, h1, h2⟩ := key r
    exact walk_tup.goes i H (by rw [← h2.length]; exact hi) h1
  · obtain ⟨vs, h1, h2⟩ := key r
    rw [h2.length]; exact walk_tup.stops H h1
  · obtain ⟨vs, h1, h2⟩ := key r
    obtain ⟨rfl, e⟩ := walk_tup.yields i H x H' (by rw [← h2.length]; exact hi) h1 y
    obtain ⟨d, e2, r2⟩ := h2.getV e
    exact ⟨Same.refl _, d, e2, r2⟩
def signs (x : List Nat) : List D := x.map fun c => .str [c]
theorem itOk_str {K : PySem.W.Frag} {x : List Nat} : ItOk K (Its ⟨x.toArray⟩) (signs x) [] [] := by
  refine ⟨fun N H i _ r hi => ?_, fun N H _ r => ?_, fun N H i y H' hN r hi q => ?_⟩
  · show i < x.toArray.size
    simpa [signs] using hi
  · show x.toArray.size ≤ (signs x).length
    simp [signs]
  · obtain ⟨rfl, c, e1, rfl⟩ := q
    refine ⟨Same.refl _, .str [c], ?_, .str [c]⟩
    have e1 : x.toArray[i]? = some c := e1
    unfold signs
    rw [List.getElem?_map]
    have : x[i]? = some c := by simpa using e1
    rw [this]; rfl
def intsR (lo : Int) (n : Nat) : List D := (List.range n).map fun (i : Nat) => .int (lo + i)
theorem itOk_range {K : PySem.W.Frag} {lo : Int} {n : Nat} : ItOk K (Itr lo n) (intsR lo n) [] [] := by
  have l : (intsR lo n).length = n := by simp [intsR]
  refine ⟨fun N H i _ r hi => by rw [l] at hi; exact hi, fun N H _ r => by rw [l]; exact Nat.le_refl _, fun N H i y H' hN r hi q => ?_⟩
  obtain ⟨rfl, rfl⟩ := q
  rw [l] at hi
  refine ⟨Same.refl _, .int (lo + i), ?_, .int _⟩
  unfold intsR
  rw [List.getElem?_map, List.getElem?_range hi]; rfl
def intsC (lo c : Int) (n : Nat) : List D := (List.range n).map fun (i : Nat) => .int (lo + i * c)
theorem itOk_rangeC {K : PySem.W.Frag} {lo c : Int} {n : Nat} : ItOk K (Itc lo c n) (intsC lo c n) [] [] := by
  have l : (intsC lo c n).length = n := by simp [intsC]
  refine ⟨fun N H i _ r hi => by rw [l] at hi; exact hi, fun N H _ r => by rw [l]; exact Nat.le_refl _, fun N H i y H' hN r hi q => ?_⟩
  obtain ⟨rfl, rfl⟩ := q
  rw [l] at hi
  refine ⟨Same.refl _, .int (lo + i * c), ?_, .int _⟩
  unfold intsC
  rw [List.getElem?_map, List.getElem?_range hi]; rfl
/-- over a value -/
def itV (f : ValF) : IterF := fun ρ => match f ρ with
  | .ok (.lst ds) ρ' => .ok ds [.lst ds] ρ'
  | .ok (.tup ds) ρ' => .ok ds [.tup ds] ρ'
  | .ok (.str x) ρ' => .ok (signs x) [] ρ'
  | .ex x ρ' => .ex x ρ'
  | _ => .no
theorem piOr {X : Cx} {tg e : Expr} {t t' : TI} (h : PI X tg e t) (h' : PI X tg e t') : PI X tg e (fun σ H R => t σ H R ∨ t' σ H R) := ⟨fun pins s σ H Q I q => q.elim (h.run pins s σ H Q I) (h'.run pins s σ H Q I)⟩
section
variable {X : Cx} {B : Bd} {W : WX} {fl fl1 fl' flL : List Bool} {tg : Expr}
theorem pi_v {e : Expr} {f : ValF} (h : PV X B W fl e f) : PIv X B W fl tg e (itV f) :=
  ⟨PI.weaken (piOr (pi_list h.pe) (piOr (pi_tup h.pe) (pi_str h.pe))) fun σ H R ⟨ρ, T, E, q⟩ => by
    unfold itV at q
    cases e : f ρ with
    | ok d ρ' =>
      rw [e] at q
      cases d with
      | lst ds =>
        refine .inl ⟨ρ, T, E, ?_⟩
        rw [e]
        intro v H' E'
        obtain ⟨ow, E1⟩ := E'
        have r := E1.top
        cases r with | lst h1 h2 => exact ⟨_, rfl, ⟨_, SqL.of (hide_sub _ _ h1)⟩, q [_] H' _ rfl ⟨ow, E1⟩ itOk_list⟩
      | tup ds =>
        refine .inr (.inl ⟨ρ, T, E, ?_⟩)
        rw [e]
        intro v H' E'
        obtain ⟨ow, E1⟩ := E'
        have r := E1.top
        cases r with | tup h1 h2 => exact ⟨_, rfl, ⟨_, SqT.of (hide_sub _ _ h1)⟩, q [_] H' _ rfl ⟨ow, E1⟩ itOk_tup⟩
      | str x =>
        refine .inr (.inr ⟨ρ, T, E, ?_⟩)
        rw [e]
        intro v H' E'
        obtain ⟨ow, E1⟩ := E'
        have r := E1.top
        cases r
        exact ⟨_, rfl, q [] H' _ rfl ⟨ow, E1.drop⟩ itOk_str⟩
      | _ => exact q.elim
    | ex x ρ' => rw [e] at q; exact .inl ⟨ρ, T, E, by rw [e]; exact q⟩
    | no => rw [e] at q; exact q.elim⟩
/-! ### arguments -/
inductive ARes where
  | ok (ds : List D) (ρ : Env) | ex (x : Exc) (ρ : Env) | no
abbrev ArgF := Env → ARes
def EvA (K : PySem.W.Frag) (B : Bd) (W : WX) (fl : List Bool) (f : ArgF) : TA := fun σ H Q => ∃ ρ T, ER K B fl σ H ρ T ∧ match f ρ with
  | .ok ds ρ' => ∀ vs H', ds.length = vs.length → ER K B fl σ H' ρ' (ds.zip vs ++ T) → Q vs H'
  | .ex x ρ' => ∀ dx H', ER K B fl σ H' ρ' T → XOk x H' dx → W (.ref x.cls) dx σ H'
  | .no => False
structure PAv (X : Cx) (B : Bd) (W : WX) (fl : List Bool) (es : List Expr) (f : ArgF) : Prop where
  pa : PA X es (EvA X.K B W fl f)
  len : ∀ ρ ds ρ', f ρ = .ok ds ρ' → ds.length = es.length
def aNil : ArgF := fun ρ => .ok [] ρ
def aCons (f : ValF) (g : ArgF) : ArgF := fun ρ => match f ρ with
  | .ok d ρ1 => match g ρ1 with
    | .ok ds ρ2 => .ok (d :: ds) ρ2
    | r => r
  | .ex x ρ1 => .ex x ρ1
  | .no => .no
theorem pav_nil : PAv X B W fl [] aNil := ⟨PA.weaken pa_nil fun σ H Q ⟨ρ, T, E, q⟩ => q [] H rfl E, fun ρ ds ρ' h => by cases h; rfl⟩
theorem pav_cons {e : Expr} {es : List Expr} {f : ValF} {g : ArgF} (h : PV X B W fl e f) (h2 : PAv X B W fl es g) (hs : starEach (e :: es) X.env = (false, eval e X.env) :: starEach es X.env := by rfl) : PAv X B W fl (e :: es) (aCons f g) :=
  ⟨PA.weaken (pa_cons h.pe h2.pa hs) fun σ H Q ⟨ρ, T, E, q⟩ => by
    refine ⟨ρ, T, E, ?_⟩
    unfold aCons at q
    cases e1 : f ρ with
    | ok d ρ1 =>
      rw [e1] at q
      dsimp only at q
      intro v H1 E1
      refine ⟨ρ1, _, E1, ?_⟩
      cases e2 : g ρ1 with
      | ok ds ρ2 =>
        rw [e2] at q
        intro vs H2 hl E2
        refine q (v :: vs) H2 (congrArg Nat.succ hl) (E2.sub fun p hp => ?_)
        rw [List.zip_cons_cons, List.cons_append] at hp
        rcases List.mem_cons.mp hp with rfl | hp
        · exact List.mem_append_right _ List.mem_cons_self
        · rcases List.mem_append.mp hp with hp | hp
          · exact List.mem_append_left _ hp
          · exact List.mem_append_right _ (List.mem_cons_of_mem _ hp)
      | ex x ρ2 => rw [e2] at q; exact fun dx H' E' z => q dx H' (E'.sub fun p hp => List.mem_cons_of_mem _ hp) z
      | no => rw [e2] at q; exact q.elim
    | ex x ρ1 => rw [e1] at q; exact q
    | no => rw [e1] at q; exact q.elim, fun ρ ds ρ' e => by
    unfold aCons at e
    split at e
    · split at e
      · rename_i h; cases e; exact congrArg Nat.succ (h2.len _ _ _ h)
      · rename_i h; exact absurd e (h _ _)
    · cases e
    · cases e⟩
theorem reps_zip {K : PySem.W.Frag} {h : Hp} : ∀ {ds : List D} {vs : List V}, ds.length = vs.length → (∀ q ∈ ds.zip vs, Rep K h q.1 q.2) → Reps K h ds vs
  | [], [], _, _ => .nil
  | [], _ :: _, l, _ => nomatch l
  | _ :: _, [], l, _ => nomatch l
  | d :: ds, v :: vs, l, h => .cons (h (d, v) List.mem_cons_self) (reps_zip (Nat.succ.inj l) fun q hq => h q (List.mem_cons_of_mem _ hq))
theorem ERo.args {K : PySem.W.Frag} {ow : Addr → Ow} {σ : St} {H : Hp} {ρ : Env} {T : List (D × V)} {ds : List D} {vs : List V} (E : ERo K B fl ow σ H ρ (ds.zip vs ++ T)) (l : ds.length = vs.length) : Reps K (pubH ow H) ds vs :=
  reps_zip l fun q hq => E.tmp q (List.mem_append_left _ hq)
theorem ERo.noargs {K : PySem.W.Frag} {ow : Addr → Ow} {σ : St} {H : Hp} {ρ : Env} {T : List (D × V)} {ds : List D} {vs : List V} (E : ERo K B fl ow σ H ρ (ds.zip vs ++ T)) : ERo K B fl ow σ H ρ T := E.sub fun q hq => List.mem_append_right _ hq
/-! ### range -/
def itR1 (f : ArgF) : IterF := fun ρ => match f ρ with
  | .ok [.int j] ρ' => if cdec (-(2 ^ 62) ≤ j ∧ j < 2 ^ 62) = true then .ok (intsR 0 j.toNat) [] ρ' else .no
  | .ex x ρ' => .ex x ρ'
  | _ => .no
def itR2 (f : ArgF) : IterF := fun ρ => match f ρ with
  | .ok [.int i, .int j] ρ' => if cdec (-(2 ^ 62) ≤ i ∧ i < 2 ^ 62 ∧ -(2 ^ 62) ≤ j ∧ j < 2 ^ 62) = true then .ok (intsR i (j - i).toNat) [] ρ' else .no
  | .ex x ρ' => .ex x ρ'
  | _ => .no
theorem evA_mk {K : PySem.W.Frag} {f : ArgF} {σ : St} {H : Hp} {ρ : Env} {T : List (D × V)} {R : List V → Hp → Prop} (E : ER K B fl σ H ρ T) (hn : f ρ ≠ .no)
    (hx : ∀ x ρ', f ρ = .ex x ρ' → ∀ dx H', ER K B fl σ H' ρ' T → XOk x H' dx → W (.ref x.cls) dx σ H')
    (hR : ∀ ds ρ' ow vs H', f ρ = .ok ds ρ' → ERo K B fl ow σ H' ρ' T → Reps K (pubH ow H') ds vs → R vs H') : EvA K B W fl f σ H R := by
  refine ⟨ρ, T, E, ?_⟩
  cases e : f ρ with
  | ok ds ρ' => exact fun vs H' l ⟨ow, E'⟩ => hR ds ρ' ow vs H' e E'.noargs (E'.args l)
  | ex x ρ' => exact hx x ρ' e
  | no => exact hn e
theorem evI_no {K : PySem.W.Frag} {f : IterF} {ρ : Env} {σ : St} {R : It → Hp → Prop} {T : List (D × V)} (q : match f ρ with
  | .ok ds src ρ' => ∀ vs H' J, src.length = vs.length → ER K B fl σ H' ρ' (src.zip vs ++ T) → ItOk K J ds src vs → R J H'
  | .ex x ρ' => ∀ dx H', ER K B fl σ H' ρ' T → XOk x H' dx → W (.ref x.cls) dx σ H'
  | .no => False) : f ρ ≠ .no ∧ (∀ x ρ', f ρ = .ex x ρ' → ∀ dx H', ER K B fl σ H' ρ' T → XOk x H' dx → W (.ref x.cls) dx σ H') ∧
    ∀ ds src ρ', f ρ = .ok ds src ρ' → ∀ vs H' J, src.length = vs.length → ER K B fl σ H' ρ' (src.zip vs ++ T) → ItOk K J ds src vs → R J H' := by
  cases e : f ρ with
  | ok ds src ρ' => rw [e] at q; exact ⟨fun z => (nomatch z), fun _ _ z => (nomatch z), fun _ _ _ z => by cases z; exact q⟩
  | ex x ρ' => rw [e] at q; exact ⟨fun z => (nomatch z), fun _ _ z => by cases z; exact q, fun _ _ _ z => nomatch z⟩
  | no => rw [e] at q; exact q.elim
theorem pi_r1 {a : Expr} {f : ArgF} {p pos : Pos} (hg : Gl X "range") (hm : X.mg "range" = none) (ha : PAv X B W fl [a] f) (hs : starEach [a] X.env = [(false, eval a X.env)] := by rfl) : PIv X B W fl tg (.Call (.Name "range" p) [a] [] pos) (itR1 f) :=
  ⟨PI.weaken (pi_range1 hg hm ha.pa hs) fun σ H R ⟨ρ, T, E, q⟩ => by
    obtain ⟨hn, hx, hk⟩ := evI_no q
    refine evA_mk E (fun e => hn (by unfold itR1; rw [e])) (fun x ρ' e => hx x ρ' (by unfold itR1; rw [e])) fun ds ρ' ow vs H' e E' r => ?_
    unfold itR1 at hn
    rw [e] at hn
    split at hn
    · rename_i j ρ2 e2
      cases e2
      split at hn
      · rename_i c
        cases r with
        | cons r t =>
          cases t
          cases r
          exact ⟨j, rfl, (cdec_of c).1, (cdec_of c).2, hk _ _ _ (by first | (unfold itR1; rw [e]; exact if_pos c) | (unfold itR2; rw [e]; exact if_pos c)) [] H' _ rfl ⟨ow, E'⟩ itOk_range⟩
      · exact absurd rfl hn
    · rename_i e2; cases e2
    · exact absurd rfl hn⟩
theorem pi_r2 {a b : Expr} {f : ArgF} {p pos : Pos} (hg : Gl X "range") (hm : X.mg "range" = none) (ha : PAv X B W fl [a, b] f) (hs : starEach [a, b] X.env = [(false, eval a X.env), (false, eval b X.env)] := by rfl) (hs2 : starEach [b] X.env = [(false, eval b X.env)] := by rfl) :
    PIv X B W fl tg (.Call (.Name "range" p) [a, b] [] pos) (itR2 f) :=
  ⟨PI.weaken (pi_range2 hg hm ha.pa hs hs2) fun σ H R ⟨ρ, T, E, q⟩ => by
    obtain ⟨hn, hx, hk⟩ := evI_no q
    refine evA_mk E (fun e => hn (by unfold itR2; rw [e])) (fun x ρ' e => hx x ρ' (by unfold itR2; rw [e])) fun ds ρ' ow vs H' e E' r => ?_
    unfold itR2 at hn
    rw [e] at hn
    split at hn
    · rename_i i j ρ2 e2
      cases e2
      split at hn
      · rename_i c
        cases r with
        | cons r t => cases t with
          | cons r2 t =>
            cases t
            cases r
            cases r2
            exact ⟨i, j, rfl, cdec_of c, hk _ _ _ (by first | (unfold itR1; rw [e]; exact if_pos c) | (unfold itR2; rw [e]; exact if_pos c)) [] H' _ rfl ⟨ow, E'⟩ itOk_range⟩
      · exact absurd rfl hn
    · rename_i e2; cases e2
    · exact absurd rfl hn⟩
/-! ### targets -/
abbrev TgtF := D → Env → Option Env
structure PGv (X : Cx) (B : Bd) (fl : List Bool) (tg : Expr) (g : TG) (h : TgtF) : Prop where
  pg : PG X tg g
  run : ∀ (ow : Addr → Ow) (σ : St) (H : Hp) (ρ : Env) (T : List (D × V)) (d : D) (v : V) (ρ' : Env) (Q : St → Hp → Prop), ERo X.K B fl ow σ H ρ T → Rep X.K (pubH ow H) d v → h d ρ = some ρ' → (∀ σ', ERo X.K B fl ow σ' H ρ' T → Q σ' H) → g v σ H Q
def tgN (i : Nat) : TgtF := fun d ρ => if i < ρ.length then some (ρ.set i (some d)) else none
theorem pgv_name {i : Nat} {x : Str} {pos : Pos} (hN : X.N.Nodup) (hi : X.N[i]? = some x) (hx : Loc X.env.scope x) (hfl : fl.set i false = fl := by rfl) (hb : i ≠ 0 ∨ B.bor = [] := by first | exact Or.inl (by decide) | (exact Or.inr ‹_›))
    (hf : X.fn x = true ∨ X.env.scope.names.lookup x = some .local := by first | exact .inl rfl | exact .inr rfl | assumption) : PGv X B fl (.Name x pos) (gName i) (tgN i) :=
  ⟨pg_name hN hi hx hf, fun ow σ H ρ T d v ρ' Q E r h q => by
    unfold tgN at h
    split at h
    · rename_i l
      cases h
      have := E.set r (by rw [← E.len]; exact l) hb
      rw [hfl] at this
      exact q _ this
    · cases h⟩
def tgT2 (i j : Nat) : TgtF := fun d ρ => match d with
  | .tup [x, y] => (tgN i x ρ).bind fun ρ' => tgN j y ρ'
  | _ => none
theorem pgv_tup2 {i j k : Nat} {x y : Str} {p1 p2 pos : Pos} (hc : X.calm = true) (hN : X.N.Nodup) (hi : X.N[i]? = some x) (hx : Loc X.env.scope x) (hj : X.N[j]? = some y) (hy : Loc X.env.scope y) (hfl : fl.set i false = fl := by rfl) (hfj : fl.set j false = fl := by rfl)
    (hb : i ≠ 0 ∨ B.bor = [] := by first | exact Or.inl (by decide) | (exact Or.inr ‹_›)) (hb2 : j ≠ 0 ∨ B.bor = [] := by first | exact Or.inl (by decide) | (exact Or.inr ‹_›))
    (hf : X.fn x = true ∨ X.env.scope.names.lookup x = some .local := by first | exact .inl rfl | exact .inr rfl | assumption) (hf2 : X.fn y = true ∨ X.env.scope.names.lookup y = some .local := by first | exact .inl rfl | exact .inr rfl | assumption) :
    PGv X B fl (.Tuple [.Name x p1, .Name y p2] k pos) (gTup X.K 2 (gCons (gName i) (gCons (gName j) gNil))) (tgT2 i j) :=
  ⟨pg_tup (n := 2) hc (pgs_cons (pg_name hN hi hx hf) (pgs_cons (pg_name hN hj hy hf2) pgs_nil)), fun ow σ H ρ T d v ρ' Q E r h q => by
    unfold tgT2 at h
    split at h
    · rename_i d1 d2
      cases r with
      | tup e rs =>
        cases rs with
        | cons r1 t => cases t with
          | cons r2 t =>
            cases t
            obtain ⟨ρ1, h1, h2⟩ := Option.bind_eq_some_iff.mp h
            refine ⟨_, _, rfl, SqT.of (hide_sub _ _ e), rfl, _, _, rfl, ?_⟩
            refine (pgv_name (B := B) (fl := fl) hN hi hx hfl hb hf (pos := p1)).run ow σ H ρ T d1 _ ρ1 _ E r1 h1 fun σ1 E1 => ⟨_, _, rfl, ?_⟩
            exact (pgv_name (B := B) (fl := fl) hN hj hy hfj hb2 hf2 (pos := p2)).run ow σ1 H ρ1 T d2 _ ρ' _ E1 r2 h2 fun σ2 E2 => ⟨rfl, q _ E2⟩
    · cases h⟩
/-! ### for -/
def forL (h : TgtF) (body : StF) : List D → StF
  | [], ρ => .nx ρ
  | d :: ds, ρ => match h d ρ with
    | some ρ1 => match body ρ1 with
      | .nx ρ2 => forL h body ds ρ2
      | .ct ρ2 => forL h body ds ρ2
      | .bk ρ2 => .nx ρ2
      | r => r
    | none => .no
def forS (f : IterF) (h : TgtF) (body : StF) : StF := fun ρ => match f ρ with
  | .ok ds _ ρ1 => forL h body ds ρ1
  | .ex x ρ1 => .ex x ρ1
  | .no => .no
theorem psv_for {iter : Expr} {body : List Stmt} {f : IterF} {g : TG} {h : TgtF} {fb : StF} {pos : Pos} (hp : PassesOwn (model X.prog X.w) X.A X.env X.xe) (hc : X.calm = true) (hi : PIv X B W fl tg iter f) (hg : PGv X B fl tg g h) (hb : PBv X B W fl fl fl body fb)
    (hs : ∀ x, foldedSetIterable iter X.env x = pure x := by intro _; rfl) : PSv X B W flL fl fl (.For tg iter body [] pos) (forS f h fb) :=
  PS.svT (ps_for hp hc hi.pi hg.pg hb.ps hs) fun D σ H ρ T E q => by
    refine ⟨ρ, T, E, ?_⟩
    unfold forS at q
    cases e : f ρ with
    | ok ds src ρ1 =>
      rw [e] at q
      intro v H1 J lv E1 ok
      refine ⟨fun i m σ H => m = ds.length - i ∧ i ≤ ds.length ∧ ∃ ρ, ER X.K B fl σ H ρ (src.zip v ++ T) ∧ OutQ X.K B W fl flL T D (forL h fb (ds.drop i) ρ), ⟨ds.length, rfl, Nat.zero_le _, ρ1, E1, q⟩, ?_⟩
      rintro i m σ H ⟨rfl, hi, ρ, ⟨ow, E⟩, q⟩
      by_cases hlt : i < ds.length
      · refine .inr ⟨ok.go _ H i E.live (E.args lv) hlt, fun σ' H' => ∃ ρ, ER X.K B fl σ' H' ρ (src.zip v ++ T) ∧ OutQ X.K B W fl flL T D (forL h fb (ds.drop (i + 1)) ρ), fun σ' H' h => ⟨ds.length - (i + 1), by omega, rfl, hlt, h⟩, fun x H' y => ?_⟩
        obtain ⟨s, d, e1, r⟩ := ok.yld _ H i x H' E.live (E.args lv) hlt y
        have e2 : ds.drop i = d :: ds.drop (i + 1) := by
          rw [List.drop_eq_getElem_cons hlt]
          rw [List.getElem?_eq_getElem hlt] at e1
          cases e1; rfl
        rw [e2] at q
        unfold forL at q
        cases e3 : h d ρ with
        | none => rw [e3] at q; exact q.elim
        | some ρ1 =>
          rw [e3] at q
          dsimp only at q
          refine hg.run ow σ H' ρ _ d x ρ1 _ (E.mono s) r e3 fun σ2 E2 => svT_mk ⟨ow, E2⟩ ?_
          cases e4 : fb ρ1 with
          | nx ρ2 => rw [e4] at q; exact fun σ' H' E' => ⟨ρ2, E', q⟩
          | ct ρ2 => rw [e4] at q; exact fun σ' H' E' => ⟨ρ2, E', q⟩
          | bk ρ2 => rw [e4] at q; exact fun σ' H' E' => q σ' H' (E'.sub fun p hp => List.mem_append_right _ hp)
          | rt d ρ2 => rw [e4] at q; exact q
          | ex x ρ2 => rw [e4] at q; exact fun dx σ' H' fl'' E' z => q dx σ' H' fl'' (E'.sub fun p hp => List.mem_append_right _ hp) z
          | no => rw [e4] at q; exact q
      · have : i = ds.length := by omega
        subst this
        rw [List.drop_length] at q
        exact .inl ⟨ok.stop _ H E.live (E.args lv), q σ H ⟨ow, E.noargs⟩⟩
    | ex x ρ1 => rw [e] at q; exact fun dx H' E' z => q dx σ H' fl E' z
    | no => rw [e] at q; exact q.elim
end
end Pv

/-! Pv6: names, displays, calls, changes of held objects, defs. -/
noncomputable section
namespace Pv
open PySem PySem.Spec L2
open PyProof.Rows hiding St
theorem takesN {X : Cx} : L2N.Takes X (fun _ _ _ _ => False) := fun _ _ h => by
  obtain ⟨_, _, _, _, _, _, _, _, _, _, _, _, _, _, _, _, z⟩ := h
  exact z.elim

section
variable {X : Cx} {B : Bd} {W : WX} {fl fl1 fl' flL : List Bool} {pos : Pos}
/-! ### names, constants -/
def var (i : Nat) : ValF := fun ρ => look ρ i fun d => .ok d ρ
def cst (d : D) : ValF := fun ρ => .ok d ρ
theorem pv_var {e : Expr} {i : Nat} (h : PE X e (tVar i)) (hf : fl[i]? = some false := by rfl) : PV X B W fl e (var i) :=
  ⟨PE.weaken h fun σ H Q ⟨ρ, T, E, q⟩ => by
    unfold var look at q
    cases e : (ρ[i]? : Option (Option D)) with
    | none => rw [e] at q; exact q.elim
    | some r =>
      rw [e] at q
      cases r with
      | none => exact q.elim
      | some d =>
        obtain ⟨ow, E⟩ := E
        obtain ⟨v, e1, r⟩ := E.sh i d e (by rw [hf]; exact fun z => nomatch z)
        exact ⟨v, e1, q v H ⟨ow, E.push r⟩⟩⟩
theorem po_slot {e : Expr} {i : Nat} (h : PE X e (tVar i)) : POp X B W fl e (.s i) := ⟨h⟩
theorem po_v {e : Expr} {f : ValF} (h : PV X B W fl e f) : POp X B W fl e (.v f) := ⟨h.pe⟩
theorem pv_cst {e : Expr} {d : D} {v : V} (h : PE X e (tC v)) (r : ∀ K h, Rep K h d v) : PV X B W fl e (cst d) :=
  ⟨PE.weaken h fun σ H Q ⟨ρ, T, ⟨ow, E⟩, q⟩ => q v H ⟨ow, E.push (r _ _)⟩⟩
theorem pv_int {i : Int} {j : Nat} : PV X B W fl (.Constant (.int i) j pos) (cst (.int i)) := pv_cst pe_int fun _ _ => .int i
theorem pv_bl {b : Bool} {j : Nat} : PV X B W fl (.Constant (.bool b) j pos) (cst (.bl b)) := pv_cst pe_bl fun _ _ => .bl b
theorem pv_non {j : Nat} : PV X B W fl (.Constant .none j pos) (cst .non) := pv_cst pe_non fun _ _ => .non
theorem pv_str {x : Str} {j : Nat} (cs : List Nat) (h : x = ⟨cs.toArray⟩ := by rfl) : PV X B W fl (.Constant (.str x) j pos) (cst (.str cs)) := pv_cst pe_str fun _ _ => by rw [h]; exact .str cs
/-! ### operations -/
theorem pv_op2 {e : Expr} {r : R2} {g : D → D → Option D} {o o' : Opd} (h : PE X e (tOp r (EvO X.K B W fl o) (EvO X.K B W fl o'))) (hg : Op2 X.K r g) : PV X B W fl e (bin2 o o' g) := ⟨PE.weaken h fun σ H Q q => hg.w q⟩
theorem pf_op2 {e : Expr} {r : R2} {g : D → D → Option D} {o o' : Opd} (h : PE X e (tOp r (EvO X.K B W fl o) (EvO X.K B W fl o'))) (hg : Op2F X.K r g) : PF X B W fl e (bin2 o o' g) := ⟨PE.weaken h fun σ H Q q => hg.w q⟩
theorem pv_op1 {e : Expr} {r : V → Hp → VK → Prop} {g : D → Option D} {o : Opd} (h : PE X e (tUn r (EvO X.K B W fl o))) (hg : Op1 X.K r g) : PV X B W fl e (un1 o g) := ⟨PE.weaken h fun σ H Q q => hg.w q⟩
theorem pf_op1 {e : Expr} {r : V → Hp → VK → Prop} {g : D → Option D} {o : Opd} (h : PE X e (tUn r (EvO X.K B W fl o))) (hg : Op1F X.K r g) : PF X B W fl e (un1 o g) := ⟨PE.weaken h fun σ H Q q => hg.w q⟩
/-! ### displays -/
def tupF (fa : ArgF) : ValF := fun ρ => match fa ρ with
  | .ok ds ρ' => if ds.length ≤ lim then .ok (.tup ds) ρ' else .no
  | .ex x ρ' => .ex x ρ'
  | .no => .no
def lstF (fa : ArgF) : ValF := fun ρ => match fa ρ with
  | .ok ds ρ' => if ds.length ≤ lim then .ok (.lst ds) ρ' else .no
  | .ex x ρ' => .ex x ρ'
  | .no => .no
theorem pv_tup {es : List Expr} {x1 : Nat} {fa : ArgF} (h : PAv X B W fl es fa) : PV X B W fl (.Tuple es x1 pos) (tupF fa) :=
  ⟨PE.weaken (pe_tup h.pa) fun σ H Q ⟨ρ, T, E, q⟩ => by
    obtain ⟨hn, hx, hk⟩ := evT_no q
    refine evA_mk E (fun e => hn (by unfold tupF; rw [e])) (fun x ρ' e => hx x ρ' (by unfold tupF; rw [e])) fun ds ρ' ow vs H' e E' r => ?_
    by_cases c : ds.length ≤ lim
    · have e1 : tupF fa ρ = .ok (.tup ds) ρ' := by unfold tupF; rw [e]; exact if_pos c
      refine ⟨by rw [← r.length]; exact lim_line c, fun p hp => ?_⟩
      exact hk _ _ e1 _ _ ⟨ow, (E'.mono (same_new hp)).push (.tup (hide_some.mpr ⟨fun z => z (E'.fresh hp), upd_same⟩) (r.mono (new_sub hp)))⟩
    · exact absurd (by unfold tupF; rw [e]; exact if_neg c) hn⟩
theorem pf_lst {es : List Expr} {fa : ArgF} (h : PAv X B W fl es fa) : PF X B W fl (.List es pos) (lstF fa) :=
  ⟨PE.weaken (pe_lst h.pa) fun σ H Q ⟨ρ, T, E, q⟩ => by
    obtain ⟨hn, hx, hk⟩ := evF_no q
    refine evA_mk E (fun e => hn (by unfold lstF; rw [e])) (fun x ρ' e => hx x ρ' (by unfold lstF; rw [e])) fun ds ρ' ow vs H' e E' r => ?_
    by_cases c : ds.length ≤ lim
    · have e1 : lstF fa ρ = .ok (.lst ds) ρ' := by unfold lstF; rw [e]; exact if_pos c
      refine ⟨by rw [← r.length]; exact lim_line c, fun p hp => ?_⟩
      obtain ⟨E2, o2⟩ := E'.hold (d := .lst ds) hp (same_new (o := .lst vs) hp) ⟨vs, upd_same, r.mono (fresh_sub hp)⟩
      exact hk _ _ e1 _ _ _ E2 o2
    · exact absurd (by unfold lstF; rw [e]; exact if_neg c) hn⟩
/-! ### a held object changes -/
theorem ERo.change {K : PySem.W.Frag} {ow : Addr → Ow} {σ : St} {H H' : Hp} {ρ : Env} {T : List (D × V)} (E : ERo K B fl ow σ H ρ T) {k : Nat} {p : Addr} {d' : D} (hf : fl[k]? = some true) (hσ : σ[k]? = some (some (.ref p)))
    (keep : ∀ a o, ow a ≠ .slot k → H a = some o → H' a = some o) (live : ∀ a, ow a = .slot k → MuH H' a) (own : OwnAt K H' ow (.slot k) p d') : ERo K B fl ow σ H' (ρ.set k (some d')) T where
  len := by rw [List.length_set]; exact E.len
  fll := E.fll
  frame := E.frame
  live := fun a q => by
    by_cases e : ow a = .slot k
    · exact (live a e).1
    · intro z
      cases e2 : H a with
      | none => exact E.live a q e2
      | some o => rw [keep a o e e2] at z; cases z
  nt := fun a vs h => by
    cases e0 : ow a with
    | pub => rfl
    | _ =>
      have n1 : ow a ≠ .pub := by rw [e0]; exact fun z => nomatch z
      by_cases e : ow a = .slot k
      · exact absurd h ((live a e).2 vs)
      · exact absurd h (((E.mu n1).mono fun o q => keep a o e q).2 vs)
  sh := fun j d h1 h2 => by
    rcases get_set h1 with ⟨rfl, _, _⟩ | ⟨ne, q⟩
    · exact absurd hf h2
    · obtain ⟨v, e, r⟩ := E.sh j d q h2
      exact ⟨v, e, r.mono fun a o h => by
        obtain ⟨h3, h4⟩ := hide_some.mp h
        exact hide_some.mpr ⟨h3, keep a o (fun z => h3 (by rw [z]; exact fun z => nomatch z)) h4⟩⟩
  hd := fun j d h1 h2 => by
    rcases get_set h1 with ⟨rfl, q, _⟩ | ⟨ne, q⟩
    · cases q; exact ⟨p, hσ, own⟩
    · obtain ⟨q', e, o⟩ := E.hd j d q h2
      refine ⟨q', e, ?_⟩
      have k1 : ∀ a o, ow a = .slot j → H a = some o → H' a = some o := fun a o h => keep a o (by rw [h]; intro z; cases z; exact ne rfl)
      have s : Same (pubH ow H) (pubH ow H') := fun a o h => by
        obtain ⟨h3, h4⟩ := hide_some.mp h
        exact hide_some.mpr ⟨h3, keep a o (fun z => h3 (by rw [z]; exact fun z => nomatch z)) h4⟩
      exact o.gen k1 s fun _ e => e
  new := E.new
  same := fun a o h1 h2 => by
    refine keep a o (fun z => ?_) (E.same a o h1 h2)
    rcases E.new a (by rw [z]; exact fun z => nomatch z) (by rw [z]; exact fun z => nomatch z) with h | h
    · rw [h1] at h; cases h
    · exact h2 h
  tmp := fun q hq => (E.tmp q hq).mono fun a o h => by
    obtain ⟨h3, h4⟩ := hide_some.mp h
    exact hide_some.mpr ⟨h3, keep a o (fun z => h3 (by rw [z]; exact fun z => nomatch z)) h4⟩
  bown := E.bown
  b0 := E.b0
/-- .. the one object at p -/
theorem ERo.change1 {K : PySem.W.Frag} {ow : Addr → Ow} {σ : St} {H : Hp} {ρ : Env} {T : List (D × V)} (E : ERo K B fl ow σ H ρ T) {k : Nat} {p : Addr} {o : HO} {d' : D} (hf : fl[k]? = some true) (hσ : σ[k]? = some (some (.ref p))) (hp : ow p = .slot k)
    (own : OwnAt K (upd H p o) ow (.slot k) p d') (nt : ∀ vs, o ≠ .tup vs := by exact fun _ z => nomatch z) : ERo K B fl ow σ (upd H p o) (ρ.set k (some d')) T :=
  E.change hf hσ (fun a u h1 h2 => by rw [upd_ne (fun z => h1 (by rw [z]; exact hp))]; exact h2) (fun a h1 => by
    by_cases e : a = p
    · subst e
      refine ⟨?_, fun vs z => ?_⟩
      · rw [upd_same]; exact fun z => nomatch z
      · rw [upd_same] at z
        cases z
        exact nt vs rfl
    · exact (E.mu (by rw [h1]; exact fun z => nomatch z)).mono fun u q => by rw [upd_ne e]; exact q) own
theorem pubH_upd {ow : Addr → Ow} {H : Hp} {p : Addr} {o : HO} (h : ow p ≠ .pub) : pubH ow (upd H p o) = pubH ow H := hide_upd h
/-- x.append(e) -/
def appS (k : Nat) (f : ValF) : StF := fun ρ => match (ρ[k]? : Option (Option D)) with
  | some (some (.lst _)) => (f ρ).out fun d ρ' => match (ρ'[k]? : Option (Option D)) with
    | some (some (.lst xs)) => if xs.length < lim then .nx (ρ'.set k (some (.lst (xs ++ [d])))) else .no
    | _ => .no
  | _ => .no
theorem psv_append {o e : Expr} {f : ValF} {k : Nat} {p1 p2 : Pos} (mk : ∀ te, PE X e te → PE X (.Call (.Attribute o "append" p1) [e] [] p2) (tBM X.K "list" rAppend (tVar k) (tCons te tNil))) (he : PV X B W fl e f) (hf : fl[k]? = some true := by rfl)
    (hs : swapsWith (.Call (.Attribute o "append" p1) [e] [] p2) none pos.line X.env = pure false := by rfl) : PSv X B W flL fl fl (.Expr (.Call (.Attribute o "append" p1) [e] [] p2) pos) (appS k f) :=
  PS.svT (ps_expr (mk _ he.pe) hs) fun D σ H ρ T E q => by
    unfold appS at q
    split at q
    · rename_i xs0 e0
      obtain ⟨ow0, E0⟩ := id E
      obtain ⟨p, e1, o0⟩ := E0.hd k _ e0 hf
      obtain ⟨_, vs0, h0, _⟩ := o0
      refine ⟨_, e1, .inl ⟨rfl, _, .inl (.inl h0)⟩, ?_⟩
      refine evT_out E q fun d ρ' ow v H' e E' r q => ?_
      split at q
      · rename_i xs e3
        split at q
        · rename_i c
          obtain ⟨p', e4, o1⟩ := E'.hd k _ e3 hf
          rw [e1] at e4; cases e4
          obtain ⟨h1, vs, h2, h3⟩ := o1
          refine ⟨p, vs, v, rfl, rfl, h2, by rw [← h3.length]; exact lim_lt (by omega), ?_⟩
          refine q _ _ ⟨ow, E'.change1 hf e1 h1 ⟨h1, _, upd_same, ?_⟩⟩
          rw [pubH_upd (by rw [h1]; exact fun z => nomatch z)]
          exact h3.append (.cons r .nil)
        · exact q.elim
      · exact q.elim
    · exact q.elim
/-- x.pop() -/
def popV (k : Nat) : ValF := fun ρ => match (ρ[k]? : Option (Option D)) with
  | some (some (.lst xs)) => match xs[xs.length - 1]? with
    | some d => .ok d (ρ.set k (some (.lst xs.dropLast)))
    | none => .no
  | _ => .no
theorem pv_pop {o : Expr} {k : Nat} {p1 p2 : Pos} (mk : PE X (.Call (.Attribute o "pop" p1) [] [] p2) (tBM0 X.K "list" rPop (tVar k))) (hf : fl[k]? = some true := by rfl) : PV X B W fl (.Call (.Attribute o "pop" p1) [] [] p2) (popV k) :=
  ⟨PE.weaken mk fun σ H Q ⟨ρ, T, ⟨ow, E⟩, q⟩ => by
    unfold popV at q
    cases e0 : (ρ[k]? : Option (Option D)) with
    | none => rw [e0] at q; exact q.elim
    | some r0 =>
      rw [e0] at q
      cases r0 with
      | none => exact q.elim
      | some d0 =>
        cases d0 with
        | lst xs =>
          dsimp only at q
          cases e1 : xs[xs.length - 1]? with
          | none => rw [e1] at q; exact q.elim
          | some d =>
            rw [e1] at q
            obtain ⟨p, e2, h1, vs, h2, h3⟩ := E.hd k _ e0 hf
            obtain ⟨v, e3, r⟩ := h3.get e1
            refine ⟨_, e2, .inl ⟨rfl, _, .inl (.inl h2)⟩, p, vs, v, rfl, rfl, h2, by rw [← h3.length]; exact e3, ?_⟩
            refine q _ _ ⟨ow, (E.change1 (d' := .lst xs.dropLast) (o := .lst vs.dropLast) hf e2 h1 ⟨h1, _, upd_same, ?_⟩).push ?_⟩
            · rw [pubH_upd (by rw [h1]; exact fun z => nomatch z)]; exact h3.dropLast
            · rw [pubH_upd (by rw [h1]; exact fun z => nomatch z)]; exact r
        | _ => exact q.elim⟩
end
/-! ### promises -/
inductive PRes where
  | rt (d : D) | ex (x : Exc) | no
inductive RRes where
  | rt (d : D) (r : D) | no
def spP (K : PySem.W.Frag) (fr : Bool) (n : Nat) (F : List D → PRes) : Sp := fun vs H Q E => vs.length = n ∧ ∃ (M : Addr → Prop) (ds : List D), (∀ a, M a → MuH H a) ∧ Reps K (hide M H) ds vs ∧ match F ds with
  | .rt d => ∀ v H', Same H H' → RetV K fr M H H' d v → Q v H'
  | .ex x => ∀ dx H', Same H H' → XOk x H' dx → E (.ref x.cls) dx H'
  | .no => False
def spR (K : PySem.W.Frag) (n : Nat) (F : D → List D → RRes) : Sp := fun vs H Q _ => vs.length = n + 1 ∧ ∃ (M : Addr → Prop) (ds : List D) (p la : Addr) (s : Int) (cs : List Int) (i : Int) (us : List V), vs = .ref p :: us ∧ (∀ a, M a → MuH H a) ∧ ¬ M p ∧ ¬ M la ∧ la ≠ p ∧
  H p = some (.lst [.int s, .ref la, .int i]) ∧ H la = some (.lst (cs.map V.int)) ∧ Reps K (hide (fun a => M a ∨ a ∈ [p, la]) H) ds us ∧ match F (.rnd la s cs i) ds with
  | .rt d (.rnd la' s' cs' i') => la' = la ∧ ∀ v H', (∀ a o, H a = some o → a ∉ [p, la] → H' a = some o) → BAt K (fun a => M a ∨ a ∈ [p, la]) H' p (.rnd la s' cs' i') → Rep K (hide (fun a => M a ∨ a ∈ [p, la]) H') d v → Q v H'
  | _ => False
def envP (N : Nat) (ds : List D) : Env := ds.map some ++ List.replicate (N - ds.length) none
def mkP (N : Nat) (f : StF) : List D → PRes := fun ds => match f (envP N ds) with
  | .rt d _ => .rt d
  | .nx _ => .rt .non
  | .ex x _ => .ex x
  | _ => .no
def mkPf (N : Nat) (f : StF) : List D → PRes := fun ds => match f (envP N ds) with
  | .rt d _ => .rt d
  | .ex x _ => .ex x
  | _ => .no
def mkR (N : Nat) (f : StF) : D → List D → RRes := fun r ds => match f (envP N (r :: ds)) with
  | .rt d ρ => match (ρ[0]? : Option (Option D)) with
    | some (some r') => .rt d r'
    | _ => .no
  | _ => .no
theorem start_len {N : List Str} {vs : List V} (h : vs.length ≤ N.length) : (L2.start N vs).length = N.length := by
  unfold L2.start
  rw [List.length_append, List.length_map, List.length_replicate]; omega
theorem envP_len {N : Nat} {ds : List D} (h : ds.length ≤ N) : (envP N ds).length = N := by
  unfold envP
  rw [List.length_append, List.length_map, List.length_replicate]; omega
theorem env_get {N : Nat} {ds : List D} {i : Nat} {d : D} (h : (envP N ds)[i]? = some (some d)) : ds[i]? = some d := by
  unfold envP at h
  rw [List.getElem?_append] at h
  split at h
  · rw [List.getElem?_map] at h
    cases e : ds[i]? with
    | none => rw [e] at h; cases h
    | some x => rw [e] at h; cases h; rfl
  · rw [List.getElem?_replicate] at h
    split at h <;> cases h
theorem start_get {N : List Str} {vs : List V} {i : Nat} {v : V} (h : vs[i]? = some v) : (L2.start N vs)[i]? = some (some v) := by
  unfold L2.start
  have hl : i < vs.length := (List.getElem?_eq_some_iff.mp h).1
  rw [List.getElem?_append_left (by rw [List.length_map]; exact hl), List.getElem?_map, h]; rfl
open Classical in
theorem ero_start {K : PySem.W.Frag} {N : List Str} {ds : List D} {vs : List V} {H : Hp} {M : Addr → Prop} {fr : Bool} (hl : vs.length ≤ N.length) (hM : ∀ a, M a → MuH H a) (r : Reps K (hide M H) ds vs) :
    ERo K ⟨M, H, [], fr⟩ (List.replicate N.length false) (fun a => if M a then .frame else .pub) (L2.start N vs) H (envP N.length ds) [] where
  len := by rw [envP_len (by rw [r.length]; exact hl), start_len hl]
  fll := by rw [List.length_replicate, start_len hl]
  frame := fun a h => if_pos h
  live := fun a q => by
    by_cases h : M a
    · exact (hM a h).1
    · exact absurd (if_neg h) q
  nt := fun a vs z => by
    by_cases h : M a
    · exact absurd z ((hM a h).2 vs)
    · exact if_neg h
  sh := fun i d h1 h2 => by
    obtain ⟨v, e, r⟩ := r.get (env_get h1)
    refine ⟨v, start_get e, r.mono (hide_same (Same.refl _) fun a q _ => ?_)⟩
    by_cases h : M a
    · exact h
    · exact absurd (if_neg h) q
  hd := fun i d h1 h2 => by
    rw [List.getElem?_replicate] at h2
    split at h2 <;> cases h2
  new := fun a q1 q2 => by
    by_cases h : M a
    · exact absurd (if_pos h) q2
    · exact absurd (if_neg h) q1
  same := fun a o h _ => h
  tmp := fun q hq => nomatch hq
  bown := fun a h => nomatch h
  b0 := fun p h => nomatch h
/-- a def -/
theorem fn_P {P : Program} {w : World} {K : PySem.W.Frag} {mg : Str → Option Value} {base : Heap} {x qual : Str} {params : Arguments} {body : List Stmt} {scope : Scope} {f : Addr} {fd : FuncData} {N ps : List Str} {k n : Nat} {fS : StF} {fl' : List Bool}
    (F : FunD K x qual params body scope [] [] f fd) (S : FnScope N ps scope) (hn : ps.length = n) (hN : n ≤ N.length)
    (hb : ∀ (cdv : Value) (A : Around) (outer : List PySem.Env) (s : Shared) (H : Hp) (E : XK) (B : Bd), B.bor = [] → B.fr = false → Room k (A.deeper (envOfC qual scope s.heap.objs.size f cdv)) →
      PBv (cxOf (L2N.CX P w) P w K mg base N qual scope f cdv A outer s H E) B (fun cls d _ H => E cls d H) [] (List.replicate N.length false) fl' body fS) :
    FnOk P w K mg base (L2N.CX P w) (k + 1) f fd ps (spP K false n (mkP N.length fS)) := by
  refine F.ok S (fun vs H Q E h => by rw [hn]; exact h.1) fun cdv A outer s H vs Q E hr h => ?_
  obtain ⟨hl, M, ds, hM, r, q⟩ := h
  refine ⟨_, (hb cdv A outer s H E ⟨M, H, [], false⟩ rfl rfl hr).ps, ?_⟩
  refine svT_mk (T := []) (ρ := envP N.length ds) ⟨_, ero_start (by omega) hM r⟩ ?_
  unfold mkP at q
  have ret : ∀ d ρ' v H', RetOk K ⟨M, H, [], false⟩ d ρ' v H' → Same H H' ∧ RetV K false M H H' d v := fun d ρ' v H' o => by
    refine ⟨fun a u e => o.1 a u e (fun z => nomatch z), ?_⟩
    have := o.2.1
    unfold RetV at this ⊢
    dsimp only at this
    rw [if_neg Bool.false_ne_true] at this ⊢
    exact this.mono (hide_same (Same.refl _) fun a q _ => .inl q)
  cases e : fS (envP N.length ds) with
  | nx ρ' =>
    rw [e] at q
    intro σ' H' ⟨ow, E'⟩
    refine q _ _ (fun a u e => E'.same a u e (fun z => nomatch z)) ?_
    unfold RetV
    rw [if_neg Bool.false_ne_true]
    exact .non
  | rt d ρ' => rw [e] at q; exact fun v H' o => q v H' (ret d ρ' v H' o).1 (ret d ρ' v H' o).2
  | ex x ρ' => rw [e] at q; exact fun dx σ' H' fl'' ⟨ow, E'⟩ z => q dx H' (fun a u e => E'.same a u e (fun z => nomatch z)) z
  | bk ρ' => rw [e] at q; exact q.elim
  | ct ρ' => rw [e] at q; exact q.elim
  | no => rw [e] at q; exact q.elim
theorem fn_Pf {P : Program} {w : World} {K : PySem.W.Frag} {mg : Str → Option Value} {base : Heap} {x qual : Str} {params : Arguments} {body : List Stmt} {scope : Scope} {f : Addr} {fd : FuncData} {N ps : List Str} {k n : Nat} {fS : StF} {fl' : List Bool}
    (F : FunD K x qual params body scope [] [] f fd) (S : FnScope N ps scope) (hn : ps.length = n) (hN : n ≤ N.length)
    (hb : ∀ (cdv : Value) (A : Around) (outer : List PySem.Env) (s : Shared) (H : Hp) (E : XK) (B : Bd), B.bor = [] → B.fr = true → Room k (A.deeper (envOfC qual scope s.heap.objs.size f cdv)) →
      PBv (cxOf (L2N.CX P w) P w K mg base N qual scope f cdv A outer s H E) B (fun cls d _ H => E cls d H) [] (List.replicate N.length false) fl' body fS) :
    FnOk P w K mg base (L2N.CX P w) (k + 1) f fd ps (spP K true n (mkPf N.length fS)) := by
  refine F.ok S (fun vs H Q E h => by rw [hn]; exact h.1) fun cdv A outer s H vs Q E hr h => ?_
  obtain ⟨hl, M, ds, hM, r, q⟩ := h
  refine ⟨_, (hb cdv A outer s H E ⟨M, H, [], true⟩ rfl rfl hr).ps, ?_⟩
  refine svT_mk (T := []) (ρ := envP N.length ds) ⟨_, ero_start (by omega) hM r⟩ ?_
  unfold mkPf at q
  have ret : ∀ d ρ' v H', RetOk K ⟨M, H, [], true⟩ d ρ' v H' → Same H H' ∧ RetV K true M H H' d v := fun d ρ' v H' o => by
    refine ⟨fun a u e => o.1 a u e (fun z => nomatch z), ?_⟩
    have := o.2.1
    unfold RetV at this ⊢
    dsimp only at this
    rw [if_pos rfl] at this ⊢
    have eN : (fun a => M a ∨ a ∈ ([] : List Addr)) = M := funext fun a => propext (Iff.intro (fun z => z.elim id fun y => nomatch y) Or.inl)
    rw [eN] at this
    exact this
  cases e : fS (envP N.length ds) with
  | nx ρ' => rw [e] at q; exact q.elim
  | rt d ρ' => rw [e] at q; exact fun v H' o => q v H' (ret d ρ' v H' o).1 (ret d ρ' v H' o).2
  | ex x ρ' => rw [e] at q; exact fun dx σ' H' fl'' ⟨ow, E'⟩ z => q dx H' (fun a u e => E'.same a u e (fun z => nomatch z)) z
  | bk ρ' => rw [e] at q; exact q.elim
  | ct ρ' => rw [e] at q; exact q.elim
  | no => rw [e] at q; exact q.elim
/-! ### calls -/
def callP (F : List D → PRes) (fa : ArgF) : ValF := fun ρ => match fa ρ with
  | .ok ds ρ' => match F ds with
    | .rt d => .ok d ρ'
    | .ex x => .ex x ρ'
    | .no => .no
  | .ex x ρ' => .ex x ρ'
  | .no => .no
section
variable {X : Cx} {B : Bd} {W : WX} {fl fl1 fl' flL : List Bool} {pos : Pos}
theorem pv_call {k n : Nat} {f : Addr} {fd : FuncData} {ps : List Str} {F : List D → PRes} {x : Str} {p : Pos} {e : Expr} {es : List Expr} {fa : ArgF} (G : FnOk X.prog X.w X.K X.mg X.base (L2N.CX X.prog X.w) k f fd ps (spP X.K false n F)) (hr : Room k X.A) (hg : Gl X x) (hm : X.mg x = some (.ref f))
    (hk : PySem.W.keepIn X.K (.ref f) = true) (hb : Binds X.K fd ps []) (tk : L2N.Takes X W) (ha : PAv X B W fl (e :: es) fa) (hn0 : (e :: es).length = n := by rfl) (hdb : (x == ("__debug__" : Str)) = false := by decide) (he : starEach (e :: es) X.env = (false, eval e X.env) :: starEach es X.env := by rfl)
    (hpl : (backTo pos (starEach es X.env)).any (·.1) = false := by rfl) : PV X B W fl (.Call (.Name x p) (e :: es) [] pos) (callP F fa) :=
  ⟨PE.weaken (pe_callS G hr hg hm hk hb (fun σ => L2N.passAt tk σ) ha.pa hdb he hpl) fun σ H Q ⟨ρ, T, E, q⟩ => by
    obtain ⟨hn, hx, hk⟩ := evT_no q
    refine evA_mk E (fun e => hn (by unfold callP; rw [e])) (fun x ρ' e => hx x ρ' (by unfold callP; rw [e])) fun ds ρ' ow vs H' e E' r => ?_
    refine ⟨by rw [← r.length, ha.len _ _ _ e]; exact hn0, fun a => ow a ≠ .pub, ds, fun a h => E'.mu h, r, ?_⟩
    cases e1 : F ds with
    | rt d =>
      intro v H'' s rv
      unfold RetV at rv
      rw [if_neg Bool.false_ne_true] at rv
      exact hk d ρ' (by unfold callP; rw [e]; dsimp only; rw [e1]) v H'' ⟨ow, (E'.mono s).push rv⟩
    | ex x => exact fun dx H'' s z => hx x ρ' (by unfold callP; rw [e]; dsimp only; rw [e1]) dx H'' ⟨ow, E'.mono s⟩ z
    | no => exact hn (by unfold callP; rw [e]; dsimp only; rw [e1])⟩
end
end Pv

/-! Pv7: items, slices, built-ins of one and two values. -/
noncomputable section
namespace Pv
open PySem PySem.Spec L2
open PyProof.Rows hiding St

/-! ### lists of one kind -/
def asInts : List D → Option (List Int)
  | [] => some []
  | .int i :: ds => (asInts ds).map (i :: ·)
  | _ => none
def asBls : List D → Option (List Bool)
  | [] => some []
  | .bl i :: ds => (asBls ds).map (i :: ·)
  | _ => none
def asStrs : List D → Option (List (List Nat))
  | [] => some []
  | .str i :: ds => (asStrs ds).map (i :: ·)
  | _ => none
@[simp] theorem asInts_map (ns : List Int) : asInts (ns.map D.int) = some ns := by induction ns with
  | nil => rfl
  | cons n ns ih => rw [List.map_cons]; unfold asInts; rw [ih]; rfl
@[simp] theorem asBls_map (ns : List Bool) : asBls (ns.map D.bl) = some ns := by induction ns with
  | nil => rfl
  | cons n ns ih => rw [List.map_cons]; unfold asBls; rw [ih]; rfl
@[simp] theorem asStrs_map (ns : List (List Nat)) : asStrs (ns.map D.str) = some ns := by induction ns with
  | nil => rfl
  | cons n ns ih => rw [List.map_cons]; unfold asStrs; rw [ih]; rfl
theorem asInts_eq : ∀ {ds : List D} {ns : List Int}, asInts ds = some ns → ds = ns.map D.int
  | [], ns, h => by cases h; rfl
  | d :: ds, ns, h => by
    cases d <;> first | (unfold asInts at h; cases h; done) | skip
    unfold asInts at h
    cases e : asInts ds with
    | none => rw [e] at h; cases h
    | some ms => rw [e] at h; cases h; rw [asInts_eq e]; rfl
theorem asBls_eq : ∀ {ds : List D} {ns : List Bool}, asBls ds = some ns → ds = ns.map D.bl
  | [], ns, h => by cases h; rfl
  | d :: ds, ns, h => by
    cases d <;> first | (unfold asBls at h; cases h; done) | skip
    unfold asBls at h
    cases e : asBls ds with
    | none => rw [e] at h; cases h
    | some ms => rw [e] at h; cases h; rw [asBls_eq e]; rfl
theorem asStrs_eq : ∀ {ds : List D} {ns : List (List Nat)}, asStrs ds = some ns → ds = ns.map D.str
  | [], ns, h => by cases h; rfl
  | d :: ds, ns, h => by
    cases d <;> first | (unfold asStrs at h; cases h; done) | skip
    unfold asStrs at h
    cases e : asStrs ds with
    | none => rw [e] at h; cases h
    | some ms => rw [e] at h; cases h; rw [asStrs_eq e]; rfl
section
variable {K : PySem.W.Frag}
/-! ### x[i] -/
def idxD : D → D → Option D
  | .lst xs, .int i => atI xs i
  | .tup xs, .int i => atI xs i
  | .str xs, .int i => if xs.length ≤ lim then (atI xs i).map fun c => .str [c] else none
  | _, _ => none
theorem atI_reps {h : Hp} {ds : List D} {vs : List V} {i : Int} {d : D} (r : Reps K h ds vs) (e : atI ds i = some d) : ∃ v, atI vs i = some v ∧ Rep K h d v := by
  unfold atI at e ⊢
  rw [← r.length]
  obtain ⟨j, e1, e2⟩ := Option.bind_eq_some_iff.mp e
  obtain ⟨v, e3, r2⟩ := r.get e2
  exact ⟨v, by rw [e1]; exact e3, r2⟩
theorem o_idx : Op2 K (rIx K) idxD := by
  intro N H x y v w z Q hN bx hy e q
  unfold idxD at e
  split at e
  · obtain ⟨a, vs, rfl, h1, h2⟩ := bx.lstE hide_sub
    cases hy.intE
    obtain ⟨u, e1, r⟩ := atI_reps h2 e
    exact .inl ⟨a, vs, _, u, rfl, rfl, SqL.of h1, e1, q u H (Same.refl H) r⟩
  · obtain ⟨a, vs, rfl, h1, h2⟩ := bx.tupE hide_sub
    cases hy.intE
    obtain ⟨u, e1, r⟩ := atI_reps h2 e
    exact .inr (.inl ⟨a, vs, _, u, rfl, rfl, SqT.of h1, e1, q u H (Same.refl H) r⟩)
  · split at e
    · rename_i c
      cases bx.strE
      cases hy.intE
      obtain ⟨ch, e1, rfl⟩ := Option.map_eq_some_iff.mp e
      exact .inr (.inr ⟨_, _, ch, rfl, rfl, by rw [str_len]; exact lim_line c, by rw [str_cps]; exact e1, q _ H (Same.refl H) (.str [ch])⟩)
    · cases e
  · cases e
/-! ### len, int, max, min of two -/
def lenD : D → Option D
  | .str x => if x.length ≤ lim then some (.int x.length) else none
  | .lst x => some (.int x.length)
  | .tup x => some (.int x.length)
  | _ => none
theorem o_len : Op1 K (fun x H Q => (fun xs H Q => ∃ x n, xs = [x] ∧ LenV K x H n ∧ Q (.int n) H) [x] H Q) lenD := by
  intro N H x v z Q hN bx e q
  unfold lenD at e
  split at e
  · split at e
    · rename_i c
      cases e
      cases bx.strE
      exact ⟨_, _, rfl, ⟨by rw [str_len]; exact lim_line c, (str_len _).symm⟩, q _ H (Same.refl H) (.int _)⟩
    · cases e
  · cases e
    obtain ⟨a, vs, rfl, h1, h2⟩ := bx.lstE hide_sub
    exact ⟨_, _, rfl, .inl ⟨vs, SqL.of h1, h2.length⟩, q _ H (Same.refl H) (.int _)⟩
  · cases e
    obtain ⟨a, vs, rfl, h1, h2⟩ := bx.tupE hide_sub
    exact ⟨_, _, rfl, .inr ⟨vs, SqT.of h1, h2.length⟩, q _ H (Same.refl H) (.int _)⟩
  · cases e
def intD : D → Option D
  | .int i => some (.int i)
  | .bl b => some (.int (if b then 1 else 0))
  | _ => none
theorem o_int : Op1 K (fun x H Q => (fun xs H Q => (∃ i, xs = [.int i] ∧ Q (.int i) H) ∨ ∃ k, xs = [.bl k] ∧ Q (.int (if k then 1 else 0)) H) [x] H Q) intD := by
  intro N H x v z Q hN bx e q
  unfold intD at e
  split at e
  · cases e
    cases bx.intE
    exact .inl ⟨_, rfl, q _ H (Same.refl H) (.int _)⟩
  · cases e
    cases bx.blE
    exact .inr ⟨_, rfl, q _ H (Same.refl H) (.int _)⟩
  · cases e
def maxD : D → D → Option D
  | .int i, .int j => some (.int (if j > i then j else i))
  | _, _ => none
def minD : D → D → Option D
  | .int i, .int j => some (.int (if j < i then j else i))
  | _, _ => none
theorem o_max : Op2 K (fun x y H Q => (fun xs H Q => ∃ i j, xs = [.int i, .int j] ∧ Q (.int (if j > i then j else i)) H) [x, y] H Q) maxD := by
  intro N H x y v w z Q hN bx hy e q
  unfold maxD at e
  split at e
  · cases e
    cases bx.intE
    cases hy.intE
    exact ⟨_, _, rfl, q _ H (Same.refl H) (.int _)⟩
  · cases e
theorem o_min : Op2 K (fun x y H Q => (fun xs H Q => ∃ i j, xs = [.int i, .int j] ∧ Q (.int (if j < i then j else i)) H) [x, y] H Q) minD := by
  intro N H x y v w z Q hN bx hy e q
  unfold minD at e
  split at e
  · cases e
    cases bx.intE
    cases hy.intE
    exact ⟨_, _, rfl, q _ H (Same.refl H) (.int _)⟩
  · cases e
/-! ### comparisons of ints -/
def cmpD (p : Int → Int → Bool) : D → D → Option D
  | .int i, .int j => some (.bl (p i j))
  | _, _ => none
theorem o_cmp {p : Int → Int → Bool} : Op2 K (rI0 fun i j => .bl (p i j)) (cmpD p) := by
  have := op2I (K := K) (g := fun i j => .bl (p i j)) (f := fun i j => .bl (p i j)) fun _ i j => .bl _
  intro N H x y v w z Q hN bx hy e q
  refine this N H x y v w z Q hN bx hy ?_ q
  rw [← e]; cases x <;> cases y <;> rfl
abbrev ltD : D → D → Option D := cmpD fun i j => decide (i < j)
abbrev leD : D → D → Option D := cmpD fun i j => decide (i ≤ j)
abbrev gtD : D → D → Option D := cmpD fun i j => decide (j < i)
abbrev geD : D → D → Option D := cmpD fun i j => decide (j ≤ i)
def isNon : D → Bool
  | .non => true
  | _ => false
def isD : D → D → Option D
  | x, .non => some (.bl (isNon x))
  | _, _ => none
def isnD : D → D → Option D
  | x, .non => some (.bl (!isNon x))
  | _, _ => none
theorem isNon_v {h H : Hp} {d : D} {v : V} (b : BRep K h H d v) : decide (v = .non) = isNon d := by
  cases b with
  | val r => cases r <;> first | rfl | simp [isNon]
  | _ => simp [isNon]
theorem o_is : Op2 K (fun x y H Q => y = .non ∧ Q (.bl (decide (x = .non))) H) isD := by
  intro N H x y v w z Q hN bx hy e q
  unfold isD at e
  split at e
  · cases e
    cases hy.nonE
    exact ⟨rfl, by rw [isNon_v bx]; exact q _ H (Same.refl H) (.bl _)⟩
  · cases e
theorem o_isn : Op2 K (fun x y H Q => y = .non ∧ Q (.bl (!decide (x = .non))) H) isnD := by
  intro N H x y v w z Q hN bx hy e q
  unfold isnD at e
  split at e
  · cases e
    cases hy.nonE
    exact ⟨rfl, by rw [isNon_v bx]; exact q _ H (Same.refl H) (.bl _)⟩
  · cases e
def negD : D → Option D
  | .int i => some (.int (-i))
  | _ => none
theorem o_neg : Op1 K (rU fun i => .int (-i)) negD := by
  intro N H x v z Q hN bx e q
  unfold negD at e
  split at e
  · cases e
    cases bx.intE
    exact ⟨_, rfl, q _ H (Same.refl H) (.int _)⟩
  · cases e
/-! ### sum, sorted, tuple, list, all, any, max, min, str, join -/
def sumD : D → Option D
  | .lst xs => (asInts xs).map fun ns => .int ns.sum
  | _ => none
theorem o_sum : Op1 K (fun x H Q => rSum K [x] H Q) sumD := by
  intro N H x v z Q hN bx e q
  unfold sumD at e
  split at e
  · obtain ⟨ns, e1, rfl⟩ := Option.map_eq_some_iff.mp e
    cases asInts_eq e1
    obtain ⟨a, vs, rfl, h1, h2⟩ := bx.lstE hide_sub
    cases h2.intsV
    exact ⟨a, ns, rfl, SqL.of h1, q _ H (Same.refl H) (.int _)⟩
  · cases e
def msort (ns : List Int) : List Int := ns.mergeSort (fun a b => decide (a ≤ b))
theorem sorted_uniq : ∀ {a b : List Int}, a.Perm b → a.Pairwise (· ≤ ·) → b.Pairwise (· ≤ ·) → a = b
  | [], b, p, _, _ => (List.nil_perm.mp p).symm
  | x :: a, [], p, _, _ => absurd p.symm (by simp)
  | x :: a, y :: b, p, ha, hb => by
    rw [List.pairwise_cons] at ha hb
    have e : x = y := by
      have h1 : y ∈ x :: a := p.symm.subset List.mem_cons_self
      have h2 : x ∈ y :: b := p.subset List.mem_cons_self
      rcases List.mem_cons.mp h1 with e | h1
      · exact e.symm
      · rcases List.mem_cons.mp h2 with e | h2
        · exact e
        · have := ha.1 y h1; have := hb.1 x h2; omega
    subst e
    rw [sorted_uniq (List.Perm.cons_inv p) ha.2 hb.2]
theorem msort_perm (ns : List Int) : (msort ns).Perm ns := List.mergeSort_perm ns _
theorem msort_sorted (ns : List Int) : (msort ns).Pairwise (· ≤ ·) := by
  have := List.pairwise_mergeSort (le := fun a b : Int => decide (a ≤ b)) (fun a b c h1 h2 => by simp only [decide_eq_true_eq] at *; omega) (fun a b => by simp only [Bool.or_eq_true, decide_eq_true_eq]; omega) ns
  exact this.imp fun h => by simpa using h
theorem msort_eq {ns ms : List Int} (p : ms.Perm ns) (h : ms.Pairwise (· ≤ ·)) : ms = msort ns := sorted_uniq (p.trans (msort_perm ns).symm) h (msort_sorted ns)
def sortI : D → Option D
  | .lst xs => (asInts xs).map fun ns => .lst ((msort ns).map D.int)
  | _ => none
theorem o_sortIF : Op1F K (fun x H Q => rSortedI K [x] H Q) sortI := by
  intro N H x v z Q hN bx e q
  unfold sortI at e
  split at e
  · obtain ⟨ns, e1, rfl⟩ := Option.map_eq_some_iff.mp e
    cases asInts_eq e1
    obtain ⟨a, vs, rfl, h1, h2⟩ := bx.lstE hide_sub
    cases h2.intsV
    refine ⟨a, ns, rfl, SqL.of h1, fun ms p pm ps hp => ?_⟩
    cases msort_eq pm ps
    exact q p _ hp (same_new hp) ⟨_, upd_same, Reps.ints _⟩
  · cases e
def tupD : D → Option D
  | .lst xs => some (.tup xs)
  | .tup xs => some (.tup xs)
  | _ => none
theorem o_tup : Op1 K (fun x H Q => (fun xs H Q => ∃ p ys, xs = [.ref p] ∧ ((SqL K H p ys ∧ ∀ l, H l = none → Q (.ref l) (upd H l (.tup ys))) ∨ (SqT K H p ys ∧ Q (.ref p) H))) [x] H Q) tupD := by
  intro N H x v z Q hN bx e q
  unfold tupD at e
  split at e
  · cases e
    obtain ⟨a, vs, rfl, h1, h2⟩ := bx.lstE hide_sub
    exact ⟨a, vs, rfl, .inl ⟨SqL.of h1, fun l hl => q _ _ (same_new hl) (.tup (hide_some.mpr ⟨not_hid hN hl, upd_same⟩) (h2.mono (new_sub hl)))⟩⟩
  · cases e
    have bx' := bx
    obtain ⟨a, vs, rfl, h1, h2⟩ := bx.tupE hide_sub
    exact ⟨a, vs, rfl, .inr ⟨SqT.of h1, q _ H (Same.refl H) (by cases bx' with | val r => exact r)⟩⟩
  · cases e
def lstD : D → Option D
  | .lst xs => some (.lst xs)
  | .tup xs => some (.lst xs)
  | _ => none
theorem o_lstF : Op1F K (fun x H Q => (fun xs H Q => ∃ p ys, xs = [.ref p] ∧ (SqL K H p ys ∨ SqT K H p ys) ∧ ∀ l, H l = none → Q (.ref l) (upd H l (.lst ys))) [x] H Q) lstD := by
  intro N H x v z Q hN bx e q
  unfold lstD at e
  split at e
  · cases e
    obtain ⟨a, vs, rfl, h1, h2⟩ := bx.lstE hide_sub
    exact ⟨a, vs, rfl, .inl (SqL.of h1), fun l hl => q _ _ hl (same_new hl) ⟨vs, upd_same, h2.mono (fresh_sub hl)⟩⟩
  · cases e
    obtain ⟨a, vs, rfl, h1, h2⟩ := bx.tupE hide_sub
    exact ⟨a, vs, rfl, .inr (SqT.of h1), fun l hl => q _ _ hl (same_new hl) ⟨vs, upd_same, h2.mono (fresh_sub hl)⟩⟩
  · cases e
def allD : D → Option D
  | .lst xs => (asBls xs).map fun bs => .bl (bs.all id)
  | _ => none
def anyD : D → Option D
  | .lst xs => (asBls xs).map fun bs => .bl (bs.any id)
  | _ => none
theorem o_all : Op1 K (fun x H Q => rAll K [x] H Q) allD := by
  intro N H x v z Q hN bx e q
  unfold allD at e
  split at e
  · obtain ⟨ns, e1, rfl⟩ := Option.map_eq_some_iff.mp e
    cases asBls_eq e1
    obtain ⟨a, vs, rfl, h1, h2⟩ := bx.lstE hide_sub
    cases h2.blsV
    exact ⟨a, ns, rfl, SqL.of h1, q _ H (Same.refl H) (.bl _)⟩
  · cases e
theorem o_any : Op1 K (fun x H Q => rAny K [x] H Q) anyD := by
  intro N H x v z Q hN bx e q
  unfold anyD at e
  split at e
  · obtain ⟨ns, e1, rfl⟩ := Option.map_eq_some_iff.mp e
    cases asBls_eq e1
    obtain ⟨a, vs, rfl, h1, h2⟩ := bx.lstE hide_sub
    cases h2.blsV
    exact ⟨a, ns, rfl, SqL.of h1, q _ H (Same.refl H) (.bl _)⟩
  · cases e
def topI (f : Int → Int → Int) : List Int → Option Int
  | [] => none
  | x :: xs => some (xs.foldl f x)
def maxL : D → Option D
  | .lst xs => (asInts xs).bind fun ns => (topI max ns).map D.int
  | _ => none
def minL : D → Option D
  | .lst xs => (asInts xs).bind fun ns => (topI min ns).map D.int
  | _ => none
theorem foldl_max : ∀ (xs : List Int) (x : Int), (xs.foldl max x) ∈ x :: xs ∧ ∀ y ∈ x :: xs, y ≤ xs.foldl max x
  | [], x => ⟨List.mem_cons_self, fun y hy => by simp at hy; rw [hy]; exact Int.le_refl _⟩
  | a :: xs, x => by
    obtain ⟨h1, h2⟩ := foldl_max xs (max x a)
    rw [List.foldl_cons]
    refine ⟨?_, fun y hy => ?_⟩
    · rcases List.mem_cons.mp h1 with e | h
      · rw [e]
        rcases Int.le_total x a with l | l
        · rw [Int.max_eq_right l]; simp
        · rw [Int.max_eq_left l]; simp
      · exact List.mem_cons_of_mem _ (List.mem_cons_of_mem _ h)
    · have h3 := h2 (max x a) List.mem_cons_self
      rcases List.mem_cons.mp hy with e | hy
      · rw [e]; exact Int.le_trans (Int.le_max_left x a) h3
      · rcases List.mem_cons.mp hy with e | hy
        · rw [e]; exact Int.le_trans (Int.le_max_right x a) h3
        · exact h2 y (List.mem_cons_of_mem _ hy)
theorem foldl_min : ∀ (xs : List Int) (x : Int), (xs.foldl min x) ∈ x :: xs ∧ ∀ y ∈ x :: xs, xs.foldl min x ≤ y
  | [], x => ⟨List.mem_cons_self, fun y hy => by simp at hy; rw [hy]; exact Int.le_refl _⟩
  | a :: xs, x => by
    obtain ⟨h1, h2⟩ := foldl_min xs (min x a)
    rw [List.foldl_cons]
    refine ⟨?_, fun y hy => ?_⟩
    · rcases List.mem_cons.mp h1 with e | h
      · rw [e]
        rcases Int.le_total x a with l | l
        · rw [Int.min_eq_left l]; simp
        · rw [Int.min_eq_right l]; simp
      · exact List.mem_cons_of_mem _ (List.mem_cons_of_mem _ h)
    · have h3 := h2 (min x a) List.mem_cons_self
      rcases List.mem_cons.mp hy with e | hy
      · rw [e]; exact Int.le_trans h3 (Int.min_le_left x a)
      · rcases List.mem_cons.mp hy with e | hy
        · rw [e]; exact Int.le_trans h3 (Int.min_le_right x a)
        · exact h2 y (List.mem_cons_of_mem _ hy)
theorem o_maxL : Op1 K (fun x H Q => rMax K [x] H Q) maxL := by
  intro N H x v z Q hN bx e q
  unfold maxL at e
  split at e
  · obtain ⟨ns, e1, e2⟩ := Option.bind_eq_some_iff.mp e
    cases asInts_eq e1
    obtain ⟨a, vs, rfl, h1, h2⟩ := bx.lstE hide_sub
    cases h2.intsV
    obtain ⟨m, e3, rfl⟩ := Option.map_eq_some_iff.mp e2
    cases ns with
    | nil => cases e3
    | cons n ns =>
      cases e3
      refine ⟨a, n :: ns, rfl, SqL.of h1, Nat.succ_pos _, fun m hm hu => ?_⟩
      obtain ⟨h3, h4⟩ := foldl_max ns n
      have : m = ns.foldl max n := Int.le_antisymm (h4 m hm) (hu _ h3)
      rw [this]
      exact q _ H (Same.refl H) (.int _)
  · cases e
theorem o_minL : Op1 K (fun x H Q => rMin K [x] H Q) minL := by
  intro N H x v z Q hN bx e q
  unfold minL at e
  split at e
  · obtain ⟨ns, e1, e2⟩ := Option.bind_eq_some_iff.mp e
    cases asInts_eq e1
    obtain ⟨a, vs, rfl, h1, h2⟩ := bx.lstE hide_sub
    cases h2.intsV
    obtain ⟨m, e3, rfl⟩ := Option.map_eq_some_iff.mp e2
    cases ns with
    | nil => cases e3
    | cons n ns =>
      cases e3
      refine ⟨a, n :: ns, rfl, SqL.of h1, Nat.succ_pos _, fun m hm hu => ?_⟩
      obtain ⟨h3, h4⟩ := foldl_min ns n
      have : m = ns.foldl min n := Int.le_antisymm (hu _ h3) (h4 m hm)
      rw [this]
      exact q _ H (Same.refl H) (.int _)
  · cases e
end
/-! ### slices -/
def cutL {α : Type} (xs : List α) (lo hi : Option Int) : List α := (xs.drop (HT.sIx xs.length 0 lo)).take (HT.sIx xs.length xs.length hi - HT.sIx xs.length 0 lo)
def slD (lo hi : Option Int) : D → Option D
  | .lst xs => some (.lst (cutL xs lo hi))
  | .tup xs => some (.tup (cutL xs lo hi))
  | .str xs => if xs.length ≤ lim then some (.str (cutL xs lo hi)) else none
  | _ => none
def intK (k : Option Int → Env → ERes) : D → Env → ERes
  | .int i, ρ' => k (some i) ρ'
  | _, _ => .no
def partF (p : Option ValF) (k : Option Int → Env → ERes) : Env → ERes := match p with
  | none => k none
  | some f => fun ρ => (f ρ).bind (intK k)
def slF (f : ValF) (lo hi : Option ValF) : ValF := fun ρ => (f ρ).bind fun x ρ1 => partF lo (fun l ρ2 => partF hi (fun u ρ3 => ofO (slD l u x) ρ3) ρ2) ρ1
/-- x[lo:hi], x in a slot -/
def slS (i : Nat) (lo hi : Option ValF) : ValF := fun ρ => look ρ i fun _ => partF lo (fun l ρ2 => partF hi (fun u ρ3 => look ρ3 i fun x => ofO (slD l u x) ρ3) ρ2) ρ
section
variable {X : Cx} {B : Bd} {W : WX} {fl fl1 fl' flL : List Bool} {pos : Pos}
def EvP (K : PySem.W.Frag) (B : Bd) (W : WX) (fl : List Bool) : Option ValF → TO
  | none => tNoPart
  | some f => tPart (EvT K B W fl f)
structure PPv (X : Cx) (B : Bd) (W : WX) (fl : List Bool) (e : Option Expr) (p : Option ValF) : Prop where
  po : PO X e (EvP X.K B W fl p)
theorem ppv_none : PPv X B W fl none none := ⟨po_none⟩
theorem ppv_some {e : Expr} {f : ValF} (h : PV X B W fl e f) : PPv X B W fl (some e) (some f) := ⟨po_some h.pe⟩
theorem evP_mk {K : PySem.W.Frag} {p : Option ValF} {k : Option Int → Env → ERes} {σ : St} {H : Hp} {ρ : Env} {T : List (D × V)} {R : Option Int → Hp → Prop} (E : ER K B fl σ H ρ T) (hn : partF p k ρ ≠ .no)
    (hx : ∀ x ρ', partF p k ρ = .ex x ρ' → ∀ dx H', ER K B fl σ H' ρ' T → XOk x H' dx → W (.ref x.cls) dx σ H')
    (hR : ∀ o ρ' H', partF p k ρ = k o ρ' → ER K B fl σ H' ρ' T → R o H') : EvP K B W fl p σ H R := by
  cases p with
  | none => exact hR none ρ H rfl E
  | some f =>
    show EvT K B W fl f σ H _
    refine ⟨ρ, T, E, ?_⟩
    cases e : f ρ with
    | ok d ρ' =>
      have e1 : partF (some f) k ρ = intK k d ρ' := by show (f ρ).bind _ = _; rw [e]; rfl
      rw [e1] at hn hR
      cases d with
      | int i =>
        intro v H' ⟨ow, E'⟩
        have r := E'.top
        cases r
        exact ⟨i, rfl, hR (some i) ρ' H' rfl ⟨ow, E'.drop⟩⟩
      | _ => exact absurd rfl hn
    | ex x ρ' => exact hx x ρ' (by show (f ρ).bind _ = _; rw [e]; rfl)
    | no => exact hn (by show (f ρ).bind _ = _; rw [e]; rfl)
def rSlP (K : PySem.W.Frag) : V → Option Int → Option Int → Hp → VK → Prop := fun x lo hi H Q => rSlL K x lo hi H Q ∨ (rSlA K x lo hi H Q ∨ rSlS x lo hi H Q)
theorem sl_P : SlR X (rSlP X.K) := sl_list.or (sl_tupA.or sl_str)
theorem Reps.cut {K : PySem.W.Frag} {h : Hp} {ds : List D} {vs : List V} (r : Reps K h ds vs) (lo hi : Option Int) : Reps K h (cutL ds lo hi) (cutV vs lo hi) := by
  unfold cutL cutV
  rw [r.length]
  exact (r.drop _).take _
theorem cutS_L (xs : List Nat) (lo hi : Option Int) : cutS ⟨xs.toArray⟩ lo hi = (⟨(cutL xs lo hi).toArray⟩ : Str) := by
  unfold cutS cutL
  rw [str_len, str_cps]
theorem o_sl {K : PySem.W.Frag} {lo hi : Option Int} : Op1 K (fun x H Q => rSlP K x lo hi H Q) (slD lo hi) := by
  intro N H x v z Q hN bx e q
  unfold slD at e
  split at e
  · cases e
    obtain ⟨a, vs, rfl, h1, h2⟩ := bx.lstE hide_sub
    exact .inl ⟨a, vs, rfl, SqL.of h1, fun p hp => q _ _ (same_new hp) (.lst (hide_some.mpr ⟨not_hid hN hp, upd_same⟩) ((h2.cut lo hi).mono (new_sub hp)))⟩
  · rename_i xs
    cases e
    have bx' := bx
    obtain ⟨a, vs, rfl, h1, h2⟩ := bx.tupE hide_sub
    have hc := h2.cut lo hi
    refine .inr (.inl ⟨a, vs, rfl, SqT.of h1, fun hw => ?_, fun hw p hp => ?_⟩)
    · refine q _ H (Same.refl H) ?_
      have e1 : cutL xs lo hi = xs := by
        unfold cutL
        rw [h2.length, hw.1, hw.2, List.drop_zero, Nat.sub_zero, ← h2.length, List.take_length]
      rw [e1]
      cases bx' with | val r => exact r
    · exact q _ _ (same_new hp) (.tup (hide_some.mpr ⟨not_hid hN hp, upd_same⟩) (hc.mono (new_sub hp)))
  · split at e
    · rename_i c
      cases e
      cases bx.strE
      refine .inr (.inr ⟨_, rfl, by rw [str_len]; exact lim_line c, ?_⟩)
      rw [cutS_L]
      exact q _ H (Same.refl H) (.str _)
    · cases e
  · cases e
end
end Pv

/-! Pv8: slices, comprehensions, the source of draws. -/
noncomputable section
namespace Pv
open PySem PySem.Spec L2
open PyProof.Rows hiding St

section
variable {X : Cx} {B : Bd} {W : WX} {fl fl1 fl' flL : List Bool} {pos p2 : Pos}
theorem ERo.reads {K : PySem.W.Frag} {ow : Addr → Ow} {σ : St} {H : Hp} {ρ : Env} {T : List (D × V)} (E : ERo K B fl ow σ H ρ T) : ∀ a, (fun a => ow a ≠ .pub) a → H a ≠ none := E.live
theorem pv_slice {e : Expr} {lo hi : Option Expr} {f : ValF} {l u : Option ValF} (he : PV X B W fl e f) (hl : PPv X B W fl lo l) (hu : PPv X B W fl hi u) : PV X B W fl (.Subscript e (.Slice lo hi none p2) pos) (slF f l u) :=
  ⟨PE.weaken (pe_slice sl_P he.pe hl.po hu.po) fun σ H Q ⟨ρ, T, E, q⟩ => by
    obtain ⟨hn, hx, hk⟩ := evT_no q
    refine ⟨ρ, T, E, ?_⟩
    unfold slF at hn hx hk
    cases e1 : f ρ with
    | ok x ρ1 =>
      rw [e1] at hn hx hk
      intro v H1 E1
      have hn : partF l (fun l ρ2 => partF u (fun u ρ3 => ofO (slD l u x) ρ3) ρ2) ρ1 ≠ .no := hn
      have hx : ∀ y ρ', partF l (fun l ρ2 => partF u (fun u ρ3 => ofO (slD l u x) ρ3) ρ2) ρ1 = .ex y ρ' → ∀ dx H', ER X.K B fl σ H' ρ' T → XOk y H' dx → W (.ref y.cls) dx σ H' := hx
      refine evP_mk E1 hn (fun x ρ' h dx H' E' => hx x ρ' h dx H' (E'.sub fun p hp => List.mem_cons_of_mem _ hp)) fun o ρ2 H2 h2 E2 => ?_
      have h2' : partF l (fun l ρ2 => partF u (fun u ρ3 => ofO (slD l u x) ρ3) ρ2) ρ1 = partF u (fun u ρ3 => ofO (slD o u x) ρ3) ρ2 := h2
      have hn2 : partF u (fun u ρ3 => ofO (slD o u x) ρ3) ρ2 ≠ .no := fun z => hn (h2'.trans z)
      refine evP_mk E2 hn2 (fun x ρ' h dx H' E' => hx x ρ' (h2'.trans h) dx H' (E'.sub fun p hp => List.mem_cons_of_mem _ hp)) fun o2 ρ3 H3 h3 E3 => ?_
      have h3' : partF u (fun u ρ3 => ofO (slD o u x) ρ3) ρ2 = ofO (slD o o2 x) ρ3 := h3
      obtain ⟨z, hz⟩ := ofO_ne (fun z => hn2 (h3'.trans z))
      obtain ⟨ow, E3⟩ := E3
      refine o_sl (fun a => ow a ≠ .pub) H3 x v z Q E3.live (.val E3.top) hz fun w H4 s r => ?_
      exact hk z ρ3 (h2'.trans (h3'.trans (by rw [hz]; rfl))) w H4 ⟨ow, (E3.drop.mono s).push r⟩
    | ex x ρ1 => rw [e1] at hx; exact hx x ρ1 rfl
    | no => rw [e1] at hn; exact hn rfl⟩

/-! ### comprehensions -/
def fgtE (vs : List Nat) (ρ : Env) : Env := vs.foldl (fun ρ i => ρ.set i none) ρ
theorem fgtE_len : ∀ (vs : List Nat) (ρ : Env), (fgtE vs ρ).length = ρ.length
  | [], _ => rfl
  | v :: vs, ρ => by
    show (fgtE vs (ρ.set v none)).length = _
    rw [fgtE_len vs, List.length_set]
theorem fgtE_get : ∀ {vs : List Nat} {ρ : Env} {i : Nat} {d : D}, (fgtE vs ρ)[i]? = some (some d) → i ∉ vs ∧ ρ[i]? = some (some d)
  | [], _, _, _, h => ⟨by simp, h⟩
  | v :: vs, ρ, i, d, h => by
    have h : (fgtE vs (ρ.set v none))[i]? = some (some d) := h
    obtain ⟨h1, h2⟩ := fgtE_get h
    rcases get_set h2 with ⟨rfl, z, _⟩ | ⟨ne, q⟩
    · cases z
    · exact ⟨fun z => (List.mem_cons.mp z).elim ne h1, q⟩
theorem wipe_get {σ : St} {i : Nat} : ∀ {vs : List Nat}, i ∉ vs → (wipe σ vs)[i]? = σ[i]?
  | [], _ => rfl
  | v :: vs, h => by
    unfold wipe
    rw [List.getElem?_set_ne (fun z => h (by rw [z]; exact List.mem_cons_self))]
    exact wipe_get fun z => h (List.mem_cons_of_mem _ z)
/-- the slots of the block's own names are not known -/
theorem ERo.wiped {K : PySem.W.Frag} {ow : Addr → Ow} {σ σ' : St} {H : Hp} {ρ : Env} {T : List (D × V)} (E : ERo K B fl ow σ H ρ T) {vs : List Nat} (hl : σ'.length = σ.length) (hs : ∀ i, i ∉ vs → σ'[i]? = σ[i]?) (h0 : 0 ∉ vs ∨ B.bor = []) : ERo K B fl ow σ' H (fgtE vs ρ) T :=
  { E with
    len := by rw [fgtE_len, hl]; exact E.len
    fll := by rw [hl]; exact E.fll
    sh := fun i d h1 h2 => by
      obtain ⟨h3, h4⟩ := fgtE_get h1
      rw [hs i h3]; exact E.sh i d h4 h2
    hd := fun i d h1 h2 => by
      obtain ⟨h3, h4⟩ := fgtE_get h1
      rw [hs i h3]; exact E.hd i d h4 h2
    b0 := fun p hp => by
      rcases h0 with h0 | h0
      · rw [hs 0 h0]; exact E.b0 p hp
      · rw [h0] at hp; cases hp }
/-- a list that is being made at D -/
def Bd.acc (B : Bd) (L : Addr) (vs : List V) : Bd := ⟨fun a => B.M a ∨ a = L, fun a => if a = L then some (.lst vs) else B.H0 a, B.bor, B.fr⟩
theorem ERo.accNew {K : PySem.W.Frag} {ow : Addr → Ow} {σ : St} {H : Hp} {ρ : Env} {T : List (D × V)} (E : ERo K B fl ow σ H ρ T) {L : Addr} (hL : H L = none) : ERo K (B.acc L []) fl (setOw ow L .frame) σ (upd H L (.lst [])) ρ T ∧ L ∉ B.bor ∧ (B.H0 L = none) := by
  have e0 := E.fresh hL
  have nb : L ∉ B.bor := fun h => by rw [E.bown L h] at e0; cases e0
  have sp : Same (pubH ow H) (pubH (setOw ow L .frame) (upd H L (.lst []))) := fun a o e => by
    obtain ⟨e1, e2⟩ := hide_some.mp e
    have ne : a ≠ L := ne_of_none e2 hL
    exact hide_some.mpr ⟨fun z => e1 (by rw [setOw_ne ne] at z; exact z), by rw [upd_ne ne]; exact e2⟩
  have s : Same H (upd H L (.lst [])) := same_new hL
  refine ⟨⟨E.len, E.fll, fun a h => ?_, fun a q => ?_, E.nt1 (fun _ z => nomatch z), fun i d h1 h2 => ?_, fun i d h1 h2 => ?_, fun a q1 q2 => ?_, fun a o h1 h2 => ?_, fun q hq => (E.tmp q hq).mono sp, fun a h => ?_, E.b0⟩, nb, ?_⟩
  · by_cases e : a = L
    · rw [e]; exact setOw_same
    · rw [setOw_ne e]; exact E.frame a (h.elim id fun z => absurd z e)
  · by_cases e : a = L
    · rw [e, upd_same]; exact fun z => nomatch z
    · rw [setOw_ne e] at q; rw [upd_ne e]; exact E.live a q
  · obtain ⟨v, e, r⟩ := E.sh i d h1 h2; exact ⟨v, e, r.mono sp⟩
  · obtain ⟨p, e, o⟩ := E.hd i d h1 h2
    refine ⟨p, e, ?_⟩
    have k : ∀ a, ow a = .slot i → setOw ow L .frame a = .slot i := fun a h => by
      rw [setOw_ne (fun z => by rw [z, e0] at h; cases h)]; exact h
    exact o.gen (fun a o _ e => s a o e) sp k
  · by_cases e : a = L
    · rw [e] at q2; exact absurd setOw_same q2
    · rw [setOw_ne e] at q1 q2
      rcases E.new a q1 q2 with h | h
      · left; show (if a = L then _ else B.H0 a) = none; rw [if_neg e]; exact h
      · exact .inr h
  · have h1 : (if a = L then some (HO.lst []) else B.H0 a) = some o := h1
    by_cases e : a = L
    · rw [if_pos e] at h1; cases h1; rw [e, upd_same]
    · rw [if_neg e] at h1; rw [upd_ne e]; exact E.same a o h1 h2
  · have e : a ≠ L := fun z => nb (by rw [← z]; exact h)
    rw [setOw_ne e]; exact E.bown a h
  · cases e : B.H0 L with
    | none => rfl
    | some o => rw [E.same L o e nb] at hL; cases hL
theorem ERo.accApp {K : PySem.W.Frag} {ow : Addr → Ow} {σ : St} {H : Hp} {ρ : Env} {T : List (D × V)} {L : Addr} {vs ws : List V} (E : ERo K (B.acc L vs) fl ow σ H ρ T) : ERo K (B.acc L ws) fl ow σ (upd H L (.lst ws)) ρ T := by
  have e0 : ow L = .frame := E.frame L (.inr rfl)
  have n0 : ow L ≠ .pub := by rw [e0]; exact fun z => nomatch z
  have sp : Same (pubH ow H) (pubH ow (upd H L (.lst ws))) := by rw [pubH_upd n0]; exact Same.refl _
  refine ⟨E.len, E.fll, E.frame, fun a q => ?_, E.nt2 (fun _ z => nomatch z), fun i d h1 h2 => ?_, fun i d h1 h2 => ?_, fun a q1 q2 => ?_, fun a o h1 h2 => ?_, fun q hq => (E.tmp q hq).mono sp, E.bown, E.b0⟩
  · by_cases e : a = L
    · rw [e, upd_same]; exact fun z => nomatch z
    · rw [upd_ne e]; exact E.live a q
  · obtain ⟨v, e, r⟩ := E.sh i d h1 h2; exact ⟨v, e, r.mono sp⟩
  · obtain ⟨p, e, o⟩ := E.hd i d h1 h2
    refine ⟨p, e, ?_⟩
    have k : ∀ a o, ow a = .slot i → H a = some o → upd H L (.lst ws) a = some o := fun a o h q => by
      rw [upd_ne (fun z => by rw [z, e0] at h; cases h)]; exact q
    exact o.gen k sp fun _ e => e
  · rcases E.new a q1 q2 with h | h
    · left
      have h : (if a = L then some (HO.lst vs) else B.H0 a) = none := h
      show (if a = L then some (HO.lst ws) else B.H0 a) = none
      by_cases e : a = L
      · rw [if_pos e] at h; cases h
      · rw [if_neg e] at h ⊢; exact h
    · exact .inr h
  · have h1 : (if a = L then some (HO.lst ws) else B.H0 a) = some o := h1
    by_cases e : a = L
    · rw [if_pos e] at h1; cases h1; rw [e, upd_same]
    · rw [if_neg e] at h1
      rw [upd_ne e]
      exact E.same a o (by show (if a = L then some (HO.lst vs) else B.H0 a) = some o; rw [if_neg e]; exact h1) h2
theorem ERo.accAt {K : PySem.W.Frag} {ow : Addr → Ow} {σ : St} {H : Hp} {ρ : Env} {T : List (D × V)} {L : Addr} {vs : List V} (E : ERo K (B.acc L vs) fl ow σ H ρ T) (nb : L ∉ B.bor) : H L = some (.lst vs) := E.same L _ (by show (if L = L then _ else _) = _; rw [if_pos rfl]) nb
/-- it is ready: held for a moment -/
theorem ERo.accEnd {K : PySem.W.Frag} {ow : Addr → Ow} {σ : St} {H : Hp} {ρ : Env} {T : List (D × V)} {L : Addr} {vs : List V} {ds : List D} (E : ERo K (B.acc L vs) fl ow σ H ρ T) (nb : L ∉ B.bor) (h0 : B.H0 L = none) (hM : ¬ B.M L) (r : Reps K (pubH ow H) ds vs) :
    ERo K B fl (setOw ow L .tmp) σ H ρ T ∧ OwnAt K H (setOw ow L .tmp) .tmp L (.lst ds) := by
  have e0 : ow L = .frame := E.frame L (.inr rfl)
  have n0 : ow L ≠ .pub := by rw [e0]; exact fun z => nomatch z
  have sp : Same (pubH ow H) (pubH (setOw ow L .tmp) H) := hide_same (Same.refl _) fun a q _ => by
    by_cases e : a = L
    · rw [e]; exact n0
    · rw [setOw_ne e] at q; exact q
  refine ⟨⟨E.len, E.fll, fun a h => ?_, fun a q => ?_, E.nt3 (fun vs z => by rw [E.accAt nb] at z; cases z), fun i d h1 h2 => ?_, fun i d h1 h2 => ?_, fun a q1 q2 => ?_, fun a o h1 h2 => ?_, fun q hq => (E.tmp q hq).mono sp, fun a h => ?_, E.b0⟩, setOw_same, vs, E.accAt nb, r.mono sp⟩
  · rw [setOw_ne (fun z => hM (by rw [← z]; exact h))]; exact E.frame a (.inl h)
  · by_cases e : a = L
    · rw [e, E.accAt nb]; exact fun z => nomatch z
    · rw [setOw_ne e] at q; exact E.live a q
  · obtain ⟨v, e, r⟩ := E.sh i d h1 h2; exact ⟨v, e, r.mono sp⟩
  · obtain ⟨p, e, o⟩ := E.hd i d h1 h2
    refine ⟨p, e, ?_⟩
    have k : ∀ a, ow a = .slot i → setOw ow L .tmp a = .slot i := fun a h => by
      rw [setOw_ne (fun z => by rw [z, e0] at h; cases h)]; exact h
    exact o.gen (fun _ _ _ e => e) sp k
  · by_cases e : a = L
    · rw [e]; exact .inl h0
    · rw [setOw_ne e] at q1 q2
      rcases E.new a q1 q2 with h | h
      · left
        have h : (if a = L then some (HO.lst vs) else B.H0 a) = none := h
        rw [if_neg e] at h; exact h
      · exact .inr h
  · have e : a ≠ L := fun z => by rw [z, h0] at h1; cases h1
    exact E.same a o (by show (if a = L then _ else B.H0 a) = some o; rw [if_neg e]; exact h1) h2
  · rw [setOw_ne (fun z => nb (by rw [← z]; exact h))]; exact E.bown a h
abbrev W0 : WX := fun _ _ _ _ => False
def lcL (tgt : TgtF) (own : List Nat) (ft : Option ValF) (fe : ValF) : List D → List D → Env → ARes
  | [], acc, ρ => .ok acc ρ
  | d :: ds, acc, ρ => match tgt d ρ with
    | some ρ1 => match ft with
      | none => match fe ρ1 with
        | .ok y ρ3 => if acc.length < lim then lcL tgt own ft fe ds (acc ++ [y]) (fgtE own ρ3) else .no
        | _ => .no
      | some f => match f ρ1 with
        | .ok (.bl true) ρ2 => match fe ρ2 with
          | .ok y ρ3 => if acc.length < lim then lcL tgt own ft fe ds (acc ++ [y]) (fgtE own ρ3) else .no
          | _ => .no
        | .ok (.bl false) ρ2 => lcL tgt own ft fe ds acc (fgtE own ρ2)
        | _ => .no
    | none => .no
def lcF (f : IterF) (tgt : TgtF) (own : List Nat) (ft : Option ValF) (fe : ValF) : ValF := fun ρ => match f ρ with
  | .ok ds _ ρ1 => match lcL tgt own ft fe ds [] (fgtE own ρ1) with
    | .ok ys ρ2 => .ok (.lst ys) (fgtE own ρ2)
    | _ => .no
  | .ex x ρ1 => .ex x ρ1
  | .no => .no
def EvBo (K : PySem.W.Frag) (B : Bd) (W : WX) (fl : List Bool) : Option ValF → TT
  | none => tYes
  | some f => EvB K B W fl f
structure PTsv (X : Cx) (B : Bd) (W : WX) (fl : List Bool) (es : List Expr) (p : Option ValF) : Prop where
  pt : PTs X es (EvBo X.K B W fl p)
theorem ptsv_nil : PTsv X B W fl [] none := ⟨pts_nil⟩
theorem ptsv_one {c : Expr} {f : ValF} (h : PTv X B W fl c f) : PTsv X B W fl [c] (some f) := ⟨pts_one h.pt⟩
theorem PTs.weaken {es : List Expr} {t t' : TT} (h : PTs X es t) (w : ∀ σ H Q, t' σ H Q → t σ H Q) : PTs X es t' := ⟨fun pins s σ H Q I q => h.run pins s σ H Q I (w σ H Q q)⟩
theorem wipe_set0 {σ : St} {a : Nat} : ∀ {own : List Nat}, (wipe (σ.set a none) own) = (wipe σ own).set a none := by
  intro own
  induction own with
  | nil => rfl
  | cons b own ih =>
    unfold wipe
    rw [ih]
    by_cases e : a = b
    · rw [e]
    · rw [List.set_comm _ _ e]
theorem wipe_wipe (σ : St) : ∀ own : List Nat, wipe (wipe σ own) own = wipe σ own
  | [] => rfl
  | b :: own => by
    show (wipe ((wipe σ own).set b none) own).set b none = (wipe σ own).set b none
    rw [wipe_set0, List.set_set, wipe_wipe σ own]
/-- a target that stores to own names alone -/
structure TgOwn (own : List Nat) (g : TG) : Prop where
  own : ∀ (v : V) (σ : St) (H : Hp) (Q : St → Hp → Prop), g v σ H Q → g v σ H fun σ2 H2 => wipe σ2 own = wipe σ own ∧ Q σ2 H2
  mono : ∀ (v : V) (σ : St) (H : Hp) (Q Q' : St → Hp → Prop), g v σ H Q → (∀ σ2 H2, Q σ2 H2 → Q' σ2 H2) → g v σ H Q'
theorem wipe_set {σ : St} {v : V} : ∀ {own : List Nat} {i : Nat}, i ∈ own → wipe (σ.set i (some v)) own = wipe σ own
  | [], _, h => nomatch h
  | a :: own, i, h => by
    unfold wipe
    by_cases e : i ∈ own
    · rw [wipe_set e]
    · have : a = i := by
        rcases List.mem_cons.mp h with h | h
        · exact h.symm
        · exact absurd h e
      subst this
      have hw : ∀ own : List Nat, a ∉ own → wipe (σ.set a (some v)) own = (wipe σ own).set a (some v) := by
        intro own
        induction own with
        | nil => intro _; rfl
        | cons b own ih =>
          intro hb
          unfold wipe
          rw [ih (fun z => hb (List.mem_cons_of_mem _ z)), List.set_comm _ _ (fun z => hb (by rw [z]; exact List.mem_cons_self))]
      rw [hw own e, List.set_set]
theorem tgOwn_name {own : List Nat} {i : Nat} (h : i ∈ own) : TgOwn own (gName i) := ⟨fun v σ H Q q => ⟨wipe_set h, q⟩, fun v σ H Q Q' q m => m _ _ q⟩
theorem tgOwn_tup2 {K : PySem.W.Frag} {own : List Nat} {i j : Nat} (h : i ∈ own) (h2 : j ∈ own) : TgOwn own (gTup K 2 (gCons (gName i) (gCons (gName j) gNil))) := ⟨fun v σ H Q q => by
  obtain ⟨a, xs, e1, e2, e3, x, r, e4, y, r2, e5, e6, q⟩ := q
  exact ⟨a, xs, e1, e2, e3, x, r, e4, y, r2, e5, e6, by rw [wipe_set h2, wipe_set h], q⟩, fun v σ H Q Q' q m => by
  obtain ⟨a, xs, e1, e2, e3, x, r, e4, y, r2, e5, e6, q⟩ := q
  exact ⟨a, xs, e1, e2, e3, x, r, e4, y, r2, e5, e6, m _ _ q⟩⟩

theorem acc_bor {L : Addr} {vs : List V} : (B.acc L vs).bor = B.bor := rfl
theorem pe_ex {Y : Cx} {e : Expr} {B : Bd} {f : ValF} (h : ∀ B' : Bd, B'.bor = B.bor → PV Y B' W0 fl e f) : PE Y e (fun σ H Q => ∃ B' : Bd, B'.bor = B.bor ∧ EvT Y.K B' W0 fl f σ H Q) :=
  ⟨fun pins s σ H Q I ⟨B', hb, q⟩ => (h B' hb).pe.run pins s σ H Q I q⟩
theorem pts_ex {Y : Cx} {e : List Expr} {B : Bd} {f : Option ValF} (h : ∀ B' : Bd, B'.bor = B.bor → PTsv Y B' W0 fl e f) : PTs Y e (fun σ H Q => ∃ B' : Bd, B'.bor = B.bor ∧ EvBo Y.K B' W0 fl f σ H Q) :=
  ⟨fun pins s σ H Q I ⟨B', hb, q⟩ => (h B' hb).pt.run pins s σ H Q I q⟩
/-- one turn: the target is stored, tests and element are asked, the list grows -/
theorem lc_turn {K : PySem.W.Frag} {ow : Addr → Ow} {σw : St} {H : Hp} {ρ1 : Env} {T : List (D × V)} {L : Addr} {vs : List V} {acc : List D} {ft : Option ValF} {fe : ValF} {own : List Nat} {Nx : Hp → Prop} {k : ARes → Prop} {rest : List D → Env → ARes}
    (E : ERo K (B.acc L vs) fl ow σw H ρ1 T) (nb : L ∉ B.bor)
    (hk : k (match ft with
      | none => match fe ρ1 with
        | .ok y ρ3 => if acc.length < lim then rest (acc ++ [y]) (fgtE own ρ3) else .no
        | _ => .no
      | some f => match f ρ1 with
        | .ok (.bl true) ρ2 => match fe ρ2 with
          | .ok y ρ3 => if acc.length < lim then rest (acc ++ [y]) (fgtE own ρ3) else .no
          | _ => .no
        | .ok (.bl false) ρ2 => rest acc (fgtE own ρ2)
        | _ => .no)) (hno : ¬ k .no) (hl : acc.length = vs.length)
    (hy : ∀ (y : D) (v : V) (ρ3 : Env) (H' : Hp), ER K (B.acc L vs) fl σw H' ρ3 ((y, v) :: T) → acc.length < lim → k (rest (acc ++ [y]) (fgtE own ρ3)) → Nx (upd H' L (.lst (vs ++ [v]))))
    (hf : ∀ (ρ2 : Env) (H' : Hp), ER K (B.acc L vs) fl σw H' ρ2 T → k (rest acc (fgtE own ρ2)) → Nx H') :
    ∃ B' : Bd, B'.bor = B.bor ∧ EvBo K B' W0 fl ft σw H fun b H3 => if b = true then (∃ B' : Bd, B'.bor = B.bor ∧ EvT K B' W0 fl fe σw H3 fun y H4 => ∃ acc, H4 L = some (.lst acc) ∧ acc.length < sizeLine ∧ Nx (upd H4 L (.lst (acc ++ [y])))) else Nx H3 := by
  have el : ∀ (ρ2 : Env) (H3 : Hp), ER K (B.acc L vs) fl σw H3 ρ2 T → k (match fe ρ2 with
      | .ok y ρ3 => if acc.length < lim then rest (acc ++ [y]) (fgtE own ρ3) else .no
      | _ => .no) → ∃ B' : Bd, B'.bor = B.bor ∧ EvT K B' W0 fl fe σw H3 fun y H4 => ∃ acc, H4 L = some (.lst acc) ∧ acc.length < sizeLine ∧ Nx (upd H4 L (.lst (acc ++ [y]))) := by
    intro ρ2 H3 E3 hk
    refine ⟨B.acc L vs, rfl, ρ2, T, E3, ?_⟩
    cases e : fe ρ2 with
    | ok y ρ3 =>
      rw [e] at hk
      dsimp only at hk
      by_cases c : acc.length < lim
      · rw [if_pos c] at hk
        intro v H4 E4
        obtain ⟨ow4, E4'⟩ := id E4
        exact ⟨vs, E4'.accAt nb, by rw [← hl]; exact lim_lt (by omega), hy y v ρ3 H4 E4 c hk⟩
      · rw [if_neg c] at hk; exact absurd hk hno
    | ex x ρ3 => rw [e] at hk; exact absurd hk hno
    | no => rw [e] at hk; exact absurd hk hno
  cases ft with
  | none => exact ⟨B.acc L vs, rfl, iteT (B := Nx H) (el ρ1 H ⟨ow, E⟩ hk)⟩
  | some f =>
    refine ⟨B.acc L vs, rfl, ρ1, T, ⟨ow, E⟩, ?_⟩
    dsimp only at hk
    cases e : f ρ1 with
    | ok d ρ2 =>
      rw [e] at hk
      cases d with
      | bl b => cases b with
        | true => exact fun H3 E3 => iteT (el ρ2 H3 E3 hk)
        | false => exact fun H3 E3 => iteF (hf ρ2 H3 E3 hk)
      | _ => exact absurd hk hno
    | ex x ρ2 => rw [e] at hk; exact absurd hk hno
    | no => rw [e] at hk; exact absurd hk hno
/-- the walk of a comprehension: at each turn the rest is still to come -/
theorem lc_walk {K : PySem.W.Frag} {J : It} {ds : List D} {src : List D} {vsrc : List V} {σ : St} {L : Addr} {T : List (D × V)} {tgt : TgtF} {g : TG} {own : List Nat} {ft : Option ValF} {fe : ValF} {Qd : Hp → Prop} {k : ARes → Prop} {H1 : Hp} {ρ0 : Env} {acc0 : List D} {vs0 : List V}
    (ok : ItOk K J ds src vsrc) (lv : src.length = vsrc.length) (nb : L ∉ B.bor) (h0 : 0 ∉ own ∨ B.bor = []) (to : TgOwn own g)
    (hg : ∀ (B' : Bd), B'.bor = B.bor → ∀ (ow : Addr → Ow) (σ : St) (H : Hp) (ρ : Env) (T : List (D × V)) (d : D) (v : V) (ρ' : Env) (Q : St → Hp → Prop), ERo K B' fl ow σ H ρ T → Rep K (pubH ow H) d v → tgt d ρ = some ρ' → (∀ σ', ERo K B' fl ow σ' H ρ' T → Q σ' H) → g v σ H Q)
    (hno : ¬ k .no) (hA : acc0.length = vs0.length) (E0 : ER K (B.acc L vs0) fl (wipe σ own) H1 ρ0 (src.zip vsrc ++ (acc0.zip vs0 ++ T))) (hk : k (lcL tgt own ft fe ds acc0 ρ0))
    (hd : ∀ (acc : List D) (vs : List V) (ρ : Env) (H : Hp), acc.length = vs.length → ER K (B.acc L vs) fl (wipe σ own) H ρ (src.zip vsrc ++ (acc.zip vs ++ T)) → k (.ok acc ρ) → Qd H) :
    ∃ W : Nat → Nat → Hp → Prop, (∃ m, W 0 m H1) ∧ ∀ i m H, W i m H → (J.stop i H ∧ Qd H) ∨ (J.go i H ∧ ∃ Nx : Hp → Prop, (∀ H', Nx H' → ∃ m', m' < m ∧ W (i + 1) m' H') ∧ ∀ x H', J.yld i H x H' → g x (wipe σ own) H' fun σ2 H2 => wipe σ2 own = wipe σ own ∧
      ∃ B' : Bd, B'.bor = B.bor ∧ EvBo K B' W0 fl ft σ2 H2 fun b H3 => if b = true then (∃ B' : Bd, B'.bor = B.bor ∧ EvT K B' W0 fl fe σ2 H3 fun y H4 => ∃ acc, H4 L = some (.lst acc) ∧ acc.length < sizeLine ∧ Nx (upd H4 L (.lst (acc ++ [y])))) else Nx H3) := by
  refine ⟨fun i m H => m = ds.length - i ∧ i ≤ ds.length ∧ ∃ acc vs ρ, acc.length = vs.length ∧ ER K (B.acc L vs) fl (wipe σ own) H ρ (src.zip vsrc ++ (acc.zip vs ++ T)) ∧ k (lcL tgt own ft fe (ds.drop i) acc ρ), ⟨ds.length, rfl, Nat.zero_le _, acc0, vs0, ρ0, hA, E0, hk⟩, ?_⟩
  rintro i m H ⟨rfl, hi, acc, vs, ρ, hA, E, hk⟩
  obtain ⟨ow, E⟩ := E
  by_cases hlt : i < ds.length
  · refine .inr ⟨ok.go _ H i E.live (E.args lv) hlt, fun H => ∃ acc vs ρ, acc.length = vs.length ∧ ER K (B.acc L vs) fl (wipe σ own) H ρ (src.zip vsrc ++ (acc.zip vs ++ T)) ∧ k (lcL tgt own ft fe (ds.drop (i + 1)) acc ρ), fun H' h => ⟨ds.length - (i + 1), by omega, rfl, hlt, h⟩, fun x H' y => ?_⟩
    obtain ⟨s, d, e1, r⟩ := ok.yld _ H i x H' E.live (E.args lv) hlt y
    have e2 : ds.drop i = d :: ds.drop (i + 1) := by
      rw [List.drop_eq_getElem_cons hlt]
      rw [List.getElem?_eq_getElem hlt] at e1
      cases e1; rfl
    rw [e2] at hk
    unfold lcL at hk
    cases e3 : tgt d ρ with
    | none => rw [e3] at hk; exact absurd hk hno
    | some ρ1 =>
      rw [e3] at hk
      dsimp only at hk
      have wl : (wipe σ own).length = σ.length := wipe_length σ own
      have key : g x (wipe σ own) H' fun σ2 H2 => H2 = H' ∧ ERo K (B.acc L vs) fl ow σ2 H2 ρ1 (src.zip vsrc ++ (acc.zip vs ++ T)) := hg (B.acc L vs) rfl ow _ H' ρ _ d x ρ1 _ (E.mono s) r e3 fun σ2 E2 => ⟨rfl, E2⟩
      have ww : wipe (wipe σ own) own = wipe σ own := wipe_wipe σ own
      have key2 := to.own x (wipe σ own) H' _ key
      rw [ww] at key2
      refine to.mono _ _ _ _ _ key2 fun σ2 H2 ⟨hw, hH, E2⟩ => ⟨hw, ?_⟩
      have l2 : σ2.length = (wipe σ own).length := by
        have := congrArg List.length hw
        rw [wipe_length] at this; exact this
      have ws : ∀ i, i ∉ own → (wipe σ own)[i]? = σ2[i]? := fun i hi => by rw [← hw, wipe_get hi]
      refine lc_turn (rest := fun a r => lcL tgt own ft fe (ds.drop (i + 1)) a r) E2 nb hk hno hA (fun y v ρ3 H4 E4 c hk => ?_) fun ρ2 H3 E3 hk => ?_
      · obtain ⟨ow4, E4⟩ := E4
        refine ⟨acc ++ [y], vs ++ [v], fgtE own ρ3, by simp [hA], ⟨ow4, ?_⟩, hk⟩
        refine ERo.accApp (vs := vs) ((E4.wiped l2.symm ws (by exact h0)).sub fun q hq => ?_)
        rw [List.zip_append hA] at hq
        rcases List.mem_append.mp hq with hq | hq
        · exact List.mem_cons_of_mem _ (List.mem_append_left _ hq)
        · rw [List.append_assoc] at hq
          rcases List.mem_append.mp hq with hq | hq
          · exact List.mem_cons_of_mem _ (List.mem_append_right _ (List.mem_append_left _ hq))
          · rcases List.mem_append.mp hq with hq | hq
            · rcases List.mem_cons.mp (show q ∈ [(y, v)] from hq) with hq | hq
              · rw [hq]; exact List.mem_cons_self
              · cases hq
            · exact List.mem_cons_of_mem _ (List.mem_append_right _ (List.mem_append_right _ hq))
      · obtain ⟨ow3, E3⟩ := E3
        exact ⟨acc, vs, fgtE own ρ2, hA, ⟨ow3, E3.wiped l2.symm ws (by exact h0)⟩, hk⟩
  · have : i = ds.length := by omega
    subst this
    rw [List.drop_length] at hk
    exact .inl ⟨ok.stop _ H E.live (E.args lv), hd acc vs ρ H hA ⟨ow, E⟩ hk⟩
theorem lc_w {g : TG} {tgt : TgtF} {own : List Nat} {f : IterF} {ft : Option ValF} {fe : ValF} (h0 : 0 ∉ own ∨ B.bor = []) (to : TgOwn own g)
    (hg : ∀ (B' : Bd), B'.bor = B.bor → ∀ (ow : Addr → Ow) (σ : St) (H : Hp) (ρ : Env) (T : List (D × V)) (d : D) (v : V) (ρ' : Env) (Q : St → Hp → Prop), ERo X.K B' fl ow σ H ρ T → Rep X.K (pubH ow H) d v → tgt d ρ = some ρ' → (∀ σ', ERo X.K B' fl ow σ' H ρ' T → Q σ' H) → g v σ H Q) :
    ∀ (σ : St) (H : Hp) (Q : VK), EvF X.K B W fl (lcF f tgt own ft fe) σ H Q → tLc (EvI X.K B W fl f) g (fun σ H Q => ∃ B' : Bd, B'.bor = B.bor ∧ EvBo X.K B' W0 fl ft σ H Q) (fun σ H Q => ∃ B' : Bd, B'.bor = B.bor ∧ EvT X.K B' W0 fl fe σ H Q) own σ H Q :=
  fun σ H Q ⟨ρ, T, E, q⟩ => by
    obtain ⟨hn, hx, hk⟩ := evF_no q
    refine ⟨ρ, T, E, ?_⟩
    cases e : f ρ with
    | ok ds src ρ1 =>
      intro v H1 J lv E1 okJ L hL
      obtain ⟨ow, E1⟩ := E1
      obtain ⟨E2, nb, hL0⟩ := E1.accNew hL
      have hM : ¬ B.M L := fun z => by have := E1.frame L z; rw [E1.fresh hL] at this; cases this
      have eF : lcF f tgt (own) ft fe ρ = (match lcL tgt (own) ft fe ds [] (fgtE (own) ρ1) with
        | .ok ys ρ2 => .ok (.lst ys) (fgtE (own) ρ2)
        | _ => .no) := by unfold lcF; rw [e]
      rw [eF] at hn hk
      refine lc_walk (B := B) (fl := fl) (Qd := fun H => Q (.ref L) H) (k := fun r => r = lcL tgt (own) ft fe ds [] (fgtE (own) ρ1)) (acc0 := []) (vs0 := []) (T := T) okJ lv nb h0 to hg (fun z => hn (by rw [← z])) rfl ⟨_, (E2.wiped (wipe_length σ _) (fun i hi => wipe_get hi) h0)⟩ rfl fun acc vs ρ2 H3 hA E3 hkk => ?_
      obtain ⟨ow3, E3⟩ := E3
      rw [← hkk] at hk
      have r : Reps X.K (pubH ow3 H3) acc vs := reps_zip hA fun q hq => E3.tmp q (List.mem_append_right _ (List.mem_append_left _ hq))
      have E4 : ERo X.K (B.acc L vs) fl ow3 σ H3 (fgtE (own) ρ2) T := (E3.wiped (wipe_length σ (own)).symm (fun i hi => (wipe_get hi).symm) h0).sub fun q hq => List.mem_append_right _ (List.mem_append_right _ hq)
      obtain ⟨E5, o5⟩ := E4.accEnd nb hL0 hM r
      exact hk _ _ rfl L H3 _ E5 o5
    | ex x ρ1 => exact fun dx H' E' z => hx x ρ1 (by unfold lcF; rw [e]) dx H' E' z
    | no => exact hn (by unfold lcF; rw [e])
theorem pf_lc {elt tg iter : Expr} {ifs : List Expr} {scope : Scope} {own : List (Str × Nat)} {f : IterF} {g : TG} {tgt : TgtF} {ft : Option ValF} {fe : ValF} (hc : X.calm = true) (hN : X.N.Nodup) (hi : PIv X B W fl tg iter f) (ok : BlkOk X.N X.env.scope scope own)
    (h0 : 0 ∉ own.map (·.2) ∨ B.bor = []) (to : TgOwn (own.map (·.2)) g)
    (hg : ∀ (s : Shared) (H : Hp) (C : Addr) (cl : List (Str × Addr)) (fp : List Addr) (B' : Bd), B'.bor = B.bor → PGv (X.blk s H scope (compEnvC scope cl C X.env) fp) B' fl tg g tgt)
    (ht : ∀ (s : Shared) (H : Hp) (C : Addr) (cl : List (Str × Addr)) (fp : List Addr) (B' : Bd), B'.bor = B.bor → PTsv (X.blk s H scope (compEnvC scope cl C X.env) fp) B' W0 fl ifs ft)
    (he : ∀ (s : Shared) (H : Hp) (C : Addr) (cl : List (Str × Addr)) (fp : List Addr) (B' : Bd), B'.bor = B.bor → PV (X.blk s H scope (compEnvC scope cl C X.env) fp) B' W0 fl elt fe)
    (hs : ∀ x, foldedSetIterable iter X.env x = pure x := by intro _; rfl) : PF X B W fl (.ListComp elt [⟨tg, iter, ifs, 0⟩] scope pos) (lcF f tgt (own.map (·.2)) ft fe) :=
  ⟨PE.weaken (pe_lc (tt := (fun σ H Q => ∃ B' : Bd, B'.bor = B.bor ∧ EvBo X.K B' W0 fl ft σ H Q)) (te := (fun σ H Q => ∃ B' : Bd, B'.bor = B.bor ∧ EvT X.K B' W0 fl fe σ H Q)) hc hN hi.pi ok (fun s H C cl fp => (hg s H C cl fp B rfl).pg) (fun s H C cl fp => pts_ex (B := B) (ht s H C cl fp)) (fun s H C cl fp => pe_ex (B := B) (he s H C cl fp)) hs) (lc_w h0 to fun B' hb => (hg X.s_0 X.H_0 0 [] [] B' hb).run)⟩
/-- name = a value, by the name's rule -/
theorem psv_asgT {st : Stmt} {t : TE} {f : ValF} {i : Nat} (h : PS X st (tAsg t (gName i))) (w : ∀ σ H Q, EvT X.K B W fl f σ H Q → t σ H Q) (hb : i ≠ 0 ∨ B.bor = []) : PSv X B W flL fl (fl.set i false) st (put i f) :=
  PS.svT h fun D σ H ρ T E q => by
    refine w σ H _ (evT_out E q fun d ρ' ow v H' e E' r q => ?_)
    split at q
    · rename_i hi
      exact q _ _ ⟨ow, E'.set r (by rw [← E'.len]; exact hi) hb⟩
    · exact q.elim
theorem psv_asgFT {st : Stmt} {t : TE} {f : ValF} {i : Nat} (h : PS X st (tAsg t (gName i))) (w : ∀ σ H Q, EvF X.K B W fl f σ H Q → t σ H Q) (hb : i ≠ 0 ∨ B.bor = []) : PSv X B W flL fl (fl.set i true) st (put i f) :=
  PS.svT h fun D σ H ρ T E q => by
    refine w σ H _ (evF_out E q fun d ρ' ow v H' e E' r q => ?_)
    split at q
    · rename_i hi
      exact q _ _ ⟨_, E'.setF r (by rw [← E'.len]; exact hi) hb⟩
    · exact q.elim
def pubF (f : ValF) : ValF := fun ρ => match f ρ with
  | .ok d ρ' => if noRnd d then .ok d ρ' else .no
  | r => r
theorem evF_pub {f : ValF} {σ : St} {H : Hp} {Q : VK} {K : PySem.W.Frag} (h : EvT K B W fl (pubF f) σ H Q) : EvF K B W fl f σ H Q := by
  obtain ⟨ρ, T, E, q⟩ := h
  refine ⟨ρ, T, E, ?_⟩
  unfold pubF at q
  cases e : f ρ with
  | ok d ρ' =>
    rw [e] at q
    dsimp only at q ⊢
    by_cases hd : noRnd d = true
    · rw [if_pos hd] at q
      intro p H' ow E' o
      exact q _ _ ⟨_, E'.shareTmp.push (o.rep hd)⟩
    · rw [if_neg hd] at q
      exact q.elim
  | ex x ρ' => rw [e] at q; exact q
  | no => rw [e] at q; exact q.elim
theorem PF.v {e : Expr} {f : ValF} (h : PF X B W fl e f) : PV X B W fl e (pubF f) := ⟨PE.weaken h.pe fun σ H Q q => evF_pub q⟩
theorem psv_setLcF {elt tg iter : Expr} {ifs : List Expr} {scope : Scope} {i : Nat} {y : Str} {py spos : Pos} {own : List (Str × Nat)} {f : IterF} {g : TG} {tgt : TgtF} {ft : Option ValF} {fe : ValF} (hy : X.N[i]? = some y) (hyl : X.env.scope.names.lookup y = some .local) (hsw : swapsWith (.ListComp elt [⟨tg, iter, ifs, 0⟩] scope pos) (some (.Name y py)) spos.line X.env = pure true) (hb : i ≠ 0 ∨ B.bor = []) (hc : X.calm = true) (hN : X.N.Nodup) (hi : PIv X B W fl tg iter f) (ok : BlkOk X.N X.env.scope scope own)
    (h0 : 0 ∉ own.map (·.2) ∨ B.bor = []) (to : TgOwn (own.map (·.2)) g)
    (hg : ∀ (s : Shared) (H : Hp) (C : Addr) (cl : List (Str × Addr)) (fp : List Addr) (B' : Bd), B'.bor = B.bor → PGv (X.blk s H scope (compEnvC scope cl C X.env) fp) B' fl tg g tgt)
    (ht : ∀ (s : Shared) (H : Hp) (C : Addr) (cl : List (Str × Addr)) (fp : List Addr) (B' : Bd), B'.bor = B.bor → PTsv (X.blk s H scope (compEnvC scope cl C X.env) fp) B' W0 fl ifs ft)
    (he : ∀ (s : Shared) (H : Hp) (C : Addr) (cl : List (Str × Addr)) (fp : List Addr) (B' : Bd), B'.bor = B.bor → PV (X.blk s H scope (compEnvC scope cl C X.env) fp) B' W0 fl elt fe)
    (hs : ∀ x, foldedSetIterable iter X.env x = pure x := by intro _; rfl) :
    PSv X B W flL fl (fl.set i true) (.Assign [.Name y py] (.ListComp elt [⟨tg, iter, ifs, 0⟩] scope pos) spos) (put i (lcF f tgt (own.map (·.2)) ft fe)) :=
  psv_asgFT (ps_setLc (tt := (fun σ H Q => ∃ B' : Bd, B'.bor = B.bor ∧ EvBo X.K B' W0 fl ft σ H Q)) (te := (fun σ H Q => ∃ B' : Bd, B'.bor = B.bor ∧ EvT X.K B' W0 fl fe σ H Q)) hc hN hy hyl hsw hi.pi ok (fun s H C cl fp => (hg s H C cl fp B rfl).pg) (fun s H C cl fp => pts_ex (B := B) (ht s H C cl fp)) (fun s H C cl fp => pe_ex (B := B) (he s H C cl fp)) hs) (lc_w h0 to fun B' hb => (hg X.s_0 X.H_0 0 [] [] B' hb).run) hb
theorem psv_setLc {elt tg iter : Expr} {ifs : List Expr} {scope : Scope} {i : Nat} {y : Str} {py spos : Pos} {own : List (Str × Nat)} {f : IterF} {g : TG} {tgt : TgtF} {ft : Option ValF} {fe : ValF} (hy : X.N[i]? = some y) (hyl : X.env.scope.names.lookup y = some .local) (hsw : swapsWith (.ListComp elt [⟨tg, iter, ifs, 0⟩] scope pos) (some (.Name y py)) spos.line X.env = pure true) (hb : i ≠ 0 ∨ B.bor = []) (hc : X.calm = true) (hN : X.N.Nodup) (hi : PIv X B W fl tg iter f) (ok : BlkOk X.N X.env.scope scope own)
    (h0 : 0 ∉ own.map (·.2) ∨ B.bor = []) (to : TgOwn (own.map (·.2)) g)
    (hg : ∀ (s : Shared) (H : Hp) (C : Addr) (cl : List (Str × Addr)) (fp : List Addr) (B' : Bd), B'.bor = B.bor → PGv (X.blk s H scope (compEnvC scope cl C X.env) fp) B' fl tg g tgt)
    (ht : ∀ (s : Shared) (H : Hp) (C : Addr) (cl : List (Str × Addr)) (fp : List Addr) (B' : Bd), B'.bor = B.bor → PTsv (X.blk s H scope (compEnvC scope cl C X.env) fp) B' W0 fl ifs ft)
    (he : ∀ (s : Shared) (H : Hp) (C : Addr) (cl : List (Str × Addr)) (fp : List Addr) (B' : Bd), B'.bor = B.bor → PV (X.blk s H scope (compEnvC scope cl C X.env) fp) B' W0 fl elt fe)
    (hs : ∀ x, foldedSetIterable iter X.env x = pure x := by intro _; rfl) :
    PSv X B W flL fl (fl.set i false) (.Assign [.Name y py] (.ListComp elt [⟨tg, iter, ifs, 0⟩] scope pos) spos) (put i (pubF (lcF f tgt (own.map (·.2)) ft fe))) :=
  psv_asgT (ps_setLc (tt := (fun σ H Q => ∃ B' : Bd, B'.bor = B.bor ∧ EvBo X.K B' W0 fl ft σ H Q)) (te := (fun σ H Q => ∃ B' : Bd, B'.bor = B.bor ∧ EvT X.K B' W0 fl fe σ H Q)) hc hN hy hyl hsw hi.pi ok (fun s H C cl fp => (hg s H C cl fp B rfl).pg) (fun s H C cl fp => pts_ex (B := B) (ht s H C cl fp)) (fun s H C cl fp => pe_ex (B := B) (he s H C cl fp)) hs) (fun σ H Q q => lc_w h0 to (fun B' hb => (hg X.s_0 X.H_0 0 [] [] B' hb).run) σ H Q (evF_pub q)) hb
end
end Pv

/-! Pv9: chains, isinstance, several stores, changes by place, enumerate, zip, draws, a law's facts. -/
noncomputable section
namespace Pv
open PySem PySem.Spec L2
open PyProof.Rows hiding St

section
variable {X : Cx} {B : Bd} {W : WX} {fl fl1 fl' flL : List Bool} {pos : Pos} {tg : Expr}
/-! ### a < b < c -/
def chF (g g' : D → D → Option D) (fa fb fc : ValF) : ValF := fun ρ => (fa ρ).bind fun x ρ1 => (fb ρ1).bind fun y ρ2 => match g x y with
  | some (.bl true) => (fc ρ2).bind fun z ρ3 => ofO (g' y z) ρ3
  | some (.bl false) => .ok (.bl false) ρ2
  | _ => .no
theorem chain_w {K : PySem.W.Frag} {r r' : R2} {g g' : D → D → Option D} (hg : Op2 K r g) (hg' : Op2 K r' g') {fa fb fc : ValF} {σ : St} {H : Hp} {Q : VK} (h : EvT K B W fl (chF g g' fa fb fc) σ H Q) :
    tChain r r' (EvT K B W fl fa) (EvT K B W fl fb) (EvT K B W fl fc) σ H Q := by
  obtain ⟨ρ, T, E, q⟩ := h
  obtain ⟨hn, hx, hk⟩ := evT_no q
  refine ⟨ρ, T, E, ?_⟩
  unfold chF at hn hx hk
  cases e : fa ρ with
  | ok x ρ1 =>
    rw [e] at hn hx hk
    intro v H1 E1
    refine ⟨ρ1, _, E1, ?_⟩
    unfold ERes.bind at hn hx hk
    dsimp only at hn hx hk
    cases e2 : fb ρ1 with
    | ok y ρ2 =>
      rw [e2] at hn hx hk
      dsimp only at hn hx hk
      intro w H2 ⟨ow, E2⟩
      cases e3 : g x y with
      | none => rw [e3] at hn; exact absurd rfl hn
      | some z =>
        rw [e3] at hn hx hk
        refine hg (fun a => ow a ≠ .pub) H2 x y v w z _ E2.live (.val E2.drop.top) (.val E2.top) e3 fun u H3 s r => ?_
        cases z with
        | bl b =>
          cases r
          refine ⟨b, rfl, ?_⟩
          cases b with
          | true =>
            refine iteT ⟨ρ2, _, ⟨ow, E2.mono s⟩, ?_⟩
            dsimp only at hn hx hk
            cases e4 : fc ρ2 with
            | ok c ρ3 =>
              rw [e4] at hn hx hk
              dsimp only at hn hx hk
              intro w' H4 ⟨ow4, E4⟩
              obtain ⟨z, hz⟩ := ofO_ne hn
              refine hg' (fun a => ow4 a ≠ .pub) H4 y c w w' z Q E4.live (.val E4.drop.top) (.val E4.top) hz fun u H5 s r => ?_
              exact hk z ρ3 (by rw [hz]; rfl) u H5 ⟨ow4, (E4.drop.drop.drop.mono s).push r⟩
            | ex x ρ3 => rw [e4] at hx; exact fun dx H' E' z => hx x ρ3 rfl dx H' (E'.sub fun p hp => List.mem_cons_of_mem _ (List.mem_cons_of_mem _ hp)) z
            | no => rw [e4] at hn; exact hn rfl
          | false => exact iteF (hk _ _ rfl _ _ ⟨ow, (E2.drop.drop.mono s).push (.bl false)⟩)
        | _ => exact absurd rfl hn
    | ex x ρ2 => rw [e2] at hx; exact fun dx H' E' z => hx x ρ2 rfl dx H' (E'.sub fun p hp => List.mem_cons_of_mem _ hp) z
    | no => rw [e2] at hn; exact hn rfl
  | ex x ρ1 => rw [e] at hx; exact hx x ρ1 rfl
  | no => rw [e] at hn; exact hn rfl
theorem pv_chain {e : Expr} {r r' : R2} {g g' : D → D → Option D} {fa fb fc : ValF} (h : PE X e (tChain r r' (EvT X.K B W fl fa) (EvT X.K B W fl fb) (EvT X.K B W fl fc))) (hg : Op2 X.K r g) (hg' : Op2 X.K r' g') : PV X B W fl e (chF g g' fa fb fc) :=
  ⟨PE.weaken h fun σ H Q q => chain_w hg hg' q⟩
theorem ptv_chain {e : Expr} {r r' : R2} {g g' : D → D → Option D} {fa fb fc : ValF} (h : PT X e (tTest (tChain r r' (EvT X.K B W fl fa) (EvT X.K B W fl fb) (EvT X.K B W fl fc)))) (hg : Op2 X.K r g) (hg' : Op2 X.K r' g') : PTv X B W fl e (chF g g' fa fb fc) :=
  ⟨PT.weaken h fun σ H Q q => chain_w hg hg' (evB_T q)⟩
/-! ### isinstance -/
def tyD : D → Option String
  | .non => some "NoneType"
  | .bl _ => some "bool"
  | .int _ => some "int"
  | .str _ => some "str"
  | .lst _ => some "list"
  | .tup _ => some "tuple"
  | .dik _ => some "dict"
  | _ => none
def isiD : D → D → Option D
  | x, .ty n => (tyD x).bind fun t => (kitB t n).map D.bl
  | _, _ => none
theorem tyD_x {K : PySem.W.Frag} {h H : Hp} {x : D} {v : V} {t : String} (b : BRep K h H x v) (s : Same h H) (e : tyD x = some t) : TyX K H v (.type t) := by
  cases x with
  | non => cases e; cases b.nonE; exact .base .non
  | bl i => cases e; cases b.blE; exact .base (.bl i)
  | int i => cases e; cases b.intE; exact .base (.int i)
  | str i => cases e; cases b.strE; exact .base (.str _)
  | lst i => cases e; obtain ⟨a, vs, rfl, h1, _⟩ := b.lstE s; exact .base (.lst h1)
  | tup i =>
    cases e
    obtain ⟨a, vs, rfl, h1, _⟩ := b.tupE s
    exact .base (.tup h1)
  | dik i =>
    cases e
    obtain ⟨a, vs, rfl, h1, _⟩ := b.dikE s
    rcases h1 with h1 | ⟨o, h1⟩
    · exact .base (.dK h1)
    · exact .fDict h1
  | _ => cases e
theorem o_isi {K : PySem.W.Frag} : Op2 K (fun x y H Q => rIsi K [x, y] H Q) isiD := by
  intro N H x y v w z Q hN bx hy e q
  unfold isiD at e
  split at e
  · rename_i n
    obtain ⟨t, e1, e2⟩ := Option.bind_eq_some_iff.mp e
    obtain ⟨b, e3, rfl⟩ := Option.map_eq_some_iff.mp e2
    cases hy with
    | val r =>
      cases r
      exact ⟨v, .ty n, _, _, b, rfl, .ty n, tyD_x bx hide_sub e1, kit_ty e3, q _ H (Same.refl H) (.bl b)⟩
  · cases e
/-! ### a, b = e1, e2 -/
def par2 (i j : Nat) (fa : ArgF) : StF := fun ρ => match fa ρ with
  | .ok [x, y] ρ' => if i < ρ'.length ∧ j < ρ'.length then .nx ((ρ'.set i (some x)).set j (some y)) else .no
  | .ex x ρ' => .ex x ρ'
  | _ => .no
theorem psv_par {st : Stmt} {i j : Nat} {es : List Expr} {fa : ArgF} (mk : ∀ ta, PA X es ta → PS X st (tPar i j ta)) (ha : PAv X B W fl es fa) (hb : i ≠ 0 ∨ B.bor = []) (hb2 : j ≠ 0 ∨ B.bor = []) : PSv X B W flL fl ((fl.set i false).set j false) st (par2 i j fa) :=
  PS.svT (mk _ ha.pa) fun D σ H ρ T E q => by
    refine ⟨ρ, T, E, ?_⟩
    unfold par2 at q
    cases e : fa ρ with
    | ok ds ρ' =>
      rw [e] at q
      intro vs H' l E'
      obtain ⟨ow, E'⟩ := E'
      have r := E'.args l
      have Ez : ERo X.K B fl ow σ H' ρ' T := E'.noargs
      split at q
      · rename_i x y ρ2 e2
        cases e2
        cases r with
        | cons r1 r => cases r with
          | cons r2 r =>
            cases r
            split at q
            · rename_i c
              refine ⟨_, _, rfl, ?_⟩
              have E1 := Ez.set r1 (by rw [← Ez.len]; exact c.1) hb
              exact q _ _ ⟨ow, E1.set r2 (by rw [List.length_set, ← Ez.len]; exact c.2) hb2⟩
            · exact q.elim
      · rename_i e2; cases e2
      · exact q.elim
    | ex x ρ' => rw [e] at q; exact fun dx H' E' z => q dx σ H' fl E' z
    | no => rw [e] at q; exact q.elim
/-! ### x += e -/
def augS (i : Nat) (f : ValF) (g : D → D → Option D) : StF := fun ρ => match (ρ[i]? : Option (Option D)) with
  | some (some _) => (f ρ).out fun d ρ' => match (ρ'[i]? : Option (Option D)) with
    | some (some x) => match g x d with
      | some z => .nx (ρ'.set i (some z))
      | none => .no
    | _ => .no
  | _ => .no
theorem psv_aug {st : Stmt} {e : Expr} {f : ValF} {i : Nat} {h : Int → Int → Int} {g : D → D → Option D} (mk : ∀ te, PE X e te → PS X st (tAug i te (ipI h))) (he : PV X B W fl e f) (hg : ∀ x y z, g x y = some z → ∃ a b, x = .int a ∧ y = .int b ∧ z = .int (h a b))
    (hb : i ≠ 0 ∨ B.bor = []) (hf : fl[i]? = some false := by rfl) (hff : fl.set i false = fl := by rfl) : PSv X B W flL fl fl st (augS i f g) :=
  PS.svT (mk _ he.pe) fun D σ H ρ T E q => by
    unfold augS at q
    split at q
    · rename_i d0 e0
      obtain ⟨ow0, E0⟩ := id E
      obtain ⟨v0, e1, r0⟩ := E0.sh i d0 e0 (by rw [hf]; exact fun z => nomatch z)
      refine ⟨v0, e1, evT_out E q fun d ρ' ow v H' e E' r q => ?_⟩
      split at q
      · rename_i x e3
        split at q
        · rename_i z e4
          obtain ⟨v1, e5, r1⟩ := E'.sh i x e3 (by rw [hf]; exact fun z => nomatch z)
          rw [e1] at e5; cases e5
          obtain ⟨a, b, rfl, rfl, rfl⟩ := hg _ _ _ e4
          cases r1
          cases r
          refine ⟨a, b, rfl, rfl, q _ _ ⟨ow, ?_⟩⟩
          have hl : i < σ.length := by
            rw [← E'.len]
            exact (List.getElem?_eq_some_iff.mp e3).1
          have := E'.set (i := i) (Rep.int (K := X.K) (h := pubH ow H') (h a b)) hl hb
          rw [hff] at this
          exact this
        · exact q.elim
      · exact q.elim
    · exact q.elim
def addIO : D → D → Option D
  | .int i, .int j => some (.int (i + j))
  | _, _ => none
def subIO : D → D → Option D
  | .int i, .int j => some (.int (i - j))
  | _, _ => none
theorem addIO_ok : ∀ x y z, addIO x y = some z → ∃ a b, x = .int a ∧ y = .int b ∧ z = .int (a + b) := fun x y z h => by
  unfold addIO at h
  split at h
  · cases h; exact ⟨_, _, rfl, rfl, rfl⟩
  · cases h
theorem subIO_ok : ∀ x y z, subIO x y = some z → ∃ a b, x = .int a ∧ y = .int b ∧ z = .int (a - b) := fun x y z h => by
  unfold subIO at h
  split at h
  · cases h; exact ⟨_, _, rfl, rfl, rfl⟩
  · cases h
/-! ### x[i] = e, x held -/
def stL (k : Nat) (fi fe : ValF) : StF := fun ρ => (fe ρ).out fun d ρ1 => match (ρ1[k]? : Option (Option D)) with
  | some (some _) => (fi ρ1).out fun i ρ2 => match (ρ2[k]? : Option (Option D)), i with
    | some (some (.lst xs)), .int n => match ixN xs.length n with
      | some j => .nx (ρ2.set k (some (.lst (xs.set j d))))
      | none => .no
    | _, _ => .no
  | _ => .no
theorem psv_setL {st : Stmt} {e i : Expr} {fe fi : ValF} {k : Nat} (mk : ∀ te ti, PE X e te → PE X i ti → PS X st (tAsg te (gSub (tVar k) ti rSetL))) (he : PV X B W fl e fe) (hi : PV X B W fl i fi) (hf : fl[k]? = some true := by rfl) : PSv X B W flL fl fl st (stL k fi fe) :=
  PS.svT (mk _ _ he.pe hi.pe) fun D σ H ρ T E q => by
    unfold stL at q
    refine evT_out E q fun d ρ1 ow v H1 e1 E1 r1 q => ?_
    split at q
    · rename_i d0 e0
      obtain ⟨p, e2, o0⟩ := E1.hd k d0 e0 hf
      refine ⟨_, e2, ?_⟩
      refine evT_out (T := (d, v) :: T) (flL := flL) (fl' := fl) (D := D) (k := fun i ρ2 => match (ρ2[k]? : Option (Option Pv.D)), i with
        | some (some (.lst xs)), .int n => match ixN xs.length n with
          | some j => .nx (ρ2.set k (some (.lst (xs.set j d))))
          | none => .no
        | _, _ => .no) ⟨ow, E1.push r1⟩ ?_ fun iD ρ2 ow2 vi H2 e3 E2 ri q => ?_
      · refine outQ_sub q fun x hx => List.mem_cons_of_mem _ hx
      · split at q
        · rename_i xs n e4
          split at q
          · rename_i j e5
            obtain ⟨p', e6, h1, vs, h2, h3⟩ := E2.hd k _ e4 hf
            rw [e2] at e6; cases e6
            cases ri
            refine ⟨p, vs, n, j, rfl, rfl, h2, by rw [← h3.length]; exact e5, ?_⟩
            refine q _ _ ⟨ow2, E2.change1 hf e2 h1 ⟨h1, _, upd_same, ?_⟩⟩
            rw [pubH_upd (by rw [h1]; exact fun z => nomatch z)]
            exact h3.set j E2.top
          · exact q.elim
        · exact q.elim
    · exact q.elim
/-! ### x[i] += e, x held: a list of ints -/
def auL (k : Nat) (fi fe : ValF) (g : D → D → Option D) : StF := fun ρ => match (ρ[k]? : Option (Option D)) with
  | some (some _) => (fi ρ).out fun i ρ1 => match (ρ1[k]? : Option (Option D)), i with
    | some (some (.lst xs)), .int n => match ixN xs.length n with
      | some j => match xs[j]? with
        | some x => (fe ρ1).out fun d ρ2 => match (ρ2[k]? : Option (Option D)), g x d with
          | some (some (.lst ys)), some z => if ys.length = xs.length then .nx (ρ2.set k (some (.lst (ys.set j z)))) else .no
          | _, _ => .no
        | none => .no
      | none => .no
    | _, _ => .no
  | _ => .no

theorem get_list : PGet X (rIxL X.K) := by
  intro pins s σ H x y v u Q I rx ry h
  obtain ⟨p, xs, i, z, rfl, rfl, hq, he, q⟩ := h
  cases rx
  obtain ⟨t, rfl⟩ := ry
  obtain ⟨its, r, pl, hz⟩ := I.list hq
  obtain ⟨j, h1, h2, h3, h4, h5⟩ := atI_get he
  obtain ⟨w, ew, rw'⟩ := r.get h2
  have hl := r.length
  have hn := line63
  have fin : EP X pins σ Q w s := ⟨z, H, I, rw', q⟩
  by_cases h0 : 0 ≤ i
  · have hj : i.toNat = j := by
      rw [seqIndex_of h0 h5] at h1
      exact Option.some.inj h1
    refine thn (wpAny_getItem_list (Q := fun r s' => r = w ∧ EP X pins σ Q r s') pl.isList (by omega) (by omega) (by rw [hj]; simpa using ew) ⟨rfl, fin⟩) fun a s' h => h.2
  · have hj : (i + (its.toArray.size : Int)).toNat = j := by
      rw [seqIndex_neg (by omega) h4] at h1
      rw [List.size_toArray, ← hl]
      exact Option.some.inj h1
    refine thn (wpAny_getItem_list_neg (Q := fun r s' => r = w ∧ EP X pins σ Q r s') pl.isList (by omega) (by rw [List.size_toArray] <;> omega) (by omega) (by rw [hj]; simpa using ew) ⟨rfl, fin⟩) fun a s' h => h.2
theorem psv_augL {st : Stmt} {e i : Expr} {fe fi : ValF} {k : Nat} {h : Int → Int → Int} {g : D → D → Option D} (mk : ∀ te ti, PE X e te → PE X i ti → PS X st (tAugS (tVar k) ti te (rIxL X.K) (ipI h) rSetL)) (he : PV X B W fl e fe) (hi : PV X B W fl i fi)
    (hg : ∀ x y z, g x y = some z → ∃ a b, x = .int a ∧ y = .int b ∧ z = .int (h a b)) (hf : fl[k]? = some true := by rfl) : PSv X B W flL fl fl st (auL k fi fe g) :=
  PS.svT (mk _ _ he.pe hi.pe) fun D σ H ρ T E q => by
    unfold auL at q
    split at q
    · rename_i d0 e0
      obtain ⟨ow0, E0⟩ := id E
      obtain ⟨p, e1, o0⟩ := E0.hd k d0 e0 hf
      refine ⟨_, e1, evT_out E q fun iD ρ1 ow1 vi H1 e2 E1 ri q => ?_⟩
      split at q
      · rename_i xs n e3
        split at q
        · rename_i j e4
          split at q
          · rename_i x e5
            obtain ⟨p', e6, h1, vs, h2, h3⟩ := E1.hd k _ e3 hf
            rw [e1] at e6; cases e6
            cases ri
            obtain ⟨v, e7, rv⟩ := h3.get e5
            refine ⟨p, vs, n, v, rfl, rfl, SqL.of h2, ?_, ?_⟩
            · unfold atI
              rw [← h3.length, e4]; exact e7
            refine evT_out (T := (x, v) :: T) (flL := flL) (fl' := fl) (D := D) (k := fun d ρ2 => match (ρ2[k]? : Option (Option Pv.D)), g x d with
              | some (some (.lst ys)), some z => if ys.length = xs.length then .nx (ρ2.set k (some (.lst (ys.set j z)))) else .no
              | _, _ => .no) ⟨ow1, E1.push rv⟩ (outQ_sub q fun x hx => List.mem_cons_of_mem _ hx) fun d ρ2 ow2 w H2 e8 E2 rw2 q => ?_
            split at q
            · rename_i ys z e9 e10
              split at q
              · rename_i hl
                obtain ⟨a, b, rfl, rfl, rfl⟩ := hg _ _ _ e10
                have rx := E2.top
                cases rx
                cases rw2
                obtain ⟨p', e6, h1, us, h2, h3⟩ := E2.hd k _ e9 hf
                rw [e1] at e6; cases e6
                refine ⟨a, b, rfl, rfl, p, us, n, j, rfl, rfl, h2, by rw [← h3.length, hl]; exact e4, ?_⟩
                refine q _ _ ⟨ow2, E2.change1 hf e1 h1 ⟨h1, _, upd_same, ?_⟩⟩
                rw [pubH_upd (by rw [h1]; exact fun z => nomatch z)]
                exact h3.set j (.int _)
              · exact q.elim
            · exact q.elim
          · exact q.elim
        · exact q.elim
      · exact q.elim
    · exact q.elim
/-! ### enumerate(list), zip(list, list) -/
def pairsE (ds : List D) : List D := (List.range ds.length).map fun (i : Nat) => .tup [.int i, ds.getD i .non]
theorem itOk_enum {K : PySem.W.Frag} {a : Addr} {ds : List D} : ItOk K (Ite K a) (pairsE ds) [.lst ds] [.ref a] := by
  have l : (pairsE ds).length = ds.length := by simp [pairsE]
  have key : ∀ {N : Addr → Prop} {H : Hp}, Reps K (hide N H) [.lst ds] [.ref a] → ∃ vs, SqL K H a vs ∧ Reps K (hide N H) ds vs := fun r => by
    cases r with | cons r _ => cases r with | lst e q => exact ⟨_, SqL.of (hide_sub _ _ e), q⟩
  refine ⟨fun N H i _ r hi => ?_, fun N H _ r => ?_, fun N H i x H' hN r hi y => ?_⟩
  · obtain ⟨vs, h1, h2⟩ := key r
    rw [l, h2.length] at hi
    exact ⟨vs, vs[i], h1, by simp [hi]⟩
  · obtain ⟨vs, h1, h2⟩ := key r
    exact ⟨vs, h1, by rw [l, h2.length]; exact Nat.le_refl _⟩
  · obtain ⟨vs, h1, h2⟩ := key r
    obtain ⟨T, w, rfl, hT, rfl, hw⟩ := y
    obtain ⟨d, e2, r2⟩ := h2.getV (hw vs h1)
    rw [l] at hi
    refine ⟨same_new hT, .tup [.int i, d], ?_, .tup (hide_some.mpr ⟨not_hid hN hT, upd_same⟩) (.cons (.int _) (.cons (r2.mono (new_sub hT)) .nil))⟩
    unfold pairsE
    rw [List.getElem?_map, List.getElem?_range hi]
    simp [List.getD, e2]
def pairsZ (ds es : List D) : List D := (ds.zip es).map fun q => .tup [q.1, q.2]
theorem itOk_zip {K : PySem.W.Frag} {a b : Addr} {ds es : List D} : ItOk K (Itz K a b) (pairsZ ds es) [.lst ds, .lst es] [.ref a, .ref b] := by
  have hv : ∀ (h : Hp), Reps K h [.lst ds, .lst es] [.ref a, .ref b] → ∃ vs us, h a = some (.lst vs) ∧ Reps K h ds vs ∧ h b = some (.lst us) ∧ Reps K h es us := fun h r => by
    cases r with | cons r1 r => cases r with | cons r2 r => cases r1 with | lst h1 h2 => cases r2 with | lst h3 h4 => exact ⟨_, _, h1, h2, h3, h4⟩
  have l : (pairsZ ds es).length = min ds.length es.length := by simp [pairsZ]
  refine ⟨fun N H i _ r hi => ?_, fun N H _ r => ?_, fun N H i x H' hN r hi y => ?_⟩
  · obtain ⟨vs, us, h1, h2, h3, h4⟩ := hv _ r
    rw [l, h2.length, h4.length] at hi
    exact ⟨vs, us, vs[i]'(by omega), us[i]'(by omega), SqL.of (hide_sub _ _ h1), SqL.of (hide_sub _ _ h3), by simp, by simp⟩
  · obtain ⟨vs, us, h1, h2, h3, h4⟩ := hv _ r
    refine ⟨vs, us, SqL.of (hide_sub _ _ h1), SqL.of (hide_sub _ _ h3), ?_⟩
    rw [l, h2.length, h4.length]; omega
  · obtain ⟨vs, us, h1, h2, h3, h4⟩ := hv _ r
    obtain ⟨T, w, z, rfl, hT, rfl, hw, hz⟩ := y
    obtain ⟨d, e2, r2⟩ := h2.getV (hw vs (SqL.of (hide_sub _ _ h1)))
    obtain ⟨d', e3, r3⟩ := h4.getV (hz us (SqL.of (hide_sub _ _ h3)))
    refine ⟨same_new hT, .tup [d, d'], ?_, .tup (hide_some.mpr ⟨not_hid hN hT, upd_same⟩) (.cons (r2.mono (new_sub hT)) (.cons (r3.mono (new_sub hT)) .nil))⟩
    unfold pairsZ
    rw [List.getElem?_map]
    have : (ds.zip es)[i]? = some (d, d') := by rw [List.getElem?_zip_eq_some]; exact ⟨e2, e3⟩
    rw [this]; rfl
def itEnum (f : ArgF) : IterF := fun ρ => match f ρ with
  | .ok [.lst ds] ρ' => .ok (pairsE ds) [.lst ds] ρ'
  | .ex x ρ' => .ex x ρ'
  | _ => .no
theorem piv_enum {e : Expr} {f : ArgF} {p tpos : Pos} {elts : List Expr} {kk : Nat} (hg : Gl X "enumerate") (hm : X.mg "enumerate" = none) (ha : PAv X B W fl [e] f) (hs : starEach [e] X.env = [(false, eval e X.env)] := by rfl) :
    PIv X B W fl (.Tuple elts kk tpos) (.Call (.Name "enumerate" p) [e] [] pos) (itEnum f) :=
  ⟨PI.weaken (pi_enum hg hm ha.pa hs) fun σ H R ⟨ρ, T, E, q⟩ => by
    obtain ⟨hn, hx, hk⟩ := evI_no q
    refine evA_mk E (fun e => hn (by unfold itEnum; rw [e])) (fun x ρ' e => hx x ρ' (by unfold itEnum; rw [e])) fun ds ρ' ow vs H' e E' r => ?_
    unfold itEnum at hn
    rw [e] at hn
    split at hn
    · rename_i ds ρ2 e2
      cases e2
      cases r with
      | cons r t =>
        cases t
        have r0 := r
        cases r with
        | lst h1 h2 => exact ⟨_, _, rfl, SqL.of (hide_sub _ _ h1), hk _ _ _ (by unfold itEnum; rw [e]) [_] H' _ rfl ⟨ow, E'.push r0⟩ itOk_enum⟩
    · rename_i e2; cases e2
    · exact absurd rfl hn⟩
def itZip (f : ArgF) : IterF := fun ρ => match f ρ with
  | .ok [.lst ds, .lst es] ρ' => .ok (pairsZ ds es) [.lst ds, .lst es] ρ'
  | .ex x ρ' => .ex x ρ'
  | _ => .no
theorem piv_zip {e e2 : Expr} {f : ArgF} {p tpos : Pos} {elts : List Expr} {kk : Nat} (hg : Gl X "zip") (hm : X.mg "zip" = none) (ha : PAv X B W fl [e, e2] f)
    (hs : starEach [e, e2] X.env = (false, eval e X.env) :: starEach [e2] X.env := by rfl) (hpl : (backTo pos (starEach [e2] X.env)).any (·.1) = false := by rfl) :
    PIv X B W fl (.Tuple elts kk tpos) (.Call (.Name "zip" p) [e, e2] [] pos) (itZip f) :=
  ⟨PI.weaken (pi_zip hg hm ha.pa hs hpl) fun σ H R ⟨ρ, T, E, q⟩ => by
    obtain ⟨hn, hx, hk⟩ := evI_no q
    refine evA_mk E (fun e => hn (by unfold itZip; rw [e])) (fun x ρ' e => hx x ρ' (by unfold itZip; rw [e])) fun ds ρ' ow vs H' e E' r => ?_
    unfold itZip at hn
    rw [e] at hn
    split at hn
    · rename_i ds es ρ2 e2
      cases e2
      cases r with
      | cons r t => cases t with
        | cons r2 t =>
          cases t
          have r0 := r
          have r02 := r2
          cases r with
          | lst h1 h2 => cases r2 with
            | lst h3 h4 => exact ⟨_, _, _, _, rfl, SqL.of (hide_sub _ _ h1), SqL.of (hide_sub _ _ h3), hk _ _ _ (by unfold itZip; rw [e]) [_, _] H' _ rfl ⟨ow, (E'.push r02).push r0⟩ itOk_zip⟩
    · rename_i e2; cases e2
    · exact absurd rfl hn⟩
end
end Pv

/-! Pv10: the source of draws, facts of the top, calls by name, a law. -/
noncomputable section
namespace Pv
open PySem PySem.Spec L2
open PyProof.Rows hiding St

def callR (F : D → List D → RRes) (k : Nat) (fa : ArgF) : ValF := fun ρ => match (ρ[k]? : Option (Option D)) with
  | some (some _) => match fa ρ with
    | .ok ds ρ' => match (ρ'[k]? : Option (Option D)) with
      | some (some (.rnd la s cs i)) => match F (.rnd la s cs i) ds with
        | .rt d (.rnd la' s' cs' i') => if la' = la then .ok d (ρ'.set k (some (.rnd la' s' cs' i'))) else .no
        | _ => .no
      | _ => .no
    | .ex x ρ' => .ex x ρ'
    | .no => .no
  | _ => .no
section
variable {X : Cx} {B : Bd} {W : WX} {fl fl1 fl' flL : List Bool} {pos : Pos}
theorem pv_callR {k n m : Nat} {f : Addr} {fd : FuncData} {ps : List Str} {F : D → List D → RRes} {x y : Str} {p p2 : Pos} {es : List Expr} {fa : ArgF} (G : FnOk X.prog X.w X.K X.mg X.base (L2N.CX X.prog X.w) m f fd ps (spR X.K n F)) (hr : Room m X.A) (hg : Gl X x) (hm : X.mg x = some (.ref f))
    (hk : PySem.W.keepIn X.K (.ref f) = true) (hb : Binds X.K fd ps []) (tk : L2N.Takes X W) (hv : PE X (.Name y p2) (tVar k)) (ha : PAv X B W fl es fa) (hf : fl[k]? = some true := by rfl) (hn0 : es.length = n := by rfl) (hdb : (x == ("__debug__" : Str)) = false := by decide)
    (he : starEach (.Name y p2 :: es) X.env = (false, eval (.Name y p2) X.env) :: starEach es X.env := by rfl) (hpl : (backTo pos (starEach es X.env)).any (·.1) = false := by rfl) : PV X B W fl (.Call (.Name x p) (.Name y p2 :: es) [] pos) (callR F k fa) :=
  ⟨PE.weaken (pe_callS G hr hg hm hk hb (fun σ => L2N.passAt tk σ) (pa_cons hv ha.pa he) hdb he hpl) fun σ H Q ⟨ρ, T, E, q⟩ => by
    obtain ⟨hn, hx, hkk⟩ := evT_no q
    cases e0 : (ρ[k]? : Option (Option D)) with
    | none => exact absurd (by unfold callR; rw [e0]) hn
    | some r0 =>
      cases r0 with
      | none => exact absurd (by unfold callR; rw [e0]) hn
      | some d0 =>
        obtain ⟨ow0, E0⟩ := id E
        obtain ⟨p0, e1, _⟩ := E0.hd k d0 e0 hf
        refine ⟨.ref p0, e1, ?_⟩
        refine evA_mk E (fun e => hn (by unfold callR; rw [e0]; dsimp only; rw [e])) (fun x ρ' e => hx x ρ' (by unfold callR; rw [e0]; dsimp only; rw [e])) fun ds ρ' ow vs H' e E' r => ?_
        have ec : callR F k fa ρ = (match (ρ'[k]? : Option (Option D)) with
          | some (some (.rnd la s cs i)) => match F (.rnd la s cs i) ds with
            | .rt d (.rnd la' s' cs' i') => if la' = la then .ok d (ρ'.set k (some (.rnd la' s' cs' i'))) else .no
            | _ => .no
          | _ => .no) := by unfold callR; rw [e0]; dsimp only; rw [e]
        rw [ec] at hn hkk
        split at hn
        · rename_i la s cs i e2
          obtain ⟨p', e3, h1, h2, h3, h4, h5⟩ := E'.hd k _ e2 hf
          rw [e1] at e3; cases e3
          have n1 : ow p0 ≠ .pub := by rw [h1]; exact fun z => nomatch z
          have n2 : ow la ≠ .pub := by rw [h3]; exact fun z => nomatch z
          refine ⟨by rw [List.length_cons, ← r.length, ha.len _ _ _ e, hn0], fun a => ow a ≠ .pub ∧ a ≠ p0 ∧ a ≠ la, ds, p0, la, s, cs, i, vs, rfl, fun a h => E'.mu h.1, fun h => h.2.1 rfl, fun h => h.2.2 rfl, h2, h4, h5, ?_, ?_⟩
          · refine r.mono (hide_same (Same.refl _) fun a q _ => ?_)
            rcases q with q | q
            · exact q.1
            · rcases List.mem_cons.mp q with rfl | q
              · exact n1
              · rcases List.mem_cons.mp q with rfl | q
                · exact n2
                · cases q
          · split at hn
            · rename_i d la' s' cs' i' e4
              split at hn
              · rename_i hla
                try rw [e4]
                refine ⟨hla, fun v H'' keep bat rv => ?_⟩
                subst hla
                obtain ⟨b1, b2⟩ := bat
                have np : ∀ a, ow a ≠ .slot k → a ∉ [p0, la'] := fun a ha hm => by
                  rcases List.mem_cons.mp hm with rfl | hm
                  · exact ha h1
                  · rcases List.mem_cons.mp hm with rfl | hm
                    · exact ha h3
                    · cases hm
                have E2 := E'.change (H' := H'') (d' := .rnd la' s' cs' i') hf e1 (fun a o ha ho => keep a o ho (np a ha)) (fun a ha => by
                  by_cases e5 : a = p0
                  · subst e5; exact ⟨fun z => (by rw [b1] at z; cases z), fun vs z => (by rw [b1] at z; cases z)⟩
                  · by_cases e6 : a = la'
                    · subst e6; exact ⟨fun z => (by rw [b2] at z; cases z), fun vs z => (by rw [b2] at z; cases z)⟩
                    · exact (E'.mu (by rw [ha]; exact fun z => nomatch z)).mono fun o e7 => keep a o e7 (by simp [e5, e6])) ⟨h1, h2, h3, b1, b2⟩
                refine hkk d _ (by rw [e2]; dsimp only; rw [e4]; exact if_pos rfl) v H'' ⟨ow, E2.push (rv.mono (hide_same (Same.refl _) fun a q _ => ?_))⟩
                by_cases e5 : a ∈ [p0, la']
                · exact .inr e5
                · exact .inl ⟨q, fun z => e5 (by rw [z]; simp), fun z => e5 (by rw [z]; simp)⟩
              · exact absurd rfl hn
            · exact absurd rfl hn
        · exact absurd rfl hn⟩
end
open Classical in
theorem fn_R {P : Program} {w : World} {K : PySem.W.Frag} {mg : Str → Option Value} {base : Heap} {x qual : Str} {params : Arguments} {body : List Stmt} {scope : Scope} {f : Addr} {fd : FuncData} {N ps : List Str} {k n : Nat} {fS : StF} {fl' : List Bool}
    (F : FunD K x qual params body scope [] [] f fd) (S : FnScope N ps scope) (hn : ps.length = n + 1) (hN : n + 1 ≤ N.length)
    (hb : ∀ (cdv : Value) (A : Around) (outer : List PySem.Env) (s : Shared) (H : Hp) (E : XK) (B : Bd), B.fr = false → Room k (A.deeper (envOfC qual scope s.heap.objs.size f cdv)) →
      PBv (cxOf (L2N.CX P w) P w K mg base N qual scope f cdv A outer s H E) B (fun cls d _ H => E cls d H) [] (true :: List.replicate (N.length - 1) false) fl' body fS) :
    FnOk P w K mg base (L2N.CX P w) (k + 1) f fd ps (spR K n (mkR N.length fS)) := by
  refine F.ok S (fun vs H Q E h => by rw [hn]; exact h.1) fun cdv A outer s H vs Q E hr h => ?_
  obtain ⟨hl, M, ds, p, la, s0, cs, i, us, rfl, hM, hMp, hMl, hlp, h1, h2, r, q⟩ := h
  have hul : us.length = n := by simpa using hl
  refine ⟨_, (hb cdv A outer s H E ⟨M, H, [p, la], false⟩ rfl hr).ps, ?_⟩
  have hlen : (V.ref p :: us).length ≤ N.length := by rw [List.length_cons]; omega
  have E0 : ERo K ⟨M, H, [p, la], false⟩ (true :: List.replicate (N.length - 1) false) (fun a => if M a then .frame else if a = p ∨ a = la then .slot 0 else .pub) (L2.start N (.ref p :: us)) H (envP N.length (.rnd la s0 cs i :: ds)) [] := by
    have op : ∀ a, (if M a then Ow.frame else if a = p ∨ a = la then .slot 0 else .pub) ≠ .pub → M a ∨ a ∈ [p, la] := fun a q => by
      by_cases hm : M a
      · exact .inl hm
      · rw [if_neg hm] at q
        by_cases hp : a = p ∨ a = la
        · right; simpa using hp
        · rw [if_neg hp] at q; exact absurd rfl q
    have f0 : ∀ j, (true :: List.replicate (N.length - 1) false)[j]? = some true → j = 0 := fun j h => by
      cases j with
      | zero => rfl
      | succ j => rw [List.getElem?_cons_succ, List.getElem?_replicate] at h; split at h <;> cases h
    have ep : (if M p then Ow.frame else if p = p ∨ p = la then .slot 0 else .pub) = .slot 0 := by rw [if_neg hMp, if_pos (.inl rfl)]
    have el : (if M la then Ow.frame else if la = p ∨ la = la then .slot 0 else .pub) = .slot 0 := by rw [if_neg hMl, if_pos (.inr rfl)]
    refine ⟨?_, ?_, fun a h => if_pos h, fun a q z => ?_, fun a vs z => (by
      rw [if_neg (fun h => (hM a h).2 vs z), if_neg]
      rintro (h | h)
      · rw [h, h1] at z; cases z
      · rw [h, h2] at z; cases z), fun j d g1 g2 => ?_, fun j d g1 g2 => ?_, fun a q1 q2 => ?_, fun a o h _ => h, (fun q hq => nomatch hq), fun a h => ?_, fun p' hp => ?_⟩
    · rw [envP_len (by rw [List.length_cons, r.length]; omega), start_len hlen]
    · rw [start_len hlen, List.length_cons, List.length_replicate]; omega
    · rcases op a q with h | h
      · exact (hM a h).1 z
      · rcases List.mem_cons.mp h with rfl | h
        · rw [h1] at z; cases z
        · rcases List.mem_cons.mp h with rfl | h
          · rw [h2] at z; cases z
          · cases h
    · have g3 := env_get g1
      cases j with
      | zero => exact absurd rfl g2
      | succ j =>
        obtain ⟨v, e, rv⟩ := r.get (by simpa using g3)
        exact ⟨v, start_get (by simpa using e), rv.mono (hide_same (Same.refl _) fun a q _ => op a q)⟩
    · cases f0 j g2
      have g3 := env_get g1
      cases g3
      exact ⟨p, start_get rfl, ep, hlp, el, h1, h2⟩
    · right
      rcases op a q1 with h | h
      · exact absurd (if_pos h) q2
      · exact h
    · rcases List.mem_cons.mp h with rfl | h
      · exact ep
      · rcases List.mem_cons.mp h with rfl | h
        · exact el
        · cases h
    · cases hp
      exact ⟨start_get rfl, rfl⟩
  refine svT_mk (T := []) ⟨_, E0⟩ ?_
  unfold mkR at q
  cases e : fS (envP N.length (.rnd la s0 cs i :: ds)) with
  | rt d ρ' =>
    rw [e] at q
    dsimp only at q
    intro v H' o
    cases e1 : (ρ'[0]? : Option (Option D)) with
    | none => rw [e1] at q; exact q.elim
    | some r0 =>
      rw [e1] at q
      cases r0 with
      | none => exact q.elim
      | some r0 =>
        cases r0 with
        | rnd la' s' cs' i' =>
          obtain ⟨rfl, q⟩ := q
          refine q v H' (fun a o' ha hn => o.1 a o' ha hn) (o.2.2 p _ rfl e1) ?_
          have := o.2.1
          unfold RetV at this
          rw [if_neg Bool.false_ne_true] at this
          exact this
        | _ => exact q.elim
  | nx ρ' => rw [e] at q; exact q.elim
  | ex x ρ' => rw [e] at q; exact q.elim
  | bk ρ' => rw [e] at q; exact q.elim
  | ct ρ' => rw [e] at q; exact q.elim
  | no => rw [e] at q; exact q.elim
/-! ### what is known of a def by its name -/
structure Cal (P : Program) (w : World) (K : PySem.W.Frag) (mg : Str → Option Value) (base : Heap) (k : Nat) (x : Str) (ps : List Str) (sp : Sp) : Prop where
  ex : ∃ (f : Addr) (fd : FuncData), f = He.ga K x ∧ FnOk P w K mg base (L2N.CX P w) k f fd ps sp ∧ mg x = some (.ref f) ∧ PySem.W.keepIn K (.ref f) = true ∧ Binds K fd ps []
structure Fx (K : PySem.W.Frag) (mg : Str → Option Value) (fa : List He.Fa) (fn : List He.DefD) : Prop where
  says : He.SaysD fa fn K
  at_ : ∃ h : Heap, K.In h ∧ h.Ns mainGlobals mg
section
variable {K : PySem.W.Frag} {mg : Str → Option Value} {fa : List He.Fa} {fn : List He.DefD}
theorem Fx.glo (Y : Fx K mg fa fn) (i : Nat) {x : Str} (h : fa[i]? = some (.glo x)) : mg x = some (.ref (He.ga K x)) := let ⟨_, X, G⟩ := Y.at_; He.glo_ok X G (Y.says.fact i h)
theorem Fx.free (Y : Fx K mg fa fn) (i : Nat) {x : Str} (h : fa[i]? = some (.free x)) : mg x = none := let ⟨_, X, G⟩ := Y.at_; He.free_ok X G (Y.says.fact i h)
theorem Fx.int (Y : Fx K mg fa fn) (i : Nat) {x : Str} {n : Int} (h : fa[i]? = some (.int x n)) : ∃ t, mg x = some (.int n t) := let ⟨_, X, G⟩ := Y.at_; He.int_ok X G (Y.says.fact i h)
theorem Fx.str (Y : Fx K mg fa fn) (i : Nat) {x z : Str} (h : fa[i]? = some (.str x z)) : ∃ t, mg x = some (.str z t) := let ⟨_, X, G⟩ := Y.at_; He.str_ok X G (Y.says.fact i h)
end
section
variable {X : Cx} {B : Bd} {W : WX} {fl fl1 fl' flL : List Bool} {pos : Pos}
theorem pv_callC {k n m : Nat} {ps : List Str} {F : List D → PRes} {x : Str} {p : Pos} {e : Expr} {es : List Expr} {fa : ArgF} (G : Cal X.prog X.w X.K X.mg X.base k x ps (spP X.K false n F)) (hr : Room m X.A) (hkm : k ≤ m) (hg : Gl X x) (tk : L2N.Takes X W) (ha : PAv X B W fl (e :: es) fa) (hn0 : (e :: es).length = n := by rfl)
    (hdb : (x == ("__debug__" : Str)) = false := by decide) (he : starEach (e :: es) X.env = (false, eval e X.env) :: starEach es X.env := by rfl)
    (hpl : (backTo pos (starEach es X.env)).any (·.1) = false := by rfl) : PV X B W fl (.Call (.Name x p) (e :: es) [] pos) (callP F fa) := by
  obtain ⟨f, fd, _, h1, h2, h3, h4⟩ := G.ex
  exact pv_call h1 (hr.mono hkm) hg h2 h3 h4 tk ha hn0 hdb he hpl
theorem pv_callRC {k n m kk : Nat} {ps : List Str} {F : D → List D → RRes} {x y : Str} {p p2 : Pos} {es : List Expr} {fa : ArgF} (G : Cal X.prog X.w X.K X.mg X.base kk x ps (spR X.K n F)) (hr : Room m X.A) (hkm : kk ≤ m) (hg : Gl X x) (tk : L2N.Takes X W) (hv : PE X (.Name y p2) (tVar k)) (ha : PAv X B W fl es fa)
    (hf : fl[k]? = some true := by rfl) (hn0 : es.length = n := by rfl) (hdb : (x == ("__debug__" : Str)) = false := by decide)
    (he : starEach (.Name y p2 :: es) X.env = (false, eval (.Name y p2) X.env) :: starEach es X.env := by rfl) (hpl : (backTo pos (starEach es X.env)).any (·.1) = false := by rfl) : PV X B W fl (.Call (.Name x p) (.Name y p2 :: es) [] pos) (callR F k fa) := by
  obtain ⟨f, fd, _, h1, h2, h3, h4⟩ := G.ex
  exact pv_callR h1 (hr.mono hkm) hg h2 h3 h4 tk hv ha hf hn0 hdb he hpl
/-- a call of the def that a slot holds: which, by its address -/
def callLF (i : Nat) (S : Addr → Option (List D → PRes)) (fa : ArgF) : ValF := fun ρ => match (ρ[i]? : Option (Option D)) with
  | some (some (.ref a)) => match S a with
    | some F => callP F fa ρ
    | none => .no
  | _ => .no
/-- a module's constant -/
theorem pv_gint {x : Str} {i : Int} {p : Pos} (hg : Gl X x) (hm : ∃ t, X.mg x = some (.int i t)) (hd : (x == ("__debug__" : Str)) = false := by decide) : PV X B W fl (.Name x p) (cst (.int i)) := by
  obtain ⟨t, h⟩ := hm
  exact pv_cst (pe_glob (v := .int i) hg h ⟨t, rfl⟩ hd) fun _ _ => .int i
theorem pv_gstr {x z : Str} {p : Pos} (cs : List Nat) (hg : Gl X x) (hm : ∃ t, X.mg x = some (.str z t)) (hz : z = ⟨cs.toArray⟩ := by rfl) (hd : (x == ("__debug__" : Str)) = false := by decide) : PV X B W fl (.Name x p) (cst (.str cs)) := by
  obtain ⟨t, h⟩ := hm
  exact pv_cst (pe_glob (v := .str z) hg h ⟨t, rfl⟩ hd) fun _ _ => by rw [hz]; exact .str cs
theorem pv_gref {x : Str} {a : Addr} {p : Pos} (hg : Gl X x) (hm : X.mg x = some (.ref a)) (hd : (x == ("__debug__" : Str)) = false := by decide) : PV X B W fl (.Name x p) (cst (.ref a)) := pv_cst (pe_glob (v := .ref a) hg hm rfl hd) fun _ _ => .ref a
theorem pv_bty {x : Str} {n : String} {p : Pos} (hg : Gl X x) (hm : X.mg x = none) (hv : bootBuiltins x = some (.type n)) (hn : x ≠ "__name__" := by decide) (hd : (x == ("__debug__" : Str)) = false := by decide) : PV X B W fl (.Name x p) (cst (.ty n)) := pv_cst (pe_bltn (v := .ty n) hg hm hv rfl hn hd) fun _ _ => .ty n
end
/-! ### a law -/
def spLaw (K : PySem.W.Frag) : Sp := fun vs H Q _ => ∃ (a : Addr) (ns : List Int), vs = [.ref a] ∧ SqL K H a (ns.map V.int) ∧ ns.length ≤ 63 ∧ ∀ H', Q (.bl true) H'
def spMix (K : PySem.W.Frag) : Sp := fun vs H Q _ => ∃ (a : Addr) (seed : Int) (ns : List Int), vs = [.ref a, .int seed] ∧ SqL K H a (ns.map V.int) ∧ ns.length ≤ 63 ∧
  ∀ H' p la s, Same H H' → H p = none → H la = none → la ≠ p → H' p = some (.lst [.int s, .ref la, .int 0]) → H' la = some (.lst (ns.map V.int)) → Q (.ref p) H'
end Pv

/-! Pv11: short rules, as the printed derivations name them. -/
noncomputable section
namespace Pv
open PySem PySem.Spec L2
open PyProof.Rows hiding St

section
variable {X : Cx} {B : Bd} {W : WX} {fl fl1 fl' flL : List Bool} {pos p : Pos} {a b e : Expr} {o o' : Opd} {k : Nat}

theorem pv_add (ha : POp X B W fl a o) (hb : POp X B W fl b o') : PV X B W fl (.BinOp a .Add b pos) (bin2 o o' addD) := pv_op2 (pe_op op_addP ha.pe hb.pe) o_add
theorem pv_sub (ha : POp X B W fl a o) (hb : POp X B W fl b o') : PV X B W fl (.BinOp a .Sub b pos) (bin2 o o' subD) := pv_op2 (pe_op op_sub ha.pe hb.pe) o_sub
theorem pv_mul (ha : POp X B W fl a o) (hb : POp X B W fl b o') : PV X B W fl (.BinOp a .Mult b pos) (bin2 o o' mulD) := pv_op2 (pe_op op_mulP ha.pe hb.pe) o_mul
theorem pv_fdiv (ha : POp X B W fl a o) (hb : POp X B W fl b o') : PV X B W fl (.BinOp a .FloorDiv b pos) (bin2 o o' fdivD) := pv_op2 (pe_op op_fdivW ha.pe hb.pe) o_fdiv
theorem pv_mod (ha : POp X B W fl a o) (hb : POp X B W fl b o') : PV X B W fl (.BinOp a .Mod b pos) (bin2 o o' modD) := pv_op2 (pe_op op_mod ha.pe hb.pe) o_mod
theorem pv_pow (ha : POp X B W fl a o) (hb : POp X B W fl b o') : PV X B W fl (.BinOp a .Pow b pos) (bin2 o o' powD) := pv_op2 (pe_op op_pow ha.pe hb.pe) o_pow
theorem pf_mulL (ha : POp X B W fl a o) (hb : POp X B W fl b o') : PF X B W fl (.BinOp a .Mult b pos) (bin2 o o' repL) := pf_op2 (pe_op op_rep ha.pe hb.pe) o_repLF
theorem pf_addL (ha : POp X B W fl a o) (hb : POp X B W fl b o') : PF X B W fl (.BinOp a .Add b pos) (bin2 o o' addL) := pf_op2 (pe_op op_cat ha.pe hb.pe) o_addLF
theorem pv_lt  (ha : POp X B W fl a o) (hb : POp X B W fl b o') : PV X B W fl (.Compare a [.Lt] [b] pos) (bin2 o o' ltD) := pv_op2 (pe_cmpR op_lt ha.pe hb.pe (nomark _)) o_cmp
theorem ptv_lt  (ha : POp X B W fl a o) (hb : POp X B W fl b o') : PTv X B W fl (.Compare a [.Lt] [b] pos) (bin2 o o' ltD) := ptv_op (pt_cmpR op_lt ha.pe hb.pe (nomark _)) o_cmp
theorem pv_le  (ha : POp X B W fl a o) (hb : POp X B W fl b o') : PV X B W fl (.Compare a [.LtE] [b] pos) (bin2 o o' leD) := pv_op2 (pe_cmpR op_le ha.pe hb.pe (nomark _)) o_cmp
theorem ptv_le  (ha : POp X B W fl a o) (hb : POp X B W fl b o') : PTv X B W fl (.Compare a [.LtE] [b] pos) (bin2 o o' leD) := ptv_op (pt_cmpR op_le ha.pe hb.pe (nomark _)) o_cmp
theorem pv_gt  (ha : POp X B W fl a o) (hb : POp X B W fl b o') : PV X B W fl (.Compare a [.Gt] [b] pos) (bin2 o o' gtD) := pv_op2 (pe_cmpR op_gt ha.pe hb.pe (nomark _)) o_cmp
theorem ptv_gt  (ha : POp X B W fl a o) (hb : POp X B W fl b o') : PTv X B W fl (.Compare a [.Gt] [b] pos) (bin2 o o' gtD) := ptv_op (pt_cmpR op_gt ha.pe hb.pe (nomark _)) o_cmp
theorem pv_ge  (ha : POp X B W fl a o) (hb : POp X B W fl b o') : PV X B W fl (.Compare a [.GtE] [b] pos) (bin2 o o' geD) := pv_op2 (pe_cmpR op_ge ha.pe hb.pe (nomark _)) o_cmp
theorem ptv_ge  (ha : POp X B W fl a o) (hb : POp X B W fl b o') : PTv X B W fl (.Compare a [.GtE] [b] pos) (bin2 o o' geD) := ptv_op (pt_cmpR op_ge ha.pe hb.pe (nomark _)) o_cmp
theorem pv_eq (hr : Room k X.A) (ha : POp X B W fl a o) (hb : POp X B W fl b o') : PV X B W fl (.Compare a [.Eq] [b] pos) (bin2 o o' eqO) := pv_op2 (pe_cmpR (op_eqD hr.units) ha.pe hb.pe (nomark _)) o_eq
theorem ptv_eq (hr : Room k X.A) (ha : POp X B W fl a o) (hb : POp X B W fl b o') : PTv X B W fl (.Compare a [.Eq] [b] pos) (bin2 o o' eqO) := ptv_op (pt_cmpR (op_eqD hr.units) ha.pe hb.pe (nomark _)) o_eq
theorem pv_ne (hr : Room k X.A) (ha : POp X B W fl a o) (hb : POp X B W fl b o') : PV X B W fl (.Compare a [.NotEq] [b] pos) (bin2 o o' neO) := pv_op2 (pe_cmpR (op_neD hr.units) ha.pe hb.pe (nomark _)) o_ne
theorem ptv_ne (hr : Room k X.A) (ha : POp X B W fl a o) (hb : POp X B W fl b o') : PTv X B W fl (.Compare a [.NotEq] [b] pos) (bin2 o o' neO) := ptv_op (pt_cmpR (op_neD hr.units) ha.pe hb.pe (nomark _)) o_ne
theorem pv_in (hr : Room k X.A) (ha : POp X B W fl a o) (hb : POp X B W fl b o') (hm : behindInMarks .In b = false := by rfl) : PV X B W fl (.Compare a [.In] [b] pos) (bin2 o o' inD) := pv_op2 (pe_cmpR (op_inP hr) ha.pe hb.pe hm) o_in
theorem ptv_in (hr : Room k X.A) (ha : POp X B W fl a o) (hb : POp X B W fl b o') (hm : behindInMarks .In b = false := by rfl) : PTv X B W fl (.Compare a [.In] [b] pos) (bin2 o o' inD) := ptv_op (pt_cmpR (op_inP hr) ha.pe hb.pe hm) o_in
theorem pv_nin (hr : Room k X.A) (ha : POp X B W fl a o) (hb : POp X B W fl b o') (hm : behindInMarks .NotIn b = false := by rfl) : PV X B W fl (.Compare a [.NotIn] [b] pos) (bin2 o o' ninD) := pv_op2 (pe_cmpR (op_ninP hr) ha.pe hb.pe hm) o_nin
theorem ptv_nin (hr : Room k X.A) (ha : POp X B W fl a o) (hb : POp X B W fl b o') (hm : behindInMarks .NotIn b = false := by rfl) : PTv X B W fl (.Compare a [.NotIn] [b] pos) (bin2 o o' ninD) := ptv_op (pt_cmpR (op_ninP hr) ha.pe hb.pe hm) o_nin
theorem pv_is  (ha : POp X B W fl a o) (hb : POp X B W fl b o') : PV X B W fl (.Compare a [.Is] [b] pos) (bin2 o o' isD) := pv_op2 (pe_cmpR op_isN ha.pe hb.pe (nomark _)) o_is
theorem ptv_is  (ha : POp X B W fl a o) (hb : POp X B W fl b o') : PTv X B W fl (.Compare a [.Is] [b] pos) (bin2 o o' isD) := ptv_op (pt_cmpR op_isN ha.pe hb.pe (nomark _)) o_is
theorem pv_isn  (ha : POp X B W fl a o) (hb : POp X B W fl b o') : PV X B W fl (.Compare a [.IsNot] [b] pos) (bin2 o o' isnD) := pv_op2 (pe_cmpR op_notN ha.pe hb.pe (nomark _)) o_isn
theorem ptv_isn  (ha : POp X B W fl a o) (hb : POp X B W fl b o') : PTv X B W fl (.Compare a [.IsNot] [b] pos) (bin2 o o' isnD) := ptv_op (pt_cmpR op_notN ha.pe hb.pe (nomark _)) o_isn
theorem pv_neg (ha : POp X B W fl a o) : PV X B W fl (.UnaryOp .USub a pos) (un1 o negD) := pv_op1 (pe_un un_neg ha.pe) o_neg
theorem pv_ix (ha : POp X B W fl a o) (hb : POp X B W fl b o') (hs : PlainIx b := by exact fun _ _ => rfl) : PV X B W fl (.Subscript a b pos) (bin2 o o' idxD) := pv_op2 (pe_ix ix_seq ha.pe hb.pe hs) o_idx
theorem bt_len : bootBuiltins "len" = some (.builtin "len") := by decide +kernel
theorem bt_int : bootBuiltins "int" = some (.type "int") := by decide +kernel
theorem bt_sum : bootBuiltins "sum" = some (.builtin "sum") := by decide +kernel
theorem bt_max : bootBuiltins "max" = some (.builtin "max") := by decide +kernel
theorem bt_min : bootBuiltins "min" = some (.builtin "min") := by decide +kernel
theorem bt_all : bootBuiltins "all" = some (.builtin "all") := by decide +kernel
theorem bt_any : bootBuiltins "any" = some (.builtin "any") := by decide +kernel
theorem bt_sorted : bootBuiltins "sorted" = some (.builtin "sorted") := by decide +kernel
theorem bt_list : bootBuiltins "list" = some (.type "list") := by decide +kernel
theorem bt_tuple : bootBuiltins "tuple" = some (.type "tuple") := by decide +kernel
theorem bt_str : bootBuiltins "str" = some (.type "str") := by decide +kernel
theorem bt_bool : bootBuiltins "bool" = some (.type "bool") := by decide +kernel
theorem bt_set : bootBuiltins "set" = some (.type "set") := by decide +kernel
theorem bt_isinstance : bootBuiltins "isinstance" = some (.builtin "isinstance") := by decide +kernel

theorem pv_len (hg : Gl X "len") (hm : X.mg "len" = none) (ha : POp X B W fl a o) (he : starEach [a] X.env = (false, eval a X.env) :: starEach [] X.env := by rfl) : PV X B W fl (.Call (.Name "len" p) [a] [] pos) (un1 o lenD) := pv_op1 (pe_callB call_len hg hm bt_len (pa_cons ha.pe pa_nil he) (he := he)) o_len
theorem pv_intf (hg : Gl X "int") (hm : X.mg "int" = none) (ha : POp X B W fl a o) (he : starEach [a] X.env = (false, eval a X.env) :: starEach [] X.env := by rfl) : PV X B W fl (.Call (.Name "int" p) [a] [] pos) (un1 o intD) := pv_op1 (pe_callTy call_int1 hg hm bt_int (pa_cons ha.pe pa_nil he) (he := he)) o_int
theorem pv_sum (hg : Gl X "sum") (hm : X.mg "sum" = none) (ha : POp X B W fl a o) (hc : X.calm = true := by rfl) (he : starEach [a] X.env = (false, eval a X.env) :: starEach [] X.env := by rfl) : PV X B W fl (.Call (.Name "sum" p) [a] [] pos) (un1 o sumD) := pv_op1 (pe_callB (cr_sum hc) hg hm bt_sum (pa_cons ha.pe pa_nil he) (he := he)) o_sum
theorem pv_maxL (hg : Gl X "max") (hm : X.mg "max" = none) (ha : POp X B W fl a o) (hc : X.calm = true := by rfl) (he : starEach [a] X.env = (false, eval a X.env) :: starEach [] X.env := by rfl) : PV X B W fl (.Call (.Name "max" p) [a] [] pos) (un1 o maxL) := pv_op1 (pe_callB (cr_max hc) hg hm bt_max (pa_cons ha.pe pa_nil he) (he := he)) o_maxL
theorem pv_minL (hg : Gl X "min") (hm : X.mg "min" = none) (ha : POp X B W fl a o) (hc : X.calm = true := by rfl) (he : starEach [a] X.env = (false, eval a X.env) :: starEach [] X.env := by rfl) : PV X B W fl (.Call (.Name "min" p) [a] [] pos) (un1 o minL) := pv_op1 (pe_callB (cr_min hc) hg hm bt_min (pa_cons ha.pe pa_nil he) (he := he)) o_minL
theorem pv_all (hg : Gl X "all") (hm : X.mg "all" = none) (ha : POp X B W fl a o) (hc : X.calm = true := by rfl) (he : starEach [a] X.env = (false, eval a X.env) :: starEach [] X.env := by rfl) : PV X B W fl (.Call (.Name "all" p) [a] [] pos) (un1 o allD) := pv_op1 (pe_callB (cr_all hc) hg hm bt_all (pa_cons ha.pe pa_nil he) (he := he)) o_all
theorem pv_any (hg : Gl X "any") (hm : X.mg "any" = none) (ha : POp X B W fl a o) (hc : X.calm = true := by rfl) (he : starEach [a] X.env = (false, eval a X.env) :: starEach [] X.env := by rfl) : PV X B W fl (.Call (.Name "any" p) [a] [] pos) (un1 o anyD) := pv_op1 (pe_callB (cr_any hc) hg hm bt_any (pa_cons ha.pe pa_nil he) (he := he)) o_any
theorem pf_sorted (hg : Gl X "sorted") (hm : X.mg "sorted" = none) (ha : POp X B W fl a o) (he : starEach [a] X.env = (false, eval a X.env) :: starEach [] X.env := by rfl) : PF X B W fl (.Call (.Name "sorted" p) [a] [] pos) (un1 o sortI) := pf_op1 (pe_callB cr_sortedI hg hm bt_sorted (pa_cons ha.pe pa_nil he) (he := he)) o_sortIF
theorem pf_list (hg : Gl X "list") (hm : X.mg "list" = none) (ha : POp X B W fl a o) (he : starEach [a] X.env = (false, eval a X.env) :: starEach [] X.env := by rfl) : PF X B W fl (.Call (.Name "list" p) [a] [] pos) (un1 o lstD) := pf_op1 (pe_callTy call_list_of hg hm bt_list (pa_cons ha.pe pa_nil he) (he := he)) o_lstF
theorem pv_tuple (hg : Gl X "tuple") (hm : X.mg "tuple" = none) (ha : POp X B W fl a o) (he : starEach [a] X.env = (false, eval a X.env) :: starEach [] X.env := by rfl) : PV X B W fl (.Call (.Name "tuple" p) [a] [] pos) (un1 o tupD) := pv_op1 (pe_callTy call_tuple_of hg hm bt_tuple (pa_cons ha.pe pa_nil he) (he := he)) o_tup
theorem pv_max2 (hg : Gl X "max") (hm : X.mg "max" = none) (ha : POp X B W fl a o) (hb : POp X B W fl b o') (hc : X.calm = true := by rfl) (he : starEach [a, b] X.env = (false, eval a X.env) :: starEach [b] X.env := by rfl) (he2 : starEach [b] X.env = (false, eval b X.env) :: starEach [] X.env := by rfl) (hpl : (backTo pos (starEach [b] X.env)).any (·.1) = false := by rfl) : PV X B W fl (.Call (.Name "max" p) [a, b] [] pos) (bin2 o o' maxD) := pv_op2 (pe_callB (call_max2 hc) hg hm bt_max (pa_cons ha.pe (pa_cons hb.pe pa_nil he2) he) (he := he) (hpl := hpl)) o_max
theorem pv_min2 (hg : Gl X "min") (hm : X.mg "min" = none) (ha : POp X B W fl a o) (hb : POp X B W fl b o') (hc : X.calm = true := by rfl) (he : starEach [a, b] X.env = (false, eval a X.env) :: starEach [b] X.env := by rfl) (he2 : starEach [b] X.env = (false, eval b X.env) :: starEach [] X.env := by rfl) (hpl : (backTo pos (starEach [b] X.env)).any (·.1) = false := by rfl) : PV X B W fl (.Call (.Name "min" p) [a, b] [] pos) (bin2 o o' minD) := pv_op2 (pe_callB (call_min2 hc) hg hm bt_min (pa_cons ha.pe (pa_cons hb.pe pa_nil he2) he) (he := he) (hpl := hpl)) o_min
theorem pv_isinst (hg : Gl X "isinstance") (hm : X.mg "isinstance" = none) (ha : POp X B W fl a o) (hb : POp X B W fl b o') (he : starEach [a, b] X.env = (false, eval a X.env) :: starEach [b] X.env := by rfl) (he2 : starEach [b] X.env = (false, eval b X.env) :: starEach [] X.env := by rfl) (hpl : (backTo pos (starEach [b] X.env)).any (·.1) = false := by rfl) : PV X B W fl (.Call (.Name "isinstance" p) [a, b] [] pos) (bin2 o o' isiD) := pv_op2 (pe_callB call_isi hg hm bt_isinstance (pa_cons ha.pe (pa_cons hb.pe pa_nil he2) he) (he := he) (hpl := hpl)) o_isi
end
end Pv

/-! Pv12: flags set anew, targets, calls of a def that a slot holds, more short rules. -/
noncomputable section
namespace Pv
open PySem PySem.Spec L2
open PyProof.Rows hiding St
section
variable {X : Cx} {B : Bd} {W : WX} {fl fl1 fl2 fl' flL : List Bool} {pos p p1 p2 : Pos}
theorem ERo.reflag {K : PySem.W.Frag} {ow : Addr → Ow} {σ : St} {H : Hp} {ρ : Env} {T : List (D × V)} (E : ERo K B fl ow σ H ρ T) (is : List Nat) (hl : fl2.length = fl.length) (hj : ∀ j, j ∉ is → fl2[j]? = fl[j]?)
    (hρ : ∀ j ∈ is, ∀ d, ρ[j]? ≠ some (some d)) (h0 : 0 ∉ is ∨ B.bor = []) : ERo K B fl2 ow σ H ρ T :=
  { E with
    fll := by rw [hl]; exact E.fll
    sh := fun i d h1 h2 => by
      by_cases hi : i ∈ is
      · exact absurd h1 (hρ i hi d)
      · rw [hj i hi] at h2; exact E.sh i d h1 h2
    hd := fun i d h1 h2 => by
      by_cases hi : i ∈ is
      · exact absurd h1 (hρ i hi d)
      · rw [hj i hi] at h2; exact E.hd i d h1 h2
    b0 := fun p hp => by
      rcases h0 with h0 | h0
      · rw [hj 0 h0]; exact E.b0 p hp
      · rw [h0] at hp; cases hp }
def agree (is : List Nat) (a b : List Bool) : Bool := a.length == b.length && (List.range (max a.length b.length)).all fun j => is.contains j || a[j]? == b[j]?
theorem agree_get {is : List Nat} {a b : List Bool} (h : agree is a b = true) : a.length = b.length ∧ ∀ j, j ∉ is → a[j]? = b[j]? := by
  unfold agree at h
  rw [Bool.and_eq_true, List.all_eq_true] at h
  refine ⟨by simpa using h.1, fun j hj => ?_⟩
  by_cases l : j < max a.length b.length
  · have := h.2 j (List.mem_range.mpr l)
    simp only [Bool.or_eq_true, List.contains_iff_mem, beq_iff_eq] at this
    exact this.resolve_left hj
  · rw [List.getElem?_eq_none (by omega), List.getElem?_eq_none (by omega)]
/-- slots forgotten, their flags set anew -/
theorem PBv.pre {st : List Stmt} {f : StF} (is : List Nat) (fl2 : List Bool) (h : PBv X B W flL fl2 fl' st f) (h0 : 0 ∉ is ∨ B.bor = []) (ha : agree is fl2 fl = true := by rfl) : PBv X B W flL fl fl' st (sSeq (Pv.fgt is) f) :=
  ⟨PSs.weaken h.ps fun D σ H q => by
    obtain ⟨ρ, T, ⟨ow, E⟩, q⟩ := svT_iff.mp q
    obtain ⟨a1, a2⟩ := agree_get ha
    obtain ⟨ow2, E2⟩ := ER.forgets is ⟨ow, E⟩
    exact svT_mk ⟨ow2, E2.reflag is a1 a2 (fun j hj d e => (fgtE_get (vs := is) e).1 hj) h0⟩ q⟩
/-- targets = a value -/
def asgG (f : ValF) (h : TgtF) : StF := fun ρ => (f ρ).out fun d ρ' => match h d ρ' with
  | some ρ'' => .nx ρ''
  | none => .no
theorem psv_asgG {tg e : Expr} {f : ValF} {g : TG} {h : TgtF} (mk : ∀ te, PE X e te → PS X (.Assign [tg] e pos) (tAsg te g)) (he : PV X B W fl e f) (hg : PGv X B fl tg g h) : PSv X B W flL fl fl (.Assign [tg] e pos) (asgG f h) :=
  PS.svT (mk _ he.pe) fun D σ H ρ T E q => by
    refine evT_out E q fun d ρ' ow v H' e E' r q => ?_
    split at q
    · rename_i ρ'' e2
      exact hg.run ow σ H' ρ' T d v ρ'' _ E' r e2 fun σ' E2 => q _ _ ⟨ow, E2⟩
    · exact q.elim
/-- a new object by either way -/
theorem pf_ifExp {c a b : Expr} {fc f g : ValF} (hc : PTv X B W fl c fc) (ha : PF X B W fl a f) (hb : PF X B W fl b g) : PF X B W fl (.IfExp c a b pos) (ifF fc f g) :=
  ⟨PE.weaken (pe_ifExp hc.pt ha.pe hb.pe) fun σ H Q ⟨ρ, T, E, q⟩ => by
    obtain ⟨hn, hx, hk⟩ := evF_no q
    refine evB_bind E (fun d ρ h => by cases d <;> first | rfl | exact absurd rfl (h _)) hn hx fun b ρ' H' e E' => ?_
    have e : ifF fc f g ρ = _ := e
    rw [e] at hn hx hk
    cases b with
    | true =>
      rw [if_pos rfl]
      refine ⟨ρ', T, E', ?_⟩
      cases e2 : f ρ' with
      | ok d ρ2 => exact hk d ρ2 e2
      | ex x ρ2 => exact hx x ρ2 e2
      | no => exact hn e2
    | false =>
      rw [if_neg Bool.false_ne_true]
      refine ⟨ρ', T, E', ?_⟩
      cases e2 : g ρ' with
      | ok d ρ2 => exact hk d ρ2 e2
      | ex x ρ2 => exact hx x ρ2 e2
      | no => exact hn e2⟩
/-- range(a, b, c): up or down, small -/
def rngC (i j c : Int) : Option (List D) := if cdec (c ≠ 0 ∧ c.natAbs < 1073741824 ∧ Builtin.Range.small i j c = true ∧ Builtin.Range.rangeSize i j c ≤ (lim : Int) ∧ 0 ≤ Builtin.Range.rangeSize i j c) = true then some (intsC i c (Builtin.Range.rangeSize i j c).toNat) else none
def itR3 (f : ArgF) : IterF := fun ρ => match f ρ with
  | .ok [.int i, .int j, .int c] ρ' => match rngC i j c with
    | some ds => .ok ds [] ρ'
    | none => .no
  | .ex x ρ' => .ex x ρ'
  | _ => .no
theorem pi_r3 {tg a b c : Expr} {f : ArgF} (hg : Gl X "range") (hm : X.mg "range" = none) (ha : PAv X B W fl [a, b, c] f)
    (hs : starEach [a, b, c] X.env = (false, eval a X.env) :: starEach [b, c] X.env := by rfl) (hpl : (backTo pos (starEach [b, c] X.env)).any (·.1) = false := by rfl) :
    PIv X B W fl tg (.Call (.Name "range" p) [a, b, c] [] pos) (itR3 f) :=
  ⟨PI.weaken (pi_range3 hg hm ha.pa hs hpl) fun σ H R ⟨ρ, T, E, q⟩ => by
    obtain ⟨hn, hx, hk⟩ := evI_no q
    refine evA_mk E (fun e => hn (by unfold itR3; rw [e])) (fun x ρ' e => hx x ρ' (by unfold itR3; rw [e])) fun ds ρ' ow vs H' e E' r => ?_
    unfold itR3 at hn
    rw [e] at hn
    split at hn
    · rename_i i j c ρ2 e2
      cases e2
      split at hn
      · rename_i ds2 e3
        have e4 := e3
        unfold rngC at e4
        split at e4
        · rename_i h
          obtain ⟨h1, h2, h3, h4, h5⟩ := cdec_of h
          cases e4
          cases r with
          | cons r t => cases t with
            | cons r2 t => cases t with
              | cons r3 t =>
                cases t
                cases r
                cases r2
                cases r3
                exact ⟨i, j, c, _, rfl, ⟨h1, h2, h3, (Int.toNat_of_nonneg h5).symm⟩, hk _ _ _ (by unfold itR3; rw [e]; dsimp only; rw [e3]) [] H' _ rfl ⟨ow, E'⟩ itOk_rangeC⟩
        · cases e4
      · exact absurd rfl hn
    · rename_i e2; cases e2
    · exact absurd rfl hn⟩
/-- a call of the def that a slot holds -/
theorem pv_callL {i k n m : Nat} {S : Addr → Option (List D → PRes)} {x : Str} {e : Expr} {es : List Expr} {fa : ArgF}
    (A : ∀ a F, S a = some F → ∃ fd ps k', k' ≤ k ∧ FnOk X.prog X.w X.K X.mg X.base (L2N.CX X.prog X.w) k' a fd ps (spP X.K false n F) ∧ PySem.W.keepIn X.K (.ref a) = true ∧ Binds X.K fd ps []) (hr : Room m X.A) (hkm : k ≤ m)
    (hN : X.N[i]? = some x) (hv : Vis X.env.scope x) (tk : L2N.Takes X W) (ha : PAv X B W fl (e :: es) fa) (hf : fl[i]? = some false := by rfl) (hn0 : (e :: es).length = n := by rfl)
    (hdb : (x == ("__debug__" : Str)) = false := by decide) (hcd : (x == ("__classdict__" : Str)) = false := by decide)
    (he : starEach (e :: es) X.env = (false, eval e X.env) :: starEach es X.env := by rfl) (hpl : (backTo pos (starEach es X.env)).any (·.1) = false := by rfl) : PV X B W fl (.Call (.Name x p) (e :: es) [] pos) (callLF i S fa) := by
  have pe : PE X (.Call (.Name x p) (e :: es) [] pos) (fun σ H Q => ∃ a F, σ[i]? = some (some (.ref a)) ∧ S a = some F ∧ EvA X.K B W fl fa σ H fun vs H1 => spP X.K false n F vs H1 Q (WE W σ)) := by
    refine ⟨fun pins s σ H Q I h => ?_⟩
    obtain ⟨a, F, hs, hS, ht⟩ := h
    obtain ⟨fd, ps, k', hk', G, hk, hb⟩ := A a F hS
    refine wpAny_Call_Name_kw (thn ((pe_var (pos := p) hN hv hdb hcd).run pins s σ H (fun v H1 => v = .ref a ∧ H1 = H) I ⟨.ref a, hs, rfl, rfl⟩) fun u s1 ⟨v, H1, I1, r1, q1⟩ => ?_)
    obtain ⟨rfl, rfl⟩ := q1
    cases r1
    refine PySem.W.callWith_K (h₀ := X.base) I.ok.mod.kin hk (thn (ha.pa.run pos pins s1 σ _ _ I1 ht) fun us s2 ⟨vs, H2, I2, r, q⟩ => ⟨I2.kIn, ?_⟩) he hpl
    exact run_fnS G (hr.mono (Nat.le_trans hk' hkm)) hb (L2N.passAt tk σ) I2 r q
  refine ⟨PE.weaken pe fun σ H Q ⟨ρ, T, ⟨ow, E⟩, q⟩ => ?_⟩
  obtain ⟨hn, hx, hk⟩ := evT_no q
  cases e0 : (ρ[i]? : Option (Option D)) with
  | none => exact absurd (by unfold callLF; rw [e0]) hn
  | some r0 => cases r0 with
    | none => exact absurd (by unfold callLF; rw [e0]) hn
    | some d0 => cases d0 with
      | ref a =>
        obtain ⟨v, hv, r⟩ := E.sh i _ e0 (by rw [hf]; exact fun z => nomatch z)
        cases r
        cases eS : S a with
        | none => exact absurd (by unfold callLF; rw [e0]; dsimp only; rw [eS]) hn
        | some F =>
          have e9 : callLF i S fa ρ = callP F fa ρ := by unfold callLF; rw [e0]; dsimp only; rw [eS]
          rw [e9] at hn hx hk
          refine ⟨a, F, hv, eS, ?_⟩
          refine evA_mk ⟨ow, E⟩ (fun e => hn (by unfold callP; rw [e])) (fun x ρ' e => hx x ρ' (by unfold callP; rw [e])) fun ds ρ' ow vs H' e E' r => ?_
          refine ⟨by rw [← r.length, ha.len _ _ _ e]; exact hn0, fun a => ow a ≠ .pub, ds, fun a h => E'.mu h, r, ?_⟩
          cases e1 : F ds with
          | rt d =>
            intro v H'' s rv
            unfold RetV at rv
            rw [if_neg Bool.false_ne_true] at rv
            exact hk d ρ' (by unfold callP; rw [e]; dsimp only; rw [e1]) v H'' ⟨ow, (E'.mono s).push rv⟩
          | ex x => exact fun dx H'' s z => hx x ρ' (by unfold callP; rw [e]; dsimp only; rw [e1]) dx H'' ⟨ow, E'.mono s⟩ z
          | no => exact hn (by unfold callP; rw [e]; dsimp only; rw [e1])
      | _ => exact absurd (by unfold callLF; rw [e0]) hn
/-! ### methods of texts -/
def met1 (f g : ValF) (G : D → D → Option D) : ValF := fun ρ => (f ρ).bind fun x ρ1 => match x with
  | .str a => (g ρ1).bind fun y ρ2 => ofO (G (.str a) y) ρ2
  | _ => .no
theorem met_w {K : PySem.W.Frag} {σ : St} {H : Hp} {Q : VK} {f g : ValF} {G : D → D → Option D} {r : V → List V → Hp → VK → Prop} (hg : Op2 K (fun x y H Q => r x [y] H Q) G) (h : EvT K B W fl (met1 f g G) σ H Q) : tM1 r (EvT K B W fl f) (EvT K B W fl g) σ H Q := by
  obtain ⟨ρ, T, E, q⟩ := h
  obtain ⟨hn, hx, hk⟩ := evT_no q
  refine ⟨ρ, T, E, ?_⟩
  have e0 : met1 f g G ρ = (f ρ).bind fun x ρ1 => match x with
    | .str a => (g ρ1).bind fun y ρ2 => ofO (G (.str a) y) ρ2
    | _ => .no := rfl
  cases e : f ρ with
  | ok d ρ1 =>
    rw [e] at e0
    intro v H1 ⟨ow, E1⟩
    cases d with
    | str a =>
      have r1 := E1.top
      cases r1
      refine ⟨⟨_, rfl⟩, ρ1, _, ⟨ow, E1⟩, ?_⟩
      have e1 : met1 f g G ρ = (g ρ1).bind fun y ρ2 => ofO (G (.str a) y) ρ2 := e0
      cases e2 : g ρ1 with
      | ok y ρ2 =>
        rw [e2] at e1
        have e1 : met1 f g G ρ = ofO (G (.str a) y) ρ2 := e1
        rw [e1] at hn hk
        intro w H2 ⟨ow2, E2⟩
        obtain ⟨z, hz⟩ := ofO_ne hn
        refine hg (fun a => ow2 a ≠ .pub) H2 (.str a) y _ w z Q E2.live (.val (.str a)) (.val E2.top) hz fun u H3 s r => ?_
        exact hk z ρ2 (by rw [hz]; rfl) u H3 ⟨ow2, (E2.drop.drop.mono s).push r⟩
      | ex x ρ2 =>
        rw [e2] at e1
        exact fun dx H' E' => hx x ρ2 e1 dx H' (E'.sub fun q hq => List.mem_cons_of_mem _ hq)
      | no => rw [e2] at e1; exact hn e1
    | _ => exact absurd e0 hn
  | ex x ρ1 => rw [e] at e0; exact hx x ρ1 e0
  | no => rw [e] at e0; exact hn e0
theorem metF_w {K : PySem.W.Frag} {σ : St} {H : Hp} {Q : VK} {f g : ValF} {G : D → D → Option D} {r : V → List V → Hp → VK → Prop} (hg : Op2F K (fun x y H Q => r x [y] H Q) G) (h : EvF K B W fl (met1 f g G) σ H Q) : tM1 r (EvT K B W fl f) (EvT K B W fl g) σ H Q := by
  obtain ⟨ρ, T, E, q⟩ := h
  obtain ⟨hn, hx, hk⟩ := evF_no q
  refine ⟨ρ, T, E, ?_⟩
  have e0 : met1 f g G ρ = (f ρ).bind fun x ρ1 => match x with
    | .str a => (g ρ1).bind fun y ρ2 => ofO (G (.str a) y) ρ2
    | _ => .no := rfl
  cases e : f ρ with
  | ok d ρ1 =>
    rw [e] at e0
    intro v H1 ⟨ow, E1⟩
    cases d with
    | str a =>
      have r1 := E1.top
      cases r1
      refine ⟨⟨_, rfl⟩, ρ1, _, ⟨ow, E1⟩, ?_⟩
      have e1 : met1 f g G ρ = (g ρ1).bind fun y ρ2 => ofO (G (.str a) y) ρ2 := e0
      cases e2 : g ρ1 with
      | ok y ρ2 =>
        rw [e2] at e1
        have e1 : met1 f g G ρ = ofO (G (.str a) y) ρ2 := e1
        rw [e1] at hn hk
        intro w H2 ⟨ow2, E2⟩
        obtain ⟨z, hz⟩ := ofO_ne hn
        refine hg (fun a => ow2 a ≠ .pub) H2 (.str a) y _ w z Q E2.live (.val (.str a)) (.val E2.top) hz fun p H3 hp s r => ?_
        obtain ⟨E3, o3⟩ := E2.drop.drop.hold hp s r
        exact hk z ρ2 (by rw [hz]; rfl) p H3 _ E3 o3
      | ex x ρ2 =>
        rw [e2] at e1
        exact fun dx H' E' => hx x ρ2 e1 dx H' (E'.sub fun q hq => List.mem_cons_of_mem _ hq)
      | no => rw [e2] at e1; exact hn e1
    | _ => exact absurd e0 hn
  | ex x ρ1 => rw [e] at e0; exact hx x ρ1 e0
  | no => rw [e] at e0; exact hn e0
/-- s.count(t) -/
def countD : D → D → Option D
  | .str a, .str b => some (.int (Txt.count ⟨a.toArray⟩ ⟨b.toArray⟩))
  | _, _ => none
theorem o_count {K : PySem.W.Frag} : Op2 K (fun x y H Q => (fun x xs H Q => ∃ a b, x = .str a ∧ xs = [.str b] ∧ Q (.int (Txt.count a b)) H) x [y] H Q) countD := by
  intro N H x y v w z Q hN bx hy e q
  cases x with
  | str a => cases y with
    | str b =>
      cases e
      cases bx.strE
      cases hy.strE
      exact ⟨_, _, rfl, rfl, q _ H (Same.refl H) (.int _)⟩
    | _ => cases e
  | _ => cases e
theorem pv_count {o e : Expr} {f g : ValF} {apos : Pos} (ho : PV X B W fl o f) (he : PV X B W fl e g) (hs : starEach [e] X.env = [(false, eval e X.env)] := by rfl) (hbase : attributeBase o "count" X.env (eval o X.env) = eval o X.env := by rfl) (hline : (apos.endLine == pos.line) = true := by rfl) :
    PV X B W fl (.Call (.Attribute o "count" apos) [e] [] pos) (met1 f g countD) :=
  ⟨PE.weaken (pe_m1 F.slot_str_count F.type_str_count mt_count ho.pe he.pe hs hbase hline) fun σ H Q q => met_w o_count q⟩
/-! ### chains -/
section
variable {a b c : Expr} {fa fb fc : ValF}
theorem pv_chLL (ha : PV X B W fl a fa) (hb : PV X B W fl b fb) (hc : PV X B W fl c fc) (hm : lastMarks [.LtE, .LtE] [b, c] = false := by with_unfolding_all rfl) : PV X B W fl (.Compare a [.LtE, .LtE] [b, c] pos) (chF leD leD fa fb fc) := pv_chain (pe_chain op_le op_le ha.pe hb.pe hc.pe hm) o_cmp o_cmp
theorem pv_chLl (ha : PV X B W fl a fa) (hb : PV X B W fl b fb) (hc : PV X B W fl c fc) (hm : lastMarks [.LtE, .Lt] [b, c] = false := by with_unfolding_all rfl) : PV X B W fl (.Compare a [.LtE, .Lt] [b, c] pos) (chF leD ltD fa fb fc) := pv_chain (pe_chain op_le op_lt ha.pe hb.pe hc.pe hm) o_cmp o_cmp
theorem pv_chlL (ha : PV X B W fl a fa) (hb : PV X B W fl b fb) (hc : PV X B W fl c fc) (hm : lastMarks [.Lt, .LtE] [b, c] = false := by with_unfolding_all rfl) : PV X B W fl (.Compare a [.Lt, .LtE] [b, c] pos) (chF ltD leD fa fb fc) := pv_chain (pe_chain op_lt op_le ha.pe hb.pe hc.pe hm) o_cmp o_cmp
theorem pv_chll (ha : PV X B W fl a fa) (hb : PV X B W fl b fb) (hc : PV X B W fl c fc) (hm : lastMarks [.Lt, .Lt] [b, c] = false := by with_unfolding_all rfl) : PV X B W fl (.Compare a [.Lt, .Lt] [b, c] pos) (chF ltD ltD fa fb fc) := pv_chain (pe_chain op_lt op_lt ha.pe hb.pe hc.pe hm) o_cmp o_cmp
theorem ptv_chLL (ha : PV X B W fl a fa) (hb : PV X B W fl b fb) (hc : PV X B W fl c fc) (hm : lastMarks [.LtE, .LtE] [b, c] = false := by with_unfolding_all rfl) : PTv X B W fl (.Compare a [.LtE, .LtE] [b, c] pos) (chF leD leD fa fb fc) := ptv_chain (pt_chain op_le op_le ha.pe hb.pe hc.pe hm) o_cmp o_cmp
theorem ptv_chLl (ha : PV X B W fl a fa) (hb : PV X B W fl b fb) (hc : PV X B W fl c fc) (hm : lastMarks [.LtE, .Lt] [b, c] = false := by with_unfolding_all rfl) : PTv X B W fl (.Compare a [.LtE, .Lt] [b, c] pos) (chF leD ltD fa fb fc) := ptv_chain (pt_chain op_le op_lt ha.pe hb.pe hc.pe hm) o_cmp o_cmp
theorem ptv_chlL (ha : PV X B W fl a fa) (hb : PV X B W fl b fb) (hc : PV X B W fl c fc) (hm : lastMarks [.Lt, .LtE] [b, c] = false := by with_unfolding_all rfl) : PTv X B W fl (.Compare a [.Lt, .LtE] [b, c] pos) (chF ltD leD fa fb fc) := ptv_chain (pt_chain op_lt op_le ha.pe hb.pe hc.pe hm) o_cmp o_cmp
theorem ptv_chll (ha : PV X B W fl a fa) (hb : PV X B W fl b fb) (hc : PV X B W fl c fc) (hm : lastMarks [.Lt, .Lt] [b, c] = false := by with_unfolding_all rfl) : PTv X B W fl (.Compare a [.Lt, .Lt] [b, c] pos) (chF ltD ltD fa fb fc) := ptv_chain (pt_chain op_lt op_lt ha.pe hb.pe hc.pe hm) o_cmp o_cmp
end
end
/-- a statement that is not reached -/
def sNo : StF := fun _ => .no
theorem psv_never {X : Cx} {B : Bd} {W : WX} {fl fl' flL : List Bool} {st : Stmt} : PSv X B W flL fl fl' st sNo := ⟨⟨fun pins s σ H D I q => by
  obtain ⟨ρ, T, E, q⟩ := svT_iff.mp q
  exact q.elim⟩⟩
end Pv

/-! Pv13: the source of draws: what next gives. -/
noncomputable section
namespace Pv
open PySem PySem.Spec L2
open PyProof.Rows hiding St
def nxCell (cs : List Int) (i : Int) : Int := (cs ++ [0]).getD (i % (max 1 cs.length : Int)).toNat 0
def nextF : D → List D → RRes
  | .rnd la s cs i, [.int cap] =>
    if cdec (0 < cap ∧ cap.natAbs.log2 < 9000 ∧ cs.length ≤ lim) = true then
      if cdec (10 ^ 18 ≤ nxCell cs i) = true then .rt (.int (nxCell cs i % cap)) (.rnd la s (cs.set (i % (cs.length : Int)).toNat (nxCell cs i / cap)) i)
      else .rt (.int (((s * 48271 + nxCell cs i * 69621 + 11) % 2147483647) / 7 % cap)) (.rnd la ((s * 48271 + nxCell cs i * 69621 + 11) % 2147483647) cs (i + 1))
    else .no
  | _, _ => .no
theorem nx_ix {cs : List Int} {i : Int} : ∃ j : Nat, j < cs.length + 1 ∧ i % (max 1 cs.length : Int) = (j : Int) ∧ (cs ++ [0])[j]? = some (nxCell cs i) := by
  have h0 : (0 : Int) < (max 1 cs.length : Int) := by omega
  have h1 := Int.emod_nonneg i (Int.ne_of_gt h0)
  have h2 := Int.emod_lt_of_pos i h0
  refine ⟨(i % (max 1 cs.length : Int)).toNat, by omega, (Int.toNat_of_nonneg h1).symm, ?_⟩
  unfold nxCell
  rw [List.getD_eq_getElem?_getD]
  have hl : (i % (max 1 cs.length : Int)).toNat < (cs ++ [0]).length := by rw [List.length_append]; simp; omega
  rw [List.getElem?_eq_getElem hl]
  rfl
theorem nx_big {cs : List Int} {i : Int} (h : 10 ^ 18 ≤ nxCell cs i) : 0 < cs.length ∧ ∃ j : Nat, j < cs.length ∧ i % (cs.length : Int) = (j : Int) := by
  have hc : 0 < cs.length := by
    cases cs with
    | nil =>
      exfalso
      unfold nxCell at h
      have e : (i % (max 1 ([] : List Int).length : Int)).toNat = 0 := by
        have : (max 1 (([] : List Int).length : Int)) = 1 := rfl
        rw [this, Int.emod_one]; rfl
      rw [e] at h
      exact absurd h (by decide)
    | cons a l => simp
  have h0 : (0 : Int) < (cs.length : Int) := by omega
  have h1 := Int.emod_nonneg i (Int.ne_of_gt h0)
  have h2 := Int.emod_lt_of_pos i h0
  exact ⟨hc, (i % (cs.length : Int)).toNat, by omega, (Int.toNat_of_nonneg h1).symm⟩
theorem ixN_nat {n j : Nat} (h : j < n) : ixN n (j : Int) = some j := by
  unfold ixN
  rw [if_pos (by omega), if_pos (by omega)]
  rfl
theorem atI_nat {α : Type} {xs : List α} {j : Nat} {x : α} (h : xs[j]? = some x) : atI xs (j : Int) = some x := by
  have hl : j < xs.length := by
    rcases Nat.lt_or_ge j xs.length with l | l
    · exact l
    · rw [List.getElem?_eq_none l] at h; cases h
  unfold atI
  rw [ixN_nat hl]
  exact h
theorem nextF_ds {la : Addr} {s : Int} {cs : List Int} {i : Int} {ds : List D} (h : nextF (.rnd la s cs i) ds ≠ .no) : ∃ cap : Int, ds = [.int cap] ∧ 0 < cap ∧ cap.natAbs.log2 < 9000 ∧ cs.length ≤ lim := by
  match ds, h with
  | [.int cap], h =>
    unfold nextF at h
    dsimp only at h
    split at h
    · rename_i c; exact ⟨_, rfl, (cdec_of c).1, (cdec_of c).2.1, (cdec_of c).2.2⟩
    · exact absurd rfl h
  | [], h => exact absurd rfl h
  | .non :: _, h => exact absurd rfl h
  | .bl _ :: _, h => exact absurd rfl h
  | .str _ :: _, h => exact absurd rfl h
  | .lst _ :: _, h => exact absurd rfl h
  | .tup _ :: _, h => exact absurd rfl h
  | .dik _ :: _, h => exact absurd rfl h
  | .dit _ :: _, h => exact absurd rfl h
  | .ins _ _ :: _, h => exact absurd rfl h
  | .ref _ :: _, h => exact absurd rfl h
  | .ty _ :: _, h => exact absurd rfl h
  | .set _ :: _, h => exact absurd rfl h
  | .rnd _ _ _ _ :: _, h => exact absurd rfl h
  | .lol _ :: _, h => exact absurd rfl h
  | .ino _ _ _ _ :: _, h => exact absurd rfl h
  | .dil _ :: _, h => exact absurd rfl h
  | .int _ :: _ :: _, h => exact absurd rfl h
theorem nextF_big {la : Addr} {s : Int} {cs : List Int} {i cap : Int} (h : 0 < cap ∧ cap.natAbs.log2 < 9000 ∧ cs.length ≤ lim) (hb : 10 ^ 18 ≤ nxCell cs i) : nextF (.rnd la s cs i) [.int cap] = .rt (.int (nxCell cs i % cap)) (.rnd la s (cs.set (i % (cs.length : Int)).toNat (nxCell cs i / cap)) i) := by
  unfold nextF
  dsimp only
  rw [if_pos (cdec_true h), if_pos (cdec_true hb)]
theorem nextF_small {la : Addr} {s : Int} {cs : List Int} {i cap : Int} (h : 0 < cap ∧ cap.natAbs.log2 < 9000 ∧ cs.length ≤ lim) (hb : ¬ 10 ^ 18 ≤ nxCell cs i) : nextF (.rnd la s cs i) [.int cap] = .rt (.int (((s * 48271 + nxCell cs i * 69621 + 11) % 2147483647) / 7 % cap)) (.rnd la ((s * 48271 + nxCell cs i * 69621 + 11) % 2147483647) cs (i + 1)) := by
  unfold nextF
  dsimp only
  rw [if_pos (cdec_true h), if_neg (cdec_not hb)]
/-! ### isinstance(x, (T1, T2)) -/
def isiT (n1 n2 : String) : D → Option D := fun x => (tyD x).bind fun t => (kitB t n1).bind fun b1 => (kitB t n2).map fun b2 => .bl (b1 || b2)
theorem BRep.mono {K : PySem.W.Frag} {h H H' : Hp} {d : D} {v : V} (s : Same H H') (b : BRep K h H d v) : BRep K h H' d v := by
  cases b with
  | val r => exact .val r
  | lst e r => exact .lst (s _ _ e) r
  | dik e k r => exact .dik (same_rd s e) k r
  | dit e k r => exact .dit (same_rd s e) k r
  | ins e k r => exact .ins (s _ _ e) k r
  | rnd => exact .rnd
  | dil => exact .dil
  | lol => exact .lol
  | ino e r => exact .ino (s _ _ e) r
theorem o_isiT {K : PySem.W.Frag} {n1 n2 : String} : Op1 K (fun x H Q => [V.ty n1, V.ty n2].length ≤ sizeLine ∧ ∀ p, H p = none → rIsiT K [x, .ref p] (upd H p (.tup [.ty n1, .ty n2])) Q) (isiT n1 n2) := by
  intro N H x v z Q hN bx e q
  unfold isiT at e
  obtain ⟨t, e1, e⟩ := Option.bind_eq_some_iff.mp e
  obtain ⟨b1, e2, e⟩ := Option.bind_eq_some_iff.mp e
  obtain ⟨b2, e3, rfl⟩ := Option.map_eq_some_iff.mp e
  refine ⟨show 2 ≤ sizeLine by decide, fun p hp => ?_⟩
  have s1 : Same H (upd H p (.tup [.ty n1, .ty n2])) := same_new hp
  refine ⟨v, p, [.ty n1, .ty n2], .type t, [.type n1, .type n2], b1 || b2, rfl, upd_same, .cons (.ty n1) (.cons (.ty n2) .nil), tyD_x (bx.mono s1) (hide_sub.trans s1) e1, ?_, q _ _ s1 (.bl _)⟩
  refine kitAny_cons (kit_ty e2) (fun h => ?_) (fun h => by rw [h]; rfl)
  rw [h, Bool.false_or]
  exact kitAny_cons (kit_ty e3) (fun h => by rw [h]; rfl) (fun h => h)
section
variable {X : Cx} {B : Bd} {W : WX} {fl fl1 fl2 fl' flL : List Bool} {pos p p1 p2 : Pos}
theorem pv_isT2 {a : Expr} {o : Opd} {x1 x2 : Str} {n1 n2 : String} {q1 q2 q3 : Pos} {kk : Nat} (hg : Gl X "isinstance") (hm : X.mg "isinstance" = none) (ha : POp X B W fl a o) (t1 : PE X (.Name x1 q1) (tC (.ty n1))) (t2 : PE X (.Name x2 q2) (tC (.ty n2)))
    (he : starEach [a, .Tuple [.Name x1 q1, .Name x2 q2] kk q3] X.env = (false, eval a X.env) :: starEach [.Tuple [.Name x1 q1, .Name x2 q2] kk q3] X.env := by rfl) (he2 : starEach [.Tuple [.Name x1 q1, .Name x2 q2] kk q3] X.env = (false, eval (.Tuple [.Name x1 q1, .Name x2 q2] kk q3) X.env) :: starEach [] X.env := by rfl)
    (hpl : (backTo pos (starEach [.Tuple [.Name x1 q1, .Name x2 q2] kk q3] X.env)).any (·.1) = false := by rfl) : PV X B W fl (.Call (.Name "isinstance" p) [a, .Tuple [.Name x1 q1, .Name x2 q2] kk q3] [] pos) (un1 o (isiT n1 n2)) :=
  pv_op1 (pe_callB call_isiT hg hm bt_isinstance (pa_cons ha.pe (pa_cons (pe_tup (pa_cons t1 (pa_cons t2 pa_nil))) pa_nil he2) he) (he := he) (hpl := hpl)) o_isiT
theorem pe_bty {x : Str} {n : String} (hg : Gl X x) (hm : X.mg x = none) (hv : bootBuiltins x = some (.type n)) (hn : x ≠ "__name__" := by decide) (hd : (x == ("__debug__" : Str)) = false := by decide) : PE X (.Name x p) (tC (.ty n)) := pe_bltn (v := .ty n) hg hm hv rfl hn hd
theorem pb_never {st : List Stmt} : PBv X B W flL fl fl' st sNo := ⟨⟨fun pins s σ H D I q => by
  obtain ⟨ρ, T, E, q⟩ := svT_iff.mp q
  exact q.elim⟩⟩
end
/-! ### a law: h = mix(script, seed), then what is asked answers True at every source -/
def LawTrue (N k : Nat) (f : StF) : Prop := ∀ (la : Addr) (s : Int) (cs : List Int), cs.length ≤ 63 → ∃ ρ', f ((List.replicate N none).set k (some (.rnd la s cs 0))) = .rt (.bl true) ρ'
theorem fn_law {P : Program} {w : World} {K : PySem.W.Frag} {mg : Str → Option Value} {base : Heap} {x qual y : Str} {params : Arguments} {st : Stmt} {body : List Stmt} {scope : Scope} {f : Addr} {fd : FuncData} {N : List Str} {k kh : Nat} {fS : StF} {fl' : List Bool}
    {seed : Int} (F : FunD K x qual params (st :: body) scope [] [] f fd) (S : FnScope N [y] scope) (h0 : N[0]? = some y) (hk : kh ≠ 0) (hkl : kh < N.length)
    (hm : ∀ (cdv : Value) (A : Around) (outer : List PySem.Env) (s : Shared) (H : Hp) (E : XK), Room k (A.deeper (envOfC qual scope s.heap.objs.size f cdv)) →
      PS (cxOf (L2N.CX P w) P w K mg base N qual scope f cdv A outer s H E) st (tAsg (tCallS (spMix K) (WE (fun cls d _ H => E cls d H)) (tCons (tVar 0) (tCons (tC (.int seed)) tNil))) (gName kh)))
    (hb : ∀ (cdv : Value) (A : Around) (outer : List PySem.Env) (s : Shared) (H : Hp) (E : XK) (B : Bd), B.bor = [] → B.fr = false → Room k (A.deeper (envOfC qual scope s.heap.objs.size f cdv)) →
      PBv (cxOf (L2N.CX P w) P w K mg base N qual scope f cdv A outer s H E) B (fun cls d _ H => E cls d H) [] ((List.replicate N.length false).set kh true) fl' body fS)
    (hp : LawTrue N.length kh fS) : FnOk P w K mg base (L2N.CX P w) (k + 1) f fd [y] (spLaw K) := by
  refine F.ok S (fun vs H Q E h => ?_) fun cdv A outer s H vs Q E hr h => ?_
  · obtain ⟨a, ns, rfl, _⟩ := h; rfl
  obtain ⟨a, ns, rfl, hS, hl, q⟩ := h
  have hN : 0 < N.length := by
    cases N with
    | nil => cases h0
    | cons _ _ => simp
  refine ⟨_, pss_cons (hm cdv A outer s H E hr) (hb cdv A outer s H E ⟨fun _ => False, H, [], false⟩ rfl rfl hr).ps, ?_⟩
  have e0 : (L2.start N [.ref a])[0]? = some (some (.ref a)) := by unfold L2.start; rfl
  refine ⟨_, e0, a, seed, ns, rfl, hS, hl, fun H' p la s' sm hp0 hla0 hne hp1 hla1 => ?_⟩
  have hlen : (L2.start N [.ref a]).length = N.length := start_len (by simp; omega)
  obtain ⟨ρ', e⟩ := hp la s' ns hl
  suffices key : SvT K ⟨fun _ => False, H, [], false⟩ (fun cls d _ H => E cls d H) ((List.replicate N.length false).set kh true) fl' [] fS { nx := fun _ H' => Q .non H', rt := Q } ((L2.start N [V.ref a]).set kh (some (V.ref p))) H' from key
  refine svT_mk (T := []) (ρ := (List.replicate N.length none).set kh (some (.rnd la s' ns 0))) ⟨fun b => if b = p ∨ b = la then .slot kh else .pub, ?_⟩ ?_
  · have own : ∀ b, (if b = p ∨ b = la then Ow.slot kh else .pub) ≠ .pub → b = p ∨ b = la := fun b z => by
      by_cases c : b = p ∨ b = la
      · exact c
      · rw [if_neg c] at z; exact absurd rfl z
    have get : ∀ (i : Nat) (d : Pv.D), ((List.replicate N.length (none : Option Pv.D)).set kh (some (.rnd la s' ns 0)))[i]? = some (some d) → i = kh ∧ d = .rnd la s' ns 0 := fun i d h => by
      rcases get_set h with ⟨rfl, h, _⟩ | ⟨_, h⟩
      · cases h; exact ⟨rfl, rfl⟩
      · rw [List.getElem?_replicate] at h
        split at h <;> cases h
    have flt : ((List.replicate N.length false).set kh true)[kh]? = some true := List.getElem?_set_self (by simpa using hkl)
    refine ⟨by simp [hlen], by simp [hlen], fun b h => h.elim, fun b z => ?_, fun b vs z => (by
      rw [if_neg]
      rintro (h | h)
      · rw [h, hp1] at z; cases z
      · rw [h, hla1] at z; cases z), fun i d h1 h2 => ?_, fun i d h1 _ => ?_, fun b z _ => ?_, fun b o h _ => sm b o h, fun q hq => (nomatch hq), fun b h => (nomatch h), fun b h => nomatch h⟩
    · rcases own b z with rfl | rfl
      · rw [hp1]; exact fun z => nomatch z
      · rw [hla1]; exact fun z => nomatch z
    · obtain ⟨rfl, _⟩ := get i d h1
      exact absurd flt h2
    · obtain ⟨rfl, rfl⟩ := get i d h1
      refine ⟨p, List.getElem?_set_self (by rw [hlen]; exact hkl), if_pos (.inl rfl), hne, if_pos (.inr rfl), hp1, hla1⟩
    · rcases own b z with rfl | rfl
      · exact .inl hp0
      · exact .inl hla0
  · rw [e]
    intro v H'' o
    have := o.2.1
    unfold RetV at this
    rw [if_neg Bool.false_ne_true] at this
    cases this
    exact q _
/-- a law lets nothing out -/
theorem law_nox {P : Program} {w : World} {K : PySem.W.Frag} {mg : Str → Option Value} {base : Heap} {k : Nat} {f : Addr} {fd : FuncData} {ps : List Str} (F : FnOk P w K mg base (L2N.CX P w) k f fd ps (spLaw K)) : FnOk P w K mg base L2.CX0 k f fd ps (spLaw K) :=
  ⟨F.len, fun A outer s H args us vs Q E hr he hb hv hs => codeAny_mono (F.run A outer s H args us vs Q (fun _ _ _ => False) hr he hb hv hs) fun r s' c => by
    cases r with
    | ok x => cases x <;> exact c
    | error e =>
      obtain ⟨_, _, _, _, _, _, _, _, _, _, _, _, z⟩ := (show L2N.CX P w outer H s (fun _ _ _ => False) e s' from c)
      exact z.elim⟩
end Pv

/-! Pv14: several targets at once, new objects among the values. -/
noncomputable section
namespace Pv
open PySem PySem.Spec L2
open PyProof.Rows hiding St
inductive MRes where
  | ok (ms : List (Bool × D)) (ρ : Env) | ex (x : Exc) (ρ : Env) | no
abbrev MF := Env → MRes
abbrev hid (k : Nat) : Ow := .slot (1000 + k)
/-- true: a new object that nobody else holds -/
def MH1 (K : PySem.W.Frag) (ow : Addr → Ow) (H : Hp) (k : Nat) : Bool × D → V → Prop
  | (false, d), v => Rep K (pubH ow H) d v
  | (true, d), v => ∃ p, v = .ref p ∧ OwnAt K H ow (hid k) p d
def MH (K : PySem.W.Frag) (ow : Addr → Ow) (H : Hp) : Nat → List (Bool × D) → List V → Prop
  | _, [], [] => True
  | k, m :: ms, v :: vs => MH1 K ow H k m v ∧ MH K ow H (k + 1) ms vs
  | _, _, _ => False
def EvM (K : PySem.W.Frag) (B : Bd) (W : WX) (fl : List Bool) (k : Nat) (f : MF) : TA := fun σ H Q => ∃ ρ T, ER K B fl σ H ρ T ∧ match f ρ with
  | .ok ms ρ' => ∀ vs H' ow, ERo K B fl ow σ H' ρ' T → MH K ow H' k ms vs → Q vs H'
  | .ex x ρ' => ∀ dx H', ER K B fl σ H' ρ' T → XOk x H' dx → W (.ref x.cls) dx σ H'
  | .no => False
structure PMv (X : Cx) (B : Bd) (W : WX) (fl : List Bool) (k : Nat) (es : List Expr) (os : List Bool) (f : MF) : Prop where
  pa : PA X es (EvM X.K B W fl k f)
  pat : ∀ ρ ms ρ', f ρ = .ok ms ρ' → ms.map (·.1) = os
def mNil : MF := fun ρ => .ok [] ρ
def mV (f : ValF) (g : MF) : MF := fun ρ => match f ρ with
  | .ok d ρ1 => match g ρ1 with
    | .ok ms ρ2 => .ok ((false, d) :: ms) ρ2
    | r => r
  | .ex x ρ1 => .ex x ρ1
  | .no => .no
/-- a new object whose items are values -/
def flatN : D → Bool
  | .lst _ => true
  | .dik _ => true
  | .dit _ => true
  | .dil [] => true
  | .lol [] => true
  | _ => false
def mF (f : ValF) (g : MF) : MF := fun ρ => match f ρ with
  | .ok d ρ1 => if flatN d = true then match g ρ1 with
    | .ok ms ρ2 => .ok ((true, d) :: ms) ρ2
    | .ex _ _ => .no
    | .no => .no
    else .no
  | .ex x ρ1 => .ex x ρ1
  | .no => .no
section
variable {X : Cx} {B : Bd} {W : WX} {fl fl1 fl2 fl' flL : List Bool} {pos p p1 p2 : Pos} {k : Nat}
theorem pmv_nil : PMv X B W fl k [] [] mNil := ⟨PA.weaken pa_nil fun σ H Q ⟨ρ, T, ⟨ow, E⟩, q⟩ => q [] H ow E trivial, fun ρ ms ρ' e => by cases e; rfl⟩
theorem pmv_v {e : Expr} {es : List Expr} {os : List Bool} {f : ValF} {g : MF} (h : PV X B W fl e f) (h2 : PMv X B W fl (k + 1) es os g) (hs : starEach (e :: es) X.env = (false, eval e X.env) :: starEach es X.env := by rfl) : PMv X B W fl k (e :: es) (false :: os) (mV f g) :=
  ⟨PA.weaken (pa_cons h.pe h2.pa hs) fun σ H Q ⟨ρ, T, E, q⟩ => by
    refine ⟨ρ, T, E, ?_⟩
    unfold mV at q
    cases e1 : f ρ with
    | ok d ρ1 =>
      rw [e1] at q
      dsimp only at q
      intro v H1 E1
      refine ⟨ρ1, _, E1, ?_⟩
      cases e2 : g ρ1 with
      | ok ms ρ2 =>
        rw [e2] at q
        intro vs H2 ow E2 m
        exact q (v :: vs) H2 ow E2.drop ⟨E2.top, m⟩
      | ex x ρ2 => rw [e2] at q; exact fun dx H' E' z => q dx H' (E'.sub fun p hp => List.mem_cons_of_mem _ hp) z
      | no => rw [e2] at q; exact q.elim
    | ex x ρ1 => rw [e1] at q; exact q
    | no => rw [e1] at q; exact q.elim, fun ρ ms ρ' e => by
    unfold mV at e
    split at e
    · split at e
      · rename_i h; cases e; rw [List.map_cons, h2.pat _ _ _ h]
      · rename_i h; exact absurd e (h _ _)
    · cases e
    · cases e⟩

open Classical in
/-- what is for a moment nobody's is the frame's, while the rest runs -/
noncomputable def Bd.hold (B : Bd) (S : Addr → Prop) (H : Hp) : Bd := ⟨fun a => B.M a ∨ S a, fun a => if S a then H a else B.H0 a, B.bor, B.fr⟩
theorem hold_pos {S : Addr → Prop} {H : Hp} {a : Addr} (h : S a) : (B.hold S H).H0 a = H a := if_pos h
theorem hold_neg {S : Addr → Prop} {H : Hp} {a : Addr} (h : ¬ S a) : (B.hold S H).H0 a = B.H0 a := if_neg h
theorem ERo.holdOn {K : PySem.W.Frag} {ow : Addr → Ow} {σ : St} {H : Hp} {ρ : Env} {T : List (D × V)} (E : ERo K B fl ow σ H ρ T) : ERo K (B.hold (fun a => ow a = .tmp) H) fl (rel ow .tmp .frame) σ H ρ T := by
  have t1 : Ow.tmp ≠ .pub := fun z => nomatch z
  refine ⟨E.len, E.fll, fun a h => ?_, fun a q => ?_, fun a vs z => ?_, fun i d h1 h2 => ?_, fun i d h1 h2 => ?_, fun a q1 q2 => ?_, fun a o h1 h2 => ?_, fun q hq => (E.tmp q hq).mono (pubH_rel t1 H), fun a h => ?_, E.b0⟩
  · rcases h with h | h
    · rw [Pv.rel_ne (by rw [E.frame a h]; exact fun z => nomatch z)]; exact E.frame a h
    · exact Pv.rel_eq h
  · refine E.live a fun z => q ?_
    rw [Pv.rel_ne (by rw [z]; exact fun z => nomatch z)]; exact z
  · have e := E.nt a vs z
    rw [Pv.rel_ne (by rw [e]; exact fun z => nomatch z)]; exact e
  · obtain ⟨v, e, r⟩ := E.sh i d h1 h2; exact ⟨v, e, r.mono (pubH_rel t1 H)⟩
  · obtain ⟨p, e, o⟩ := E.hd i d h1 h2; exact ⟨p, e, o.rel_ne t1 (fun z => nomatch z)⟩
  · have n : ow a ≠ .tmp := fun z => q2 (Pv.rel_eq z)
    rw [Pv.rel_ne n] at q1 q2
    rcases E.new a q1 q2 with h | h
    · left; rw [hold_neg n]; exact h
    · exact .inr h
  · by_cases e : ow a = .tmp
    · rw [hold_pos e] at h1; exact h1
    · rw [hold_neg e] at h1; exact E.same a o h1 h2
  · rw [Pv.rel_ne (by rw [E.bown a h]; exact fun z => nomatch z)]; exact E.bown a h
open Classical in
noncomputable def lab (S : Addr → Prop) (w : Ow) (ow : Addr → Ow) : Addr → Ow := fun a => if S a then w else ow a
theorem lab_pos {S : Addr → Prop} {w : Ow} {ow : Addr → Ow} {a : Addr} (h : S a) : lab S w ow a = w := if_pos h
theorem lab_neg {S : Addr → Prop} {w : Ow} {ow : Addr → Ow} {a : Addr} (h : ¬ S a) : lab S w ow a = ow a := if_neg h
/-- .. and held again, by w -/
theorem ERo.holdOff {K : PySem.W.Frag} {ow ow2 : Addr → Ow} {σ : St} {H H2 : Hp} {ρ ρ2 : Env} {T T2 : List (D × V)} {w : Ow} (E : ERo K B fl ow σ H ρ T) (E2 : ERo K (B.hold (fun a => ow a = .tmp) H) fl ow2 σ H2 ρ2 T2) (w1 : w ≠ .pub) (w2 : w ≠ .frame) :
    ERo K B fl (lab (fun a => ow a = .tmp) w ow2) σ H2 ρ2 T2 ∧ Same (pubH ow2 H2) (pubH (lab (fun a => ow a = .tmp) w ow2) H2) ∧ (∀ a o, ow a = .tmp → H a = some o → H2 a = some o) ∧ ∀ a, ow a = .tmp → ow2 a = .frame := by
  have fr : ∀ a, ow a = .tmp → ow2 a = .frame := fun a h => E2.frame a (.inr h)
  have nb : ∀ a, ow a = .tmp → a ∉ B.bor := fun a h z => by rw [E.bown a z] at h; cases h
  have kp : ∀ a o, ow a = .tmp → H a = some o → H2 a = some o := fun a o h e => E2.same a o (by rw [hold_pos h]; exact e) (nb a h)
  have ns : ∀ a, ow2 a ≠ .frame → ow a ≠ .tmp := fun a h z => h (fr a z)
  have sp : Same (pubH ow2 H2) (pubH (lab (fun a => ow a = .tmp) w ow2) H2) := hide_same (Same.refl _) fun a q _ z => q (by rw [lab_neg (ns a (by rw [z]; exact fun z => nomatch z))]; exact z)
  refine ⟨⟨E2.len, E2.fll, fun a h => ?_, fun a q => ?_, fun a vs z => ?_, fun i d h1 h2 => ?_, fun i d h1 h2 => ?_, fun a q1 q2 => ?_, fun a o h1 h2 => ?_, fun q hq => (E2.tmp q hq).mono sp, fun a h => ?_, E2.b0⟩, sp, kp, fr⟩
  · rw [lab_neg (by rw [E.frame a h]; exact fun z => nomatch z)]; exact E2.frame a (.inl h)
  · by_cases e : ow a = .tmp
    · cases e1 : H a with
      | none => exact absurd e1 (E.live a (by rw [e]; exact fun z => nomatch z))
      | some o => rw [kp a o e e1]; exact fun z => nomatch z
    · rw [lab_neg e] at q; exact E2.live a q
  · have e := E2.nt a vs z
    rw [lab_neg (ns a (by rw [e]; exact fun z => nomatch z))]; exact e
  · obtain ⟨v, e, r⟩ := E2.sh i d h1 h2; exact ⟨v, e, r.mono sp⟩
  · obtain ⟨p, e, o⟩ := E2.hd i d h1 h2
    exact ⟨p, e, o.gen (fun _ _ _ e => e) sp fun a h => by rw [lab_neg (ns a (by rw [h]; exact fun z => nomatch z))]; exact h⟩
  · by_cases e : ow a = .tmp
    · exact E.new a (by rw [e]; exact fun z => nomatch z) (by rw [e]; exact fun z => nomatch z)
    · rw [lab_neg e] at q1 q2
      rcases E2.new a q1 q2 with h | h
      · left
        rw [hold_neg e] at h; exact h
      · exact .inr h
  · by_cases e : ow a = .tmp
    · rcases E.new a (by rw [e]; exact fun z => nomatch z) (by rw [e]; exact fun z => nomatch z) with h | h
      · rw [h1] at h; cases h
      · exact absurd h h2
    · exact E2.same a o (by rw [hold_neg e]; exact h1) h2
  · rw [lab_neg (by rw [E.bown a h]; exact fun z => nomatch z)]; exact E2.bown a h
theorem MH.gen {K : PySem.W.Frag} {ow ow' : Addr → Ow} {H : Hp} (sp : Same (pubH ow H) (pubH ow' H)) : ∀ {k : Nat} {ms : List (Bool × D)} {vs : List V}, (∀ a j, k ≤ j → ow a = hid j → ow' a = hid j) → MH K ow H k ms vs → MH K ow' H k ms vs
  | _, [], [], _, _ => trivial
  | _, [], _ :: _, _, h => h.elim
  | _, _ :: _, [], _, h => h.elim
  | k, (false, d) :: ms, v :: vs, hk, h => ⟨Rep.mono sp h.1, MH.gen sp (fun a j l => hk a j (by omega)) h.2⟩
  | k, (true, d) :: ms, v :: vs, hk, ⟨⟨p, e, o⟩, m⟩ => ⟨⟨p, e, o.gen (fun _ _ _ e => e) sp fun a h => hk a k (Nat.le_refl _) h⟩, MH.gen sp (fun a j l => hk a j (by omega)) m⟩
/-- the items of a new object, kept as values while the rest runs -/
theorem own_items {K : PySem.W.Frag} {ow : Addr → Ow} {H : Hp} {p : Addr} {d : D} (h : flatN d = true) (o : OwnAt K H ow .tmp p d) : ∃ ts : List (D × V), (∀ q ∈ ts, Rep K (pubH ow H) q.1 q.2) ∧ ∀ (ow' : Addr → Ow) (H' : Hp) (w : Ow), (∀ q ∈ ts, Rep K (pubH ow' H') q.1 q.2) → (∀ a o, ow a = .tmp → H a = some o → H' a = some o) → (∀ a, ow a = .tmp → ow' a = w) → OwnAt K H' ow' w p d := by
  have zip : ∀ {ds : List D} {vs : List V} {h : Hp}, Reps K h ds vs → ∀ q ∈ ds.zip vs, Rep K h q.1 q.2 := by
    intro ds
    induction ds with
    | nil => intro vs h r q hq; cases hq
    | cons d ds ih =>
      intro vs h r q hq
      cases r with
      | cons r t =>
        rcases List.mem_cons.mp hq with rfl | hq
        · exact r
        · exact ih t q hq
  cases d with
  | lst ds =>
    obtain ⟨e, vs, h1, h2⟩ := o
    exact ⟨ds.zip vs, zip h2, fun ow' H' w r kp kw => ⟨kw _ e, vs, kp _ _ e h1, reps_zip h2.length r⟩⟩
  | dik kvs =>
    obtain ⟨e, ks, h1, h2, h3⟩ := o
    exact ⟨_, zip h3, fun ow' H' w r kp kw => ⟨kw _ e, ks, kp _ _ e h1, h2, reps_zip h3.length r⟩⟩
  | dit kvs =>
    obtain ⟨e, ks, h1, h2, h3⟩ := o
    exact ⟨_, zip h3, fun ow' H' w r kp kw => ⟨kw _ e, ks, kp _ _ e h1, h2, reps_zip h3.length r⟩⟩
  | dil kvs =>
    cases kvs with
    | cons _ _ => cases h
    | nil =>
      obtain ⟨e, ks, h1, h2, h3⟩ := o
      cases ks with
      | cons _ _ => exact h3.elim
      | nil => exact ⟨[], (fun q hq => nomatch hq), fun ow' H' w r kp kw => ⟨kw _ e, [], kp _ _ e h1, h2, trivial⟩⟩
  | lol kvs =>
    cases kvs with
    | cons _ _ => cases h
    | nil =>
      obtain ⟨e, ks, h1, h2, h3, h4⟩ := o
      cases ks with
      | cons _ _ => exact h4.elim
      | nil => exact ⟨[], (fun q hq => nomatch hq), fun ow' H' w r kp kw => ⟨kw _ e, [], kp _ _ e h1, h2, h3, trivial⟩⟩
  | _ => cases h
theorem ERo.pushes {K : PySem.W.Frag} {ow : Addr → Ow} {σ : St} {H : Hp} {ρ : Env} {T : List (D × V)} (E : ERo K B fl ow σ H ρ T) {ts : List (D × V)} (h : ∀ q ∈ ts, Rep K (pubH ow H) q.1 q.2) : ERo K B fl ow σ H ρ (ts ++ T) :=
  { E with tmp := fun q hq => (List.mem_append.mp hq).elim (h q) (E.tmp q) }
theorem pmv_f {e : Expr} {es : List Expr} {os : List Bool} {f : ValF} {g : MF} (h : PF X B W fl e f) (h2 : ∀ B' : Bd, B'.bor = B.bor → PMv X B' W fl (k + 1) es os g) (hs : starEach (e :: es) X.env = (false, eval e X.env) :: starEach es X.env := by rfl) : PMv X B W fl k (e :: es) (true :: os) (mF f g) := by
  have hx : PA X es (fun σ H Q => ∃ B' : Bd, B'.bor = B.bor ∧ EvM X.K B' W fl (k + 1) g σ H Q) := ⟨fun pos pins s σ H Q I ⟨B', hb, q⟩ => (h2 B' hb).pa.run pos pins s σ H Q I q⟩
  refine ⟨PA.weaken (pa_cons h.pe hx hs) fun σ H Q ⟨ρ, T, E, q⟩ => ?_, fun ρ ms ρ' e => ?_⟩
  rotate_left
  · unfold mF at e
    split at e
    · split at e
      · split at e
        · rename_i h; cases e; rw [List.map_cons, (h2 B rfl).pat _ _ _ h]
        · cases e
        · cases e
      · cases e
    · cases e
    · cases e
  refine ⟨ρ, T, E, ?_⟩
  unfold mF at q
  cases e1 : f ρ with
  | ok d ρ1 =>
    rw [e1] at q
    dsimp only at q
    by_cases hd : flatN d = true
    · rw [if_pos hd] at q
      intro p H1 ow E1 o
      obtain ⟨ts, t1, t2⟩ := own_items hd o
      have E1' := (E1.pushes t1).holdOn
      refine ⟨B.hold (fun a => ow a = .tmp) H1, rfl, ρ1, ts ++ T, ⟨_, E1'⟩, ?_⟩
      cases e2 : g ρ1 with
      | ok ms ρ2 =>
        rw [e2] at q
        intro vs H2 ow2 E2 m
        obtain ⟨E3, sp, kp, fr⟩ := (E1.pushes t1).holdOff E2 (w := hid k) (fun z => nomatch z) (fun z => nomatch z)
        refine q (.ref p :: vs) H2 _ (E3.sub fun q hq => List.mem_append_right _ hq) ⟨⟨p, rfl, ?_⟩, m.gen sp fun a j _ h => ?_⟩
        · exact t2 _ _ _ (fun q hq => E3.tmp q (List.mem_append_left _ hq)) kp fun a h => lab_pos (S := fun a => ow a = .tmp) h
        · rw [lab_neg (S := fun a => ow a = .tmp) fun z => by rw [fr a z] at h; cases h]; exact h
      | ex x ρ2 => rw [e2] at q; exact q.elim
      | no => rw [e2] at q; exact q.elim
    · rw [if_neg hd] at q; exact q.elim
  | ex x ρ1 => rw [e1] at q; exact q
  | no => rw [e1] at q; exact q
/-- name = an object with a label of its own -/
theorem ERo.setH {K : PySem.W.Frag} {ow : Addr → Ow} {σ : St} {H : Hp} {ρ : Env} {T : List (D × V)} (E : ERo K B fl ow σ H ρ T) {i : Nat} {w : Ow} {d : D} {p : Addr} (w1 : w ≠ .pub) (w2 : w ≠ .frame) (w3 : ∀ j, j < σ.length → w ≠ .slot j) (w0 : w ≠ .slot 0) (r : OwnAt K H ow w p d) (hi : i < σ.length) (hb : i ≠ 0 ∨ B.bor = []) :
    ERo K B (fl.set i true) (rel ow w (.slot i)) (σ.set i (some (.ref p))) H (ρ.set i (some d)) T where
  len := by rw [List.length_set, List.length_set]; exact E.len
  fll := by rw [List.length_set, List.length_set]; exact E.fll
  frame := fun a h => by rw [Pv.rel_ne (by rw [E.frame a h]; exact w2.symm)]; exact E.frame a h
  live := fun a q => by
    refine E.live a fun z => q ?_
    rw [Pv.rel_ne (by rw [z]; exact w1.symm)]; exact z
  nt := fun a vs z => by
    have e := E.nt a vs z
    rw [Pv.rel_ne (by rw [e]; exact w1.symm)]; exact e
  sh := fun j e h1 h2 => by
    rcases get_set h1 with ⟨rfl, q, hl⟩ | ⟨ne, q⟩
    · exact absurd (by rw [List.getElem?_set_self (by rw [E.fll]; exact hi)]) h2
    · rw [fl_ne ne] at h2
      obtain ⟨u, q1, q2⟩ := E.sh j e q h2
      exact ⟨u, by rw [List.getElem?_set_ne (fun z => ne z.symm)]; exact q1, q2.mono (pubH_rel w1 H)⟩
  hd := fun j e h1 h2 => by
    rcases get_set h1 with ⟨rfl, q, _⟩ | ⟨ne, q⟩
    · cases q; exact ⟨p, by rw [List.getElem?_set_self hi], r.rel_eq w1⟩
    · rw [fl_ne ne] at h2
      obtain ⟨u, q1, q2⟩ := E.hd j e q h2
      have hj : j < σ.length := by
        rcases Nat.lt_or_ge j ρ.length with l | l
        · rw [← E.len]; exact l
        · rw [List.getElem?_eq_none l] at q; cases q
      exact ⟨u, by rw [List.getElem?_set_ne (fun z => ne z.symm)]; exact q1, q2.rel_ne w1 (w3 j hj).symm⟩
  new := fun a q1 q2 => by
    by_cases e : ow a = w
    · exact E.new a (by rw [e]; exact w1) (by rw [e]; exact w2)
    · rw [Pv.rel_ne e] at q1 q2; exact E.new a q1 q2
  same := E.same
  tmp := fun q hq => (E.tmp q hq).mono (pubH_rel w1 H)
  bown := fun a h => by rw [Pv.rel_ne (by rw [E.bown a h]; exact w0.symm)]; exact E.bown a h
  b0 := fun p hp => by
    rcases hb with hb | hb
    · rw [List.getElem?_set_ne hb, List.getElem?_set_ne hb]; exact E.b0 p hp
    · rw [hb] at hp; cases hp
def setM : List Nat → List (Bool × D) → Env → Out
  | [], [], ρ => .nx ρ
  | i :: is, m :: ms, ρ => if i < ρ.length then setM is ms (ρ.set i (some m.2)) else .no
  | _, _, _ => .no
def setV : List Nat → List V → St → St
  | i :: is, v :: vs, σ => setV is vs (σ.set i (some v))
  | _, _, σ => σ
def setB : List Nat → List Bool → List Bool → List Bool
  | i :: is, b :: bs, fl => setB is bs (fl.set i b)
  | _, _, fl => fl
theorem setM_ok {K : PySem.W.Frag} {H : Hp} {T : List (D × V)} : ∀ (is : List Nat) (ms : List (Bool × D)) (vs : List V) (fl : List Bool) (ow : Addr → Ow) (σ : St) (ρ ρ' : Env) (k : Nat), (∀ i ∈ is, i ≠ 0 ∨ B.bor = []) → σ.length ≤ 1000 → ERo K B fl ow σ H ρ T → MH K ow H k ms vs → setM is ms ρ = .nx ρ' →
    ∃ ow', ERo K B (setB is (ms.map (·.1)) fl) ow' (setV is vs σ) H ρ' T
  | [], [], [], fl, ow, σ, ρ, ρ', k, _, _, E, _, h => by cases h; exact ⟨ow, E⟩
  | [], [], _ :: _, fl, ow, σ, ρ, ρ', k, _, _, E, m, h => m.elim
  | [], _ :: _, _, fl, ow, σ, ρ, ρ', k, _, _, E, m, h => by cases h
  | i :: is, [], _, fl, ow, σ, ρ, ρ', k, _, _, E, m, h => by cases h
  | i :: is, _ :: ms, [], fl, ow, σ, ρ, ρ', k, _, _, E, m, h => m.elim
  | i :: is, (false, d) :: ms, v :: vs, fl, ow, σ, ρ, ρ', k, hb, hs, E, m, h => by
    unfold setM at h
    split at h
    · rename_i hi
      exact setM_ok is ms vs _ ow _ _ ρ' (k + 1) (fun j hj => hb j (List.mem_cons_of_mem _ hj)) (by rw [List.length_set]; exact hs) (E.set m.1 (by rw [← E.len]; exact hi) (hb i List.mem_cons_self)) m.2 h
    · cases h
  | i :: is, (true, d) :: ms, v :: vs, fl, ow, σ, ρ, ρ', k, hb, hs, E, m, h => by
    unfold setM at h
    split at h
    · rename_i hi
      obtain ⟨⟨p, rfl, o⟩, m⟩ := m
      have hi' : i < σ.length := by rw [← E.len]; exact hi
      have E2 := E.setH (i := i) (w := hid k) (d := d) (p := p) (fun z => nomatch z) (fun z => nomatch z) (fun j hj z => by injection z with z; omega) (fun z => by injection z with z; omega) o hi' (hb i List.mem_cons_self)
      have m2 : MH K (rel ow (hid k) (.slot i)) H (k + 1) ms vs := m.gen (pubH_rel (w := hid k) (fun z => nomatch z) H) fun a j l e => by
        rw [Pv.rel_ne (by rw [e]; intro z; injection z with z; omega)]; exact e
      exact setM_ok is ms vs _ _ _ _ ρ' (k + 1) (fun j hj => hb j (List.mem_cons_of_mem _ hj)) (by rw [List.length_set]; exact hs) E2 m2 h
    · cases h
def parM (is : List Nat) (f : MF) : StF := fun ρ => match f ρ with
  | .ok ms ρ' => if ρ'.length ≤ 1000 then setM is ms ρ' else .no
  | .ex x ρ' => .ex x ρ'
  | .no => .no
theorem setM_nx : ∀ (is : List Nat) (ms : List (Bool × D)) (ρ : Env), (∃ ρ', setM is ms ρ = .nx ρ') ∨ setM is ms ρ = .no
  | [], [], ρ => .inl ⟨ρ, rfl⟩
  | [], _ :: _, _ => .inr rfl
  | _ :: _, [], _ => .inr rfl
  | i :: is, m :: ms, ρ => by
    unfold setM
    split
    · exact setM_nx is ms _
    · exact .inr rfl
theorem evM_out {K : PySem.W.Frag} {is : List Nat} {os : List Bool} {f : MF} {D : Ends} {σ : St} {H : Hp} {ρ : Env} {T : List (Pv.D × V)} (hb : ∀ i ∈ is, i ≠ 0 ∨ B.bor = []) (pat : ∀ ρ ms ρ', f ρ = .ok ms ρ' → ms.map (·.1) = os) (E : ER K B fl σ H ρ T) (q : OutQ K B W (setB is os fl) flL T D (parM is f ρ)) :
    EvM K B W fl 0 f σ H fun vs H' => D.nx (setV is vs σ) H' := by
  refine ⟨ρ, T, E, ?_⟩
  unfold parM at q
  cases e : f ρ with
  | ok ms ρ' =>
    rw [e] at q
    intro vs H' ow E' m
    dsimp only at q
    split at q
    · rename_i hl
      rcases setM_nx is ms ρ' with ⟨ρ2, e2⟩ | e2
      · rw [e2] at q
        obtain ⟨ow', E2⟩ := setM_ok is ms vs fl ow σ ρ' ρ2 0 hb (by rw [← E'.len]; exact hl) E' m e2
        rw [pat _ _ _ e] at E2
        exact q _ _ ⟨ow', E2⟩
      · rw [e2] at q; exact q.elim
    · exact q.elim
  | ex x ρ' => rw [e] at q; exact fun dx H' E' z => q dx σ H' fl E' z
  | no => rw [e] at q; exact q.elim
theorem EvM.mono {K : PySem.W.Frag} {f : MF} {σ : St} {H : Hp} {Q Q' : List V → Hp → Prop} (h : EvM K B W fl k f σ H Q) (m : ∀ vs H', Q vs H' → Q' vs H') : EvM K B W fl k f σ H Q' := by
  obtain ⟨ρ, T, E, q⟩ := h
  refine ⟨ρ, T, E, ?_⟩
  cases e : f ρ with
  | ok ms ρ' => rw [e] at q; exact fun vs H' ow E' mm => m _ _ (q vs H' ow E' mm)
  | ex x ρ' => rw [e] at q; exact q
  | no => rw [e] at q; exact q
theorem MH.length {K : PySem.W.Frag} {ow : Addr → Ow} {H : Hp} : ∀ {k : Nat} {ms : List (Bool × D)} {vs : List V}, MH K ow H k ms vs → vs.length = ms.length
  | _, [], [], _ => rfl
  | _, [], _ :: _, h => h.elim
  | _, _ :: _, [], h => h.elim
  | _, _ :: _, _ :: _, h => congrArg Nat.succ (MH.length h.2)
theorem EvM.len {K : PySem.W.Frag} {os : List Bool} {f : MF} {σ : St} {H : Hp} {Q : List V → Hp → Prop} (pat : ∀ ρ ms ρ', f ρ = .ok ms ρ' → ms.map (·.1) = os) (h : EvM K B W fl k f σ H Q) : EvM K B W fl k f σ H fun vs H' => vs.length = os.length ∧ Q vs H' := by
  obtain ⟨ρ, T, E, q⟩ := h
  refine ⟨ρ, T, E, ?_⟩
  cases e : f ρ with
  | ok ms ρ' =>
    rw [e] at q
    intro vs H' ow E' mm
    refine ⟨?_, q vs H' ow E' mm⟩
    rw [mm.length, ← pat _ _ _ e, List.length_map]
  | ex x ρ' => rw [e] at q; exact q
  | no => rw [e] at q; exact q
theorem psv_parM2 {st : Stmt} {i j : Nat} {es : List Expr} {os : List Bool} {f : MF} (mk : ∀ ta, PA X es ta → PS X st (tPar i j ta)) (ha : PMv X B W fl 0 es os f) (hb : i ≠ 0 ∨ B.bor = []) (hb2 : j ≠ 0 ∨ B.bor = []) (ho : os.length = 2 := by rfl) : PSv X B W flL fl (setB [i, j] os fl) st (parM [i, j] f) :=
  PS.svT (mk _ ha.pa) fun D σ H ρ T E q => by
    refine EvM.mono (EvM.len ha.pat (evM_out (is := [i, j]) (fun k hk => by
      rcases List.mem_cons.mp hk with rfl | hk
      · exact hb
      · rcases List.mem_cons.mp hk with rfl | hk
        · exact hb2
        · cases hk) ha.pat E q)) fun vs H' ⟨hl, h⟩ => ?_
    rw [ho] at hl
    match vs, hl with
    | [v, w], _ => exact ⟨v, w, rfl, h⟩
theorem psv_parM3 {st : Stmt} {i j l : Nat} {es : List Expr} {os : List Bool} {f : MF} (mk : ∀ ta, PA X es ta → PS X st (tPar3 i j l ta)) (ha : PMv X B W fl 0 es os f) (hb : i ≠ 0 ∨ B.bor = []) (hb2 : j ≠ 0 ∨ B.bor = []) (hb3 : l ≠ 0 ∨ B.bor = []) (ho : os.length = 3 := by rfl) : PSv X B W flL fl (setB [i, j, l] os fl) st (parM [i, j, l] f) :=
  PS.svT (mk _ ha.pa) fun D σ H ρ T E q => by
    refine EvM.mono (EvM.len ha.pat (evM_out (is := [i, j, l]) (fun k hk => by
      rcases List.mem_cons.mp hk with rfl | hk
      · exact hb
      · rcases List.mem_cons.mp hk with rfl | hk
        · exact hb2
        · rcases List.mem_cons.mp hk with rfl | hk
          · exact hb3
          · cases hk) ha.pat E q)) fun vs H' ⟨hl, h⟩ => ?_
    rw [ho] at hl
    match vs, hl with
    | [u, v, w], _ => exact ⟨u, v, w, rfl, h⟩
theorem MH.same {K : PySem.W.Frag} {ow : Addr → Ow} {H H' : Hp} (s : Same H H') : ∀ {k : Nat} {ms : List (Bool × D)} {vs : List V}, MH K ow H k ms vs → MH K ow H' k ms vs
  | _, [], [], _ => trivial
  | _, [], _ :: _, h => h.elim
  | _, _ :: _, [], h => h.elim
  | _, (false, d) :: ms, v :: vs, h => ⟨Rep.mono (pubH_same s) h.1, MH.same s h.2⟩
  | _, (true, d) :: ms, v :: vs, ⟨⟨p, e, o⟩, m⟩ => ⟨⟨p, e, o.mono s⟩, MH.same s m⟩
theorem evM_out2 {K : PySem.W.Frag} {is : List Nat} {os : List Bool} {f : MF} {D : Ends} {σ : St} {H : Hp} {ρ : Env} {T : List (Pv.D × V)} (hb : ∀ i ∈ is, i ≠ 0 ∨ B.bor = []) (pat : ∀ ρ ms ρ', f ρ = .ok ms ρ' → ms.map (·.1) = os) (E : ER K B fl σ H ρ T) (q : OutQ K B W (setB is os fl) flL T D (parM is f ρ)) :
    EvM K B W fl 0 f σ H fun vs H' => ∀ H'', Same H' H'' → D.nx (setV is vs σ) H'' := by
  refine ⟨ρ, T, E, ?_⟩
  unfold parM at q
  cases e : f ρ with
  | ok ms ρ' =>
    rw [e] at q
    intro vs H' ow E' m H'' s
    dsimp only at q
    split at q
    · rename_i hl
      rcases setM_nx is ms ρ' with ⟨ρ2, e2⟩ | e2
      · rw [e2] at q
        obtain ⟨ow', E2⟩ := setM_ok is ms vs fl ow σ ρ' ρ2 0 hb (by rw [← E'.len]; exact hl) (E'.mono s) (m.same s) e2
        rw [pat _ _ _ e] at E2
        exact q _ _ ⟨ow', E2⟩
      · rw [e2] at q; exact q.elim
    · exact q.elim
  | ex x ρ' => rw [e] at q; exact fun dx H' E' z => q dx σ H' fl E' z
  | no => rw [e] at q; exact q.elim
theorem psv_tupM2 {tg : Expr} {i j kk : Nat} {es : List Expr} {os : List Bool} {f : MF} (mk : ∀ te, PE X (.Tuple es kk p) te → PS X (.Assign [tg] (.Tuple es kk p) pos) (tAsg te (gTup X.K 2 (gCons (gName i) (gCons (gName j) gNil))))) (ha : PMv X B W fl 0 es os f) (hb : i ≠ 0 ∨ B.bor = []) (hb2 : j ≠ 0 ∨ B.bor = []) (ho : os.length = 2 := by rfl) :
    PSv X B W flL fl (setB [i, j] os fl) (.Assign [tg] (.Tuple es kk p) pos) (parM [i, j] f) :=
  PS.svT (mk _ (pe_tup ha.pa)) fun D σ H ρ T E q => by
    refine EvM.mono (EvM.len ha.pat (evM_out2 (is := [i, j]) (fun k hk => by
      rcases List.mem_cons.mp hk with rfl | hk
      · exact hb
      · rcases List.mem_cons.mp hk with rfl | hk
        · exact hb2
        · cases hk) ha.pat E q)) fun vs H' ⟨hl, h⟩ => ?_
    rw [ho] at hl
    match vs, hl with
    | [v, w], _ => exact ⟨show 2 ≤ sizeLine by decide, fun a hp => ⟨a, [v, w], rfl, .inl (.inl upd_same), rfl, v, [w], rfl, w, [], rfl, rfl, h _ (same_new hp)⟩⟩
theorem psv_tupM3 {tg : Expr} {i j l kk : Nat} {es : List Expr} {os : List Bool} {f : MF} (mk : ∀ te, PE X (.Tuple es kk p) te → PS X (.Assign [tg] (.Tuple es kk p) pos) (tAsg te (gTup X.K 3 (gCons (gName i) (gCons (gName j) (gCons (gName l) gNil)))))) (ha : PMv X B W fl 0 es os f) (hb : i ≠ 0 ∨ B.bor = []) (hb2 : j ≠ 0 ∨ B.bor = []) (hb3 : l ≠ 0 ∨ B.bor = []) (ho : os.length = 3 := by rfl) :
    PSv X B W flL fl (setB [i, j, l] os fl) (.Assign [tg] (.Tuple es kk p) pos) (parM [i, j, l] f) :=
  PS.svT (mk _ (pe_tup ha.pa)) fun D σ H ρ T E q => by
    refine EvM.mono (EvM.len ha.pat (evM_out2 (is := [i, j, l]) (fun k hk => by
      rcases List.mem_cons.mp hk with rfl | hk
      · exact hb
      · rcases List.mem_cons.mp hk with rfl | hk
        · exact hb2
        · rcases List.mem_cons.mp hk with rfl | hk
          · exact hb3
          · cases hk) ha.pat E q)) fun vs H' ⟨hl, h⟩ => ?_
    rw [ho] at hl
    match vs, hl with
    | [u, v, w], _ => exact ⟨show 3 ≤ sizeLine by decide, fun a hp => ⟨a, [u, v, w], rfl, .inl (.inl upd_same), rfl, u, [v, w], rfl, v, [w], rfl, w, [], rfl, rfl, h _ (same_new hp)⟩⟩
end
end Pv

/-! Pv15: a set of a list's items, doubles and all. -/
namespace Pv
open PySem PySem.Spec PyProof.Rows L2
def seen {κ : Type} [DecidableEq κ] (key : Nat → κ) (i : Nat) (k : κ) : Bool := (List.range i).any fun j => decide (key j = k)
def many {κ : Type} [DecidableEq κ] (key : Nat → κ) : Nat → Nat
  | 0 => 0
  | i + 1 => if seen key i (key i) then many key i else many key i + 1
theorem many_le {κ : Type} [DecidableEq κ] (key : Nat → κ) : ∀ i, many key i ≤ i
  | 0 => Nat.le_refl _
  | i + 1 => by
    have := many_le key i
    unfold many
    split <;> omega
theorem seen_succ {κ : Type} [DecidableEq κ] (key : Nat → κ) (i : Nat) (k : κ) : seen key (i + 1) k = (seen key i k || decide (k = key i)) := by
  unfold seen
  rw [List.range_succ, List.any_append]
  simp only [List.any_cons, List.any_nil, Bool.or_false]
  congr 1
  simp only [eq_comm]
abbrev setNew (w : World) : Obj := { cls := .type "set", dict := none, data := .set #[] 0 (.fresh 0 0 (!w.params.followText "set-order")) }
/-- what the loop that fills a new set from a walk of the items leaves at it -/
def Fills (P : Program) (w : World) (items : Array Value) (Φ : Heap → Addr → Prop) : Prop := ∀ (A : Around) (it a : Addr) (fp wr : List Addr) (G : Array GenState → Array GenState → Prop) (St : Nat → Shared → Prop) (R : Result → Shared → Prop) (s : Shared),
  WalksS P w A.in1 it fp wr G items.size (fun i v => items[i]? = some v) St → a ∉ fp → St 0 s → s.heap.get? a = some (setNew w) → (∀ s', Moved (a :: wr) G s s' → Φ s'.heap a → R (.ok (.ret .none)) s') → codeAny (model P w) A (.builtin "set.update.loop" ⟨[.ref a, .ref it], []⟩) R s
section
variable {P : Program} {w : World}
theorem fills_str {items : Array Value} {xs : List Str} (hi : StrsAre items.toList xs) (hb : xs.length + 1 < scanBound) : Fills P w items fun h a => h.SetOf (PySem.strKind P w) a (seen (fun j => xs.getD j Str.empty) xs.length) (many (fun j => xs.getD j Str.empty) xs.length) := by
  intro A it a fp wr G St R s0 W off st0 new fin
  have len : xs.length = items.size := by rw [← StrsAre.len_eq hi, Array.length_toList]
  have at_ : ∀ (i : Nat) (v : Value), items[i]? = some v → ∃ t, v = .str (xs.getD i Str.empty) t := fun i v e => SS.strs_at hi i v (by rw [Array.getElem?_toList]; exact e)
  have offw : a ∉ wr := fun z => off (W.sub _ z)
  have more : ∀ b ∈ wr, b ∈ a :: wr := fun b z => List.mem_cons_of_mem _ z
  have key : ∀ (d i : Nat) (s : Shared), items.size - i = d → i ≤ items.size → St i s → s.heap.SetOf (PySem.strKind P w) a (seen (fun j => xs.getD j Str.empty) i) (many (fun j => xs.getD j Str.empty) i) →
      (∀ s', Moved (a :: wr) G s s' → s'.heap.SetOf (PySem.strKind P w) a (seen (fun j => xs.getD j Str.empty) items.size) (many (fun j => xs.getD j Str.empty) items.size) → R (.ok (.ret .none)) s') → codeAny (model P w) A (.builtin "set.update.loop" ⟨[.ref a, .ref it], []⟩) R s := by
    intro d
    induction d with
    | zero =>
      intro i s hd hle st hS end_
      obtain rfl : i = items.size := by omega
      refine codeAny_builtin PyProof.Rows.F.entry_set_update_loop ?_
      rw [Around.under_plainId PyProof.Rows.F.plain_set_update_loop _]
      show wpAny _ A.in1 (pyNext (.ref it) >>= _) _ _ s
      refine wpAny_bind (W.done s _ _ st fun s1 mv => ?_)
      refine (show wpAny _ A.in1 (ret Value.none) _ _ s1 from wpAny_pure (end_ s1 (mv.mono more) ?_))
      obtain ⟨o, es, ep, t, ho, hrest⟩ := hS
      exact ⟨o, es, ep, t, mv.heap a _ offw ho, hrest⟩
    | succ d ih =>
      intro i s hd hle st hS end_
      have lt : i < items.size := by omega
      refine codeAny_builtin PyProof.Rows.F.entry_set_update_loop ?_
      rw [Around.under_plainId PyProof.Rows.F.plain_set_update_loop _]
      show wpAny _ A.in1 (pyNext (.ref it) >>= _) _ _ s
      refine wpAny_bind (W.item i s _ _ lt st fun v s1 hv st1 mv => ?_)
      obtain ⟨t, rfl⟩ := at_ i v hv
      have hS1 : s1.heap.SetOf (PySem.strKind P w) a (seen (fun j => xs.getD j Str.empty) i) (many (fun j => xs.getD j Str.empty) i) := by
        obtain ⟨o, es, ep, tb, ho, hrest⟩ := hS
        exact ⟨o, es, ep, tb, mv.heap a _ offw ho, hrest⟩
      show wpAny _ A.in1 (holding [Value.str (xs.getD i Str.empty) t] (setAdd a (.str (xs.getD i Str.empty) t)) >>= _) _ _ s1
      refine wpAny_bind (wpAny_holding ?_)
      unfold setAdd
      refine wpAny_holding (wpAny_bind ((PySem.strKind P w).pyHash (k := xs.getD i Str.empty) (strKind_is _ _ _ _) ?_))
      have room : many (fun j => xs.getD j Str.empty) i + 1 < scanBound := by
        have := many_le (fun j => xs.getD j Str.empty) i
        omega
      refine wpAny_setAddHashed_of (knd := PySem.strKind P w) (s := { s1 with toks := s1.toks + 1 }) (strKind_is _ _ _ _) rfl hS1 room fun h2 sb hS2 => ?_
      have hS3 : h2.SetOf (PySem.strKind P w) a (seen (fun j => xs.getD j Str.empty) (i + 1)) (many (fun j => xs.getD j Str.empty) (i + 1)) := SetOf_congr hS2 (fun k => (seen_succ _ i k).symm) rfl
      refine wpAny_pure ⟨plainId_quiet PyProof.Rows.F.plain_set_update_loop _, ih (i + 1) _ (by omega) lt (W.frame _ s1 _ _ st1 (Nat.le_succ _) fun b hb o e => ?_) hS3 fun s3 mv3 hS4 => ?_⟩
      · rw [sb.2 b (fun z : b = a => off (by rw [← z]; exact hb))]; exact e
      · refine end_ s3 (Moved.trans W.gtrans ((mv.mono more).then_heap (Nat.le_succ _) fun b o hb e => ?_) mv3) hS4
        rw [sb.2 b (fun z : b = a => hb (by rw [z]; exact List.mem_cons_self))]; exact e
  refine key _ 0 s0 rfl (Nat.zero_le _) st0 ?_ fun s' mv hS => fin s' mv (by rw [len]; exact hS)
  exact SetOf_congr ((setObjOf_fresh (knd := PySem.strKind P w) (!w.params.followText "set-order")).setOf new (by unfold scanBound; omega)) (fun _ => rfl) rfl
theorem fills_int {items : Array Value} {ns : List Int} (hi : IntsAre items.toList ns) (hb : ns.length + 1 < scanBound) : Fills P w items fun h a => ∃ c, c ≤ ns.length ∧ SetR w h a (fun j => decide (j ∈ ns)) c := by
  intro A it a fp wr G St R s0 W off st0 new fin
  have len : items.size = ns.length := by
    have := IntsAre.length hi
    rw [Array.length_toList] at this
    exact this
  refine set_update_ints W a off ns len hb (fun i v e => ?_) items.size 0 s0 (by omega) (Nat.zero_le _) st0 ⟨0, Nat.zero_le _, setR_new_at new⟩ fun s' c mv hc hS => fin s' mv ⟨c, by omega, hS⟩
  have lt : i < ns.length := by rw [← len]; exact (Array.getElem?_eq_some_iff.mp e).1
  obtain ⟨t, e2⟩ := PyProof.Rows.IntsAre.int_at hi i v (by rw [Array.getElem?_toList]; exact e)
  exact ⟨ns[i], t, List.getElem?_eq_getElem lt, by rw [e2, List.getD_eq_getElem?_getD, List.getElem?_eq_getElem lt] <;> rfl⟩
end
section
variable {P : Program} {w : World} {A : Around} {E : Value → Shared → Prop} {s : Shared}
set_option maxHeartbeats 3200000 in
/-- set(l), l a list -/
theorem set_of_list {l : Addr} {items : Array Value} {Φ : Heap → Addr → Prop} {Q : Value → Shared → Prop} (calm : A.handled = none) (hl : s.heap.IsList l items) (fill : Fills P w items Φ)
    (q : ∀ (h : Heap) (tk : Nat), Φ h s.heap.objs.size → (∀ b o, s.heap.get? b = some o → h.get? b = some o) → Q (.ref s.heap.objs.size) { s with heap := h, toks := tk }) : wpAny (model P w) A (call (.type "set") [.ref l]) Q E s := by
  obtain ⟨cc, tt, mro⟩ := PySem.F.called_set.mro
  have made := PySem.F.called_set.made
  have subs := PySem.F.called_set.sub
  refine wpAny_call (codeAny_of_tree (show wpAny _ _ (callAny (.type "set") _) _ _ _ from ?_))
  refine wpAny_pure ⟨Code.quiet_builtin _ (by decide +kernel), codeAny_builtin PySem.F.entry_type_call ?_⟩
  rw [Around.under_plain (weight_type_call_type "set" [.ref l] []) rfl]
  have f1 := PySem.F.called_set.notType
  have f2 := PySem.F.called_set.canCreate
  have f3 := PySem.F.typeCall_set_1 (.ref l)
  repeat (any_goals (first | assumption | wp_step))
  refine codeAny_mono (code_set_led1 (.ref l) (E := E) (Q₁ := fun v s1 => v = .ref s.heap.objs.size ∧ s1 = { s with heap := s.heap.push (setNew w) }) ⟨rfl, rfl⟩) fun r s1 hr => ?_
  cases r with
  | error e => exact hr
  | ok fl =>
    cases fl with
    | ret v =>
      obtain ⟨rfl, rfl⟩ := hr
      have at0 : (s.heap.push (setNew w)).get? s.heap.objs.size = some (setNew w) := Heap.get?_push_size _ rfl
      have ty0 : Shared.TypeIs { s with heap := s.heap.push (setNew w) } (.ref s.heap.objs.size) "set" := ⟨_, at0, rfl⟩
      have g1 := PySem.F.called_set.init.lookup
      have g2 := PySem.F.called_set.init.bind (.ref s.heap.objs.size)
      repeat (any_goals (first | assumption | wp_step))
      refine codeAny_mono (codeAny_call_builtin (R := wants (fun r s2 => r = .none ∧ ∃ h tk, s2 = { s with heap := h, toks := tk } ∧ Φ h s.heap.objs.size ∧ (∀ b o, s.heap.get? b = some o → h.get? b = some o)) E) PySem.F.called_set.init.plain PySem.F.entry_set_init (check_set_init_1 ty0 ?_)) fun r2 s2 hr2 => ?_
      · obtain ⟨ol, hol, hcl, nl, hdl⟩ := hl
        obtain ⟨ocls, odict, odata, oslots⟩ := ol
        simp only at hcl hdl
        subst hcl; subst hdl
        have at1 : (s.heap.push (setNew w)).get? l = some { cls := .type "list", dict := odict, data := .seq items nl, slots := oslots } := Heap.get?_push_of_some _ hol
        have k1 := PySem.F.sub_list_set
        have k2 := PySem.F.sub_list_frozenset
        have k3 : (Value.type "list" == Value.type "dict") = false := by decide
        have isl : (s.heap.push (setNew w)).IsList l items := ⟨_, at1, rfl, nl, rfl⟩
        unfold Builtin.«set.__init__» noKeywords Builtin.Frozenset.updateFrom
        generalize hIt : pyIter = it
        wp_walk
        subst hIt
        refine wpAny_pyIter_list isl (wpAny_bind (wpAny_runValue ?_))
        have lt : l < s.heap.objs.size := Heap.lt_size hol
        have calm3 : A.in1.in1.in1.handled = none := by simp [calm]
        have ne1 : l ≠ (s.heap.push (setNew w)).objs.size := by
          rw [Heap.size_push]; exact fun z => absurd lt (by rw [z]; exact fun q => Nat.not_succ_le_self _ (Nat.le_of_lt q))
        have off : s.heap.objs.size ∉ [(s.heap.push (setNew w)).objs.size, l] := by
          rw [Heap.size_push]
          intro z
          rcases List.mem_cons.mp z with z | z
          · exact Nat.lt_irrefl _ (Nat.lt_of_lt_of_eq (Nat.lt_succ_self _) z.symm)
          · exact Nat.ne_of_gt lt (List.mem_singleton.mp z)
        refine fill _ _ s.heap.objs.size _ _ _ _ _ _ ((Walks.list calm3 _ l ne1 items).toS) off ⟨⟨_, Heap.get?_push_size _ rfl, rfl, rfl⟩, (isl.push _)⟩ (Heap.get?_push_of_some _ at0) fun s' mv hΦ => ?_
        obtain ⟨h', g', d', tk', os'⟩ := s'
        obtain rfl : g' = s.gens := mv.gens
        obtain rfl : d' = s.drawn := mv.drawn
        obtain rfl : os' = s.os := mv.os
        refine (show wpAny _ _ _ _ _ _ from wpAny_pure ?_)
        refine (show wpAny _ _ (ret Value.none) _ _ _ from wpAny_pure ⟨rfl, h', tk', rfl, hΦ, fun b o e => ?_⟩)
        have lb : b < s.heap.objs.size := Heap.lt_size e
        refine mv.heap b o (fun z => ?_) (Heap.get?_push_of_some _ (Heap.get?_push_of_some _ e))
        rcases List.mem_cons.mp z with z | z
        · exact Nat.ne_of_lt lb z
        · have z := List.mem_singleton.mp z
          rw [z, Heap.size_push] at lb
          exact Nat.not_succ_le_self _ (Nat.le_of_lt lb)
      · cases r2 with
        | error e => exact hr2
        | ok fl2 =>
          cases fl2 with
          | ret r =>
            obtain ⟨rfl, h', tk, rfl, hΦ, keep⟩ := hr2
            repeat (any_goals (first | assumption | wp_step))
            exact q _ _ hΦ keep
          | _ => exact hr2.elim
    | _ => exact hr.elim
end

/-! ### a list without its doubles -/
def ddup {α : Type} [DecidableEq α] : List α → List α
  | [] => []
  | x :: xs => if x ∈ xs then ddup xs else x :: ddup xs
theorem ddup_mem {α : Type} [DecidableEq α] {y : α} : ∀ {xs : List α}, y ∈ ddup xs ↔ y ∈ xs
  | [] => Iff.rfl
  | x :: xs => by
    unfold ddup
    split
    · rename_i h
      rw [ddup_mem (xs := xs)]
      constructor
      · exact fun z => List.mem_cons_of_mem _ z
      · intro z
        rcases List.mem_cons.mp z with rfl | z
        · exact h
        · exact z
    · rw [List.mem_cons, List.mem_cons, ddup_mem (xs := xs)]
theorem ddup_nodup {α : Type} [DecidableEq α] : ∀ xs : List α, (ddup xs).Nodup
  | [] => List.nodup_nil
  | x :: xs => by
    unfold ddup
    split
    · exact ddup_nodup xs
    · rename_i h
      exact List.nodup_cons.mpr ⟨fun z => h (ddup_mem.mp z), ddup_nodup xs⟩
theorem ddup_len {α : Type} [DecidableEq α] {xs ys : List α} (nd : ys.Nodup) (m : ∀ y, y ∈ ys ↔ y ∈ xs) : ys.length = (ddup xs).length :=
  ((List.perm_ext_iff_of_nodup nd (ddup_nodup xs)).mpr fun y => (m y).trans ddup_mem.symm).length_eq
theorem ddup_le {α : Type} [DecidableEq α] : ∀ xs : List α, (ddup xs).length ≤ xs.length
  | [] => Nat.le_refl _
  | x :: xs => by
    have := ddup_le xs
    unfold ddup
    split
    · exact Nat.le_succ_of_le this
    · exact Nat.succ_le_succ this
theorem many_ddup {κ : Type} [DecidableEq κ] (key : Nat → κ) (n : Nat) : many key n = (ddup ((List.range n).map key)).length := by
  have h : ∀ n, ∃ ys : List κ, ys.Nodup ∧ (∀ y, y ∈ ys ↔ y ∈ (List.range n).map key) ∧ ys.length = many key n := by
    intro n
    induction n with
    | zero => exact ⟨[], List.nodup_nil, fun y => Iff.rfl, rfl⟩
    | succ n ih =>
      obtain ⟨ys, nd, m, l⟩ := ih
      have hs : seen key n (key n) = true ↔ key n ∈ ys := by
        rw [m]
        unfold seen
        rw [List.any_eq_true, List.mem_map]
        simp only [decide_eq_true_eq]
      unfold many
      split
      · rename_i h
        refine ⟨ys, nd, fun y => ?_, l⟩
        rw [m, List.range_succ, List.map_append, List.mem_append]
        constructor
        · exact .inl
        · rintro (z | z)
          · exact z
          · have e : y = key n := by simpa using z
            rw [e]
            exact (m _).mp (hs.mp h)
      · rename_i h
        refine ⟨key n :: ys, List.nodup_cons.mpr ⟨fun z => h (hs.mpr z), nd⟩, fun y => ?_, by rw [List.length_cons, l]⟩
        rw [List.range_succ, List.map_append, List.mem_append, List.mem_cons, m, or_comm]
        simp
  obtain ⟨ys, nd, m, l⟩ := h n
  rw [← l]
  exact ddup_len nd m
theorem getD_map {α : Type} (xs : List α) (z : α) : (List.range xs.length).map (fun j => xs.getD j z) = xs := by
  apply List.ext_getElem?
  intro i
  rw [List.getElem?_map]
  by_cases h : i < xs.length
  · rw [List.getElem?_range h, List.getElem?_eq_getElem h]
    simp [List.getD_eq_getElem?_getD, List.getElem?_eq_getElem h]
  · rw [List.getElem?_eq_none (by simpa using h), List.getElem?_eq_none (by omega)]
    rfl
theorem setR_card {w : World} {h : Heap} {a : Addr} {ns : List Int} {n : Nat} (R : SetR w h a (fun j => decide (j ∈ ns)) n) : n = (ddup ns).length := by
  obtain ⟨o, es, ep, t, _, _, _, _, nd, m, _, _, hn, _⟩ := R
  rw [← hn]
  have := ddup_len nd (xs := ns) fun k => by rw [← m k]; exact decide_eq_true_iff
  rw [List.length_map, Array.length_toList] at this
  exact this
/-- the set of texts at a -/
def SetOS (P : Program) (w : World) (a : Addr) (S : Str → Bool) (n : Nat) : HO := .ext fun h => h.SetOf (PySem.strKind P w) a S n
section
variable {X : Cx}
theorem setOS_new {P : Program} {w : World} {Q : Program} {H : Hp} {h : Heap} {a : Addr} {S : Str → Bool} {n : Nat} (R : h.SetOf (PySem.strKind P w) a S n) : ObjOk Q w H h a (SetOS P w a S n) := by
  have ⟨o, _, _, _, ho, _⟩ := R
  refine ⟨R, ⟨o, ho⟩, fun h1 h2 p k => ?_⟩
  obtain ⟨o, es, ep, t, ho, hr⟩ := p
  exact ⟨o, es, ep, t, k _ ho, hr⟩
def rSetL (K : PySem.W.Frag) (P : Program) (w : World) : List V → Hp → VK → Prop := fun xs H Q => ∃ l : Addr, xs = [V.ref l] ∧
  ((∃ ns : List Int, SqL K H l (ns.map V.int) ∧ ns.length + 1 < scanBound ∧ ∀ p, H p = none → Q (.ref p) (upd H p (SetO w p (fun j => decide (j ∈ ns)) (ddup ns).length))) ∨
   ∃ ss : List Str, SqL K H l (ss.map V.str) ∧ ss.length + 1 < scanBound ∧ ∀ p S, H p = none → Q (.ref p) (upd H p (SetOS P w p S (ddup ss).length)))
theorem strsAre_vals : ∀ {ys : List Str} {us : List Value}, Vals (ys.map V.str) us → StrsAre us ys
  | [], _, .nil => .nil
  | y :: ys, _, .cons ⟨k, e⟩ t => by
    subst e
    exact .cons y k (strsAre_vals t)
theorem intsAre_vals : ∀ {ys : List Int} {us : List Value}, Vals (ys.map V.int) us → IntsAre us ys
  | [], _, .nil => .nil
  | y :: ys, _, .cons ⟨k, e⟩ t => by
    subst e
    exact .cons y k (intsAre_vals t)
theorem cr_setL (hc : X.calm = true) : CallR X (.type "set") (rSetL X.K X.prog X.w) := by
  intro pins s σ H xs us Q I r h
  obtain ⟨l, rfl, h⟩ := h
  rw [Vals.ref1 r]
  rcases h with ⟨ns, hl, hb, q⟩ | ⟨ss, hl, hb, q⟩
  · obtain ⟨its, rv, pl, _⟩ := I.list hl
    refine set_of_list (I.ok.hd hc) pl.isList (fills_int (ns := ns) (by simpa using intsAre_vals rv) hb) fun h' tk ⟨c, _, hS⟩ keep => ?_
    obtain rfl := setR_card hS
    exact ⟨.ref _, _, I.laid (t' := tk) (fun b u e => keep b u e) (Nat.le_refl _) (setO_new hS), rfl, q _ (I.hok.fresh (Nat.le_refl _))⟩
  · obtain ⟨its, rv, pl, _⟩ := I.list hl
    refine set_of_list (I.ok.hd hc) pl.isList (fills_str (xs := ss) (by simpa using strsAre_vals rv) hb) fun h' tk hS keep => ?_
    rw [many_ddup, getD_map] at hS
    exact ⟨.ref _, _, I.laid (t' := tk) (fun b u e => keep b u e) (Nat.le_refl _) (setOS_new hS), rfl, q _ _ (I.hok.fresh (Nat.le_refl _))⟩
def rLenSet (P : Program) (w : World) : List V → Hp → VK → Prop := fun xs H Q => ∃ (a : Addr) (n : Nat), xs = [V.ref a] ∧ n < scanBound ∧ ((∃ S, H a = some (SetO w a S n)) ∨ ∃ S, H a = some (SetOS P w a S n)) ∧ Q (.int (n : Int)) H
theorem cr_lenSet : CallR X (.builtin "len") (rLenSet X.prog X.w) := by
  intro pins s σ H xs us Q I r h
  obtain ⟨a, n, rfl, hb, h, q⟩ := h
  rw [Vals.ref1 r]
  have big : (scanBound : Int) < 2 ^ 63 := by unfold scanBound; decide
  rcases h with ⟨S, h⟩ | ⟨S, h⟩
  · obtain ⟨o, es, ep, t, ho, ex, hd, _, _, _, _, hf, hn, _⟩ := setO_get I h
    exact call_len_set ho ex hd hf (by rw [hn]; omega) ⟨.int (n : Int), H, I.tok _, ⟨_, by rw [hn]⟩, q⟩
  · obtain ⟨o, es, ep, t, ho, ex, hd, _, _, _, hf, hn⟩ := (I.hok a _ h).1
    exact call_len_set ho ex hd hf (by rw [hn]; omega) ⟨.int (n : Int), H, I.tok _, ⟨_, by rw [hn]⟩, q⟩
end
/-! ### as operations on values -/
def lenSetD : D → Option D
  | .lst xs => if xs.length ≤ 1000 then match asInts xs with
    | some ns => some (.int ((ddup ns).length : Nat))
    | none => match asStrs xs with
      | some ss => some (.int ((ddup ss).length : Nat))
      | none => none
    else none
  | _ => none
def sortSetD : D → Option D
  | .lst xs => match asInts xs with
    | some ns => if ns.length < 64 then some (.lst ((msort (ddup ns)).map D.int)) else none
    | none => none
  | _ => none
theorem ddup_map {α β : Type} [DecidableEq α] [DecidableEq β] {f : α → β} (hf : ∀ a b, f a = f b → a = b) : ∀ xs : List α, ddup (xs.map f) = (ddup xs).map f
  | [] => rfl
  | x :: xs => by
    rw [List.map_cons]
    unfold ddup
    have : f x ∈ xs.map f ↔ x ∈ xs := ⟨fun z => by
      obtain ⟨y, hy, e⟩ := List.mem_map.mp z
      rw [← hf _ _ e]; exact hy, fun z => List.mem_map.mpr ⟨x, z, rfl⟩⟩
    by_cases e : x ∈ xs
    · rw [if_pos e, if_pos (this.mpr e), ddup_map hf xs]
    · rw [if_neg e, if_neg fun z => e (this.mp z), List.map_cons, ddup_map hf xs]
section
variable {X : Cx} {B : Bd} {W : WX} {fl : List Bool} {pos p p2 q : Pos} {a : Expr} {o : Opd}
theorem o_lenSet {K : PySem.W.Frag} {P : Program} {w : World} : Op1 K (fun x H Q => rSetL K P w [x] H fun y H' => rLenSet P w [y] H' Q) lenSetD := by
  intro N H x v z Q hN bx e q
  cases x with
  | lst xs =>
    unfold lenSetD at e
    dsimp only at e
    split at e
    · rename_i hl
      obtain ⟨l, vs, rfl, h1, h2⟩ := bx.lstE hide_sub
      have sb : (1000 : Nat) + 1 < scanBound := by unfold scanBound; omega
      split at e
      · rename_i ns e1
        cases e
        have e2 := asInts_eq e1
        subst e2
        rw [h2.intsV] at h1
        rw [List.length_map] at hl
        refine ⟨l, rfl, .inl ⟨ns, .inl (.inl h1), by omega, fun p hp => ⟨p, _, rfl, ?_, .inl ⟨_, upd_same⟩, q _ _ (same_new hp) (.int _)⟩⟩⟩
        have := ddup_le ns
        omega
      · split at e
        · rename_i ss e1
          cases e
          have e2 := asStrs_eq e1
          subst e2
          rw [h2.strsV, show (ss.map fun x => V.str ⟨x.toArray⟩) = (ss.map fun x : List Nat => (⟨x.toArray⟩ : Str)).map V.str by rw [List.map_map]; rfl] at h1
          rw [List.length_map] at hl
          refine ⟨l, rfl, .inr ⟨_, .inl (.inl h1), by rw [List.length_map]; omega, fun p S hp => ⟨p, _, rfl, ?_, .inr ⟨_, upd_same⟩, ?_⟩⟩⟩
          · rw [ddup_map fun a b e => str_inj e, List.length_map]
            have := ddup_le ss
            omega
          · rw [ddup_map fun a b e => str_inj e, List.length_map]
            exact q _ _ (same_new hp) (.int _)
        · cases e
    · cases e
  | _ => cases e
theorem pv_lenSet (hg : Gl X "len") (hm : X.mg "len" = none) (hg2 : Gl X "set") (hm2 : X.mg "set" = none) (ha : POp X B W fl a o) (hc : X.calm = true := by rfl)
    (he : starEach [a] X.env = (false, eval a X.env) :: starEach [] X.env := by rfl) (he2 : starEach [.Call (.Name "set" p2) [a] [] q] X.env = (false, eval (.Call (.Name "set" p2) [a] [] q) X.env) :: starEach [] X.env := by rfl) :
    PV X B W fl (.Call (.Name "len" p) [.Call (.Name "set" p2) [a] [] q] [] pos) (un1 o lenSetD) :=
  pv_op1 (pe_callB cr_lenSet hg hm bt_len (pa_cons (pe_callTy (cr_setL hc) hg2 hm2 bt_set (pa_cons ha.pe pa_nil he) (he := he)) pa_nil he2) (he := he2)) (o_lenSet (P := X.prog) (w := X.w))
theorem o_sortSetF {K : PySem.W.Frag} {P : Program} {w : World} : Op1F K (fun x H Q => rSetL K P w [x] H fun y H' => rSortedSet w [y] H' Q) sortSetD := by
  intro N H x v z Q hN bx e q
  cases x with
  | lst xs =>
    unfold sortSetD at e
    dsimp only at e
    split at e
    · rename_i ns e1
      split at e
      · rename_i hl
        cases e
        have e2 := asInts_eq e1
        subst e2
        obtain ⟨l, vs, rfl, h1, h2⟩ := bx.lstE hide_sub
        rw [h2.intsV] at h1
        have sb : 64 + 1 < scanBound := by unfold scanBound; omega
        have dl := ddup_le ns
        refine ⟨l, rfl, .inl ⟨ns, .inl (.inl h1), by omega, fun p hp => ⟨p, _, _, rfl, upd_same, by omega, fun ms r hs hm hlen hr => ?_⟩⟩⟩
        have hrp : H r = none := by
          by_cases er : r = p
          · rw [er]; exact hp
          · rw [upd_ne er] at hr; exact hr
        have nd : ms.Nodup := hs.imp fun h => Int.ne_of_lt h
        have eq : ms = msort (ddup ns) := msort_eq ((List.perm_ext_iff_of_nodup nd (ddup_nodup ns)).mpr fun k => (hm k).trans (decide_eq_true_iff.trans ddup_mem.symm)) (hs.imp fun h => Int.le_of_lt h)
        subst eq
        have sm : Same H (upd (upd H p (SetO w p (fun j => decide (j ∈ ns)) (ddup ns).length)) r (.lst ((msort (ddup ns)).map V.int))) := Same.trans (same_new hp) (same_new hr)
        exact q r _ hrp sm ⟨_, upd_same, Reps.ints _⟩
      · cases e
    · cases e
  | _ => cases e
theorem pf_sortSet (hg : Gl X "sorted") (hm : X.mg "sorted" = none) (hg2 : Gl X "set") (hm2 : X.mg "set" = none) (ha : POp X B W fl a o) (hc : X.calm = true := by rfl)
    (he : starEach [a] X.env = (false, eval a X.env) :: starEach [] X.env := by rfl) (he2 : starEach [.Call (.Name "set" p2) [a] [] q] X.env = (false, eval (.Call (.Name "set" p2) [a] [] q) X.env) :: starEach [] X.env := by rfl) :
    PF X B W fl (.Call (.Name "sorted" p) [.Call (.Name "set" p2) [a] [] q] [] pos) (un1 o sortSetD) :=
  pf_op1 (pe_callB (cr_sortedSet hc) hg hm bt_sorted (pa_cons (pe_callTy (cr_setL hc) hg2 hm2 bt_set (pa_cons ha.pe pa_nil he) (he := he)) pa_nil he2) (he := he2)) (o_sortSetF (P := X.prog) (w := X.w))
end
end Pv

/-! Pv16: slices with a step, list(range), two for in a comprehension. -/
noncomputable section
namespace Pv
open PySem PySem.Spec L2
open PyProof.Rows hiding St
theorem fm_congr {α β : Type} {f g : α → Option β} : ∀ {l : List α}, (∀ x ∈ l, f x = g x) → l.filterMap f = l.filterMap g
  | [], _ => rfl
  | x :: l, h => by
    rw [List.filterMap_cons, List.filterMap_cons, h x List.mem_cons_self, fm_congr fun y hy => h y (List.mem_cons_of_mem _ hy)]
/-! ### a text's slice with a step -/
def stepIx (lo : Option Int) (k : Int) (n : Nat) : List Nat := Builtin.Str.strSliceIndices lo none k n
def stepL (lo : Option Int) (k : Int) (xs : List Nat) : List Nat := (stepIx lo k xs.length).filterMap fun i => xs[i]?
def stepD (lo st : Option Int) : D → Option D
  | .str xs => match st with
    | some k => if cdec (k ≠ 0 ∧ xs.length ≤ lim ∧ (stepL lo k xs).length ≤ lim) = true then some (.str (stepL lo k xs)) else none
    | none => none
  | _ => none
def rStep : V → Option Int → Option Int → Hp → VK → Prop := fun x lo st H Q => ∃ (z : Str) (k : Int), x = .str z ∧ st = some k ∧ k ≠ 0 ∧ z.length ≤ sizeLine ∧ ((stepIx lo k z.length).filterMap (z.cps[·]?)).length ≤ sizeLine ∧ Q (.str ⟨((stepIx lo k z.length).filterMap (z.cps[·]?)).toArray⟩) H
theorem step_all {z : Str} {lo : Option Int} (h : (stepIx lo 1 z.length).length = z.length) : (stepIx lo 1 z.length).filterMap (z.cps[·]?) = z.cps.toList := by
  have e : ∃ a : Int, 0 ≤ a ∧ a ≤ z.length ∧ stepIx lo 1 z.length = sliceRange a z.length 1 := by
    unfold stepIx Builtin.Str.strSliceIndices
    cases lo with
    | none => exact ⟨0, by omega, by omega, rfl⟩
    | some i =>
      refine ⟨max 0 (min (if i < 0 then i + z.length else i) z.length), by omega, by omega, ?_⟩
      rfl
  obtain ⟨a, h0, h1, e⟩ := e
  obtain ⟨n, rfl⟩ := Int.eq_ofNat_of_zero_le h0
  have h1 : n ≤ z.length := by omega
  rw [e, sliceRange_one] at h ⊢
  rw [List.length_map, List.length_range] at h
  have hz : z.length = z.cps.toList.length := by rw [Array.length_toList]; rfl
  have : n = 0 ∨ z.length = 0 := by omega
  have hn : (List.range (z.length - n)).map (n + ·) = List.range z.length := by
    rcases this with rfl | h0
    · simp
    · rw [h0]; simp
  rw [hn, hz]
  apply List.ext_getElem?
  intro i
  have : (List.range z.cps.toList.length).filterMap (fun j => z.cps[j]?) = z.cps.toList := by
    have e : (List.range z.cps.toList.length).filterMap (fun j => z.cps[j]?) = (List.range z.cps.toList.length).map fun j => z.cps.toList.getD j 0 := by
      rw [← List.filterMap_eq_map]
      apply fm_congr
      intro j hj
      have hj : j < z.cps.toList.length := List.mem_range.mp hj
      rw [← Array.getElem?_toList, List.getElem?_eq_getElem hj]
      rw [Function.comp_apply, List.getD_eq_getElem?_getD, List.getElem?_eq_getElem hj]; rfl
    rw [e, getD_map]
  rw [this]
section
variable {X : Cx} {te : TE} {tl ts : TO} {e : Expr} {lo : Option Expr} {st : Expr} {p2 pos : Pos}
theorem pe_stepS (he : PE X e te) (hl : PO X lo tl) (hs : PO X (some st) ts) : PE X (.Subscript e (.Slice lo none (some st) p2) pos) (tSl rStep te tl ts) := by
  refine ⟨fun pins s σ H Q I h => ?_⟩
  refine Subscript_ (thn (he.run pins s σ H _ I h) fun v s1 ⟨x, H1, I1, r1, q1⟩ => ?_)
  refine wpAny_Slice (thn (hl.run pins s1 σ H1 _ I1 q1) fun vl s2 ⟨l, H2, I2, pl, q2⟩ => ?_)
  refine thn (po_none.run pins s2 σ H2 (fun o H3 => o = none ∧ H3 = H2) I2 ⟨rfl, rfl⟩) fun vu s3 ⟨u, H3, I3, pu, eu, e3⟩ => ?_
  subst eu e3
  refine thn (hs.run pins s3 σ H3 _ I3 q2) fun vk s4 ⟨k, H4, I4, pk, q4⟩ => ?_
  obtain ⟨z, i, rfl, rfl, hk, hz, hz2, q⟩ := q4
  obtain ⟨t, rfl⟩ := r1
  obtain ⟨l1, rfl, rfl⟩ := IsPart.raw pl
  obtain ⟨u1, rfl, eu⟩ := IsPart.raw pu
  obtain ⟨k1, rfl, ek⟩ := IsPart.raw pk
  have I5 : Inv X pins σ H4 { s4 with heap := s4.heap.push { cls := .type "slice", data := .fields #[partValue l1, partValue u1, partValue k1] } } := I4.kept (t' := s4.toks) fun b ob q => Heap.get?_push_of_some _ q
  show wpAny (model X.prog X.w) X.A (subscriptTail e (.Slice lo none (some st) p2) (.str z t) (.ref s4.heap.objs.size)) (EP X pins σ Q) X.xe { s4 with heap := s4.heap.push { cls := .type "slice", data := .fields #[partValue l1, partValue u1, partValue k1] } }
  refine tail_any (ops := [.str z t, .ref s4.heap.objs.size]) (typeIs_str _ _ _) F.slot_str_getitem.lookup ?_ (by with_unfolding_all rfl)
  have k0 : ((k1.map (·.1)).getD 1 == 0) = false := by rw [ek]; simpa using hk
  refine wpAny_getItem_str_slice (l := l1) (u := u1) (st := k1) ⟨_, Heap.get?_push_size _ rfl, rfl, rfl⟩ k0 ?_
  have pick : slicePicked z l1 u1 k1 = stepIx (l1.map (·.1)) i z.length := by
    unfold slicePicked stepIx
    rw [eu, ek]; rfl
  unfold sliceMade
  rw [pick]
  by_cases c : ((k1.map (·.1)).getD 1 == 1 && (stepIx (l1.map (·.1)) i z.length).length == z.length) = true
  · rw [if_pos c]
    rw [ek] at c
    have c1 : i = 1 ∧ (stepIx (l1.map (·.1)) i z.length).length = z.length := by simpa using c
    obtain ⟨rfl, c2⟩ := c1
    rw [step_all c2] at q
    exact ⟨.str z, H4, I5, ⟨t, rfl⟩, q⟩
  · rw [if_neg c]
    exact ⟨hz2, .str _, H4, I5.tok _, ⟨_, rfl⟩, q⟩
end
theorem o_step {K : PySem.W.Frag} {lo st : Option Int} : Op1 K (fun x H Q => rStep x lo st H Q) (stepD lo st) := by
  intro N H x v z Q hN bx e q
  cases x with
  | str xs =>
    cases st with
    | none => cases e
    | some k =>
      unfold stepD at e
      dsimp only at e
      split at e
      · rename_i c
        cases e
        obtain ⟨c1, c2, c3⟩ := cdec_of c
        rw [bx.strE]
        have e1 : (⟨xs.toArray⟩ : Str).length = xs.length := rfl
        have e2 : (stepIx lo k (⟨xs.toArray⟩ : Str).length).filterMap ((⟨xs.toArray⟩ : Str).cps[·]?) = stepL lo k xs := by
          unfold stepL
          rw [e1]
          apply fm_congr
          intro i _
          rw [← Array.getElem?_toList]
        refine ⟨⟨xs.toArray⟩, k, rfl, rfl, c1, by rw [e1]; exact lim_line c2, ?_, ?_⟩
        · rw [e2]; exact lim_line c3
        · rw [e2]; exact q _ H (Same.refl H) (.str _)
      · cases e
  | _ => cases e
def slG (g : Option Int → Option Int → D → Option D) (f : ValF) (lo hi : Option ValF) : ValF := fun ρ => (f ρ).bind fun x ρ1 => partF lo (fun l ρ2 => partF hi (fun u ρ3 => ofO (g l u x) ρ3) ρ2) ρ1
section
variable {X : Cx} {B : Bd} {W : WX} {fl : List Bool} {pos p p2 q : Pos}
theorem pv_slG {r : V → Option Int → Option Int → Hp → VK → Prop} {g : Option Int → Option Int → D → Option D} (og : ∀ lo hi, Op1 X.K (fun x H Q => r x lo hi H Q) (g lo hi)) {e : Expr} {f : ValF} {l u : Option ValF}
    (pe : PE X e (tSl r (EvT X.K B W fl f) (EvP X.K B W fl l) (EvP X.K B W fl u))) : PV X B W fl e (slG g f l u) :=
  ⟨PE.weaken pe fun σ H Q ⟨ρ, T, E, q⟩ => by
    obtain ⟨hn, hx, hk⟩ := evT_no q
    refine ⟨ρ, T, E, ?_⟩
    unfold slG at hn hx hk
    cases e1 : f ρ with
    | ok x ρ1 =>
      rw [e1] at hn hx hk
      intro v H1 E1
      have hn : partF l (fun l ρ2 => partF u (fun u ρ3 => ofO (g l u x) ρ3) ρ2) ρ1 ≠ .no := hn
      have hx : ∀ y ρ', partF l (fun l ρ2 => partF u (fun u ρ3 => ofO (g l u x) ρ3) ρ2) ρ1 = .ex y ρ' → ∀ dx H', ER X.K B fl σ H' ρ' T → XOk y H' dx → W (.ref y.cls) dx σ H' := hx
      refine evP_mk E1 hn (fun x ρ' h dx H' E' => hx x ρ' h dx H' (E'.sub fun p hp => List.mem_cons_of_mem _ hp)) fun o ρ2 H2 h2 E2 => ?_
      have h2' : partF l (fun l ρ2 => partF u (fun u ρ3 => ofO (g l u x) ρ3) ρ2) ρ1 = partF u (fun u ρ3 => ofO (g o u x) ρ3) ρ2 := h2
      have hn2 : partF u (fun u ρ3 => ofO (g o u x) ρ3) ρ2 ≠ .no := fun z => hn (h2'.trans z)
      refine evP_mk E2 hn2 (fun x ρ' h dx H' E' => hx x ρ' (h2'.trans h) dx H' (E'.sub fun p hp => List.mem_cons_of_mem _ hp)) fun o2 ρ3 H3 h3 E3 => ?_
      have h3' : partF u (fun u ρ3 => ofO (g o u x) ρ3) ρ2 = ofO (g o o2 x) ρ3 := h3
      obtain ⟨z, hz⟩ := ofO_ne (fun z => hn2 (h3'.trans z))
      obtain ⟨ow, E3⟩ := E3
      refine og o o2 (fun a => ow a ≠ .pub) H3 x v z Q E3.live (.val E3.top) hz fun w H4 s r => ?_
      exact hk z ρ3 (h2'.trans (h3'.trans (by rw [hz]; rfl))) w H4 ⟨ow, (E3.drop.mono s).push r⟩
    | ex x ρ1 => rw [e1] at hx; exact hx x ρ1 rfl
    | no => rw [e1] at hn; exact hn rfl⟩
theorem pv_step {e : Expr} {lo : Option Expr} {st : Expr} {f : ValF} {l u : Option ValF} (he : PV X B W fl e f) (hl : PPv X B W fl lo l) (hs : PPv X B W fl (some st) u) : PV X B W fl (.Subscript e (.Slice lo none (some st) p2) pos) (slG stepD f l u) :=
  pv_slG (fun _ _ => o_step) (pe_stepS he.pe hl.po hs.po)
/-! ### xs[::-1], a list -/
def revL : D → Option D
  | .lst xs => some (.lst xs.reverse)
  | _ => none
theorem o_revLF {K : PySem.W.Frag} : Op1F K (fun x H Q => ∃ a xs, x = .ref a ∧ SqL K H a xs ∧ ∀ p, H p = none → Q (.ref p) (upd H p (.lst xs.reverse))) revL := by
  intro N H x v z Q hN bx e q
  cases x with
  | lst xs =>
    cases e
    obtain ⟨l, vs, rfl, h1, h2⟩ := bx.lstE hide_sub
    exact ⟨l, vs, rfl, .inl (.inl h1), fun p hp => q p _ hp (same_new hp) ⟨_, upd_same, h2.reverse.mono (fresh_sub hp)⟩⟩
  | _ => cases e
theorem pf_revL {e : Expr} {o : Opd} {k : Nat} {p1 p3 : Pos} (he : POp X B W fl e o) : PF X B W fl (.Subscript e (.Slice none none (some (.UnaryOp .USub (.Constant (.int 1) k p1) p2)) p3) pos) (un1 o revL) :=
  ⟨PE.weaken (pe_revL he.pe) fun σ H Q h => o_revLF.w h⟩
/-! ### list(range(n)) -/
def rngF (f : ArgF) : ValF := fun ρ => match f ρ with
  | .ok [.int j] ρ' => if cdec (-(lim : Int) ≤ j ∧ j ≤ lim) = true then .ok (.lst (intsR 0 j.toNat)) ρ' else .no
  | .ok [.int i, .int j] ρ' => if cdec (-(lim : Int) ≤ i ∧ i ≤ lim ∧ -(lim : Int) ≤ j ∧ j ≤ lim) = true then .ok (.lst (intsR i (j - i).toNat)) ρ' else .no
  | .ex x ρ' => .ex x ρ'
  | _ => .no
theorem reps_intsR {K : PySem.W.Frag} {h : Hp} (a : Int) (n : Nat) : Reps K h (intsR a n) ((List.range n).map fun (i : Nat) => V.int (a + i)) := by
  unfold intsR
  have : ∀ l : List Nat, Reps K h (l.map fun (i : Nat) => D.int (a + i)) (l.map fun (i : Nat) => V.int (a + i)) := fun l => by
    induction l with
    | nil => exact .nil
    | cons x l ih => exact .cons (.int _) ih
  exact this _
/-- a list of ints, new -/
theorem rng_q {K : PySem.W.Frag} {ow : Addr → Ow} {σ : St} {H' : Hp} {ρ : Env} {T : List (D × V)} (E : ERo K B fl ow σ H' ρ T) {a b : Int} {p : Addr} (hp : H' p = none) :
    ∃ ow2, ERo K B fl ow2 σ (upd H' p (.lst (rgV a b))) ρ T ∧ OwnAt K (upd H' p (.lst (rgV a b))) ow2 .tmp p (.lst (intsR a (b - a).toNat)) := by
  obtain ⟨E2, o⟩ := E.hold hp (same_new hp) (d := .lst (intsR a (b - a).toNat)) ⟨_, upd_same, reps_intsR a _⟩
  exact ⟨_, E2, o⟩
theorem pf_listR1 {e : Expr} {f : ArgF} {p3 p4 : Pos} (hg : Gl X "list") (hm : X.mg "list" = none) (hg2 : Gl X "range") (hm2 : X.mg "range" = none) (he : PAv X B W fl [e] f) (hc : X.calm = true := by rfl)
    (na : starEach [e] X.env = (false, eval e X.env) :: starEach [] X.env := by rfl) (nb : starEach [.Call (.Name "range" p3) [e] [] p4] X.env = (false, eval (.Call (.Name "range" p3) [e] [] p4) X.env) :: starEach [] X.env := by rfl) {fe : ValF} (hf : f = aCons fe aNil := by rfl) (he2 : PV X B W fl e fe) :
    PF X B W fl (.Call (.Name "list" p) [.Call (.Name "range" p3) [e] [] p4] [] pos) (rngF f) :=
  ⟨PE.weaken (pe_listRg hc hg hm (prg_1 hg2 hm2 he2.pe na) nb) fun σ H Q ⟨ρ, T, E, q⟩ => by
    subst hf
    obtain ⟨hn, hx, hk⟩ := evF_no q
    refine ⟨ρ, T, E, ?_⟩
    unfold rngF aCons aNil at hn hx hk
    cases e1 : fe ρ with
    | ok d ρ1 =>
      rw [e1] at hn hk
      intro v H1 E1
      cases d with
      | int j =>
        dsimp only at hn hk
        split at hn
        · rename_i c
          obtain ⟨ow, E1⟩ := E1
          have cj := cdec_of c
          have hlim : lim = 1000000 := rfl
          obtain rfl : v = .int j := by cases E1.top; rfl
          refine ⟨j, rfl, ⟨by omega, by omega, by omega, by omega, by omega⟩, fun p hp => ?_⟩
          · obtain ⟨ow2, E2, o⟩ := rng_q (B := B) (fl := fl) (a := 0) (b := j) E1.drop hp
            exact hk _ _ (by rw [if_pos c, Int.sub_zero]) p _ ow2 E2 o
        · exact absurd rfl hn
      | _ => exact absurd rfl hn
    | ex x ρ1 => rw [e1] at hx; exact hx x ρ1 rfl
    | no => rw [e1] at hn; exact hn rfl⟩
end
end Pv

/-! Pv17: two for in a comprehension. -/
noncomputable section
namespace Pv
open PySem PySem.Spec L2
open PyProof.Rows hiding St
def lc2L (tgt : TgtF) (f1 : IterF) (tgt1 : TgtF) (own own1 : List Nat) (fe : ValF) : List D → List D → Env → ARes
  | [], acc, ρ => .ok acc ρ
  | d :: ds, acc, ρ => match tgt d ρ with
    | some ρ1 => match f1 ρ1 with
      | .ok ds1 _ ρ2 => match lcL tgt1 own1 none fe ds1 acc (fgtE own1 ρ2) with
        | .ok acc' ρ3 => lc2L tgt f1 tgt1 own own1 fe ds acc' (fgtE own ρ3)
        | _ => .no
      | _ => .no
    | none => .no
def lc2F (f : IterF) (tgt : TgtF) (f1 : IterF) (tgt1 : TgtF) (own own1 : List Nat) (fe : ValF) : ValF := fun ρ => match f ρ with
  | .ok ds _ ρ1 => match lc2L tgt f1 tgt1 own own1 fe ds [] (fgtE own ρ1) with
    | .ok ys ρ2 => .ok (.lst ys) (fgtE own ρ2)
    | _ => .no
  | .ex x ρ1 => .ex x ρ1
  | .no => .no
section
variable {X : Cx} {B : Bd} {W : WX} {fl fl1 fl' flL : List Bool} {pos p2 : Pos}
theorem pi_ex {Y : Cx} {tg e : Expr} {B : Bd} {f : IterF} (h : ∀ B' : Bd, B'.bor = B.bor → PIv Y B' W0 fl tg e f) : PI Y tg e (fun σ H R => ∃ B' : Bd, B'.bor = B.bor ∧ EvI Y.K B' W0 fl f σ H R) :=
  ⟨fun pins s σ H R I ⟨B', hb, q⟩ => (h B' hb).pi.run pins s σ H R I q⟩
theorem lc2_w {g g1 : TG} {tgt tgt1 : TgtF} {own own1 : List Nat} {f f1 : IterF} {fe : ValF} (h0 : 0 ∉ own ∨ B.bor = []) (sub : ∀ i ∈ own1, i ∈ own) (to : TgOwn own g) (to1 : TgOwn own1 g1)
    (hg : ∀ (B' : Bd), B'.bor = B.bor → ∀ (ow : Addr → Ow) (σ : St) (H : Hp) (ρ : Env) (T : List (D × V)) (d : D) (v : V) (ρ' : Env) (Q : St → Hp → Prop), ERo X.K B' fl ow σ H ρ T → Rep X.K (pubH ow H) d v → tgt d ρ = some ρ' → (∀ σ', ERo X.K B' fl ow σ' H ρ' T → Q σ' H) → g v σ H Q)
    (hg1 : ∀ (B' : Bd), B'.bor = B.bor → ∀ (ow : Addr → Ow) (σ : St) (H : Hp) (ρ : Env) (T : List (D × V)) (d : D) (v : V) (ρ' : Env) (Q : St → Hp → Prop), ERo X.K B' fl ow σ H ρ T → Rep X.K (pubH ow H) d v → tgt1 d ρ = some ρ' → (∀ σ', ERo X.K B' fl ow σ' H ρ' T → Q σ' H) → g1 v σ H Q) :
    ∀ (σ : St) (H : Hp) (Q : VK), EvF X.K B W fl (lc2F f tgt f1 tgt1 own own1 fe) σ H Q → tLc2 (EvI X.K B W fl f) g tYes (fun σ H R => ∃ B' : Bd, B'.bor = B.bor ∧ EvI X.K B' W0 fl f1 σ H R) g1 (fun σ H Q => ∃ B' : Bd, B'.bor = B.bor ∧ EvBo X.K B' W0 fl none σ H Q) (fun σ H Q => ∃ B' : Bd, B'.bor = B.bor ∧ EvT X.K B' W0 fl fe σ H Q) own own1 σ H Q :=
  fun σ H Q ⟨ρ, T, E, q⟩ => by
    obtain ⟨hn, hx, hk⟩ := evF_no q
    refine ⟨ρ, T, E, ?_⟩
    have h01 : 0 ∉ own1 ∨ B.bor = [] := h0.imp (fun h z => h (sub 0 z)) id
    cases e : f ρ with
    | ok ds src ρ1 =>
      intro vsrc H1 J lv E1 okJ L hL
      obtain ⟨ow, E1⟩ := E1
      obtain ⟨E2, nb, hL0⟩ := E1.accNew hL
      have hM : ¬ B.M L := fun z => by have := E1.frame L z; rw [E1.fresh hL] at this; cases this
      have eF : lc2F f tgt f1 tgt1 own own1 fe ρ = (match lc2L tgt f1 tgt1 own own1 fe ds [] (fgtE own ρ1) with
        | .ok ys ρ2 => .ok (.lst ys) (fgtE own ρ2)
        | _ => .no) := by unfold lc2F; rw [e]
      rw [eF] at hn hk
      generalize hr : lc2L tgt f1 tgt1 own own1 fe ds [] (fgtE own ρ1) = r at hn hk
      have hr0 : r ≠ .no := fun z => by rw [z] at hn; exact hn rfl
      refine ⟨fun i m H => m = ds.length - i ∧ i ≤ ds.length ∧ ∃ acc vs ρ, acc.length = vs.length ∧ ER X.K (B.acc L vs) fl (wipe σ own) H ρ (src.zip vsrc ++ (acc.zip vs ++ T)) ∧ lc2L tgt f1 tgt1 own own1 fe (ds.drop i) acc ρ = r,
        ⟨ds.length, rfl, Nat.zero_le _, [], [], fgtE own ρ1, rfl, ⟨_, E2.wiped (wipe_length σ _) (fun i hi => wipe_get hi) h0⟩, hr⟩, ?_⟩
      rintro i m H ⟨rfl, hi, acc, vs, ρ, hA, E, hr⟩
      obtain ⟨ow, E⟩ := E
      by_cases hlt : i < ds.length
      · refine .inr ⟨okJ.go _ H i E.live (E.args lv) hlt, fun H => ∃ acc vs ρ, acc.length = vs.length ∧ ER X.K (B.acc L vs) fl (wipe σ own) H ρ (src.zip vsrc ++ (acc.zip vs ++ T)) ∧ lc2L tgt f1 tgt1 own own1 fe (ds.drop (i + 1)) acc ρ = r, fun H' h => ⟨ds.length - (i + 1), by omega, rfl, hlt, h⟩, fun x H' y => ?_⟩
        obtain ⟨s, d, e1, rp⟩ := okJ.yld _ H i x H' E.live (E.args lv) hlt y
        have e2 : ds.drop i = d :: ds.drop (i + 1) := by
          rw [List.drop_eq_getElem_cons hlt]
          rw [List.getElem?_eq_getElem hlt] at e1
          cases e1; rfl
        rw [e2] at hr
        unfold lc2L at hr
        cases e3 : tgt d ρ with
        | none => rw [e3] at hr; exact absurd hr.symm hr0
        | some ρ1 =>
          rw [e3] at hr
          dsimp only at hr
          have key : g x (wipe σ own) H' fun σ2 H2 => H2 = H' ∧ ERo X.K (B.acc L vs) fl ow σ2 H2 ρ1 (src.zip vsrc ++ (acc.zip vs ++ T)) := hg (B.acc L vs) rfl ow _ H' ρ _ d x ρ1 _ (E.mono s) rp e3 fun σ2 E2 => ⟨rfl, E2⟩
          have key2 := to.own x (wipe σ own) H' _ key
          rw [wipe_wipe σ own] at key2
          refine to.mono _ _ _ _ _ key2 fun σ2 H2 ⟨hw, hH, E2⟩ => ⟨hw, ?_⟩
          dsimp only [tYes]
          rw [if_pos rfl]
          have l2 : σ2.length = (wipe σ own).length := by
            have := congrArg List.length hw
            rw [wipe_length] at this; exact this
          have ws : ∀ i, i ∉ own → (wipe σ own)[i]? = σ2[i]? := fun i hi => by rw [← hw, wipe_get hi]
          refine ⟨B.acc L vs, rfl, ρ1, _, ⟨ow, E2⟩, ?_⟩
          cases e4 : f1 ρ1 with
          | ok ds1 src1 ρ2 =>
            rw [e4] at hr
            dsimp only at hr
            intro vsrc1 H4 J1 lv1 E4 okJ1
            obtain ⟨ow4, E4⟩ := E4
            have E5 : ERo X.K (B.acc L vs) fl ow4 (wipe σ2 own1) H4 (fgtE own1 ρ2) (src1.zip vsrc1 ++ (acc.zip vs ++ (src.zip vsrc ++ T))) := (E4.wiped (wipe_length σ2 _) (fun i hi => wipe_get hi) h01).sub fun q hq => by
              rcases List.mem_append.mp hq with hq | hq
              · exact List.mem_append_left _ hq
              · refine List.mem_append_right _ ?_
                rcases List.mem_append.mp hq with hq | hq
                · exact List.mem_append_right _ (List.mem_append_left _ hq)
                · rcases List.mem_append.mp hq with hq | hq
                  · exact List.mem_append_left _ hq
                  · exact List.mem_append_right _ (List.mem_append_right _ hq)
            refine lc_walk (B := B) (fl := fl) (σ := σ2) (L := L) (T := src.zip vsrc ++ T) (tgt := tgt1) (g := g1) (own := own1) (ft := none) (fe := fe) (Qd := fun H => ∃ acc vs ρ, acc.length = vs.length ∧ ER X.K (B.acc L vs) fl (wipe σ own) H ρ (src.zip vsrc ++ (acc.zip vs ++ T)) ∧ lc2L tgt f1 tgt1 own own1 fe (ds.drop (i + 1)) acc ρ = r)
              (k := fun q => (match q with
                | .ok acc' ρ3 => lc2L tgt f1 tgt1 own own1 fe (ds.drop (i + 1)) acc' (fgtE own ρ3)
                | _ => ARes.no) = r) okJ1 lv1 nb h01 to1 hg1 (fun z => hr0 z.symm) hA ⟨ow4, E5⟩ hr fun acc' vs' ρ3 H5 hA' E6 hk => ?_
            obtain ⟨ow6, E6⟩ := E6
            refine ⟨acc', vs', fgtE own ρ3, hA', ⟨ow6, ?_⟩, hk⟩
            refine (E6.wiped (σ' := wipe σ own) ?_ (fun i hi => ?_) h0).sub fun q hq => ?_
            · rw [wipe_length, wipe_length, l2, wipe_length]
            · rw [ws i hi, wipe_get fun z => hi (sub i z)]
            · rcases List.mem_append.mp hq with hq | hq
              · exact List.mem_append_right _ (List.mem_append_right _ (List.mem_append_left _ hq))
              · rcases List.mem_append.mp hq with hq | hq
                · exact List.mem_append_right _ (List.mem_append_left _ hq)
                · exact List.mem_append_right _ (List.mem_append_right _ (List.mem_append_right _ hq))
          | ex x ρ2 => rw [e4] at hr; exact absurd hr.symm hr0
          | no => rw [e4] at hr; exact absurd hr.symm hr0
      · have : i = ds.length := by omega
        subst this
        rw [List.drop_length] at hr
        unfold lc2L at hr
        rw [← hr] at hk
        refine .inl ⟨okJ.stop _ H E.live (E.args lv), ?_⟩
        have r : Reps X.K (pubH ow H) acc vs := reps_zip hA fun q hq => E.tmp q (List.mem_append_right _ (List.mem_append_left _ hq))
        have E4 : ERo X.K (B.acc L vs) fl ow σ H (fgtE own ρ) T := (E.wiped (wipe_length σ own).symm (fun i hi => (wipe_get hi).symm) h0).sub fun q hq => List.mem_append_right _ (List.mem_append_right _ hq)
        obtain ⟨E5, o5⟩ := E4.accEnd nb hL0 hM r
        exact hk _ _ rfl L H _ E5 o5
    | ex x ρ1 => exact fun dx H' E' z => hx x ρ1 (by unfold lc2F; rw [e]) dx H' E' z
    | no => exact hn (by unfold lc2F; rw [e])
theorem pf_lc2 {elt tg iter tg1 iter1 : Expr} {scope : Scope} {own : List (Str × Nat)} {own1 : List Nat} {f f1 : IterF} {g g1 : TG} {tgt tgt1 : TgtF} {fe : ValF} (hc : X.calm = true) (hN : X.N.Nodup) (hi : PIv X B W fl tg iter f) (ok : BlkOk X.N X.env.scope scope own)
    (h0 : 0 ∉ own.map (·.2) ∨ B.bor = []) (sub : ∀ i ∈ own1, i ∈ own.map (·.2)) (to : TgOwn (own.map (·.2)) g) (to1 : TgOwn own1 g1)
    (hg : ∀ (s : Shared) (H : Hp) (C : Addr) (cl : List (Str × Addr)) (fp : List Addr) (B' : Bd), B'.bor = B.bor → PGv (X.blk s H scope (compEnvC scope cl C X.env) fp) B' fl tg g tgt)
    (hi1 : ∀ (s : Shared) (H : Hp) (C : Addr) (cl : List (Str × Addr)) (fp : List Addr) (B' : Bd), B'.bor = B.bor → PIv (X.blk s H scope (compEnvC scope cl C X.env) fp) B' W0 fl tg1 iter1 f1)
    (hg1 : ∀ (s : Shared) (H : Hp) (C : Addr) (cl : List (Str × Addr)) (fp : List Addr) (B' : Bd), B'.bor = B.bor → PGv (X.blk s H scope (compEnvC scope cl C X.env) fp) B' fl tg1 g1 tgt1)
    (he : ∀ (s : Shared) (H : Hp) (C : Addr) (cl : List (Str × Addr)) (fp : List Addr) (B' : Bd), B'.bor = B.bor → PV (X.blk s H scope (compEnvC scope cl C X.env) fp) B' W0 fl elt fe)
    (hs : ∀ x, foldedSetIterable iter X.env x = pure x := by intro _; rfl) (hs1 : ∀ env x, foldedSetIterable iter1 env x = pure x := by intro _ _; rfl) : PF X B W fl (.ListComp elt [⟨tg, iter, [], 0⟩, ⟨tg1, iter1, [], 0⟩] scope pos) (lc2F f tgt f1 tgt1 (own.map (·.2)) own1 fe) :=
  ⟨PE.weaken (pe_lc2 (tt1 := (fun σ H Q => ∃ B' : Bd, B'.bor = B.bor ∧ EvBo X.K B' W0 fl none σ H Q)) (te := (fun σ H Q => ∃ B' : Bd, B'.bor = B.bor ∧ EvT X.K B' W0 fl fe σ H Q)) hc hN hi.pi ok sub (fun s H C cl fp => (hg s H C cl fp B rfl).pg) (fun s H C cl fp => pts_nil) (fun s H C cl fp => pi_ex (B := B) (hi1 s H C cl fp)) (fun s H C cl fp => (hg1 s H C cl fp B rfl).pg) (fun s H C cl fp => pts_ex (B := B) fun B' hb => ptsv_nil) (fun s H C cl fp => pe_ex (B := B) (he s H C cl fp)) hs hs1)
    (lc2_w h0 sub to to1 (fun B' hb => (hg X.s_0 X.H_0 0 [] [] B' hb).run) fun B' hb => (hg1 X.s_0 X.H_0 0 [] [] B' hb).run)⟩
theorem psv_setLc2F {elt tg iter tg1 iter1 : Expr} {scope : Scope} {i : Nat} {y : Str} {py spos : Pos} {own : List (Str × Nat)} {own1 : List Nat} {f f1 : IterF} {g g1 : TG} {tgt tgt1 : TgtF} {fe : ValF} (hy : X.N[i]? = some y) (hyl : X.env.scope.names.lookup y = some .local)
    (hsw : swapsWith (.ListComp elt [⟨tg, iter, [], 0⟩, ⟨tg1, iter1, [], 0⟩] scope pos) (some (.Name y py)) spos.line X.env = pure true) (hb : i ≠ 0 ∨ B.bor = []) (hc : X.calm = true) (hN : X.N.Nodup) (hi : PIv X B W fl tg iter f) (ok : BlkOk X.N X.env.scope scope own)
    (h0 : 0 ∉ own.map (·.2) ∨ B.bor = []) (sub : ∀ i ∈ own1, i ∈ own.map (·.2)) (to : TgOwn (own.map (·.2)) g) (to1 : TgOwn own1 g1)
    (hg : ∀ (s : Shared) (H : Hp) (C : Addr) (cl : List (Str × Addr)) (fp : List Addr) (B' : Bd), B'.bor = B.bor → PGv (X.blk s H scope (compEnvC scope cl C X.env) fp) B' fl tg g tgt)
    (hi1 : ∀ (s : Shared) (H : Hp) (C : Addr) (cl : List (Str × Addr)) (fp : List Addr) (B' : Bd), B'.bor = B.bor → PIv (X.blk s H scope (compEnvC scope cl C X.env) fp) B' W0 fl tg1 iter1 f1)
    (hg1 : ∀ (s : Shared) (H : Hp) (C : Addr) (cl : List (Str × Addr)) (fp : List Addr) (B' : Bd), B'.bor = B.bor → PGv (X.blk s H scope (compEnvC scope cl C X.env) fp) B' fl tg1 g1 tgt1)
    (he : ∀ (s : Shared) (H : Hp) (C : Addr) (cl : List (Str × Addr)) (fp : List Addr) (B' : Bd), B'.bor = B.bor → PV (X.blk s H scope (compEnvC scope cl C X.env) fp) B' W0 fl elt fe)
    (hs : ∀ x, foldedSetIterable iter X.env x = pure x := by intro _; rfl) (hs1 : ∀ env x, foldedSetIterable iter1 env x = pure x := by intro _ _; rfl) :
    PSv X B W flL fl (fl.set i true) (.Assign [.Name y py] (.ListComp elt [⟨tg, iter, [], 0⟩, ⟨tg1, iter1, [], 0⟩] scope pos) spos) (put i (lc2F f tgt f1 tgt1 (own.map (·.2)) own1 fe)) :=
  psv_asgFT (ps_setLc2 (tt1 := (fun σ H Q => ∃ B' : Bd, B'.bor = B.bor ∧ EvBo X.K B' W0 fl none σ H Q)) (te := (fun σ H Q => ∃ B' : Bd, B'.bor = B.bor ∧ EvT X.K B' W0 fl fe σ H Q)) hc hN hy hyl hsw hi.pi ok sub (fun s H C cl fp => (hg s H C cl fp B rfl).pg) (fun s H C cl fp => pts_nil) (fun s H C cl fp => pi_ex (B := B) (hi1 s H C cl fp)) (fun s H C cl fp => (hg1 s H C cl fp B rfl).pg) (fun s H C cl fp => pts_ex (B := B) fun B' hb => ptsv_nil) (fun s H C cl fp => pe_ex (B := B) (he s H C cl fp)) hs hs1)
    (lc2_w h0 sub to to1 (fun B' hb => (hg X.s_0 X.H_0 0 [] [] B' hb).run) fun B' hb => (hg1 X.s_0 X.H_0 0 [] [] B' hb).run) hb
theorem psv_setLc2 {elt tg iter tg1 iter1 : Expr} {scope : Scope} {i : Nat} {y : Str} {py spos : Pos} {own : List (Str × Nat)} {own1 : List Nat} {f f1 : IterF} {g g1 : TG} {tgt tgt1 : TgtF} {fe : ValF} (hy : X.N[i]? = some y) (hyl : X.env.scope.names.lookup y = some .local)
    (hsw : swapsWith (.ListComp elt [⟨tg, iter, [], 0⟩, ⟨tg1, iter1, [], 0⟩] scope pos) (some (.Name y py)) spos.line X.env = pure true) (hb : i ≠ 0 ∨ B.bor = []) (hc : X.calm = true) (hN : X.N.Nodup) (hi : PIv X B W fl tg iter f) (ok : BlkOk X.N X.env.scope scope own)
    (h0 : 0 ∉ own.map (·.2) ∨ B.bor = []) (sub : ∀ i ∈ own1, i ∈ own.map (·.2)) (to : TgOwn (own.map (·.2)) g) (to1 : TgOwn own1 g1)
    (hg : ∀ (s : Shared) (H : Hp) (C : Addr) (cl : List (Str × Addr)) (fp : List Addr) (B' : Bd), B'.bor = B.bor → PGv (X.blk s H scope (compEnvC scope cl C X.env) fp) B' fl tg g tgt)
    (hi1 : ∀ (s : Shared) (H : Hp) (C : Addr) (cl : List (Str × Addr)) (fp : List Addr) (B' : Bd), B'.bor = B.bor → PIv (X.blk s H scope (compEnvC scope cl C X.env) fp) B' W0 fl tg1 iter1 f1)
    (hg1 : ∀ (s : Shared) (H : Hp) (C : Addr) (cl : List (Str × Addr)) (fp : List Addr) (B' : Bd), B'.bor = B.bor → PGv (X.blk s H scope (compEnvC scope cl C X.env) fp) B' fl tg1 g1 tgt1)
    (he : ∀ (s : Shared) (H : Hp) (C : Addr) (cl : List (Str × Addr)) (fp : List Addr) (B' : Bd), B'.bor = B.bor → PV (X.blk s H scope (compEnvC scope cl C X.env) fp) B' W0 fl elt fe)
    (hs : ∀ x, foldedSetIterable iter X.env x = pure x := by intro _; rfl) (hs1 : ∀ env x, foldedSetIterable iter1 env x = pure x := by intro _ _; rfl) :
    PSv X B W flL fl (fl.set i false) (.Assign [.Name y py] (.ListComp elt [⟨tg, iter, [], 0⟩, ⟨tg1, iter1, [], 0⟩] scope pos) spos) (put i (pubF (lc2F f tgt f1 tgt1 (own.map (·.2)) own1 fe))) :=
  psv_asgT (ps_setLc2 (tt1 := (fun σ H Q => ∃ B' : Bd, B'.bor = B.bor ∧ EvBo X.K B' W0 fl none σ H Q)) (te := (fun σ H Q => ∃ B' : Bd, B'.bor = B.bor ∧ EvT X.K B' W0 fl fe σ H Q)) hc hN hy hyl hsw hi.pi ok sub (fun s H C cl fp => (hg s H C cl fp B rfl).pg) (fun s H C cl fp => pts_nil) (fun s H C cl fp => pi_ex (B := B) (hi1 s H C cl fp)) (fun s H C cl fp => (hg1 s H C cl fp B rfl).pg) (fun s H C cl fp => pts_ex (B := B) fun B' hb => ptsv_nil) (fun s H C cl fp => pe_ex (B := B) (he s H C cl fp)) hs hs1)
    (fun σ H Q h => lc2_w h0 sub to to1 (fun B' hb => (hg X.s_0 X.H_0 0 [] [] B' hb).run) (fun B' hb => (hg1 X.s_0 X.H_0 0 [] [] B' hb).run) σ H Q (evF_pub h)) hb
end
end Pv

/-! Pv18: dicts. -/
noncomputable section
namespace Pv
open PySem PySem.Spec L2
open PyProof.Rows hiding St
def keyD : D → Option Key
  | .int i => some (.inl i)
  | .str x => some (.inr ⟨x.toArray⟩)
  | _ => none
def keysD : List D → Option (List Key)
  | [] => some []
  | d :: ds => (keyD d).bind fun k => (keysD ds).map (k :: ·)
def kD : Key → D
  | .inl i => .int i
  | .inr x => .str x.cps.toList
section
variable {κ α : Type} [DecidableEq κ]
def lookK : List (κ × α) → κ → Option α
  | [], _ => none
  | q :: r, k => if q.1 = k then some q.2 else lookK r k
def putD (kvs : List (κ × α)) (k : κ) (v : α) : List (κ × α) :=
  if (kvs.any fun kv => decide (kv.1 = k)) = true then kvs.map (fun kv => if kv.1 = k then (kv.1, v) else kv) else kvs ++ [(k, v)]
end
section
variable {K : PySem.W.Frag} {h : Hp} {κ : Type}
def RepK (K : PySem.W.Frag) (h : Hp) : List (κ × D) → List (κ × V) → Prop
  | [], [] => True
  | q :: kvs, r :: ks => q.1 = r.1 ∧ Rep K h q.2 r.2 ∧ RepK K h kvs ks
  | _, _ => False
theorem repK_of : ∀ {kvs : List (κ × D)} {ks : List (κ × V)}, ks.map (·.1) = kvs.map (·.1) → Reps K h (kvs.map (·.2)) (ks.map (·.2)) → RepK K h kvs ks
  | [], [], _, _ => trivial
  | [], _ :: _, e, _ => by simp at e
  | _ :: _, [], e, _ => by simp at e
  | q :: kvs, r :: ks, e, .cons r1 r2 => by
    rw [List.map_cons, List.map_cons, List.cons.injEq] at e
    exact ⟨e.1.symm, r1, repK_of e.2 r2⟩
theorem RepK.keys : ∀ {kvs : List (κ × D)} {ks : List (κ × V)}, RepK K h kvs ks → ks.map (·.1) = kvs.map (·.1)
  | [], [], _ => rfl
  | q :: kvs, r :: ks, ⟨e, _, t⟩ => by rw [List.map_cons, List.map_cons, RepK.keys t, e]
theorem RepK.vals : ∀ {kvs : List (κ × D)} {ks : List (κ × V)}, RepK K h kvs ks → Reps K h (kvs.map (·.2)) (ks.map (·.2))
  | [], [], _ => .nil
  | q :: kvs, r :: ks, ⟨_, r1, t⟩ => .cons r1 (RepK.vals t)
theorem RepK.length {kvs : List (κ × D)} {ks : List (κ × V)} (r : RepK K h kvs ks) : ks.length = kvs.length := by
  have := congrArg List.length r.keys
  simpa using this
variable [DecidableEq κ]
def RepO (K : PySem.W.Frag) (h : Hp) : Option D → Option V → Prop
  | none, none => True
  | some d, some v => Rep K h d v
  | _, _ => False
theorem RepK.look : ∀ {kvs : List (κ × D)} {ks : List (κ × V)}, RepK K h kvs ks → ∀ k, RepO K h (lookK kvs k) (valV ks k)
  | [], [], _, k => trivial
  | q :: kvs, r :: ks, ⟨e, r1, t⟩, k => by
    unfold lookK
    by_cases c : q.1 = k
    · rw [if_pos c, valV_pos (by rw [← e]; exact c)]; exact r1
    · rw [if_neg c, valV_neg (by rw [← e]; exact c)]; exact RepK.look t k
theorem RepK.any : ∀ {kvs : List (κ × D)} {ks : List (κ × V)}, RepK K h kvs ks → ∀ k, (kvs.any fun kv => decide (kv.1 = k)) = ks.any fun kv => decide (kv.1 = k)
  | [], [], _, k => rfl
  | q :: kvs, r :: ks, ⟨e, r1, t⟩, k => by rw [List.any_cons, List.any_cons, RepK.any t k, e]
theorem RepK.append : ∀ {kvs : List (κ × D)} {ks : List (κ × V)}, RepK K h kvs ks → ∀ {k : κ} {d : D} {v : V}, Rep K h d v → RepK K h (kvs ++ [(k, d)]) (ks ++ [(k, v)])
  | [], [], _, _, _, _, r => ⟨rfl, r, trivial⟩
  | q :: kvs, s :: ks, ⟨e, r1, t⟩, _, _, _, r => ⟨e, r1, RepK.append t r⟩
theorem RepK.repl : ∀ {kvs : List (κ × D)} {ks : List (κ × V)}, RepK K h kvs ks → ∀ {k : κ} {d : D} {v : V}, Rep K h d v → RepK K h (kvs.map fun kv => if kv.1 = k then (kv.1, d) else kv) (ks.map fun kv => if kv.1 = k then (kv.1, v) else kv)
  | [], [], _, _, _, _, r => trivial
  | q :: kvs, s :: ks, ⟨e, r1, t⟩, k, d, v, r => by
    rw [List.map_cons, List.map_cons]
    by_cases c : q.1 = k
    · rw [if_pos c, if_pos (by rw [← e]; exact c)]; exact ⟨e, r, RepK.repl t r⟩
    · rw [if_neg c, if_neg (by rw [← e]; exact c)]; exact ⟨e, r1, RepK.repl t r⟩
theorem RepK.put {kvs : List (κ × D)} {ks : List (κ × V)} (t : RepK K h kvs ks) {k : κ} {d : D} {v : V} (r : Rep K h d v) : RepK K h (putD kvs k d) (putK ks k v) := by
  unfold putD putK
  rw [t.any k]
  split
  · exact t.repl r
  · exact t.append r
theorem RepK.mono {h' : Hp} (s : Same h h') : ∀ {kvs : List (κ × D)} {ks : List (κ × V)}, RepK K h kvs ks → RepK K h' kvs ks
  | [], [], _ => trivial
  | _ :: _, _ :: _, ⟨e, r, t⟩ => ⟨e, r.mono s, RepK.mono s t⟩
end
theorem keyD_rep {K : PySem.W.Frag} {h : Hp} {d : D} {v : V} {k : Key} (r : Rep K h d v) (e : keyD d = some k) : v = kV k := by
  cases r <;> first | (cases e; rfl) | cases e
theorem keysD_rep {K : PySem.W.Frag} {h : Hp} : ∀ {ds : List D} {vs : List V} {ks : List Key}, Reps K h ds vs → keysD ds = some ks → vs = ks.map kV
  | [], _, _, .nil, e => by cases e; rfl
  | d :: ds, _, _, .cons r t, e => by
    unfold keysD at e
    obtain ⟨k, e1, e2⟩ := Option.bind_eq_some_iff.mp e
    obtain ⟨ks, e3, rfl⟩ := Option.map_eq_some_iff.mp e2
    rw [List.map_cons, ← keyD_rep r e1, ← keysD_rep t e3]
theorem kD_rep {K : PySem.W.Frag} {h : Hp} (k : Key) : Rep K h (kD k) (kV k) := by
  cases k with
  | inl i => exact .int i
  | inr x =>
    have : x = ⟨x.cps.toList.toArray⟩ := by cases x; simp
    unfold kD kV
    conv => rhs; rw [this]
    exact .str _
theorem kDs_rep {K : PySem.W.Frag} {h : Hp} : ∀ ks : List Key, Reps K h (ks.map kD) (ks.map kV)
  | [] => .nil
  | k :: ks => .cons (kD_rep k) (kDs_rep ks)
/-- what a dict holds at a key -/
def dlook : D → D → Option (Option D)
  | .dik kvs, k => (keyD k).map fun k => lookK kvs k
  | .dit kvs, .tup ks => (keysD ks).map fun ks => lookK kvs ks
  | _, _ => none
theorem brep_key {K : PySem.W.Frag} {h H : Hp} {d : D} {v : V} {k : Key} (b : BRep K h H d v) (e : keyD d = some k) : v = kV k := by
  cases d with
  | int i => rw [b.intE]; cases e; rfl
  | str x => rw [b.strE]; cases e; rfl
  | _ => cases e
theorem dlook_get {K : PySem.W.Frag} {h H : Hp} (s : Same h H) {d y : D} {v w : V} {r : Option D} (b : BRep K h H d v) (by_ : BRep K h H y w) (e : dlook d y = some r) : ∃ a o, v = .ref a ∧ DGet H a w o ∧ RepO K h r o := by
  cases d with
  | dik kvs =>
    obtain ⟨k, e1, rfl⟩ := Option.map_eq_some_iff.mp e
    obtain ⟨a, ks, rfl, h1, h2, h3⟩ := b.dikE s
    exact ⟨a, _, rfl, .inl ⟨ks, k, h1, brep_key by_ e1, rfl⟩, (repK_of h2 h3).look k⟩
  | dit kvs =>
    cases y with
    | tup ys =>
      obtain ⟨k, e1, rfl⟩ := Option.map_eq_some_iff.mp e
      obtain ⟨a, ks, rfl, h1, h2, h3⟩ := b.ditE s
      obtain ⟨c, vs, rfl, h4, h5⟩ := by_.tupE s
      rw [keysD_rep h5 e1] at h4
      exact ⟨a, _, rfl, .inr ⟨ks, k, c, h1, rfl, h4, rfl⟩, (repK_of h2 h3).look k⟩
    | _ => cases e
  | _ => cases e
def dgetD (d k : D) : Option D := (dlook d k).bind id
def dinD (k d : D) : Option D := (dlook d k).map fun r => .bl r.isSome
def dninD (k d : D) : Option D := (dlook d k).map fun r => .bl (!r.isSome)
section
variable {K : PySem.W.Frag}
theorem o_dget : Op2 K (fun x y H Q => ∃ a v, x = .ref a ∧ DGet H a y (some v) ∧ Q v H) dgetD := by
  intro N H x y v w z Q hN bx hy e q
  obtain ⟨r, e1, e2⟩ := Option.bind_eq_some_iff.mp e
  obtain ⟨a, o, rfl, g, ro⟩ := dlook_get hide_sub bx hy e1
  cases r with
  | none => cases e2
  | some d =>
    cases e2
    cases o with
    | none => exact ro.elim
    | some u => exact ⟨a, u, rfl, g, q u H (Same.refl H) ro⟩
theorem repO_some {h : Hp} {r : Option D} {o : Option V} (ro : RepO K h r o) : o.isSome = r.isSome := by
  cases r <;> cases o <;> first | rfl | exact ro.elim
theorem o_din : Op2 K (fun y x H Q => ∃ a o, x = .ref a ∧ DGet H a y o ∧ Q (.bl o.isSome) H) dinD := by
  intro N H x y v w z Q hN bx hy e q
  obtain ⟨r, e1, rfl⟩ := Option.map_eq_some_iff.mp e
  obtain ⟨a, o, rfl, g, ro⟩ := dlook_get hide_sub hy bx e1
  exact ⟨a, o, rfl, g, q _ H (Same.refl H) (by rw [repO_some ro]; exact .bl _)⟩
theorem o_dnin : Op2 K (fun y x H Q => ∃ a o, x = .ref a ∧ DGet H a y o ∧ Q (.bl (!o.isSome)) H) dninD := by
  intro N H x y v w z Q hN bx hy e q
  obtain ⟨r, e1, rfl⟩ := Option.map_eq_some_iff.mp e
  obtain ⟨a, o, rfl, g, ro⟩ := dlook_get hide_sub hy bx e1
  exact ⟨a, o, rfl, g, q _ H (Same.refl H) (by rw [repO_some ro]; exact .bl _)⟩
def lstK : D → Option D
  | .dik kvs => some (.lst (kvs.map fun q => kD q.1))
  | _ => none
theorem o_lstKF : Op1F K (fun x H Q => (fun xs H Q => ∃ (a : Addr) (kvs : List (Key × V)), xs = [.ref a] ∧ Rd H a (.dK kvs) ∧ ∀ p, H p = none → Q (.ref p) (upd H p (.lst (kvs.map fun kv => kV kv.1)))) [x] H Q) lstK := by
  intro N H x v z Q hN bx e q
  cases x with
  | dik kvs =>
    cases e
    obtain ⟨a, ks, rfl, h1, h2, h3⟩ := bx.dikE hide_sub
    refine ⟨a, ks, rfl, h1, fun p hp => q p _ hp (same_new hp) ⟨_, upd_same, ?_⟩⟩
    have e1 : (ks.map fun kv => kV kv.1) = (ks.map (·.1)).map kV := by rw [List.map_map]; rfl
    have e2 : (kvs.map fun q => kD q.1) = (kvs.map (·.1)).map kD := by rw [List.map_map]; rfl
    rw [e1, e2, h2]
    exact kDs_rep _
  | _ => cases e
end
section
variable {X : Cx} {B : Bd} {W : WX} {fl fl1 fl' flL : List Bool} {pos p p1 p2 q : Pos} {a b : Expr} {o o' : Opd} {k : Nat}
theorem pv_dget (hr : Room k X.A) (ha : POp X B W fl a o) (hb : POp X B W fl b o') (hs : NoSl b := by intro _ _; rfl) : PV X B W fl (.Subscript a b pos) (bin2 o o' dgetD) := pv_op2 (pe_dget (hu_of hr) ha.pe hb.pe hs) o_dget
theorem pv_din (hr : Room k X.A) (ha : POp X B W fl a o) (hb : POp X B W fl b o') (h1 : behindInMarks .In b = false := by first | exact nobehind _ (by decide) (by decide) | rfl) : PV X B W fl (.Compare a [.In] [b] pos) (bin2 o o' dinD) := pv_op2 (pe_cmp (pc_din (hu_of hr) ha.pe hb.pe) h1) o_din
theorem pv_dnin (hr : Room k X.A) (ha : POp X B W fl a o) (hb : POp X B W fl b o') (h1 : behindInMarks .NotIn b = false := by first | exact nobehind _ (by decide) (by decide) | rfl) : PV X B W fl (.Compare a [.NotIn] [b] pos) (bin2 o o' dninD) := pv_op2 (pe_cmp (pc_dnotin (hu_of hr) ha.pe hb.pe) h1) o_dnin
theorem ptv_din (hr : Room k X.A) (ha : POp X B W fl a o) (hb : POp X B W fl b o') (h1 : behindInMarks .In b = false := by first | exact nobehind _ (by decide) (by decide) | rfl) : PTv X B W fl (.Compare a [.In] [b] pos) (bin2 o o' dinD) := ptv_op (pt_cmp (pc_din (hu_of hr) ha.pe hb.pe) h1) o_din
theorem ptv_dnin (hr : Room k X.A) (ha : POp X B W fl a o) (hb : POp X B W fl b o') (h1 : behindInMarks .NotIn b = false := by first | exact nobehind _ (by decide) (by decide) | rfl) : PTv X B W fl (.Compare a [.NotIn] [b] pos) (bin2 o o' dninD) := ptv_op (pt_cmp (pc_dnotin (hu_of hr) ha.pe hb.pe) h1) o_dnin
theorem pf_listD (hg : Gl X "list") (hm : X.mg "list" = none) (ha : POp X B W fl a o) (hc : X.calm = true := by rfl) (he : starEach [a] X.env = (false, eval a X.env) :: starEach [] X.env := by rfl) : PF X B W fl (.Call (.Name "list" p) [a] [] pos) (un1 o lstK) := pf_op1 (pe_callTy (call_listD hc) hg hm bt_list (pa_cons ha.pe pa_nil he) (he := he)) o_lstKF
/-! ### {} -/
def dnK : ValF := fun ρ => .ok (.dik []) ρ
def dnT : ValF := fun ρ => .ok (.dit []) ρ
def dnL : ValF := fun ρ => .ok (.dil []) ρ
theorem pf_dnK : PF X B W fl (.Dict [] [] pos) dnK :=
  ⟨PE.weaken pe_dnewK fun σ H Q ⟨ρ, T, ⟨ow, E⟩, q⟩ p hp => by
    obtain ⟨E2, o⟩ := E.hold (d := .dik []) hp (same_new hp) ⟨[], upd_same, rfl, .nil⟩
    exact q p _ _ E2 o⟩
theorem pf_dnT : PF X B W fl (.Dict [] [] pos) dnT :=
  ⟨PE.weaken pe_dnewT fun σ H Q ⟨ρ, T, ⟨ow, E⟩, q⟩ p hp => by
    obtain ⟨E2, o⟩ := E.hold (d := .dit []) hp (same_new hp) ⟨[], upd_same, rfl, .nil⟩
    exact q p _ _ E2 o⟩
theorem pf_dnL : PF X B W fl (.Dict [] [] pos) dnL :=
  ⟨PE.weaken pe_dnewK fun σ H Q ⟨ρ, T, ⟨ow, E⟩, q⟩ p hp => by
    obtain ⟨E2, o⟩ := E.hold (d := .dik []) hp (same_new hp) ⟨[], upd_same, rfl, .nil⟩
    exact q p _ _ E2 ⟨o.1, [], upd_same, List.nodup_nil, trivial⟩⟩
/-! ### d[k] = v -/
def dputS (i : Nat) (fk fv : ValF) : StF := fun ρ => (fv ρ).out fun d ρ1 => match (ρ1[i]? : Option (Option D)) with
  | some (some _) => (fk ρ1).out fun k ρ2 => match (ρ2[i]? : Option (Option D)), k with
    | some (some (.dik kvs)), k => match keyD k with
      | some k => if kvs.length < lim then .nx (ρ2.set i (some (.dik (putD kvs k d)))) else .no
      | none => .no
    | some (some (.dit kvs)), .tup ks => match keysD ks with
      | some ks => if kvs.length < lim then .nx (ρ2.set i (some (.dit (putD kvs ks d)))) else .no
      | none => .no
    | _, _ => .no
  | _ => .no
theorem psv_dput {e ke oe : Expr} {fk fv : ValF} {i : Nat} {pos' : Pos} (hr : Room k X.A) (ho : PE X oe (tVar i)) (hk : PV X B W fl ke fk) (hv : PV X B W fl e fv) (hf : fl[i]? = some true := by rfl) (hs : swapsWith e (some (.Subscript oe ke pos')) pos.line X.env = pure false := by rfl) :
    PSv X B W flL fl fl (.Assign [.Subscript oe ke pos'] e pos) (dputS i fk fv) :=
  PS.svT (ps_dput (hu_of hr) ho hk.pe hv.pe hs) fun D σ H ρ T E q => by
    unfold dputS at q
    refine evT_out E q fun d ρ1 ow v H1 e1 E1 r1 q => ?_
    split at q
    · rename_i d0 e0
      obtain ⟨p, e2, o0⟩ := E1.hd i d0 e0 hf
      refine ⟨_, e2, ?_⟩
      refine evT_out (T := (d, v) :: T) (flL := flL) (fl' := fl) (D := D) (k := fun k ρ2 => match (ρ2[i]? : Option (Option Pv.D)), k with
        | some (some (.dik kvs)), k => match keyD k with
          | some k => if kvs.length < lim then .nx (ρ2.set i (some (.dik (putD kvs k d)))) else .no
          | none => .no
        | some (some (.dit kvs)), .tup ks => match keysD ks with
          | some ks => if kvs.length < lim then .nx (ρ2.set i (some (.dit (putD kvs ks d)))) else .no
          | none => .no
        | _, _ => .no) ⟨ow, E1.push r1⟩ ?_ fun kd ρ2 ow2 vi H2 e3 E2 ri q => ?_
      · refine outQ_sub q fun x hx => List.mem_cons_of_mem _ hx
      · split at q
        · rename_i kvs e4
          split at q
          · rename_i k e5
            split at q
            · rename_i hl
              obtain ⟨p', e6, h1, ks, h2, h3, h4⟩ := E2.hd i _ e4 hf
              rw [e2] at e6; cases e6
              have rk := repK_of h3 h4
              have lk : ks.length < sizeLine := by rw [rk.length]; exact lim_lt (by omega)
              refine ⟨p, _, rfl, .inl ⟨ks, k, h2, keyD_rep ri e5, lk, rfl⟩, ?_⟩
              refine q _ _ ⟨ow2, E2.change1 hf e2 h1 ⟨h1, _, upd_same, ?_⟩⟩
              rw [pubH_upd (by rw [h1]; exact fun z => nomatch z)]
              exact ⟨(rk.put E2.top).keys, (rk.put E2.top).vals⟩
            · exact q.elim
          · exact q.elim
        · rename_i kvs ys e4
          split at q
          · rename_i k e5
            split at q
            · rename_i hl
              obtain ⟨p', e6, h1, ks, h2, h3, h4⟩ := E2.hd i _ e4 hf
              rw [e2] at e6; cases e6
              have rk := repK_of h3 h4
              have lk : ks.length < sizeLine := by rw [rk.length]; exact lim_lt (by omega)
              cases ri with
              | tup t1 t2 =>
                rename_i c vs
                have t3 := hide_sub _ _ t1
                rw [keysD_rep t2 e5] at t3
                refine ⟨p, _, rfl, .inr ⟨ks, k, c, h2, rfl, t3, lk, rfl⟩, ?_⟩
                refine q _ _ ⟨ow2, E2.change1 hf e2 h1 ⟨h1, _, upd_same, ?_⟩⟩
                rw [pubH_upd (by rw [h1]; exact fun z => nomatch z)]
                exact ⟨(rk.put E2.top).keys, (rk.put E2.top).vals⟩
            · exact q.elim
          · exact q.elim
        · exact q.elim
    · exact q.elim
/-! ### d.get(k, x) -/
def isDic : D → Bool
  | .dik _ => true
  | .dit _ => true
  | _ => false
def getF (o : Opd) (fk fx : ValF) : ValF := match o with
  | .v f => fun ρ => (f ρ).bind fun d ρ1 => if isDic d = true then (fk ρ1).bind fun k ρ2 => (fx ρ2).bind fun x ρ3 => ofO ((dlook d k).map (·.getD x)) ρ3 else .no
  | .s i => fun ρ => look ρ i fun d0 => if isDic d0 = true then (fk ρ).bind fun k ρ2 => (fx ρ2).bind fun x ρ3 => look ρ3 i fun d => ofO ((dlook d k).map (·.getD x)) ρ3 else .no
theorem isDic_is {K : PySem.W.Frag} {h H : Hp} (s : Same h H) {d : D} {v : V} (b : BRep K h H d v) (e : isDic d = true) : ∃ a, v = .ref a ∧ IsD H a := by
  cases d with
  | dik kvs => obtain ⟨a, ks, rfl, h1, _⟩ := b.dikE s; exact ⟨a, rfl, .inl ⟨ks, h1⟩⟩
  | dit kvs => obtain ⟨a, ks, rfl, h1, _⟩ := b.ditE s; exact ⟨a, rfl, .inr ⟨ks, h1⟩⟩
  | _ => cases e
/-- a value, then a value: as a statement about both -/
theorem evT_k {K : PySem.W.Frag} {f : ValF} {kk : D → Env → ERes} {σ : St} {H : Hp} {ρ : Env} {T : List (D × V)} {R : VK} (E : ER K B fl σ H ρ T) (hn : (f ρ).bind kk ≠ .no)
    (hx : ∀ x ρ', (f ρ).bind kk = .ex x ρ' → ∀ dx H', ER K B fl σ H' ρ' T → XOk x H' dx → W (.ref x.cls) dx σ H')
    (hR : ∀ d ρ' v H', (f ρ).bind kk = kk d ρ' → ER K B fl σ H' ρ' ((d, v) :: T) → R v H') : EvT K B W fl f σ H R := by
  refine ⟨ρ, T, E, ?_⟩
  cases e : f ρ with
  | ok d ρ' => exact fun v H' E' => hR d ρ' v H' (by rw [e]; rfl) E'
  | ex x ρ' => exact fun dx H' E' z => hx x ρ' (by rw [e]; rfl) dx H' E' z
  | no => exact absurd (by rw [e]; rfl) hn
theorem get_last {K : PySem.W.Frag} {ow : Addr → Ow} {σ : St} {H : Hp} {ρ : Env} {T : List (D × V)} {d k x : D} {v w : V} {a : Addr} {Q : VK} (E : ERo K B fl ow σ H ρ T) (bd : BRep K (pubH ow H) H d (.ref a)) (rk : Rep K (pubH ow H) k v) (rx : Rep K (pubH ow H) x w)
    (hn : ofO ((dlook d k).map (·.getD x)) ρ ≠ .no) (hk : ∀ z ρ', ofO ((dlook d k).map (·.getD x)) ρ = .ok z ρ' → ∀ u, Rep K (pubH ow H) z u → Q u H) : ∃ o, DGet H a v o ∧ Q (o.getD w) H := by
  obtain ⟨z, hz⟩ := ofO_ne hn
  obtain ⟨r, e1, rfl⟩ := Option.map_eq_some_iff.mp hz
  obtain ⟨a', o, e2, g, ro⟩ := dlook_get hide_sub bd (.val rk) e1
  cases e2
  refine ⟨o, g, hk _ _ (by rw [hz]; rfl) _ ?_⟩
  cases r with
  | none => cases o with
    | none => exact rx
    | some _ => exact ro.elim
  | some _ => cases o with
    | none => exact ro.elim
    | some _ => exact ro
theorem pv_get {e f : Expr} {fk fx : ValF} {apos cpos : Pos} (hr : Room k X.A) (ha : POp X B W fl a o) (he : PV X B W fl e fk) (hf : PV X B W fl f fx) (m : M2 X a "get" apos e f cpos := by exact ⟨rfl, rfl, rfl, rfl⟩) : PV X B W fl (.Call (.Attribute a "get" apos) [e, f] [] cpos) (getF o fk fx) :=
  ⟨PE.weaken (pe_dget2 (hu_of hr) ha.pe he.pe hf.pe m) fun σ H Q ⟨ρ, T, E, q⟩ => by
    obtain ⟨hn, hx, hk⟩ := evT_no q
    cases o with
    | v g =>
      unfold getF at hn hx hk
      dsimp only at hn hx hk
      refine evT_k E hn hx fun d ρ1 u H1 h1 E1 => ?_
      rw [h1] at hn hx hk
      by_cases c : isDic d = true
      · rw [if_pos c] at hn hx hk
        obtain ⟨ow1, E1o⟩ := id E1
        obtain ⟨a, rfl, isd⟩ := isDic_is hide_sub (.val E1o.top) c
        refine ⟨a, rfl, isd, ?_⟩
        refine evT_k E1 hn (fun x ρ' e dx H' E' z => hx x ρ' e dx H' (E'.sub fun q hq => List.mem_cons_of_mem _ hq) z) fun kk ρ2 v H2 h2 E2 => ?_
        rw [h2] at hn hx hk
        refine evT_k E2 hn (fun x ρ' e dx H' E' z => hx x ρ' e dx H' (E'.sub fun q hq => List.mem_cons_of_mem _ (List.mem_cons_of_mem _ hq)) z) fun x ρ3 w H3 h3 E3 => ?_
        rw [h3] at hn hk
        obtain ⟨ow, E3⟩ := E3
        exact get_last E3 (.val (E3.tmp (d, .ref a) (by simp))) (E3.tmp (kk, v) (by simp)) (E3.tmp (x, w) (by simp)) hn fun z ρ' e u r => hk z ρ' e u H3 ⟨ow, by
          obtain ⟨_, rfl⟩ := ofO_ok e
          exact (E3.sub fun q hq => List.mem_cons_of_mem _ (List.mem_cons_of_mem _ (List.mem_cons_of_mem _ hq))).push r⟩
      · rw [if_neg c] at hn; exact absurd rfl hn
    | s i =>
      unfold getF at hn hx hk
      dsimp only at hn hx hk
      unfold look at hn hx hk
      cases e0 : (ρ[i]? : Option (Option D)) with
      | none => rw [e0] at hn; exact absurd rfl hn
      | some d0 =>
        cases d0 with
        | none => rw [e0] at hn; exact absurd rfl hn
        | some d0 =>
          rw [e0] at hn hx hk
          dsimp only at hn hx hk
          by_cases c : isDic d0 = true
          · rw [if_pos c] at hn hx hk
            obtain ⟨ow0, E0⟩ := id E
            obtain ⟨u, hu, bu⟩ := E0.peek e0
            obtain ⟨a, rfl, isd⟩ := isDic_is hide_sub bu c
            refine ⟨.ref a, hu, a, rfl, isd, ?_⟩
            refine evT_k E hn hx fun kk ρ2 v H2 h2 E2 => ?_
            rw [h2] at hn hx hk
            refine evT_k E2 hn (fun x ρ' e dx H' E' z => hx x ρ' e dx H' (E'.sub fun q hq => List.mem_cons_of_mem _ hq) z) fun x ρ3 w H3 h3 E3 => ?_
            rw [h3] at hn hk
            obtain ⟨ow, E3⟩ := E3
            cases e3 : (ρ3[i]? : Option (Option D)) with
            | none => rw [e3] at hn; exact absurd rfl hn
            | some d3 =>
              cases d3 with
              | none => rw [e3] at hn; exact absurd rfl hn
              | some d =>
                rw [e3] at hn hk
                dsimp only at hn hk
                obtain ⟨u3, hu3, bu3⟩ := E3.peek e3
                rw [hu] at hu3
                cases hu3
                exact get_last E3 bu3 (E3.tmp (kk, v) (by simp)) (E3.tmp (x, w) (by simp)) hn fun z ρ' e u r => hk z ρ' e u H3 ⟨ow, by
                  obtain ⟨_, rfl⟩ := ofO_ok e
                  exact (E3.sub fun q hq => List.mem_cons_of_mem _ (List.mem_cons_of_mem _ hq)).push r⟩
          · rw [if_neg c] at hn; exact absurd rfl hn⟩
end
end Pv

/-! Pv19: dicts of lists that are held. -/
noncomputable section
namespace Pv
open PySem PySem.Spec L2
open PyProof.Rows hiding St
def hasK (kvs : List (Key × List D)) (k : Key) : Bool := kvs.any fun kv => decide (kv.1 = k)
def lookL : List (Key × List D) → Key → Option (List D)
  | [], _ => none
  | q :: r, k => if q.1 = k then some q.2 else lookL r k
def appK : List (Key × List D) → Key → D → List (Key × List D)
  | [], _, _ => []
  | q :: r, k, d => if q.1 = k then (q.1, q.2 ++ [d]) :: r else q :: appK r k d
section
variable {K : PySem.W.Frag} {H H' : Hp} {ow ow' : Addr → Ow} {who : Ow}
theorem DilAt.look : ∀ {kvs : List (Key × List D)} {ks : List (Key × Addr)}, DilAt K H ow who kvs ks → ∀ k, match lookL kvs k with
    | none => valV (dilV ks) k = none
    | some ds => ∃ a vs, valV (dilV ks) k = some (.ref a) ∧ a ∈ ks.map (·.2) ∧ ow a = who ∧ H a = some (.lst vs) ∧ Reps K (pubH ow H) ds vs
  | [], [], _, k => valV_nil
  | q :: kvs, r :: ks, ⟨e, h, ⟨vs, h1, h2⟩, t⟩, k => by
    unfold lookL
    by_cases c : q.1 = k
    · rw [if_pos c]
      exact ⟨r.2, vs, valV_pos (p := (r.1, V.ref r.2)) (by rw [← e]; exact c), by simp, h, h1, h2⟩
    · rw [if_neg c]
      have ih := DilAt.look t k
      have ev : valV (dilV (r :: ks)) k = valV (dilV ks) k := valV_neg (p := (r.1, V.ref r.2)) (by rw [← e]; exact c)
      rw [ev]
      cases e2 : lookL kvs k with
      | none => rw [e2] at ih; exact ih
      | some ds =>
        rw [e2] at ih
        obtain ⟨a, vs, q1, q2, q3⟩ := ih
        exact ⟨a, vs, q1, by rw [List.map_cons]; exact List.mem_cons_of_mem _ q2, q3⟩
theorem DilAt.has : ∀ {kvs : List (Key × List D)} {ks : List (Key × Addr)}, DilAt K H ow who kvs ks → ∀ k, hasK kvs k = (valV (dilV ks) k).isSome
  | [], [], _, k => rfl
  | q :: kvs, r :: ks, ⟨e, _, _, t⟩, k => by
    unfold hasK
    rw [List.any_cons]
    by_cases c : q.1 = k
    · rw [valV_pos (p := (r.1, V.ref r.2)) (r := dilV ks) (by rw [← e]; exact c) |> (show valV (dilV (r :: ks)) k = _ from ·)]
      simp [c]
    · rw [(show valV (dilV (r :: ks)) k = valV (dilV ks) k from valV_neg (p := (r.1, V.ref r.2)) (by rw [← e]; exact c)), ← DilAt.has t k]
      simp [c, hasK]
theorem DilAt.len : ∀ {kvs : List (Key × List D)} {ks : List (Key × Addr)}, DilAt K H ow who kvs ks → ks.length = kvs.length
  | [], [], _ => rfl
  | _ :: _, _ :: _, ⟨_, _, _, t⟩ => by rw [List.length_cons, List.length_cons, DilAt.len t]
theorem DilAt.snoc : ∀ {kvs : List (Key × List D)} {ks : List (Key × Addr)}, DilAt K H ow who kvs ks → ∀ {k : Key} {a : Addr}, ow a = who → H a = some (.lst []) → DilAt K H ow who (kvs ++ [(k, [])]) (ks ++ [(k, a)])
  | [], [], _, _, _, h1, h2 => ⟨rfl, h1, ⟨[], h2, .nil⟩, trivial⟩
  | _ :: _, _ :: _, ⟨e, h, v, t⟩, _, _, h1, h2 => ⟨e, h, v, DilAt.snoc t h1 h2⟩
/-- a list grows -/
theorem DilAt.app : ∀ {kvs : List (Key × List D)} {ks : List (Key × Addr)}, DilAt K H ow who kvs ks → (ks.map (·.2)).Nodup → ∀ {k : Key} {a : Addr} {ds : List D} {vs : List V} {d : D} {v : V}, lookL kvs k = some ds → valV (dilV ks) k = some (.ref a) → H a = some (.lst vs) → Reps K (pubH ow H) ds vs → Rep K (pubH ow H) d v → who ≠ .pub →
    DilAt K (upd H a (.lst (vs ++ [v]))) ow who (appK kvs k d) ks
  | [], [], _, _, _, _, _, _, _, _, h, _, _, _, _, _ => by cases h
  | q :: kvs, r :: ks, ⟨e, h, ⟨us, h1, h2⟩, t⟩, nd, k, a, ds, vs, d, v, hl, hv, ha, hr, hd, hw => by
    rw [List.map_cons, List.nodup_cons] at nd
    have pu : ow a = who → pubH ow (upd H a (.lst (vs ++ [v]))) = pubH ow H := fun z => pubH_upd (by rw [z]; exact hw)
    unfold appK
    unfold lookL at hl
    by_cases c : q.1 = k
    · rw [if_pos c] at hl ⊢
      have ev : valV (dilV (r :: ks)) k = some (.ref r.2) := valV_pos (p := (r.1, V.ref r.2)) (by rw [← e]; exact c)
      rw [ev] at hv
      cases hv; cases hl
      rw [h1] at ha; cases ha
      refine ⟨e, h, ⟨_, upd_same, ?_⟩, ?_⟩
      · rw [pu h]; exact hr.append (.cons hd .nil)
      · have sp : Same (pubH ow H) (pubH ow (upd H r.2 (.lst (us ++ [v])))) := by rw [pu h]; exact Same.refl _
        have key : ∀ {kvs : List (Key × List D)} {ks : List (Key × Addr)}, r.2 ∉ ks.map (·.2) → DilAt K H ow who kvs ks → DilAt K (upd H r.2 (.lst (us ++ [v]))) ow who kvs ks := by
          intro kvs
          induction kvs with
          | nil => intro ks _ h; cases ks with | nil => exact trivial | cons _ _ => exact h.elim
          | cons q kvs ih =>
            intro ks hn h
            cases ks with
            | nil => exact h.elim
            | cons r' ks =>
              obtain ⟨e, h, ⟨ws, g1, g2⟩, t⟩ := h
              rw [List.map_cons] at hn
              exact ⟨e, h, ⟨ws, by rw [upd_ne (fun z => hn (by rw [← z]; exact List.mem_cons_self))]; exact g1, g2.mono sp⟩, ih (fun z => hn (List.mem_cons_of_mem _ z)) t⟩
        exact key nd.1 t
    · rw [if_neg c] at hl ⊢
      have ev : valV (dilV (r :: ks)) k = valV (dilV ks) k := valV_neg (p := (r.1, V.ref r.2)) (by rw [← e]; exact c)
      rw [ev] at hv
      have mem := DilAt.look t k
      rw [hl] at mem
      obtain ⟨a', vs', m1, m2, m3, _⟩ := mem
      rw [hv] at m1; cases m1
      refine ⟨e, h, ⟨us, ?_, ?_⟩, DilAt.app t nd.2 hl hv ha hr hd hw⟩
      · rw [upd_ne (fun z => nd.1 (by rw [z]; exact m2))]; exact h1
      · rw [pu m3]; exact h2
end
theorem dilV_app (ks : List (Key × Addr)) (k : Key) (a : Addr) : dilV (ks ++ [(k, a)]) = dilV ks ++ [(k, .ref a)] := by unfold dilV; rw [List.map_append]; rfl
section
variable {X : Cx} {B : Bd} {W : WX} {fl fl1 fl' flL : List Bool} {pos p p1 p2 q : Pos} {a b : Expr} {o o' : Opd} {k : Nat}
/-! ### d.setdefault(k, []) -/
def setdK (kvs : List (Key × List D)) (k : Key) : List (Key × List D) := if hasK kvs k = true then kvs else kvs ++ [(k, [])]
def setdS (i : Nat) (fk : ValF) : StF := fun ρ => match (ρ[i]? : Option (Option D)) with
  | some (some (.dil _)) => (fk ρ).out fun k ρ1 => match (ρ1[i]? : Option (Option D)) with
    | some (some (.dil kvs)) => match keyD k with
      | some k => if kvs.length < lim then .nx (ρ1.set i (some (.dil (setdK kvs k)))) else .no
      | none => .no
    | _ => .no
  | _ => .no
/-- the dict at p gets a new empty list, if it has none there -/
theorem ERo.setd {K : PySem.W.Frag} {ow : Addr → Ow} {σ : St} {H : Hp} {ρ : Env} {T : List (D × V)} (E : ERo K B fl ow σ H ρ T) {i : Nat} {c : Addr} {kvs : List (Key × List D)} {k : Key} (hf : fl[i]? = some true) (hσ : σ[i]? = some (some (.ref c))) (hρ : ρ[i]? = some (some (.dil kvs))) (o : OwnAt K H ow (.slot i) c (.dil kvs)) {L : Addr} (hL : H L = none) :
    ∃ ks : List (Key × Addr), ow c = .slot i ∧ H c = some (.dK (dilV ks)) ∧ ks.length = kvs.length ∧
      ((hasK kvs k = true ∧ (∃ v, valV (dilV ks) k = some v) ∧ ∃ ow', ERo K B fl ow' σ (upd H L (.lst [])) (ρ.set i (some (.dil kvs))) T) ∨
       (hasK kvs k = false ∧ valV (dilV ks) k = none ∧ putK (dilV ks) k (.ref L) = dilV (ks ++ [(k, L)]) ∧ ∃ ow', ERo K B fl ow' σ (upd (upd H L (.lst [])) c (.dK (dilV (ks ++ [(k, L)])))) (ρ.set i (some (.dil (kvs ++ [(k, [])])))) T)) := by
  obtain ⟨h1, ks, h2, h3, h4⟩ := o
  refine ⟨ks, h1, h2, h4.len, ?_⟩
  have hh := h4.has k
  have s : Same H (upd H L (.lst [])) := same_new hL
  have hid : ρ.set i (some (.dil kvs)) = ρ := by
    obtain ⟨l, e⟩ := List.getElem?_eq_some_iff.mp hρ
    rw [← e, List.set_getElem_self]
  by_cases c1 : hasK kvs k = true
  · left
    rw [c1] at hh
    refine ⟨c1, Option.isSome_iff_exists.mp hh.symm, ow, ?_⟩
    rw [hid]
    exact E.mono s
  · right
    have c1 : hasK kvs k = false := by simpa using c1
    rw [c1] at hh
    have hv : valV (dilV ks) k = none := by simpa using hh.symm
    refine ⟨c1, hv, by rw [putK_new _ hv, dilV_app], setOw ow L (.slot i), ?_⟩
    obtain ⟨E2, o2⟩ := ERo.holdW (w := .slot i) (d := .lst []) (fun z => nomatch z) E hL s ⟨[], upd_same, .nil⟩
    obtain ⟨c', e1, o3⟩ := E2.hd i _ hρ hf
    rw [hσ] at e1; cases e1
    obtain ⟨g1, ks', g2, g3, g4⟩ := o3
    have nc : c ≠ L := fun z => by rw [z, hL] at h2; cases h2
    rw [upd_ne nc, h2] at g2
    have ek : ks' = ks := by
      have g2' : dilV ks = dilV ks' := by injection g2 with g2; injection g2
      have : ∀ {a b : List (Key × Addr)}, dilV a = dilV b → a = b := by
        intro a
        induction a with
        | nil => intro b e; cases b with | nil => rfl | cons _ _ => cases e
        | cons x a ih =>
          intro b e
          cases b with
          | nil => cases e
          | cons y b =>
            unfold dilV at e
            rw [List.map_cons, List.map_cons, List.cons.injEq, Prod.mk.injEq] at e
            obtain ⟨⟨e1, e2⟩, e3⟩ := e
            injection e2 with e2
            rw [ih e3, Prod.ext e1 e2]
      exact (this g2').symm
    subst ek
    have n0 : setOw ow L (.slot i) c ≠ .pub := by rw [g1]; exact fun z => nomatch z
    refine E2.change1 hf hσ g1 ⟨g1, ks' ++ [(k, L)], upd_same, ?_, ?_⟩
    · rw [List.map_append, List.nodup_append]
      refine ⟨g3, by simp, fun x hx y hy => ?_⟩
      have : y = L := by simpa using hy
      rw [this]
      rintro rfl
      have key : ∀ {kvs : List (Key × List D)} {ks : List (Key × Addr)}, DilAt K H ow (.slot i) kvs ks → ∀ x ∈ ks.map (·.2), H x ≠ none := by
        intro kvs
        induction kvs with
        | nil => intro ks h x hx; cases ks with | nil => cases hx | cons _ _ => exact h.elim
        | cons q kvs ih =>
          intro ks h x hx
          cases ks with
          | nil => cases hx
          | cons r ks =>
            obtain ⟨_, _, ⟨vs, q1, _⟩, t⟩ := h
            rw [List.map_cons] at hx
            rcases List.mem_cons.mp hx with rfl | hx
            · rw [q1]; exact fun z => nomatch z
            · exact ih t x hx
      exact key h4 _ hx hL
    · have sp : Same (pubH (setOw ow L (.slot i)) (upd H L (.lst []))) (pubH (setOw ow L (.slot i)) (upd (upd H L (.lst [])) c (.dK (dilV (ks' ++ [(k, L)]))))) := by rw [pubH_upd n0]; exact Same.refl _
      have mv : ∀ {kvs : List (Key × List D)} {ks : List (Key × Addr)}, DilAt K (upd H L (.lst [])) (setOw ow L (.slot i)) (.slot i) kvs ks → DilAt K (upd (upd H L (.lst [])) c (.dK (dilV (ks' ++ [(k, L)])))) (setOw ow L (.slot i)) (.slot i) kvs ks := by
        intro kvs
        induction kvs with
        | nil => intro ks h; cases ks with | nil => exact trivial | cons _ _ => exact h.elim
        | cons q kvs ih =>
          intro ks h
          cases ks with
          | nil => exact h.elim
          | cons r ks =>
            obtain ⟨e, h, ⟨vs, q1, q2⟩, t⟩ := h
            refine ⟨e, h, ⟨vs, ?_, q2.mono sp⟩, ih t⟩
            rw [upd_ne fun z => by rw [z, upd_ne nc, h2] at q1; cases q1]; exact q1
      exact mv (g4.snoc setOw_same upd_same)
theorem psv_setd {ke oe : Expr} {fk : ValF} {i : Nat} {apos cpos spos lp : Pos} (ho : PE X oe (tVar i)) (hk : PV X B W fl ke fk) (hf : fl[i]? = some true := by rfl) (m : M2 X oe "setdefault" apos ke (.List [] lp) cpos := by exact ⟨rfl, rfl, rfl, rfl⟩) (hs : swapsWith (.Call (.Attribute oe "setdefault" apos) [ke, .List [] lp] [] cpos) none spos.line X.env = pure false := by rfl) :
    PSv X B W flL fl fl (.Expr (.Call (.Attribute oe "setdefault" apos) [ke, .List [] lp] [] cpos) spos) (setdS i fk) :=
  PS.svT (ps_expr (pe_dsetd ho hk.pe (pe_lst pa_nil) m) hs) fun D σ H ρ T E q => by
    unfold setdS at q
    split at q
    · rename_i kv0 e0
      obtain ⟨ow0, E0⟩ := id E
      obtain ⟨c, e1, o0⟩ := E0.hd i _ e0 hf
      obtain ⟨_, ks0, h0, _⟩ := o0
      refine ⟨_, e1, c, rfl, .inl ⟨_, .inl h0⟩, ?_⟩
      refine evT_out E q fun kd ρ1 ow v H1 e2 E1 r1 q => ?_
      split at q
      · rename_i kvs e3
        split at q
        · rename_i k ek
          split at q
          · rename_i hl
            refine ⟨show 0 ≤ sizeLine from Nat.zero_le _, fun L hL => ?_⟩
            obtain ⟨c', e4, o1⟩ := E1.hd i _ e3 hf
            rw [e1] at e4; cases e4
            obtain ⟨ks, w1, w2, w3, w4⟩ := E1.setd (k := k) hf e1 e3 o1 hL
            have nc : c ≠ L := fun z => by rw [z, hL] at w2; cases w2
            refine ⟨dilV ks, k, by rw [upd_ne nc]; exact w2, keyD_rep r1 ek, by unfold dilV; rw [List.length_map, w3]; exact lim_lt (by omega), ?_⟩
            unfold setdK at q
            rcases w4 with ⟨c1, ⟨v', hv⟩, ow', E'⟩ | ⟨c1, hv, pk, ow', E'⟩
            · rw [if_pos c1] at q
              exact ⟨fun v hv => q _ _ ⟨ow', E'⟩, fun z => by rw [hv] at z; cases z⟩
            · rw [if_neg (by rw [c1]; exact Bool.false_ne_true)] at q
              exact ⟨fun v z => (by rw [hv] at z; cases z), fun _ => (by rw [pk]; exact q _ _ ⟨ow', E'⟩)⟩
          · exact q.elim
        · exact q.elim
      · exact q.elim
    · exact q.elim
/-! ### d[k].append(x), x a name -/
def dappE (i j : Nat) (k : Key) (ρ : Env) : Out := match (ρ[i]? : Option (Option D)), (ρ[j]? : Option (Option D)) with
  | some (some (.dil kvs)), some (some d) => match lookL kvs k with
    | some ds => if ds.length < lim then .nx (ρ.set i (some (.dil (appK kvs k d)))) else .no
    | none => .no
  | _, _ => .no
def dappS (i j : Nat) (fk : ValF) : StF := fun ρ => match (ρ[i]? : Option (Option D)) with
  | some (some (.dil _)) => (fk ρ).out fun k ρ1 => match keyD k with
    | some k => dappE i j k ρ1
    | none => .no
  | _ => .no
theorem ERo.dapp {K : PySem.W.Frag} {ow : Addr → Ow} {σ : St} {H : Hp} {ρ : Env} {T : List (D × V)} (E : ERo K B fl ow σ H ρ T) {i j : Nat} {c : Addr} {kvs : List (Key × List D)} {k : Key} {ds : List D} {d : D} (hf : fl[i]? = some true) (hj : fl[j]? ≠ some true) (hσ : σ[i]? = some (some (.ref c))) (hρ : ρ[i]? = some (some (.dil kvs))) (hd : ρ[j]? = some (some d)) (hl : lookL kvs k = some ds) :
    ∃ (ks : List (Key × Addr)) (a : Addr) (vs : List V) (v : V), H c = some (.dK (dilV ks)) ∧ valV (dilV ks) k = some (.ref a) ∧ H a = some (.lst vs) ∧ vs.length = ds.length ∧ σ[j]? = some (some v) ∧ ERo K B fl ow σ (upd H a (.lst (vs ++ [v]))) (ρ.set i (some (.dil (appK kvs k d)))) T := by
  obtain ⟨c', e1, h1, ks, h2, h3, h4⟩ := E.hd i _ hρ hf
  rw [hσ] at e1; cases e1
  have lk := h4.look k
  rw [hl] at lk
  obtain ⟨a, vs, g1, g2, g3, g4, g5⟩ := lk
  obtain ⟨v, hv, rv⟩ := E.sh j d hd hj
  refine ⟨ks, a, vs, v, h2, g1, g4, g5.length.symm, hv, ?_⟩
  have na : ow a ≠ .pub := by rw [g3]; exact fun z => nomatch z
  have nca : c ≠ a := fun z => by rw [z, g4] at h2; cases h2
  refine E.change hf hσ (fun b o hb ho => ?_) (fun b hb => ?_) ⟨h1, ks, ?_, h3, ?_⟩
  · rw [upd_ne fun z => hb (by rw [z]; exact g3)]; exact ho
  · by_cases e : b = a
    · subst e
      refine ⟨?_, fun vs z => ?_⟩
      · rw [upd_same]; exact fun z => nomatch z
      · rw [upd_same] at z; cases z
    · exact (E.mu (by rw [hb]; exact fun z => nomatch z)).mono fun o q => by rw [upd_ne e]; exact q
  · rw [upd_ne nca]; exact h2
  · exact h4.app h3 hl g1 g4 g5 rv (fun z => nomatch z)
theorem psv_dapp {ke oe je : Expr} {fk : ValF} {i j : Nat} {ap sp2 apos cpos spos : Pos} (hr : Room k X.A) (ho : PE X oe (tVar i)) (hk : PV X B W fl ke fk) (hj : PE X je (tVar j)) (hf : fl[i]? = some true := by rfl) (hfj : fl[j]? = some false := by rfl) (hns : NoSl ke := by intro _ _; rfl)
    (mk : ∀ to, PE X (.Subscript oe ke sp2) to → PE X (.Call (.Attribute (.Subscript oe ke sp2) "append" apos) [je] [] cpos) (tBM X.K "list" rAppend to (tCons (tVar j) tNil)))
    (hs : swapsWith (.Call (.Attribute (.Subscript oe ke sp2) "append" apos) [je] [] cpos) none spos.line X.env = pure false := by rfl) :
    PSv X B W flL fl fl (.Expr (.Call (.Attribute (.Subscript oe ke sp2) "append" apos) [je] [] cpos) spos) (dappS i j fk) :=
  PS.svT (ps_expr (mk _ (pe_dget (hu_of hr) ho hk.pe hns)) hs) fun D σ H ρ T E q => by
    unfold dappS at q
    split at q
    · rename_i kv0 e0
      obtain ⟨ow0, E0⟩ := id E
      obtain ⟨c, e1, o0⟩ := E0.hd i _ e0 hf
      refine ⟨_, e1, ?_⟩
      refine evT_out E q fun kd ρ1 ow v H1 e2 E1 r1 q => ?_
      split at q
      · rename_i k ek
        unfold dappE at q
        split at q
        · rename_i kvs d e3 e4
          split at q
          · rename_i ds hl
            split at q
            · rename_i hz
              obtain ⟨ks, a, vs, w, g1, g2, g3, g4, g5, E2⟩ := E1.dapp hf (by rw [hfj]; exact fun z => nomatch z) e1 e3 e4 hl
              refine ⟨c, .ref a, rfl, .inl ⟨dilV ks, k, .inl g1, keyD_rep r1 ek, g2.symm⟩, ?_⟩
              refine ⟨.inl ⟨rfl, vs, .inl (.inl g3)⟩, w, g5, a, vs, w, rfl, rfl, g3, by rw [g4]; exact lim_lt (by omega), ?_⟩
              exact q _ _ ⟨ow, E2⟩
            · exact q.elim
          · exact q.elim
        · exact q.elim
      · exact q.elim
    · exact q.elim
/-! ### d.setdefault(k, []).append(x), x a name -/
def sdappS (i j : Nat) (fk : ValF) : StF := fun ρ => match (ρ[i]? : Option (Option D)) with
  | some (some (.dil _)) => (fk ρ).out fun k ρ1 => match (ρ1[i]? : Option (Option D)) with
    | some (some (.dil kvs)) => match keyD k with
      | some k => if kvs.length < lim then dappE i j k (ρ1.set i (some (.dil (setdK kvs k)))) else .no
      | none => .no
    | _ => .no
  | _ => .no
theorem psv_sdapp {ke oe je : Expr} {fk : ValF} {i j : Nat} {ap sp2 ap2 apos cpos cpos2 spos lp : Pos} (ho : PE X oe (tVar i)) (hk : PV X B W fl ke fk) (hj : PE X je (tVar j)) (hij : i ≠ j := by decide) (hf : fl[i]? = some true := by rfl) (hfj : fl[j]? = some false := by rfl)
    (m : M2 X oe "setdefault" ap2 ke (.List [] lp) cpos2 := by exact ⟨rfl, rfl, rfl, rfl⟩)
    (mk : ∀ to, PE X (.Call (.Attribute oe "setdefault" ap2) [ke, .List [] lp] [] cpos2) to → PE X (.Call (.Attribute (.Call (.Attribute oe "setdefault" ap2) [ke, .List [] lp] [] cpos2) "append" apos) [je] [] cpos) (tBM X.K "list" rAppend to (tCons (tVar j) tNil)))
    (hs : swapsWith (.Call (.Attribute (.Call (.Attribute oe "setdefault" ap2) [ke, .List [] lp] [] cpos2) "append" apos) [je] [] cpos) none spos.line X.env = pure false := by rfl) :
    PSv X B W flL fl fl (.Expr (.Call (.Attribute (.Call (.Attribute oe "setdefault" ap2) [ke, .List [] lp] [] cpos2) "append" apos) [je] [] cpos) spos) (sdappS i j fk) :=
  PS.svT (ps_expr (mk _ (pe_dsetd ho hk.pe (pe_lst pa_nil) m)) hs) fun D σ H ρ T E q => by
    unfold sdappS at q
    split at q
    · rename_i kv0 e0
      obtain ⟨ow0, E0⟩ := id E
      obtain ⟨c, e1, o0⟩ := E0.hd i _ e0 hf
      obtain ⟨_, ks0, h0, _⟩ := o0
      refine ⟨_, e1, c, rfl, .inl ⟨_, .inl h0⟩, ?_⟩
      refine evT_out E q fun kd ρ1 ow v H1 e2 E1 r1 q => ?_
      split at q
      · rename_i kvs e3
        split at q
        · rename_i k ek
          split at q
          · rename_i hl
            refine ⟨show 0 ≤ sizeLine from Nat.zero_le _, fun L hL => ?_⟩
            obtain ⟨c', e4, o1⟩ := E1.hd i _ e3 hf
            rw [e1] at e4; cases e4
            have li : i < ρ1.length := (List.getElem?_eq_some_iff.mp e3).1
            obtain ⟨ks, w1, w2, w3, w4⟩ := E1.setd (k := k) hf e1 e3 o1 hL
            have nc : c ≠ L := fun z => by rw [z, hL] at w2; cases w2
            refine ⟨dilV ks, k, by rw [upd_ne nc]; exact w2, keyD_rep r1 ek, by unfold dilV; rw [List.length_map, w3]; exact lim_lt (by omega), ?_⟩
            have fin : ∀ (ow' : Addr → Ow) (H2 : Hp) (ks2 : List (Key × Addr)) (kvs2 : List (Key × List Pv.D)) (v' : V), ERo X.K B fl ow' σ H2 (ρ1.set i (some (.dil kvs2))) T → H2 c = some (.dK (dilV ks2)) → valV (dilV ks2) k = some v' → OutQ X.K B W fl flL T D (dappE i j k (ρ1.set i (some (.dil kvs2)))) →
                tyV X.K "list" v' H2 ∧ ∃ w, σ[j]? = some (some w) ∧ rAppend v' [w] H2 fun _ H3 => D.nx σ H3 := fun ow' H2 ks2 kvs2 v' E2 hc hv q => by
              unfold dappE at q
              rw [List.getElem?_set_self li] at q
              split at q
              · rename_i kvs' d e3 e4
                cases e3
                split at q
                · rename_i ds hl2
                  split at q
                  · obtain ⟨ks3, a, vs, w, g1, g2, g3, g4, g5, E3⟩ := E2.dapp hf (by rw [hfj]; exact fun z => nomatch z) e1 (List.getElem?_set_self li) e4 hl2
                    rw [hc] at g1
                    have ek : dilV ks3 = dilV ks2 := by injection g1 with g1; injection g1 with g1; exact g1.symm
                    rw [ek, hv] at g2
                    cases g2
                    exact ⟨.inl ⟨rfl, vs, .inl (.inl g3)⟩, w, g5, a, vs, w, rfl, rfl, g3, by rw [g4]; exact lim_lt (by omega), q _ _ ⟨ow', E3⟩⟩
                  · exact q.elim
                · exact q.elim
              · exact q.elim
            unfold setdK at q
            rcases w4 with ⟨c1, ⟨v', hv⟩, ow', E'⟩ | ⟨c1, hv, pk, ow', E'⟩
            · rw [if_pos c1] at q
              exact ⟨fun v hv => fin ow' _ ks kvs v E' (by rw [upd_ne nc]; exact w2) hv q, fun z => by rw [hv] at z; cases z⟩
            · rw [if_neg (by rw [c1]; exact Bool.false_ne_true)] at q
              refine ⟨fun v z => (by rw [hv] at z; cases z), fun _ => ?_⟩
              rw [pk]
              refine fin ow' _ (ks ++ [(k, L)]) _ _ E' upd_same ?_ q
              rw [← pk, valV_put, if_pos rfl]
          · exact q.elim
        · exact q.elim
      · exact q.elim
    · exact q.elim
/-! ### x not in d[k] -/
def nindF (fx : ValF) (i : Nat) (fk : ValF) : ValF := fun ρ => (fx ρ).bind fun x ρ1 => match (ρ1[i]? : Option (Option D)) with
  | some (some (.dil _)) => (fk ρ1).bind fun k ρ2 => match (ρ2[i]? : Option (Option D)), keyD k with
    | some (some (.dil kvs)), some k => match lookL kvs k with
      | some ds => ofO (ninD x (.lst ds)) ρ2
      | none => .no
    | _, _ => .no
  | _ => .no
theorem ptv_nind {e oe ke : Expr} {fx fk : ValF} {i : Nat} {sp2 : Pos} (hr : Room k X.A) (he : PV X B W fl e fx) (ho : PE X oe (tVar i)) (hk : PV X B W fl ke fk) (hf : fl[i]? = some true := by rfl) (hns : NoSl ke := by intro _ _; rfl) (hm : behindInMarks .NotIn (.Subscript oe ke sp2) = false := by rfl) :
    PTv X B W fl (.Compare e [.NotIn] [.Subscript oe ke sp2] pos) (nindF fx i fk) :=
  ⟨PT.weaken (pt_cmpR (op_ninP hr) he.pe (pe_dget (hu_of hr) ho hk.pe hns) hm) fun σ H Q h => by
    obtain ⟨ρ, T, E, q⟩ := evB_T h
    obtain ⟨hn, hx, hkk⟩ := evT_no q
    unfold nindF at hn hx hkk
    refine evT_k E hn hx fun x ρ1 u H1 h1 E1 => ?_
    rw [h1] at hn hx hkk
    split at hn
    · rename_i kv0 e0
      try rw [e0] at hx hkk
      try dsimp only at hx hkk
      obtain ⟨ow1, E1o⟩ := id E1
      obtain ⟨c, e1, o0⟩ := E1o.hd i _ e0 hf
      refine ⟨_, e1, ?_⟩
      refine evT_k E1 hn (fun x ρ' e dx H' E' z => hx x ρ' e dx H' (E'.sub fun q hq => List.mem_cons_of_mem _ hq) z) fun kd ρ2 v H2 h2 E2 => ?_
      rw [h2] at hn hkk
      split at hn
      · rename_i kvs k e3 ek
        split at hn
        · rename_i ds hl
          obtain ⟨ow, E2⟩ := E2
          obtain ⟨c', e4, g1, ks, g2, g3, g4⟩ := E2.hd i _ e3 hf
          rw [e1] at e4; cases e4
          have lk := g4.look k
          rw [hl] at lk
          obtain ⟨a, vs, l1, l2, l3, l4, l5⟩ := lk
          refine ⟨c, .ref a, rfl, .inl ⟨dilV ks, k, .inl g2, keyD_rep E2.top ek, l1.symm⟩, ?_⟩
          obtain ⟨z, hz⟩ := ofO_ne hn
          refine o_nin (fun a => ow a ≠ .pub) H2 x (.lst ds) u (.ref a) z _ E2.live (.val (E2.tmp (x, u) (by simp))) (.lst l4 l5) hz fun w H3 s r => ?_
          refine hkk z ρ2 (by try rw [e3, ek]; try dsimp only; try rw [hl]; try dsimp only; rw [hz]; rfl) w H3 ⟨ow, ((E2.sub fun q hq => List.mem_cons_of_mem _ (List.mem_cons_of_mem _ hq)).mono s).push r⟩
        · exact absurd rfl hn
      · exact absurd rfl hn
    · exact absurd rfl hn⟩
end
end Pv

/-! Pv20: a dict that is walked: it is locked meanwhile. -/
noncomputable section
namespace Pv
open PySem PySem.Spec L2
open PyProof.Rows hiding St
def isDc : HO → Bool
  | .dK _ => true
  | .dT _ => true
  | _ => false
/-- the same but for locks of dicts -/
def LR (H H' : Hp) : Prop := ∀ a o, H a = some o → H' a = some o ∨ ∃ od u, isDc u = true ∧ ((o = u ∧ H' a = some (.frz od u)) ∨ (o = .frz od u ∧ H' a = some u))
theorem LR.hide {H H' : Hp} (l : LR H H') (N : Addr → Prop) : LR (hide N H) (hide N H') := fun a o e => by
  obtain ⟨e1, e2⟩ := hide_some.mp e
  rcases l a o e2 with h | ⟨od, u, d, h⟩
  · exact .inl (hide_some.mpr ⟨e1, h⟩)
  · refine .inr ⟨od, u, d, h.imp (fun h => ⟨h.1, hide_some.mpr ⟨e1, h.2⟩⟩) fun h => ⟨h.1, hide_some.mpr ⟨e1, h.2⟩⟩⟩
theorem LR.flat {H H' : Hp} (l : LR H H') {a : Addr} {o : HO} (e : H a = some o) (n1 : isDc o = false) (n2 : ∀ od u, o ≠ .frz od u) : H' a = some o := by
  rcases l a o e with h | ⟨od, u, d, h | h⟩
  · exact h
  · rw [h.1, d] at n1; cases n1
  · exact absurd h.1 (n2 od u)
theorem LR.rd {H H' : Hp} (l : LR H H') {a : Addr} {u : HO} (d : isDc u = true) (e : Rd H a u) : Rd H' a u := by
  rcases e with e | ⟨o, e⟩
  · rcases l a _ e with h | ⟨od, u', d', h | h⟩
    · exact .inl h
    · rw [h.1]; exact .inr ⟨od, h.2⟩
    · rw [h.1] at d; cases d
  · rcases l a _ e with h | ⟨od, u', d', h | h⟩
    · exact .inr ⟨o, h⟩
    · rw [← h.1] at d'; cases d'
    · have := h.1
      cases this
      exact .inl h.2
mutual
theorem Rep.lr {K : PySem.W.Frag} {h h' : Hp} (l : LR h h') {d : D} {v : V} : Rep K h d v → Rep K h' d v
  | .non => .non
  | .bl b => .bl b
  | .int i => .int i
  | .str x => .str x
  | .lst e r => .lst (l.flat e rfl fun _ _ z => nomatch z) (Reps.lr l r)
  | .tup e r => .tup (l.flat e rfl fun _ _ z => nomatch z) (Reps.lr l r)
  | .dik e k r => .dik (l.rd rfl e) k (Reps.lr l r)
  | .dit e k r => .dit (l.rd rfl e) k (Reps.lr l r)
  | .ins e k r => .ins (l.flat e rfl fun _ _ z => nomatch z) k (Reps.lr l r)
  | .ref a => .ref a
  | .ty n => .ty n
theorem Reps.lr {K : PySem.W.Frag} {h h' : Hp} (l : LR h h') {ds : List D} {vs : List V} : Reps K h ds vs → Reps K h' ds vs
  | .nil => .nil
  | .cons r t => .cons (Rep.lr l r) (Reps.lr l t)
end
section
variable {K : PySem.W.Frag} {H H' : Hp} {ow : Addr → Ow} {who : Ow}
theorem DilAt.lr (l : LR H H') : ∀ {kvs : List (Key × List D)} {ks : List (Key × Addr)}, DilAt K H ow who kvs ks → DilAt K H' ow who kvs ks
  | [], [], _ => trivial
  | _ :: _, _ :: _, ⟨e, h, ⟨vs, h1, h2⟩, t⟩ => ⟨e, h, ⟨vs, l.flat h1 rfl (fun _ _ z => nomatch z), h2.lr (l.hide _)⟩, DilAt.lr l t⟩
theorem lolAt.lr (l : LR H H') : ∀ {kvs : List (List D)} {ks : List Addr}, lolAt K H ow who kvs ks → lolAt K H' ow who kvs ks
  | [], [], _ => trivial
  | _ :: _, _ :: _, ⟨h, ⟨vs, h1, h2⟩, t⟩ => ⟨h, ⟨vs, l.flat h1 rfl (fun _ _ z => nomatch z), h2.lr (l.hide _)⟩, lolAt.lr l t⟩
theorem FRep.lr {K : PySem.W.Frag} {h h' : Hp} (l : LR h h') {f : Str} {la : Addr} : ∀ {fs : List (Str × D)} {gs : List (Str × V)}, FRep K h f la fs gs → FRep K h' f la fs gs
  | [], [], _ => trivial
  | q :: fs, r :: gs, ⟨e, a, t⟩ => ⟨e, by
    by_cases c : q.1 = f
    · rw [if_pos c] at a ⊢; exact a
    · rw [if_neg c] at a ⊢; exact a.lr l, FRep.lr l t⟩
/-- a held object, where no dict of the holder's is locked or freed -/
theorem OwnAt.lr (l : LR H H') (kd : ∀ a o, ow a = who → isDc o = true → H a = some o → H' a = some o) {p : Addr} {d : D} (h : OwnAt K H ow who p d) : OwnAt K H' ow who p d := by
  cases d with
  | lst ds => obtain ⟨e, vs, h1, h2⟩ := h; exact ⟨e, vs, l.flat h1 rfl (fun _ _ z => nomatch z), h2.lr (l.hide _)⟩
  | dik kvs => obtain ⟨e, ks, h1, h2, h3⟩ := h; exact ⟨e, ks, kd _ _ e rfl h1, h2, h3.lr (l.hide _)⟩
  | dit kvs => obtain ⟨e, ks, h1, h2, h3⟩ := h; exact ⟨e, ks, kd _ _ e rfl h1, h2, h3.lr (l.hide _)⟩
  | ins C fs => obtain ⟨e, dx, gs, h1, h2, h3⟩ := h; exact ⟨e, dx, gs, l.flat h1 rfl (fun _ _ z => nomatch z), h2, h3.lr (l.hide _)⟩
  | rnd la s' cs i => obtain ⟨e, h1, h2, h3, h4⟩ := h; exact ⟨e, h1, h2, l.flat h3 rfl (fun _ _ z => nomatch z), l.flat h4 rfl (fun _ _ z => nomatch z)⟩
  | dil kvs => obtain ⟨e, ks, h1, h2, h3⟩ := h; exact ⟨e, ks, kd _ _ e rfl h1, h2, h3.lr l⟩
  | lol kvs => obtain ⟨e, ks, h1, h2, h3, h4⟩ := h; exact ⟨e, ks, l.flat h1 rfl (fun _ _ z => nomatch z), h2, h3, h4.lr l⟩
  | ino C fs f xs => obtain ⟨e, dx, gs, la, vs, h1, h2, h3, h4, h5, h6⟩ := h; exact ⟨e, dx, gs, la, vs, l.flat h1 rfl (fun _ _ z => nomatch z), h2, h3, l.flat h4 rfl (fun _ _ z => nomatch z), h5.lr (l.hide _), h6.lr (l.hide _)⟩
  | _ => exact h.elim
end
theorem lr_lock {H : Hp} {c : Addr} {od : Obj} {u : HO} (h : H c = some u) (d : isDc u = true) : LR H (upd H c (.frz od u)) := fun a o e => by
  by_cases z : a = c
  · subst z
    rw [h] at e; cases e
    exact .inr ⟨od, u, d, .inl ⟨rfl, upd_same⟩⟩
  · exact .inl (by rw [upd_ne z]; exact e)
theorem lr_free {H : Hp} {c : Addr} {od : Obj} {u : HO} (h : H c = some (.frz od u)) (d : isDc u = true) : LR H (upd H c u) := fun a o e => by
  by_cases z : a = c
  · subst z
    rw [h] at e; cases e
    exact .inr ⟨od, u, d, .inr ⟨rfl, upd_same⟩⟩
  · exact .inl (by rw [upd_ne z]; exact e)
open Classical in
/-- the dict at c is locked -/
noncomputable def Bd.lock (B : Bd) (c : Addr) (o : HO) : Bd := ⟨B.M, fun a => if a = c then some o else B.H0 a, B.bor, B.fr⟩
section
variable {K : PySem.W.Frag} {B : Bd} {fl : List Bool} {ow : Addr → Ow} {σ : St} {H : Hp} {ρ : Env} {T : List (D × V)} {c : Addr} {od : Obj} {u : HO}
theorem lock_pos {o : HO} : (B.lock c o).H0 c = some o := if_pos rfl
theorem lock_neg {o : HO} {a : Addr} (h : a ≠ c) : (B.lock c o).H0 a = B.H0 a := if_neg h
theorem dc_mut (d : isDc u = true) : Mut (some u) := by cases u <;> first | trivial | cases d
theorem dc_tup (d : isDc u = true) : ∀ vs, u ≠ .tup vs := fun vs z => by rw [z] at d; cases d
theorem ERo.lock (E : ERo K B fl ow σ H ρ T) (h : H c = some u) (d : isDc u = true) (hp : ow c = .pub) : ERo K (B.lock c (.frz od u)) fl ow σ (upd H c (.frz od u)) ρ T := by
  have l : LR H (upd H c (.frz od u)) := lr_lock h d
  refine ⟨E.len, E.fll, E.frame, fun a q => ?_, E.nt2 (fun _ z => nomatch z), fun i d' h1 h2 => ?_, fun i d' h1 h2 => ?_, fun a q1 q2 => ?_, fun a o h1 h2 => ?_, fun q hq => (E.tmp q hq).lr (l.hide _), E.bown, E.b0⟩
  · by_cases e : a = c
    · rw [e, upd_same]; exact fun z => nomatch z
    · rw [upd_ne e]; exact E.live a q
  · obtain ⟨v, e, r⟩ := E.sh i d' h1 h2; exact ⟨v, e, r.lr (l.hide _)⟩
  · obtain ⟨p, e, o⟩ := E.hd i d' h1 h2
    refine ⟨p, e, o.lr l fun a o hw _ ho => ?_⟩
    rw [upd_ne fun z => by rw [z, hp] at hw; cases hw]; exact ho
  · have ne : a ≠ c := fun z => q1 (by rw [z]; exact hp)
    rw [lock_neg ne]; exact E.new a q1 q2
  · by_cases e : a = c
    · subst e; rw [lock_pos] at h1; cases h1; exact upd_same
    · rw [lock_neg e] at h1; rw [upd_ne e]; exact E.same a o h1 h2
/-- it is locked already -/
theorem ERo.lock0 (E : ERo K B fl ow σ H ρ T) (h : H c = some (.frz od u)) (hp : ow c = .pub) : ERo K (B.lock c (.frz od u)) fl ow σ H ρ T :=
  { E with
    new := fun a q1 q2 => by
      have ne : a ≠ c := fun z => q1 (by rw [z]; exact hp)
      rw [lock_neg ne]; exact E.new a q1 q2
    same := fun a o h1 h2 => by
      by_cases e : a = c
      · subst e; rw [lock_pos] at h1; cases h1; exact h
      · rw [lock_neg e] at h1; exact E.same a o h1 h2 }
theorem ERo.lockAt (E : ERo K (B.lock c (.frz od u)) fl ow σ H ρ T) (nb : c ∉ B.bor) : H c = some (.frz od u) := E.same c _ lock_pos nb
theorem ERo.free (E : ERo K (B.lock c (.frz od u)) fl ow σ H ρ T) (nb : c ∉ B.bor) (d : isDc u = true) (hB : ∀ o, B.H0 c = some o → o = u) : ERo K B fl ow σ (upd H c u) ρ T := by
  have h : H c = some (.frz od u) := E.lockAt nb
  have l : LR H (upd H c u) := lr_free h d
  refine ⟨E.len, E.fll, E.frame, fun a q => ?_, E.nt2 (dc_tup d), fun i d' h1 h2 => ?_, fun i d' h1 h2 => ?_, fun a q1 q2 => ?_, fun a o h1 h2 => ?_, fun q hq => (E.tmp q hq).lr (l.hide _), E.bown, E.b0⟩
  · by_cases e : a = c
    · rw [e, upd_same]; exact fun z => nomatch z
    · rw [upd_ne e]; exact E.live a q
  · obtain ⟨v, e, r⟩ := E.sh i d' h1 h2; exact ⟨v, e, r.lr (l.hide _)⟩
  · obtain ⟨p, e, o⟩ := E.hd i d' h1 h2
    refine ⟨p, e, o.lr l fun a o hw hd ho => ?_⟩
    by_cases z : a = c
    · rw [z, h] at ho; cases ho; cases hd
    · rw [upd_ne z]; exact ho
  · rcases E.new a q1 q2 with h' | h'
    · by_cases e : a = c
      · subst e; rw [lock_pos] at h'; cases h'
      · rw [lock_neg e] at h'; exact .inl h'
    · exact .inr h'
  · by_cases e : a = c
    · subst e; rw [hB o h1]; exact upd_same
    · rw [upd_ne e]; exact E.same a o (by rw [lock_neg e]; exact h1) h2
theorem ERo.free0 (E : ERo K (B.lock c (.frz od u)) fl ow σ H ρ T) (nb : c ∉ B.bor) (hB : ∀ o, B.H0 c = some o → o = .frz od u) : ERo K B fl ow σ H ρ T :=
  { E with
    new := fun a q1 q2 => by
      rcases E.new a q1 q2 with h' | h'
      · by_cases e : a = c
        · subst e; rw [lock_pos] at h'; cases h'
        · rw [lock_neg e] at h'; exact .inl h'
      · exact .inr h'
    same := fun a o h1 h2 => by
      by_cases e : a = c
      · subst e; rw [hB o h1]; exact E.lockAt nb
      · exact E.same a o (by rw [lock_neg e]; exact h1) h2 }
theorem OwnAt.free {K : PySem.W.Frag} {who : Ow} {p : Addr} {d : D} (h : H c = some (.frz od u)) (dc : isDc u = true) (o : OwnAt K H ow who p d) : OwnAt K (upd H c u) ow who p d := o.lr (lr_free h dc) fun a o _ hd ho => by
  by_cases z : a = c
  · rw [z, h] at ho; cases ho; cases hd
  · rw [upd_ne z]; exact ho
end
structure ItOkP (K : PySem.W.Frag) (J : It) (ds : List D) (Φ : (Addr → Prop) → Hp → Prop) : Prop where
  go : ∀ (N : Addr → Prop) (H : Hp) (i : Nat), (∀ a, N a → H a ≠ none) → Φ N H → i < ds.length → J.go i H
  stop : ∀ (N : Addr → Prop) (H : Hp), (∀ a, N a → H a ≠ none) → Φ N H → J.stop ds.length H
  yld : ∀ (N : Addr → Prop) (H : Hp) (i : Nat) (x : V) (H' : Hp), (∀ a, N a → H a ≠ none) → Φ N H → i < ds.length → J.yld i H x H' → Same H H' ∧ ∃ d, ds[i]? = some d ∧ Rep K (hide N H') d x
section
variable {X : Cx} {B : Bd} {W : WX} {fl fl1 fl' flL : List Bool} {pos p2 : Pos}
/-- the walk of a comprehension: at each turn the rest is still to come -/
theorem lc_walkP {Φ : (Addr → Prop) → Hp → Prop} {K : PySem.W.Frag} {J : It} {ds : List D} {src : List D} {vsrc : List V} {σ : St} {L : Addr} {T : List (D × V)} {tgt : TgtF} {g : TG} {own : List Nat} {ft : Option ValF} {fe : ValF} {Qd : Hp → Prop} {k : ARes → Prop} {H1 : Hp} {ρ0 : Env} {acc0 : List D} {vs0 : List V}
    (ok : ItOkP K J ds Φ) (hΦ : ∀ (ow : Addr → Ow) (H : Hp) (ρ : Env) (T' : List (D × V)) (vs : List V), ERo K (B.acc L vs) fl ow (wipe σ own) H ρ (src.zip vsrc ++ T') → Φ (fun a => ow a ≠ .pub) H) (nb : L ∉ B.bor) (h0 : 0 ∉ own ∨ B.bor = []) (to : TgOwn own g)
    (hg : ∀ (B' : Bd), B'.bor = B.bor → ∀ (ow : Addr → Ow) (σ : St) (H : Hp) (ρ : Env) (T : List (D × V)) (d : D) (v : V) (ρ' : Env) (Q : St → Hp → Prop), ERo K B' fl ow σ H ρ T → Rep K (pubH ow H) d v → tgt d ρ = some ρ' → (∀ σ', ERo K B' fl ow σ' H ρ' T → Q σ' H) → g v σ H Q)
    (hno : ¬ k .no) (hA : acc0.length = vs0.length) (E0 : ER K (B.acc L vs0) fl (wipe σ own) H1 ρ0 (src.zip vsrc ++ (acc0.zip vs0 ++ T))) (hk : k (lcL tgt own ft fe ds acc0 ρ0))
    (hd : ∀ (acc : List D) (vs : List V) (ρ : Env) (H : Hp), acc.length = vs.length → ER K (B.acc L vs) fl (wipe σ own) H ρ (src.zip vsrc ++ (acc.zip vs ++ T)) → k (.ok acc ρ) → Qd H) :
    ∃ W : Nat → Nat → Hp → Prop, (∃ m, W 0 m H1) ∧ ∀ i m H, W i m H → (J.stop i H ∧ Qd H) ∨ (J.go i H ∧ ∃ Nx : Hp → Prop, (∀ H', Nx H' → ∃ m', m' < m ∧ W (i + 1) m' H') ∧ ∀ x H', J.yld i H x H' → g x (wipe σ own) H' fun σ2 H2 => wipe σ2 own = wipe σ own ∧
      ∃ B' : Bd, B'.bor = B.bor ∧ EvBo K B' W0 fl ft σ2 H2 fun b H3 => if b = true then (∃ B' : Bd, B'.bor = B.bor ∧ EvT K B' W0 fl fe σ2 H3 fun y H4 => ∃ acc, H4 L = some (.lst acc) ∧ acc.length < sizeLine ∧ Nx (upd H4 L (.lst (acc ++ [y])))) else Nx H3) := by
  refine ⟨fun i m H => m = ds.length - i ∧ i ≤ ds.length ∧ ∃ acc vs ρ, acc.length = vs.length ∧ ER K (B.acc L vs) fl (wipe σ own) H ρ (src.zip vsrc ++ (acc.zip vs ++ T)) ∧ k (lcL tgt own ft fe (ds.drop i) acc ρ), ⟨ds.length, rfl, Nat.zero_le _, acc0, vs0, ρ0, hA, E0, hk⟩, ?_⟩
  rintro i m H ⟨rfl, hi, acc, vs, ρ, hA, E, hk⟩
  obtain ⟨ow, E⟩ := E
  by_cases hlt : i < ds.length
  · refine .inr ⟨ok.go _ H i E.live (hΦ _ _ _ _ _ E) hlt, fun H => ∃ acc vs ρ, acc.length = vs.length ∧ ER K (B.acc L vs) fl (wipe σ own) H ρ (src.zip vsrc ++ (acc.zip vs ++ T)) ∧ k (lcL tgt own ft fe (ds.drop (i + 1)) acc ρ), fun H' h => ⟨ds.length - (i + 1), by omega, rfl, hlt, h⟩, fun x H' y => ?_⟩
    obtain ⟨s, d, e1, r⟩ := ok.yld _ H i x H' E.live (hΦ _ _ _ _ _ E) hlt y
    have e2 : ds.drop i = d :: ds.drop (i + 1) := by
      rw [List.drop_eq_getElem_cons hlt]
      rw [List.getElem?_eq_getElem hlt] at e1
      cases e1; rfl
    rw [e2] at hk
    unfold lcL at hk
    cases e3 : tgt d ρ with
    | none => rw [e3] at hk; exact absurd hk hno
    | some ρ1 =>
      rw [e3] at hk
      dsimp only at hk
      have wl : (wipe σ own).length = σ.length := wipe_length σ own
      have key : g x (wipe σ own) H' fun σ2 H2 => H2 = H' ∧ ERo K (B.acc L vs) fl ow σ2 H2 ρ1 (src.zip vsrc ++ (acc.zip vs ++ T)) := hg (B.acc L vs) rfl ow _ H' ρ _ d x ρ1 _ (E.mono s) r e3 fun σ2 E2 => ⟨rfl, E2⟩
      have ww : wipe (wipe σ own) own = wipe σ own := wipe_wipe σ own
      have key2 := to.own x (wipe σ own) H' _ key
      rw [ww] at key2
      refine to.mono _ _ _ _ _ key2 fun σ2 H2 ⟨hw, hH, E2⟩ => ⟨hw, ?_⟩
      have l2 : σ2.length = (wipe σ own).length := by
        have := congrArg List.length hw
        rw [wipe_length] at this; exact this
      have ws : ∀ i, i ∉ own → (wipe σ own)[i]? = σ2[i]? := fun i hi => by rw [← hw, wipe_get hi]
      refine lc_turn (rest := fun a r => lcL tgt own ft fe (ds.drop (i + 1)) a r) E2 nb hk hno hA (fun y v ρ3 H4 E4 c hk => ?_) fun ρ2 H3 E3 hk => ?_
      · obtain ⟨ow4, E4⟩ := E4
        refine ⟨acc ++ [y], vs ++ [v], fgtE own ρ3, by simp [hA], ⟨ow4, ?_⟩, hk⟩
        refine ERo.accApp (vs := vs) ((E4.wiped l2.symm ws (by exact h0)).sub fun q hq => ?_)
        rw [List.zip_append hA] at hq
        rcases List.mem_append.mp hq with hq | hq
        · exact List.mem_cons_of_mem _ (List.mem_append_left _ hq)
        · rw [List.append_assoc] at hq
          rcases List.mem_append.mp hq with hq | hq
          · exact List.mem_cons_of_mem _ (List.mem_append_right _ (List.mem_append_left _ hq))
          · rcases List.mem_append.mp hq with hq | hq
            · rcases List.mem_cons.mp (show q ∈ [(y, v)] from hq) with hq | hq
              · rw [hq]; exact List.mem_cons_self
              · cases hq
            · exact List.mem_cons_of_mem _ (List.mem_append_right _ (List.mem_append_right _ hq))
      · obtain ⟨ow3, E3⟩ := E3
        exact ⟨acc, vs, fgtE own ρ2, hA, ⟨ow3, E3.wiped l2.symm ws (by exact h0)⟩, hk⟩
  · have : i = ds.length := by omega
    subst this
    rw [List.drop_length] at hk
    exact .inl ⟨ok.stop _ H E.live (hΦ _ _ _ _ _ E), hd acc vs ρ H hA ⟨ow, E⟩ hk⟩

def itDk (i : Nat) : IterF := fun ρ => match (ρ[i]? : Option (Option D)) with
  | some (some (.dik kvs)) => .ok (kvs.map fun q => kD q.1) [] ρ
  | _ => .no
def itDv (i : Nat) : IterF := fun ρ => match (ρ[i]? : Option (Option D)) with
  | some (some (.dik kvs)) => .ok (kvs.map fun q => q.2) [] ρ
  | _ => .no
theorem itOk_keys {K : PySem.W.Frag} {c : Addr} {od : Obj} {kvs : List (Key × D)} {ks : List (Key × V)} (e : ks.map (·.1) = kvs.map (·.1)) : ItOkP K (Itk c od ks) (kvs.map fun q => kD q.1) fun _ H => H c = some (.frz od (.dK ks)) := by
  have l : kvs.length = ks.length := by simpa using (congrArg List.length e).symm
  refine ⟨fun N H i _ h hi => ⟨h, by rw [List.length_map, l] at hi; exact hi⟩, fun N H _ h => ⟨h, by rw [List.length_map, l]; exact Nat.le_refl _⟩, fun N H i x H' _ h hi y => ?_⟩
  obtain ⟨rfl, k, v, e1, rfl⟩ := y
  refine ⟨Same.refl _, kD k, ?_, kD_rep k⟩
  have e2 : (kvs.map (·.1))[i]? = some k := by rw [← e, List.getElem?_map, e1]; rfl
  rw [List.getElem?_map] at e2 ⊢
  cases e3 : kvs[i]? with
  | none => rw [e3] at e2; cases e2
  | some q => rw [e3] at e2; cases e2; rfl
theorem itOk_vals {K : PySem.W.Frag} {c : Addr} {od : Obj} {kvs : List (Key × D)} {ks : List (Key × V)} : ItOkP K (Itd c od ks) (kvs.map fun q => q.2) fun N H => H c = some (.frz od (.dK ks)) ∧ Reps K (hide N H) (kvs.map (·.2)) (ks.map (·.2)) := by
  refine ⟨fun N H i _ h hi => ⟨h.1, ?_⟩, fun N H _ h => ⟨h.1, ?_⟩, fun N H i x H' _ h hi y => ?_⟩
  · have := h.2.length
    rw [List.length_map, List.length_map] at this
    rw [List.length_map, this] at hi; exact hi
  · have := h.2.length
    rw [List.length_map, List.length_map] at this
    rw [List.length_map, this]; exact Nat.le_refl _
  · obtain ⟨rfl, k, e1⟩ := y
    obtain ⟨d, h1, h2⟩ := h.2.getV (i := i) (v := x) (by rw [List.getElem?_map, e1]; rfl)
    exact ⟨Same.refl _, d, h1, h2⟩
/-- the walk over a locked dict: keys (tv false), values -/
theorem lcD_core {g : TG} {tgt : TgtF} {own : List Nat} {ft : Option ValF} {fe : ValF} {K : PySem.W.Frag} {ow : Addr → Ow} {σ : St} {H : Hp} {ρ : Env} {T : List (D × V)} {c : Addr} {od : Obj} {ks : List (Key × V)} {kvs : List (Key × D)} {ds ys : List D} {ρ2 : Env} {J : It} {Qd : Addr → Hp → Prop} (h0 : 0 ∉ own ∨ B.bor = []) (to : TgOwn own g)
    (hg : ∀ (B' : Bd), B'.bor = B.bor → ∀ (ow : Addr → Ow) (σ : St) (H : Hp) (ρ : Env) (T : List (D × V)) (d : D) (v : V) (ρ' : Env) (Q : St → Hp → Prop), ERo K B' fl ow σ H ρ T → Rep K (pubH ow H) d v → tgt d ρ = some ρ' → (∀ σ', ERo K B' fl ow σ' H ρ' T → Q σ' H) → g v σ H Q)
    (E : ERo K (B.lock c (.frz od (.dK ks))) fl ow σ H ρ T) (nb : c ∉ B.bor) (hv : Reps K (pubH ow H) (kvs.map (·.2)) (ks.map (·.2)))
    (ok : ItOkP K J ds fun N H => H c = some (.frz od (.dK ks)) ∧ Reps K (hide N H) (kvs.map (·.2)) (ks.map (·.2)))
    (hr : lcL tgt own ft fe ds [] (fgtE own ρ) = .ok ys ρ2) (hd : ∀ L H' ow', ERo K (B.lock c (.frz od (.dK ks))) fl ow' σ H' (fgtE own ρ2) T → OwnAt K H' ow' .tmp L (.lst ys) → Qd L H') : ∀ L, H L = none → ∃ W : Nat → Nat → Hp → Prop, (∃ m, W 0 m (upd H L (.lst []))) ∧ ∀ i m H, W i m H →
      (J.stop i H ∧ Qd L H) ∨ (J.go i H ∧ ∃ Nx : Hp → Prop, (∀ H', Nx H' → ∃ m', m' < m ∧ W (i + 1) m' H') ∧ ∀ x H', J.yld i H x H' → g x (wipe σ own) H' fun σ2 H2 => wipe σ2 own = wipe σ own ∧ ∃ B' : Bd, B'.bor = B.bor ∧ EvBo K B' W0 fl ft σ2 H2 fun b H3 =>
        if b = true then (∃ B' : Bd, B'.bor = B.bor ∧ EvT K B' W0 fl fe σ2 H3 fun y H4 => ∃ acc, H4 L = some (.lst acc) ∧ acc.length < sizeLine ∧ Nx (upd H4 L (.lst (acc ++ [y])))) else Nx H3) := by
  intro L hL
  have hE := E.pushes (ts := (kvs.map (·.2)).zip (ks.map (·.2))) (fun q hq => by
    have : ∀ {ds : List D} {vs : List V}, Reps K (pubH ow H) ds vs → ∀ q ∈ ds.zip vs, Rep K (pubH ow H) q.1 q.2 := by
      intro ds
      induction ds with
      | nil => intro vs r q hq; cases hq
      | cons d ds ih =>
        intro vs r q hq
        cases r with
        | cons r t =>
          rcases List.mem_cons.mp hq with rfl | hq
          · exact r
          · exact ih t q hq
    exact this hv q hq)
  obtain ⟨E2, nbL, hL0⟩ := hE.accNew hL
  have hM : ¬ (B.lock c (.frz od (.dK ks))).M L := fun z => by have := E.frame L z; rw [E.fresh hL] at this; cases this
  have ncL : c ≠ L := fun z => by
    have := E.lockAt nb
    rw [z, hL] at this; cases this
  refine lc_walkP (B := B.lock c (.frz od (.dK ks))) (fl := fl) (src := kvs.map (·.2)) (vsrc := ks.map (·.2)) (Qd := fun H => Qd L H) (k := fun r => r = lcL tgt own ft fe ds [] (fgtE own ρ)) (acc0 := []) (vs0 := []) (T := T) ok (fun ow' H' ρ' T' vs E' => ⟨?_, ?_⟩) nbL h0 to (fun B' hb => hg B' hb) (fun z => by rw [hr] at z; cases z) rfl ⟨_, E2.wiped (wipe_length σ _) (fun i hi => wipe_get hi) h0⟩ rfl fun acc vs ρ3 H3 hA E3 hkk => ?_
  · refine E'.same c _ ?_ nb
    show (if c = L then some (HO.lst vs) else (B.lock c (.frz od (.dK ks))).H0 c) = _
    rw [if_neg ncL, lock_pos]
  · exact E'.args (by rw [hv.length])
  · obtain ⟨ow3, E3⟩ := E3
    rw [hr] at hkk
    cases hkk
    have r : Reps K (pubH ow3 H3) ys vs := reps_zip hA fun q hq => E3.tmp q (List.mem_append_right _ (List.mem_append_left _ hq))
    have E4 : ERo K ((B.lock c (.frz od (.dK ks))).acc L vs) fl ow3 σ H3 (fgtE own ρ2) T := (E3.wiped (wipe_length σ own).symm (fun i hi => (wipe_get hi).symm) h0).sub fun q hq => List.mem_append_right _ (List.mem_append_right _ hq)
    obtain ⟨E5, o5⟩ := E4.accEnd nbL hL0 hM r
    exact hd L H3 _ E5 o5
def tOrL (t : TE) : TE := fun σ H Q => tLockE t σ H Q ∨ t σ H Q
theorem pe_orL {e : Expr} {t : TE} (h : PE X e t) : PE X e (tOrL t) := ⟨fun pins s σ H Q I q => q.elim ((pe_lock h).run pins s σ H Q I) (h.run pins s σ H Q I)⟩
theorem ps_orL {st : Stmt} {t : TE} {i : Nat} (h : PS X st (tAsg t (gName i))) : PS X st (tAsg (tOrL t) (gName i)) := ⟨fun pins s σ H D I q => by
  rcases q with ⟨d, u, h1, h2, h3⟩ | q
  · exact (ps_lock h).run pins s σ H D I ⟨d, u, h1, h2, fun od => h3 od⟩
  · exact h.run pins s σ H D I q⟩
theorem lcD_w {g : TG} {tgt : TgtF} {own : List Nat} {ft : Option ValF} {fe : ValF} {i : Nat} {wi : TI} {f : IterF} (mkJ : Addr → Obj → List (Key × V) → It) (dsOf : List (Key × D) → List D) (h0 : 0 ∉ own ∨ B.bor = []) (to : TgOwn own g) (hf : fl[i]? = some false)
    (fe1 : ∀ ρ kvs, (ρ[i]? : Option (Option D)) = some (some (.dik kvs)) → f ρ = .ok (dsOf kvs) [] ρ) (fe2 : ∀ ρ, (∀ kvs, (ρ[i]? : Option (Option D)) ≠ some (some (.dik kvs))) → f ρ = .no)
    (hwi : ∀ σ H R c od ks, σ[i]? = some (some (.ref c)) → H c = some (.frz od (.dK ks)) → R (mkJ c od ks) H → wi σ H R)
    (ok : ∀ {K : PySem.W.Frag} {c od kvs} {ks : List (Key × V)}, ks.map (·.1) = kvs.map (·.1) → ItOkP K (mkJ c od ks) (dsOf kvs) fun N H => H c = some (.frz od (.dK ks)) ∧ Reps K (hide N H) (kvs.map (·.2)) (ks.map (·.2)))
    (hg : ∀ (B' : Bd), B'.bor = B.bor → ∀ (ow : Addr → Ow) (σ : St) (H : Hp) (ρ : Env) (T : List (D × V)) (d : D) (v : V) (ρ' : Env) (Q : St → Hp → Prop), ERo X.K B' fl ow σ H ρ T → Rep X.K (pubH ow H) d v → tgt d ρ = some ρ' → (∀ σ', ERo X.K B' fl ow σ' H ρ' T → Q σ' H) → g v σ H Q) :
    ∀ (σ : St) (H : Hp) (Q : VK), EvF X.K B W fl (lcF f tgt own ft fe) σ H Q → tOrL (tLc wi g (fun σ H Q => ∃ B' : Bd, B'.bor = B.bor ∧ EvBo X.K B' W0 fl ft σ H Q) (fun σ H Q => ∃ B' : Bd, B'.bor = B.bor ∧ EvT X.K B' W0 fl fe σ H Q) own) σ H Q :=
  fun σ H Q ⟨ρ, T, ⟨ow, E⟩, q⟩ => by
    obtain ⟨hn, hx, hk⟩ := evF_no q
    have e0 : ∃ kvs, (ρ[i]? : Option (Option D)) = some (some (.dik kvs)) := by
      apply Classical.byContradiction
      intro z
      exact hn (by unfold lcF; rw [fe2 ρ fun kvs e => z ⟨kvs, e⟩])
    obtain ⟨kvs, e0⟩ := e0
    have eF : lcF f tgt own ft fe ρ = (match lcL tgt own ft fe (dsOf kvs) [] (fgtE own ρ) with
      | .ok ys ρ2 => .ok (.lst ys) (fgtE own ρ2)
      | _ => .no) := by unfold lcF; rw [fe1 ρ kvs e0] <;> rfl
    rw [eF] at hn hk
    cases hr : lcL tgt own ft fe (dsOf kvs) [] (fgtE own ρ) with
    | ex _ _ => rw [hr] at hn; exact absurd rfl hn
    | no => rw [hr] at hn; exact absurd rfl hn
    | ok ys ρ2 =>
      rw [hr] at hk
      obtain ⟨v, hv, rv⟩ := E.sh i _ e0 (by rw [hf]; exact fun z => nomatch z)
      cases rv with
      | dik r1 r2 r3 =>
        rename_i c ks
        rcases r1 with r1 | ⟨od, r1⟩
        · left
          obtain ⟨p1, p2⟩ := hide_some.mp r1
          have hp : ow c = .pub := Classical.byContradiction fun z => p1 z
          have nb : c ∉ B.bor := fun z => by rw [E.bown c z] at hp; cases hp
          refine ⟨c, .dK ks, p2, trivial, fun od => hwi _ _ _ c od ks hv upd_same ?_⟩
          have E1 := E.lock (od := od) p2 rfl hp
          have r3' : Reps X.K (pubH ow (upd H c (.frz od (.dK ks)))) (kvs.map (·.2)) (ks.map (·.2)) := r3.lr ((lr_lock p2 rfl).hide _)
          refine lcD_core (B := B) (Qd := fun L H' => H' c = some (.frz od (.dK ks)) ∧ Q (.ref L) (upd H' c (.dK ks))) h0 to hg E1 nb r3' (ok r2) hr fun L H' ow' E2 o => ⟨E2.lockAt nb, ?_⟩
          have hB : ∀ o, B.H0 c = some o → o = .dK ks := fun o ho => by
            have := E.same c o ho nb
            rw [p2] at this; cases this; rfl
          exact hk _ _ rfl L _ _ (E2.free nb rfl hB) (o.free (E2.lockAt nb) rfl)
        · right
          obtain ⟨p1, p2⟩ := hide_some.mp r1
          have hp : ow c = .pub := Classical.byContradiction fun z => p1 z
          have nb : c ∉ B.bor := fun z => by rw [E.bown c z] at hp; cases hp
          refine hwi _ _ _ c od ks hv p2 ?_
          have E1 := E.lock0 p2 hp
          refine lcD_core (B := B) (Qd := fun L H' => Q (.ref L) H') h0 to hg E1 nb r3 (ok r2) hr fun L H' ow' E2 o => ?_
          have hB : ∀ o, B.H0 c = some o → o = .frz od (.dK ks) := fun o ho => by
            have := E.same c o ho nb
            rw [p2] at this; cases this; rfl
          exact hk _ _ rfl L _ _ (E2.free0 nb hB) o
theorem lcDk_w {g : TG} {tgt : TgtF} {own : List Nat} {ft : Option ValF} {fe : ValF} {i : Nat} (h0 : 0 ∉ own ∨ B.bor = []) (to : TgOwn own g) (hf : fl[i]? = some false)
    (hg : ∀ (B' : Bd), B'.bor = B.bor → ∀ (ow : Addr → Ow) (σ : St) (H : Hp) (ρ : Env) (T : List (D × V)) (d : D) (v : V) (ρ' : Env) (Q : St → Hp → Prop), ERo X.K B' fl ow σ H ρ T → Rep X.K (pubH ow H) d v → tgt d ρ = some ρ' → (∀ σ', ERo X.K B' fl ow σ' H ρ' T → Q σ' H) → g v σ H Q) :
    ∀ (σ : St) (H : Hp) (Q : VK), EvF X.K B W fl (lcF (itDk i) tgt own ft fe) σ H Q → tOrL (tLc (iKeys (tVar i)) g (fun σ H Q => ∃ B' : Bd, B'.bor = B.bor ∧ EvBo X.K B' W0 fl ft σ H Q) (fun σ H Q => ∃ B' : Bd, B'.bor = B.bor ∧ EvT X.K B' W0 fl fe σ H Q) own) σ H Q :=
  lcD_w (fun c od ks => Itk c od ks) (fun kvs => kvs.map fun q => kD q.1) h0 to hf (fun ρ kvs e => by unfold itDk; rw [e]) (fun ρ h => by
      unfold itDk
      split
      · rename_i kvs e; exact absurd e (h kvs)
      · rfl) (fun σ H R c od ks h1 h2 h3 => ⟨_, h1, c, od, rfl, .inl ⟨ks, h2, h3⟩⟩) (fun {K c od kvs ks} e => by
      have := itOk_keys (K := K) (c := c) (od := od) e
      exact ⟨fun N H i a b => this.go N H i a b.1, fun N H a b => this.stop N H a b.1, fun N H i x H' a b => this.yld N H i x H' a b.1⟩) hg
theorem lcDv_w {g : TG} {tgt : TgtF} {own : List Nat} {ft : Option ValF} {fe : ValF} {i : Nat} (h0 : 0 ∉ own ∨ B.bor = []) (to : TgOwn own g) (hf : fl[i]? = some false)
    (hg : ∀ (B' : Bd), B'.bor = B.bor → ∀ (ow : Addr → Ow) (σ : St) (H : Hp) (ρ : Env) (T : List (D × V)) (d : D) (v : V) (ρ' : Env) (Q : St → Hp → Prop), ERo X.K B' fl ow σ H ρ T → Rep X.K (pubH ow H) d v → tgt d ρ = some ρ' → (∀ σ', ERo X.K B' fl ow σ' H ρ' T → Q σ' H) → g v σ H Q) :
    ∀ (σ : St) (H : Hp) (Q : VK), EvF X.K B W fl (lcF (itDv i) tgt own ft fe) σ H Q → tOrL (tLc (iVals (tVar i)) g (fun σ H Q => ∃ B' : Bd, B'.bor = B.bor ∧ EvBo X.K B' W0 fl ft σ H Q) (fun σ H Q => ∃ B' : Bd, B'.bor = B.bor ∧ EvT X.K B' W0 fl fe σ H Q) own) σ H Q :=
  lcD_w (fun c od ks => Itd c od ks) (fun kvs => kvs.map fun q => q.2) h0 to hf (fun ρ kvs e => by unfold itDv; rw [e]) (fun ρ h => by
      unfold itDv
      split
      · rename_i kvs e; exact absurd e (h kvs)
      · rfl) (fun σ H R c od ks h1 h2 h3 => ⟨_, h1, c, od, ks, rfl, h2, h3⟩) (fun {K c od kvs ks} e => itOk_vals) hg
theorem pf_lcK {elt tg iter : Expr} {ifs : List Expr} {scope : Scope} {own : List (Str × Nat)} {g : TG} {tgt : TgtF} {ft : Option ValF} {fe : ValF} {k : Nat} (hc : X.calm = true) (hN : X.N.Nodup) (hi : PI X tg iter (iKeys (tVar k))) (ok : BlkOk X.N X.env.scope scope own)
    (h0 : 0 ∉ own.map (·.2) ∨ B.bor = []) (to : TgOwn (own.map (·.2)) g)
    (hg : ∀ (s : Shared) (H : Hp) (C : Addr) (cl : List (Str × Addr)) (fp : List Addr) (B' : Bd), B'.bor = B.bor → PGv (X.blk s H scope (compEnvC scope cl C X.env) fp) B' fl tg g tgt)
    (ht : ∀ (s : Shared) (H : Hp) (C : Addr) (cl : List (Str × Addr)) (fp : List Addr) (B' : Bd), B'.bor = B.bor → PTsv (X.blk s H scope (compEnvC scope cl C X.env) fp) B' W0 fl ifs ft)
    (he : ∀ (s : Shared) (H : Hp) (C : Addr) (cl : List (Str × Addr)) (fp : List Addr) (B' : Bd), B'.bor = B.bor → PV (X.blk s H scope (compEnvC scope cl C X.env) fp) B' W0 fl elt fe)
    (hf : fl[k]? = some false := by rfl) (hs : ∀ x, foldedSetIterable iter X.env x = pure x := by intro _; rfl) : PF X B W fl (.ListComp elt [⟨tg, iter, ifs, 0⟩] scope pos) (lcF (itDk k) tgt (own.map (·.2)) ft fe) :=
  ⟨PE.weaken (pe_orL (pe_lc (tt := (fun σ H Q => ∃ B' : Bd, B'.bor = B.bor ∧ EvBo X.K B' W0 fl ft σ H Q)) (te := (fun σ H Q => ∃ B' : Bd, B'.bor = B.bor ∧ EvT X.K B' W0 fl fe σ H Q)) hc hN hi ok (fun s H C cl fp => (hg s H C cl fp B rfl).pg) (fun s H C cl fp => pts_ex (B := B) (ht s H C cl fp)) (fun s H C cl fp => pe_ex (B := B) (he s H C cl fp)) hs)) (lcDk_w h0 to hf fun B' hb => (hg X.s_0 X.H_0 0 [] [] B' hb).run)⟩
theorem psv_setLcKF {elt tg iter : Expr} {ifs : List Expr} {scope : Scope} {own : List (Str × Nat)} {g : TG} {tgt : TgtF} {ft : Option ValF} {fe : ValF} {k : Nat} {i : Nat} {y : Str} {py spos : Pos} (hy : X.N[i]? = some y) (hyl : X.env.scope.names.lookup y = some .local) (hsw : swapsWith (.ListComp elt [⟨tg, iter, ifs, 0⟩] scope pos) (some (.Name y py)) spos.line X.env = pure true) (hb : i ≠ 0 ∨ B.bor = []) (hc : X.calm = true) (hN : X.N.Nodup) (hi : PI X tg iter (iKeys (tVar k))) (ok : BlkOk X.N X.env.scope scope own)
    (h0 : 0 ∉ own.map (·.2) ∨ B.bor = []) (to : TgOwn (own.map (·.2)) g)
    (hg : ∀ (s : Shared) (H : Hp) (C : Addr) (cl : List (Str × Addr)) (fp : List Addr) (B' : Bd), B'.bor = B.bor → PGv (X.blk s H scope (compEnvC scope cl C X.env) fp) B' fl tg g tgt)
    (ht : ∀ (s : Shared) (H : Hp) (C : Addr) (cl : List (Str × Addr)) (fp : List Addr) (B' : Bd), B'.bor = B.bor → PTsv (X.blk s H scope (compEnvC scope cl C X.env) fp) B' W0 fl ifs ft)
    (he : ∀ (s : Shared) (H : Hp) (C : Addr) (cl : List (Str × Addr)) (fp : List Addr) (B' : Bd), B'.bor = B.bor → PV (X.blk s H scope (compEnvC scope cl C X.env) fp) B' W0 fl elt fe)
    (hf : fl[k]? = some false := by rfl) (hs : ∀ x, foldedSetIterable iter X.env x = pure x := by intro _; rfl) : PSv X B W flL fl (fl.set i true) (.Assign [.Name y py] (.ListComp elt [⟨tg, iter, ifs, 0⟩] scope pos) spos) (put i (lcF (itDk k) tgt (own.map (·.2)) ft fe)) :=
  psv_asgFT (ps_orL (ps_setLc (tt := (fun σ H Q => ∃ B' : Bd, B'.bor = B.bor ∧ EvBo X.K B' W0 fl ft σ H Q)) (te := (fun σ H Q => ∃ B' : Bd, B'.bor = B.bor ∧ EvT X.K B' W0 fl fe σ H Q)) hc hN hy hyl hsw hi ok (fun s H C cl fp => (hg s H C cl fp B rfl).pg) (fun s H C cl fp => pts_ex (B := B) (ht s H C cl fp)) (fun s H C cl fp => pe_ex (B := B) (he s H C cl fp)) hs)) (lcDk_w h0 to hf fun B' hb => (hg X.s_0 X.H_0 0 [] [] B' hb).run) hb
theorem psv_setLcK {elt tg iter : Expr} {ifs : List Expr} {scope : Scope} {own : List (Str × Nat)} {g : TG} {tgt : TgtF} {ft : Option ValF} {fe : ValF} {k : Nat} {i : Nat} {y : Str} {py spos : Pos} (hy : X.N[i]? = some y) (hyl : X.env.scope.names.lookup y = some .local) (hsw : swapsWith (.ListComp elt [⟨tg, iter, ifs, 0⟩] scope pos) (some (.Name y py)) spos.line X.env = pure true) (hb : i ≠ 0 ∨ B.bor = []) (hc : X.calm = true) (hN : X.N.Nodup) (hi : PI X tg iter (iKeys (tVar k))) (ok : BlkOk X.N X.env.scope scope own)
    (h0 : 0 ∉ own.map (·.2) ∨ B.bor = []) (to : TgOwn (own.map (·.2)) g)
    (hg : ∀ (s : Shared) (H : Hp) (C : Addr) (cl : List (Str × Addr)) (fp : List Addr) (B' : Bd), B'.bor = B.bor → PGv (X.blk s H scope (compEnvC scope cl C X.env) fp) B' fl tg g tgt)
    (ht : ∀ (s : Shared) (H : Hp) (C : Addr) (cl : List (Str × Addr)) (fp : List Addr) (B' : Bd), B'.bor = B.bor → PTsv (X.blk s H scope (compEnvC scope cl C X.env) fp) B' W0 fl ifs ft)
    (he : ∀ (s : Shared) (H : Hp) (C : Addr) (cl : List (Str × Addr)) (fp : List Addr) (B' : Bd), B'.bor = B.bor → PV (X.blk s H scope (compEnvC scope cl C X.env) fp) B' W0 fl elt fe)
    (hf : fl[k]? = some false := by rfl) (hs : ∀ x, foldedSetIterable iter X.env x = pure x := by intro _; rfl) : PSv X B W flL fl (fl.set i false) (.Assign [.Name y py] (.ListComp elt [⟨tg, iter, ifs, 0⟩] scope pos) spos) (put i (pubF (lcF (itDk k) tgt (own.map (·.2)) ft fe))) :=
  psv_asgT (ps_orL (ps_setLc (tt := (fun σ H Q => ∃ B' : Bd, B'.bor = B.bor ∧ EvBo X.K B' W0 fl ft σ H Q)) (te := (fun σ H Q => ∃ B' : Bd, B'.bor = B.bor ∧ EvT X.K B' W0 fl fe σ H Q)) hc hN hy hyl hsw hi ok (fun s H C cl fp => (hg s H C cl fp B rfl).pg) (fun s H C cl fp => pts_ex (B := B) (ht s H C cl fp)) (fun s H C cl fp => pe_ex (B := B) (he s H C cl fp)) hs)) (fun σ H Q h => (lcDk_w h0 to hf fun B' hb => (hg X.s_0 X.H_0 0 [] [] B' hb).run) σ H Q (evF_pub h)) hb
theorem pf_lcV {elt tg iter : Expr} {ifs : List Expr} {scope : Scope} {own : List (Str × Nat)} {g : TG} {tgt : TgtF} {ft : Option ValF} {fe : ValF} {k : Nat} (hc : X.calm = true) (hN : X.N.Nodup) (hi : PI X tg iter (iVals (tVar k))) (ok : BlkOk X.N X.env.scope scope own)
    (h0 : 0 ∉ own.map (·.2) ∨ B.bor = []) (to : TgOwn (own.map (·.2)) g)
    (hg : ∀ (s : Shared) (H : Hp) (C : Addr) (cl : List (Str × Addr)) (fp : List Addr) (B' : Bd), B'.bor = B.bor → PGv (X.blk s H scope (compEnvC scope cl C X.env) fp) B' fl tg g tgt)
    (ht : ∀ (s : Shared) (H : Hp) (C : Addr) (cl : List (Str × Addr)) (fp : List Addr) (B' : Bd), B'.bor = B.bor → PTsv (X.blk s H scope (compEnvC scope cl C X.env) fp) B' W0 fl ifs ft)
    (he : ∀ (s : Shared) (H : Hp) (C : Addr) (cl : List (Str × Addr)) (fp : List Addr) (B' : Bd), B'.bor = B.bor → PV (X.blk s H scope (compEnvC scope cl C X.env) fp) B' W0 fl elt fe)
    (hf : fl[k]? = some false := by rfl) (hs : ∀ x, foldedSetIterable iter X.env x = pure x := by intro _; rfl) : PF X B W fl (.ListComp elt [⟨tg, iter, ifs, 0⟩] scope pos) (lcF (itDv k) tgt (own.map (·.2)) ft fe) :=
  ⟨PE.weaken (pe_orL (pe_lc (tt := (fun σ H Q => ∃ B' : Bd, B'.bor = B.bor ∧ EvBo X.K B' W0 fl ft σ H Q)) (te := (fun σ H Q => ∃ B' : Bd, B'.bor = B.bor ∧ EvT X.K B' W0 fl fe σ H Q)) hc hN hi ok (fun s H C cl fp => (hg s H C cl fp B rfl).pg) (fun s H C cl fp => pts_ex (B := B) (ht s H C cl fp)) (fun s H C cl fp => pe_ex (B := B) (he s H C cl fp)) hs)) (lcDv_w h0 to hf fun B' hb => (hg X.s_0 X.H_0 0 [] [] B' hb).run)⟩
theorem psv_setLcVF {elt tg iter : Expr} {ifs : List Expr} {scope : Scope} {own : List (Str × Nat)} {g : TG} {tgt : TgtF} {ft : Option ValF} {fe : ValF} {k : Nat} {i : Nat} {y : Str} {py spos : Pos} (hy : X.N[i]? = some y) (hyl : X.env.scope.names.lookup y = some .local) (hsw : swapsWith (.ListComp elt [⟨tg, iter, ifs, 0⟩] scope pos) (some (.Name y py)) spos.line X.env = pure true) (hb : i ≠ 0 ∨ B.bor = []) (hc : X.calm = true) (hN : X.N.Nodup) (hi : PI X tg iter (iVals (tVar k))) (ok : BlkOk X.N X.env.scope scope own)
    (h0 : 0 ∉ own.map (·.2) ∨ B.bor = []) (to : TgOwn (own.map (·.2)) g)
    (hg : ∀ (s : Shared) (H : Hp) (C : Addr) (cl : List (Str × Addr)) (fp : List Addr) (B' : Bd), B'.bor = B.bor → PGv (X.blk s H scope (compEnvC scope cl C X.env) fp) B' fl tg g tgt)
    (ht : ∀ (s : Shared) (H : Hp) (C : Addr) (cl : List (Str × Addr)) (fp : List Addr) (B' : Bd), B'.bor = B.bor → PTsv (X.blk s H scope (compEnvC scope cl C X.env) fp) B' W0 fl ifs ft)
    (he : ∀ (s : Shared) (H : Hp) (C : Addr) (cl : List (Str × Addr)) (fp : List Addr) (B' : Bd), B'.bor = B.bor → PV (X.blk s H scope (compEnvC scope cl C X.env) fp) B' W0 fl elt fe)
    (hf : fl[k]? = some false := by rfl) (hs : ∀ x, foldedSetIterable iter X.env x = pure x := by intro _; rfl) : PSv X B W flL fl (fl.set i true) (.Assign [.Name y py] (.ListComp elt [⟨tg, iter, ifs, 0⟩] scope pos) spos) (put i (lcF (itDv k) tgt (own.map (·.2)) ft fe)) :=
  psv_asgFT (ps_orL (ps_setLc (tt := (fun σ H Q => ∃ B' : Bd, B'.bor = B.bor ∧ EvBo X.K B' W0 fl ft σ H Q)) (te := (fun σ H Q => ∃ B' : Bd, B'.bor = B.bor ∧ EvT X.K B' W0 fl fe σ H Q)) hc hN hy hyl hsw hi ok (fun s H C cl fp => (hg s H C cl fp B rfl).pg) (fun s H C cl fp => pts_ex (B := B) (ht s H C cl fp)) (fun s H C cl fp => pe_ex (B := B) (he s H C cl fp)) hs)) (lcDv_w h0 to hf fun B' hb => (hg X.s_0 X.H_0 0 [] [] B' hb).run) hb
theorem psv_setLcV {elt tg iter : Expr} {ifs : List Expr} {scope : Scope} {own : List (Str × Nat)} {g : TG} {tgt : TgtF} {ft : Option ValF} {fe : ValF} {k : Nat} {i : Nat} {y : Str} {py spos : Pos} (hy : X.N[i]? = some y) (hyl : X.env.scope.names.lookup y = some .local) (hsw : swapsWith (.ListComp elt [⟨tg, iter, ifs, 0⟩] scope pos) (some (.Name y py)) spos.line X.env = pure true) (hb : i ≠ 0 ∨ B.bor = []) (hc : X.calm = true) (hN : X.N.Nodup) (hi : PI X tg iter (iVals (tVar k))) (ok : BlkOk X.N X.env.scope scope own)
    (h0 : 0 ∉ own.map (·.2) ∨ B.bor = []) (to : TgOwn (own.map (·.2)) g)
    (hg : ∀ (s : Shared) (H : Hp) (C : Addr) (cl : List (Str × Addr)) (fp : List Addr) (B' : Bd), B'.bor = B.bor → PGv (X.blk s H scope (compEnvC scope cl C X.env) fp) B' fl tg g tgt)
    (ht : ∀ (s : Shared) (H : Hp) (C : Addr) (cl : List (Str × Addr)) (fp : List Addr) (B' : Bd), B'.bor = B.bor → PTsv (X.blk s H scope (compEnvC scope cl C X.env) fp) B' W0 fl ifs ft)
    (he : ∀ (s : Shared) (H : Hp) (C : Addr) (cl : List (Str × Addr)) (fp : List Addr) (B' : Bd), B'.bor = B.bor → PV (X.blk s H scope (compEnvC scope cl C X.env) fp) B' W0 fl elt fe)
    (hf : fl[k]? = some false := by rfl) (hs : ∀ x, foldedSetIterable iter X.env x = pure x := by intro _; rfl) : PSv X B W flL fl (fl.set i false) (.Assign [.Name y py] (.ListComp elt [⟨tg, iter, ifs, 0⟩] scope pos) spos) (put i (pubF (lcF (itDv k) tgt (own.map (·.2)) ft fe))) :=
  psv_asgT (ps_orL (ps_setLc (tt := (fun σ H Q => ∃ B' : Bd, B'.bor = B.bor ∧ EvBo X.K B' W0 fl ft σ H Q)) (te := (fun σ H Q => ∃ B' : Bd, B'.bor = B.bor ∧ EvT X.K B' W0 fl fe σ H Q)) hc hN hy hyl hsw hi ok (fun s H C cl fp => (hg s H C cl fp B rfl).pg) (fun s H C cl fp => pts_ex (B := B) (ht s H C cl fp)) (fun s H C cl fp => pe_ex (B := B) (he s H C cl fp)) hs)) (fun σ H Q h => (lcDv_w h0 to hf fun B' hb => (hg X.s_0 X.H_0 0 [] [] B' hb).run) σ H Q (evF_pub h)) hb
end
end Pv

/-! Pv21: reversed, join, index, order of texts, a display of one entry. -/
noncomputable section
namespace Pv
open PySem PySem.Spec L2
open PyProof.Rows hiding St
def joinL (s : List Nat) (ss : List (List Nat)) : List Nat := (Txt.join ⟨s.toArray⟩ (ss.map fun x => ⟨x.toArray⟩)).cps.toList
def joinD : D → D → Option D
  | .str s, .lst xs => match asStrs xs with
    | some ss => if (ss.map List.length).sum + ss.length * s.length ≤ lim then some (.str (joinL s ss)) else none
    | none => none
  | _, _ => none
def indexD : D → D → Option D
  | .str a, .str b => match Builtin.Str.occurrences ⟨a.toArray⟩ ⟨b.toArray⟩ 0 a.length 1 with
    | i :: _ => some (.int (i : Nat))
    | [] => none
  | _, _ => none
def ltS : D → D → Option D
  | .str a, .str b => some (.bl (decide (a < b)))
  | _, _ => none
section
variable {K : PySem.W.Frag}
theorem str_eta (x : Str) : (⟨x.cps.toList.toArray⟩ : Str) = x := by cases x; simp
theorem o_join : Op2 K (fun x y H Q => (fun x xs H Q => ∃ a p, ∃ ys : List Str, x = .str a ∧ xs = [.ref p] ∧ (SqL K H p (ys.map V.str) ∨ SqT K H p (ys.map V.str)) ∧
    (ys.map (·.length)).sum + ys.length * a.length ≤ 16777216 ∧ Q (.str (Txt.join a ys)) H) x [y] H Q) joinD := by
  intro N H x y v w z Q hN bx hy e q
  cases x with
  | str s =>
    cases y with
    | lst xs =>
      unfold joinD at e
      dsimp only at e
      split at e
      · rename_i ss e1
        split at e
        · rename_i hl
          cases e
          have e2 := asStrs_eq e1
          subst e2
          rw [bx.strE]
          obtain ⟨p, vs, rfl, h1, h2⟩ := hy.lstE hide_sub
          rw [h2.strsV, show (ss.map fun x => V.str ⟨x.toArray⟩) = (ss.map fun x : List Nat => (⟨x.toArray⟩ : Str)).map V.str by rw [List.map_map]; rfl] at h1
          refine ⟨⟨s.toArray⟩, p, _, rfl, rfl, .inl (.inl (.inl h1)), ?_, ?_⟩
          · have hlim : lim = 1000000 := rfl
            have : ((ss.map fun x : List Nat => (⟨x.toArray⟩ : Str)).map (·.length)) = ss.map List.length := by rw [List.map_map]; rfl
            rw [this, List.length_map]
            have : (⟨s.toArray⟩ : Str).length = s.length := rfl
            rw [this]
            omega
          · refine q _ H (Same.refl H) ?_
            have := Rep.str (K := K) (h := hide N H) (joinL s ss)
            unfold joinL at this ⊢
            rw [str_eta] at this
            exact this
        · cases e
      · cases e
    | _ => cases e
  | _ => cases e
theorem o_index : Op2 K (fun x y H Q => (fun x xs H Q => ∃ a b i rest, x = .str a ∧ xs = [.str b] ∧ Builtin.Str.occurrences a b 0 a.length 1 = i :: rest ∧ Q (.int (i : Nat)) H) x [y] H Q) indexD := by
  intro N H x y v w z Q hN bx hy e q
  cases x with
  | str a =>
    cases y with
    | str b =>
      unfold indexD at e
      dsimp only at e
      split at e
      · rename_i i rest e1
        cases e
        rw [bx.strE, hy.strE]
        exact ⟨_, _, i, rest, rfl, rfl, e1, q _ H (Same.refl H) (.int _)⟩
      · cases e
    | _ => cases e
  | _ => cases e
theorem o_ltS : Op2 K (fun x y H Q => ∃ i j, x = .str i ∧ y = .str j ∧ Q (.bl (decide (i.cps.toList < j.cps.toList))) H) ltS := by
  intro N H x y v w z Q hN bx hy e q
  cases x with
  | str a =>
    cases y with
    | str b =>
      cases e
      rw [bx.strE, hy.strE]
      exact ⟨_, _, rfl, rfl, q _ H (Same.refl H) (.bl _)⟩
    | _ => cases e
  | _ => cases e
end
section
variable {X : Cx} {B : Bd} {W : WX} {fl fl1 fl' flL : List Bool} {pos p p1 p2 q : Pos} {a b : Expr} {o o' : Opd} {k : Nat} {tg : Expr}
theorem pv_join {o e : Expr} {f g : ValF} {apos : Pos} (ho : PV X B W fl o f) (he : PV X B W fl e g) (hs : starEach [e] X.env = [(false, eval e X.env)] := by rfl) (hbase : attributeBase o "join" X.env (eval o X.env) = eval o X.env := by rfl) (hline : (apos.endLine == pos.line) = true := by rfl) :
    PV X B W fl (.Call (.Attribute o "join" apos) [e] [] pos) (met1 f g joinD) :=
  ⟨PE.weaken (pe_join ho.pe he.pe hs hbase hline) fun σ H Q q => met_w o_join q⟩
theorem pv_index {o e : Expr} {f g : ValF} {apos : Pos} (ho : PV X B W fl o f) (he : PV X B W fl e g) (hs : starEach [e] X.env = [(false, eval e X.env)] := by rfl) (hbase : attributeBase o "index" X.env (eval o X.env) = eval o X.env := by rfl) (hline : (apos.endLine == pos.line) = true := by rfl) :
    PV X B W fl (.Call (.Attribute o "index" apos) [e] [] pos) (met1 f g indexD) :=
  ⟨PE.weaken (pe_m1 PySem.F.slot_str_index PySem.F.type_str_index mt_sindex ho.pe he.pe hs hbase hline) fun σ H Q q => met_w o_index q⟩
theorem pv_ltS (ha : POp X B W fl a o) (hb : POp X B W fl b o') : PV X B W fl (.Compare a [.Lt] [b] pos) (bin2 o o' ltS) := pv_op2 (pe_cmpR op_lt_str ha.pe hb.pe (nomark _)) o_ltS
theorem ptv_ltS (ha : POp X B W fl a o) (hb : POp X B W fl b o') : PTv X B W fl (.Compare a [.Lt] [b] pos) (bin2 o o' ltS) := ptv_op (pt_cmpR op_lt_str ha.pe hb.pe (nomark _)) o_ltS
/-! ### reversed(xs) -/
def oneL : List D → Option (List D)
  | [.lst ds] => some ds
  | _ => none
theorem oneL_eq {ds xs : List D} (h : oneL ds = some xs) : ds = [.lst xs] := by
  unfold oneL at h
  split at h
  · cases h; rfl
  · cases h
def itRev (f : ArgF) : IterF := fun ρ => match f ρ with
  | .ok ds ρ' => match oneL ds with
    | some xs => .ok xs.reverse [.lst xs] ρ'
    | none => .no
  | .ex x ρ' => .ex x ρ'
  | .no => .no
theorem itOk_rev {K : PySem.W.Frag} {a : Addr} {ds : List D} : ItOk K (Itv K a ds.length) ds.reverse [.lst ds] [.ref a] := by
  have key : ∀ {N : Addr → Prop} {H : Hp}, Reps K (hide N H) [.lst ds] [.ref a] → ∃ vs, H a = some (.lst vs) ∧ Reps K (hide N H) ds vs := fun r => by
    cases r with | cons r _ => cases r with | lst e q => exact ⟨_, hide_sub _ _ e, q⟩
  refine ⟨fun N H i _ r hi => ?_, fun N H _ r => ?_, fun N H i x H' _ r hi y => ?_⟩
  · obtain ⟨vs, h1, h2⟩ := key r
    rw [List.length_reverse] at hi
    have l := h2.length
    refine ⟨hi, vs, vs[ds.length - 1 - i]'(by omega), .inl (.inl h1), List.getElem?_eq_getElem _⟩
  · show ds.length ≤ ds.reverse.length
    rw [List.length_reverse]; exact Nat.le_refl _
  · obtain ⟨vs, h1, h2⟩ := key r
    obtain ⟨rfl, h3⟩ := y
    rw [List.length_reverse] at hi
    obtain ⟨d, e1, e2⟩ := h2.getV (h3 vs (.inl (.inl h1)))
    exact ⟨Same.refl _, d, by rw [List.getElem?_reverse hi]; exact e1, e2⟩
theorem pi_rev {e : Expr} {f : ArgF} (hg : Gl X "reversed") (hm : X.mg "reversed" = none) (ha : PAv X B W fl [e] f) (hs : starEach [e] X.env = [(false, eval e X.env)] := by rfl) : PIv X B W fl tg (.Call (.Name "reversed" p) [e] [] pos) (itRev f) :=
  ⟨PI.weaken (pi_reversed hg hm ha.pa hs) fun σ H R ⟨ρ, T, E, q⟩ => by
    refine ⟨ρ, T, E, ?_⟩
    cases e1 : f ρ with
    | ok ds ρ' =>
      intro vs H' l E'
      unfold itRev at q
      rw [e1] at q
      dsimp only at q
      cases c : oneL ds with
      | none => rw [c] at q; exact q.elim
      | some xs =>
      rw [c] at q
      obtain rfl := oneL_eq c
      obtain ⟨ow, E'⟩ := E'
      have r := E'.args l
      cases r with
      | cons r t =>
        cases t
        cases r with
        | lst h1 h2 =>
          rename_i a us
          refine ⟨a, us, rfl, .inl (.inl (hide_sub _ _ h1)), ?_⟩
          rw [← h2.length]
          exact q [.ref a] H' _ rfl ⟨ow, E'⟩ itOk_rev
    | ex x ρ' =>
      have e2 : itRev f ρ = .ex x ρ' := by unfold itRev; rw [e1]
      rw [e2] at q; exact q
    | no =>
      have e2 : itRev f ρ = .no := by unfold itRev; rw [e1]
      rw [e2] at q; exact q.elim⟩
/-! ### {k: v} -/
def disp1 (fk fv : ValF) : ValF := fun ρ => match fk ρ with
  | .ok k ρ1 => match fv ρ1 with
    | .ok d ρ2 => match keyD k with
      | some k => .ok (.dik [(k, d)]) ρ2
      | none => .no
    | _ => .no
  | _ => .no
theorem pf_disp1 {ke e : Expr} {fk fv : ValF} (hk : ∀ B' : Bd, B'.bor = B.bor → PV X B' W fl ke fk) (hv : ∀ B' : Bd, B'.bor = B.bor → PV X B' W fl e fv) : PF X B W fl (.Dict [some ke] [e] pos) (disp1 fk fv) := by
  have hk' : PE X ke (fun σ H Q => ∃ B' : Bd, B'.bor = B.bor ∧ EvT X.K B' W fl fk σ H Q) := ⟨fun pins s σ H Q I ⟨B', hb, q⟩ => (hk B' hb).pe.run pins s σ H Q I q⟩
  have hv' : PE X e (fun σ H Q => ∃ B' : Bd, B'.bor = B.bor ∧ EvT X.K B' W fl fv σ H Q) := ⟨fun pins s σ H Q I ⟨B', hb, q⟩ => (hv B' hb).pe.run pins s σ H Q I q⟩
  refine ⟨PE.weaken (pe_disp (pps_cons hk' hv' pps_nil) (by rfl) (by rfl) (fun z => by cases z) (show 1 ≤ 15 by decide)) fun σ H Q ⟨ρ, T, ⟨ow, E⟩, q⟩ c hc => ?_⟩
  obtain ⟨E1, o1⟩ := E.hold (d := .dik []) hc (same_new hc) ⟨[], upd_same, rfl, .nil⟩
  unfold disp1 at q
  refine ⟨B.hold (fun a => setOw ow c .tmp a = .tmp) (upd H c (.dK [])), rfl, ρ, T, ⟨_, E1.holdOn⟩, ?_⟩
  cases e1 : fk ρ with
  | ex _ _ => rw [e1] at q; exact q.elim
  | no => rw [e1] at q; exact q.elim
  | ok kd ρ1 =>
    rw [e1] at q
    dsimp only at q
    intro kv H1 E2
    refine ⟨B.hold (fun a => setOw ow c .tmp a = .tmp) (upd H c (.dK [])), rfl, ρ1, (kd, kv) :: T, E2, ?_⟩
    cases e2 : fv ρ1 with
    | ex _ _ => rw [e2] at q; exact q.elim
    | no => rw [e2] at q; exact q.elim
    | ok d ρ2 =>
      rw [e2] at q
      dsimp only at q
      intro v H2 ⟨ow2, E3⟩
      split at q
      · rename_i d' ρ' h
        split at h
        · rename_i k ek
          cases h
          have tc : setOw ow c .tmp c = .tmp := setOw_same
          obtain ⟨E4, sp, kp, fr⟩ := E1.holdOff E3 (w := .tmp) (fun z => nomatch z) (fun z => nomatch z)
          have hc2 : H2 c = some (.dK []) := kp c _ tc upd_same
          have rk : Rep X.K (pubH ow2 H2) kd kv := E3.tmp (kd, kv) (by simp)
          have rv := E4.tmp (d, v) (by simp)
          refine ⟨hc2, [(k, v)], by rw [keyD_rep rk ek]; rfl, show 1 ≤ 15 by decide, ?_⟩
          have hl : lab (fun a => setOw ow c .tmp a = .tmp) .tmp ow2 c = .tmp := lab_pos (S := fun a => setOw ow c .tmp a = .tmp) tc
          have n0 : lab (fun a => setOw ow c .tmp a = .tmp) .tmp ow2 c ≠ .pub := by rw [hl]; exact fun z => nomatch z
          have pu : pubH (lab (fun a => setOw ow c .tmp a = .tmp) .tmp ow2) (upd H2 c (.dK (mergeK [] [(k, v)]))) = pubH (lab (fun a => setOw ow c .tmp a = .tmp) .tmp ow2) H2 := pubH_upd n0
          have sp2 : Same (pubH (lab (fun a => setOw ow c .tmp a = .tmp) .tmp ow2) H2) (pubH (lab (fun a => setOw ow c .tmp a = .tmp) .tmp ow2) (upd H2 c (.dK (mergeK [] [(k, v)])))) := by rw [pu]; exact Same.refl _
          have rv2 := rv.mono sp2
          refine q c _ (lab (fun a => setOw ow c .tmp a = .tmp) .tmp ow2) ?_ ⟨hl, [(k, v)], upd_same, rfl, .cons rv2 .nil⟩
          refine ⟨E4.len, E4.fll, E4.frame, fun a h => ?_, E4.nt2 (fun _ z => nomatch z), fun i d h1 h2 => ?_, fun i d h1 h2 => ?_, E4.new, fun a o h1 h2 => ?_, fun x hx => (E4.tmp x (List.mem_cons_of_mem _ (List.mem_cons_of_mem _ hx))).mono sp2, E4.bown, E4.b0⟩
          · by_cases ec : a = c
            · rw [ec, upd_same]; exact fun z => nomatch z
            · rw [upd_ne ec]; exact E4.live a h
          · obtain ⟨v, e, r⟩ := E4.sh i d h1 h2; exact ⟨v, e, r.mono sp2⟩
          · obtain ⟨p, e, o⟩ := E4.hd i d h1 h2
            refine ⟨p, e, o.gen (fun a o hw ho => ?_) sp2 fun _ e => e⟩
            rw [upd_ne fun z => by rw [z, hl] at hw; cases hw]; exact ho
          · rw [upd_ne fun z => by
              subst z
              have := E.same a o h1 h2
              rw [hc] at this; cases this]
            exact E4.same a o h1 h2
        · cases h
      · rename_i h
        split at h <;> cases h
      · exact q.elim
end
end Pv

/-! Pv22: zip of a list and a text. -/
namespace Pv
open PySem PySem.Spec L2
open PyProof.Rows hiding St
section
variable {prog : Program} {w : World} {A : Around} {E : Value → Shared → Prop} {s : Shared}
def stTy (x : Str) : String := if x.cps.all (· < 128) = true then "str_ascii_iterator" else "str_iterator"
theorem iter_st {x : Str} {t : Tok} {Q : Value → Shared → Prop} (q : Q (.ref s.heap.objs.size) { s with heap := s.heap.push { cls := .type (stTy x), data := .fields #[.str x t, .int 0 0] } }) : wpAny (model prog w) A (pyIter (.str x t)) Q E s := by
  unfold stTy at q
  cases h : x.cps.all (· < 128) with
  | true => rw [h] at q; exact wpAny_pyIter_ascii h q
  | false => rw [h] at q; exact wpAny_pyIter_wide h q
theorem stTy_or (x : Str) : stTy x = "str_ascii_iterator" ∨ stTy x = "str_iterator" := by
  unfold stTy
  split
  · exact .inl rfl
  · exact .inr rfl
theorem drawsS (hh : A.handled = none) (it : Addr) (x : Str) (t : Tok) : Draws prog w A it [it] x.cps.size (fun i v => ∃ c u, x.cps[i]? = some c ∧ v = .str ⟨#[c]⟩ u) (fun i h => h.IsStrIter it (stTy x) x t i) := by
  rcases stTy_or x with e | e <;> rw [e]
  · exact Draws.strAscii hh it x t
  · exact Draws.strWide hh it x t
abbrev zl1 (h : Heap) (a : Addr) : Heap := h.push ⟨.type "list_iterator", none, .fields #[.ref a, .int 0 0], #[]⟩
abbrev zl2 (h : Heap) (a : Addr) (x : Str) (t : Tok) : Heap := (zl1 h a).push ⟨.type (stTy x), none, .fields #[.str x t, .int 0 0], #[]⟩
abbrev zl3 (h : Heap) (a : Addr) (x : Str) (t : Tok) : Heap := (zl2 h a x t).push ⟨.type "tuple", none, .seq #[.ref h.objs.size, .ref (zl1 h a).objs.size], #[]⟩
abbrev zl4 (h : Heap) (a : Addr) (x : Str) (t : Tok) : Heap := (zl3 h a x t).push ⟨.type "tuple", none, .seq #[.none, .none], #[]⟩
abbrev zl5 (h : Heap) (a : Addr) (x : Str) (t : Tok) : Heap := (zl4 h a x t).push ⟨.type "zip", none, .fields #[.none, .bool false, .bool false, .ref (zl2 h a x t).objs.size, .ref (zl3 h a x t).objs.size], #[]⟩
theorem meets_zipS (a : Addr) (xs : Array Value) (x : Str) (t : Tok) :
    Meets (Builtin.«zip.__new__» ⟨[.type "zip", .ref a, .str x t], []⟩) (fun _ R s => s.heap.IsList a xs ∧ R (.ok (.ret (.ref (zl4 s.heap a x t).objs.size))) { s with heap := zl5 s.heap a x t }) :=
  .of_wp fun prog w A R s h => by
    obtain ⟨hp, g, d, tk, os⟩ := s
    obtain ⟨hl, h⟩ := h
    have hsub := sub_zip
    have hL : Heap.IsList (Shared.heap ⟨hp, g, d, tk, os⟩) a xs := hl
    wp_walk using wpAny_pyIter_list hL, iter_st
    exact ⟨_, rfl, h⟩
theorem call_zipS {a : Addr} {xs : Array Value} {x : Str} {t : Tok} {Q : Value → Shared → Prop} (hl : s.heap.IsList a xs)
    (q : ∀ h', IsZip h' (s.heap.objs.size + 4) (s.heap.objs.size + 2) (s.heap.objs.size + 3) .none → IsPair h' (s.heap.objs.size + 2) (.ref s.heap.objs.size) (.ref (s.heap.objs.size + 1)) → IsPair h' (s.heap.objs.size + 3) .none .none →
      h'.IsListIter s.heap.objs.size a 0 → h'.IsStrIter (s.heap.objs.size + 1) (stTy x) x t 0 → (∀ c o, s.heap.get? c = some o → h'.get? c = some o) → Q (.ref (s.heap.objs.size + 4)) { s with heap := h' }) :
    wpAny (model prog w) A (call (.type "zip") [.ref a, .str x t]) Q E s := by
  refine callType_new F.called_zip (by decide) (F.typeCall_zip_2 _ _) (F.newCall_zip_2 _ _) (fun o => F.args_object_init_3 o _ _) F.entry_zip_new (meets_zipS a xs x t) ⟨hl, ?_⟩
  have s1 : (zl1 s.heap a).objs.size = s.heap.objs.size + 1 := Heap.size_push ..
  have s2 : (zl2 s.heap a x t).objs.size = s.heap.objs.size + 2 := by rw [Heap.size_push, s1]
  have s3 : (zl3 s.heap a x t).objs.size = s.heap.objs.size + 3 := by rw [Heap.size_push, s2]
  have s4 : (zl4 s.heap a x t).objs.size = s.heap.objs.size + 4 := by rw [Heap.size_push, s3]
  have p5 : (zl5 s.heap a x t).get? (zl4 s.heap a x t).objs.size = some _ := Heap.get?_push_size _ rfl
  have p4 : (zl5 s.heap a x t).get? (zl3 s.heap a x t).objs.size = some _ := Heap.get?_push_of_some _ (Heap.get?_push_size _ rfl)
  have p3 : (zl5 s.heap a x t).get? (zl2 s.heap a x t).objs.size = some _ := Heap.get?_push_of_some _ (Heap.get?_push_of_some _ (Heap.get?_push_size _ rfl))
  have p2 : (zl5 s.heap a x t).get? (zl1 s.heap a).objs.size = some _ := Heap.get?_push_of_some _ (Heap.get?_push_of_some _ (Heap.get?_push_of_some _ (Heap.get?_push_size _ rfl)))
  have p1 : (zl5 s.heap a x t).get? s.heap.objs.size = some _ := Heap.get?_push_of_some _ (Heap.get?_push_of_some _ (Heap.get?_push_of_some _ (Heap.get?_push_of_some _ (Heap.get?_push_size _ rfl))))
  show _ ∧ _
  rw [s2, s3, s4] at p5
  rw [s1, s2] at p3
  rw [s3] at p4
  rw [s1] at p2
  rw [s4]
  exact ⟨⟨_, p5, rfl⟩, q _ p5 p3 p4 ⟨_, p1, rfl, rfl⟩ ⟨_, p2, rfl, rfl⟩ fun c o e => Heap.get?_push_of_some _ (Heap.get?_push_of_some _ (Heap.get?_push_of_some _ (Heap.get?_push_of_some _ (Heap.get?_push_of_some _ e))))⟩
end
/-- a list as it stands at each turn and a text, the items in new pairs -/
def ItzS (K : PySem.W.Frag) (a : Addr) (x : Str) : It :=
  ⟨fun i H => ∃ (xs : List V) (u : V), SqL K H a xs ∧ xs[i]? = some u ∧ i < x.cps.size,
    fun i H v H' => ∃ T u c, v = .ref T ∧ H T = none ∧ H' = upd H T (.tup [u, .str ⟨#[c]⟩]) ∧ (∀ xs, SqL K H a xs → xs[i]? = some u) ∧ x.cps[i]? = some c,
    fun i H => ∃ xs : List V, SqL K H a xs ∧ i ≤ xs.length ∧ i ≤ x.cps.size ∧ (xs.length = i ∨ x.cps.size = i)⟩
theorem turn_zipS {P : Program} {w : World} {K : PySem.W.Frag} {elts : List Expr} {kk : Nat} {tpos : Pos} {a z TI TO i1 i2 : Addr} {x : Str} {t : Tok} (S : ZipSep2 z TI TO i1 i2 [i1, a] [i2]) (ha : a ≠ i1) :
    Turn P w K (.Tuple elts kk tpos) (ItzS K a x) [z, TI, TO, i1, i2] z (fun i h => IsZip h z TI TO .none ∧ IsPair h TI (.ref i1) (.ref i2) ∧ (∃ u v, IsPair h TO u v) ∧ h.IsListIter i1 a i ∧ h.IsStrIter i2 (stTy x) x t i) where
  mem := by simp
  obj := fun i h st c hc => by
    obtain ⟨hz, hTI, ⟨u, v, hTO⟩, ⟨o1, e1, _, d1⟩, ⟨o2, e2, _, d2⟩⟩ := st
    simp only [List.mem_cons, List.not_mem_nil, or_false] at hc
    rcases hc with rfl | rfl | rfl | rfl | rfl
    · exact ⟨_, hz, fun v q => nomatch q⟩
    · exact ⟨_, hTI, fun v q => nomatch q⟩
    · exact ⟨_, hTO, fun v q => nomatch q⟩
    · exact ⟨o1, e1, fun v q => by rw [d1] at q; cases q⟩
    · exact ⟨o2, e2, fun v q => by rw [d2] at q; cases q⟩
  keep := fun i h h' st k => by
    obtain ⟨hz, hTI, ⟨u, v, hTO⟩, h1, ⟨o2, e2, r2⟩⟩ := st
    exact ⟨k z (by simp) _ hz, k TI (by simp) _ hTI, ⟨u, v, k TO (by simp) _ hTO⟩, h1.at fun o q => k i1 (by simp) o q, ⟨o2, k i2 (by simp) o2 e2, r2⟩⟩
  item := by
    intro Y e1 e2 e3 hc i pins s σ H E I hf st hg
    subst e1 e2 e3
    obtain ⟨hz, hTI, ⟨v1, v2, hTO⟩, h1, h2⟩ := st
    obtain ⟨xs, u, hqx, hx, hi⟩ := hg
    obtain ⟨its, rv, p, _⟩ := I.list hqx
    obtain ⟨b, hb, rb⟩ := rv.get hx
    have hzl : z < s.heap.objs.size := Heap.lt_size hz
    have hlen : i < its.toArray.size := by
      obtain ⟨q, _⟩ := List.getElem?_eq_some_iff.mp hb
      simpa using q
    refine wpAny_pyNext_zipD2_item (St1 := fun i h => h.IsListIter i1 a i ∧ h.IsList a its.toArray) (St2 := fun i h => h.IsStrIter i2 (stTy x) x t i) (n1 := its.toArray.size) (n2 := x.cps.size) S (Draws.list (A := Y.A.in1) (show Y.A.in1.handled = none from I.ok.hd hc) i1 a ha its.toArray) (drawsS (A := Y.A.in1) (show Y.A.in1.handled = none from I.ok.hd hc) i2 x t) hz hTI hTO ⟨h1, p.isList⟩ h2 hlen hi fun x1 x2 h' tk hy1 hy2 z' TO' st1 st2 hT hsz hk => ?_
    obtain ⟨c, tc, hcx, rfl⟩ := hy2
    have eb : x1 = b := by
      have hy1 : its.toArray[i]? = some x1 := hy1
      have hb2 : its.toArray[i]? = some b := by simpa using hb
      rw [hb2] at hy1; cases hy1; rfl
    subst eb
    refine ⟨_, rfl, wpAny_letOwnedTupleGo_zip (s := { s with heap := h', toks := tk }) z' fun h'' z'' sb => ?_⟩
    have hT2 : h''.get? s.heap.objs.size = some { cls := .type "tuple", data := .seq #[x1, .str ⟨#[c]⟩ tc] } := (sb.2 _ (Nat.ne_of_gt hzl)).trans hT
    have new : ObjOk Y.prog Y.w (upd H s.heap.objs.size (.tup [u, .str ⟨#[c]⟩])) h'' s.heap.objs.size (.tup [u, .str ⟨#[c]⟩]) :=
      ⟨by show 2 ≤ sizeLine; decide, [x1, .str ⟨#[c]⟩ tc], .cons rb (.cons ⟨tc, rfl⟩ .nil), ⟨_, hT2, rfl, _, rfl⟩⟩
    have I1 : Inv Y pins σ (upd H s.heap.objs.size (.tup [u, .str ⟨#[c]⟩])) { s with heap := h'', toks := tk } :=
      I.turnedNew (ch := [z, TI, TO, i1, i2]) (fun d o hd q => by
        simp only [List.mem_cons, List.not_mem_nil, or_false, not_or] at hd
        exact (sb.2 d hd.1).trans (hk d o hd.1 hd.2.2.1 hd.2.2.2.1 hd.2.2.2.2 q)) hf (Nat.le_refl _) new
    refine ⟨.ref s.heap.objs.size, _, I1, rfl, ⟨_, u, c, rfl, I.hok.fresh (Nat.le_refl _), rfl, fun l hl => by rw [I.list_inj hl hqx]; exact hx, hcx⟩, ⟨z'', ?_, ⟨x1, .str ⟨#[c]⟩ tc, ?_⟩, ?_, ?_⟩, fun d hd => ?_⟩
    · exact (sb.2 _ S.TIz).trans (hk _ _ S.TIz S.TITO S.TIi1 S.TIi2 hTI)
    · exact (sb.2 _ S.TOz).trans TO'
    · exact st1.1.at fun o q => (sb.2 _ (Ne.symm S.zi1)).trans q
    · obtain ⟨o, e, r⟩ := st2
      exact ⟨o, (sb.2 _ (Ne.symm S.zi2)).trans e, r⟩
    · have hlt : d < s.heap.objs.size := by
        simp only [List.mem_cons, List.not_mem_nil, or_false] at hd
        rcases hd with rfl | rfl | rfl | rfl | rfl
        · exact hzl
        · exact Heap.lt_size hTI
        · exact Heap.lt_size hTO
        · obtain ⟨_, e, _⟩ := h1; exact Heap.lt_size e
        · obtain ⟨_, e, _⟩ := h2; exact Heap.lt_size e
      rw [upd_ne (Nat.ne_of_lt hlt)]
      exact (hf d hd).1
  done := by
    intro Y e1 e2 e3 hc i pins s σ H E I hf st hg
    subst e1 e2 e3
    obtain ⟨hz, hTI, ⟨v1, v2, hTO⟩, h1, h2⟩ := st
    obtain ⟨xs, hqx, l1, l2, he⟩ := hg
    obtain ⟨its, rv, p, _⟩ := I.list hqx
    have hl := rv.length
    refine wpAny_pyNext_zipD2_end (St1 := fun i h => h.IsListIter i1 a i ∧ h.IsList a its.toArray) (St2 := fun i h => h.IsStrIter i2 (stTy x) x t i) (n1 := its.toArray.size) (n2 := x.cps.size) S (Draws.list (A := Y.A.in1) (show Y.A.in1.handled = none from I.ok.hd hc) i1 a ha its.toArray) (drawsS (A := Y.A.in1) (show Y.A.in1.handled = none from I.ok.hd hc) i2 x t) hz hTI hTO ⟨h1, p.isList⟩ h2 (by rw [List.size_toArray]; omega) l2 (by rw [List.size_toArray]; omega) fun h' tk hk => ⟨rfl, I.turnedL (ch := [z, TI, TO, i1, i2]) (fun d o hd q => by
        simp only [List.mem_cons, List.not_mem_nil, or_false, not_or] at hd
        exact hk d o hd.1 hd.2.2.1 hd.2.2.2.1 hd.2.2.2.2 q) hf⟩
  self := fun A i s Q E st h => wpAny_pyIter_zip st.1 h
def iZipS (K : PySem.W.Frag) (ta : TA) : TI := fun σ H R => ta σ H fun vs H1 => ∃ a x xs, vs = [.ref a, .str x] ∧ SqL K H1 a xs ∧ R (ItzS K a x) H1
theorem pi_zipS {X : Cx} {e e2 : Expr} {ta : TA} {p pos tpos : Pos} {elts : List Expr} {kk : Nat} (hg : Gl X "zip") (hm : X.mg "zip" = none) (ha : PA X [e, e2] ta)
    (hs : starEach [e, e2] X.env = (false, eval e X.env) :: starEach [e2] X.env := by rfl) (hpl : (backTo pos (starEach [e2] X.env)).any (·.1) = false := by rfl) :
    PI X (.Tuple elts kk tpos) (.Call (.Name "zip" p) [e, e2] [] pos) (iZipS X.K ta) := by
  refine ⟨fun pins s σ H R I h => ?_⟩
  refine Call_ (ld_blt I hg hm PyProof.Rows.boot_zip (PyProof.Rows.callWith_type1 (thn (ha.run pos pins s σ H _ I h) fun us s1 ⟨vs, H1, I1, r1, q1⟩ => ?_) hs hpl))
  obtain ⟨a, x, xs, ex, hqx, q⟩ := q1
  subst ex
  cases r1 with
  | cons r rr =>
    cases rr with
    | cons r' rr =>
      cases rr
      cases r
      obtain ⟨t, rfl⟩ := r'
      obtain ⟨its, rv, p1, _⟩ := I1.list hqx
      have la : a < s1.heap.objs.size := p1.lt
      refine call_zipS p1.isList fun h' hz hTI hTO h1 h2 hk => wpAny_pyIter_zip hz ?_
      have I2 : Inv X pins σ H1 { s1 with heap := h' } := I1.kept (t' := s1.toks) hk
      refine ⟨s1.heap.objs.size + 4, [s1.heap.objs.size + 4, s1.heap.objs.size + 2, s1.heap.objs.size + 3, s1.heap.objs.size, s1.heap.objs.size + 1], _, _, H1, rfl, I2, turn_zipS (t := t) (zip_sep2 (fp1 := [a]) (fp2 := []) (fun b hb => by rw [List.mem_singleton.mp hb]; exact la) (fun b hb => by cases hb)) (Nat.ne_of_lt la), ⟨hz, hTI, ⟨_, _, hTO⟩, h1, h2⟩, fun c hc => ?_, q⟩
      have hle : s1.heap.objs.size ≤ c := by
        simp only [List.mem_cons, List.not_mem_nil, or_false] at hc
        rcases hc with rfl | rfl | rfl | rfl | rfl
        · exact Nat.le_add_right _ _
        · exact Nat.le_add_right _ _
        · exact Nat.le_add_right _ _
        · exact Nat.le_refl _
        · exact Nat.le_add_right _ _
      exact I1.fpOk hle (I1.hok.fresh hle)
/-! ### in values -/
theorem itOk_zipS {K : PySem.W.Frag} {a : Addr} {ds : List D} {x : List Nat} : ItOk K (ItzS K a ⟨x.toArray⟩) (pairsZ ds (signs x)) [.lst ds] [.ref a] := by
  have hv : ∀ (h : Hp), Reps K h [.lst ds] [.ref a] → ∃ vs, h a = some (.lst vs) ∧ Reps K h ds vs := fun h r => by
    cases r with | cons r1 r => cases r1 with | lst h1 h2 => exact ⟨_, h1, h2⟩
  have l : (pairsZ ds (signs x)).length = min ds.length x.length := by simp [pairsZ, signs]
  refine ⟨fun N H i _ r hi => ?_, fun N H _ r => ?_, fun N H i v H' hN r hi y => ?_⟩
  · obtain ⟨vs, h1, h2⟩ := hv _ r
    rw [l, h2.length] at hi
    exact ⟨vs, vs[i]'(by omega), SqL.of (hide_sub _ _ h1), by simp, by simp; omega⟩
  · obtain ⟨vs, h1, h2⟩ := hv _ r
    have sz : (⟨x.toArray⟩ : Str).cps.size = x.length := List.size_toArray
    refine ⟨vs, SqL.of (hide_sub _ _ h1), ?_, ?_, ?_⟩ <;> rw [l, h2.length] <;> omega
  · obtain ⟨vs, h1, h2⟩ := hv _ r
    obtain ⟨T, u, c, rfl, hT, rfl, hu, hc⟩ := y
    obtain ⟨d, e2, r2⟩ := h2.getV (hu vs (SqL.of (hide_sub _ _ h1)))
    have hc : x[i]? = some c := by simpa using hc
    refine ⟨same_new hT, .tup [d, .str [c]], ?_, .tup (hide_some.mpr ⟨not_hid hN hT, upd_same⟩) (.cons (r2.mono (new_sub hT)) (.cons ?_ .nil))⟩
    · unfold pairsZ
      rw [List.getElem?_map]
      have : (ds.zip (signs x))[i]? = some (d, .str [c]) := by
        rw [List.getElem?_zip_eq_some]
        refine ⟨e2, ?_⟩
        show (x.map _)[i]? = _
        rw [List.getElem?_map, hc]; rfl
      rw [this]; rfl
    · exact Rep.str [c]
section
variable {X : Cx} {B : Bd} {W : WX} {fl fl1 fl' flL : List Bool} {pos : Pos}
def itZipS (f : ArgF) : IterF := fun ρ => match f ρ with
  | .ok [.lst ds, .str x] ρ' => .ok (pairsZ ds (signs x)) [.lst ds] ρ'
  | .ex x ρ' => .ex x ρ'
  | _ => .no
theorem piv_zipS {e e2 : Expr} {f : ArgF} {p tpos : Pos} {elts : List Expr} {kk : Nat} (hg : Gl X "zip") (hm : X.mg "zip" = none) (ha : PAv X B W fl [e, e2] f)
    (hs : starEach [e, e2] X.env = (false, eval e X.env) :: starEach [e2] X.env := by rfl) (hpl : (backTo pos (starEach [e2] X.env)).any (·.1) = false := by rfl) :
    PIv X B W fl (.Tuple elts kk tpos) (.Call (.Name "zip" p) [e, e2] [] pos) (itZipS f) :=
  ⟨PI.weaken (pi_zipS hg hm ha.pa hs hpl) fun σ H R ⟨ρ, T, E, q⟩ => by
    obtain ⟨hn, hx, hk⟩ := evI_no q
    refine evA_mk E (fun e => hn (by unfold itZipS; rw [e])) (fun x ρ' e => hx x ρ' (by unfold itZipS; rw [e])) fun ds ρ' ow vs H' e E' r => ?_
    unfold itZipS at hn
    rw [e] at hn
    split at hn
    · rename_i ds x ρ2 e2
      cases e2
      cases r with
      | cons r t => cases t with
        | cons r2 t =>
          cases t
          have r0 := r
          cases r with
          | lst h1 h2 => cases r2 with
            | str => exact ⟨_, _, _, rfl, SqL.of (hide_sub _ _ h1), hk _ _ _ (by unfold itZipS; rw [e]) [_] H' _ rfl ⟨ow, E'.push r0⟩ itOk_zipS⟩
    · rename_i e2; cases e2
    · exact absurd rfl hn⟩
end
end Pv

/-! Pv23: zip of two texts. -/
namespace Pv
open PySem PySem.Spec L2
open PyProof.Rows hiding St
section
variable {prog : Program} {w : World} {A : Around} {E : Value → Shared → Prop} {s : Shared}
abbrev zt1 (h : Heap) (y : Str) (u : Tok) : Heap := h.push ⟨.type (stTy y), none, .fields #[.str y u, .int 0 0], #[]⟩
abbrev zt2 (h : Heap) (y : Str) (u : Tok) (x : Str) (t : Tok) : Heap := (zt1 h y u).push ⟨.type (stTy x), none, .fields #[.str x t, .int 0 0], #[]⟩
abbrev zt3 (h : Heap) (y : Str) (u : Tok) (x : Str) (t : Tok) : Heap := (zt2 h y u x t).push ⟨.type "tuple", none, .seq #[.ref h.objs.size, .ref (zt1 h y u).objs.size], #[]⟩
abbrev zt4 (h : Heap) (y : Str) (u : Tok) (x : Str) (t : Tok) : Heap := (zt3 h y u x t).push ⟨.type "tuple", none, .seq #[.none, .none], #[]⟩
abbrev zt5 (h : Heap) (y : Str) (u : Tok) (x : Str) (t : Tok) : Heap := (zt4 h y u x t).push ⟨.type "zip", none, .fields #[.none, .bool false, .bool false, .ref (zt2 h y u x t).objs.size, .ref (zt3 h y u x t).objs.size], #[]⟩
theorem meets_zipT (y : Str) (u : Tok) (x : Str) (t : Tok) :
    Meets (Builtin.«zip.__new__» ⟨[.type "zip", .str y u, .str x t], []⟩) (fun _ R s => True ∧ R (.ok (.ret (.ref (zt4 s.heap y u x t).objs.size))) { s with heap := zt5 s.heap y u x t }) :=
  .of_wp fun prog w A R s h => by
    obtain ⟨hp, g, d, tk, os⟩ := s
    obtain ⟨hl, h⟩ := h
    have hsub := sub_zip
    wp_walk using iter_st, iter_st
    exact ⟨_, rfl, h⟩
theorem call_zipT2 {y : Str} {u : Tok} {x : Str} {t : Tok} {Q : Value → Shared → Prop}
    (q : ∀ h', IsZip h' (s.heap.objs.size + 4) (s.heap.objs.size + 2) (s.heap.objs.size + 3) .none → IsPair h' (s.heap.objs.size + 2) (.ref s.heap.objs.size) (.ref (s.heap.objs.size + 1)) → IsPair h' (s.heap.objs.size + 3) .none .none →
      h'.IsStrIter s.heap.objs.size (stTy y) y u 0 → h'.IsStrIter (s.heap.objs.size + 1) (stTy x) x t 0 → (∀ c o, s.heap.get? c = some o → h'.get? c = some o) → Q (.ref (s.heap.objs.size + 4)) { s with heap := h' }) :
    wpAny (model prog w) A (call (.type "zip") [.str y u, .str x t]) Q E s := by
  refine callType_new F.called_zip (by decide) (F.typeCall_zip_2 _ _) (F.newCall_zip_2 _ _) (fun o => F.args_object_init_3 o _ _) F.entry_zip_new (meets_zipT y u x t) ⟨trivial, ?_⟩
  have s1 : (zt1 s.heap y u).objs.size = s.heap.objs.size + 1 := Heap.size_push ..
  have s2 : (zt2 s.heap y u x t).objs.size = s.heap.objs.size + 2 := by rw [Heap.size_push, s1]
  have s3 : (zt3 s.heap y u x t).objs.size = s.heap.objs.size + 3 := by rw [Heap.size_push, s2]
  have s4 : (zt4 s.heap y u x t).objs.size = s.heap.objs.size + 4 := by rw [Heap.size_push, s3]
  have p5 : (zt5 s.heap y u x t).get? (zt4 s.heap y u x t).objs.size = some _ := Heap.get?_push_size _ rfl
  have p4 : (zt5 s.heap y u x t).get? (zt3 s.heap y u x t).objs.size = some _ := Heap.get?_push_of_some _ (Heap.get?_push_size _ rfl)
  have p3 : (zt5 s.heap y u x t).get? (zt2 s.heap y u x t).objs.size = some _ := Heap.get?_push_of_some _ (Heap.get?_push_of_some _ (Heap.get?_push_size _ rfl))
  have p2 : (zt5 s.heap y u x t).get? (zt1 s.heap y u).objs.size = some _ := Heap.get?_push_of_some _ (Heap.get?_push_of_some _ (Heap.get?_push_of_some _ (Heap.get?_push_size _ rfl)))
  have p1 : (zt5 s.heap y u x t).get? s.heap.objs.size = some _ := Heap.get?_push_of_some _ (Heap.get?_push_of_some _ (Heap.get?_push_of_some _ (Heap.get?_push_of_some _ (Heap.get?_push_size _ rfl))))
  show _ ∧ _
  rw [s2, s3, s4] at p5
  rw [s1, s2] at p3
  rw [s3] at p4
  rw [s1] at p2
  rw [s4]
  exact ⟨⟨_, p5, rfl⟩, q _ p5 p3 p4 ⟨_, p1, rfl, rfl⟩ ⟨_, p2, rfl, rfl⟩ fun c o e => Heap.get?_push_of_some _ (Heap.get?_push_of_some _ (Heap.get?_push_of_some _ (Heap.get?_push_of_some _ (Heap.get?_push_of_some _ e))))⟩
end
/-- two texts, the signs in new pairs -/
def ItzW (y x : Str) : It :=
  ⟨fun i H => i < y.cps.size ∧ i < x.cps.size,
    fun i H v H' => ∃ T c' c, v = .ref T ∧ H T = none ∧ H' = upd H T (.tup [.str ⟨#[c']⟩, .str ⟨#[c]⟩]) ∧ y.cps[i]? = some c' ∧ x.cps[i]? = some c,
    fun i H => i ≤ y.cps.size ∧ i ≤ x.cps.size ∧ (y.cps.size = i ∨ x.cps.size = i)⟩
theorem turn_zipW {P : Program} {w : World} {K : PySem.W.Frag} {elts : List Expr} {kk : Nat} {tpos : Pos} {z TI TO i1 i2 : Addr} {y x : Str} {u t : Tok} (S : ZipSep2 z TI TO i1 i2 [i1] [i2]) :
    Turn P w K (.Tuple elts kk tpos) (ItzW y x) [z, TI, TO, i1, i2] z (fun i h => IsZip h z TI TO .none ∧ IsPair h TI (.ref i1) (.ref i2) ∧ (∃ u v, IsPair h TO u v) ∧ h.IsStrIter i1 (stTy y) y u i ∧ h.IsStrIter i2 (stTy x) x t i) where
  mem := by simp
  obj := fun i h st c hc => by
    obtain ⟨hz, hTI, ⟨p, q, hTO⟩, ⟨o1, e1, _, d1⟩, ⟨o2, e2, _, d2⟩⟩ := st
    simp only [List.mem_cons, List.not_mem_nil, or_false] at hc
    rcases hc with rfl | rfl | rfl | rfl | rfl
    · exact ⟨_, hz, fun v q => nomatch q⟩
    · exact ⟨_, hTI, fun v q => nomatch q⟩
    · exact ⟨_, hTO, fun v q => nomatch q⟩
    · exact ⟨o1, e1, fun v q => by rw [d1] at q; cases q⟩
    · exact ⟨o2, e2, fun v q => by rw [d2] at q; cases q⟩
  keep := fun i h h' st k => by
    obtain ⟨hz, hTI, ⟨p, q, hTO⟩, ⟨o1, e1, r1⟩, ⟨o2, e2, r2⟩⟩ := st
    exact ⟨k z (by simp) _ hz, k TI (by simp) _ hTI, ⟨p, q, k TO (by simp) _ hTO⟩, ⟨o1, k i1 (by simp) o1 e1, r1⟩, ⟨o2, k i2 (by simp) o2 e2, r2⟩⟩
  item := by
    intro Y e1 e2 e3 hc i pins s σ H E I hf st hg
    subst e1 e2 e3
    obtain ⟨hz, hTI, ⟨v1, v2, hTO⟩, h1, h2⟩ := st
    obtain ⟨hi1, hi⟩ := hg
    have hzl : z < s.heap.objs.size := Heap.lt_size hz
    refine wpAny_pyNext_zipD2_item (St1 := fun i h => h.IsStrIter i1 (stTy y) y u i) (St2 := fun i h => h.IsStrIter i2 (stTy x) x t i) (n1 := y.cps.size) (n2 := x.cps.size) S (drawsS (A := Y.A.in1) (show Y.A.in1.handled = none from I.ok.hd hc) i1 y u) (drawsS (A := Y.A.in1) (show Y.A.in1.handled = none from I.ok.hd hc) i2 x t) hz hTI hTO h1 h2 hi1 hi fun x1 x2 h' tk hy1 hy2 z' TO' st1 st2 hT hsz hk => ?_
    obtain ⟨c, tc, hcx, rfl⟩ := hy2
    obtain ⟨c', tc', hcy, rfl⟩ := hy1
    refine ⟨_, rfl, wpAny_letOwnedTupleGo_zip (s := { s with heap := h', toks := tk }) z' fun h'' z'' sb => ?_⟩
    have hT2 : h''.get? s.heap.objs.size = some { cls := .type "tuple", data := .seq #[.str ⟨#[c']⟩ tc', .str ⟨#[c]⟩ tc] } := (sb.2 _ (Nat.ne_of_gt hzl)).trans hT
    have new : ObjOk Y.prog Y.w (upd H s.heap.objs.size (.tup [.str ⟨#[c']⟩, .str ⟨#[c]⟩])) h'' s.heap.objs.size (.tup [.str ⟨#[c']⟩, .str ⟨#[c]⟩]) :=
      ⟨by show 2 ≤ sizeLine; decide, [.str ⟨#[c']⟩ tc', .str ⟨#[c]⟩ tc], .cons ⟨tc', rfl⟩ (.cons ⟨tc, rfl⟩ .nil), ⟨_, hT2, rfl, _, rfl⟩⟩
    have I1 : Inv Y pins σ (upd H s.heap.objs.size (.tup [.str ⟨#[c']⟩, .str ⟨#[c]⟩])) { s with heap := h'', toks := tk } :=
      I.turnedNew (ch := [z, TI, TO, i1, i2]) (fun d o hd q => by
        simp only [List.mem_cons, List.not_mem_nil, or_false, not_or] at hd
        exact (sb.2 d hd.1).trans (hk d o hd.1 hd.2.2.1 hd.2.2.2.1 hd.2.2.2.2 q)) hf (Nat.le_refl _) new
    refine ⟨.ref s.heap.objs.size, _, I1, rfl, ⟨_, c', c, rfl, I.hok.fresh (Nat.le_refl _), rfl, hcy, hcx⟩, ⟨z'', ?_, ⟨.str ⟨#[c']⟩ tc', .str ⟨#[c]⟩ tc, ?_⟩, ?_, ?_⟩, fun d hd => ?_⟩
    · exact (sb.2 _ S.TIz).trans (hk _ _ S.TIz S.TITO S.TIi1 S.TIi2 hTI)
    · exact (sb.2 _ S.TOz).trans TO'
    · obtain ⟨o, e, r⟩ := st1
      exact ⟨o, (sb.2 _ (Ne.symm S.zi1)).trans e, r⟩
    · obtain ⟨o, e, r⟩ := st2
      exact ⟨o, (sb.2 _ (Ne.symm S.zi2)).trans e, r⟩
    · have hlt : d < s.heap.objs.size := by
        simp only [List.mem_cons, List.not_mem_nil, or_false] at hd
        rcases hd with rfl | rfl | rfl | rfl | rfl
        · exact hzl
        · exact Heap.lt_size hTI
        · exact Heap.lt_size hTO
        · obtain ⟨_, e, _⟩ := h1; exact Heap.lt_size e
        · obtain ⟨_, e, _⟩ := h2; exact Heap.lt_size e
      rw [upd_ne (Nat.ne_of_lt hlt)]
      exact (hf d hd).1
  done := by
    intro Y e1 e2 e3 hc i pins s σ H E I hf st hg
    subst e1 e2 e3
    obtain ⟨hz, hTI, ⟨v1, v2, hTO⟩, h1, h2⟩ := st
    obtain ⟨l1, l2, he⟩ := hg
    refine wpAny_pyNext_zipD2_end (St1 := fun i h => h.IsStrIter i1 (stTy y) y u i) (St2 := fun i h => h.IsStrIter i2 (stTy x) x t i) (n1 := y.cps.size) (n2 := x.cps.size) S (drawsS (A := Y.A.in1) (show Y.A.in1.handled = none from I.ok.hd hc) i1 y u) (drawsS (A := Y.A.in1) (show Y.A.in1.handled = none from I.ok.hd hc) i2 x t) hz hTI hTO h1 h2 l1 l2 (he.imp Eq.symm Eq.symm) fun h' tk hk => ⟨rfl, I.turnedL (ch := [z, TI, TO, i1, i2]) (fun d o hd q => by
        simp only [List.mem_cons, List.not_mem_nil, or_false, not_or] at hd
        exact hk d o hd.1 hd.2.2.1 hd.2.2.2.1 hd.2.2.2.2 q) hf⟩
  self := fun A i s Q E st h => wpAny_pyIter_zip st.1 h
def iZipW (ta : TA) : TI := fun σ H R => ta σ H fun vs H1 => ∃ y x, vs = [.str y, .str x] ∧ R (ItzW y x) H1
theorem pi_zipW {X : Cx} {e e2 : Expr} {ta : TA} {p pos tpos : Pos} {elts : List Expr} {kk : Nat} (hg : Gl X "zip") (hm : X.mg "zip" = none) (ha : PA X [e, e2] ta)
    (hs : starEach [e, e2] X.env = (false, eval e X.env) :: starEach [e2] X.env := by rfl) (hpl : (backTo pos (starEach [e2] X.env)).any (·.1) = false := by rfl) : PI X (.Tuple elts kk tpos) (.Call (.Name "zip" p) [e, e2] [] pos) (iZipW ta) := by
  refine ⟨fun pins s σ H R I h => ?_⟩
  refine Call_ (ld_blt I hg hm PyProof.Rows.boot_zip (PyProof.Rows.callWith_type1 (thn (ha.run pos pins s σ H _ I h) fun us s1 ⟨vs, H1, I1, r1, q1⟩ => ?_) hs hpl))
  obtain ⟨y, x, ex, q⟩ := q1
  subst ex
  cases r1 with
  | cons r rr =>
    cases rr with
    | cons r' rr =>
      cases rr
      obtain ⟨u, rfl⟩ := r
      obtain ⟨t, rfl⟩ := r'
      refine call_zipT2 fun h' hz hTI hTO h1 h2 hk => wpAny_pyIter_zip hz ?_
      have I2 : Inv X pins σ H1 { s1 with heap := h' } := I1.kept (t' := s1.toks) hk
      refine ⟨s1.heap.objs.size + 4, [s1.heap.objs.size + 4, s1.heap.objs.size + 2, s1.heap.objs.size + 3, s1.heap.objs.size, s1.heap.objs.size + 1], _, _, H1, rfl, I2, turn_zipW (u := u) (t := t) (zip_sep2 (fp1 := []) (fp2 := []) (fun b hb => by cases hb) (fun b hb => by cases hb)), ⟨hz, hTI, ⟨_, _, hTO⟩, h1, h2⟩, fun c hc => ?_, q⟩
      have hle : s1.heap.objs.size ≤ c := by
        simp only [List.mem_cons, List.not_mem_nil, or_false] at hc
        rcases hc with rfl | rfl | rfl | rfl | rfl
        · exact Nat.le_add_right _ _
        · exact Nat.le_add_right _ _
        · exact Nat.le_add_right _ _
        · exact Nat.le_refl _
        · exact Nat.le_add_right _ _
      exact I1.fpOk hle (I1.hok.fresh hle)
/-! ### in values -/
theorem itOk_zipW {K : PySem.W.Frag} {y x : List Nat} : ItOk K (ItzW ⟨y.toArray⟩ ⟨x.toArray⟩) (pairsZ (signs y) (signs x)) [] [] := by
  have l : (pairsZ (signs y) (signs x)).length = min y.length x.length := by simp [pairsZ, signs]
  have sz : ∀ x : List Nat, (⟨x.toArray⟩ : Str).cps.size = x.length := fun _ => List.size_toArray
  refine ⟨fun N H i _ _ hi => ?_, fun N H _ _ => ?_, fun N H i v H' hN _ _ q => ?_⟩
  · rw [l] at hi
    exact ⟨by rw [sz]; omega, by rw [sz]; omega⟩
  · refine ⟨?_, ?_, ?_⟩ <;> rw [l] <;> rw [sz] <;> (try rw [sz]) <;> omega
  · obtain ⟨T, c', c, rfl, hT, rfl, hc', hc⟩ := q
    have hc : x[i]? = some c := by simpa using hc
    have hc' : y[i]? = some c' := by simpa using hc'
    refine ⟨same_new hT, .tup [.str [c'], .str [c]], ?_, .tup (hide_some.mpr ⟨not_hid hN hT, upd_same⟩) (.cons ?_ (.cons ?_ .nil))⟩
    · unfold pairsZ
      rw [List.getElem?_map]
      have : ((signs y).zip (signs x))[i]? = some (.str [c'], .str [c]) := by
        rw [List.getElem?_zip_eq_some]
        refine ⟨?_, ?_⟩
        · show (y.map _)[i]? = _
          rw [List.getElem?_map, hc']; rfl
        · show (x.map _)[i]? = _
          rw [List.getElem?_map, hc]; rfl
      rw [this]; rfl
    · exact Rep.str [c']
    · exact Rep.str [c]
section
variable {X : Cx} {B : Bd} {W : WX} {fl fl1 fl' flL : List Bool} {pos : Pos}
def itZipT (f : ArgF) : IterF := fun ρ => match f ρ with
  | .ok [.str y, .str x] ρ' => .ok (pairsZ (signs y) (signs x)) [] ρ'
  | .ex x ρ' => .ex x ρ'
  | _ => .no
theorem piv_zipT {e e2 : Expr} {f : ArgF} {p tpos : Pos} {elts : List Expr} {kk : Nat} (hg : Gl X "zip") (hm : X.mg "zip" = none) (ha : PAv X B W fl [e, e2] f)
    (hs : starEach [e, e2] X.env = (false, eval e X.env) :: starEach [e2] X.env := by rfl) (hpl : (backTo pos (starEach [e2] X.env)).any (·.1) = false := by rfl) : PIv X B W fl (.Tuple elts kk tpos) (.Call (.Name "zip" p) [e, e2] [] pos) (itZipT f) :=
  ⟨PI.weaken (pi_zipW hg hm ha.pa hs hpl) fun σ H R ⟨ρ, T, E, q⟩ => by
    obtain ⟨hn, hx, hk⟩ := evI_no q
    refine evA_mk E (fun e => hn (by unfold itZipT; rw [e])) (fun x ρ' e => hx x ρ' (by unfold itZipT; rw [e])) fun ds ρ' ow vs H' e E' r => ?_
    unfold itZipT at hn
    rw [e] at hn
    split at hn
    · rename_i y x ρ2 e2
      cases e2
      cases r with
      | cons r t => cases t with
        | cons r2 t =>
          cases t
          cases r with
          | str => cases r2 with
            | str => exact ⟨_, _, rfl, hk _ _ _ (by unfold itZipT; rw [e]) [] H' _ rfl ⟨ow, E'⟩ itOk_zipW⟩
    · rename_i e2; cases e2
    · exact absurd rfl hn⟩
end
end Pv

/-! Pv24: order of nested data: <, min, max, sorted. -/
noncomputable section
namespace Pv
open PySem PySem.Spec L2
open PyProof.Rows hiding St
theorem okN_deep {n : Nat} {d : D} (h : okN n d = true) : (toPy n d).canLay0 = true ∧ (toPy n d).depth ≤ n := lay_okN n d h
theorem toPy_inj : ∀ (n : Nat) (x y : D), okN n x = true → okN n y = true → toPy n x = toPy n y → x = y := by
  have sj : ∀ a b : List Nat, PyData.str ⟨a.toArray⟩ = PyData.str ⟨b.toArray⟩ → a = b := fun a b h => str_inj (PyData.str.inj h)
  intro n
  induction n with
  | zero =>
    intro x y hx hy h
    cases x <;> (first | (cases hx; done) | (cases y <;> (first | (cases hy; done) | (cases h; done) | (cases h; rfl) | (rw [sj _ _ h]))))
  | succ n ih =>
    have all : ∀ xs ys : List D, xs.all (okN n) = true → ys.all (okN n) = true → xs.map (toPy n) = ys.map (toPy n) → xs = ys := by
      intro xs
      induction xs with
      | nil => intro ys _ _ h; cases ys with | nil => rfl | cons _ _ => cases h
      | cons x xs ih2 =>
        intro ys hx hy h
        cases ys with
        | nil => cases h
        | cons y ys =>
          rw [List.all_cons, Bool.and_eq_true] at hx hy
          rw [List.map_cons, List.map_cons, List.cons.injEq] at h
          rw [ih x y hx.1 hy.1 h.1, ih2 ys hx.2 hy.2 h.2]
    intro x y hx hy h
    cases x with
    | lst xs => cases y with
      | lst ys => rw [all xs ys hx hy (PyData.list.inj h)]
      | _ => first | (cases h; done) | (cases hy; done)
    | tup xs => cases y with
      | tup ys => rw [all xs ys hx hy (PyData.tuple.inj h)]
      | _ => first | (cases h; done) | (cases hy; done)
    | _ => first | (cases hx; done) | (cases y <;> (first | (cases hy; done) | (cases h; done) | (cases h; rfl) | (rw [sj _ _ h])))
/-! ### < -/
def rLtD (K : PySem.W.Frag) : R2 := fun x y H Q => ∃ d e, Dp K H x d ∧ Dp K H y e ∧ PySem.W.alike d e = true ∧ d ≠ .none ∧ d.depth ≤ 60 ∧ Q (.bl (PySem.W.dataLt d e)) H
theorem op_ltD {X : Cx} (hu : X.A.units + 65 < cLine) : OpR X (compareOp .Lt) (rLtD X.K) := by
  intro pins s σ H x y v u Q I rx ry h
  obtain ⟨d, e, hd, he, al, hn, hdp, q⟩ := h
  obtain ⟨as, r1⟩ := Dp.reads I d x v hd rx
  obtain ⟨bs, r2⟩ := Dp.reads I e y u he ry
  exact PySem.W.lt_data r1 r2 al hn (by have := Nat.min_le_left d.depth e.depth; omega) ⟨.bl _, H, I, rfl, q⟩
def ltV (x y : D) : Bool := PySem.W.dataLt (toPy dep x) (toPy dep y)
def alV (x y : D) : Bool := PySem.W.alike (toPy dep x) (toPy dep y)
def ltP (x y : D) : Option D := if okD x = true ∧ okD y = true ∧ alV x y = true ∧ isNon x = false then some (.bl (ltV x y)) else none
theorem toPy_non {n : Nat} {d : D} (h : okN n d = true) (hn : isNon d = false) : toPy n d ≠ .none := fun z => by
  cases n <;> cases d <;> first | (cases hn; done) | (cases h; done) | (cases z; done)
theorem o_ltP {K : PySem.W.Frag} : Op2 K (rLtD K) ltP := by
  intro N H x y v w z Q hN bx hy e q
  unfold ltP at e
  split at e
  · rename_i c; cases e
    exact ⟨_, _, toPy_dp hide_sub dep x v c.1 bx, toPy_dp hide_sub dep y w c.2.1 hy, c.2.2.1, toPy_non c.1 c.2.2.2, Nat.le_trans (okN_deep c.1).2 (by decide), q _ H (Same.refl H) (.bl _)⟩
  · cases e
section
variable {X : Cx} {B : Bd} {W : WX} {fl : List Bool} {pos p : Pos} {a b : Expr} {o o' : Opd} {k : Nat}
theorem pv_ltP (hr : Room k X.A) (ha : POp X B W fl a o) (hb : POp X B W fl b o') : PV X B W fl (.Compare a [.Lt] [b] pos) (bin2 o o' ltP) := pv_op2 (pe_cmpR (op_ltD (by have := hr.un; omega)) ha.pe hb.pe (nomark _)) o_ltP
theorem ptv_ltP (hr : Room k X.A) (ha : POp X B W fl a o) (hb : POp X B W fl b o') : PTv X B W fl (.Compare a [.Lt] [b] pos) (bin2 o o' ltP) := ptv_op (pt_cmpR (op_ltD (by have := hr.un; omega)) ha.pe hb.pe (nomark _)) o_ltP
end
/-! ### min, max of a list -/
def rPick (K : PySem.W.Frag) (pick : PyData → List PyData → PyData) : List V → Hp → VK → Prop := fun vs H Q => ∃ (a : Addr) (xs : List V) (x : PyData) (ds : List PyData), vs = [V.ref a] ∧ SqL K H a xs ∧ DpAll K H xs (x :: ds) ∧ PySem.W.AlikeAll (x :: ds) ∧
  PyData.depthAll (x :: ds) ≤ 60 ∧ PyData.canLayAll0 (x :: ds) = true ∧ (pick x ds).canLay0 = true ∧ ∀ (i : Nat) (v : V), xs[i]? = some v → (x :: ds)[i]? = some (pick x ds) → Q v H
theorem readsAll_get {h : Heap} : ∀ {ds : List PyData} {us : List Value} {as : List Addr} {i : Nat} {u : Value}, ReadsAll h us ds as → us[i]? = some u → ∃ d bs, ds[i]? = some d ∧ Reads h u d bs
  | _, _, _, _, _, .nil, e => by simp at e
  | _, _, _, 0, _, .cons r _, e => by simp at e; subst e; exact ⟨_, _, rfl, r⟩
  | _, _, _, i + 1, u, .cons _ t, e => by
    obtain ⟨d, bs, h1, h2⟩ := readsAll_get (i := i) (u := u) t (by simpa using e)
    exact ⟨d, bs, by simpa using h1, h2⟩
theorem vals_getV : ∀ {xs : List V} {us : List Value} {i : Nat} {u : Value}, Vals xs us → us[i]? = some u → ∃ x, xs[i]? = some x ∧ RelV x u
  | _, _, _, _, .nil, e => by simp at e
  | _, _, 0, _, .cons r _, e => by simp at e; subst e; exact ⟨_, rfl, r⟩
  | _, _, i + 1, u, .cons _ t, e => by
    obtain ⟨d, h1, h2⟩ := vals_getV (i := i) (u := u) t (by simpa using e)
    exact ⟨d, by simpa using h1, h2⟩
theorem lay_get {ds : List PyData} (h : PyData.canLayAll0 ds = true) : ∀ {i : Nat} {d : PyData}, ds[i]? = some d → d.canLay0 = true := by
  induction ds with
  | nil => intro i d e; simp at e
  | cons x ds ih =>
    have h : (x.canLay0 && PyData.canLayAll0 ds) = true := h
    rw [Bool.and_eq_true] at h
    intro i d e
    cases i with
    | zero => simp at e; subst e; exact h.1
    | succ i => exact ih h.2 (by simpa using e)
section
variable {X : Cx}
theorem pick_end {pins : List (Addr × Obj)} {σ : St} {H : Hp} {s : Shared} {Q : VK} {its : List Value} {xs : List V} {x : PyData} {ds : List PyData} {pick : PyData → List PyData → PyData} {as : List Addr} (I : L2.Inv X pins σ H s) (rv : Vals xs its) (h4 : ReadsAll s.heap its (x :: ds) as)
    (hl0 : PyData.canLayAll0 (x :: ds) = true) (hp : (pick x ds).canLay0 = true) (q : ∀ (i : Nat) (v : V), xs[i]? = some v → (x :: ds)[i]? = some (pick x ds) → Q v H) :
    ∀ (i : Nat) v h' tk bs, its.toArray[i]? = some v → Reads h' v (pick x ds) bs → (∀ b o, s.heap.get? b = some o → h'.get? b = some o) → EP X pins σ Q v { s with heap := h', toks := tk } := fun i v h' tk bs hv hr hk => by
  have hv' : its[i]? = some v := by simpa using hv
  obtain ⟨d, cs, e1, r1⟩ := readsAll_get h4 hv'
  obtain ⟨y, e2, r2⟩ := vals_getV rv hv'
  have e3 : d = pick x ds := by
    have a1 := SeqAt.readOf_eq (lay_get hl0 e1) (PySem.W.reads_keeps hk r1)
    have a2 := SeqAt.readOf_eq hp hr
    rw [← a1, a2]
  rw [e3] at e1
  exact ⟨y, H, I.kept hk, r2, q i y e2 e1⟩
theorem cr_minP (hc : X.calm = true) (hu : X.A.units + 65 < cLine) : CallR X (.builtin "min") (rPick X.K PySem.W.minD) := by
  intro pins s σ H vs us Q I r h
  obtain ⟨a, xs, x, ds, rfl, hs, hd, hal, hdp, hl0, hp, q⟩ := h
  obtain ⟨its, rv, hl, hz⟩ := I.list hs
  rw [Vals.ref1 r]
  obtain ⟨as, h4⟩ := Dp.readsAll I (x :: ds) _ its hd rv
  exact PySem.W.min_list_data (I.ok.hd hc) hl.isList (show ReadsAll s.heap its.toArray.toList (x :: ds) as from h4) hal (by omega) (pick_end I rv h4 hl0 hp q)
theorem cr_maxP (hc : X.calm = true) (hu : X.A.units + 65 < cLine) : CallR X (.builtin "max") (rPick X.K PySem.W.maxD) := by
  intro pins s σ H vs us Q I r h
  obtain ⟨a, xs, x, ds, rfl, hs, hd, hal, hdp, hl0, hp, q⟩ := h
  obtain ⟨its, rv, hl, hz⟩ := I.list hs
  rw [Vals.ref1 r]
  obtain ⟨as, h4⟩ := Dp.readsAll I (x :: ds) _ its hd rv
  exact PySem.W.max_list_data (I.ok.hd hc) hl.isList (show ReadsAll s.heap its.toArray.toList (x :: ds) as from h4) hal (by omega) (pick_end I rv h4 hl0 hp q)
end
def alB (ds : List D) : Bool := ds.all fun a => ds.all fun b => PySem.W.alike (toPy 5 a) (toPy 5 b)
def lt5 (x y : D) : Bool := PySem.W.dataLt (toPy 5 x) (toPy 5 y)
def pickBy (lt : D → D → Bool) (x : D) (ds : List D) : D := ds.foldl (fun a y => if lt y a = true then y else a) x
def minP : D → Option D
  | .lst (x :: ds) => if okD (.lst (x :: ds)) = true ∧ alB (x :: ds) = true ∧ (x :: ds).all (fun d => !isNon d) = true then some (pickBy lt5 x ds) else none
  | _ => none
def maxP : D → Option D
  | .lst (x :: ds) => if okD (.lst (x :: ds)) = true ∧ alB (x :: ds) = true ∧ (x :: ds).all (fun d => !isNon d) = true then some (pickBy (fun y a => lt5 a y) x ds) else none
  | _ => none
theorem pickBy_mem (lt : D → D → Bool) : ∀ (ds : List D) (x : D), pickBy lt x ds ∈ x :: ds
  | [], x => List.mem_cons_self
  | y :: ds, x => by
    have ih := pickBy_mem lt ds (if lt y x = true then y else x)
    show pickBy lt (if lt y x = true then y else x) ds ∈ _
    rcases List.mem_cons.mp ih with e | e
    · rw [e]; split <;> simp
    · exact List.mem_cons_of_mem _ (List.mem_cons_of_mem _ e)
theorem minD_pick : ∀ (ds : List D) (x : D), PySem.W.minD (toPy 5 x) (ds.map (toPy 5)) = toPy 5 (pickBy lt5 x ds)
  | [], x => rfl
  | y :: ds, x => by
    have ih := minD_pick ds (if lt5 y x = true then y else x)
    show PySem.W.minD (if PySem.W.dataLt (toPy 5 y) (toPy 5 x) = true then toPy 5 y else toPy 5 x) (ds.map (toPy 5)) = toPy 5 (pickBy lt5 (if lt5 y x = true then y else x) ds)
    rw [← ih]
    unfold lt5
    split <;> rfl
theorem maxD_pick : ∀ (ds : List D) (x : D), PySem.W.maxD (toPy 5 x) (ds.map (toPy 5)) = toPy 5 (pickBy (fun y a => lt5 a y) x ds)
  | [], x => rfl
  | y :: ds, x => by
    have ih := maxD_pick ds (if lt5 x y = true then y else x)
    show PySem.W.maxD (if PySem.W.dataLt (toPy 5 x) (toPy 5 y) = true then toPy 5 y else toPy 5 x) (ds.map (toPy 5)) = toPy 5 (pickBy (fun y a => lt5 a y) (if lt5 x y = true then y else x) ds)
    rw [← ih]
    unfold lt5
    split <;> rfl
theorem toPy_dps {K : PySem.W.Frag} {h H : Hp} (s : Same h H) : ∀ (ds : List D) (vs : List V), ds.all (okN 5) = true → Reps K h ds vs → DpAll K H vs (ds.map (toPy 5)) := by
  intro ds
  induction ds with
  | nil => intro vs _ r; cases r; exact .nil
  | cons d ds ih2 =>
    intro vs ok r
    rw [List.all_cons, Bool.and_eq_true] at ok
    cases r with
    | cons r t => exact .cons (toPy_dp s 5 _ _ ok.1 (.val r)) (ih2 _ ok.2 t)
theorem lays : ∀ ds : List D, ds.all (okN 5) = true → PyData.canLayAll0 (ds.map (toPy 5)) = true ∧ PyData.depthAll (ds.map (toPy 5)) ≤ 5 := by
  intro ds
  induction ds with
  | nil => intro _; exact ⟨rfl, Nat.zero_le _⟩
  | cons d ds ih2 =>
    intro ok
    rw [List.all_cons, Bool.and_eq_true] at ok
    obtain ⟨a, b⟩ := lay_okN 5 _ ok.1
    obtain ⟨c, e⟩ := ih2 ok.2
    refine ⟨?_, ?_⟩
    · show (PyData.canLay0 (toPy 5 d) && PyData.canLayAll0 (ds.map (toPy 5))) = true
      rw [a, c]; rfl
    · show max (PyData.depth (toPy 5 d)) (PyData.depthAll (ds.map (toPy 5))) ≤ 5
      omega
theorem alB_all {ds : List D} (h : alB ds = true) : ∀ x ∈ ds.map (toPy 5), ∀ y ∈ ds.map (toPy 5), PySem.W.alike x y = true := fun x hx y hy => by
  obtain ⟨a, ha, rfl⟩ := List.mem_map.mp hx
  obtain ⟨b, hb, rfl⟩ := List.mem_map.mp hy
  exact List.all_eq_true.mp (List.all_eq_true.mp h a ha) b hb
theorem pick_w {K : PySem.W.Frag} {pick : PyData → List PyData → PyData} {lt : D → D → Bool} (hp : ∀ (ds : List D) (x : D), pick (toPy 5 x) (ds.map (toPy 5)) = toPy 5 (pickBy lt x ds)) {x : D} {ds : List D} {N : Addr → Prop} {H : Hp} {v : V} {Q : VK}
    (c : okD (.lst (x :: ds)) = true ∧ alB (x :: ds) = true ∧ (x :: ds).all (fun d => !isNon d) = true) (bx : BRep K (hide N H) H (.lst (x :: ds)) v) (q : ∀ u H', Same H H' → Rep K (hide N H') (pickBy lt x ds) u → Q u H') : rPick K pick [v] H Q := by
  obtain ⟨a, vs, rfl, h1, h2⟩ := bx.lstE hide_sub
  have ok : (x :: ds).all (okN 5) = true := c.1
  obtain ⟨l1, l2⟩ := lays _ ok
  have okp : okN 5 (pickBy lt x ds) = true := List.all_eq_true.mp ok _ (pickBy_mem lt ds x)
  refine ⟨a, vs, toPy 5 x, ds.map (toPy 5), rfl, SqL.of h1, toPy_dps hide_sub _ _ ok h2, ⟨alB_all c.2.1, fun y hy => ?_⟩, Nat.le_trans l2 (by decide), l1, ?_, fun i w hw he => ?_⟩
  · obtain ⟨d, hd, rfl⟩ := List.mem_map.mp (show y ∈ (x :: ds).map (toPy 5) from hy)
    exact toPy_non (List.all_eq_true.mp ok d hd) (by have := List.all_eq_true.mp c.2.2 d hd; simpa using this)
  · rw [hp]; exact (lay_okN 5 _ okp).1
  · obtain ⟨d, hd, r⟩ := h2.getV hw
    have e1 : ((x :: ds).map (toPy 5))[i]? = some (pick (toPy 5 x) (ds.map (toPy 5))) := he
    rw [List.getElem?_map, hd, hp] at e1
    have e2 : d = pickBy lt x ds := toPy_inj 5 _ _ (List.all_eq_true.mp ok d (List.mem_of_getElem? hd)) okp (Option.some.inj e1)
    rw [e2] at r
    exact q w H (Same.refl H) r
theorem o_minP {K : PySem.W.Frag} : Op1 K (fun x H Q => rPick K PySem.W.minD [x] H Q) minP := by
  intro N H x v z Q hN bx e q
  unfold minP at e
  split at e
  · split at e
    · rename_i c; cases e
      exact pick_w minD_pick c bx q
    · cases e
  · cases e
theorem o_maxP {K : PySem.W.Frag} : Op1 K (fun x H Q => rPick K PySem.W.maxD [x] H Q) maxP := by
  intro N H x v z Q hN bx e q
  unfold maxP at e
  split at e
  · split at e
    · rename_i c; cases e
      exact pick_w maxD_pick c bx q
    · cases e
  · cases e
section
variable {X : Cx} {B : Bd} {W : WX} {fl : List Bool} {pos p : Pos} {a b : Expr} {o o' : Opd} {k : Nat}
theorem pv_minP (hr : Room k X.A) (hg : Gl X "min") (hm : X.mg "min" = none) (ha : POp X B W fl a o) (hc : X.calm = true := by rfl) (he : starEach [a] X.env = (false, eval a X.env) :: starEach [] X.env := by rfl) : PV X B W fl (.Call (.Name "min" p) [a] [] pos) (un1 o minP) := pv_op1 (pe_callB (cr_minP hc (by have := hr.un; omega)) hg hm bt_min (pa_cons ha.pe pa_nil he) (he := he)) o_minP
theorem pv_maxP (hr : Room k X.A) (hg : Gl X "max") (hm : X.mg "max" = none) (ha : POp X B W fl a o) (hc : X.calm = true := by rfl) (he : starEach [a] X.env = (false, eval a X.env) :: starEach [] X.env := by rfl) : PV X B W fl (.Call (.Name "max" p) [a] [] pos) (un1 o maxP) := pv_op1 (pe_callB (cr_maxP hc (by have := hr.un; omega)) hg hm bt_max (pa_cons ha.pe pa_nil he) (he := he)) o_maxP
end
end Pv

/-! Pv25: sorted lists of nested data. -/
noncomputable section
namespace Pv
open PySem PySem.Spec L2
open PyProof.Rows hiding St
def leD5 (x y : D) : Bool := PySem.W.dataLe false (toPy 5) x y
def sortV (xs : List V) (ds : List PyData) : List V := ((xs.zip ds).mergeSort (PySem.W.dataLe false Prod.snd)).map Prod.fst
def rSortP (K : PySem.W.Frag) : List V → Hp → VK → Prop := fun vs H Q => ∃ (a : Addr) (xs : List V) (ds : List PyData), vs = [V.ref a] ∧ SqL K H a xs ∧ DpAll K H xs ds ∧ PySem.W.AllAlike ds ∧ PySem.W.Sortable ds ∧ (∀ d ∈ ds, d.depth ≤ 60) ∧
  ∀ p, H p = none → Q (.ref p) (upd H p (.lst (sortV xs ds)))
theorem each_zip {h : Heap} : ∀ {xs : List V} {us : List Value} {ds : List PyData} {as : List Addr}, Vals xs us → ReadsAll h us ds as → xs.length = ds.length ∧ PySem.W.EachIs (fun v (b : V × PyData) => RelV b.1 v) us (xs.zip ds) ∧ PySem.W.EachIs (fun v (b : V × PyData) => ∃ as, Reads h v b.2 as) us (xs.zip ds)
  | [], _, _, _, .nil, .nil => ⟨rfl, .nil, .nil⟩
  | x :: xs, _ :: us, _ :: ds, _, .cons r t, .cons q u => by
    obtain ⟨l, e1, e2⟩ := each_zip t u
    exact ⟨congrArg Nat.succ l, .cons r e1, .cons ⟨_, q⟩ e2⟩
theorem vals_each : ∀ {us : List Value} {bs : List (V × PyData)}, PySem.W.EachIs (fun v (b : V × PyData) => RelV b.1 v) us bs → Vals (bs.map Prod.fst) us
  | _, _, .nil => .nil
  | _, _, .cons r t => .cons r (vals_each t)
theorem cr_sortP {X : Cx} (hu : X.A.units + 65 < cLine) : CallR X (.builtin "sorted") (rSortP X.K) := by
  intro pins s σ H vs us Q I r h
  obtain ⟨a, xs, ds, rfl, hs, hd, hal, hsb, hdp, q⟩ := h
  obtain ⟨its, rv, hl, hz⟩ := I.list hs
  rw [Vals.ref1 r]
  obtain ⟨as, h4⟩ := Dp.readsAll I ds _ its hd rv
  obtain ⟨hlen, e1, e2⟩ := each_zip rv h4
  have em : (xs.zip ds).map Prod.snd = ds := by rw [List.map_snd_zip (by omega)]
  refine PySem.W.sorted_data (enc := Prod.snd) (bs := xs.zip ds) hl.isList e1 e2 (by rw [em]; exact hal) (by rw [em]; exact hsb) (by rw [List.length_zip]; have := Nat.min_le_left xs.length ds.length; omega) (fun b hb => ?_) fun out h1 h2 => ?_
  · have := hdp b.2 (by rw [← em]; exact List.mem_map.mpr ⟨b, hb, rfl⟩)
    omega
  · have v2 := vals_each h2
    obtain ⟨ep, he'⟩ := PyProof.Rows.sortedAll_at s.heap its out.toArray
    have hlen2 : (sortV xs ds).length ≤ sizeLine := by
      unfold sortV
      rw [List.length_map, List.length_mergeSort, List.length_zip]
      have := Nat.min_le_left xs.length ds.length
      omega
    exact ⟨.ref _, upd H (s.heap.objs.size + 1) (.lst (sortV xs ds)), I.laid (t' := s.toks) (fun _ _ => PyProof.Rows.sortedAll_old) (Nat.le_succ _) ⟨hlen2, out, ep, v2, he'⟩, rfl, q _ (I.hok.fresh (Nat.le_succ _))⟩
def isT1 : D → Bool
  | .tup (_ :: _) => true
  | _ => false
def isAt : D → Bool
  | .int _ => true
  | .str _ => true
  | _ => false
def srtB (ds : List D) : Bool := ds.all isT1 || ds.all isAt
theorem srtB_ok {ds : List D} (h : srtB ds = true) : PySem.W.Sortable (ds.map (toPy 5)) := by
  unfold srtB at h
  rw [Bool.or_eq_true] at h
  rcases h with h | h
  · left
    intro d hd
    obtain ⟨x, hx, rfl⟩ := List.mem_map.mp hd
    have := List.all_eq_true.mp h x hx
    cases x with
    | tup xs => cases xs with
      | nil => cases this
      | cons y ys => exact ⟨_, _, rfl⟩
    | _ => cases this
  · right
    intro d hd
    obtain ⟨x, hx, rfl⟩ := List.mem_map.mp hd
    have := List.all_eq_true.mp h x hx
    cases x with
    | int i => exact ⟨fun z => (nomatch z), fun _ z => (nomatch z)⟩
    | str i => exact ⟨fun z => (nomatch z), fun _ z => (nomatch z)⟩
    | _ => cases this
def srtOk (ds : List D) : Prop := okD (.lst ds) = true ∧ alB ds = true ∧ srtB ds = true
open Classical in
def sortP : D → Option D
  | .lst ds => if srtOk ds then some (.lst (ds.mergeSort leD5)) else none
  | _ => none
/-- the arranged values stand for the arranged data -/
theorem sort_reps {K : PySem.W.Frag} {h : Hp} {ds : List D} {xs : List V} (r : Reps K h ds xs) : Reps K h (ds.mergeSort leD5) (sortV xs (ds.map (toPy 5))) := by
  have l := r.length
  let L := ds.zip xs
  let r0 : D × V → D × V → Bool := fun p q => leD5 p.1 q.1
  have e1 : (L.mergeSort r0).map Prod.fst = ds.mergeSort leD5 := by
    rw [List.map_mergeSort (s := leD5) (fun _ _ _ _ => rfl), List.map_fst_zip (by omega)]
  have e2 : (L.mergeSort r0).map Prod.snd = sortV xs (ds.map (toPy 5)) := by
    unfold sortV
    have e3 : L.map (fun p => (p.2, toPy 5 p.1)) = xs.zip (ds.map (toPy 5)) := by
      show (ds.zip xs).map (fun p => (p.2, toPy 5 p.1)) = _
      clear e1 r
      induction ds generalizing xs with
      | nil => cases xs with | nil => rfl | cons _ _ => cases l
      | cons d ds ih =>
        cases xs with
        | nil => cases l
        | cons x xs =>
          rw [List.zip_cons_cons, List.map_cons, ih (by simpa using l)]; rfl
    rw [← e3, ← List.map_mergeSort (f := fun p : D × V => (p.2, toPy 5 p.1)) (r := r0) (fun _ _ _ _ => rfl), List.map_map]; rfl
  have e3 : (ds.mergeSort leD5).zip (sortV xs (ds.map (toPy 5))) = L.mergeSort r0 := by
    rw [← e1, ← e2]
    generalize L.mergeSort r0 = M
    induction M with
    | nil => rfl
    | cons p M ih => rw [List.map_cons, List.map_cons, List.zip_cons_cons, ih]
  refine reps_zip (by rw [← e1, ← e2, List.length_map, List.length_map]) fun q hq => ?_
  rw [e3] at hq
  have hq : q ∈ ds.zip xs := (List.mergeSort_perm L r0).mem_iff.mp hq
  have key : ∀ {ds : List D} {xs : List V}, Reps K h ds xs → ∀ q ∈ ds.zip xs, Rep K h q.1 q.2 := by
    intro ds
    induction ds with
    | nil => intro xs r q hq; cases hq
    | cons d ds ih =>
      intro xs r q hq
      cases r with
      | cons r t =>
        rw [List.zip_cons_cons] at hq
        rcases List.mem_cons.mp hq with rfl | hq
        · exact r
        · exact ih t q hq
  exact key r q hq
theorem o_sortPF {K : PySem.W.Frag} : Op1F K (fun x H Q => rSortP K [x] H Q) sortP := by
  intro N H x v z Q hN bx e q
  unfold sortP at e
  split at e
  · split at e
    · rename_i ds c; cases e
      obtain ⟨a, vs, rfl, h1, h2⟩ := bx.lstE hide_sub
      have ok : ds.all (okN 5) = true := c.1
      refine ⟨a, vs, ds.map (toPy 5), rfl, SqL.of h1, toPy_dps hide_sub _ _ ok h2, alB_all c.2.1, srtB_ok c.2.2, fun d hd => ?_, fun p hp => ?_⟩
      · obtain ⟨x, hx, rfl⟩ := List.mem_map.mp hd
        exact Nat.le_trans (lay_okN 5 _ (List.all_eq_true.mp ok x hx)).2 (by decide)
      · exact q p _ hp (same_new hp) ⟨_, upd_same, (sort_reps h2).mono (fresh_sub hp)⟩
    · cases e
  · cases e
section
variable {X : Cx} {B : Bd} {W : WX} {fl : List Bool} {pos p : Pos} {a : Expr} {o : Opd} {k : Nat}
theorem pf_sortP (hr : Room k X.A) (hg : Gl X "sorted") (hm : X.mg "sorted" = none) (ha : POp X B W fl a o) (he : starEach [a] X.env = (false, eval a X.env) :: starEach [] X.env := by rfl) : PF X B W fl (.Call (.Name "sorted" p) [a] [] pos) (un1 o sortP) := pf_op1 (pe_callB (cr_sortP (by have := hr.un; omega)) hg hm bt_sorted (pa_cons ha.pe pa_nil he) (he := he)) o_sortPF
end
end Pv

/-! Pv26: instances: attributes, making, methods. -/
noncomputable section
namespace Pv
open PySem PySem.Spec L2
open PyProof.Rows hiding St

/-! ### e.f -/
def fldD (C0 : Addr) (f : Str) : D → Option D
  | .ins C fs => if C = C0 then fs.lookup f else none
  | .ino C fs g xs => if C = C0 ∧ f ≠ g then fs.lookup f else none
  | _ => none
def rFld (K : PySem.W.Frag) (f : Str) : V → Hp → VK → Prop := fun x H1 Q => ∃ a C dx fs v, x = .ref a ∧ H1 a = some (.ins C dx fs) ∧ Cls K C ∧ NoAttr K C f ∧ fs.lookup f = some v ∧ Q v H1
theorem lookup_reps {K : PySem.W.Frag} {h : Hp} {f : Str} : ∀ {fs : List (Str × D)} {gs : List (Str × V)} {d : D}, gs.map (·.1) = fs.map (·.1) → Reps K h (fs.map (·.2)) (gs.map (·.2)) → fs.lookup f = some d → ∃ v, gs.lookup f = some v ∧ Rep K h d v
  | [], gs, d, _, _, e => by simp at e
  | q :: fs, [], d, k, _, e => by simp at k
  | q :: fs, r :: gs, d, k, rs, e => by
    rw [List.map_cons, List.map_cons] at k rs
    injection k with k1 k2
    cases rs with
    | cons r1 r2 =>
      obtain ⟨a, b⟩ := q
      obtain ⟨a', b'⟩ := r
      cases k1
      rw [List.lookup_cons] at e ⊢
      dsimp only at *
      by_cases c : (f == a) = true
      · rw [c] at e ⊢
        cases e
        exact ⟨_, rfl, r1⟩
      · rw [Bool.not_eq_true] at c
        rw [c] at e ⊢
        exact lookup_reps k2 r2 e
theorem lookup_frep {K : PySem.W.Frag} {h : Hp} {f g : Str} {la : Addr} (hn : f ≠ g) : ∀ {fs : List (Str × D)} {gs : List (Str × V)} {d : D}, FRep K h g la fs gs → fs.lookup f = some d → ∃ v, gs.lookup f = some v ∧ Rep K h d v
  | [], gs, d, _, e => by simp at e
  | q :: fs, [], d, k, e => k.elim
  | q :: fs, r :: gs, d, k, e => by
    obtain ⟨a, b⟩ := q
    obtain ⟨a', b'⟩ := r
    obtain ⟨k1, k2, k3⟩ := k
    cases k1
    dsimp only at k2
    rw [List.lookup_cons] at e ⊢
    by_cases c : (f == a) = true
    · rw [c] at e ⊢
      cases e
      rw [if_neg (fun z => hn (by rw [eq_of_beq c, z]))] at k2
      exact ⟨_, rfl, k2⟩
    · rw [Bool.not_eq_true] at c
      rw [c] at e ⊢
      exact lookup_frep hn k3 e
theorem lookup_la {K : PySem.W.Frag} {h : Hp} {g : Str} {la : Addr} : ∀ {fs : List (Str × D)} {gs : List (Str × V)}, FRep K h g la fs gs → (fs.lookup g).isSome = true → gs.lookup g = some (.ref la)
  | [], gs, _, e => by simp at e
  | q :: fs, [], k, e => k.elim
  | q :: fs, r :: gs, k, e => by
    obtain ⟨a, b⟩ := q
    obtain ⟨a', b'⟩ := r
    obtain ⟨k1, k2, k3⟩ := k
    cases k1
    dsimp only at k2
    rw [List.lookup_cons] at e ⊢
    by_cases c : (g == a) = true
    · rw [c]
      rw [if_pos (eq_of_beq c).symm] at k2
      rw [k2]
    · rw [Bool.not_eq_true] at c
      rw [c] at e ⊢
      exact lookup_la k3 e
section
variable {K : PySem.W.Frag} {C0 : Addr} {f : Str}
theorem o_fld (hc : Cls K C0) (hn : NoAttr K C0 f) : Op1 K (rFld K f) (fldD C0 f) := by
  intro N H x v z Q hN b e q
  cases x with
  | ins C fs =>
    unfold fldD at e
    dsimp only at e
    by_cases c : C = C0
    · rw [if_pos c] at e
      subst c
      obtain ⟨a, dx, gs, rfl, h1, h2, h3⟩ := b.insE hide_sub
      obtain ⟨v, l, r⟩ := lookup_reps h2 h3 e
      exact ⟨a, C, dx, gs, v, rfl, h1, hc, hn, l, q v H (Same.refl H) r⟩
    · rw [if_neg c] at e; cases e
  | ino C fs g xs =>
    unfold fldD at e
    dsimp only at e
    by_cases c : C = C0 ∧ f ≠ g
    · rw [if_pos c] at e
      obtain ⟨c1, c2⟩ := c
      subst c1
      cases b with
      | val r => cases r
      | ino h1 h2 =>
        obtain ⟨v, l, r⟩ := lookup_frep c2 h2 e
        exact ⟨_, C, _, _, v, rfl, h1, hc, hn, l, q v H (Same.refl H) r⟩
    · rw [if_neg c] at e; cases e
  | _ => cases e
end
section
variable {X : Cx} {B : Bd} {W : WX} {fl fl1 fl' flL : List Bool} {pos : Pos}
theorem pv_fld {C0 : Addr} {f : Str} {e : Expr} {o : Opd} (hc : Cls X.K C0) (hn : NoAttr X.K C0 f) (h : POp X B W fl e o) (hb : attributeBase e f X.env (eval e X.env) = eval e X.env := by rfl) : PV X B W fl (.Attribute e f pos) (un1 o (fldD C0 f)) :=
  ⟨PE.weaken (pe_fld h.pe hb) fun σ H Q q => (o_fld hc hn).w q⟩
end
/-! ### self.f = e -/
def putN (f : Str) (v : D) : List (Str × D) → List (Str × D)
  | [] => [(f, v)]
  | (g, x) :: r => if g = f then (g, v) :: r else (g, x) :: putN f v r
theorem reps_put {K : PySem.W.Frag} {h : Hp} {f : Str} {d : D} {v : V} (rv : Rep K h d v) : ∀ {fs : List (Str × D)} {gs : List (Str × V)}, gs.map (·.1) = fs.map (·.1) → Reps K h (fs.map (·.2)) (gs.map (·.2)) →
    (putF f v gs).map (·.1) = (putN f d fs).map (·.1) ∧ Reps K h ((putN f d fs).map (·.2)) ((putF f v gs).map (·.2))
  | [], [], _, _ => ⟨rfl, .cons rv .nil⟩
  | [], _ :: _, k, _ => by simp at k
  | _ :: _, [], k, _ => by simp at k
  | (a, x) :: fs, (b, y) :: gs, k, rs => by
    rw [List.map_cons, List.map_cons] at k rs
    injection k with k1 k2
    dsimp only at k1
    subst k1
    cases rs with
    | cons r1 r2 =>
      obtain ⟨i1, i2⟩ := reps_put rv k2 r2
      unfold putF putN
      by_cases c : b = f
      · rw [if_pos c, if_pos c]
        exact ⟨by rw [List.map_cons, List.map_cons, k2], .cons rv r2⟩
      · rw [if_neg c, if_neg c]
        exact ⟨by rw [List.map_cons, List.map_cons, i1], .cons r1 i2⟩
theorem frep_put {K : PySem.W.Frag} {h : Hp} {f : Str} {la : Addr} : ∀ {fs : List (Str × D)} {gs : List (Str × V)}, gs.map (·.1) = fs.map (·.1) → Reps K h (fs.map (·.2)) (gs.map (·.2)) → f ∉ fs.map (·.1) → FRep K h f la (putN f .non fs) (putF f (.ref la) gs)
  | [], [], _, _, _ => ⟨rfl, by rw [if_pos rfl], trivial⟩
  | [], _ :: _, k, _, _ => by simp at k
  | _ :: _, [], k, _, _ => by simp at k
  | (a, x) :: fs, (b, y) :: gs, k, rs, n => by
    rw [List.map_cons, List.map_cons] at k rs
    rw [List.map_cons] at n
    injection k with k1 k2
    dsimp only at k1
    subst k1
    cases rs with
    | cons r1 r2 =>
      have nb : b ≠ f := fun z => n (by rw [z]; exact List.mem_cons_self)
      unfold putF putN
      rw [if_neg nb, if_neg nb]
      exact ⟨rfl, by rw [if_neg nb]; exact r1, frep_put k2 r2 fun z => n (List.mem_cons_of_mem _ z)⟩
theorem map_len {α β : Type} {fs : List (Str × α)} {gs : List (Str × β)} (k : gs.map (·.1) = fs.map (·.1)) : gs.length = fs.length := by
  have := congrArg List.length k
  simpa using this
def setA (C0 : Addr) (k : Nat) (f : Str) (vf : ValF) : StF := fun ρ => (vf ρ).out fun d ρ' => match (ρ'[k]? : Option (Option D)) with
  | some (some (.ins C fs)) => if C = C0 ∧ fs.length < 900 then .nx (ρ'.set k (some (.ins C (putN f d fs)))) else .no
  | _ => .no
def setAL (C0 : Addr) (k : Nat) (f : Str) (vf : ValF) : StF := fun ρ => (vf ρ).out fun d ρ' => match (ρ'[k]? : Option (Option D)), d with
  | some (some (.ins C fs)), .lst xs => if C = C0 ∧ fs.length < 900 ∧ f ∉ fs.map (·.1) then .nx (ρ'.set k (some (.ino C (putN f .non fs) f xs))) else .no
  | _, _ => .no
section
variable {K : PySem.W.Frag} {B : Bd} {fl : List Bool} {ow : Addr → Ow} {σ : St} {H : Hp} {ρ : Env} {T : List (D × V)}
/-- what is held for a moment is held by a slot -/
theorem ERo.relTmp (E : ERo K B fl ow σ H ρ T) (k : Nat) : ERo K B fl (rel ow .tmp (.slot k)) σ H ρ T where
  len := E.len
  fll := E.fll
  frame := fun a h => by rw [Pv.rel_ne (by rw [E.frame a h]; exact fun z => nomatch z)]; exact E.frame a h
  live := fun a q => by
    refine E.live a fun z => q ?_
    rw [Pv.rel_ne (by rw [z]; exact fun z => nomatch z)]; exact z
  nt := fun a vs h => by
    have z := E.nt a vs h
    rw [Pv.rel_ne (by rw [z]; exact fun z => nomatch z)]; exact z
  sh := fun j e h1 h2 => by
    obtain ⟨u, q1, q2⟩ := E.sh j e h1 h2
    exact ⟨u, q1, q2.mono (pubH_rel (w := .tmp) (fun z => nomatch z) H)⟩
  hd := fun j e h1 h2 => by
    obtain ⟨u, q1, q2⟩ := E.hd j e h1 h2
    exact ⟨u, q1, q2.rel_ne (fun z => nomatch z) (fun z => nomatch z)⟩
  new := fun a q1 q2 => by
    by_cases e : ow a = .tmp
    · exact E.new a (by rw [e]; exact fun z => nomatch z) (by rw [e]; exact fun z => nomatch z)
    · rw [Pv.rel_ne e] at q1 q2; exact E.new a q1 q2
  same := E.same
  tmp := fun q hq => (E.tmp q hq).mono (pubH_rel (w := .tmp) (fun z => nomatch z) H)
  bown := fun a h => by rw [Pv.rel_ne (by rw [E.bown a h]; exact fun z => nomatch z)]; exact E.bown a h
  b0 := E.b0
end
section
variable {X : Cx} {B : Bd} {W : WX} {fl fl1 fl' flL : List Bool} {pos : Pos}
theorem psv_setA {C0 : Addr} {f : Str} {k : Nat} {st : Stmt} {e : Expr} {vf : ValF} (hc : Cls X.K C0) (hn : NoAttr X.K C0 f) (mk : ∀ te, PE X e te → PS X st (sFld X.K (tVar k) te f)) (he : PV X B W fl e vf) (hf : fl[k]? = some true := by rfl) : PSv X B W flL fl fl st (setA C0 k f vf) :=
  PS.svT (mk _ he.pe) fun D σ H ρ T E q => by
    refine evT_out E q fun d ρ' ow v H' e E' r q2 => ?_
    split at q2
    · rename_i C fs e3
      split at q2
      · rename_i c
        obtain ⟨c1, c2⟩ := c
        subst c1
        obtain ⟨p, e4, h1, dx, gs, h2, h3, h4⟩ := E'.hd k _ e3 hf
        refine ⟨_, e4, p, C, dx, gs, rfl, h2, hc, hn, by rw [map_len h3]; omega, ?_⟩
        obtain ⟨i1, i2⟩ := reps_put (f := f) r h3 h4
        refine q2 _ _ ⟨ow, E'.change1 hf e4 h1 ⟨h1, dx, _, upd_same, i1, ?_⟩⟩
        rw [pubH_upd (by rw [h1]; exact fun z => nomatch z)]
        exact i2
      · exact q2.elim
    · exact q2.elim
theorem psv_setAL {C0 : Addr} {f : Str} {k : Nat} {st : Stmt} {e : Expr} {vf : ValF} (hc : Cls X.K C0) (hn : NoAttr X.K C0 f) (mk : ∀ te, PE X e te → PS X st (sFld X.K (tVar k) te f)) (he : PF X B W fl e vf) (hf : fl[k]? = some true := by rfl) : PSv X B W flL fl fl st (setAL C0 k f vf) :=
  PS.svT (mk _ he.pe) fun D σ H ρ T E q => by
    refine evF_out E q fun d ρ' ow la H' e E' r q2 => ?_
    split at q2
    · rename_i C fs xs e3
      split at q2
      · rename_i c
        obtain ⟨c1, c2, c3⟩ := c
        subst c1
        have E1 := E'.relTmp k
        have r1 := OwnAt.rel_eq (w := .tmp) (w' := .slot k) (fun z => nomatch z) r
        obtain ⟨p, e4, h1, dx, gs, h2, h3, h4⟩ := E1.hd k _ e3 hf
        obtain ⟨g1, vs, g2, g3⟩ := r1
        refine ⟨_, e4, p, C, dx, gs, rfl, h2, hc, hn, by rw [map_len h3]; omega, ?_⟩
        have ne : la ≠ p := fun z => by rw [z, h2] at g2; cases g2
        refine q2 _ _ ⟨_, E1.change1 hf e4 h1 ⟨h1, dx, _, la, vs, upd_same, ne, g1, by rw [upd_ne ne]; exact g2, ?_, ?_⟩⟩
        · rw [pubH_upd (by rw [h1]; exact fun z => nomatch z)]; exact g3
        · rw [pubH_upd (by rw [h1]; exact fun z => nomatch z)]; exact frep_put h3 h4 c3
      · exact q2.elim
    · exact q2.elim
end
/-! ### self.f.append(e) -/
theorem frep_pairs {K : PySem.W.Frag} {h : Hp} {f : Str} {la : Addr} : ∀ {fs : List (Str × D)} {gs : List (Str × V)}, FRep K h f la fs gs → ∃ L : List (D × V), (∀ q ∈ L, Rep K h q.1 q.2) ∧ ∀ h' : Hp, (∀ q ∈ L, Rep K h' q.1 q.2) → FRep K h' f la fs gs
  | [], [], _ => ⟨[], ⟨fun q z => (nomatch z), fun h' z => trivial⟩⟩
  | [], _ :: _, k => k.elim
  | _ :: _, [], k => k.elim
  | q :: fs, r :: gs, ⟨k1, k2, k3⟩ => by
    obtain ⟨L, l1, l2⟩ := frep_pairs k3
    by_cases c : q.1 = f
    · rw [if_pos c] at k2
      exact ⟨L, l1, fun h' z => ⟨k1, by rw [if_pos c]; exact k2, l2 h' z⟩⟩
    · rw [if_neg c] at k2
      refine ⟨(q.2, r.2) :: L, fun q hq => ?_, fun h' z => ⟨k1, by rw [if_neg c]; exact z _ List.mem_cons_self, l2 h' fun q hq => z q (List.mem_cons_of_mem _ hq)⟩⟩
      rcases List.mem_cons.mp hq with rfl | hq
      · exact k2
      · exact l1 q hq
theorem reps_mem {K : PySem.W.Frag} {h : Hp} : ∀ {ds : List D} {vs : List V}, Reps K h ds vs → ∀ q ∈ ds.zip vs, Rep K h q.1 q.2
  | _, _, .nil, q, hq => nomatch hq
  | _, _, .cons r t, q, hq => by
    rw [List.zip_cons_cons] at hq
    rcases List.mem_cons.mp hq with rfl | hq
    · exact r
    · exact reps_mem t q hq
def appA (C0 : Addr) (k : Nat) (f : Str) (vf : ValF) : StF := fun ρ => match (ρ[k]? : Option (Option D)) with
  | some (some (.ino C fs g xs)) => if C = C0 ∧ g = f ∧ xs.length < lim ∧ (fs.lookup f).isSome = true then (match vf (ρ.set k none) with
    | .ok d ρ' => .nx (ρ'.set k (some (.ino C fs g (xs ++ [d]))))
    | _ => .no) else .no
  | _ => .no
open Classical in
/-- a part of a proof where slot k's objects are nobody's here -/
def Bd.away (B : Bd) (ow : Addr → Ow) (H : Hp) (k : Nat) : Bd := ⟨fun a => B.M a ∨ ow a = .slot k, fun a => if ow a = .slot k then H a else B.H0 a, [], B.fr⟩
section
variable {K : PySem.W.Frag} {B : Bd} {fl : List Bool} {ow : Addr → Ow} {σ : St} {H : Hp} {ρ : Env} {T : List (D × V)}
theorem rel_frame {k : Nat} {a : Addr} (h : rel ow (.slot k) .frame a ≠ .pub) : ow a ≠ .pub := fun z => h (by rw [Pv.rel_ne (by rw [z]; exact fun z => nomatch z)]; exact z)
theorem ERo.away (E : ERo K B fl ow σ H ρ T) {k : Nat} (hk : k = 0 ∨ B.bor = []) : ERo K (B.away ow H k) fl (rel ow (.slot k) .frame) σ H (ρ.set k none) T where
  len := by rw [List.length_set]; exact E.len
  fll := E.fll
  frame := fun a h => by
    rcases h with h | h
    · rw [Pv.rel_ne (by rw [E.frame a h]; exact fun z => nomatch z)]; exact E.frame a h
    · exact Pv.rel_eq h
  live := fun a q => E.live a (rel_frame q)
  nt := fun a vs h => by
    have z := E.nt a vs h
    rw [Pv.rel_ne (by rw [z]; exact fun z => nomatch z)]; exact z
  sh := fun j e h1 h2 => by
    rcases get_set h1 with ⟨rfl, q, _⟩ | ⟨ne, q⟩
    · cases q
    · obtain ⟨u, q1, q2⟩ := E.sh j e q h2
      exact ⟨u, q1, q2.mono (pubH_rel (w := .slot k) (fun z => nomatch z) H)⟩
  hd := fun j e h1 h2 => by
    rcases get_set h1 with ⟨rfl, q, _⟩ | ⟨ne, q⟩
    · cases q
    · obtain ⟨u, q1, q2⟩ := E.hd j e q h2
      exact ⟨u, q1, q2.rel_ne (fun z => nomatch z) (fun z => by cases z; exact ne rfl)⟩
  new := fun a q1 q2 => by
    left
    by_cases e : ow a = .slot k
    · exact absurd (Pv.rel_eq e) q2
    · rw [Pv.rel_ne e] at q1 q2
      show (if ow a = .slot k then H a else B.H0 a) = none
      rw [if_neg e]
      rcases E.new a q1 q2 with h | h
      · exact h
      · rcases hk with hk | hk
        · exact absurd (by rw [hk]; exact E.bown a h) e
        · rw [hk] at h; cases h
  same := fun a o h _ => by
    have h : (if ow a = .slot k then H a else B.H0 a) = some o := h
    by_cases e : ow a = .slot k
    · rw [if_pos e] at h; exact h
    · rw [if_neg e] at h
      refine E.same a o h fun z => ?_
      rcases hk with hk | hk
      · exact absurd (by rw [hk]; exact E.bown a z) e
      · rw [hk] at z; cases z
  tmp := fun q hq => (E.tmp q hq).mono (pubH_rel (w := .slot k) (fun z => nomatch z) H)
  bown := fun a h => nomatch h
  b0 := fun p h => nomatch h
open Classical in
def owBack (ow ow' : Addr → Ow) (k : Nat) : Addr → Ow := fun a => if ow a = .slot k then .slot k else ow' a
theorem owBack_pos {ow' : Addr → Ow} {k : Nat} {a : Addr} (h : ow a = .slot k) : owBack ow ow' k a = .slot k := if_pos h
theorem owBack_neg {ow' : Addr → Ow} {k : Nat} {a : Addr} (h : ow a ≠ .slot k) : owBack ow ow' k a = ow' a := if_neg h
theorem ERo.kept (E : ERo K B fl ow σ H ρ T) {k : Nat} {ow' : Addr → Ow} {H' : Hp} {ρ' : Env} {T' : List (D × V)} (E' : ERo K (B.away ow H k) fl ow' σ H' ρ' T') : ∀ a o, ow a = .slot k → H a = some o → H' a = some o :=
  fun a o h1 h2 => E'.same a o (by show (if ow a = .slot k then H a else B.H0 a) = some o; rw [if_pos h1]; exact h2) (fun z => nomatch z)
theorem ERo.spub (E : ERo K B fl ow σ H ρ T) {k : Nat} {ow' : Addr → Ow} {H' : Hp} {ρ' : Env} {T' : List (D × V)} (E' : ERo K (B.away ow H k) fl ow' σ H' ρ' T') : Same (pubH ow' H') (pubH (owBack ow ow' k) H') :=
  hide_same (Same.refl _) fun a q _ => by
    by_cases e : ow a = .slot k
    · rw [E'.frame a (.inr e)]; exact fun z => nomatch z
    · rw [owBack_neg e] at q; exact q
theorem ERo.back (E : ERo K B fl ow σ H ρ T) {k : Nat} (hk : k = 0 ∨ B.bor = []) (hf : fl[k]? = some true) {p : Addr} (hp : σ[k]? = some (some (.ref p))) {ow' : Addr → Ow} {H' : Hp} {ρ' : Env} {T' : List (D × V)} (E' : ERo K (B.away ow H k) fl ow' σ H' ρ' T') {d : D}
    (o : (∀ a o, ow a = .slot k → H a = some o → H' a = some o) → Same (pubH ow' H') (pubH (owBack ow ow' k) H') → OwnAt K H' (owBack ow ow' k) (.slot k) p d) : ERo K B fl (owBack ow ow' k) σ H' (ρ'.set k (some d)) T' := by
  have fr : ∀ a, ow a = .slot k → ow' a = .frame := fun a h => E'.frame a (.inr h)
  have kp : ∀ a o, ow a = .slot k → H a = some o → H' a = some o := fun a o h1 h2 => E'.same a o (by show (if ow a = .slot k then H a else B.H0 a) = some o; rw [if_pos h1]; exact h2) (fun z => nomatch z)
  have sp : Same (pubH ow' H') (pubH (owBack ow ow' k) H') := hide_same (Same.refl _) fun a q _ => by
    by_cases e : ow a = .slot k
    · rw [fr a e]; exact fun z => nomatch z
    · rw [owBack_neg e] at q; exact q
  exact {
    len := by rw [List.length_set]; exact E'.len
    fll := E'.fll
    frame := fun a h => by
      have q := E.frame a h
      rw [owBack_neg (by rw [q]; exact fun z => nomatch z)]
      exact E'.frame a (.inl h)
    live := fun a q => by
      by_cases e : ow a = .slot k
      · cases e2 : H a with
        | none => exact absurd e2 (E.live a (by rw [e]; exact fun z => nomatch z))
        | some u => rw [kp a u e e2]; exact fun z => nomatch z
      · rw [owBack_neg e] at q; exact E'.live a q
    nt := fun a vs h => by
      have q := E'.nt a vs h
      by_cases e : ow a = .slot k
      · rw [fr a e] at q; cases q
      · rw [owBack_neg e]; exact q
    sh := fun j e h1 h2 => by
      rcases get_set h1 with ⟨rfl, q, _⟩ | ⟨ne, q⟩
      · exact absurd hf h2
      · obtain ⟨u, q1, q2⟩ := E'.sh j e q h2
        exact ⟨u, q1, q2.mono sp⟩
    hd := fun j e h1 h2 => by
      rcases get_set h1 with ⟨rfl, q, _⟩ | ⟨ne, q⟩
      · cases q; exact ⟨p, hp, o kp sp⟩
      · obtain ⟨u, q1, q2⟩ := E'.hd j e q h2
        refine ⟨u, q1, q2.gen (fun _ _ _ e => e) sp fun a z => ?_⟩
        by_cases e : ow a = .slot k
        · rw [fr a e] at z; cases z
        · rw [owBack_neg e]; exact z
    new := fun a q1 q2 => by
      by_cases e : ow a = .slot k
      · exact E.new a (by rw [e]; exact fun z => nomatch z) (by rw [e]; exact fun z => nomatch z)
      · rw [owBack_neg e] at q1 q2
        rcases E'.new a q1 q2 with h | h
        · left
          have h : (if ow a = .slot k then H a else B.H0 a) = none := h
          rw [if_neg e] at h; exact h
        · cases h
    same := fun a u h1 h2 => by
      by_cases e : ow a = .slot k
      · exact kp a u e (E.same a u h1 h2)
      · exact E'.same a u (by show (if ow a = .slot k then H a else B.H0 a) = some u; rw [if_neg e]; exact h1) (fun z => nomatch z)
    tmp := fun q hq => (E'.tmp q hq).mono sp
    bown := fun a h => by
      have q := E.bown a h
      rcases hk with hk | hk
      · rw [owBack_pos (by rw [hk]; exact q), hk]
      · rw [hk] at h; cases h
    b0 := E.b0 }
end
section
variable {X : Cx} {B : Bd} {W : WX} {fl fl1 fl' flL : List Bool} {pos : Pos}
theorem psv_appA {C0 : Addr} {f : Str} {k : Nat} {oe e : Expr} {vf : ValF} {p1 p2 p3 : Pos} (hc : Cls X.K C0) (hn : NoAttr X.K C0 f) (hk : k = 0 ∨ B.bor = [])
    (mk : ∀ te, PE X e te → PE X (.Call (.Attribute (.Attribute oe f p3) "append" p1) [e] [] p2) (tBM X.K "list" rAppend (tFld X.K (tVar k) f) (tCons te tNil))) (he : ∀ B1 : Bd, B1.bor = [] → PV X B1 W fl e vf) (hf : fl[k]? = some true := by rfl)
    (hs : swapsWith (.Call (.Attribute (.Attribute oe f p3) "append" p1) [e] [] p2) none pos.line X.env = pure false := by rfl) : PSv X B W flL fl fl (.Expr (.Call (.Attribute (.Attribute oe f p3) "append" p1) [e] [] p2) pos) (appA C0 k f vf) :=
  ⟨⟨fun pins s σ H D I q => by
    obtain ⟨ρ, T, ⟨ow, E⟩, q2⟩ := svT_iff.mp q
    clear q
    unfold appA at q2
    split at q2
    · rename_i C fs g xs e0
      split at q2
      · rename_i c
        obtain ⟨c1, c2, c3, c4⟩ := c
        subst c1
        subst c2
        obtain ⟨p, e1, h1, dx, gs, la, vs, h2, h3, h4, h5, h6, h7⟩ := E.hd k _ e0 hf
        obtain ⟨L, l1, l2⟩ := frep_pairs h7
        refine (ps_expr (mk _ (he (B.away ow H k) rfl).pe) hs).run pins s σ H D I ?_
        refine ⟨_, e1, p, C, dx, gs, .ref la, rfl, h2, hc, hn, lookup_la h7 c4, .inl ⟨rfl, vs, .inl (.inl h5)⟩, ?_⟩
        have Ex : ERo X.K B fl ow σ H ρ (xs.zip vs ++ (L ++ T)) := { E with
          tmp := fun q hq => by
            rcases List.mem_append.mp hq with hq | hq
            · exact reps_mem h6 q hq
            · rcases List.mem_append.mp hq with hq | hq
              · exact l1 q hq
              · exact E.tmp q hq }
        refine ⟨ρ.set k none, xs.zip vs ++ (L ++ T), ⟨_, Ex.away hk⟩, ?_⟩
        cases ev : vf (ρ.set k none) with
        | no => rw [ev] at q2; exact q2.elim
        | ex x ρ' => rw [ev] at q2; exact q2.elim
        | ok d ρ' =>
          rw [ev] at q2
          dsimp only at q2
          intro v H' ⟨ow', E'⟩
          have rv := E'.top
          have E1 := E'.drop
          have kp2 := E.kept E'
          have sp2 := E.spub E'
          have E2 := E.back (d := .ino C fs g xs) hk hf e1 (E'.drop) fun kp sp => ⟨owBack_pos h1, dx, gs, la, vs, kp _ _ h1 h2, h3, owBack_pos h4, kp _ _ h4 h5, (reps_zip h6.length fun q hq => E1.tmp q (List.mem_append_left _ hq)).mono sp, (l2 _ fun q hq => E1.tmp q (List.mem_append_right _ (List.mem_append_left _ hq))).mono sp⟩
          obtain ⟨p', e1', o1⟩ := E2.hd k _ (List.getElem?_set_self (by rw [E'.len, ← E.len]; exact (List.getElem?_eq_some_iff.mp e0).1)) hf
          rw [e1] at e1'; cases e1'
          have g5 := kp2 la _ h4 h5
          refine ⟨la, vs, v, rfl, rfl, g5, by rw [← h6.length]; exact lim_lt (by omega), ?_⟩
          have E3 := E2.change (d' := .ino C fs g (xs ++ [d])) (H' := upd H' la (.lst (vs ++ [v]))) hf e1 (fun a u a1 a2 => by rw [upd_ne fun z => a1 (by rw [z]; exact owBack_pos h4)]; exact a2) (fun a a1 => by
            by_cases ea : a = la
            · subst ea
              refine ⟨?_, fun vs z => ?_⟩
              · rw [upd_same]; exact fun z => nomatch z
              · rw [upd_same] at z; cases z
            · exact (E2.mu (by rw [a1]; exact fun z => nomatch z)).mono fun u q => by rw [upd_ne ea]; exact q)
            ⟨owBack_pos h1, dx, gs, la, _, by rw [upd_ne h3.symm]; exact kp2 _ _ h1 h2, h3, owBack_pos h4, upd_same, by
              rw [pubH_upd (by rw [owBack_pos h4]; exact fun z => nomatch z)]
              exact ((reps_zip h6.length fun q hq => E1.tmp q (List.mem_append_left _ hq)).append (.cons rv .nil)).mono sp2, by
              rw [pubH_upd (by rw [owBack_pos h4]; exact fun z => nomatch z)]
              exact (l2 _ fun q hq => E1.tmp q (List.mem_append_right _ (List.mem_append_left _ hq))).mono sp2⟩
          rw [List.set_set] at E3
          exact q2 _ _ ⟨_, E3.sub fun q hq => List.mem_append_right _ (List.mem_append_right _ hq)⟩
      · exact q2.elim
    · exact q2.elim⟩⟩
end
end Pv

/-! Pv27: instances: making, methods; a field's list becomes everybody's; targets of four names. -/
noncomputable section
namespace Pv
open PySem PySem.Spec L2
open PyProof.Rows hiding St

/-! ### the field's list becomes everybody's -/
def mltE (k : Nat) (ρ : Env) : Env := match (ρ[k]? : Option (Option D)) with
  | some (some (.ino C fs f xs)) => ρ.set k (some (.ins C (fillF f (.lst xs) fs)))
  | _ => ρ
def mlt (k : Nat) (f : StF) : StF := fun ρ => f (mltE k ρ)
theorem frep_fill {K : PySem.W.Frag} {h : Hp} {f : Str} {la : Addr} {d : D} (rl : Rep K h d (.ref la)) : ∀ {fs : List (Str × D)} {gs : List (Str × V)}, FRep K h f la fs gs → gs.map (·.1) = (fillF f d fs).map (·.1) ∧ Reps K h ((fillF f d fs).map (·.2)) (gs.map (·.2))
  | [], [], _ => ⟨rfl, .nil⟩
  | [], _ :: _, k => k.elim
  | _ :: _, [], k => k.elim
  | q :: fs, r :: gs, ⟨a, b, c⟩ => by
    obtain ⟨i1, i2⟩ := frep_fill rl c
    by_cases z : q.1 = f
    · rw [if_pos z] at b
      refine ⟨?_, ?_⟩
      · show r.1 :: gs.map (·.1) = (if q.1 = f then (q.1, d) else q).1 :: (fillF f d fs).map (·.1)
        rw [if_pos z, ← a, i1]
      · show Reps K _ ((if q.1 = f then (q.1, d) else q).2 :: (fillF f d fs).map (·.2)) (r.2 :: gs.map (·.2))
        rw [if_pos z, b]
        exact .cons rl i2
    · rw [if_neg z] at b
      refine ⟨?_, ?_⟩
      · show r.1 :: gs.map (·.1) = (if q.1 = f then (q.1, d) else q).1 :: (fillF f d fs).map (·.1)
        rw [if_neg z, ← a, i1]
      · show Reps K _ ((if q.1 = f then (q.1, d) else q).2 :: (fillF f d fs).map (·.2)) (r.2 :: gs.map (·.2))
        rw [if_neg z]
        exact .cons b i2
section
variable {K : PySem.W.Frag} {B : Bd} {fl : List Bool} {ow : Addr → Ow} {σ : St} {H : Hp} {ρ : Env} {T : List (D × V)}
theorem ERo.freeAt (E : ERo K B fl ow σ H ρ T) {k : Nat} (hf : fl[k]? = some true) {p la : Addr} {d : D} (hp : σ[k]? = some (some (.ref p))) (hla : ow la = .slot k) (nb : la ∉ B.bor)
    (o : Same (pubH ow H) (pubH (setOw ow la .pub) H) → OwnAt K H (setOw ow la .pub) (.slot k) p d) : ERo K B fl (setOw ow la .pub) σ H (ρ.set k (some d)) T := by
  have sp : Same (pubH ow H) (pubH (setOw ow la .pub) H) := hide_same (Same.refl _) fun a q _ => by
    by_cases e : a = la
    · rw [e, setOw_same] at q; exact absurd rfl q
    · rw [setOw_ne e] at q; exact q
  exact {
    len := by rw [List.length_set]; exact E.len
    fll := E.fll
    frame := fun a h => by
      have q := E.frame a h
      rw [setOw_ne fun z => by rw [z, hla] at q; cases q]; exact q
    live := fun a q => E.live a fun z => q (by
      by_cases e : a = la
      · rw [e, setOw_same]
      · rw [setOw_ne e]; exact z)
    nt := fun a vs h => by
      by_cases e : a = la
      · rw [e, setOw_same]
      · rw [setOw_ne e]; exact E.nt a vs h
    sh := fun j e h1 h2 => by
      rcases get_set h1 with ⟨rfl, q, _⟩ | ⟨ne, q⟩
      · exact absurd hf h2
      · obtain ⟨u, q1, q2⟩ := E.sh j e q h2
        exact ⟨u, q1, q2.mono sp⟩
    hd := fun j e h1 h2 => by
      rcases get_set h1 with ⟨rfl, q, _⟩ | ⟨ne, q⟩
      · cases q; exact ⟨p, hp, o sp⟩
      · obtain ⟨u, q1, q2⟩ := E.hd j e q h2
        refine ⟨u, q1, q2.gen (fun _ _ _ e => e) sp fun a z => ?_⟩
        rw [setOw_ne fun y => by rw [y, hla] at z; cases z; exact ne rfl]; exact z
    new := fun a q1 q2 => by
      by_cases e : a = la
      · rw [e, setOw_same] at q1; exact absurd rfl q1
      · rw [setOw_ne e] at q1 q2; exact E.new a q1 q2
    same := E.same
    tmp := fun q hq => (E.tmp q hq).mono sp
    bown := fun a h => by
      rw [setOw_ne fun z => nb (by rw [← z]; exact h)]; exact E.bown a h
    b0 := E.b0 }
theorem ERo.mlt (E : ERo K B fl ow σ H ρ T) {k : Nat} (hf : fl[k]? = some true) (hb : k ≠ 0 ∨ B.bor.length ≤ 1) : ER K B fl σ H (mltE k ρ) T := by
  unfold mltE
  split
  · rename_i C fs f xs e0
    obtain ⟨p, e1, h1, dx, gs, la, vs, h2, h3, h4, h5, h6, h7⟩ := E.hd k _ e0 hf
    have nb : la ∉ B.bor := fun z => by
      rcases hb with hb | hb
      · have := E.bown la z; rw [h4] at this; cases this; exact hb rfl
      · cases eb : B.bor with
        | nil => rw [eb] at z; cases z
        | cons a l =>
          rw [eb] at z hb
          have : l = [] := List.eq_nil_of_length_eq_zero (by simpa using hb)
          subst this
          cases List.mem_singleton.mp z
          obtain ⟨b1, b2⟩ := E.b0 la (by rw [eb]; rfl)
          have k0 : k = 0 := by
            have := E.bown la (by rw [eb]; exact List.mem_singleton.mpr rfl)
            rw [h4] at this; cases this; rfl
          subst k0
          rw [e1] at b1; cases b1; exact h3 rfl
    refine ⟨_, E.freeAt hf e1 h4 nb fun sp => ?_⟩
    have rl : Rep K (pubH (setOw ow la .pub) H) (.lst xs) (.ref la) := .lst (hide_some.mpr ⟨fun z => z setOw_same, h5⟩) (h6.mono sp)
    obtain ⟨i1, i2⟩ := frep_fill (d := .lst xs) rl (h7.mono sp)
    exact ⟨by rw [setOw_ne h3.symm]; exact h1, dx, gs, h2, i1, i2⟩
  · exact ⟨ow, E⟩
end
section
variable {X : Cx} {B : Bd} {W : WX} {fl fl1 fl' flL : List Bool} {pos : Pos}
theorem PBv.mlt {st : List Stmt} {f : StF} {k : Nat} (h : PBv X B W flL fl fl' st f) (hb : k ≠ 0 ∨ B.bor.length ≤ 1) (hf : fl[k]? = some true := by rfl) : PBv X B W flL fl fl' st (Pv.mlt k f) :=
  ⟨PSs.weaken h.ps fun D σ H q => by
    obtain ⟨ρ, T, ⟨ow, E⟩, q⟩ := svT_iff.mp q
    exact svT_mk (E.mlt hf hb) q⟩
end
/-! ### C(..) -/
/-- __init__: the instance is borrowed, and full behind -/
def spI (K : PySem.W.Frag) (C : Addr) (n : Nat) (F : D → List D → PRes) : Sp := fun vs H Q E => vs.length = n + 1 ∧ ∃ (M : Addr → Prop) (ds : List D) (p dx : Addr) (us : List V), vs = .ref p :: us ∧ (∀ a, M a → MuH H a) ∧ ¬ M p ∧
  H p = some (.ins C dx []) ∧ Reps K (hide (fun a => M a ∨ a ∈ [p]) H) ds us ∧ match F (.ins C []) ds with
  | .rt (.ins C' fs) => ∀ H', (∀ a o, H a = some o → a ∉ [p] → H' a = some o) → BAt K (fun a => M a ∨ a ∈ [p]) H' p (.ins C' fs) → Q .non H'
  | .ex x => ∀ dx H', (∀ a o, H a = some o → a ∉ [p] → H' a = some o) → XOk x H' dx → E (.ref x.cls) dx H'
  | _ => False
def mkI (N : Nat) (f : StF) : D → List D → PRes := fun r ds => match f (envP N (r :: ds)) with
  | .nx ρ => match (ρ[0]? : Option (Option D)) with
    | some (some (.ins C fs)) => .rt (.ins C fs)
    | _ => .no
  | .ex x _ => .ex x
  | _ => .no
open Classical in
theorem fn_I {P : Program} {w : World} {K : PySem.W.Frag} {mg : Str → Option Value} {base : Heap} {x qual : Str} {params : Arguments} {body : List Stmt} {scope : Scope} {f : Addr} {fd : FuncData} {N ps : List Str} {k n : Nat} {fS : StF} {fl' : List Bool} {C : Addr}
    (F : FunD K x qual params body scope [] [] f fd) (S : FnScope N ps scope) (hn : ps.length = n + 1) (hN : n + 1 ≤ N.length)
    (hb : ∀ (cdv : Value) (A : Around) (outer : List PySem.Env) (s : Shared) (H : Hp) (E : XK) (B : Bd), B.bor.length ≤ 1 → B.fr = false → Room k (A.deeper (envOfC qual scope s.heap.objs.size f cdv)) →
      PBv (cxOf (L2N.CX P w) P w K mg base N qual scope f cdv A outer s H E) B (fun cls d _ H => E cls d H) [] (true :: List.replicate (N.length - 1) false) fl' body fS) :
    FnOk P w K mg base (L2N.CX P w) (k + 1) f fd ps (spI K C n (mkI N.length fS)) := by
  refine F.ok S (fun vs H Q E h => by rw [hn]; exact h.1) fun cdv A outer s H vs Q E hr h => ?_
  obtain ⟨hl, M, ds, p, dx, us, rfl, hM, hMp, h1, r, q⟩ := h
  have hul : us.length = n := by simpa using hl
  refine ⟨_, (hb cdv A outer s H E ⟨M, H, [p], false⟩ (Nat.le_refl 1) rfl hr).ps, ?_⟩
  have hlen : (V.ref p :: us).length ≤ N.length := by rw [List.length_cons]; omega
  have E0 : ERo K ⟨M, H, [p], false⟩ (true :: List.replicate (N.length - 1) false) (fun a => if M a then .frame else if a = p then .slot 0 else .pub) (L2.start N (.ref p :: us)) H (envP N.length (.ins C [] :: ds)) [] := by
    have op : ∀ a, (if M a then Ow.frame else if a = p then .slot 0 else .pub) ≠ .pub → M a ∨ a ∈ [p] := fun a q => by
      by_cases hm : M a
      · exact .inl hm
      · rw [if_neg hm] at q
        by_cases hp : a = p
        · right; simpa using hp
        · rw [if_neg hp] at q; exact absurd rfl q
    have f0 : ∀ j, (true :: List.replicate (N.length - 1) false)[j]? = some true → j = 0 := fun j h => by
      cases j with
      | zero => rfl
      | succ j => rw [List.getElem?_cons_succ, List.getElem?_replicate] at h; split at h <;> cases h
    have ep : (if M p then Ow.frame else if p = p then .slot 0 else .pub) = .slot 0 := by rw [if_neg hMp, if_pos rfl]
    refine ⟨?_, ?_, fun a h => if_pos h, fun a q z => ?_, fun a vs z => (by
      rw [if_neg (fun h => (hM a h).2 vs z), if_neg]
      intro h
      rw [h, h1] at z; cases z), fun j d g1 g2 => ?_, fun j d g1 g2 => ?_, fun a q1 q2 => ?_, fun a o h _ => h, (fun q hq => nomatch hq), fun a h => ?_, fun p' hp => ?_⟩
    · rw [envP_len (by rw [List.length_cons, r.length]; omega), start_len hlen]
    · rw [start_len hlen, List.length_cons, List.length_replicate]; omega
    · rcases op a q with h | h
      · exact (hM a h).1 z
      · cases List.mem_singleton.mp h
        rw [h1] at z; cases z
    · have g3 := env_get g1
      cases j with
      | zero => exact absurd rfl g2
      | succ j =>
        obtain ⟨v, e, rv⟩ := r.get (by simpa using g3)
        exact ⟨v, start_get (by simpa using e), rv.mono (hide_same (Same.refl _) fun a q _ => op a q)⟩
    · cases f0 j g2
      have g3 := env_get g1
      cases g3
      exact ⟨p, start_get rfl, ep, dx, [], h1, rfl, .nil⟩
    · right
      rcases op a q1 with h | h
      · exact absurd (if_pos h) q2
      · exact h
    · cases List.mem_singleton.mp h
      exact ep
    · cases hp
      exact ⟨start_get rfl, rfl⟩
  refine svT_mk (T := []) ⟨_, E0⟩ ?_
  unfold mkI at q
  cases e : fS (envP N.length (.ins C [] :: ds)) with
  | nx ρ' =>
    rw [e] at q
    dsimp only at q
    intro σ' H' ⟨ow', E'⟩
    split at q
    · rename_i C' fs e2
      split at e2
      · rename_i C2 fs2 e3
        cases e2
        exact q H' (fun a o ha hn => E'.same a o ha hn) (E'.borrowed rfl e3 (.inr ⟨_, _, rfl⟩))
      · cases e2
    · rename_i e2
      split at e2 <;> cases e2
    · exact q.elim
  | ex x ρ' =>
    rw [e] at q
    exact fun dx σ' H' fl'' ⟨ow', E'⟩ z => q dx H' (fun a o ha hn => E'.same a o ha hn) z
  | rt d ρ' => rw [e] at q; exact q.elim
  | bk ρ' => rw [e] at q; exact q.elim
  | ct ρ' => rw [e] at q; exact q.elim
  | no => rw [e] at q; exact q.elim
section
variable {X : Cx} {CX : CXT} {k : Nat} {f C : Addr} {fd : FuncData} {ps : List Str} {sp : Sp} {E : St → XK} {x m : Str} {p pos apos : Pos} {e o : Expr} {es : List Expr} {ta : TE} {t : TA}
def tMakeS (C : Addr) (sp : Sp) (E : St → XK) (t : TA) : TE := fun σ H Q => t σ H fun vs H1 => ∀ x dx, H1 x = none → H1 dx = none → dx ≠ x →
  sp (.ref x :: vs) (upd (upd H1 dx (.own x)) x (.ins C dx [])) (fun v H2 => v = .non ∧ Q (.ref x) H2) (E σ)
theorem pe_makeS (M : Mk X.K C f) (F : FnOk X.prog X.w X.K X.mg X.base CX k f fd ps sp) (hr : Room (k + 1) X.A) (hg : Gl X x) (hm : X.mg x = some (.ref C)) (hb : Binds X.K fd ps []) (hx : ∀ σ, PassesAt CX X σ (E σ))
    (ha : PA X (e :: es) t) (hdb : (x == ("__debug__" : Str)) = false := by decide) (he : starEach (e :: es) X.env = (false, eval e X.env) :: starEach es X.env := by rfl) (hpl : (backTo pos (starEach es X.env)).any (·.1) = false := by rfl) :
    PE X (.Call (.Name x p) (e :: es) [] pos) (tMakeS C sp E t) := by
  refine ⟨fun pins s σ H Q I h => ?_⟩
  refine wpAny_Call_Name_kw (ld_glob I hg hm ?_ hdb)
  refine PySem.W.callWith_K (h₀ := X.base) I.ok.mod.kin M.kp (thn (ha.run pos pins s σ H _ I h) fun us s1 ⟨vs, H1, I1, r, q⟩ => ⟨I1.kIn, ?_⟩) he hpl
  have hq := q (s1.heap.objs.size + 1) s1.heap.objs.size (I1.hok.fresh (Nat.le_succ _)) (I1.hok.fresh (Nat.le_refl _)) (Nat.ne_of_lt (Nat.lt_succ_self _))
  have I2 := Inv.made (C := C) I1
  have r2 : Vals (V.ref (s1.heap.objs.size + 1) :: vs) (Value.ref (s1.heap.objs.size + 1) :: us) := .cons rfl r
  have hl : (Value.ref (s1.heap.objs.size + 1) :: us ++ ([] : List Value)).length = ps.length := by
    have e := r2.length
    rw [F.len _ _ _ _ hq] at e
    rw [List.append_nil]
    exact e.symm
  have b := hb _ (Value.ref (s1.heap.objs.size + 1) :: us) I2.kIn hl
  rw [List.append_nil] at b
  refine wpAny_call (make_map (f := f) I1.kIn M.makes M.init (beq_iff_eq.mp M.fn) (codeAny_mono (F.run _ X.stack _ _ ⟨Value.ref (s1.heap.objs.size + 1) :: us, []⟩ (Value.ref (s1.heap.objs.size + 1) :: us) _ _ (E σ) (hr.make C us [])
    (I2.env0.make C us []) b r2 hq) fun r s' hq' => ?_))
  cases r with
  | error e => exact hx σ pins _ _ e s' I2 hq'
  | ok fl =>
    cases fl with
    | ret u =>
      obtain ⟨v, H', I3, rv, ev, q3⟩ := I2.after hq'
      subst ev
      exact ⟨rv, ⟨V.ref (s1.heap.objs.size + 1), H', I3, rfl, q3⟩⟩
    | next => exact False.elim hq'
    | brk => exact False.elim hq'
    | cont => exact False.elim hq'
end
/-- a class by its name: its __init__'s promise -/
structure Mak (P : Program) (w : World) (K : PySem.W.Frag) (mg : Str → Option Value) (base : Heap) (k : Nat) (x : Str) (ps : List Str) (n : Nat) (F : D → List D → PRes) : Prop where
  ex : ∃ (f : Addr) (fd : FuncData), Mk K (He.ga K x) f ∧ FnOk P w K mg base (L2N.CX P w) k f fd ps (spI K (He.ga K x) n F) ∧ mg x = some (.ref (He.ga K x)) ∧ Binds K fd ps []
def makF (C : Addr) (F : D → List D → PRes) (fa : ArgF) : ValF := fun ρ => match fa ρ with
  | .ok ds ρ' => match F (.ins C []) ds with
    | .rt (.ins C' fs) => .ok (.ins C' fs) ρ'
    | .ex x => .ex x ρ'
    | _ => .no
  | .ex x ρ' => .ex x ρ'
  | .no => .no
section
variable {X : Cx} {B : Bd} {W : WX} {fl fl1 fl' flL : List Bool} {pos : Pos}
theorem pv_mak {k n m : Nat} {ps : List Str} {F : D → List D → PRes} {x : Str} {p : Pos} {e : Expr} {es : List Expr} {fa : ArgF} (G : Mak X.prog X.w X.K X.mg X.base k x ps n F) (hr : Room m X.A) (hkm : k + 1 ≤ m) (hg : Gl X x) (tk : L2N.Takes X W) (ha : PAv X B W fl (e :: es) fa) (hn0 : (e :: es).length = n := by rfl)
    (hdb : (x == ("__debug__" : Str)) = false := by decide) (he : starEach (e :: es) X.env = (false, eval e X.env) :: starEach es X.env := by rfl)
    (hpl : (backTo pos (starEach es X.env)).any (·.1) = false := by rfl) : PV X B W fl (.Call (.Name x p) (e :: es) [] pos) (makF (He.ga X.K x) F fa) := by
  obtain ⟨f, fd, g1, g2, g3, g4⟩ := G.ex
  refine ⟨PE.weaken (pe_makeS g1 g2 (hr.mono hkm) hg g3 g4 (fun σ => L2N.passAt tk σ) ha.pa hdb he hpl) fun σ H Q ⟨ρ, T, E, q⟩ => ?_⟩
  obtain ⟨hn, hx, hk⟩ := evT_no q
  refine evA_mk E (fun e => hn (by unfold makF; rw [e])) (fun x ρ' e => hx x ρ' (by unfold makF; rw [e])) fun ds ρ' ow vs H' e E' r => ?_
  intro y dx hy hdx ndx
  have s1 : Same H' (upd (upd H' dx (.own y)) y (.ins (He.ga X.K x) dx [])) := fun b o e => by
    rw [upd_ne (ne_of_none e hy), upd_ne (ne_of_none e hdx)]
    exact e
  have oy : ow y = .pub := E'.fresh hy
  refine ⟨by rw [List.length_cons, ← r.length, ha.len _ _ _ e, hn0], fun a => ow a ≠ .pub, ds, y, dx, vs, rfl, fun a h => (E'.mu h).mono fun o q => s1 a o q, fun h => h oy, upd_same, r.mono fun a o h => ?_, ?_⟩
  · obtain ⟨h1, h2⟩ := hide_some.mp h
    exact hide_some.mpr ⟨fun z => z.elim h1 fun z => ne_of_none h2 hy (List.mem_singleton.mp z), s1 a o h2⟩
  have s2 : ∀ {H'' : Hp}, (∀ a o, (upd (upd H' dx (.own y)) y (.ins (He.ga X.K x) dx [])) a = some o → a ∉ [y] → H'' a = some o) → Same H' H'' := fun kp a o h => kp a o (s1 a o h) fun z => ne_of_none h hy (List.mem_singleton.mp z)
  cases e1 : F (.ins (He.ga X.K x) []) ds with
  | rt d =>
    cases d with
    | ins C' fs =>
      intro H'' kp bat
      obtain ⟨dx', gs, b1, b2, b3⟩ := bat
      refine ⟨rfl, hk (.ins C' fs) ρ' (by unfold makF; rw [e]; dsimp only; rw [e1]) _ _ ⟨ow, (E'.mono (s2 kp)).push (.ins (hide_some.mpr ⟨fun z => z oy, b1⟩) b2 (b3.mono (hide_same (Same.refl _) fun a q _ => .inl q)))⟩⟩
    | _ => exact hn (by unfold makF; rw [e]; dsimp only; rw [e1])
  | ex z => exact fun dx' H'' kp zz => hx z ρ' (by unfold makF; rw [e]; dsimp only; rw [e1]) dx' H'' ⟨ow, E'.mono (s2 kp)⟩ zz
  | no => exact hn (by unfold makF; rw [e]; dsimp only; rw [e1])
end
end Pv

/-! Pv28: methods of an instance that is a value; targets of three and four names. -/
noncomputable section
namespace Pv
open PySem PySem.Spec L2
open PyProof.Rows hiding St
section
variable {X : Cx} {CX : CXT} {k : Nat} {f C : Addr} {fd : FuncData} {ps : List Str} {sp : Sp} {E : St → XK} {m : Str} {p pos apos : Pos} {e o : Expr} {es : List Expr} {ta : TE} {t : TA}
def tMethV (C : Addr) (m : Str) (sp : Sp) (E : St → XK) (ta : TE) (t : TA) : TE := fun σ H Q => ta σ H fun x H1 => ∃ a dx fs, x = .ref a ∧ H1 a = some (.ins C dx fs) ∧ fs.lookup m = none ∧
  t σ H1 fun vs H2 => sp (x :: vs) H2 Q (E σ)
theorem pe_methV {pl : Sem Bool} (he : PE X o ta) (c : Cls X.K C) (hm : Meth X.K C m f) (F : FnOk X.prog X.w X.K X.mg X.base CX k f fd ps sp) (hr : Room k X.A) (hb : Binds X.K fd ps []) (hx : ∀ σ, PassesAt CX X σ (E σ)) (ha : PA X (e :: es) t)
    (hst : starEach (e :: es) X.env = (false, eval e X.env) :: starEach es X.env := by rfl) (hpl : (backTo pos (starEach es X.env)).any (·.1) = false := by rfl)
    (ht : eval (.Call (.Attribute o m apos) (e :: es) [] pos) X.env = (do
      let ov ← eval o X.env
      standAt apos.atName
      let (f, first) ← holding [ov] (getMethod ov m pl)
      callWith pos f first (backTo pos (starEach (e :: es) X.env)) (backToKw pos (keywordEach [] X.env))) := by rfl) :
    PE X (.Call (.Attribute o m apos) (e :: es) [] pos) (tMethV C m sp E ta t) := by
  refine ⟨fun pins s σ H Q I h => ?_⟩
  refine PySem.W.methodCall_KW (pl := pl) (thn (he.run pins s σ H _ I h) fun u s1 ⟨x, H1, I1, rx, a, dx, fs, ex, ea, l, q⟩ => ?_) ht
  subst ex
  obtain rfl : u = Value.ref a := rx
  refine getmeth_ok I1 ea c hm l ?_
  refine PySem.W.callWith_K (first := [.ref a]) (h₀ := X.base) I1.ok.mod.kin hm.kp (thn (ha.run pos pins s1 σ H1 _ I1 q) fun us s2 ⟨vs, H2, I2, r, q2⟩ => ⟨I2.kIn, ?_⟩) hst hpl
  exact run_fnS (us := .ref a :: us) (vs := .ref a :: vs) F hr hb (hx σ) I2 (.cons rfl r) q2
end
/-- a method by its name -/
structure Met2 (P : Program) (w : World) (K : PySem.W.Frag) (mg : Str → Option Value) (base : Heap) (k : Nat) (C : Addr) (m : Str) (ps : List Str) (sp : Sp) : Prop where
  ex : ∃ (f : Addr) (fd : FuncData), Cls K C ∧ Meth K C m f ∧ FnOk P w K mg base (L2N.CX P w) k f fd ps sp ∧ Binds K fd ps []
def metF (C0 : Addr) (m : Str) (F : List D → PRes) (fo : ValF) (fa : ArgF) : ValF := fun ρ => match fo ρ with
  | .ok (.ins C fs) ρ1 => if C = C0 ∧ fs.lookup m = none then (match fa ρ1 with
    | .ok ds ρ' => match F (.ins C fs :: ds) with
      | .rt d => .ok d ρ'
      | .ex x => .ex x ρ'
      | .no => .no
    | .ex x ρ' => .ex x ρ'
    | .no => .no) else .no
  | .ex x ρ1 => .ex x ρ1
  | _ => .no
theorem lookup_none {α β : Type} {m : Str} : ∀ {fs : List (Str × α)} {gs : List (Str × β)}, gs.map (·.1) = fs.map (·.1) → fs.lookup m = none → gs.lookup m = none
  | [], [], _, _ => rfl
  | [], _ :: _, k, _ => by simp at k
  | _ :: _, [], k, _ => by simp at k
  | (a, x) :: fs, (b, y) :: gs, k, e => by
    rw [List.map_cons, List.map_cons] at k
    injection k with k1 k2
    dsimp only at k1
    subst k1
    rw [List.lookup_cons] at e ⊢
    by_cases c : (m == b) = true
    · rw [c] at e; cases e
    · rw [Bool.not_eq_true] at c
      rw [c] at e ⊢
      exact lookup_none k2 e
section
variable {X : Cx} {B : Bd} {W : WX} {fl fl1 fl' flL : List Bool} {pos : Pos}
theorem pv_met {k n mm : Nat} {C : Addr} {m : Str} {ps : List Str} {F : List D → PRes} {o e : Expr} {es : List Expr} {fo : ValF} {fa : ArgF} {apos : Pos} {pl : Sem Bool} (G : Met2 X.prog X.w X.K X.mg X.base k C m ps (spP X.K false n F)) (hr : Room mm X.A) (hkm : k ≤ mm) (tk : L2N.Takes X W) (ho : PV X B W fl o fo) (ha : PAv X B W fl (e :: es) fa) (hn0 : (e :: es).length + 1 = n := by rfl)
    (hst : starEach (e :: es) X.env = (false, eval e X.env) :: starEach es X.env := by rfl) (hpl : (backTo pos (starEach es X.env)).any (·.1) = false := by rfl)
    (ht : eval (.Call (.Attribute o m apos) (e :: es) [] pos) X.env = (do
      let ov ← eval o X.env
      standAt apos.atName
      let (f, first) ← holding [ov] (getMethod ov m pl)
      callWith pos f first (backTo pos (starEach (e :: es) X.env)) (backToKw pos (keywordEach [] X.env))) := by rfl) : PV X B W fl (.Call (.Attribute o m apos) (e :: es) [] pos) (metF C m F fo fa) := by
  obtain ⟨f, fd, g1, g2, g3, g4⟩ := G.ex
  refine ⟨PE.weaken (pe_methV ho.pe g1 g2 g3 (hr.mono hkm) g4 (fun σ => L2N.passAt tk σ) ha.pa hst hpl ht) fun σ H Q ⟨ρ, T, E, q⟩ => ?_⟩
  obtain ⟨hn, hx, hk⟩ := evT_no q
  refine ⟨ρ, T, E, ?_⟩
  have hn' := hn
  unfold metF at hn'
  cases e1 : fo ρ with
  | ok d ρ1 =>
    rw [e1] at hn'
    cases d with
    | ins C' fs =>
      dsimp only at hn'
      by_cases c : C' = C ∧ fs.lookup m = none
      · obtain ⟨c1, c2⟩ := c
        subst c1
        rw [if_pos ⟨rfl, c2⟩] at hn'
        have em : metF C' m F fo fa ρ = (match fa ρ1 with
          | .ok ds ρ' => match F (.ins C' fs :: ds) with
            | .rt d => .ok d ρ'
            | .ex x => .ex x ρ'
            | .no => .no
          | .ex x ρ' => .ex x ρ'
          | .no => .no) := by unfold metF; rw [e1]; exact if_pos ⟨rfl, c2⟩
        rw [em] at hx hk
        intro v H1 ⟨ow1, E1⟩
        have rv := E1.top
        cases rv with
        | ins h1 h2 h3 =>
          rename_i a dx gs
          refine ⟨a, dx, gs, rfl, hide_sub _ _ h1, lookup_none h2 c2, ?_⟩
          refine ⟨ρ1, _, ⟨ow1, E1⟩, ?_⟩
          cases e2 : fa ρ1 with
          | ok ds ρ' =>
            rw [e2] at hn' hx hk
            dsimp only at hn' hx hk
            intro vs H2 hl ⟨ow2, E2⟩
            have rs := E2.args hl
            have E3 := E2.noargs
            refine ⟨by rw [List.length_cons, ← hl, ha.len _ _ _ e2]; exact hn0, fun a => ow2 a ≠ .pub, .ins C' fs :: ds, fun a h => E2.mu h, .cons E3.top rs, ?_⟩
            cases e3 : F (.ins C' fs :: ds) with
            | rt d =>
              rw [e3] at hk
              intro v H'' s rv
              unfold RetV at rv
              rw [if_neg Bool.false_ne_true] at rv
              exact hk d ρ' rfl v H'' ⟨ow2, (E3.drop.mono s).push rv⟩
            | ex x =>
              rw [e3] at hx
              exact fun dx H'' s z => hx x ρ' rfl dx H'' ⟨ow2, E3.drop.mono s⟩ z
            | no => rw [e3] at hn'; exact hn' rfl
          | ex x ρ' =>
            rw [e2] at hx
            exact fun dx H' E' z => hx x ρ' rfl dx H' (E'.sub fun q hq => List.mem_cons_of_mem _ hq) z
          | no => rw [e2] at hn'; exact hn' rfl
      · rw [if_neg c] at hn'; exact absurd rfl hn'
    | _ => exact absurd rfl hn'
  | ex x ρ1 => exact hx x ρ1 (by unfold metF; rw [e1])
  | no => rw [e1] at hn'; exact absurd rfl hn'
/-! ### targets of more names -/
structure PGsv (X : Cx) (B : Bd) (fl : List Bool) (es : List Expr) (g : TGs) (h : List D → Env → Option Env) : Prop where
  pgs : PGs X es g
  run : ∀ (ow : Addr → Ow) (σ : St) (H : Hp) (ρ : Env) (T : List (D × V)) (ds : List D) (vs : List V) (ρ' : Env) (Q : St → Hp → Prop), ERo X.K B fl ow σ H ρ T → Reps X.K (pubH ow H) ds vs → h ds ρ = some ρ' → (∀ σ', ERo X.K B fl ow σ' H ρ' T → Q σ' H) → g vs σ H Q
def tgNil : List D → Env → Option Env
  | [], ρ => some ρ
  | _, _ => none
def tgCons (h : TgtF) (hs : List D → Env → Option Env) : List D → Env → Option Env
  | d :: ds, ρ => (h d ρ).bind (hs ds)
  | [], _ => none
def tgT (hs : List D → Env → Option Env) : TgtF := fun d ρ => match d with
  | .tup ds => hs ds ρ
  | _ => none
theorem pgsv_nil : PGsv X B fl [] gNil tgNil := ⟨pgs_nil, fun ow σ H ρ T ds vs ρ' Q E r h q => by
  cases r with
  | nil => cases h; exact ⟨rfl, q _ E⟩
  | cons _ _ => cases h⟩
theorem pgsv_cons {e : Expr} {es : List Expr} {g : TG} {gs : TGs} {h : TgtF} {hs : List D → Env → Option Env} (h1 : PGv X B fl e g h) (h2 : PGsv X B fl es gs hs)
    (hst : (assignEach (e :: es) X.env).map (·.2) = assign e X.env :: (assignEach es X.env).map (·.2) := by rfl) : PGsv X B fl (e :: es) (gCons g gs) (tgCons h hs) := ⟨pgs_cons h1.pg h2.pgs hst, fun ow σ H ρ T ds vs ρ' Q E r e1 q => by
  cases r with
  | nil => cases e1
  | cons r rs =>
    obtain ⟨ρ1, a, b⟩ := Option.bind_eq_some_iff.mp e1
    exact ⟨_, _, rfl, h1.run ow σ H ρ T _ _ ρ1 _ E r a fun σ1 E1 => h2.run ow σ1 H ρ1 T _ _ ρ' _ E1 rs b q⟩⟩
theorem pgv_tupN {es : List Expr} {k n : Nat} {gs : TGs} {hs : List D → Env → Option Env} {pos : Pos} (hc : X.calm = true) (h : PGsv X B fl es gs hs) (hl : ∀ ds ρ ρ', hs ds ρ = some ρ' → ds.length = n)
    (hn : (assignEach es X.env).length = n := by rfl) (hst : (assignEach es X.env).findIdx? (·.1) = none := by rfl) : PGv X B fl (.Tuple es k pos) (gTup X.K n gs) (tgT hs) :=
  ⟨pg_tup hc h.pgs hn hst, fun ow σ H ρ T d v ρ' Q E r e q => by
    unfold tgT at e
    cases d with
    | tup ds =>
      cases r with
      | tup e1 rs => exact ⟨_, _, rfl, SqT.of (hide_sub _ _ e1), by rw [← rs.length]; exact hl _ _ _ e, h.run ow σ H ρ T _ _ ρ' Q E rs e q⟩
    | _ => cases e⟩
theorem tgLen0 : ∀ ds ρ ρ', tgNil ds ρ = some ρ' → ds.length = 0
  | [], _, _, _ => rfl
  | _ :: _, _, _, h => nomatch h
theorem tgLenS {h : TgtF} {hs : List D → Env → Option Env} {n : Nat} (i : ∀ ds ρ ρ', hs ds ρ = some ρ' → ds.length = n) : ∀ ds ρ ρ', tgCons h hs ds ρ = some ρ' → ds.length = n + 1
  | [], _, _, e => nomatch e
  | d :: ds, ρ, ρ', e => by
    obtain ⟨ρ1, a, b⟩ := Option.bind_eq_some_iff.mp e
    rw [List.length_cons, i _ _ _ b]
end
section
variable {K : PySem.W.Frag} {mg : Str → Option Value} {fa : List He.Fa} {fn : List He.DefD}
theorem Fx.cls (Y : Fx K mg fa fn) (i : Nat) {x : Str} (h : fa[i]? = some (.cls x)) : Cls K (He.ga K x) := He.cls_ok (Y.says.fact i h)
theorem Fx.noat (Y : Fx K mg fa fn) (i : Nat) {x f : Str} (h : fa[i]? = some (.noat x f)) : NoAttr K (He.ga K x) f := He.noat_ok (Y.says.fact i h)
theorem Fx.meth (Y : Fx K mg fa fn) (i : Nat) {x m : Str} (h : fa[i]? = some (.meth x m)) : Meth K (He.ga K x) m (He.ma K (He.ga K x) m) := He.meth_ok (Y.says.fact i h)
theorem Fx.mkr (Y : Fx K mg fa fn) (i : Nat) {x : Str} (h : fa[i]? = some (.mkr x)) : Mk K (He.ga K x) (He.ma K (He.ga K x) "__init__") := He.mkr_ok (Y.says.fact i h)
end
end Pv

/-! Pv29: list(range(a, b)), tuple(range(a, b)), for x in reversed(a tuple). -/
noncomputable section
namespace Pv
open PySem PySem.Spec L2
open PyProof.Rows hiding St
section
variable {X : Cx} {B : Bd} {W : WX} {fl : List Bool} {p pos p2 p3 p4 : Pos}
theorem pf_listR2 {e e' : Expr} {fe fe' : ValF} (hg : Gl X "list") (hm : X.mg "list" = none) (hg2 : Gl X "range") (hm2 : X.mg "range" = none) (he : PV X B W fl e fe) (he' : PV X B W fl e' fe') (hc : X.calm = true := by rfl)
    (na : starEach [e, e'] X.env = (false, eval e X.env) :: starEach [e'] X.env := by rfl) (na2 : starEach [e'] X.env = (false, eval e' X.env) :: starEach [] X.env := by rfl) (hpl : (backTo p4 (starEach [e'] X.env)).any (·.1) = false := by rfl)
    (nb : starEach [.Call (.Name "range" p3) [e, e'] [] p4] X.env = (false, eval (.Call (.Name "range" p3) [e, e'] [] p4) X.env) :: starEach [] X.env := by rfl) :
    PF X B W fl (.Call (.Name "list" p) [.Call (.Name "range" p3) [e, e'] [] p4] [] pos) (rngF (aCons fe (aCons fe' aNil))) :=
  ⟨PE.weaken (pe_listRg hc hg hm (prg_2 hg2 hm2 he.pe he'.pe na na2 hpl) nb) fun σ H Q ⟨ρ, T, E, q⟩ => by
    obtain ⟨hn, hx, hk⟩ := evF_no q
    refine ⟨ρ, T, E, ?_⟩
    unfold rngF aCons aNil at hn hx hk
    cases e1 : fe ρ with
    | ok d ρ1 =>
      rw [e1] at hn hx hk
      intro v H1 E1
      refine ⟨ρ1, _, E1, ?_⟩
      dsimp only at hn hx hk
      cases e2 : fe' ρ1 with
      | ok d' ρ2 =>
        rw [e2] at hn hk
        dsimp only at hn hk
        intro v' H2 E2
        cases d with
        | int i =>
          cases d' with
          | int j =>
            dsimp only at hn hk
            split at hn
            · rename_i c
              obtain ⟨ow, E2⟩ := E2
              have cj := cdec_of c
              have hlim : lim = 1000000 := rfl
              obtain rfl : v' = .int j := by cases E2.top; rfl
              obtain rfl : v = .int i := by cases E2.drop.top; rfl
              refine ⟨i, j, rfl, rfl, ⟨by omega, by omega, by omega, by omega, by omega⟩, fun p hp => ?_⟩
              obtain ⟨ow2, E3, o⟩ := rng_q (B := B) (fl := fl) (a := i) (b := j) E2.drop.drop hp
              exact hk _ _ (by rw [if_pos c]) p _ ow2 E3 o
            · exact absurd rfl hn
          | _ => exact absurd rfl hn
        | _ => exact absurd rfl hn
      | ex x ρ2 =>
        rw [e2] at hx
        exact fun dx H2 E2 xo => hx x ρ2 rfl dx H2 (E2.sub fun q hq => List.mem_cons_of_mem _ hq) xo
      | no => rw [e2] at hn; exact hn rfl
    | ex x ρ1 => rw [e1] at hx; exact hx x ρ1 rfl
    | no => rw [e1] at hn; exact hn rfl⟩
/-! ### tuple(range(a, b)) -/
def trgF (f : ArgF) : ValF := fun ρ => match f ρ with
  | .ok [.int i, .int j] ρ' => if cdec (-(lim : Int) ≤ i ∧ i ≤ lim ∧ -(lim : Int) ≤ j ∧ j ≤ lim) = true then .ok (.tup (intsR i (j - i).toNat)) ρ' else .no
  | .ex x ρ' => .ex x ρ'
  | _ => .no
theorem pv_tupR2 {e e' : Expr} {fe fe' : ValF} (hg : Gl X "tuple") (hm : X.mg "tuple" = none) (hg2 : Gl X "range") (hm2 : X.mg "range" = none) (he : PV X B W fl e fe) (he' : PV X B W fl e' fe') (hc : X.calm = true := by rfl)
    (na : starEach [e, e'] X.env = (false, eval e X.env) :: starEach [e'] X.env := by rfl) (na2 : starEach [e'] X.env = (false, eval e' X.env) :: starEach [] X.env := by rfl) (hpl : (backTo p4 (starEach [e'] X.env)).any (·.1) = false := by rfl)
    (nb : starEach [.Call (.Name "range" p3) [e, e'] [] p4] X.env = (false, eval (.Call (.Name "range" p3) [e, e'] [] p4) X.env) :: starEach [] X.env := by rfl) :
    PV X B W fl (.Call (.Name "tuple" p) [.Call (.Name "range" p3) [e, e'] [] p4] [] pos) (trgF (aCons fe (aCons fe' aNil))) :=
  ⟨PE.weaken (pe_tupRg hc hg hm (prg_2 hg2 hm2 he.pe he'.pe na na2 hpl) nb) fun σ H Q ⟨ρ, T, E, q⟩ => by
    obtain ⟨hn, hx, hk⟩ := evT_no q
    refine ⟨ρ, T, E, ?_⟩
    unfold trgF aCons aNil at hn hx hk
    cases e1 : fe ρ with
    | ok d ρ1 =>
      rw [e1] at hn hx hk
      intro v H1 E1
      refine ⟨ρ1, _, E1, ?_⟩
      dsimp only at hn hx hk
      cases e2 : fe' ρ1 with
      | ok d' ρ2 =>
        rw [e2] at hn hk
        dsimp only at hn hk
        intro v' H2 E2
        cases d with
        | int i =>
          cases d' with
          | int j =>
            dsimp only at hn hk
            split at hn
            · rename_i c
              obtain ⟨ow, E2⟩ := E2
              have cj := cdec_of c
              have hlim : lim = 1000000 := rfl
              obtain rfl : v' = .int j := by cases E2.top; rfl
              obtain rfl : v = .int i := by cases E2.drop.top; rfl
              refine ⟨i, j, rfl, rfl, ⟨by omega, by omega, by omega, by omega, by omega⟩, fun p hp => ?_⟩
              refine hk _ _ (by rw [if_pos c]) _ _ ⟨ow, ERo.push (E2.drop.drop.mono (same_new hp)) ?_⟩
              exact .tup (hide_some.mpr ⟨fun z => E2.live p z hp, upd_same⟩) (reps_intsR i _)
            · exact absurd rfl hn
          | _ => exact absurd rfl hn
        | _ => exact absurd rfl hn
      | ex x ρ2 =>
        rw [e2] at hx
        exact fun dx H2 E2 xo => hx x ρ2 rfl dx H2 (E2.sub fun q hq => List.mem_cons_of_mem _ hq) xo
      | no => rw [e2] at hn; exact hn rfl
    | ex x ρ1 => rw [e1] at hx; exact hx x ρ1 rfl
    | no => rw [e1] at hn; exact hn rfl⟩
/-! ### for x in reversed(xs), xs a tuple -/
def itRevT (f : ValF) : IterF := fun ρ => match f ρ with
  | .ok (.tup xs) ρ' => .ok xs.reverse [.tup xs] ρ'
  | .ex x ρ' => .ex x ρ'
  | _ => .no
theorem itOk_revT {K : PySem.W.Frag} {a : Addr} {ds : List D} : ItOk K (RT.ItvT K a ds.length) ds.reverse [.tup ds] [.ref a] := by
  have key : ∀ {N : Addr → Prop} {H : Hp}, Reps K (hide N H) [.tup ds] [.ref a] → ∃ vs, H a = some (.tup vs) ∧ Reps K (hide N H) ds vs := fun r => by
    cases r with | cons r _ => cases r with | tup e q => exact ⟨_, hide_sub _ _ e, q⟩
  refine ⟨fun N H i _ r hi => ?_, fun N H _ r => ?_, fun N H i x H' _ r hi y => ?_⟩
  · obtain ⟨vs, h1, h2⟩ := key r
    rw [List.length_reverse] at hi
    have l := h2.length
    refine ⟨hi, vs, vs[ds.length - 1 - i]'(by omega), SqT.of h1, List.getElem?_eq_getElem _⟩
  · show ds.length ≤ ds.reverse.length
    rw [List.length_reverse]; exact Nat.le_refl _
  · obtain ⟨vs, h1, h2⟩ := key r
    obtain ⟨rfl, h3⟩ := y
    rw [List.length_reverse] at hi
    obtain ⟨d, e1, e2⟩ := h2.getV (h3 vs (SqT.of h1))
    exact ⟨Same.refl _, d, by rw [List.getElem?_reverse hi]; exact e1, e2⟩
theorem pi_revT {tg e : Expr} {f : ValF} (hg : Gl X "reversed") (hm : X.mg "reversed" = none) (ha : PV X B W fl e f) (hs : starEach [e] X.env = (false, eval e X.env) :: starEach [] X.env := by rfl) : PIv X B W fl tg (.Call (.Name "reversed" p) [e] [] pos) (itRevT f) :=
  ⟨PI.weaken (RT.pi_revA hg hm ha.pe hs) fun σ H R ⟨ρ, T, E, q⟩ => by
    refine ⟨ρ, T, E, ?_⟩
    unfold itRevT at q
    cases e1 : f ρ with
    | ok d ρ' =>
      intro v H' E'
      rw [e1] at q
      cases d with
      | tup xs =>
        dsimp only at q
        obtain ⟨ow, E'⟩ := E'
        have r := E'.top
        cases r with
        | tup h1 h2 =>
          rename_i a us
          refine ⟨a, us, rfl, .inr ⟨SqT.of (hide_sub _ _ h1), ?_⟩⟩
          rw [← h2.length]
          exact q [.ref a] H' _ rfl ⟨ow, E'⟩ itOk_revT
      | _ => exact q.elim
    | ex x ρ' => rw [e1] at q; exact q
    | no => rw [e1] at q; exact q.elim⟩
end
end Pv

/-! Pe0: errors of own classes: raise C(), try .. except C as e, isinstance(e, C'); facts on classes beside the library's. -/
noncomputable section
namespace Pv
open PySem PySem.Spec L2
open PyProof.Rows hiding St
/-! ### a Hook with further facts -/
abbrev XFact := PySem.W.Frag → Bool
def obsX (fa : List He.Fa) (fn : List He.DefD) (xs : List XFact) (K : PySem.W.Frag) : He.AlD := ((((fa.all fun f => f.ok K) && fn.all fun d => d.ok K) && xs.all fun f => f K), fn.map fun d => He.fnW K d.at_)
def SaysX (fa : List He.Fa) (fn : List He.DefD) (xs : List XFact) (K : PySem.W.Frag) : Prop := obsX fa fn xs K = He.valD fn
theorem SaysX.d {fa : List He.Fa} {fn : List He.DefD} {xs : List XFact} {K : PySem.W.Frag} (c : SaysX fa fn xs K) : He.SaysD fa fn K := by
  have h1 : ((((fa.all fun f => f.ok K) && fn.all fun d => d.ok K) && xs.all fun f => f K) : Bool) = true := congrArg (fun z : He.AlD => z.1) c
  have h2 : fn.map (fun d => He.fnW K d.at_) = fn.map He.DefD.val := congrArg (fun z : He.AlD => z.2) c
  unfold He.SaysD He.obsD He.valD
  rw [(Bool.and_eq_true_iff.mp h1).1, h2]
theorem SaysX.x {fa : List He.Fa} {fn : List He.DefD} {xs : List XFact} {K : PySem.W.Frag} (c : SaysX fa fn xs K) : ∀ f ∈ xs, f K = true := by
  have h1 : ((((fa.all fun f => f.ok K) && fn.all fun d => d.ok K) && xs.all fun f => f K) : Bool) = true := congrArg (fun z : He.AlD => z.1) c
  exact List.all_eq_true.mp (Bool.and_eq_true_iff.mp h1).2
def obsXG (n : Nat) (fa : List He.Fa) (fn : List He.DefD) (xs : List XFact) (g : Addr → Option Obj) : He.AlD := obsX fa fn xs (He.frG g (He.asD g n))
def hookX (n : Nat) (fa : List He.Fa) (fn : List He.DefD) (xs : List XFact) : PySem.W.Hook where
  α := He.AlD
  obs := fun s => obsXG n fa fn xs s.heap.get?
  val := fun _ => He.valD fn
  says := fun _ h => ∃ K : PySem.W.Frag, K.In h ∧ SaysX fa fn xs K
  of := fun _ _ e => ⟨_, He.frG_in, e⟩
  keeps := fun _ _ _ ⟨K, hK, c⟩ k => ⟨K, PySem.W.Frag.In.keeps hK k, c⟩
theorem obsXG_eq {n : Nat} {fa : List He.Fa} {fn : List He.DefD} {xs : List XFact} {g : Addr → Option Obj} {s : Shared} (h : ∀ a, g a = s.heap.get? a) : obsXG n fa fn xs g = (hookX n fa fn xs).obs s := by
  have e : g = s.heap.get? := funext h
  rw [e] <;> rfl
/-- the facts, with further ones -/
structure FxX (K : PySem.W.Frag) (mg : Str → Option Value) (fa : List He.Fa) (fn : List He.DefD) (xs : List XFact) : Prop extends Fx K mg fa fn where
  ex : ∀ f ∈ xs, f K = true
theorem FxX.at' {K : PySem.W.Frag} {mg : Str → Option Value} {fa : List He.Fa} {fn : List He.DefD} {xs : List XFact} (Y : FxX K mg fa fn xs) (i : Nat) {f : XFact} (h : xs[i]? = some f) : f K = true := Y.ex f (List.mem_of_getElem? h)
/-- D's instances may be asked for their class -/
def excCB (x : Str) : XFact := fun K =>
  let D := He.ga K x
  He.eqO (PySem.W.findIn K (.ref D) "__getattribute__") (some (some (.builtin "BaseException.__getattribute__"))) && (He.eqO (PySem.W.findIn K (.ref D) "__getattr__") (some none) &&
  (decide (PySem.W.subIn K (.ref D) (.type "BaseException") = some true) && (PySem.W.hasDictIn K D && (He.eqO (PySem.W.findIn K (.ref D) "__class__") (some (some (.builtin "object.__class__"))) &&
  (He.eqO (PySem.W.specialIn K (.builtin "object.__class__") "__get__") (some (some (.builtin "getset_descriptor.__get__"))) && (decide (PySem.W.takesIn K (.builtin "object.__class__") = some true) && decide (PySem.W.mroIn K D (.type "object") = some true)))))))
theorem excCB_ok {K : PySem.W.Frag} {x : Str} (h : excCB x K = true) : ExcC K (He.ga K x) := by
  obtain ⟨h1, h⟩ := He.ba h
  obtain ⟨h2, h⟩ := He.ba h
  obtain ⟨h3, h⟩ := He.ba h
  obtain ⟨h4, h⟩ := He.ba h
  obtain ⟨h5, h⟩ := He.ba h
  obtain ⟨h6, h⟩ := He.ba h
  obtain ⟨h7, h8⟩ := He.ba h
  exact ⟨He.eqO_ok h1, He.eqO_ok h2, of_decide_eq_true h3, h4, He.eqO_ok h5, He.eqO_ok h6, of_decide_eq_true h7, of_decide_eq_true h8⟩
/-- whether instances of x are ones of y -/
def kitB' (x y : Str) (b : Bool) : XFact := fun K => decide (PySem.W.kitOne K (.ref (He.ga K x)) (.ref (He.ga K y)) = some b)
theorem kitB'_ok {K : PySem.W.Frag} {x y : Str} {b : Bool} (h : kitB' x y b K = true) : PySem.W.kitOne K (.ref (He.ga K x)) (.ref (He.ga K y)) = some b := of_decide_eq_true h
/-! ### raise C() -/
section
variable {X : Cx} {C : Addr} {bmB : List Value} {B' newId initId : String}
theorem pmk_own0 {x : Str} {p pos : Pos} (F : ExcBaseFacts B' newId initId bmB) (q : PySem.W.excIn X.K C bmB newId = true) (gC : X.mg x = some (.ref C)) (kC : PySem.W.keepIn X.K (.ref C) = true) (r : Raises X (.ref C)) (hg : Gl X x)
    (hdb : (x == ("__debug__" : Str)) = false := by decide) : L2N.PMk X (.Call (.Name x p) [] [] pos) (fun _ H Q => Q (.ref C) none H) := by
  intro pins s σ H Q I h
  refine wpAny_Call_Name_kw (ld_glob I hg gC ?_ hdb)
  refine PySem.W.callWith_K0 I.kIn kC ?_
  show wpAny _ _ (call (.ref C) []) _ _ _
  obtain ⟨bm, N, nm, qn, bs, hdct, sn, sub, ab, col, dd, k0, k1, k2, k3, k5, mN, hC, hN, hni, T⟩ := exc_obj I.kIn q
  refine wpAny_call_exc_subT F T hC hN hni (fun h' e hm => ?_) (Nat.zero_le _)
  exact L2N.mk_of I hm r h (I.hok.gone hm.new)
end
def sRaise (C : Addr) : StF := fun ρ => .ex ⟨C, none⟩ ρ
structure ExF (K : PySem.W.Frag) (C : Addr) : Prop where
  h : PySem.W.excIn K C He.veBase "ValueError.__new__" = true ∧ PySem.W.keepIn K (.ref C) = true ∧ PySem.W.subIn K (.ref C) (.type "BaseException") = some true ∧ PySem.W.typeIn K (.ref C) = some (.type "type")
section
variable {X : Cx} {B : Bd} {W : WX} {flL fl fl' : List Bool} {C : Addr} {x : Str} {p pos pos' : Pos}
theorem psv_raise (E : ExF X.K C) (gC : X.mg x = some (.ref C)) (hg : Gl X x) (tk : L2N.Takes X W) (hc : X.calm = true := by rfl) (hdb : (x == ("__debug__" : Str)) = false := by decide) :
    PSv X B W flL fl fl' (.Raise (some (.Call (.Name x p) [] [] pos)) none pos') (sRaise C) :=
  PS.svT (L2N.ps_raise hc tk (pmk_own0 PySem.F.excBase_ValueError E.h.1 gC E.h.2.1 (raises_own E.h.2.2.1 E.h.2.2.2) hg hdb)) fun D σ H ρ T E' q => q none σ H fl E' rfl
end
theorem Fx.exf {K : PySem.W.Frag} {mg : Str → Option Value} {fa : List He.Fa} {fn : List He.DefD} (Y : Fx K mg fa fn) (i : Nat) {x : Str} (h : fa[i]? = some (.exc x)) : ExF K (He.ga K x) := ⟨He.exc_ok (Y.says.fact i h)⟩
theorem Fx.exm {K : PySem.W.Frag} {mg : Str → Option Value} {fa : List He.Fa} {fn : List He.DefD} (Y : Fx K mg fa fn) (i : Nat) {x y : Str} {b : Bool} (h : fa[i]? = some (.exm x y b)) : PySem.W.exmOne K (.ref (He.ga K x)) (.ref (He.ga K y)) = some b := He.exm_ok (Y.says.fact i h)
/-! ### try: body, except C as e: suite -/
def tryS (K : PySem.W.Frag) (C : Addr) (i : Nat) (fb : StF) (fsu : Addr → Addr → StF) : StF := fun ρ => match fb ρ with
  | .nx ρ' => .nx ρ'
  | .ex x ρ' => match x.fs with
    | some _ => .no
    | none => match PySem.W.exmOne K (.ref x.cls) (.ref C) with
      | some true => if ρ'.length = ρ.length then (match fsu x.cls 0 ((List.replicate ρ.length none).set i (some (.ref 0))) with
          | .nx ρ2 => .nx (ρ2.set i none)
          | _ => .no) else .no
      | some false => .ex x ρ'
      | none => .no
  | _ => .no
theorem ERo.bare {K : PySem.W.Frag} {B : Bd} {fl fl'' : List Bool} {ow : Addr → Ow} {σ : St} {H : Hp} {ρ : Env} {T : List (D × V)} (E : ERo K B fl'' ow σ H ρ T) (hb : B.bor = []) {N i : Nat} (hN : ρ.length = N) (hl : fl.length = N) (hf : ∀ j : Nat, fl[j]? ≠ some true) (a : Addr) :
    ERo K B fl ow (σ.set i (some (.ref a))) H ((List.replicate N none).set i (some (.ref a))) T where
  len := by rw [List.length_set, List.length_set, List.length_replicate, ← hN]; exact E.len
  fll := by rw [List.length_set, hl, ← hN]; exact E.len
  frame := E.frame
  live := E.live
  nt := E.nt
  sh := fun j d hj _ => by
    by_cases e : i = j
    · subst e
      rw [List.getElem?_set_self'] at hj
      cases hq : (List.replicate N (none : Option D))[i]? with
      | none => rw [hq] at hj; cases hj
      | some z =>
        rw [hq] at hj
        have hlt : i < σ.length := by
          have := (List.getElem?_eq_some_iff.mp hq).1
          rw [List.length_replicate] at this
          rw [← E.len, hN]; exact this
        cases hj
        exact ⟨.ref a, by rw [List.getElem?_set_self hlt], .ref a⟩
    · rw [List.getElem?_set_ne e, List.getElem?_replicate] at hj
      split at hj <;> cases hj
  hd := fun j d _ h => absurd h (hf j)
  new := E.new
  same := E.same
  tmp := E.tmp
  bown := E.bown
  b0 := fun p h => by rw [hb] at h; cases h
theorem ERo.gone {K : PySem.W.Frag} {B : Bd} {fl : List Bool} {ow : Addr → Ow} {σ : St} {H : Hp} {ρ : Env} {T : List (D × V)} (E : ERo K B fl ow σ H ρ T) (hb : B.bor = []) {i : Nat} (hf : ∀ j : Nat, fl[j]? ≠ some true) :
    ERo K B fl ow (σ.set i none) H (ρ.set i none) T where
  len := by rw [List.length_set, List.length_set]; exact E.len
  fll := by rw [List.length_set]; exact E.fll
  frame := E.frame
  live := E.live
  nt := E.nt
  sh := fun j d hj h => by
    by_cases e : i = j
    · subst e
      rw [List.getElem?_set_self'] at hj
      cases hq : ρ[i]? with
      | none => rw [hq] at hj; cases hj
      | some z => rw [hq] at hj; cases hj
    · rw [List.getElem?_set_ne e] at hj
      rw [List.getElem?_set_ne e]
      exact E.sh j d hj h
  hd := fun j d _ h => absurd h (hf j)
  new := E.new
  same := E.same
  tmp := E.tmp
  bown := E.bown
  b0 := fun p h => by rw [hb] at h; cases h
section
variable {X : Cx} {B : Bd} {W : WX} {flL fl : List Bool} {C : Addr} {x n : Str} {np pos pos' : Pos} {body suite : List Stmt} {b₀ : Stmt} {i : Nat} {fb : StF} {fsu : Addr → Addr → StF}
theorem psv_try1 (hi : X.N[i]? = some n) (hg : Gl X x) (hm : X.mg x = some (.ref C)) (tk : L2N.Takes X W) (hbor : B.bor = []) (hN : X.N.Nodup)
    (hb : ∀ (W : WX) (pn : List (Addr × Obj)) (xe : Value → Shared → Prop), L2N.Takes (X.tr pn xe) W → PassesOwn (model X.prog X.w) X.A X.env xe → PBv (X.tr pn xe) B W flL fl fl body fb)
    (hsu : ∀ (a : Addr) (oe : Obj) (c : Addr) (pn : List (Addr × Obj)), L2N.Zn (.ref c) none oe → (∃ vs, oe.data = .fields vs) → PBv (X.suite a ((a, oe) :: pn)) B W0 flL fl fl (b₀ :: suite) (fsu c a))
    (hres : ∀ (c a : Addr) (N : Nat) (ρ2 : Env), fsu c 0 ((List.replicate N none).set i (some (.ref 0))) = .nx ρ2 → ∃ ρ3, fsu c a ((List.replicate N none).set i (some (.ref a))) = .nx ρ3 ∧ ρ3.set i none = ρ2.set i none)
    (hf : fl.all (fun b => !b) = true := by rfl) (hs : X.stack = X.env :: X.outer := by rfl) (hfr : X.env.frame = some X.env.locals := by rfl) (hln : X.env.kindOf n = some .local := by rfl) (hdb : (x == ("__debug__" : Str)) = false := by decide) :
    PSv X B W flL fl fl (.Try body [.ExceptHandler (some (.Name x np)) (some n) (b₀ :: suite) pos'] [] [] pos) (tryS X.K C i fb fsu) := by
  have hfl : ∀ j : Nat, fl[j]? ≠ some true := fun j h => by
    have := List.all_eq_true.mp hf true (List.mem_of_getElem? h)
    cases this
  refine PS.svT (L2N.ps_try_as (c := .ref C) (tb := fun W => SvT X.K B W fl fl flL fb) (ts := fun a cls d D σ H => ∃ c, cls = .ref c ∧ d = none ∧ SvT X.K B W0 fl fl flL (fsu c a) D σ H) (Wout := W) hs hfr hN hi hln ⟨hg, hdb, .inl hm⟩ tk (fun W pn xe tk hp => (hb W pn xe tk hp).ps)
    (fun a oe cls d pn hz hd => ⟨fun pins s σ H D I h => ?_⟩)) fun D σ H ρ T E q => ?_
  · obtain ⟨c, rfl, rfl, h⟩ := h
    exact (hsu a oe c pn hz hd).ps.run pins s σ H D I h
  refine svT_mk E ?_
  unfold tryS at q
  cases e : fb ρ with
  | nx ρ' => rw [e] at q; exact q
  | ex y ρ' =>
    rw [e] at q
    intro dx σ' H' fl'' E' hx
    dsimp only at q
    cases hfs : y.fs with
    | some fs => rw [hfs] at q; exact q.elim
    | none =>
      rw [hfs] at q
      dsimp only at q
      have hdx : dx = none := by unfold XOk at hx; rw [hfs] at hx; exact hx
      cases hm2 : PySem.W.exmOne X.K (.ref y.cls) (.ref C) with
      | none => rw [hm2] at q; exact q.elim
      | some b =>
        rw [hm2] at q
        refine ⟨b, hm2, fun hb a na => ?_, fun hb => ?_⟩
        · subst hb
          dsimp only at q
          split at q
          · rename_i hlen
            cases hr : fsu y.cls 0 ((List.replicate ρ.length none).set i (some (.ref 0))) with
            | nx ρ2 =>
              rw [hr] at q
              obtain ⟨ρ3, h3, h4⟩ := hres y.cls a ρ.length ρ2 hr
              obtain ⟨ow, E'⟩ := E'
              obtain ⟨ow0, E0⟩ := E
              refine ⟨y.cls, rfl, hdx, svT_mk (T := T) ⟨ow, E'.bare hbor hlen (by rw [E0.fll, ← E0.len]) hfl a⟩ ?_⟩
              rw [h3]
              intro σ2 H2 E2
              obtain ⟨ow2, E2⟩ := E2
              refine q _ _ ⟨ow2, ?_⟩
              rw [← h4]
              exact E2.gone hbor hfl
            | _ => rw [hr] at q; exact q.elim
          · exact q.elim
        · subst hb
          exact q dx σ' H' fl'' E' hx
  | _ => rw [e] at q; exact q.elim
/-! ### isinstance(e, C'), e what the suite has caught -/
open Classical in
def isEF (K : PySem.W.Frag) (c C' : Addr) (a : Addr) (i : Nat) : ValF := fun ρ => match ρ[i]? with
  | some (some (.ref a')) => if a' = a ∧ ExcC K c then (match PySem.W.kitOne K (.ref c) (.ref C') with
    | some b => .ok (.bl b) ρ
    | none => .no) else .no
  | _ => .no
theorem isEF_or (K : PySem.W.Frag) (c C' a : Addr) (i : Nat) (ρ : Env) : isEF K c C' a i ρ = .no ∨ ∃ b, ρ[i]? = some (some (.ref a)) ∧ ExcC K c ∧ PySem.W.kitOne K (.ref c) (.ref C') = some b ∧ isEF K c C' a i ρ = .ok (.bl b) ρ := by
  unfold isEF
  cases e1 : ρ[i]? with
  | none => exact .inl rfl
  | some z =>
    cases z with
    | none => exact .inl rfl
    | some d =>
      cases d with
      | ref a' =>
        dsimp only
        by_cases hh : a' = a ∧ ExcC K c
        · rw [if_pos hh]
          cases hk : PySem.W.kitOne K (.ref c) (.ref C') with
          | none => exact .inl rfl
          | some b => exact .inr ⟨b, by rw [hh.1], hh.2, rfl, rfl⟩
        · rw [if_neg hh]; exact .inl rfl
      | _ => exact .inl rfl
theorem pv_isE {a c C' : Addr} {oe : Obj} {pn : List (Addr × Obj)} {i : Nat} {e : Expr} {y : Str} {p p2 pos : Pos} (hg : Gl (X.suite a ((a, oe) :: pn)) "isinstance") (hm : X.mg "isinstance" = none) (he : PE (X.suite a ((a, oe) :: pn)) e (tVar i)) (hy : PE (X.suite a ((a, oe) :: pn)) (.Name y p2) (tC (.ref C'))) (hz : L2N.Zn (.ref c) none oe) (hd : ∃ vs, oe.data = .fields vs)
    (hf : fl[i]? = some false) (h1 : starEach [e, .Name y p2] X.env = (false, eval e X.env) :: starEach [.Name y p2] X.env := by rfl) (h2 : starEach [.Name y p2] X.env = (false, eval (.Name y p2) X.env) :: starEach [] X.env := by rfl) (h3 : (backTo pos (starEach [.Name y p2] X.env)).any (·.1) = false := by rfl) :
    PV (X.suite a ((a, oe) :: pn)) B W fl (.Call (.Name "isinstance" p) [e, .Name y p2] [] pos) (isEF X.K c C' a i) := by
  by_cases hE : ExcC X.K c
  · refine ⟨PE.weaken (pe_callB (call_isE (X := X) hE hz.zc hd) hg hm bt_isinstance (pa_cons he (pa_cons hy pa_nil h2) h1) (he := h1) (hpl := h3)) fun σ H Q ⟨ρ, T, E, q⟩ => ?_⟩
    rcases isEF_or X.K c C' a i ρ with z | ⟨b, e1, _, hk, ee⟩
    · rw [z] at q; exact q.elim
    · rw [ee] at q
      obtain ⟨ow, E⟩ := E
      obtain ⟨v, hv, rv⟩ := E.sh i _ e1 (by rw [hf]; exact fun z => nomatch z)
      cases rv
      exact ⟨_, hv, ⟨.ref C', .ref C', b, rfl, fun u ru => ru, hk, q _ _ ⟨ow, E.push (.bl b)⟩⟩⟩
  · refine ⟨⟨fun pins s σ H Q I h => ?_⟩⟩
    obtain ⟨ρ, T, E, q⟩ := h
    rcases isEF_or X.K c C' a i ρ with z | ⟨b, e1, hE', _⟩
    · rw [z] at q; exact q.elim
    · exact absurd hE' hE
theorem isEF_at {K : PySem.W.Frag} {c C' : Addr} {i N : Nat} {b : Bool} (h : isEF K c C' 0 i ((List.replicate N none).set i (some (.ref 0))) = .ok (.bl b) ((List.replicate N none).set i (some (.ref 0)))) (hE : ExcC K c) (hk : PySem.W.kitOne K (.ref c) (.ref C') = some b) (hi : i < N) (a : Addr) :
    isEF K c C' a i ((List.replicate N none).set i (some (.ref a))) = .ok (.bl b) ((List.replicate N none).set i (some (.ref a))) := by
  unfold isEF
  rw [List.getElem?_set_self (by rw [List.length_replicate]; exact hi)]
  dsimp only
  rw [if_pos ⟨rfl, hE⟩, hk]
theorem hres_ifput {K : PySem.W.Frag} {C' : Addr} {i j : Nat} {d1 d2 : D} (hij : i ≠ j) (c a : Addr) (N : Nat) (ρ2 : Env) (h : put j (ifF (isEF K c C' 0 i) (cst d1) (cst d2)) ((List.replicate N none).set i (some (.ref 0))) = .nx ρ2) :
    ∃ ρ3, put j (ifF (isEF K c C' a i) (cst d1) (cst d2)) ((List.replicate N none).set i (some (.ref a))) = .nx ρ3 ∧ ρ3.set i none = ρ2.set i none := by
  rcases isEF_or K c C' 0 i ((List.replicate N none).set i (some (.ref 0))) with z | ⟨b, e1, hE, hk, ee⟩
  · have : put j (ifF (isEF K c C' 0 i) (cst d1) (cst d2)) ((List.replicate N none).set i (some (.ref 0))) = .no := by
      unfold put ifF
      rw [z]; rfl
    rw [this] at h; cases h
  · have hi : i < N := by
      have := (List.getElem?_eq_some_iff.mp e1).1
      rw [List.length_set, List.length_replicate] at this
      exact this
    have e2 := isEF_at ee hE hk hi a
    have key : ∀ (x : Option D) (ρ : Env), ((ρ.set i x).set j (some (if b then d1 else d2))).set i none = (ρ.set j (some (if b then d1 else d2))).set i none := fun x ρ => by
      rw [List.set_comm _ _ hij, List.set_set]
    have run : ∀ a, isEF K c C' a i ((List.replicate N none).set i (some (.ref a))) = .ok (.bl b) ((List.replicate N none).set i (some (.ref a))) → put j (ifF (isEF K c C' a i) (cst d1) (cst d2)) ((List.replicate N none).set i (some (.ref a))) = if j < N then .nx (((List.replicate N none).set i (some (.ref a))).set j (some (if b then d1 else d2))) else .no := fun a e => by
      unfold put ifF
      rw [e]
      have hl : ((List.replicate N (none : Option D)).set i (some (.ref a))).length = N := by rw [List.length_set, List.length_replicate]
      cases b
      · show (if j < ((List.replicate N (none : Option D)).set i (some (.ref a))).length then Out.nx _ else Out.no) = _
        rw [hl]; rfl
      · show (if j < ((List.replicate N (none : Option D)).set i (some (.ref a))).length then Out.nx _ else Out.no) = _
        rw [hl]; rfl
    rw [run 0 ee] at h
    by_cases hj : j < N
    · rw [if_pos hj] at h
      cases h
      exact ⟨_, by rw [run a e2, if_pos hj], by rw [key, key]⟩
    · rw [if_neg hj] at h; cases h
end
end Pv

/-! PeM: try with any number of clauses 'except C as e', all of one name. -/
namespace Pv
open PySem PySem.Spec L2
open PyProof.Rows hiding St
/-- a clause: its class, its suite -/
abbrev Clause := Value × (Addr → Value → Option Addr → TS)
/-- behind a suite the name is gone -/
def dropN (i : Nat) (D : Ends) : Ends := { nx := fun τ G => D.nx (τ.set i none) G, rt := D.rt, bk := fun τ G => D.bk (τ.set i none) G, ct := fun τ G => D.ct (τ.set i none) G }
def wCl (K : PySem.W.Frag) (i : Nat) (Wo : WX) (D : Ends) : List Clause → WX
  | [] => Wo
  | q :: r => fun cl dd τ G => ∃ b, PySem.W.exmOne K cl q.1 = some b ∧ (b = true → ∀ e, G e = none → q.2 e cl dd (dropN i D) (τ.set i (some (.ref e))) G) ∧ (b = false → wCl K i Wo D r cl dd τ G)
inductive ClOk (X : Cx) (n : Str) : List ExceptHandler → List Clause → Prop
  | nil : ClOk X n [] []
  | cons {x : Str} {c : Value} {ts : Addr → Value → Option Addr → TS} {st : Stmt} {su : List Stmt} {p1 p2 : Pos} {hs : List ExceptHandler} {l : List Clause} (nc : Names X x c)
      (su_ok : ∀ (e : Addr) (ob : Obj) (cl : Value) (dd : Option Addr) (pn : List (Addr × Obj)), L2N.Zn cl dd ob → (∃ vs, ob.data = .fields vs) → PSs (X.suite e ((e, ob) :: pn)) (st :: su) (ts e cl dd)) (r : ClOk X n hs l) :
      ClOk X n (.ExceptHandler (some (.Name x p1)) (some n) (st :: su) p2 :: hs) ((c, ts) :: l)
section
variable {X : Cx} {n : Str} {i : Nat} {body : List Stmt} {hd0 : ExceptHandler} {hs : List ExceptHandler} {l : List Clause} {pos : Pos} {tb : WX → TS} {Wo : WX}
theorem ps_tryM (stk : X.stack = X.env :: X.outer) (fr : X.env.frame = some X.env.locals) (nd : X.N.Nodup) (ix : X.N[i]? = some n) (kn : X.env.kindOf n = some .local) (tko : L2N.Takes X Wo)
    (bodyOk : ∀ (W : WX) (pn : List (Addr × Obj)) (xe : Value → Shared → Prop), L2N.Takes (X.tr pn xe) W → PassesOwn (model X.prog X.w) X.A X.env xe → PSs (X.tr pn xe) body (tb W))
    (clOk : ClOk X n (hd0 :: hs) l) : PS X (.Try body (hd0 :: hs) [] [] pos) (fun D τ G => tb (wCl X.K i Wo D l) D τ G) := by
  constructor
  intro pins s0 τ0 G0 D I0 q0
  have okX := I0.ok
  have frA : X.A.frames = some (X.env :: X.outer) := okX.frames.trans (congrArg some stk)
  have isLoc : Loc X.env.scope n := .inl kn
  refine wpAny_Try_except ?_
  have run := (bodyOk (wCl X.K i Wo D l) (X.pn ++ pins) (fun ev t₁ => wpAny (model X.prog X.w) X.A (noteFrame ev X.env) (fun _ t₂ => wpAny (model X.prog X.w) X.A (setFlight ev none) (fun _ t₃ =>
    wpAny (model X.prog X.w) X.A (handleBy ev X.env (hd0 :: hs)) (SP X pins D) X.xe t₃) X.xe t₂) X.xe t₁) ?tk PassesOwn.looking).run [] s0 τ0 G0 D (I0.toTry _) q0
  case tk =>
    intro u t xx
    obtain ⟨ea, Bb, tI, pp, τ, G, cl, dd, hu, Jt, nb, upS, skyS, nG, hos, hag, w⟩ := xx
    subst hu
    have Jx := Jt.ofTry okX
    rw [show (X.tr (X.pn ++ pins) _).stack = X.env :: X.outer from stk] at skyS
    show wpAny (model X.prog X.w) X.A (noteFrame (.ref ea) X.env) _ _ _
    refine L2N.Sky.land L2N.Zn.steady frA fr skyS fun hA flA upA => ?_
    have JA : Inv X pins τ G { t with heap := hA } := Jx.landed nb flA.1 (upS.trans upA) hos hag
    obtain ⟨oA, vA, getA, zA, dA⟩ := flA.there
    have away : ea ∉ frs (X.env :: X.outer) := fun hm => by
      obtain ⟨_, o', h1, h2⟩ := flA.2.2.1.mem hm
      rw [getA] at h1
      cases h1
      exact h2 _ dA
    have notL : ea ≠ X.env.locals := fun z => away (List.mem_filterMap.mpr ⟨X.env, List.mem_cons_self, by rw [fr, z]⟩)
    have notF : ea ∉ X.fs := fun hm => by
      obtain ⟨ev, h1, h2⟩ := List.mem_filterMap.mp hm
      exact away (List.mem_filterMap.mpr ⟨ev, List.mem_cons_of_mem _ h1, h2⟩)
    have SA := JA.suite getA dA nG notL notF
    have all : ∀ {hs' : List ExceptHandler} {l' : List Clause}, ClOk X n hs' l' → wCl X.K i Wo D l' cl dd τ G →
        wpAny (model X.prog X.w) X.A (handleBy (.ref ea) X.env hs') (SP X pins D) X.xe { t with heap := hA } := by
      intro hs' l' cok
      induction cok with
      | nil =>
        intro w
        refine wpAny_handleBy_nil ?_
        obtain ⟨_, _, _, ob, vs, TT, _, _, h1, _, h2, h3, _⟩ := id flA
        unfold PySem.passOn
        refine wpAny_bind (wpAny_field h1 h2 h3 ?_)
        have nn : ¬ ((Value.ref TT == Value.none) = true) := by simp
        rw [if_neg nn]
        have last : wpAny (model X.prog X.w) X.A (setFlight (.ref ea) X.env.frame) (fun _ t4 => wpAny (model X.prog X.w) X.A (throw (.ref ea) : Sem Flow) (SP X pins D) X.xe t4) X.xe { t with heap := hA } := by
          rw [fr]
          refine HandSPX.setFlight_upZ flA fun hB heldB upB => wpAny_throw (tko _ _ ?_)
          refine ⟨ea, Bb, tI, pins, τ, G, cl, dd, rfl, Jx, nb, (upS.trans upA).trans upB, .inr (.inr ?_), nG, hos, hag, w⟩
          rw [stk]; exact heldB
        first
          | exact wpAny_bind (wpAny_pure (wpAny_bind last))
          | exact wpAny_bind last
      | @cons x c ts st su p1 p2 hs2 l2 nc su_ok r ih =>
        intro w
        obtain ⟨b, hb, yes, no⟩ := w
        refine wpAny_handleBy_cons (codeAny_handlers_test ?_) (by intro z; cases z)
        have lk : PySem.W.Looks (model X.prog X.w) hA (typeOf (.ref ea)) cl := fun _ _ _ _ k z => wpAny_typeOf_ref (k _ _ getA) (by rw [zA.1]; exact z)
        have mt := PySem.W.exm_one (M := model X.prog X.w) JA.kIn lk hb
        have named : ∀ {Q E : Value → Shared → Prop}, Q c { t with heap := hA } → wpAny (model X.prog X.w) (X.A.mark (some (.ref ea))) (eval (.Name x p1) X.env) Q E { t with heap := hA } := fun {Q E} z => by
          obtain ⟨g1, g2, g3 | ⟨g3, g4, g5⟩⟩ := nc
          · exact ld_glob (X := X.suite ea ((ea, oA) :: (X.pn ++ pins))) SA g1 g3 z g2
          · exact ld_blt (X := X.suite ea ((ea, oA) :: (X.pn ++ pins))) SA g1 g3 g4 z g5 g2
        refine named (mt.here ?_)
        cases b with
        | false =>
          show wpAny _ X.A (handleBy (.ref ea) X.env hs2) _ _ _
          exact ih (no rfl)
        | true =>
          refine codeAny_handlers_suite_as ?_
          refine HandSPX.lands_againZ flA fun hB flB upB => ?_
          have JB : Inv X pins τ G { t with heap := hB } := Jx.landed nb flB.1 ((upS.trans upA).trans upB) hos hag
          obtain ⟨oB, vB, getB, zB, dB⟩ := flB.there
          have SB := JB.suite getB dB nG notL notF
          refine store_ok (X := X.suite ea ((ea, oB) :: (X.pn ++ pins))) (v := .ref ea) SB nd ix isLoc rfl (fun t5 S5 => ?_) (.inr kn)
          have run2 := (su_ok ea oB cl dd (X.pn ++ pins) zB ⟨_, dB⟩).run [] t5 _ G _ S5 (yes rfl ea nG)
          refine wpAny_mono run2 (fun f t6 res => ?_) (fun _ _ z => False.elim z)
          have fin : ∀ {τ6 : St} {G6 : Hp} {Q : Shared → Prop}, Inv (X.suite ea ((ea, oB) :: (X.pn ++ pins))) [] τ6 G6 t6 → (∀ t7, Inv X pins (τ6.set i none) G6 t7 → Q t7) →
              wpAny (model X.prog X.w) X.A (do bindName X.env n .none; unbindBehindTheSuite X.env n p2) (fun _ t7 => Q t7) X.xe t6 := fun S6 hq => gone_ok (S6.unsuite okX) nd ix kn hq
          cases f with
          | ret u =>
            obtain ⟨_, _, _, S6, r6, q6⟩ := res
            exact fin S6 fun _ J7 => ⟨_, _, _, J7, r6, q6⟩
          | _ =>
            obtain ⟨_, _, S6, q6⟩ := res
            exact fin S6 fun _ J7 => ⟨_, _, J7, q6⟩
    exact all clOk w
  refine wpAny_mono run (fun f t1 res => ?_) (fun _ _ z => z)
  cases f with
  | next =>
    obtain ⟨_, _, J1, q1⟩ := res
    exact wpAny_execs_nil ⟨_, _, J1.ofTry okX, q1⟩
  | ret u =>
    obtain ⟨_, _, _, J1, r1, q1⟩ := res
    exact ⟨_, _, _, J1.ofTry okX, r1, q1⟩
  | _ =>
    obtain ⟨_, _, J1, q1⟩ := res
    exact ⟨_, _, J1.ofTry okX, q1⟩
end
end Pv

/-! PeH: a list comprehension over a range within an except suite. -/
namespace Pv
open PySem PySem.Spec L2 L2H
open PyProof.Rows hiding St
section
variable {X : Cx}
/-- what is pinned may stand in the context -/
theorem Inv.pnIn {Y : Cx} {ps : List (Addr × Obj)} {τ : L2.St} {G : Hp} {t : Shared} (h0 : Y.pn = []) (J : Inv Y ps τ G t) : Inv { Y with pn := ps } [] τ G t :=
  have o := J.ok
  ⟨⟨o.mod, o.kind, o.glob, o.blt, o.above, o.inj, o.has, o.cab, o.hd, o.frames, o.stk, o.exf, o.bs, o.bsz, o.noex, o.exfs, o.funs, o.frf⟩, J.os, J.bare, J.base, J.loc, J.cell, J.free, J.freeC, fun q hq => J.pin q (by
    rw [h0]
    rcases List.mem_append.mp hq with z | z
    · exact z
    · cases z), J.hok, J.len⟩
theorem Inv.pnOut {Y : Cx} {ps : List (Addr × Obj)} {τ : L2.St} {G : Hp} {t : Shared} (h0 : Y.pn = []) (o : Y.Ok) (J : Inv { Y with pn := ps } [] τ G t) : Inv Y ps τ G t :=
  ⟨o, J.os, J.bare, J.base, J.loc, J.cell, J.free, J.freeC, fun q hq => J.pin q (by
    rw [h0] at hq
    exact List.mem_append_left _ hq), J.hok, J.len⟩
theorem lcH_core {pins : List (Addr × Obj)} {s0 : Shared} {τ : L2.St} {G : Hp} {Q : VK} {elt tg iter : Expr} {ifs : List Expr} {scope : Scope} {own : List (Str × Nat)} {pos pos' : Pos} {wi : TI} {g : TG} {tt : TT} {te : TE} {use : Option (Value → Sem Unit)} {Qf : Value → Shared → Prop}
    (hot : HotC X) (nd : X.N.Nodup) (I0 : Inv X pins τ G s0) (hi : PIH X tg iter wi) (bk : BlkOk X.N X.env.scope scope own)
    (gOk : ∀ (t : Shared) (G : Hp) (C : Addr) (cl : List (Str × Addr)) (fp : List Addr), PG (X.blk t G scope (compEnvC scope cl C X.env) fp) tg g)
    (tOk : ∀ (t : Shared) (G : Hp) (C : Addr) (cl : List (Str × Addr)) (fp : List Addr), PTs (X.blk t G scope (compEnvC scope cl C X.env) fp) ifs tt)
    (eOk : ∀ (t : Shared) (G : Hp) (C : Addr) (cl : List (Str × Addr)) (fp : List Addr), PE (X.blk t G scope (compEnvC scope cl C X.env) fp) elt te) (ns : ∀ x, foldedSetIterable iter X.env x = pure x)
    (q0 : tLc wi g tt te (own.map (·.2)) τ G Q)
    (out : ∀ L C t m G', Inv X pins τ G' t → Q (.ref L) G' → t.heap.Ns C m → FpOk X pins G' C → compPost (model X.prog X.w) X.A X.xe use Qf (.ref L) C (.ok .next) t) :
    wpAny (model X.prog X.w) X.A (comprehension (.ListComp elt [⟨tg, iter, ifs, 0⟩] scope pos) scope X.env pos' (newList []) false (eval iter X.env) use) Qf X.xe s0 := by
  have cells : ∀ y ∈ scope.names, y.2 = .free → ∃ c, X.env.cells.lookup y.1 = some c := fun y hy z => I0.ok.has _ (bk.free y hy z)
  refine wpAny_comprehension_free (use := use) rfl ns (closure_ok cells) bk.kind (fun y hy z => by rw [bk.uniq y hy, z])
    (thn (hi.run pins s0 τ G _ I0 q0) fun _ t1 h1 => thn h1 fun itv t2 h2 => ?_)
  obtain ⟨it, fp, tn, J, G2, rfl, I2, T, tn2, fp2, rest⟩ := h2
  refine wpAny_newObj_type (newEnv_comp ?_) (by show 0 ≤ sizeLine; decide)
  generalize hL : t2.heap.objs.size = L
  have L0 : G2 L = none := I2.hok.fresh (Nat.le_of_eq hL)
  obtain ⟨Wm, ⟨m0, wm0⟩, turn⟩ := rest L L0
  generalize ht3 : ({ t2 with heap := t2.heap.push { cls := .type "list", data := .seq ([] : List Value).toArray } } : Shared) = t3
  have push3 : t3.heap = t2.heap.push { cls := .type "list", data := .seq ([] : List Value).toArray } := by rw [← ht3]
  have up3 : ∀ b o, t2.heap.get? b = some o → t3.heap.get? b = some o := fun b o z => by rw [push3]; exact Heap.get?_push_of_some _ z
  generalize hG3 : upd G2 L (.lst []) = G3 at wm0
  have I3 : Inv X pins τ G3 t3 := by
    rw [← hG3, ← ht3]
    refine I2.laid (t' := t2.toks) (fun b o z => Heap.get?_push_of_some _ z) (Nat.le_of_eq hL) ⟨Nat.zero_le _, [], 0, .nil, ?_⟩
    rw [← hL]
    exact Heap.get?_push_size _ rfl
  have fp3 : ∀ b ∈ fp, FpOk X pins G3 b ∧ b < t3.heap.objs.size := fun b hb => by
    obtain ⟨o, z, _⟩ := T.obj _ _ tn2 b hb
    have lt := Heap.lt_size z
    refine ⟨⟨?_, (fp2 b hb).2⟩, by rw [push3, Heap.size_push]; exact Nat.lt_succ_of_lt lt⟩
    rw [← hG3, upd_ne (by rw [← hL]; exact Nat.ne_of_lt lt)]
    exact (fp2 b hb).1
  have tn3 : tn 0 t3.heap := T.keep _ _ _ tn2 fun b _ o z => up3 b o z
  have I4 := block_start I3 bk nd fp3
  generalize hce : compEnvC scope (cellsFrom (t3.heap.objs.size + 1) scope.names (cloFrom X.env.cells scope.names [])) t3.heap.objs.size X.env = ce at I4
  have pg : PG (X.blk t3 G3 scope ce fp) tg g := by rw [← hce]; exact gOk ..
  have pt : PTs (X.blk t3 G3 scope ce fp) ifs tt := by rw [← hce]; exact tOk ..
  have pe : PE (X.blk t3 G3 scope ce fp) elt te := by rw [← hce]; exact eOk ..
  show codeAny _ _ (.compStart (.ListComp elt [⟨tg, iter, ifs, 0⟩] scope pos) 0 (.ref it) (.ref L) (compEnvC scope (cellsFrom (t3.heap.objs.size + 1) scope.names (cloFrom X.env.cells scope.names [])) t3.heap.objs.size X.env)) (compPost (model X.prog X.w) X.A X.xe use Qf (.ref L) t3.heap.objs.size) { t3 with heap := pushCells (t3.heap.push { cls := .type "dict", data := .dict #[] }) scope.names }
  rw [hce]
  have ceL : ce.locals = t3.heap.objs.size := by rw [← hce]; rfl
  generalize ht4 : ({ t3 with heap := pushCells (t3.heap.push { cls := .type "dict", data := .dict #[] }) scope.names } : Shared) = t4 at I4 ⊢
  have up4 : ∀ b o, t3.heap.get? b = some o → t4.heap.get? b = some o := fun b o z => by rw [← ht4]; exact pushCells_keeps _ _ _ _ (Heap.get?_push_of_some _ z)
  have tn4 : tn 0 t4.heap := T.keep _ _ _ tn3 fun b _ o z => up4 b o z
  -- the exception that is handled stays where it is
  obtain ⟨p, hp1, hp2⟩ := hot
  obtain ⟨pg1, pg2, pg3, pg4, pg5⟩ := I3.pin p (List.mem_append_left _ hp2)
  have pNL : p.1 ≠ ce.locals := by rw [ceL]; exact Nat.ne_of_lt (Heap.lt_size pg1)
  have pNS : p.1 ∉ frs X.stack := fun z => by
    rcases List.mem_cons.mp (I3.stkSub _ z) with z | z
    · exact pg3 z
    · exact pg4 z
  have I4p : Inv (X.blk t3 G3 scope ce fp) [p] (wipe τ (own.map (·.2))) G3 t4 := I4.pins_of fun q hq => by
    cases List.mem_singleton.mp hq
    exact ⟨up4 _ _ pg1, pg2, pNL, pNS, pg5⟩
  have pFp : ∀ b ∈ fp, p.1 ≠ b := fun b hb => (fp3 b hb).1.2.2.2.2.2 p (List.mem_append_left _ hp2)
  have hotB : HotC { X.blk t3 G3 scope ce fp with pn := [p] } := ⟨p, hp1, List.mem_singleton.mpr rfl⟩
  have okB : (X.blk t3 G3 scope ce fp).Ok := I4.ok
  have st0 : ∀ {ps : List (Addr × Obj)} {τ' : L2.St} {G' : Hp} {t' : Shared}, (∀ q ∈ ps, ∀ b ∈ fp, q.1 ≠ b) → (∀ b ∈ fp, G' b = none) → ∀ b ∈ fp, FpOk (X.blk t3 G3 scope ce fp) ps G' b := fun {ps τ' G' t'} hq hn b hb =>
    ⟨hn b hb, (okB.exf b hb).1, okB.exfs b hb, .inl hb, fun x c z => (okB.exf b hb).2 x c z, fun q hqq => by
      rcases List.mem_append.mp hqq with z | z
      · cases z
      · exact hq q z b hb⟩
  have one : ∀ q ∈ [p], ∀ b ∈ fp, q.1 ≠ b := fun q hq b hb => by cases List.mem_singleton.mp hq; exact pFp b hb
  have stP : ∀ {G' : Hp}, (∀ b ∈ fp, G' b = none) → ∀ b ∈ fp, FpOk { X.blk t3 G3 scope ce fp with pn := [p] } [] G' b := fun {G'} hn b hb => by
    obtain ⟨a0, a1, a2, a3, a4, a5⟩ := st0 (ps := [p]) (τ' := τ) (t' := t3) one hn b hb
    exact ⟨a0, a1, a2, a3, a4, fun q hq => by
      rcases List.mem_append.mp hq with z | z
      · exact one q z b hb
      · cases z⟩
  have loop : codeAny (model X.prog X.w) X.A (.compLoop (.ListComp elt [⟨tg, iter, ifs, 0⟩] scope pos) 0 (.ref it) (.ref L) ce) (compPost (model X.prog X.w) X.A X.xe use Qf (.ref L) t3.heap.objs.size) t4 := by
    refine compLoop_any (fun n t => ∃ i G', Inv (X.blk t3 G3 scope ce fp) [p] (wipe τ (own.map (·.2))) G' t ∧ tn i t.heap ∧ (∀ b ∈ fp, G' b = none) ∧ Wm i n G') ?_ m0 ⟨0, G3, I4p, tn4, fun b hb => (fp3 b hb).1.1, wm0⟩
    rintro n t5 ⟨i, G5, I5, tn5, n5, w5⟩
    have I5' := Inv.pnIn (Y := X.blk t3 G3 scope ce fp) rfl I5
    rcases turn i n G5 w5 with ⟨stop, qq⟩ | ⟨go, Nx, hNx, step⟩
    · refine thnF (T.done { X.blk t3 G3 scope ce fp with pn := [p] } rfl rfl rfl hotB i [] t5 _ G5 (fun _ _ => False) I5' (stP n5) tn5 stop) fun r t6 ⟨hr, I6⟩ => ?_
      subst hr
      have I7 : Inv X pins τ G5 t6 := I3.call' (ch := fp) I6.os I6.base I6.hok I6.bare fun b hb => by
        obtain ⟨_, z1, _, z3, z4, z5⟩ := (fp3 b hb).1
        exact ⟨z3, z1, z4, z5⟩
      have nC : G5 t3.heap.objs.size = none := by
        rw [← ceL]; exact I6.free
      obtain ⟨m, hm, _⟩ := I6.loc
      have hm : t6.heap.Ns ce.locals m := hm
      rw [ceL] at hm
      exact out L t3.heap.objs.size t6 m G5 I7 qq hm (I3.fpOk (Nat.le_refl _) nC)
    · refine thnF (T.item { X.blk t3 G3 scope ce fp with pn := [p] } rfl rfl rfl hotB i [] t5 _ G5 (fun _ _ => False) I5' (stP n5) tn5 go) fun r t6 ⟨u, hr, h6⟩ => ?_
      subst hr
      refine thnF h6 fun _ t7 ⟨x, G7, I7', r7, y7, tn7, n7⟩ => ?_
      have I7 := Inv.pnOut (Y := X.blk t3 G3 scope ce fp) rfl okB I7'
      have I7p := I7.pinned (st0 (τ' := τ) (t' := t3) one n7) (T.obj _ _ tn7)
      refine thnF (pg.run _ t7 _ G7 x u _ I7p r7 (step x G7 y7)) fun _ t8 ⟨τ8, G8, I8, hw8, q8⟩ => ?_
      refine thnF (pt.run _ t8 τ8 G8 _ I8 q8) fun b t9 ⟨G9, I9, q9⟩ => ?_
      have fin : ∀ {t' : Shared} {G' : Hp}, Inv (X.blk t3 G3 scope ce fp) ([p] ++ pinsAt fp t7.heap) τ8 G' t' → Nx G' → ∃ m, m < n ∧ ∃ i G', Inv (X.blk t3 G3 scope ce fp) [p] (wipe τ (own.map (·.2))) G' t' ∧ tn i t'.heap ∧ (∀ b ∈ fp, G' b = none) ∧ Wm i m G' := fun {t' G'} I' nx => by
        obtain ⟨m', lt, w'⟩ := hNx G' nx
        have still : ∀ b ∈ fp, ∀ o, t7.heap.get? b = some o → t'.heap.get? b = some o ∧ G' b = none := fun b hb o z =>
          have zz := I'.pin (b, o) (List.mem_append_right _ (List.mem_append_right _ (mem_pinsAt hb z)))
          ⟨zz.1, zz.2.1⟩
        refine ⟨m', lt, i + 1, G', I'.unpinned.weak (by rw [← hw8, wipe_length]) (fun j v z => ?_), T.keep _ _ _ tn7 fun b hb o z => (still b hb o z).1, fun b hb => ?_, w'⟩
        · rw [← hw8] at z
          exact (wipe_some z).1
        · obtain ⟨o, z, _⟩ := T.obj _ _ tn7 b hb
          exact (still b hb o z).2
      cases b with
      | true =>
        simp only [if_true] at q9 ⊢
        refine thnF (pe.run _ t9 τ8 G9 _ I9 q9) fun z t10 ⟨yv, G10, I10, r10, acc, gL, lz, nx⟩ => ?_
        exact app_ok (X := X.blk t3 G3 scope ce fp) I10 gL lz r10 fun t11 I11 => fin I11 nx
      | false =>
        simp only [Bool.false_eq_true, if_false] at q9 ⊢
        exact fin I9 q9
  exact codeAny_compStart_list loop (T.self X.A 0 _ _ _ tn4 loop)
theorem ps_setLcH {i : Nat} {y : Str} {py : Pos} {elt tg iter : Expr} {ifs : List Expr} {scope : Scope} {own : List (Str × Nat)} {pos spos : Pos} {wi : TI} {g : TG} {tt : TT} {te : TE} (hot : HotC X) (nd : X.N.Nodup) (iy : X.N[i]? = some y) (ly : X.env.scope.names.lookup y = some .local)
    (sw : swapsWith (.ListComp elt [⟨tg, iter, ifs, 0⟩] scope pos) (some (.Name y py)) spos.line X.env = pure true) (hi : PIH X tg iter wi) (bk : BlkOk X.N X.env.scope scope own)
    (gOk : ∀ (t : Shared) (G : Hp) (C : Addr) (cl : List (Str × Addr)) (fp : List Addr), PG (X.blk t G scope (compEnvC scope cl C X.env) fp) tg g)
    (tOk : ∀ (t : Shared) (G : Hp) (C : Addr) (cl : List (Str × Addr)) (fp : List Addr), PTs (X.blk t G scope (compEnvC scope cl C X.env) fp) ifs tt)
    (eOk : ∀ (t : Shared) (G : Hp) (C : Addr) (cl : List (Str × Addr)) (fp : List Addr), PE (X.blk t G scope (compEnvC scope cl C X.env) fp) elt te) (ns : ∀ x, foldedSetIterable iter X.env x = pure x := by intro _; rfl) :
    PS X (.Assign [.Name y py] (.ListComp elt [⟨tg, iter, ifs, 0⟩] scope pos) spos) (tAsg (tLc wi g tt te (own.map (·.2))) (gName i)) := by
  constructor
  intro pins s0 τ G D I0 q0
  rw [exec_Assign_Name_used _ _ _ _ sw]
  refine wpAny_bind (wpAny_standAt (wpAny_bind ?_))
  show wpAny _ X.A (do let _ ← comprehension (.ListComp elt [⟨tg, iter, ifs, 0⟩] scope pos) scope X.env (firstIterPos [⟨tg, iter, ifs, 0⟩] pos) (newList []) false (eval iter X.env) (some (assign (.Name y py) X.env))) _ _ s0
  have q0 : tLc wi g tt te (own.map (·.2)) τ G (fun x G1 => gName i x τ G1 D.nx) := q0
  refine wpAny_bind (thn (lcH_core (Qf := fun _ t => SP X pins D .next t) hot nd I0 hi bk gOk tOk eOk ns q0 fun L C t m G' I' q hm f => ?_) fun _ t hq => wpAny_pure (wpAny_pure hq))
  show wpAny _ _ (assign (.Name y py) X.env (.ref L)) _ _ _
  refine wpAny_assign_Name (store_ok2 (v := V.ref L) I' nd iy (.inl ly) rfl (fun t2 I2 ⟨a, sb, ha⟩ => ?_) (.inr ly))
  obtain ⟨f0, f1, f2, f3, f4, f5⟩ := f
  have ne : C ≠ a := by
    rcases ha with z | z
    · rw [z]; exact f1
    · exact fun w => f4 y a z w.symm
  exact ⟨m, hm.sameBut sb ne, fun h3 sb3 => ⟨_, G', I2.turned (t' := t2.toks) (fun b o hb z => (sb3.2 b hb).trans z) f0 f1 f3 f4 f5, q⟩⟩
end
end Pv

/-! PeN: try with clauses 'except C as e': pure semantics; a comprehension over a range within a suite. -/
noncomputable section
namespace Pv
open PySem PySem.Spec L2
open PyProof.Rows hiding St
abbrev SuF := Addr → Addr → StF
/-- the clause that an error takes (none: not known; some none: no clause) -/
def pickC (K : PySem.W.Frag) (c : Addr) : List (Addr × SuF) → Option (Option SuF)
  | [] => some none
  | q :: r => match PySem.W.exmOne K (.ref c) (.ref q.1) with
    | some true => some (some q.2)
    | some false => pickC K c r
    | none => none
/-- the suite's end is one, wherever the error stands -/
def SuEnd (f : SuF) (c : Addr) (i N : Nat) (ρ2 : Env) : Prop := ∀ a : Addr, ∃ ρ3, f c a ((List.replicate N none).set i (some (.ref a))) = .nx ρ3 ∧ ρ3.set i none = ρ2
open Classical in
def suRun (f : SuF) (c : Addr) (i N : Nat) : Out := if h : ∃ ρ2, SuEnd f c i N ρ2 then .nx (Classical.choose h) else .no
theorem suRun_ok {f : SuF} {c : Addr} {i N : Nat} {ρ2 : Env} (h : SuEnd f c i N ρ2) : suRun f c i N = .nx ρ2 := by
  have hx : ∃ ρ2, SuEnd f c i N ρ2 := ⟨_, h⟩
  unfold suRun
  rw [dif_pos hx]
  obtain ⟨ρ3, e1, e2⟩ := h 0
  obtain ⟨ρ4, e3, e4⟩ := Classical.choose_spec hx 0
  rw [e1] at e3
  cases e3
  rw [← e2, ← e4]
def tryA (K : PySem.W.Frag) (i : Nat) (fb : StF) (l : List (Addr × SuF)) : StF := fun ρ => match fb ρ with
  | .nx ρ' => .nx ρ'
  | .ex x ρ' => match x.fs with
    | some _ => .no
    | none => match pickC K x.cls l with
      | some (some f) => if ρ'.length = ρ.length then suRun f x.cls i ρ.length else .no
      | some none => .ex x ρ'
      | none => .no
  | _ => .no
section
variable {X : Cx} {B : Bd} {W : WX} {flL fl : List Bool} {n : Str} {i : Nat}
inductive ClsV (X : Cx) (B : Bd) (flL fl : List Bool) (n : Str) : List ExceptHandler → List (Addr × SuF) → Prop
  | nil : ClsV X B flL fl n [] []
  | cons {x : Str} {C : Addr} {f : SuF} {st : Stmt} {su : List Stmt} {p1 p2 : Pos} {hs : List ExceptHandler} {l : List (Addr × SuF)} (hg : Gl X x) (hm : X.mg x = some (.ref C))
      (hsu : ∀ (a : Addr) (oe : Obj) (c : Addr) (pn : List (Addr × Obj)), L2N.Zn (.ref c) none oe → (∃ vs, oe.data = .fields vs) → PBv (X.suite a ((a, oe) :: pn)) B W0 flL fl fl (st :: su) (f c a)) (r : ClsV X B flL fl n hs l)
      (hdb : (x == ("__debug__" : Str)) = false := by decide) : ClsV X B flL fl n (.ExceptHandler (some (.Name x p1)) (some n) (st :: su) p2 :: hs) ((C, f) :: l)
def clTs (K : PySem.W.Frag) (B : Bd) (flL fl : List Bool) (q : Addr × SuF) : Clause := (.ref q.1, fun a cls d D σ H => ∃ c, cls = .ref c ∧ d = none ∧ SvT K B W0 fl fl flL (q.2 c a) D σ H)
theorem ClsV.ok {hs : List ExceptHandler} {l : List (Addr × SuF)} (h : ClsV X B flL fl n hs l) : ClOk X n hs (l.map (clTs X.K B flL fl)) := by
  induction h with
  | nil => exact .nil
  | cons hg hm hsu r hdb ih =>
    refine .cons ⟨hg, hdb, .inl hm⟩ (fun a oe cls d pn hz hd => ⟨fun pins s σ H D I q => ?_⟩) ih
    obtain ⟨c, rfl, rfl, q⟩ := q
    exact (hsu a oe c pn hz hd).ps.run pins s σ H D I q
theorem wCl_of {K : PySem.W.Frag} {D : Ends} {c : Addr} {σ' : St} {H' : Hp} {fl'' : List Bool} {ρ' : Env} {T : List (Pv.D × V)} (hbor : B.bor = []) (hfl : ∀ j : Nat, fl[j]? ≠ some true) {N : Nat} (E' : ER K B fl'' σ' H' ρ' T) :
    ∀ {l : List (Addr × SuF)} {r : Option SuF}, pickC K c l = some r →
      (∀ f, r = some f → (fl.length = N ∧ ρ'.length = N) ∧ ∃ ρ2, SuEnd f c i N ρ2 ∧ ∀ σ2 H2, ER K B fl σ2 H2 ρ2 T → D.nx σ2 H2) → (r = none → W (.ref c) none σ' H') → wCl K i W D (l.map (clTs K B flL fl)) (.ref c) none σ' H' := by
  intro l
  induction l with
  | nil =>
    intro r h _ hn
    cases h
    exact hn rfl
  | cons q l ih =>
    intro r h hy hn
    unfold pickC at h
    cases e : PySem.W.exmOne K (.ref c) (.ref q.1) with
    | none => rw [e] at h; cases h
    | some b =>
      rw [e] at h
      cases b with
      | true =>
        cases h
        obtain ⟨⟨hlen, hN⟩, ρ2, h2, hd⟩ := hy _ rfl
        refine ⟨true, e, fun _ a na => ?_, fun z => nomatch z⟩
        obtain ⟨ρ3, e3, e4⟩ := h2 a
        obtain ⟨ow, E'⟩ := E'
        refine ⟨c, rfl, rfl, svT_mk (T := T) ⟨ow, E'.bare hbor hN hlen hfl a⟩ ?_⟩
        rw [e3]
        intro σ2 H2 E2
        obtain ⟨ow2, E2⟩ := E2
        refine hd _ _ ⟨ow2, ?_⟩
        rw [← e4]
        exact E2.gone hbor hfl
      | false => exact ⟨false, e, (fun z => nomatch z), fun _ => ih h hy hn⟩
theorem psv_tryM {h0 : ExceptHandler} {hs : List ExceptHandler} {body : List Stmt} {fb : StF} {l : List (Addr × SuF)} {pos : Pos} (hi : X.N[i]? = some n) (tk : L2N.Takes X W) (hbor : B.bor = []) (hN : X.N.Nodup)
    (hb : ∀ (W : WX) (pn : List (Addr × Obj)) (xe : Value → Shared → Prop), L2N.Takes (X.tr pn xe) W → PassesOwn (model X.prog X.w) X.A X.env xe → PBv (X.tr pn xe) B W flL fl fl body fb)
    (hcl : ClsV X B flL fl n (h0 :: hs) l)
    (hf : fl.all (fun b => !b) = true := by rfl) (hs' : X.stack = X.env :: X.outer := by rfl) (hfr : X.env.frame = some X.env.locals := by rfl) (hln : X.env.kindOf n = some .local := by rfl) :
    PSv X B W flL fl fl (.Try body (h0 :: hs) [] [] pos) (tryA X.K i fb l) := by
  have hfl : ∀ j : Nat, fl[j]? ≠ some true := fun j h => by
    have := List.all_eq_true.mp hf true (List.mem_of_getElem? h)
    cases this
  refine PS.svT (ps_tryM (i := i) (tb := fun W => SvT X.K B W fl fl flL fb) (Wo := W) hs' hfr hN hi hln tk (fun W pn xe tk hp => (hb W pn xe tk hp).ps) hcl.ok) fun D σ H ρ T E q => ?_
  refine svT_mk E ?_
  unfold tryA at q
  cases e : fb ρ with
  | nx ρ' => rw [e] at q; exact q
  | ex y ρ' =>
    rw [e] at q
    intro dx σ' H' fl'' E' hx
    dsimp only at q
    cases hfs : y.fs with
    | some fs => rw [hfs] at q; exact q.elim
    | none =>
      rw [hfs] at q
      dsimp only at q
      have hdx : dx = none := by unfold XOk at hx; rw [hfs] at hx; exact hx
      have hy : y = ⟨y.cls, none⟩ := by cases y; cases hfs; rfl
      subst hdx
      obtain ⟨ow0, E0⟩ := E
      cases hp : pickC X.K y.cls l with
      | none => rw [hp] at q; exact q.elim
      | some r =>
        rw [hp] at q
        cases r with
        | none =>
          exact wCl_of (N := 0) hbor hfl E' hp (fun f z => nomatch z) fun _ => q none σ' H' fl'' E' hx
        | some f =>
          dsimp only at q
          by_cases hlen : ρ'.length = ρ.length
          · rw [if_pos hlen] at q
            refine wCl_of (N := ρ.length) hbor hfl E' hp (fun f' z => ⟨⟨by rw [E0.fll, ← E0.len], hlen⟩, ?_⟩) (fun z => nomatch z)
            cases z
            unfold suRun at q
            by_cases h : ∃ ρ2, SuEnd f y.cls i ρ.length ρ2
            · rw [dif_pos h] at q
              exact ⟨_, Classical.choose_spec h, q⟩
            · rw [dif_neg h] at q; exact q.elim
          · rw [if_neg hlen] at q; exact q.elim
  | _ => rw [e] at q; exact q.elim
end
/-! ### within a suite -/
section
variable {X : Cx} {B : Bd} {W : WX} {fl fl1 fl' flL : List Bool} {pos p2 : Pos} {tg : Expr}
theorem hot_suite {a c : Addr} {oe : Obj} {pn : List (Addr × Obj)} (hz : L2N.Zn (.ref c) none oe) (hd : ∃ vs, oe.data = .fields vs) : L2H.HotC (X.suite a ((a, oe) :: pn)) := by
  obtain ⟨vs, hv⟩ := hd
  exact ⟨(a, oe), ⟨rfl, vs, hv, hz.2.2 vs hv⟩, List.mem_cons_self⟩
structure PIvH (X : Cx) (B : Bd) (W : WX) (fl : List Bool) (tg e : Expr) (f : IterF) : Prop where
  pi : L2H.PIH X tg e (EvI X.K B W fl f)
theorem PIH.weaken {e : Expr} {t t' : TI} (h : L2H.PIH X tg e t) (w : ∀ σ H Q, t' σ H Q → t σ H Q) : L2H.PIH X tg e t' := ⟨fun pins s σ H Q I q => h.run pins s σ H Q I (w σ H Q q)⟩
theorem piH_r1 {a : Expr} {f : ArgF} {p : Pos} (hg : Gl X "range") (hm : X.mg "range" = none) (ha : PAv X B W fl [a] f) (hs : starEach [a] X.env = [(false, eval a X.env)] := by rfl) : PIvH X B W fl tg (.Call (.Name "range" p) [a] [] pos) (itR1 f) :=
  ⟨PIH.weaken (L2H.pi_range1H hg hm ha.pa hs) fun σ H R ⟨ρ, T, E, q⟩ => by
    obtain ⟨hn, hx, hk⟩ := evI_no q
    refine evA_mk E (fun e => hn (by unfold itR1; rw [e])) (fun x ρ' e => hx x ρ' (by unfold itR1; rw [e])) fun ds ρ' ow vs H' e E' r => ?_
    unfold itR1 at hn
    rw [e] at hn
    split at hn
    · rename_i j ρ2 e2
      cases e2
      split at hn
      · rename_i c
        cases r with
        | cons r t =>
          cases t
          cases r
          exact ⟨j, rfl, (cdec_of c).1, (cdec_of c).2, hk _ _ _ (by unfold itR1; rw [e]; exact if_pos c) [] H' _ rfl ⟨ow, E'⟩ itOk_range⟩
      · exact absurd rfl hn
    · rename_i e2; cases e2
    · exact absurd rfl hn⟩
theorem psv_setLcH {elt iter : Expr} {ifs : List Expr} {scope : Scope} {i : Nat} {y : Str} {py spos : Pos} {own : List (Str × Nat)} {f : IterF} {g : TG} {tgt : TgtF} {ft : Option ValF} {fe : ValF} (hy : X.N[i]? = some y) (hyl : X.env.scope.names.lookup y = some .local) (hsw : swapsWith (.ListComp elt [⟨tg, iter, ifs, 0⟩] scope pos) (some (.Name y py)) spos.line X.env = pure true) (hb : i ≠ 0 ∨ B.bor = []) (hot : L2H.HotC X) (hN : X.N.Nodup) (hi : PIvH X B W fl tg iter f) (ok : BlkOk X.N X.env.scope scope own)
    (h0 : 0 ∉ own.map (·.2) ∨ B.bor = []) (to : TgOwn (own.map (·.2)) g)
    (hg : ∀ (s : Shared) (H : Hp) (C : Addr) (cl : List (Str × Addr)) (fp : List Addr) (B' : Bd), B'.bor = B.bor → PGv (X.blk s H scope (compEnvC scope cl C X.env) fp) B' fl tg g tgt)
    (ht : ∀ (s : Shared) (H : Hp) (C : Addr) (cl : List (Str × Addr)) (fp : List Addr) (B' : Bd), B'.bor = B.bor → PTsv (X.blk s H scope (compEnvC scope cl C X.env) fp) B' W0 fl ifs ft)
    (he : ∀ (s : Shared) (H : Hp) (C : Addr) (cl : List (Str × Addr)) (fp : List Addr) (B' : Bd), B'.bor = B.bor → PV (X.blk s H scope (compEnvC scope cl C X.env) fp) B' W0 fl elt fe)
    (hs : ∀ x, foldedSetIterable iter X.env x = pure x := by intro _; rfl) :
    PSv X B W flL fl (fl.set i false) (.Assign [.Name y py] (.ListComp elt [⟨tg, iter, ifs, 0⟩] scope pos) spos) (put i (pubF (lcF f tgt (own.map (·.2)) ft fe))) :=
  psv_asgT (ps_setLcH (tt := (fun σ H Q => ∃ B' : Bd, B'.bor = B.bor ∧ EvBo X.K B' W0 fl ft σ H Q)) (te := (fun σ H Q => ∃ B' : Bd, B'.bor = B.bor ∧ EvT X.K B' W0 fl fe σ H Q)) hot hN hy hyl hsw hi.pi ok (fun s H C cl fp => (hg s H C cl fp B rfl).pg) (fun s H C cl fp => pts_ex (B := B) (ht s H C cl fp)) (fun s H C cl fp => pe_ex (B := B) (he s H C cl fp)) hs) (fun σ H Q q => lc_w h0 to (fun B' hb => (hg X.s_0 X.H_0 0 [] [] B' hb).run) σ H Q (evF_pub q)) hb
theorem pv_neU {a b : Expr} {o o' : Opd} (hu : X.A.units + 64 < cLine) (ha : POp X B W fl a o) (hb : POp X B W fl b o') : PV X B W fl (.Compare a [.NotEq] [b] pos) (bin2 o o' neO) := pv_op2 (pe_cmpR (op_neD hu) ha.pe hb.pe (nomark _)) o_ne
theorem ptv_neU {a b : Expr} {o o' : Opd} (hu : X.A.units + 64 < cLine) (ha : POp X B W fl a o) (hb : POp X B W fl b o') : PTv X B W fl (.Compare a [.NotEq] [b] pos) (bin2 o o' neO) := ptv_op (pt_cmpR (op_neD hu) ha.pe hb.pe (nomark _)) o_ne
/-! ### a call of the def that an expression gives -/
def callEF (ff : ValF) (S : Addr → Option (List D → PRes)) (fa : ArgF) : ValF := fun ρ => match ff ρ with
  | .ok d ρ1 => match d with
    | .ref a => match S a with
      | some F => callP F fa ρ1
      | none => .no
    | _ => .no
  | .ex x ρ1 => .ex x ρ1
  | .no => .no
theorem pv_callE {k n m : Nat} {S : Addr → Option (List D → PRes)} {f e : Expr} {es : List Expr} {ff : ValF} {fa : ArgF}
    (A : ∀ a F, S a = some F → ∃ fd ps k', k' ≤ k ∧ FnOk X.prog X.w X.K X.mg X.base (L2N.CX X.prog X.w) k' a fd ps (spP X.K false n F) ∧ PySem.W.keepIn X.K (.ref a) = true ∧ Binds X.K fd ps []) (hr : Room m X.A) (hkm : k ≤ m)
    (tk : L2N.Takes X W) (hf : PV X B W fl f ff) (ha : PAv X B W fl (e :: es) fa) (hn0 : (e :: es).length = n := by rfl)
    (hc : eval (.Call f (e :: es) [] pos) X.env = (do callWith pos (← eval f X.env) [] (backTo pos (starEach (e :: es) X.env)) (backToKw pos (keywordEach [] X.env))) := by rfl)
    (he : starEach (e :: es) X.env = (false, eval e X.env) :: starEach es X.env := by rfl) (hpl : (backTo pos (starEach es X.env)).any (·.1) = false := by rfl) : PV X B W fl (.Call f (e :: es) [] pos) (callEF ff S fa) := by
  have pe : PE X (.Call f (e :: es) [] pos) (fun σ H Q => EvT X.K B W fl ff σ H fun v H1 => ∃ a F, v = .ref a ∧ S a = some F ∧ EvA X.K B W fl fa σ H1 fun vs H2 => spP X.K false n F vs H2 Q (WE W σ)) := by
    refine ⟨fun pins s σ H Q I h => ?_⟩
    refine Call_ (thn (hf.pe.run pins s σ H _ I h) fun u s1 ⟨v, H1, I1, r1, a, F, ev, hS, ht⟩ => ?_) hc
    subst ev
    cases r1
    obtain ⟨fd, ps, k', hk', G, hk, hb⟩ := A a F hS
    refine PySem.W.callWith_K (h₀ := X.base) I.ok.mod.kin hk (thn (ha.pa.run pos pins s1 σ _ _ I1 ht) fun us s2 ⟨vs, H2, I2, r, q⟩ => ⟨I2.kIn, ?_⟩) he hpl
    exact run_fnS G (hr.mono (Nat.le_trans hk' hkm)) hb (L2N.passAt tk σ) I2 r q
  refine ⟨PE.weaken pe fun σ H Q ⟨ρ, T, E, q⟩ => ?_⟩
  obtain ⟨hn, hx, hk⟩ := evT_no q
  refine ⟨ρ, T, E, ?_⟩
  cases e0 : ff ρ with
  | no => exact hn (by unfold callEF; rw [e0])
  | ex x ρ1 => exact fun dx H1 E1 z => hx x ρ1 (by unfold callEF; rw [e0]) dx H1 E1 z
  | ok d ρ1 =>
    intro v H1 E1
    obtain ⟨ow1, E1⟩ := E1
    have r := E1.top
    cases d with
    | ref a =>
      cases r
      cases eS : S a with
      | none => exact absurd (by unfold callEF; rw [e0]; dsimp only; rw [eS]) hn
      | some F =>
        have e9 : callEF ff S fa ρ = callP F fa ρ1 := by unfold callEF; rw [e0]; dsimp only; rw [eS]
        rw [e9] at hn hx hk
        refine ⟨a, F, rfl, eS, ?_⟩
        refine evA_mk ⟨ow1, E1.drop⟩ (fun e => hn (by unfold callP; rw [e])) (fun x ρ' e => hx x ρ' (by unfold callP; rw [e])) fun ds ρ' ow vs H' e E' r => ?_
        refine ⟨by rw [← r.length, ha.len _ _ _ e]; exact hn0, fun a => ow a ≠ .pub, ds, fun a h => E'.mu h, r, ?_⟩
        cases e1 : F ds with
        | rt d =>
          intro v H'' s rv
          unfold RetV at rv
          rw [if_neg Bool.false_ne_true] at rv
          exact hk d ρ' (by unfold callP; rw [e]; dsimp only; rw [e1]) v H'' ⟨ow, (E'.mono s).push rv⟩
        | ex x => exact fun dx H'' s z => hx x ρ' (by unfold callP; rw [e]; dsimp only; rw [e1]) dx H'' ⟨ow, E'.mono s⟩ z
        | no => exact hn (by unfold callP; rw [e]; dsimp only; rw [e1])
    | _ => exact absurd (by unfold callEF; rw [e0]) hn
/-! ### names from a list -/
def tgL (hs : List D → Env → Option Env) : TgtF := fun d ρ => match d with
  | .lst ds => hs ds ρ
  | _ => none
theorem pgv_lstN {es : List Expr} {k n : Nat} {gs : TGs} {hs : List D → Env → Option Env} {pos : Pos} (hc : X.calm = true) (h : PGsv X B fl es gs hs) (hl : ∀ ds ρ ρ', hs ds ρ = some ρ' → ds.length = n)
    (hn : (assignEach es X.env).length = n := by rfl) (hst : (assignEach es X.env).findIdx? (·.1) = none := by rfl) : PGv X B fl (.Tuple es k pos) (gUnl X.K n gs) (tgL hs) :=
  ⟨pg_unl hc h.pgs hn hst, fun ow σ H ρ T d v ρ' Q E r e q => by
    unfold tgL at e
    cases d with
    | lst ds =>
      cases r with
      | lst e1 rs => exact ⟨_, _, rfl, SqL.of (hide_sub _ _ e1), by rw [← rs.length]; exact hl _ _ _ e, h.run ow σ H ρ T _ _ ρ' Q E rs e q⟩
    | _ => cases e⟩
end
end Pv

/-! PeP: instances of an own class: isinstance, own ==, own len, properties. -/
noncomputable section
namespace Pv
open PySem PySem.Spec L2
open PyProof.Rows hiding St
/-! ### isinstance(x, C) -/
def bTys : List String := ["NoneType", "bool", "int", "str", "list", "tuple"]
/-- what isinstance asks of the class C -/
structure IsCls (K : PySem.W.Frag) (C : Addr) : Prop where
  cl : Cls K C
  ha : PySem.W.findIn K (.ref C) "__class__" = some (some (.builtin "object.__class__"))
  hn : PySem.W.specialIn K (.builtin "object.__class__") "__get__" = some (some (.builtin "getset_descriptor.__get__"))
  ht : PySem.W.takesIn K (.builtin "object.__class__") = some true
  hm : PySem.W.mroIn K C (.type "object") = some true
  me : PySem.W.kitOne K (.ref C) (.ref C) = some true
  no : ∀ t ∈ bTys, PySem.W.kitOne K (.type t) (.ref C) = some false
  nf : ∀ t ∈ bTys, PySem.W.notFirst K C (.type t) = true
def isiC (C : Addr) : D → Option D
  | .ins C' _ => if C' = C then some (.bl true) else none
  | .non => some (.bl false)
  | .bl _ => some (.bl false)
  | .int _ => some (.bl false)
  | .str _ => some (.bl false)
  | .lst _ => some (.bl false)
  | .tup _ => some (.bl false)
  | _ => none
theorem tyC {K : PySem.W.Frag} {C : Addr} (k : IsCls K C) {h H : Hp} {d : D} {v : V} (b : BRep K h H d v) (s : Same h H) {z : D} (e : isiC C d = some z) : ∃ t bb, TyX K H v t ∧ PySem.W.kitOne K t (.ref C) = some bb ∧ z = .bl bb ∧ PySem.W.notFirst K C t = true := by
  have no : ∀ {t : String}, t ∈ bTys → TyX K H v (.type t) → z = .bl false → ∃ t bb, TyX K H v t ∧ PySem.W.kitOne K t (.ref C) = some bb ∧ z = .bl bb ∧ PySem.W.notFirst K C t = true := fun {t} ht q hz => ⟨_, false, q, k.no t ht, hz, k.nf t ht⟩
  cases d with
  | ins C' fs =>
    unfold isiC at e
    dsimp only at e
    by_cases c : C' = C
    · rw [if_pos c] at e; cases e
      subst c
      obtain ⟨a, dx, gs, rfl, h1, _, _⟩ := b.insE s
      refine ⟨.ref C', true, .base (.ins h1 k.cl k.ha k.hn k.ht k.hm), k.me, rfl, ?_⟩
      unfold PySem.W.notFirst
      rw [show ((Value.ref C' == Value.ref C') = true) from beq_self_eq_true _]; rfl
    · rw [if_neg c] at e; cases e
  | non => cases e; exact no (by decide) (tyD_x b s rfl) rfl
  | bl _ => cases e; exact no (by decide) (tyD_x b s rfl) rfl
  | int _ => cases e; exact no (by decide) (tyD_x b s rfl) rfl
  | str _ => cases e; exact no (by decide) (tyD_x b s rfl) rfl
  | lst _ => cases e; exact no (by decide) (tyD_x b s rfl) rfl
  | tup _ => cases e; exact no (by decide) (tyD_x b s rfl) rfl
  | _ => cases e
theorem o_isiC {K : PySem.W.Frag} {C : Addr} (k : IsCls K C) : Op1 K (fun x H Q => rIsi K [x, .ref C] H Q) (isiC C) := by
  intro N H x v z Q hN bx e q
  obtain ⟨t, b, h1, h2, rfl, _⟩ := tyC k bx hide_sub e
  exact ⟨v, .ref C, t, _, b, rfl, .own C, h1, h2, q _ H (Same.refl H) (.bl b)⟩
section
variable {X : Cx} {B : Bd} {W : WX} {fl fl1 fl' flL : List Bool} {pos p p2 : Pos}
theorem pv_isC {C : Addr} {y : Str} {a : Expr} {o : Opd} (k : IsCls X.K C) (hg : Gl X "isinstance") (hm : X.mg "isinstance" = none) (ho : POp X B W fl a o) (hy : PE X (.Name y p2) (tC (.ref C)))
    (h1 : starEach [a, .Name y p2] X.env = (false, eval a X.env) :: starEach [.Name y p2] X.env := by rfl) (h2 : starEach [.Name y p2] X.env = (false, eval (.Name y p2) X.env) :: starEach [] X.env := by rfl) (h3 : (backTo pos (starEach [.Name y p2] X.env)).any (·.1) = false := by rfl) :
    PV X B W fl (.Call (.Name "isinstance" p) [a, .Name y p2] [] pos) (un1 o (isiC C)) :=
  ⟨PE.weaken (pe_callB call_isi hg hm bt_isinstance (pa_cons ho.pe (pa_cons hy pa_nil h2) h1) (he := h1) (hpl := h3)) fun σ H Q q => (o_isiC k).w q⟩
/-! ### own == -/
theorem passLN : ∀ {X : Cx}, Passes (L2N.CX X.prog X.w) X (fun _ _ _ => False) := fun {X} _ _ _ _ _ _ _ h => by
  obtain ⟨_, _, _, _, _, _, _, _, _, _, _, _, z⟩ := h
  exact z.elim
def rEqW (K : PySem.W.Frag) (C : Addr) (sp : Sp) : R2 := fun x y H Q => ∃ a dx fs t, x = .ref a ∧ H a = some (.ins C dx fs) ∧ TyX K H y t ∧ PySem.W.notFirst K C t = true ∧ sp [x, y] H (fun v H' => (∃ b, v = .bl b) ∧ Q v H') (fun _ _ _ => False)
theorem op_eqW {k : Nat} {C f : Addr} {fd : FuncData} {ps : List Str} {sp : Sp} (F : FnOk X.prog X.w X.K X.mg X.base (L2N.CX X.prog X.w) k f fd ps sp) (hr : Room k X.A) (mt : Meth X.K C "__eq__" f) (hb : Binds X.K fd ps []) : OpR X (compareOp .Eq) (rEqW X.K C sp) := by
  intro pins s σ H x y v u Q I rx ry h
  obtain ⟨a, dx, fs, t, rfl, ea, ty, nf, h⟩ := h
  cases rx
  obtain ⟨mA, J, _⟩ := ins_get I.hok ea
  obtain ⟨od, J, _⟩ := J.look
  obtain ⟨m, hF⟩ := I.fr
  obtain ⟨P, Z, hp, _⟩ := kit_of I ry ty
  show wpAny (model X.prog X.w) X.A (richCompare .Eq (.ref a) u) (EP X pins σ Q) X.xe s
  refine PySem.W.cmp_K (op := .Eq) (tb := t) hr.units0 hF I.ok.mod.kin J (Z.ty _ _ I.kIn hp) nf mt.at_ mt.fn ?_
  have hl := F.len _ _ _ _ h
  refine wpAny_call (codeAny_mono (F.run X.A X.stack s H ⟨[.ref a, u], []⟩ [.ref a, u] [.ref a, y] _ _ hr I.env0 (by
    have := hb s [.ref a, u] I.kIn (by simpa using hl)
    simpa using this) (.cons rfl (.cons ry .nil)) h) fun r s' hq => ?_)
  cases r with
  | error e => exact passLN pins σ H s e s' I hq
  | ok fl =>
    cases fl with
    | ret w =>
      obtain ⟨z, H', I', rz, ⟨b, ez⟩, q⟩ := I.after hq
      subst ez
      cases rz
      exact ⟨.bl b, H', I', rfl, q⟩
    | next => exact False.elim hq
    | brk => exact False.elim hq
    | cont => exact False.elim hq
/-- x == y, x an instance of C with an own == -/
def eqW (C : Addr) (F : List D → PRes) (fa fb : ValF) : ValF := fun ρ => (fa ρ).bind fun x ρ1 => (fb ρ1).bind fun y ρ2 => match x with
  | .ins C' _ => if C' = C ∧ (isiC C y).isSome = true then (match F [x, y] with
    | .rt (.bl b) => .ok (.bl b) ρ2
    | _ => .no) else .no
  | _ => .no
theorem eqW_w {C : Addr} {F : List D → PRes} {fa fb : ValF} {K : PySem.W.Frag} {σ : St} {H : Hp} {Q : VK} (kc : IsCls K C) (q0 : EvT K B W fl (eqW C F fa fb) σ H Q) : tOp (rEqW K C (spP K false 2 F)) (EvT K B W fl fa) (EvT K B W fl fb) σ H Q := by
  obtain ⟨ρ, T, E, q⟩ := q0
  obtain ⟨hn, hx, hk⟩ := evT_no q
  have e0 : eqW C F fa fb ρ = (fa ρ).bind fun x ρ1 => (fb ρ1).bind fun y ρ2 => match x with
    | .ins C' _ => if C' = C ∧ (isiC C y).isSome = true then (match F [x, y] with
      | .rt (.bl b) => .ok (.bl b) ρ2
      | _ => .no) else .no
    | _ => .no := rfl
  rw [e0] at hn hx hk
  refine ⟨ρ, T, E, ?_⟩
  cases e1 : fa ρ with
  | no => rw [e1] at hn; exact hn rfl
  | ex x ρ1 => rw [e1] at hx; exact hx x ρ1 rfl
  | ok x ρ1 =>
    rw [e1] at hn hx hk
    intro v H1 E1
    refine ⟨ρ1, (x, v) :: T, E1, ?_⟩
    dsimp only [ERes.bind] at hn hx hk
    cases e2 : fb ρ1 with
    | no => rw [e2] at hn; exact hn rfl
    | ex y ρ2 => rw [e2] at hx; exact fun dx H' E' z => hx y ρ2 rfl dx H' (E'.sub fun p hp => List.mem_cons_of_mem _ hp) z
    | ok y ρ2 =>
      rw [e2] at hn hk
      intro w H2 ⟨ow, E2⟩
      cases x with
      | ins C' fs =>
        dsimp only at hn hk
        by_cases c : C' = C ∧ (isiC C y).isSome = true
        · rw [if_pos c] at hn hk
          obtain ⟨rfl, c2⟩ := c
          obtain ⟨z, hz⟩ := Option.isSome_iff_exists.mp c2
          have rx : Rep K (pubH ow H2) (.ins C' fs) v := E2.drop.top
          have ry : Rep K (pubH ow H2) y w := E2.top
          obtain ⟨t, bb, t1, _, _, t4⟩ := tyC kc (.val ry) hide_sub hz
          obtain ⟨a', dx, gs, rfl, h1, _, _⟩ := (BRep.val (H := H2) rx).insE hide_sub
          refine ⟨a', dx, gs, t, rfl, h1, t1, t4, rfl, fun a => ow a ≠ .pub, [.ins C' fs, y], fun a h => E2.mu h, .cons rx (.cons ry .nil), ?_⟩
          cases e3 : F [.ins C' fs, y] with
          | rt d =>
            rw [e3] at hn hk
            cases d with
            | bl b =>
              intro u H3 s rv
              unfold RetV at rv
              rw [if_neg Bool.false_ne_true] at rv
              cases rv
              exact ⟨⟨b, rfl⟩, hk _ _ rfl _ _ ⟨ow, (E2.drop.drop.mono s).push (.bl b)⟩⟩
            | _ => exact absurd rfl hn
          | ex x => rw [e3] at hn; exact absurd rfl hn
          | no => rw [e3] at hn; exact absurd rfl hn
        · rw [if_neg c] at hn; exact absurd rfl hn
      | _ => exact absurd rfl hn
theorem pv_eqW {k m : Nat} {C : Addr} {ps : List Str} {F : List D → PRes} {a b : Expr} {fa fb : ValF} (kc : IsCls X.K C) (G : Met2 X.prog X.w X.K X.mg X.base k C "__eq__" ps (spP X.K false 2 F)) (hr : Room m X.A) (hkm : k ≤ m) (ha : PV X B W fl a fa) (hb : PV X B W fl b fb) :
    PV X B W fl (.Compare a [.Eq] [b] pos) (eqW C F fa fb) := by
  obtain ⟨f, fd, g1, g2, g3, g4⟩ := G.ex
  exact ⟨PE.weaken (pe_cmpR (op_eqW g3 (hr.mono hkm) g2 g4) ha.pe hb.pe (nomark _)) fun σ H Q q => eqW_w kc q⟩
theorem ptv_eqW {k m : Nat} {C : Addr} {ps : List Str} {F : List D → PRes} {a b : Expr} {fa fb : ValF} (kc : IsCls X.K C) (G : Met2 X.prog X.w X.K X.mg X.base k C "__eq__" ps (spP X.K false 2 F)) (hr : Room m X.A) (hkm : k ≤ m) (ha : PV X B W fl a fa) (hb : PV X B W fl b fb) :
    PTv X B W fl (.Compare a [.Eq] [b] pos) (eqW C F fa fb) := by
  obtain ⟨f, fd, g1, g2, g3, g4⟩ := G.ex
  exact ⟨PT.weaken (pt_cmpR (op_eqW g3 (hr.mono hkm) g2 g4) ha.pe hb.pe (nomark _)) fun σ H Q q => eqW_w kc (evB_T q)⟩
/-! ### own len -/
def rLenW (C : Addr) (sp : Sp) : List V → Hp → VK → Prop := fun xs H Q => ∃ a dx fs, xs = [.ref a] ∧ H a = some (.ins C dx fs) ∧ sp xs H (fun v H' => ∃ n : Int, v = .int n ∧ (0 ≤ n ∧ n < 2 ^ 63) ∧ Q v H') (fun _ _ _ => False)
theorem call_lenW {k : Nat} {C f : Addr} {fd : FuncData} {ps : List Str} {sp : Sp} (F : FnOk X.prog X.w X.K X.mg X.base (L2N.CX X.prog X.w) k f fd ps sp) (hr : Room (k + 1) X.A) (mt : Meth X.K C "__len__" f) (hb : Binds X.K fd ps []) : CallR X (.builtin "len") (rLenW C sp) := by
  intro pins s σ H xs us Q I r h
  obtain ⟨a, dx, fs, rfl, ea, h⟩ := h
  cases r with
  | cons r rr =>
    cases rr
    cases r
    obtain ⟨mA, J, _⟩ := ins_get I.hok ea
    obtain ⟨od, J, _⟩ := J.look
    obtain ⟨m, hF⟩ := I.fr
    refine PySem.W.len_K hF I.ok.mod.kin J mt.at_ mt.fn ?_
    have hl := F.len _ _ _ _ h
    refine wpAny_call (codeAny_mono (F.run X.A.in1 X.stack s H ⟨[.ref a], []⟩ [.ref a] [.ref a] _ _ hr.in1 I.env0.in1 (by
      have := hb s [.ref a] I.kIn (by simpa using hl)
      simpa using this) (.cons rfl .nil) h) fun r s' hq => ?_)
    cases r with
    | error e => exact passLN pins σ H s e s' I hq
    | ok fl =>
      cases fl with
      | ret w =>
        obtain ⟨z, H', I', rz, n, ez, hn, q⟩ := I.after hq
        subst ez
        obtain ⟨t, rfl⟩ := rz
        exact ⟨hn, .int n, H', I'.tok _, ⟨_, rfl⟩, q⟩
      | next => exact False.elim hq
      | brk => exact False.elim hq
      | cont => exact False.elim hq
def lenW (C : Addr) (F : List D → PRes) (fa : ValF) : ValF := fun ρ => (fa ρ).bind fun x ρ1 => match x with
  | .ins C' _ => if C' = C then (match F [x] with
    | .rt (.int n) => if 0 ≤ n ∧ n < 2 ^ 63 then .ok (.int n) ρ1 else .no
    | _ => .no) else .no
  | _ => .no
theorem pv_lenW {k m : Nat} {C : Addr} {ps : List Str} {F : List D → PRes} {a : Expr} {fa : ValF} (G : Met2 X.prog X.w X.K X.mg X.base k C "__len__" ps (spP X.K false 1 F)) (hr : Room m X.A) (hkm : k + 1 ≤ m) (hg : Gl X "len") (hm : X.mg "len" = none) (ha : PV X B W fl a fa) (he : starEach [a] X.env = (false, eval a X.env) :: starEach [] X.env := by rfl) :
    PV X B W fl (.Call (.Name "len" p) [a] [] pos) (lenW C F fa) := by
  obtain ⟨f, fd, g1, g2, g3, g4⟩ := G.ex
  refine ⟨PE.weaken (pe_callB (call_lenW g3 (hr.mono hkm) g2 g4) hg hm bt_len (pa_cons ha.pe pa_nil he) (he := he)) fun σ H Q ⟨ρ, T, E, q⟩ => ?_⟩
  obtain ⟨hn, hx, hk⟩ := evT_no q
  refine ⟨ρ, T, E, ?_⟩
  have e0 : lenW C F fa ρ = (fa ρ).bind fun x ρ1 => match x with
    | .ins C' _ => if C' = C then (match F [x] with
      | .rt (.int n) => if 0 ≤ n ∧ n < 2 ^ 63 then .ok (.int n) ρ1 else .no
      | _ => .no) else .no
    | _ => .no := rfl
  rw [e0] at hn hx hk
  cases e1 : fa ρ with
  | no => rw [e1] at hn; exact hn rfl
  | ex x ρ1 => rw [e1] at hx; exact hx x ρ1 rfl
  | ok x ρ1 =>
    rw [e1] at hn hk
    intro v H1 ⟨ow, E1⟩
    dsimp only [ERes.bind] at hn hk
    cases x with
    | ins C' fs =>
      dsimp only at hn hk
      by_cases c : C' = C
      · rw [if_pos c] at hn hk
        subst c
        have rx : Rep X.K (pubH ow H1) (.ins C' fs) v := E1.top
        obtain ⟨a', dx, gs, rfl, h1, _, _⟩ := (BRep.val (H := H1) rx).insE hide_sub
        refine ⟨a', dx, gs, rfl, h1, rfl, fun a => ow a ≠ .pub, [.ins C' fs], fun a h => E1.mu h, .cons rx .nil, ?_⟩
        cases e3 : F [.ins C' fs] with
        | rt d =>
          rw [e3] at hn hk
          cases d with
          | int n =>
            dsimp only at hn hk
            by_cases c2 : 0 ≤ n ∧ n < 2 ^ 63
            · rw [if_pos c2] at hk
              intro u H3 s rv
              unfold RetV at rv
              rw [if_neg Bool.false_ne_true] at rv
              cases rv
              exact ⟨n, rfl, c2, hk _ _ rfl _ _ ⟨ow, (E1.drop.mono s).push (.int n)⟩⟩
            · rw [if_neg c2] at hn; exact absurd rfl hn
          | _ => exact absurd rfl hn
        | ex x => rw [e3] at hn; exact absurd rfl hn
        | no => rw [e3] at hn; exact absurd rfl hn
      · rw [if_neg c] at hn; exact absurd rfl hn
    | _ => exact absurd rfl hn
/-! ### properties -/
/-- a property by its name -/
structure Prp (P : Program) (w : World) (K : PySem.W.Frag) (mg : Str → Option Value) (base : Heap) (k : Nat) (C : Addr) (m : Str) (ps : List Str) (sp : Sp) : Prop where
  ex : ∃ (q f : Addr) (fd : FuncData), Cls K C ∧ PropOf K C m q f ∧ FnOk P w K mg base (L2N.CX P w) k f fd ps sp ∧ Binds K fd ps []
def prpF (C : Addr) (F : List D → PRes) (fa : ValF) : ValF := fun ρ => (fa ρ).bind fun x ρ1 => match x with
  | .ins C' _ => if C' = C then (match F [x] with
    | .rt d => .ok d ρ1
    | _ => .no) else .no
  | _ => .no
theorem passNX {X : Cx} : Passes (L2N.CX X.prog X.w) X.nox (fun _ _ _ => False) := fun _ _ _ _ _ _ _ h => by
  obtain ⟨_, _, _, _, _, _, _, _, _, _, _, _, z⟩ := h
  exact z.elim
theorem pv_prop {k n : Nat} {C : Addr} {m : Str} {ps : List Str} {F : List D → PRes} {a : Expr} {fa : ValF} (G : Prp X.prog X.w X.K X.mg X.base k C m ps (spP X.K false 1 F)) (hr : Room n X.A) (hkm : k + 1 ≤ n) (ha : PV X B W fl a fa)
    (hab : attributeBase a m X.env (eval a X.env) = eval a X.env := by rfl) : PV X B W fl (.Attribute a m pos) (prpF C F fa) := by
  obtain ⟨qa, f, fd, g1, g2, g3, g4⟩ := G.ex
  refine ⟨PE.weaken (pe_prop (dvs := []) (ds := []) (E := fun _ _ _ => False) ha.pe g1 g2 g3 (hr.mono hkm) g4 .nil passNX hab) fun σ H Q ⟨ρ, T, E, q⟩ => ?_⟩
  obtain ⟨hn, hx, hk⟩ := evT_no q
  refine ⟨ρ, T, E, ?_⟩
  have e0 : prpF C F fa ρ = (fa ρ).bind fun x ρ1 => match x with
    | .ins C' _ => if C' = C then (match F [x] with
      | .rt d => .ok d ρ1
      | _ => .no) else .no
    | _ => .no := rfl
  rw [e0] at hn hx hk
  cases e1 : fa ρ with
  | no => rw [e1] at hn; exact hn rfl
  | ex x ρ1 => rw [e1] at hx; exact hx x ρ1 rfl
  | ok x ρ1 =>
    rw [e1] at hn hk
    intro v H1 ⟨ow, E1⟩
    dsimp only [ERes.bind] at hn hk
    cases x with
    | ins C' fs =>
      dsimp only at hn hk
      by_cases c : C' = C
      · rw [if_pos c] at hn hk
        subst c
        have rx : Rep X.K (pubH ow H1) (.ins C' fs) v := E1.top
        obtain ⟨a', dx, gs, rfl, h1, _, _⟩ := (BRep.val (H := H1) rx).insE hide_sub
        refine ⟨a', dx, gs, rfl, h1, rfl, fun a => ow a ≠ .pub, [.ins C' fs], fun a h => E1.mu h, .cons rx .nil, ?_⟩
        cases e3 : F [.ins C' fs] with
        | rt d =>
          rw [e3] at hk
          intro u H3 s rv
          unfold RetV at rv
          rw [if_neg Bool.false_ne_true] at rv
          exact hk _ _ rfl _ _ ⟨ow, (E1.drop.mono s).push rv⟩
        | ex x => rw [e3] at hn; exact absurd rfl hn
        | no => rw [e3] at hn; exact absurd rfl hn
      · rw [if_neg c] at hn; exact absurd rfl hn
    | _ => exact absurd rfl hn
end
end Pv

/-! PeQ: facts: getters of properties, what isinstance asks of a class. -/
noncomputable section
namespace Pv
open PySem PySem.Spec L2
open PyProof.Rows hiding St
/-- a getter: its class, the property's name, the def -/
structure GetD where
  cls : Str
  prp : Str
  d : He.DefD
def prA (K : PySem.W.Frag) (C : Addr) (m : Str) : Addr := match PySem.W.findIn K (.ref C) m with
  | some (some (.ref p)) => p
  | _ => 0
def gtA (K : PySem.W.Frag) (C : Addr) (m : Str) : Addr := match PySem.W.recIn K (prA K C m) "property" with
  | some (.ref g :: _) => g
  | _ => 0
def fnA (K : PySem.W.Frag) (a : Addr) : He.FnW := match K.lookup a with
  | some ⟨_, _, .func fd, _⟩ => some (fd.name, fd.qualname, fd.params, fd.body, fd.scope, fd.globals, fd.closure, fd.builtins)
  | _ => none
def GetD.gt (K : PySem.W.Frag) (q : GetD) : Addr := gtA K (He.ga K q.cls) q.prp
def GetD.ok (K : PySem.W.Frag) (q : GetD) : Bool :=
  let C := He.ga K q.cls
  let p := prA K C q.prp
  He.eqO (PySem.W.findIn K (.ref C) q.prp) (some (some (.ref p))) && (He.eqO (PySem.W.specialIn K (.ref p) "__get__") (some (some (.builtin "property.__get__"))) && (decide (PySem.W.takesIn K (.ref p) = some true) &&
  ((match PySem.W.recIn K p "property" with
    | some (.ref _ :: _) => true
    | _ => false) && (PySem.W.keepIn K (.ref (q.gt K)) && (match K.lookup (q.gt K) with
    | some ⟨_, _, .func fd, _⟩ => PySem.W.codeIn K fd.code q.d.qual && (He.dflB K fd.defaults [] && He.kwdB K fd.kwdefaults [])
    | _ => false)))))
theorem GetD.prop {K : PySem.W.Frag} {q : GetD} (c : q.ok K = true) : PropOf K (He.ga K q.cls) q.prp (prA K (He.ga K q.cls) q.prp) (q.gt K) := by
  obtain ⟨h1, h⟩ := He.ba c
  obtain ⟨h2, h⟩ := He.ba h
  obtain ⟨h3, h⟩ := He.ba h
  obtain ⟨h4, h5⟩ := He.ba h
  refine ⟨He.eqO_ok h1, He.eqO_ok h2, of_decide_eq_true h3, ?_⟩
  unfold GetD.gt gtA
  cases e : PySem.W.recIn K (prA K (He.ga K q.cls) q.prp) "property" with
  | none => rw [e] at h4; cases h4
  | some l =>
    rw [e] at h4
    cases l with
    | nil => cases h4
    | cons v r =>
      cases v with
      | ref g => exact ⟨r, rfl⟩
      | _ => cases h4
theorem GetD.funD {K : PySem.W.Frag} {q : GetD} (e : fnA K (q.gt K) = q.d.val) (c : q.ok K = true) : ∃ fd, FunD K q.d.name q.d.qual q.d.params q.d.body q.d.scope [] [] (q.gt K) fd := by
  obtain ⟨_, h⟩ := He.ba c
  obtain ⟨_, h⟩ := He.ba h
  obtain ⟨_, h⟩ := He.ba h
  obtain ⟨_, h⟩ := He.ba h
  obtain ⟨kp, c2⟩ := He.ba h
  unfold fnA at e
  generalize hg : q.gt K = g at e kp c2
  cases lk : K.lookup g with
  | none => rw [lk] at c2; cases c2
  | some o =>
    obtain ⟨oc, od, dt, osl⟩ := o
    rw [lk] at c2 e
    cases dt with
    | func fd =>
      obtain ⟨n1, n2, n3, n4, n5, n6, n7, n8, n9, n10, n11, n12, n13, n14, n15⟩ := fd
      have e2 : (some (n1, n2, n3, n4, n5, n6, n7, n15) : He.FnW) = some (q.d.name, q.d.qual, q.d.params, .stmts q.d.body, q.d.scope, mainGlobals, [], builtinsNs) := e
      simp only [Option.some.injEq, Prod.mk.injEq] at e2
      obtain ⟨g1, g2, g3, g4, g5, g6, g7, g8⟩ := e2
      have c3 : (PySem.W.codeIn K n13 q.d.qual && (He.dflB K n8 [] && He.kwdB K n9 [])) = true := c2
      obtain ⟨k1, k2⟩ := He.ba c3
      obtain ⟨k3, k4⟩ := He.ba k2
      rw [← g1, ← g2, ← g3, ← g5]
      rw [← g2] at k1
      refine ⟨⟨n1, n2, n3, .stmts q.d.body, n5, mainGlobals, [], n8, n9, n10, n11, n12, n13, n14, builtinsNs⟩, ⟨oc, od, n8, n9, n10, n11, n12, n13, n14, osl, rfl, ?_, k1, He.dflB_ok k3, He.kwdB_ok k4⟩, kp⟩
      rw [lk, g4, g6, g7, g8]
    | _ => cases c2
/-! ### a Hook with these -/
def obsY (fa : List He.Fa) (fn : List He.DefD) (gs : List GetD) (xs : List XFact) (K : PySem.W.Frag) : He.AlD := ((((fa.all fun f => f.ok K) && fn.all fun d => d.ok K) && (gs.all (fun q => q.ok K) && xs.all fun f => f K)), (fn.map fun d => He.fnW K d.at_) ++ gs.map fun q => fnA K (q.gt K))
def valY (fn : List He.DefD) (gs : List GetD) : He.AlD := (true, fn.map He.DefD.val ++ gs.map fun q => q.d.val)
def SaysY (fa : List He.Fa) (fn : List He.DefD) (gs : List GetD) (xs : List XFact) (K : PySem.W.Frag) : Prop := obsY fa fn gs xs K = valY fn gs
theorem SaysY.two {fa : List He.Fa} {fn : List He.DefD} {gs : List GetD} {xs : List XFact} {K : PySem.W.Frag} (c : SaysY fa fn gs xs K) : (fn.map fun d => He.fnW K d.at_) = fn.map He.DefD.val ∧ (gs.map fun q => fnA K (q.gt K)) = gs.map fun q => q.d.val := by
  have h2 : (fn.map fun d => He.fnW K d.at_) ++ (gs.map fun q => fnA K (q.gt K)) = fn.map He.DefD.val ++ gs.map fun q => q.d.val := congrArg (fun z : He.AlD => z.2) c
  exact List.append_inj h2 (by rw [List.length_map, List.length_map])
theorem SaysY.one {fa : List He.Fa} {fn : List He.DefD} {gs : List GetD} {xs : List XFact} {K : PySem.W.Frag} (c : SaysY fa fn gs xs K) : (((fa.all fun f => f.ok K) && fn.all fun d => d.ok K) && (gs.all (fun q => q.ok K) && xs.all fun f => f K)) = true := congrArg (fun z : He.AlD => z.1) c
theorem SaysY.x {fa : List He.Fa} {fn : List He.DefD} {gs : List GetD} {xs : List XFact} {K : PySem.W.Frag} (c : SaysY fa fn gs xs K) : SaysX fa fn xs K := by
  have h1 := c.one
  rw [Bool.and_eq_true, Bool.and_eq_true (gs.all _)] at h1
  unfold SaysX obsX He.valD
  rw [h1.1, h1.2.2, c.two.1]; rfl
theorem SaysY.g {fa : List He.Fa} {fn : List He.DefD} {gs : List GetD} {xs : List XFact} {K : PySem.W.Frag} (c : SaysY fa fn gs xs K) (q : GetD) (h : q ∈ gs) : q.ok K = true ∧ fnA K (q.gt K) = q.d.val := by
  have h1 := c.one
  rw [Bool.and_eq_true, Bool.and_eq_true (gs.all _)] at h1
  exact ⟨List.all_eq_true.mp h1.2.1 q h, List.map_inj_left.mp c.two.2 q h⟩
def obsYG (n : Nat) (fa : List He.Fa) (fn : List He.DefD) (gs : List GetD) (xs : List XFact) (g : Addr → Option Obj) : He.AlD := obsY fa fn gs xs (He.frG g (He.asD g n))
def hookY (n : Nat) (fa : List He.Fa) (fn : List He.DefD) (gs : List GetD) (xs : List XFact) : PySem.W.Hook where
  α := He.AlD
  obs := fun s => obsYG n fa fn gs xs s.heap.get?
  val := fun _ => valY fn gs
  says := fun _ h => ∃ K : PySem.W.Frag, K.In h ∧ SaysY fa fn gs xs K
  of := fun _ _ e => ⟨_, He.frG_in, e⟩
  keeps := fun _ _ _ ⟨K, hK, c⟩ k => ⟨K, PySem.W.Frag.In.keeps hK k, c⟩
theorem obsYG_eq {n : Nat} {fa : List He.Fa} {fn : List He.DefD} {gs : List GetD} {xs : List XFact} {g : Addr → Option Obj} {s : Shared} (h : ∀ a, g a = s.heap.get? a) : obsYG n fa fn gs xs g = (hookY n fa fn gs xs).obs s := by
  have e : g = s.heap.get? := funext h
  rw [e] <;> rfl
structure FxY (K : PySem.W.Frag) (mg : Str → Option Value) (fa : List He.Fa) (fn : List He.DefD) (gs : List GetD) (xs : List XFact) : Prop extends FxX K mg fa fn xs where
  gt : ∀ q ∈ gs, q.ok K = true ∧ fnA K (q.gt K) = q.d.val
theorem FxY.get {K : PySem.W.Frag} {mg : Str → Option Value} {fa : List He.Fa} {fn : List He.DefD} {gs : List GetD} {xs : List XFact} (Y : FxY K mg fa fn gs xs) (i : Nat) {q : GetD} (h : gs[i]? = some q) : PropOf K (He.ga K q.cls) q.prp (prA K (He.ga K q.cls) q.prp) (q.gt K) ∧ ∃ fd, FunD K q.d.name q.d.qual q.d.params q.d.body q.d.scope [] [] (q.gt K) fd := by
  obtain ⟨a, b⟩ := Y.gt q (List.mem_of_getElem? h)
  exact ⟨GetD.prop a, GetD.funD b a⟩
/-- what isinstance asks of x -/
def isClsB (x : Str) : XFact := fun K =>
  let C := He.ga K x
  He.eqO (PySem.W.findIn K (.ref C) "__class__") (some (some (.builtin "object.__class__"))) && (He.eqO (PySem.W.specialIn K (.builtin "object.__class__") "__get__") (some (some (.builtin "getset_descriptor.__get__"))) &&
  (decide (PySem.W.takesIn K (.builtin "object.__class__") = some true) && (decide (PySem.W.mroIn K C (.type "object") = some true) && (decide (PySem.W.kitOne K (.ref C) (.ref C) = some true) &&
  ((bTys.all fun t => decide (PySem.W.kitOne K (.type t) (.ref C) = some false)) && bTys.all fun t => PySem.W.notFirst K C (.type t))))))
theorem isClsB_ok {K : PySem.W.Frag} {x : Str} (cl : Cls K (He.ga K x)) (h : isClsB x K = true) : IsCls K (He.ga K x) := by
  obtain ⟨h1, h⟩ := He.ba h
  obtain ⟨h2, h⟩ := He.ba h
  obtain ⟨h3, h⟩ := He.ba h
  obtain ⟨h4, h⟩ := He.ba h
  obtain ⟨h5, h⟩ := He.ba h
  obtain ⟨h6, h7⟩ := He.ba h
  exact ⟨cl, He.eqO_ok h1, He.eqO_ok h2, of_decide_eq_true h3, of_decide_eq_true h4, of_decide_eq_true h5, fun t ht => of_decide_eq_true (List.all_eq_true.mp h6 t ht), fun t ht => List.all_eq_true.mp h7 t ht⟩
end Pv

/-! PeR: tuples: t[::-1], t * k. -/
noncomputable section
namespace Pv
open PySem PySem.Spec L2
open PyProof.Rows hiding St
section
variable {prog : Program} {w : World} {A : Around} {E : Value → Shared → Prop} {s : Shared}
theorem adjust_rev (n : Nat) : Builtin.Slice.sliceAdjust none none (-1) (n : Int) = ((n : Int) - 1, -1) := by
  unfold Builtin.Slice.sliceAdjust
  simp
theorem places_rev (n : Nat) : Builtin.Slice.slicePlaces ((n : Int) - 1) (-1) (-1) = n := by
  unfold Builtin.Slice.slicePlaces
  have h1 : ¬ ((-1 : Int) > 0) := by omega
  simp only [h1, if_false]
  split <;> simp <;> omega
theorem applied_rev {sl : Addr} {vs : Value} {n : Nat} {Q : Int × Int × Nat → Shared → Prop} (hs : s.heap.IsSliceOf sl .none .none vs) (ps : IsPart vs (some (-1))) (q : Q ((n : Int) - 1, -1, n) s) :
    wpAny (model prog w) A (Builtin.Slice.sliceApplied (.ref sl) (pure (n : Int))) Q E s := by
  obtain ⟨os, ho, _, hd⟩ := id hs
  unfold Builtin.Slice.sliceApplied Builtin.Slice.sliceFields
  refine wpAny_bind (wpAny_bind (wpAny_field ho hd (x := .none) rfl (wpAny_bind (wpAny_field ho hd (x := .none) rfl (wpAny_bind (wpAny_field ho hd (x := vs) rfl (wpAny_pure ?_)))))))
  refine wpAny_bind (HT.slicePart_ ps ?_)
  show wpAny _ _ (if ((-1 : Int) == 0) = true then _ else _) _ _ s
  rw [if_neg (by decide)]
  refine wpAny_bind (HT.slicePart_ .none (wpAny_bind (HT.slicePart_ .none (wpAny_bind (wpAny_pure ?_)))))
  show wpAny _ _ (match Builtin.Slice.sliceAdjust none none (-1) (n : Int) with | (a, b) => pure (a, (-1 : Int), Builtin.Slice.slicePlaces a b (-1))) _ _ s
  rw [adjust_rev]
  show wpAny _ _ (pure ((n : Int) - 1, (-1 : Int), Builtin.Slice.slicePlaces ((n : Int) - 1) (-1) (-1))) _ _ s
  rw [places_rev]
  exact wpAny_pure q
theorem fm_congr2 {α β : Type} {f g : α → Option β} : ∀ {l : List α}, (∀ x ∈ l, f x = g x) → l.filterMap f = l.filterMap g
  | [], _ => rfl
  | x :: l, h => by
    rw [List.filterMap_cons, List.filterMap_cons, h x List.mem_cons_self, fm_congr2 fun y hy => h y (List.mem_cons_of_mem _ hy)]
theorem pick_rev (xs : Array Value) : ((List.range xs.size).filterMap fun (m : Nat) => xs[(((xs.size : Int) - 1) + (m : Int) * (-1)).toNat]?) = xs.toList.reverse := by
  have e1 : ((List.range xs.size).filterMap fun (m : Nat) => xs[(((xs.size : Int) - 1) + (m : Int) * (-1)).toNat]?) = ((List.range xs.size).map fun k => xs.size - 1 - k).filterMap (xs[·]?) := by
    rw [List.filterMap_map]
    refine fm_congr2 fun m hm => ?_
    rw [List.mem_range] at hm
    show _ = xs[xs.size - 1 - m]?
    congr 1
    omega
  rw [e1, PySem.W.krv_range, List.filterMap_reverse, PySem.W.krv_all]
theorem getItem_rev {t sl : Addr} {items : Array Value} {vs : Value} {Q : Value → Shared → Prop} (ht : IsTup s.heap t items) (hs : s.heap.IsSliceOf sl .none .none vs) (ps : IsPart vs (some (-1)))
    (q : Q (.ref s.heap.objs.size) { s with heap := s.heap.push { cls := .type "tuple", data := .seq items.toList.reverse.toArray } }) (hz : items.size ≤ sizeLine) : wpAny (model prog w) A (getItem (.ref t) (.ref sl)) Q E s := by
  have fits : sizeOk (.seq items.toList.reverse.toArray) := by
    show items.toList.reverse.toArray.size ≤ sizeLine
    rw [List.size_toArray, List.length_reverse, Array.length_toList]
    exact hz
  obtain ⟨os, ho, hc, hd⟩ := id hs
  have ty : s.TypeIs (.ref sl) "slice" := ⟨os, ho, hc⟩
  unfold getItem
  try with_reducible refine wpAny_holding ?_
  first | refine wpAny_bind (wpAny_pure ?_) | skip
  refine wpAny_bind (wpAny_sequenceKey ht.typeIs (by decide) ?_)
  refine wpAny_bind (wpAny_callSpecial?_slot (name := Str.ofString "__getitem__") ht.typeIs PyProof.Rows.slot_tuple_getitem
    (wpAny_call_entry PyProof.Rows.slot_tuple_getitem ht.typeIs entry_tuple_getitem ?_ (args_tuple_getitem _ _)))
  show wpAny _ _ (Builtin.Tuple.tupleItemsOf (.ref t) >>= _) _ _ s
  refine wpAny_bind (tupleItemsOf_ ht ?_)
  refine wpAny_bind (wpAny_typeOf ty ?_)
  rw [if_pos (by decide)]
  refine wpAny_bind (applied_rev hs ps ?_)
  have no1 : ¬ ((((items.size : Int) - 1) == 0 && (-1 : Int) == 1 && items.size == items.size) = true) := by
    rw [show ((-1 : Int) == 1) = false from by decide, Bool.and_false, Bool.false_and]
    exact Bool.false_ne_true
  show wpAny _ _ (if (((items.size : Int) - 1) == 0 && (-1 : Int) == 1 && items.size == items.size) = true then _ else _) _ _ s
  rw [if_neg no1, pick_rev]
  first
    | exact wpAny_bind (m := Builtin.Tuple.tupleExact _) (wpAny_newObj_type (wpAny_pure ⟨_, rfl, wpAny_pure q⟩) fits)
    | exact wpAny_bind (m := Builtin.Tuple.tupleExact _) (wpAny_newObj_type (wpAny_bind (wpAny_pure (wpAny_pure ⟨_, rfl, wpAny_pure q⟩))) fits)
    | exact wpAny_bind (wpAny_bind (m := Builtin.Tuple.tupleExact _) (wpAny_newObj_type (wpAny_pure (wpAny_pure ⟨_, rfl, wpAny_pure q⟩)) fits))
    | exact wpAny_bind (wpAny_bind (m := Builtin.Tuple.tupleExact _) (wpAny_newObj_type (wpAny_pure ⟨_, rfl, wpAny_pure q⟩) fits))
/-- () * k -/
theorem mul_nil (l : Addr) (n : Nat) (dd : Option Addr) (sl : Array (Option Value)) (x : Int) (u : Tok) (c0 : (decide (x < -(2 ^ 63)) || decide (x ≥ 2 ^ 63)) = false) :
    Meets (Builtin.«tuple.__mul__» ⟨[.ref l, .int x u], []⟩) (fun _ R s => s.heap.get? l = some { cls := .type "tuple", dict := dd, data := .seq #[] n, slots := sl } ∧ R (.ok (.ret (Value.ref l))) s) := .of_wp fun prog w A R s h => by
  obtain ⟨hp, g, d, tk, os⟩ := s
  obtain ⟨hl, h⟩ := h
  have f1 := AutoSeq1.idx_int
  wp_walk using AutoSeq1.wpAny_loadPart' hl
  repeat (first
    | (refine wpAny_ite_false (decide_eq_false (by rw [c0]; exact Bool.false_ne_true)) ?_; wp_walk using AutoSeq1.wpAny_loadPart' hl))
  exact ⟨_, rfl, h⟩
end
section
variable {X : Cx} {B : Bd} {W : WX} {fl : List Bool}
def tRevT (K : PySem.W.Frag) (te : TE) : TE := fun σ H Q => te σ H fun x H1 => ∃ a xs, x = .ref a ∧ SqT K H1 a xs ∧ ∀ p, H1 p = none → Q (.ref p) (upd H1 p (.tup xs.reverse))
theorem pe_revT {e : Expr} {te : TE} {k : Nat} {p1 p2 p3 pos : Pos} (he : PE X e te) : PE X (.Subscript e (.Slice none none (some (.UnaryOp .USub (.Constant (.int 1) k p1) p2)) p3) pos) (tRevT X.K te) := by
  constructor
  intro pins s σ H Q I h
  refine Subscript_ (thn (he.run pins s σ H _ I h) fun v s1 ⟨x, H1, I1, r1, a, xs, ex, hx, q⟩ => ?_)
  subst ex
  cases r1
  have stp : PO X (some (.UnaryOp .USub (.Constant (.int 1) k p1) p2)) (tPart (tUn (rU fun i => .int (-i)) (tC (.int 1)))) := po_some (pe_un un_neg pe_int)
  refine wpAny_Slice (thn (po_none.run pins s1 σ H1 (fun o G => o = none ∧ G = H1) I1 ⟨rfl, rfl⟩) fun vl s2 ⟨l, H2, I2, pl, el, e2⟩ => ?_)
  subst el e2
  refine thn (po_none.run pins s2 σ H2 (fun o G => o = none ∧ G = H2) I2 ⟨rfl, rfl⟩) fun vu s3 ⟨u, H3, I3, pu, eu, e3⟩ => ?_
  subst eu e3
  refine thn (stp.run pins s3 σ H3 (fun o G => o = some (-1) ∧ G = H3) I3 ⟨1, rfl, -1, rfl, rfl, rfl⟩) fun vs s4 ⟨o, H4, I4, ps, eo, e4⟩ => ?_
  subst eo e4
  cases pl
  cases pu
  have I5 : Inv X pins σ H4 { s4 with heap := s4.heap.push { cls := .type "slice", data := .fields #[.none, .none, vs] } } := I4.kept (t' := s4.toks) fun b ob z => Heap.get?_push_of_some _ z
  obtain ⟨its, r, ht, hz⟩ := I5.tuple hx
  have hlen := r.length
  show wpAny (model X.prog X.w) X.A (subscriptTail e (.Slice none none (some (.UnaryOp .USub (.Constant (.int 1) k p1) p2)) p3) (.ref a) (.ref s4.heap.objs.size)) (EP X pins σ Q) X.xe { s4 with heap := s4.heap.push { cls := .type "slice", data := .fields #[.none, .none, vs] } }
  refine tail_any (ops := [.ref a, .ref s4.heap.objs.size]) ht.typeIs (PyProof.Rows.slot_tuple_getitem.lookup) ?_ (by with_unfolding_all rfl)
  refine getItem_rev ht (Heap.IsSliceOf.new _ _ _ vs) ps ?_ (by rw [List.size_toArray, ← hlen]; exact hz)
  refine ⟨.ref _, _, I5.laid (t' := s4.toks) (o := .tup xs.reverse) (fun b ob z => Heap.get?_push_of_some _ z) (Nat.le_refl _) ?_, rfl, q _ (I5.hok.fresh (Nat.le_refl _))⟩
  exact ⟨by rw [List.length_reverse]; exact hz, _, r.reverse, IsTup.new _ _⟩
def revT : D → Option D
  | .tup xs => some (.tup xs.reverse)
  | _ => none
theorem o_revT {K : PySem.W.Frag} : Op1 K (fun x H Q => ∃ a xs, x = .ref a ∧ SqT K H a xs ∧ ∀ p, H p = none → Q (.ref p) (upd H p (.tup xs.reverse))) revT := by
  intro N H x v z Q hN bx e q
  cases x with
  | tup ds =>
    cases e
    obtain ⟨a, vs, rfl, h1, h2⟩ := bx.tupE hide_sub
    refine ⟨a, vs, rfl, SqT.of h1, fun p hp => ?_⟩
    have s : Same H (upd H p (.tup vs.reverse)) := same_new hp
    refine q _ _ s (.tup (hide_some.mpr ⟨fun n => hN p n hp, upd_same⟩) (h2.reverse.mono (hide_same s fun a n _ => n)))
  | _ => cases e
theorem pv_revT {e : Expr} {o : Opd} {k : Nat} {p1 p2 p3 pos : Pos} (he : POp X B W fl e o) : PV X B W fl (.Subscript e (.Slice none none (some (.UnaryOp .USub (.Constant (.int 1) k p1) p2)) p3) pos) (un1 o revT) :=
  ⟨PE.weaken (pe_revT he.pe) fun σ H Q h => o_revT.w h⟩
def rRep0 (K : PySem.W.Frag) : R2 := fun x y H Q => ∃ l k, x = .ref l ∧ y = .int k ∧ SqT K H l [] ∧ 2 ≤ k ∧ k ≤ 1000 ∧ Q (.ref l) H
theorem op_rep0 : OpR X (binaryOp .Mult) (rRep0 X.K) := by
  intro pins s σ H x y v u Q I rx ry h
  obtain ⟨l, k, rfl, rfl, hT, h1, h2, q⟩ := h
  cases rx
  obtain ⟨t, rfl⟩ := ry
  obtain ⟨its, r, ⟨⟨cls, dd, data, sl⟩, ho, hc, n, hd⟩, hs⟩ := I.tuple hT
  simp only at hc hd
  subst hc hd
  cases r
  have c0 : (decide (k < -(2 ^ 63)) || decide (k ≥ 2 ^ 63)) = false := by
    rw [decide_eq_false (by omega), decide_eq_false (by omega)] <;> rfl
  exact wpAny_binaryOp_repeat_ref (T := "tuple") (U := "int") (by decide) ⟨_, ho, rfl⟩ (fun s' => typeIs_int s' k t) noFill_tuple_mul F.fills_int_mul F.slot_int_rmul repeat_tuple F.slot_int_index.lookup
    (call_meets F.slot_int_rmul (typeIs_int s k t) F.entry_int_rmul (F.args_int_rmul_2 _ _) (int_rmul_tuple k t l _ n dd sl)
      ⟨ho, rfl, ⟨_, ho, rfl⟩, call_meets F.slot_tuple_mul ⟨_, ho, rfl⟩ F.entry_tuple_mul (F.args_tuple_mul_2 _ _) (mul_nil l n dd sl k t c0) ⟨ho, ⟨.ref l, H, I, rfl, q⟩⟩⟩)
def mulT : D → D → Option D
  | .tup xs, .int k => if 2 ≤ k ∧ k ≤ 1000 ∧ xs.length ≤ 1000 then some (.tup (List.replicate k.toNat xs).flatten) else none
  | _, _ => none
theorem o_mulT {K : PySem.W.Frag} : Op2 K (fun x y H Q => rRepT K x y H Q ∨ rRep0 K x y H Q) mulT := by
  intro N H x y v w z Q hN bx hy e q
  unfold mulT at e
  split at e
  · rename_i xs k
    split at e
    · rename_i c
      cases e
      obtain ⟨a, vs, rfl, h1, h2⟩ := bx.tupE hide_sub
      cases hy.intE
      have hl := h2.length
      cases xs with
      | nil =>
        cases h2
        refine .inr ⟨a, k, rfl, rfl, SqT.of h1, c.1, c.2.1, ?_⟩
        rw [show (List.replicate k.toNat ([] : List D)).flatten = [] by simp] at q
        cases bx with
        | val r => exact q _ H (Same.refl H) r
      | cons d ds =>
        refine .inl ⟨a, k, vs, rfl, rfl, SqT.of h1, (fun z => by rw [z] at hl; simp at hl), c.1, c.2.1, by rw [← hl]; exact c.2.2, fun p hp => ?_⟩
        have s : Same H (upd H p (.tup (List.replicate k.toNat vs).flatten)) := same_new hp
        exact q _ _ s (.tup (hide_some.mpr ⟨fun n => hN p n hp, upd_same⟩) ((h2.rep _).mono (hide_same s fun a n _ => n)))
    · cases e
  · cases e
theorem pv_mulT {a b : Expr} {o o' : Opd} {pos : Pos} (ha : POp X B W fl a o) (hb : POp X B W fl b o') : PV X B W fl (.BinOp a .Mult b pos) (bin2 o o' mulT) := pv_op2 (pe_op (op_repT.or op_rep0) ha.pe hb.pe) o_mulT
end
end Pv

/-! Pu0: what pure semantics come to. -/
namespace Pv
open PySem PySem.Spec L2
open PyProof.Rows hiding St
@[simp] theorem cdec_T : cdec True = true := cdec_true trivial
theorem nr {α : Sort _} {a b : α} (h : a = b) : a = b := h
theorem sSeq_def (f g : StF) (ρ : Env) : sSeq f g ρ = (f ρ).bind g := rfl
theorem sSeq_nx {f g : StF} {ρ ρ' : Env} (h : f ρ = .nx ρ') : sSeq f g ρ = g ρ' := by rw [sSeq_def, h]; rfl
theorem sSeq_rt {f g : StF} {ρ ρ' : Env} {d : D} (h : f ρ = .rt d ρ') : sSeq f g ρ = .rt d ρ' := by rw [sSeq_def, h]; rfl
@[simp] theorem bind_nx (ρ : Env) (k : Env → Out) : (Out.nx ρ).bind k = k ρ := nr rfl
@[simp] theorem bind_rt (d : D) (ρ : Env) (k : Env → Out) : (Out.rt d ρ).bind k = .rt d ρ := nr rfl
@[simp] theorem bind_ok (d : D) (ρ : Env) (k : D → Env → ERes) : (ERes.ok d ρ).bind k = k d ρ := nr rfl
@[simp] theorem out_ok (d : D) (ρ : Env) (k : D → Env → Out) : (ERes.ok d ρ).out k = k d ρ := nr rfl
@[simp] theorem ofO_some (d : D) (ρ : Env) : ofO (some d) ρ = .ok d ρ := nr rfl
theorem look_s {ρ : Env} {i : Nat} {d : D} {k : D → ERes} (h : ρ[i]? = some (some d)) : look ρ i k = k d := by unfold look; rw [h]
@[simp] theorem addD_int (i j : Int) : addD (.int i) (.int j) = some (.int (i + j)) := nr rfl
@[simp] theorem subD_int (i j : Int) : subD (.int i) (.int j) = some (.int (i - j)) := nr rfl
theorem mulD_int {i j : Int} (h : mulOk i j = true) : mulD (.int i) (.int j) = some (.int (i * j)) := by
  show (match mulI (.int i) (.int j) with | some z => some z | none => _) = _
  unfold mulI
  dsimp only
  rw [if_pos h]
theorem mulOk_l {i j : Int} (h : -(2 ^ 64) < i ∧ i < 2 ^ 64) : mulOk i j = true := by
  unfold mulOk; exact cdec_true (.inl h)
theorem mulOk_r {i j : Int} (h : -(2 ^ 64) < j ∧ j < 2 ^ 64) : mulOk i j = true := by
  unfold mulOk; exact cdec_true (.inr (.inl h))
theorem fdivD_int {i j : Int} (h : 0 < j ∧ j.natAbs.log2 < 9000) : fdivD (.int i) (.int j) = some (.int (i / j)) := by
  unfold fdivD; dsimp only; rw [if_pos (cdec_true h)]
theorem modD_int {i j : Int} (h : 0 < j) : modD (.int i) (.int j) = some (.int (i % j)) := by
  unfold modD; dsimp only; rw [if_pos (cdec_true h)]
theorem small_log {j : Int} (h : 0 < j ∧ j < 2 ^ 64) : 0 < j ∧ j.natAbs.log2 < 9000 := ⟨h.1, by
  have : j.natAbs < 2 ^ 9000 := Nat.lt_of_lt_of_le (m := 2 ^ 64) (by omega) (Nat.pow_le_pow_right (by decide) (by decide))
  exact (Nat.log2_lt (by omega)).mpr this⟩
theorem addL_lst {x y : List D} (h : x.length + y.length ≤ lim) : addD (.lst x) (.lst y) = some (.lst (x ++ y)) := by
  show (match (none : Option D) with | some z => some z | none => match (none : Option D) with | some z => some z | none => match addL (.lst x) (.lst y) with | some z => some z | none => _) = _
  unfold addL; dsimp only; rw [if_pos h]
theorem addS_str {x y : List Nat} (h : x.length + y.length ≤ lim) : addD (.str x) (.str y) = some (.str (x ++ y)) := by
  show (match (none : Option D) with | some z => some z | none => match addS (.str x) (.str y) with | some z => some z | none => _) = _
  unfold addS; dsimp only; rw [if_pos h]
@[simp] theorem lenD_lst (x : List D) : lenD (.lst x) = some (.int x.length) := nr rfl
@[simp] theorem lenD_tup (x : List D) : lenD (.tup x) = some (.int x.length) := nr rfl
theorem lenD_str {x : List Nat} (h : x.length ≤ lim) : lenD (.str x) = some (.int x.length) := by unfold lenD; dsimp only; rw [if_pos h]
@[simp] theorem idxD_lst (x : List D) (i : Int) : idxD (.lst x) (.int i) = atI x i := nr rfl
@[simp] theorem idxD_tup (x : List D) (i : Int) : idxD (.tup x) (.int i) = atI x i := nr rfl
/-- a for loop, by what stands before each turn -/
theorem forL_ind {h : TgtF} {body : StF} (P : Nat → Env → Prop) : ∀ (ds : List D) (k : Nat) (ρ : Env), (∀ i d ρ, ds[i]? = some d → P (k + i) ρ → ∃ ρ1 ρ2, h d ρ = some ρ1 ∧ body ρ1 = .nx ρ2 ∧ P (k + i + 1) ρ2) → P k ρ →
    ∃ ρ', forL h body ds ρ = .nx ρ' ∧ P (k + ds.length) ρ'
  | [], k, ρ, _, p => ⟨ρ, rfl, p⟩
  | d :: ds, k, ρ, hs, p => by
    obtain ⟨ρ1, ρ2, e1, e2, p2⟩ := hs 0 d ρ rfl p
    obtain ⟨ρ', e3, p3⟩ := forL_ind P ds (k + 1) ρ2 (fun i d' ρ' e q => by
      have := hs (i + 1) d' ρ' (by simpa using e) (by rw [show k + (i + 1) = k + 1 + i by omega]; exact q)
      rw [show k + (i + 1) + 1 = k + 1 + i + 1 by omega] at this
      exact this) p2
    refine ⟨ρ', ?_, by rw [show k + (d :: ds).length = k + 1 + ds.length by rw [List.length_cons]; omega]; exact p3⟩
    show (match h d ρ with | some ρ1 => _ | none => _) = _
    rw [e1]; dsimp only; rw [e2]; exact e3
theorem forL_inv {h : TgtF} {body : StF} {ds : List D} {ρ : Env} (P : Nat → Env → Prop) (h0 : P 0 ρ) (hs : ∀ i d ρ, ds[i]? = some d → P i ρ → ∃ ρ1 ρ2, h d ρ = some ρ1 ∧ body ρ1 = .nx ρ2 ∧ P (i + 1) ρ2) : ∃ ρ', forL h body ds ρ = .nx ρ' ∧ P ds.length ρ' := by
  have := forL_ind P ds 0 ρ (fun i d ρ e p => by rw [Nat.zero_add] at p ⊢; exact hs i d ρ e p) h0
  rw [Nat.zero_add] at this
  exact this
/-- .. by its state -/
theorem forL_fun {h : TgtF} {body : StF} {ds : List D} (I : Nat → Env) (hs : ∀ i d, ds[i]? = some d → ∃ ρ1, h d (I i) = some ρ1 ∧ body ρ1 = .nx (I (i + 1))) : forL h body ds (I 0) = .nx (I ds.length) := by
  obtain ⟨ρ', e, rfl⟩ := forL_inv (h := h) (body := body) (ds := ds) (ρ := I 0) (fun i ρ => ρ = I i) rfl fun i d ρ e p => by
    subst p
    obtain ⟨ρ1, e1, e2⟩ := hs i d e
    exact ⟨ρ1, _, e1, e2, rfl⟩
  exact e
theorem intsR_get {lo : Int} {n i : Nat} {d : D} (h : (intsR lo n)[i]? = some d) : i < n ∧ d = .int (lo + i) := by
  unfold intsR at h
  rw [List.getElem?_map] at h
  cases e : (List.range n)[i]? with
  | none => rw [e] at h; cases h
  | some j =>
    rw [e] at h
    obtain ⟨h1, h2⟩ := List.getElem?_eq_some_iff.mp e
    rw [List.length_range] at h1
    rw [List.getElem_range] at h2
    subst h2
    cases h
    exact ⟨h1, rfl⟩
theorem intsR_len (lo : Int) (n : Nat) : (intsR lo n).length = n := by unfold intsR; rw [List.length_map, List.length_range]
theorem itR1_ok {f : ArgF} {ρ ρ' : Env} {j : Int} (h : f ρ = .ok [.int j] ρ') (hj : -(2 ^ 62) ≤ j ∧ j < 2 ^ 62) : itR1 f ρ = .ok (intsR 0 j.toNat) [] ρ' := by
  unfold itR1; rw [h]; dsimp only; rw [if_pos (cdec_true hj)]
theorem itR2_ok {f : ArgF} {ρ ρ' : Env} {i j : Int} (h : f ρ = .ok [.int i, .int j] ρ') (hj : -(2 ^ 62) ≤ i ∧ i < 2 ^ 62 ∧ -(2 ^ 62) ≤ j ∧ j < 2 ^ 62) : itR2 f ρ = .ok (intsR i (j - i).toNat) [] ρ' := by
  unfold itR2; rw [h]; dsimp only; rw [if_pos (cdec_true hj)]
theorem forS_ok {f : IterF} {h : TgtF} {body : StF} {ρ ρ1 : Env} {ds src : List D} (e : f ρ = .ok ds src ρ1) : forS f h body ρ = forL h body ds ρ1 := by
  unfold forS; rw [e]
/-! ### list comprehensions -/
def lc1 (tgt : TgtF) (own : List Nat) (ft : Option ValF) (fe : ValF) (d : D) (ρ : Env) : Option (Option D × Env) := match tgt d ρ with
  | some ρ1 => match ft with
    | none => match fe ρ1 with
      | .ok y ρ3 => some (some y, fgtE own ρ3)
      | _ => none
    | some f => match f ρ1 with
      | .ok (.bl true) ρ2 => match fe ρ2 with
        | .ok y ρ3 => some (some y, fgtE own ρ3)
        | _ => none
      | .ok (.bl false) ρ2 => some (none, fgtE own ρ2)
      | _ => none
  | none => none
theorem lcL_cons {tgt : TgtF} {own : List Nat} {ft : Option ValF} {fe : ValF} {d : D} {ds acc : List D} {ρ ρ' : Env} {r : Option D} (h : lc1 tgt own ft fe d ρ = some (r, ρ')) (hl : acc.length < lim) : lcL tgt own ft fe (d :: ds) acc ρ = lcL tgt own ft fe ds (acc ++ r.toList) ρ' := by
  unfold lc1 at h
  conv => lhs; unfold lcL
  split at h
  · rename_i ρ1 e1
    try rw [e1]
    try dsimp only
    cases ft with
    | none =>
      dsimp only at h ⊢
      cases e2 : fe ρ1 with
      | ok y ρ3 => rw [e2] at h; cases h; dsimp only; rw [if_pos hl]; rfl
      | ex x ρ3 => rw [e2] at h; cases h
      | no => rw [e2] at h; cases h
    | some f =>
      dsimp only at h ⊢
      cases e2 : f ρ1 with
      | ok b ρ2 =>
        rw [e2] at h
        cases b with
        | bl b => cases b with
          | true =>
            dsimp only at h ⊢
            cases e3 : fe ρ2 with
            | ok y ρ3 => rw [e3] at h; cases h; dsimp only; rw [if_pos hl]; rfl
            | ex x ρ3 => rw [e3] at h; cases h
            | no => rw [e3] at h; cases h
          | false => cases h; simp
        | _ => cases h
      | ex x ρ3 => rw [e2] at h; cases h
      | no => rw [e2] at h; cases h
  · cases h
theorem lcL_pure {tgt : TgtF} {own : List Nat} {ft : Option ValF} {fe : ValF} {ρ0 : Env} (g : D → Option D) : ∀ (ds acc : List D), (∀ d ∈ ds, lc1 tgt own ft fe d ρ0 = some (g d, ρ0)) → acc.length + ds.length ≤ lim → lcL tgt own ft fe ds acc ρ0 = .ok (acc ++ ds.filterMap g) ρ0
  | [], acc, _, _ => by rw [List.filterMap_nil, List.append_nil]; rfl
  | d :: ds, acc, h, hl => by
    rw [List.length_cons] at hl
    rw [lcL_cons (h d List.mem_cons_self) (by omega), lcL_pure g ds _ (fun x hx => h x (List.mem_cons_of_mem _ hx)) (by
      rw [List.length_append]
      have : (g d).toList.length ≤ 1 := by cases g d <;> simp
      omega), List.append_assoc]
    congr 2
    cases e : g d with
    | none => rw [List.filterMap_cons_none e]; rfl
    | some y => rw [List.filterMap_cons_some e]; rfl
theorem fgtE_idem (own : List Nat) (ρ : Env) : fgtE own (fgtE own ρ) = fgtE own ρ := by
  apply List.ext_getElem?
  intro i
  by_cases hi : i ∈ own
  · have a : ∀ ρ : Env, (fgtE own ρ)[i]? = if i < ρ.length then some none else none := fun ρ => by
      split
      · rename_i l
        have l2 : i < (fgtE own ρ).length := by rw [fgtE_len]; exact l
        rw [List.getElem?_eq_getElem l2]
        cases e : (fgtE own ρ)[i] with
        | none => rfl
        | some d =>
          have := (fgtE_get (vs := own) (ρ := ρ) (i := i) (d := d) (by rw [List.getElem?_eq_getElem l2, e])).1
          exact absurd hi this
      · rename_i l
        exact List.getElem?_eq_none (by rw [fgtE_len]; omega)
    rw [a, a, fgtE_len]
  · have a : ∀ (own : List Nat) (ρ : Env), i ∉ own → (fgtE own ρ)[i]? = ρ[i]? := fun own => by
      induction own with
      | nil => intro ρ _; rfl
      | cons k own ih =>
        intro ρ h
        show (fgtE own (ρ.set k none))[i]? = _
        rw [ih _ (fun z => h (List.mem_cons_of_mem _ z)), List.getElem?_set_ne (fun z => h (by rw [z]; exact List.mem_cons_self))]
    rw [a own _ hi]
theorem lcF_pure {f : IterF} {tgt : TgtF} {own : List Nat} {ft : Option ValF} {fe : ValF} {ρ ρ1 : Env} {ds src : List D} (g : D → Option D) (e : f ρ = .ok ds src ρ1) (h : ∀ d ∈ ds, lc1 tgt own ft fe d (fgtE own ρ1) = some (g d, fgtE own ρ1)) (hl : ds.length ≤ lim) :
    lcF f tgt own ft fe ρ = .ok (.lst (ds.filterMap g)) (fgtE own ρ1) := by
  unfold lcF
  rw [e]
  dsimp only
  rw [lcL_pure g ds [] h (by simpa using hl)]
  dsimp only
  rw [fgtE_idem, List.nil_append]
theorem pubF_lst {f : ValF} {ρ ρ' : Env} {xs : List D} (h : f ρ = .ok (.lst xs) ρ') : pubF f ρ = .ok (.lst xs) ρ' := by unfold pubF; rw [h]; rfl
/-! ### the source of draws -/
def Src (la : Addr) (r : D) : Prop := ∃ s cs i, r = .rnd la s cs i ∧ cs.length ≤ 63
theorem nextF_ok {la : Addr} {r : D} {cap : Int} (h : Src la r) (hc : 0 < cap ∧ cap.natAbs.log2 < 9000) : ∃ v r', nextF r [.int cap] = .rt (.int v) r' ∧ 0 ≤ v ∧ v < cap ∧ Src la r' := by
  obtain ⟨s, cs, i, rfl, hl⟩ := h
  have hc' : 0 < cap ∧ cap.natAbs.log2 < 9000 ∧ cs.length ≤ lim := ⟨hc.1, hc.2, Nat.le_trans hl (by decide)⟩
  by_cases hb : 10 ^ 18 ≤ nxCell cs i
  · exact ⟨_, _, nextF_big hc' hb, Int.emod_nonneg _ (Int.ne_of_gt hc.1), Int.emod_lt_of_pos _ hc.1, _, _, _, rfl, by rw [List.length_set]; exact hl⟩
  · exact ⟨_, _, nextF_small hc' hb, Int.emod_nonneg _ (Int.ne_of_gt hc.1), Int.emod_lt_of_pos _ hc.1, _, _, _, rfl, hl⟩
theorem callR_ok {F : D → List D → RRes} {k : Nat} {fa : ArgF} {ρ ρ' : Env} {la : Addr} {r r' : D} {ds : List D} {d d0 : D} (h0 : ρ[k]? = some (some d0)) (ha : fa ρ = .ok ds ρ') (hk : ρ'[k]? = some (some r)) (hr : Src la r) (hF : F r ds = .rt d r') (hr' : Src la r') : callR F k fa ρ = .ok d (ρ'.set k (some r')) := by
  obtain ⟨s, cs, i, rfl, hl⟩ := hr
  obtain ⟨s', cs', i', rfl, hl'⟩ := hr'
  unfold callR
  rw [h0]; dsimp only
  rw [ha]; dsimp only
  rw [hk]; dsimp only
  rw [hF]; dsimp only
  rw [if_pos rfl]
/-- next(h, cap) where h stands in slot k -/
theorem next_ok {k : Nat} {fa : ArgF} {ρ ρ' : Env} {la : Addr} {r d0 : D} {cap : Int} (h0 : ρ[k]? = some (some d0)) (ha : fa ρ = .ok [.int cap] ρ') (hk : ρ'[k]? = some (some r)) (hr : Src la r) (hc : 0 < cap ∧ cap.natAbs.log2 < 9000) :
    ∃ v r', callR nextF k fa ρ = .ok (.int v) (ρ'.set k (some r')) ∧ 0 ≤ v ∧ v < cap ∧ Src la r' := by
  obtain ⟨v, r', e, h1, h2, h3⟩ := nextF_ok hr hc
  exact ⟨v, r', callR_ok h0 ha hk hr e h3, h1, h2, h3⟩
/-! ### unfolding -/
@[simp] theorem bind_no (k : D → Env → ERes) : (ERes.no).bind k = .no := nr rfl
@[simp] theorem var_def (i : Nat) (ρ : Env) : var i ρ = look ρ i fun d => .ok d ρ := nr rfl
@[simp] theorem cst_def (d : D) (ρ : Env) : cst d ρ = .ok d ρ := nr rfl
@[simp] theorem bin2_vv (f f' : ValF) (g : D → D → Option D) (ρ : Env) : bin2 (.v f) (.v f') g ρ = (f ρ).bind fun x ρ1 => (f' ρ1).bind fun y ρ2 => ofO (g x y) ρ2 := nr rfl
@[simp] theorem bin2_vs (f : ValF) (j : Nat) (g : D → D → Option D) (ρ : Env) : bin2 (.v f) (.s j) g ρ = (f ρ).bind fun x ρ1 => look ρ1 j fun y => ofO (g x y) ρ1 := nr rfl
@[simp] theorem bin2_sv (f : ValF) (i : Nat) (g : D → D → Option D) (ρ : Env) : bin2 (.s i) (.v f) g ρ = look ρ i fun _ => (f ρ).bind fun y ρ1 => look ρ1 i fun x => ofO (g x y) ρ1 := nr rfl
@[simp] theorem bin2_ss (i j : Nat) (g : D → D → Option D) (ρ : Env) : bin2 (.s i) (.s j) g ρ = look ρ i fun x => look ρ j fun y => ofO (g x y) ρ := nr rfl
@[simp] theorem un1_v (f : ValF) (g : D → Option D) (ρ : Env) : un1 (.v f) g ρ = (f ρ).bind fun x ρ1 => ofO (g x) ρ1 := nr rfl
@[simp] theorem un1_s (i : Nat) (g : D → Option D) (ρ : Env) : un1 (.s i) g ρ = look ρ i fun x => ofO (g x) ρ := nr rfl
@[simp] theorem look_0 (d : D) (ρ : Env) (k : D → ERes) : look (some d :: ρ) 0 k = k d := nr rfl
@[simp] theorem look_n (x : Option D) (ρ : Env) (i : Nat) (k : D → ERes) : look (x :: ρ) (i + 1) k = look ρ i k := nr rfl
@[simp] theorem put_def (i : Nat) (f : ValF) (ρ : Env) : put i f ρ = (f ρ).out fun d ρ' => if i < ρ'.length then .nx (ρ'.set i (some d)) else .no := nr rfl
@[simp] theorem drp_def (f : ValF) (ρ : Env) : drp f ρ = (f ρ).out fun _ ρ' => .nx ρ' := nr rfl
@[simp] theorem retE_def (f : ValF) (ρ : Env) : retE f ρ = (f ρ).out fun d ρ' => .rt d ρ' := nr rfl
@[simp] theorem sSkip_def (ρ : Env) : sSkip ρ = .nx ρ := nr rfl
@[simp] theorem sSeq_def' (f g : StF) (ρ : Env) : sSeq f g ρ = (f ρ).bind g := nr rfl
@[simp] theorem ifS_def (c : ValF) (f g : StF) (ρ : Env) : ifS c f g ρ = (c ρ).out fun d ρ' => match d with
  | .bl true => f ρ'
  | .bl false => g ρ'
  | _ => .no := nr rfl
@[simp] theorem notF_def (f : ValF) (ρ : Env) : notF f ρ = (f ρ).bind fun d ρ' => match d with
  | .bl b => .ok (.bl (!b)) ρ'
  | _ => .no := nr rfl
@[simp] theorem andF_def (f g : ValF) (ρ : Env) : andF f g ρ = (f ρ).bind fun d ρ' => match d with
  | .bl true => g ρ'
  | .bl false => .ok (.bl false) ρ'
  | _ => .no := nr rfl
@[simp] theorem orF_def (f g : ValF) (ρ : Env) : orF f g ρ = (f ρ).bind fun d ρ' => match d with
  | .bl true => .ok (.bl true) ρ'
  | .bl false => g ρ'
  | _ => .no := nr rfl
@[simp] theorem ifF_def (c f g : ValF) (ρ : Env) : ifF c f g ρ = (c ρ).bind fun d ρ' => match d with
  | .bl true => f ρ'
  | .bl false => g ρ'
  | _ => .no := nr rfl
@[simp] theorem aNil_def (ρ : Env) : aNil ρ = .ok [] ρ := nr rfl
theorem aCons_ok {f : ValF} {g : ArgF} {ρ ρ1 ρ2 : Env} {d : D} {ds : List D} (h : f ρ = .ok d ρ1) (h2 : g ρ1 = .ok ds ρ2) : aCons f g ρ = .ok (d :: ds) ρ2 := by unfold aCons; rw [h]; dsimp only; rw [h2]
theorem callP_ok {F : List D → PRes} {fa : ArgF} {ρ ρ' : Env} {ds : List D} {d : D} (h : fa ρ = .ok ds ρ') (hF : F ds = .rt d) : callP F fa ρ = .ok d ρ' := by unfold callP; rw [h]; dsimp only; rw [hF]
theorem lstF_ok {fa : ArgF} {ρ ρ' : Env} {ds : List D} (h : fa ρ = .ok ds ρ') (hl : ds.length ≤ lim) : lstF fa ρ = .ok (.lst ds) ρ' := by unfold lstF; rw [h]; dsimp only; rw [if_pos hl]
theorem tupF_ok {fa : ArgF} {ρ ρ' : Env} {ds : List D} (h : fa ρ = .ok ds ρ') (hl : ds.length ≤ lim) : tupF fa ρ = .ok (.tup ds) ρ' := by unfold tupF; rw [h]; dsimp only; rw [if_pos hl]
theorem mkP_rt {N : Nat} {f : StF} {ds : List D} {d : D} {ρ : Env} (h : f (envP N ds) = .rt d ρ) : mkP N f ds = .rt d := by unfold mkP; rw [h]
theorem mkP_nx {N : Nat} {f : StF} {ds : List D} {ρ : Env} (h : f (envP N ds) = .nx ρ) : mkP N f ds = .rt .non := by unfold mkP; rw [h]
theorem mkP_rt' {N : Nat} {f : StF} {ds : List D} {d : D} (h : ∃ ρ, f (envP N ds) = .rt d ρ) : mkP N f ds = .rt d := let ⟨_, e⟩ := h; mkP_rt e
def iL (xs : List Int) : List D := xs.map D.int
@[simp] theorem iL_len (xs : List Int) : (iL xs).length = xs.length := List.length_map ..
/-! ### step by step -/
structure Vl (r : ERes) (Q : D → Env → Prop) : Prop where
  q : ∃ d ρ, r = .ok d ρ ∧ Q d ρ
structure Sl (r : Out) (N : Env → Prop) (R : D → Env → Prop) : Prop where
  q : (∃ ρ, r = .nx ρ ∧ N ρ) ∨ ∃ d ρ, r = .rt d ρ ∧ R d ρ
@[simp] theorem wv_ok (d : D) (ρ : Env) (Q : D → Env → Prop) : Vl (.ok d ρ) Q ↔ Q d ρ := by
  constructor
  · intro ⟨_, _, e, q⟩
    cases e
    exact q
  · exact fun q => ⟨_, _, rfl, q⟩
@[simp] theorem ws_nx (ρ : Env) (N : Env → Prop) (R : D → Env → Prop) : Sl (.nx ρ) N R ↔ N ρ := by
  constructor
  · intro ⟨h⟩
    rcases h with ⟨_, e, q⟩ | ⟨_, _, e, _⟩
    · cases e; exact q
    · cases e
  · exact fun q => ⟨.inl ⟨_, rfl, q⟩⟩
@[simp] theorem ws_rt (d : D) (ρ : Env) (N : Env → Prop) (R : D → Env → Prop) : Sl (.rt d ρ) N R ↔ R d ρ := by
  constructor
  · intro ⟨h⟩
    rcases h with ⟨_, e, _⟩ | ⟨_, _, e, q⟩
    · cases e
    · cases e; exact q
  · exact fun q => ⟨.inr ⟨_, _, rfl, q⟩⟩
theorem wv_of {r : ERes} {d : D} {ρ : Env} {Q : D → Env → Prop} (h : r = .ok d ρ) (q : Q d ρ) : Vl r Q := ⟨d, ρ, h, q⟩
theorem wv_ex {r : ERes} {Q : D → Env → Prop} (h : Vl r Q) : ∃ d ρ, r = .ok d ρ ∧ Q d ρ := h.q
theorem wv_mono {r : ERes} {Q Q' : D → Env → Prop} (h : Vl r Q) (m : ∀ d ρ, Q d ρ → Q' d ρ) : Vl r Q' := by
  obtain ⟨d, ρ, e, q⟩ := h.q
  exact ⟨d, ρ, e, m _ _ q⟩
theorem wv_bind {r : ERes} {k : D → Env → ERes} {Q : D → Env → Prop} (h : Vl r fun d ρ => Vl (k d ρ) Q) : Vl (r.bind k) Q := by
  obtain ⟨d, ρ, e, q⟩ := h.q
  rw [e]; exact q
theorem ws_out {r : ERes} {k : D → Env → Out} {N : Env → Prop} {R : D → Env → Prop} (h : Vl r fun d ρ => Sl (k d ρ) N R) : Sl (r.out k) N R := by
  obtain ⟨d, ρ, e, q⟩ := h.q
  rw [e]; exact q
theorem ws_ex {r : Out} {N : Env → Prop} {R : D → Env → Prop} (h : Sl r N R) : (∃ ρ, r = .nx ρ ∧ N ρ) ∨ ∃ d ρ, r = .rt d ρ ∧ R d ρ := h.q
theorem ws_mono {r : Out} {N N' : Env → Prop} {R R' : D → Env → Prop} (h : Sl r N R) (m : ∀ ρ, N ρ → N' ρ) (m2 : ∀ d ρ, R d ρ → R' d ρ) : Sl r N' R' := by
  rcases ws_ex h with ⟨ρ, e, q⟩ | ⟨d, ρ, e, q⟩
  · rw [e]; exact (ws_nx ..).mpr (m _ q)
  · rw [e]; exact (ws_rt ..).mpr (m2 _ _ q)
theorem ws_seq {f g : StF} {ρ : Env} {N : Env → Prop} {R : D → Env → Prop} (h : Sl (f ρ) (fun ρ1 => Sl (g ρ1) N R) R) : Sl (sSeq f g ρ) N R := by
  rw [sSeq_def]
  rcases ws_ex h with ⟨ρ, e, q⟩ | ⟨d, ρ, e, q⟩
  · rw [e]; exact q
  · rw [e]; exact (ws_rt ..).mpr q
theorem ws_put {f : ValF} {i : Nat} {ρ : Env} {N : Env → Prop} {R : D → Env → Prop} (h : Vl (f ρ) fun d ρ1 => i < ρ1.length ∧ N (ρ1.set i (some d))) : Sl (put i f ρ) N R := by
  refine ws_out (wv_mono h fun d ρ q => ?_)
  rw [if_pos q.1]; exact (ws_nx ..).mpr q.2
theorem ws_drp {f : ValF} {ρ : Env} {N : Env → Prop} {R : D → Env → Prop} (h : Vl (f ρ) fun _ ρ1 => N ρ1) : Sl (drp f ρ) N R := ws_out (wv_mono h fun _ _ q => (ws_nx ..).mpr q)
theorem ws_ret {f : ValF} {ρ : Env} {N : Env → Prop} {R : D → Env → Prop} (h : Vl (f ρ) R) : Sl (retE f ρ) N R := ws_out (wv_mono h fun _ _ q => (ws_rt ..).mpr q)
theorem ws_asgG {f : ValF} {t : TgtF} {ρ : Env} {N : Env → Prop} {R : D → Env → Prop} (h : Vl (f ρ) fun d ρ1 => ∃ ρ2, t d ρ1 = some ρ2 ∧ N ρ2) : Sl (asgG f t ρ) N R := by
  refine ws_out (wv_mono h fun d ρ ⟨ρ2, e, q⟩ => ?_)
  rw [e]; exact (ws_nx ..).mpr q
theorem ws_if {c : ValF} {f g : StF} {ρ : Env} {N : Env → Prop} {R : D → Env → Prop} (h : Vl (c ρ) fun d ρ1 => ∃ b, d = .bl b ∧ (b = true → Sl (f ρ1) N R) ∧ (b = false → Sl (g ρ1) N R)) : Sl (ifS c f g ρ) N R := by
  refine ws_out (wv_mono h fun d ρ ⟨b, e, q1, q2⟩ => ?_)
  subst e
  cases b with
  | true => exact q1 rfl
  | false => exact q2 rfl
theorem ws_for {it : IterF} {t : TgtF} {body : StF} {ρ ρ1 : Env} {ds src : List D} {N : Env → Prop} {R : D → Env → Prop} (e : it ρ = .ok ds src ρ1) (P : Nat → Env → Prop) (h0 : P 0 ρ1)
    (hs : ∀ i d ρ, ds[i]? = some d → P i ρ → ∃ ρ1, t d ρ = some ρ1 ∧ Sl (body ρ1) (P (i + 1)) fun _ _ => False) (hd : ∀ ρ, P ds.length ρ → N ρ) : Sl (forS it t body ρ) N R := by
  rw [forS_ok e]
  obtain ⟨ρ', e1, p⟩ := forL_inv (h := t) (body := body) (ds := ds) (ρ := ρ1) P h0 fun i d ρ e p => by
    obtain ⟨ρ2, e2, q⟩ := hs i d ρ e p
    rcases ws_ex q with ⟨ρ3, e3, q⟩ | ⟨_, _, _, q⟩
    · exact ⟨ρ2, ρ3, e2, e3, q⟩
    · exact q.elim
  rw [e1]
  exact (ws_nx ..).mpr (hd ρ' p)
theorem mkP_of {N : Nat} {f : StF} {ds : List D} {d : D} (h : Sl (f (envP N ds)) (fun _ => d = .non) (fun d' _ => d' = d)) : mkP N f ds = .rt d := by
  rcases ws_ex h with ⟨ρ, e, q⟩ | ⟨d', ρ, e, q⟩
  · rw [mkP_nx e, q]
  · rw [mkP_rt e, q]
theorem wv_next {k : Nat} {fa : ArgF} {ρ ρ' : Env} {la : Addr} {r d0 : D} {cap : Int} {Q : D → Env → Prop} (h0 : ρ[k]? = some (some d0)) (ha : fa ρ = .ok [.int cap] ρ') (hk : ρ'[k]? = some (some r)) (hr : Src la r) (hc : 0 < cap ∧ cap.natAbs.log2 < 9000)
    (q : ∀ v r', 0 ≤ v → v < cap → Src la r' → Q (.int v) (ρ'.set k (some r'))) : Vl (callR nextF k fa ρ) Q := by
  obtain ⟨v, r', e, h1, h2, h3⟩ := next_ok (k := k) (fa := fa) h0 ha hk hr hc
  exact wv_of e (q v r' h1 h2 h3)
theorem law_true_of {N k : Nat} {f : StF} (h : ∀ la r, Src la r → Sl (f ((List.replicate N none).set k (some r))) (fun _ => False) (fun d _ => d = .bl true)) : LawTrue N k f := fun la s cs hl => by
  rcases ws_ex (h la (.rnd la s cs 0) ⟨s, cs, 0, rfl, hl⟩) with ⟨_, _, q⟩ | ⟨d, ρ, e, q⟩
  · exact q.elim
  · subst q; exact ⟨ρ, e⟩
theorem ws_putE {f : ValF} {i : Nat} {ρ ρ1 : Env} {d : D} {N : Env → Prop} {R : D → Env → Prop} (q : N (ρ1.set i (some d))) (h : f ρ = .ok d ρ1 := by rfl) (hi : i < ρ1.length := by exact Nat.lt_of_succ_le (Nat.le_of_ble_eq_true rfl)) : Sl (put i f ρ) N R := ws_put (wv_of h ⟨hi, q⟩)
theorem ws_retE {f : ValF} {ρ ρ1 : Env} {d : D} {N : Env → Prop} {R : D → Env → Prop} (q : R d ρ1) (h : f ρ = .ok d ρ1 := by rfl) : Sl (retE f ρ) N R := ws_ret (wv_of h q)
theorem intsR0_get {n i : Nat} {d : D} (h : (intsR 0 n)[i]? = some d) : i < n ∧ d = .int (i : Int) := by
  obtain ⟨h1, h2⟩ := intsR_get h
  exact ⟨h1, by rw [h2, Int.zero_add]⟩
theorem itR1_nat {f : ArgF} {ρ ρ' : Env} {n : Nat} (h : f ρ = .ok [.int (n : Int)] ρ') (hn : n < 2 ^ 62) : itR1 f ρ = .ok (intsR 0 n) [] ρ' := by
  rw [itR1_ok h ⟨by omega, by omega⟩, Int.toNat_natCast]
def nL (xs : List Nat) : List D := xs.map fun (x : Nat) => D.int (x : Int)
@[simp] theorem nL_len (xs : List Nat) : (nL xs).length = xs.length := List.length_map ..
theorem lcF_map {f : IterF} {tgt : TgtF} {own : List Nat} {ft : Option ValF} {fe : ValF} {ρ ρ1 : Env} {ds src : List D} (g : D → D) (e : f ρ = .ok ds src ρ1) (h : ∀ d ∈ ds, lc1 tgt own ft fe d (fgtE own ρ1) = some (some (g d), fgtE own ρ1)) (hl : ds.length ≤ lim) :
    lcF f tgt own ft fe ρ = .ok (.lst (ds.map g)) (fgtE own ρ1) := by
  rw [lcF_pure (fun d => some (g d)) e h hl, List.filterMap_eq_map']
theorem itZip_ok {f : ArgF} {ρ ρ' : Env} {ds es : List D} (h : f ρ = .ok [.lst ds, .lst es] ρ') : itZip f ρ = .ok (pairsZ ds es) [.lst ds, .lst es] ρ' := by unfold itZip; rw [h]
theorem itEnum_ok {f : ArgF} {ρ ρ' : Env} {ds : List D} (h : f ρ = .ok [.lst ds] ρ') : itEnum f ρ = .ok (pairsE ds) [.lst ds] ρ' := by unfold itEnum; rw [h]
theorem pairsZ_nL : ∀ (xs ys : List Nat) (g : Nat → Nat → Nat) (G : D → D), (∀ a b : Nat, G (.tup [.int (a : Int), .int (b : Int)]) = .int ((g a b : Nat) : Int)) → (pairsZ (nL xs) (nL ys)).map G = nL (List.zipWith g xs ys)
  | [], _, _, _, _ => by unfold pairsZ nL; simp
  | _ :: _, [], _, _, _ => by unfold pairsZ nL; simp
  | x :: xs, y :: ys, g, G, h => by
    have := pairsZ_nL xs ys g G h
    unfold pairsZ nL at this ⊢
    simp only [List.map_cons, List.zip_cons_cons, List.zipWith_cons_cons, h]
    rw [this]
theorem pairsZ_mem {xs ys : List Nat} {d : D} (h : d ∈ pairsZ (nL xs) (nL ys)) : ∃ a b : Nat, d = .tup [.int (a : Int), .int (b : Int)] := by
  unfold pairsZ nL at h
  obtain ⟨q, hq, rfl⟩ := List.mem_map.mp h
  obtain ⟨h1, h2⟩ := List.of_mem_zip hq
  obtain ⟨a, _, e1⟩ := List.mem_map.mp h1
  obtain ⟨b, _, e2⟩ := List.mem_map.mp h2
  refine ⟨a, b, ?_⟩
  rw [← e1, ← e2]
theorem pairsE_get {xs : List Nat} {i : Nat} {d : D} (h : (pairsE (nL xs))[i]? = some d) : ∃ x, xs[i]? = some x ∧ d = .tup [.int (i : Int), .int (x : Int)] := by
  unfold pairsE at h
  rw [List.getElem?_map, nL_len] at h
  cases e : (List.range xs.length)[i]? with
  | none => rw [e] at h; cases h
  | some j =>
    rw [e] at h
    obtain ⟨h1, h2⟩ := List.getElem?_eq_some_iff.mp e
    rw [List.length_range] at h1
    rw [List.getElem_range] at h2
    subst h2
    cases h
    refine ⟨xs[i], List.getElem?_eq_getElem h1, ?_⟩
    show D.tup [.int (i : Int), (nL xs).getD i .non] = _
    rw [List.getD_eq_getElem?_getD]
    unfold nL
    rw [List.getElem?_map, List.getElem?_eq_getElem h1]
    rfl
theorem pairsE_len (ds : List D) : (pairsE ds).length = ds.length := by unfold pairsE; simp
theorem auL_ok {k j : Nat} {fi fe : ValF} {g : D → D → Option D} {ρ : Env} {xs : List D} {x d z : D} {n : Int} (h0 : ρ[k]? = some (some (.lst xs))) (hi : fi ρ = .ok (.int n) ρ) (hj : ixN xs.length n = some j) (hx : xs[j]? = some x) (he : fe ρ = .ok d ρ) (hz : g x d = some z) :
    auL k fi fe g ρ = .nx (ρ.set k (some (.lst (xs.set j z)))) := by
  unfold auL
  rw [h0]; dsimp only
  rw [hi, out_ok, h0]
  simp only [hj, hx, he, out_ok, h0, hz, if_true]
def rngL (n : Nat) (f : Nat → Nat) : List Nat := (List.range n).map f
@[simp] theorem rngL_len (n : Nat) (f : Nat → Nat) : (rngL n f).length = n := by unfold rngL; simp
theorem rngL_get {n : Nat} {f : Nat → Nat} {j : Nat} (h : j < n) : (rngL n f)[j]? = some (f j) := by
  unfold rngL
  rw [List.getElem?_map, List.getElem?_range h]
  rfl
theorem nL_get {xs : List Nat} {j : Nat} {x : Nat} (h : xs[j]? = some x) : (nL xs)[j]? = some (.int (x : Int)) := by
  unfold nL; rw [List.getElem?_map, h]; rfl
theorem nL_set (xs : List Nat) (j v : Nat) : (nL xs).set j (.int (v : Int)) = nL (xs.set j v) := by
  unfold nL; rw [List.map_set]
theorem rngL_set {n : Nat} {f g : Nat → Nat} {j v : Nat} (h : ∀ t, t < n → g t = if t = j then v else f t) : (rngL n f).set j v = rngL n g := by
  apply List.ext_getElem?
  intro t
  by_cases ht : t < n
  · rw [rngL_get ht, h t ht]
    by_cases e : t = j
    · subst e
      rw [List.getElem?_set_self (by rw [rngL_len]; exact ht), if_pos rfl]
    · rw [List.getElem?_set_ne (fun z => e z.symm), rngL_get ht, if_neg e]
  · rw [List.getElem?_eq_none (by rw [List.length_set, rngL_len]; omega), List.getElem?_eq_none (by rw [rngL_len]; omega)]
theorem rngL_congr {n : Nat} {f g : Nat → Nat} (h : ∀ t, t < n → f t = g t) : rngL n f = rngL n g := by
  unfold rngL
  exact List.map_congr_left fun t ht => h t (List.mem_range.mp ht)
theorem forS_q {it : IterF} {t : TgtF} {body : StF} {ρ ρ1 : Env} {ds src : List D} {N : Env → Prop} {R : D → Env → Prop} (e : it ρ = .ok ds src ρ1) (h : Sl (forL t body ds ρ1) N R) : Sl (forS it t body ρ) N R := by rw [forS_ok e]; exact h
theorem ws_frz {i : Nat} {f : StF} {ρ : Env} {d : D} {N : Env → Prop} {R : D → Env → Prop} (q : Sl (f ρ) N R) (h : ρ[i]? = some (some d) := by rfl) (hd : noRnd d = true := by rfl) : Sl (frz i f ρ) N R := by
  unfold frz
  rw [h]; dsimp only
  rw [if_neg (by cases d <;> first | exact Bool.false_ne_true | cases hd)]
  have : frzE i ρ = ρ := by
    unfold frzE
    rw [h]
    cases d <;> first | rfl | cases hd
  rw [this]; exact q
theorem ws_frzD {i : Nat} {f : StF} {ρ : Env} {kvs : List (Key × List D)} {N : Env → Prop} {R : D → Env → Prop} (q : Sl (f (ρ.set i (some (dilD kvs)))) N R) (h : ρ[i]? = some (some (.dil kvs)) := by rfl) : Sl (frz i f ρ) N R := by
  unfold frz
  rw [h]; dsimp only
  rw [if_neg (show ¬ isRnd (.dil kvs) = true from Bool.false_ne_true)]
  have : frzE i ρ = ρ.set i (some (dilD kvs)) := by
    unfold frzE
    rw [h]
  rw [this]; exact q
/-! ### types -/
theorem isi_of {d : D} {t n : String} {b : Bool} (h : tyD d = some t) (k : kitB t n = some b) : isiD d (.ty n) = some (.bl b) := by
  show (tyD d).bind _ = _
  rw [h]
  show (kitB t n).map D.bl = _
  rw [k]; rfl
theorem kit_ii : kitB "int" "int" = some true := by decide +kernel
theorem kit_ib : kitB "int" "bool" = some false := by decide +kernel
theorem kit_is : kitB "int" "str" = some false := by decide +kernel
theorem kit_it : kitB "int" "tuple" = some false := by decide +kernel
theorem kit_il : kitB "int" "list" = some false := by decide +kernel
theorem kit_bi : kitB "bool" "int" = some true := by decide +kernel
theorem kit_bb : kitB "bool" "bool" = some true := by decide +kernel
theorem kit_bs : kitB "bool" "str" = some false := by decide +kernel
theorem kit_bt : kitB "bool" "tuple" = some false := by decide +kernel
theorem kit_bl : kitB "bool" "list" = some false := by decide +kernel
theorem kit_si : kitB "str" "int" = some false := by decide +kernel
theorem kit_sb : kitB "str" "bool" = some false := by decide +kernel
theorem kit_ss : kitB "str" "str" = some true := by decide +kernel
theorem kit_st : kitB "str" "tuple" = some false := by decide +kernel
theorem kit_sl : kitB "str" "list" = some false := by decide +kernel
theorem kit_ti : kitB "tuple" "int" = some false := by decide +kernel
theorem kit_tb : kitB "tuple" "bool" = some false := by decide +kernel
theorem kit_ts : kitB "tuple" "str" = some false := by decide +kernel
theorem kit_tt : kitB "tuple" "tuple" = some true := by decide +kernel
theorem kit_tl : kitB "tuple" "list" = some false := by decide +kernel
theorem kit_li : kitB "list" "int" = some false := by decide +kernel
theorem kit_lb : kitB "list" "bool" = some false := by decide +kernel
theorem kit_ls : kitB "list" "str" = some false := by decide +kernel
theorem kit_lt : kitB "list" "tuple" = some false := by decide +kernel
theorem kit_ll : kitB "list" "list" = some true := by decide +kernel
theorem kit_ni : kitB "NoneType" "int" = some false := by decide +kernel
theorem kit_nb : kitB "NoneType" "bool" = some false := by decide +kernel
theorem kit_ns : kitB "NoneType" "str" = some false := by decide +kernel
theorem kit_nt : kitB "NoneType" "tuple" = some false := by decide +kernel
theorem kit_nl : kitB "NoneType" "list" = some false := by decide +kernel
@[simp] theorem isi_ii (i : Int) : isiD (.int i) (.ty "int") = some (.bl true) := isi_of rfl kit_ii
@[simp] theorem isi_ib (i : Int) : isiD (.int i) (.ty "bool") = some (.bl false) := isi_of rfl kit_ib
@[simp] theorem isi_is (i : Int) : isiD (.int i) (.ty "str") = some (.bl false) := isi_of rfl kit_is
@[simp] theorem isi_bi (i : Bool) : isiD (.bl i) (.ty "int") = some (.bl true) := isi_of rfl kit_bi
@[simp] theorem isi_bb (i : Bool) : isiD (.bl i) (.ty "bool") = some (.bl true) := isi_of rfl kit_bb
@[simp] theorem isi_bs (i : Bool) : isiD (.bl i) (.ty "str") = some (.bl false) := isi_of rfl kit_bs
@[simp] theorem isi_si (x : List Nat) : isiD (.str x) (.ty "int") = some (.bl false) := isi_of rfl kit_si
@[simp] theorem isi_sb (x : List Nat) : isiD (.str x) (.ty "bool") = some (.bl false) := isi_of rfl kit_sb
@[simp] theorem isi_ss (x : List Nat) : isiD (.str x) (.ty "str") = some (.bl true) := isi_of rfl kit_ss
@[simp] theorem isi_ti (x : List D) : isiD (.tup x) (.ty "int") = some (.bl false) := isi_of rfl kit_ti
@[simp] theorem isi_ts (x : List D) : isiD (.tup x) (.ty "str") = some (.bl false) := isi_of rfl kit_ts
@[simp] theorem isi_tt (x : List D) : isiD (.tup x) (.ty "tuple") = some (.bl true) := isi_of rfl kit_tt
@[simp] theorem isi_tl (x : List D) : isiD (.tup x) (.ty "list") = some (.bl false) := isi_of rfl kit_tl
@[simp] theorem isi_li (x : List D) : isiD (.lst x) (.ty "int") = some (.bl false) := isi_of rfl kit_li
@[simp] theorem isi_ls (x : List D) : isiD (.lst x) (.ty "str") = some (.bl false) := isi_of rfl kit_ls
@[simp] theorem isi_lt (x : List D) : isiD (.lst x) (.ty "tuple") = some (.bl false) := isi_of rfl kit_lt
@[simp] theorem isi_ll (x : List D) : isiD (.lst x) (.ty "list") = some (.bl true) := isi_of rfl kit_ll
@[simp] theorem isi_ni : isiD .non (.ty "int") = some (.bl false) := isi_of rfl kit_ni
@[simp] theorem isi_ns : isiD .non (.ty "str") = some (.bl false) := isi_of rfl kit_ns
@[simp] theorem isi_nt : isiD .non (.ty "tuple") = some (.bl false) := isi_of rfl kit_nt
theorem isiT_of {d : D} {t n1 n2 : String} {b1 b2 : Bool} (h : tyD d = some t) (k1 : kitB t n1 = some b1) (k2 : kitB t n2 = some b2) : isiT n1 n2 d = some (.bl (b1 || b2)) := by
  unfold isiT
  rw [h]
  show (kitB t n1).bind _ = _
  rw [k1]
  show (kitB t n2).map _ = _
  rw [k2]; rfl
@[simp] theorem isiT_n : isiT "tuple" "list" .non = some (.bl false) := isiT_of rfl kit_nt kit_nl
@[simp] theorem isiT_i (i : Int) : isiT "tuple" "list" (.int i) = some (.bl false) := isiT_of rfl kit_it kit_il
@[simp] theorem isiT_b (i : Bool) : isiT "tuple" "list" (.bl i) = some (.bl false) := isiT_of rfl kit_bt kit_bl
@[simp] theorem isiT_s (x : List Nat) : isiT "tuple" "list" (.str x) = some (.bl false) := isiT_of rfl kit_st kit_sl
@[simp] theorem isiT_t (x : List D) : isiT "tuple" "list" (.tup x) = some (.bl true) := isiT_of rfl kit_tt kit_tl
@[simp] theorem isiT_l (x : List D) : isiT "tuple" "list" (.lst x) = some (.bl true) := isiT_of rfl kit_lt kit_ll
@[simp] theorem leD_int (i j : Int) : leD (.int i) (.int j) = some (.bl (decide (i ≤ j))) := nr rfl
@[simp] theorem ltD_int (i j : Int) : ltD (.int i) (.int j) = some (.bl (decide (i < j))) := nr rfl
@[simp] theorem geD_int (i j : Int) : geD (.int i) (.int j) = some (.bl (decide (j ≤ i))) := nr rfl
@[simp] theorem gtD_int (i j : Int) : gtD (.int i) (.int j) = some (.bl (decide (j < i))) := nr rfl
@[simp] theorem chF_def (g g' : D → D → Option D) (fa fb fc : ValF) (ρ : Env) : chF g g' fa fb fc ρ = (fa ρ).bind fun x ρ1 => (fb ρ1).bind fun y ρ2 => match g x y with
  | some (.bl true) => (fc ρ2).bind fun z ρ3 => ofO (g' y z) ρ3
  | some (.bl false) => .ok (.bl false) ρ2
  | _ => .no := nr rfl
theorem chLe {fa fb fc : ValF} {ρ : Env} {a b c : Int} (ha : fa ρ = .ok (.int a) ρ) (hb : fb ρ = .ok (.int b) ρ) (hc : fc ρ = .ok (.int c) ρ) : chF leD leD fa fb fc ρ = .ok (.bl (decide (a ≤ b) && decide (b ≤ c))) ρ := by
  rw [chF_def, ha, bind_ok, hb, bind_ok, leD_int]
  cases h : decide (a ≤ b) with
  | true => dsimp only; rw [hc, bind_ok, leD_int, ofO_some, Bool.true_and]
  | false => rfl
theorem chLt {fa fb fc : ValF} {ρ : Env} {a b c : Int} (ha : fa ρ = .ok (.int a) ρ) (hb : fb ρ = .ok (.int b) ρ) (hc : fc ρ = .ok (.int c) ρ) : chF leD ltD fa fb fc ρ = .ok (.bl (decide (a ≤ b) && decide (b < c))) ρ := by
  rw [chF_def, ha, bind_ok, hb, bind_ok, leD_int]
  cases h : decide (a ≤ b) with
  | true => dsimp only; rw [hc, bind_ok, ltD_int, ofO_some, Bool.true_and]
  | false => rfl
theorem ws_if1 {c : ValF} {f g : StF} {ρ ρ1 : Env} {b : Bool} {N : Env → Prop} {R : D → Env → Prop} (h : c ρ = .ok (.bl b) ρ1) (h1 : b = true → Sl (f ρ1) N R) (h2 : b = false → Sl (g ρ1) N R) : Sl (ifS c f g ρ) N R := ws_if (wv_of h ⟨b, rfl, h1, h2⟩)
theorem ws_skip {ρ : Env} {N : Env → Prop} {R : D → Env → Prop} (h : N ρ) : Sl (sSkip ρ) N R := (ws_nx ..).mpr h
/-! ### what alike takes -/
inductive AOk : Nat → D → Prop
  | non (n : Nat) : AOk n .non
  | bl (n : Nat) (b : Bool) : AOk n (.bl b)
  | int (n : Nat) (i : Int) : AOk n (.int i)
  | str (n : Nat) {x : List Nat} (h : x.all (· < 0x110000) = true) : AOk n (.str x)
  | lst {n : Nat} {xs : List D} (hl : xs.length ≤ lim) (h : ∀ x ∈ xs, AOk n x) : AOk (n + 1) (.lst xs)
  | tup {n : Nat} {xs : List D} (hl : xs.length ≤ lim) (h : ∀ x ∈ xs, AOk n x) : AOk (n + 1) (.tup xs)
theorem eqO_of {x y : D} {b : Bool} (h1 : okD x = true) (h2 : okD y = true) (h : eqD x y = b) : eqO x y = some (.bl b) := by
  unfold eqO; rw [if_pos ⟨h1, h2⟩, h]
theorem neO_of {x y : D} {b : Bool} (h1 : okD x = true) (h2 : okD y = true) (h : eqD x y = b) : neO x y = some (.bl (!b)) := by
  unfold neO; rw [if_pos ⟨h1, h2⟩, h]
@[simp] theorem eqO_non : eqO .non .non = some (.bl true) := eqO_of rfl rfl rfl
@[simp] theorem eqO_bl (a b : Bool) : eqO (.bl a) (.bl b) = some (.bl (a == b)) := eqO_of rfl rfl rfl
@[simp] theorem neO_bl (a b : Bool) : neO (.bl a) (.bl b) = some (.bl (!(a == b))) := neO_of rfl rfl rfl
@[simp] theorem eqO_int (a b : Int) : eqO (.int a) (.int b) = some (.bl (a == b)) := eqO_of rfl rfl rfl
@[simp] theorem neO_int (a b : Int) : neO (.int a) (.int b) = some (.bl (!(a == b))) := neO_of rfl rfl rfl
theorem eqO_str {a b : List Nat} (h1 : a.all (· < 0x110000) = true) (h2 : b.all (· < 0x110000) = true) : eqO (.str a) (.str b) = some (.bl (a == b)) := eqO_of h1 h2 rfl
theorem neO_str {a b : List Nat} (h1 : a.all (· < 0x110000) = true) (h2 : b.all (· < 0x110000) = true) : neO (.str a) (.str b) = some (.bl (!(a == b))) := neO_of h1 h2 rfl
@[simp] theorem isD_non (d : D) : isD d .non = some (.bl (isNon d)) := nr rfl
/-! ### composition -/
section
variable {f f' : ValF} {g : D → D → Option D} {u : D → Option D} {ρ ρ1 ρ2 : Env} {x y z : D} {b : Bool} {i j : Nat}
theorem vv_ok (h : f ρ = .ok x ρ1) (h' : f' ρ1 = .ok y ρ2) (hg : g x y = some z) : bin2 (.v f) (.v f') g ρ = .ok z ρ2 := by rw [bin2_vv, h, bind_ok, h', bind_ok, hg]; rfl
theorem vs_ok (h : f ρ = .ok x ρ1) (h' : ρ1[j]? = some (some y)) (hg : g x y = some z) : bin2 (.v f) (.s j) g ρ = .ok z ρ1 := by rw [bin2_vs, h, bind_ok, look_s h', hg]; rfl
theorem sv_ok (h0 : ρ[i]? = some (some x)) (h' : f' ρ = .ok y ρ1) (h1 : ρ1[i]? = some (some x)) (hg : g x y = some z) : bin2 (.s i) (.v f') g ρ = .ok z ρ1 := by rw [bin2_sv, look_s h0, h', bind_ok, look_s h1, hg]; rfl
theorem ss_ok (h0 : ρ[i]? = some (some x)) (h' : ρ[j]? = some (some y)) (hg : g x y = some z) : bin2 (.s i) (.s j) g ρ = .ok z ρ := by rw [bin2_ss, look_s h0, look_s h', hg]; rfl
theorem uv_ok (h : f ρ = .ok x ρ1) (hg : u x = some z) : un1 (.v f) u ρ = .ok z ρ1 := by rw [un1_v, h, bind_ok, hg]; rfl
theorem us_ok (h : ρ[i]? = some (some x)) (hg : u x = some z) : un1 (.s i) u ρ = .ok z ρ := by rw [un1_s, look_s h, hg]; rfl
theorem not_ok (h : f ρ = .ok (.bl b) ρ1) : notF f ρ = .ok (.bl (!b)) ρ1 := by rw [notF_def, h]; rfl
theorem and_t (h : f ρ = .ok (.bl true) ρ1) : andF f f' ρ = f' ρ1 := by rw [andF_def, h]; rfl
theorem and_f (h : f ρ = .ok (.bl false) ρ1) : andF f f' ρ = .ok (.bl false) ρ1 := by rw [andF_def, h]; rfl
theorem or_t (h : f ρ = .ok (.bl true) ρ1) : orF f f' ρ = .ok (.bl true) ρ1 := by rw [orF_def, h]; rfl
theorem or_f (h : f ρ = .ok (.bl false) ρ1) : orF f f' ρ = f' ρ1 := by rw [orF_def, h]; rfl
theorem var_ok (h : ρ[i]? = some (some x)) : var i ρ = .ok x ρ := by rw [var_def, look_s h]
end
/-! ### count of a sign -/
theorem occ_cnt (x : Str) (c limit : Nat) : ∀ (m a : Nat) (st : Array Nat × Nat), st.2 ≤ a → st.1.size + m ≤ limit →
    (forIn (List.range' a m) st (StrLaws.occBody x ⟨#[c]⟩ x.length limit)).run.fst.size = st.1.size + ((x.cps.toList.drop a).take m).count c
  | 0, a, st, _, _ => by simp
  | m + 1, a, st, h1, h2 => by
    rw [List.range'_succ, List.forIn_cons]
    unfold StrLaws.occBody
    by_cases hc : x.cps.toList[a]? = some c
    · have hs := (StrLaws.subAt_one x c a).mpr hc
      rw [if_pos ⟨⟨⟨by omega, h1⟩, hs.1⟩, hs.2⟩]
      obtain ⟨hlt, he⟩ := List.getElem?_eq_some_iff.mp hc
      have ih := occ_cnt x c limit m (a + 1) (st.1.push a, a + 1) (Nat.le_refl _) (by simp; omega)
      rw [List.drop_eq_getElem_cons hlt, List.take_succ_cons, List.count_cons, he]
      simp only [beq_self_eq_true, if_true]
      rw [Array.size_push] at ih
      have e : a + (⟨#[c]⟩ : Str).length = a + 1 := rfl
      rw [e]
      refine Eq.trans ih ?_
      omega
    · have hs : ¬ (a + (⟨#[c]⟩ : Str).length ≤ x.length ∧ Builtin.Str.subAt x ⟨#[c]⟩ a = true) := fun z => hc ((StrLaws.subAt_one x c a).mp z)
      rw [if_neg fun z => hs ⟨z.1.2, z.2⟩]
      have ih := occ_cnt x c limit m (a + 1) (st.1, st.2) (by show st.2 ≤ a + 1; omega) (by show st.1.size + m ≤ limit; omega)
      refine Eq.trans ih ?_
      congr 1
      rcases Nat.lt_or_ge a x.cps.toList.length with hlt | hge
      · rw [List.drop_eq_getElem_cons hlt, List.take_succ_cons, List.count_cons]
        have : x.cps.toList[a] ≠ c := fun z => hc (by rw [List.getElem?_eq_getElem hlt, z])
        rw [if_neg (by simpa using this)]
        rfl
      · rw [List.drop_eq_nil_of_le hge, List.drop_eq_nil_of_le (by omega)]
        simp
theorem countD_one (w : List Nat) (c : Nat) : countD (.str w) (.str [c]) = some (.int ((w.count c : Nat) : Int)) := by
  show some (D.int (Txt.count ⟨w.toArray⟩ ⟨#[c]⟩)) = _
  have h := occ_cnt ⟨w.toArray⟩ c (w.length + 1) (w.length + 1) 0 (#[], 0) (Nat.le_refl _) (by simp)
  have e : Txt.count ⟨w.toArray⟩ ⟨#[c]⟩ = ((w.count c : Nat) : Int) := by
    show ((Builtin.Str.occurrences ⟨w.toArray⟩ ⟨#[c]⟩ 0 (⟨w.toArray⟩ : Str).length ((⟨w.toArray⟩ : Str).length + 1)).length : Int) = _
    rw [StrLaws.occ_eq, Array.length_toList]
    have e1 : (⟨w.toArray⟩ : Str).length = w.length := rfl
    have e2 : w.length + 1 - 0 = w.length + 1 := rfl
    rw [e1, e2]
    have h : (forIn (List.range' 0 (w.length + 1)) (#[], 0) (StrLaws.occBody ⟨w.toArray⟩ ⟨#[c]⟩ w.length (w.length + 1))).run.fst.size = _ := h
    rw [h, List.drop_zero, List.take_of_length_le (by simp)]
    simp
  rw [e]
/-- a for loop that may return -/
theorem ws_forR {it : IterF} {t : TgtF} {body : StF} {ρ ρ1 : Env} {ds src : List D} {N : Env → Prop} {R : D → Env → Prop} (e : it ρ = .ok ds src ρ1) (P : Nat → Env → Prop) (h0 : P 0 ρ1)
    (hs : ∀ i d ρ, ds[i]? = some d → P i ρ → ∃ ρ1, t d ρ = some ρ1 ∧ Sl (body ρ1) (P (i + 1)) R) (hd : ∀ ρ, P ds.length ρ → N ρ) : Sl (forS it t body ρ) N R := by
  rw [forS_ok e]
  have key : ∀ (ds : List D) (k : Nat) (ρ : Env), (∀ i d ρ, ds[i]? = some d → P (k + i) ρ → ∃ ρ1, t d ρ = some ρ1 ∧ Sl (body ρ1) (P (k + i + 1)) R) → P k ρ → Sl (forL t body ds ρ) (P (k + ds.length)) R := by
    intro ds
    induction ds with
    | nil => exact fun k ρ _ p => (ws_nx ..).mpr p
    | cons d ds ih =>
      intro k ρ hs p
      obtain ⟨ρ1, e1, q⟩ := hs 0 d ρ rfl p
      rcases ws_ex q with ⟨ρ2, e2, p2⟩ | ⟨d', ρ2, e2, q2⟩
      · have := ih (k + 1) ρ2 (fun i d' ρ' e q => by
          have := hs (i + 1) d' ρ' (by simpa using e) (by rw [show k + (i + 1) = k + 1 + i by omega]; exact q)
          rw [show k + (i + 1) + 1 = k + 1 + i + 1 by omega] at this
          exact this) p2
        have e3 : forL t body (d :: ds) ρ = forL t body ds ρ2 := by
          conv => lhs; unfold forL
          rw [e1]; dsimp only; rw [e2]
        rw [e3, show k + (d :: ds).length = k + 1 + ds.length by rw [List.length_cons]; omega]
        exact this
      · have e3 : forL t body (d :: ds) ρ = .rt d' ρ2 := by
          conv => lhs; unfold forL
          rw [e1]; dsimp only; rw [e2]
        rw [e3]
        exact (ws_rt ..).mpr q2
  have := key ds 0 ρ1 (fun i d ρ e p => by rw [Nat.zero_add] at p ⊢; exact hs i d ρ e p) h0
  rw [Nat.zero_add] at this
  exact ws_mono this hd fun _ _ q => q
theorem small_nat {i j c n : Nat} (hi : i < 1000) (hj : j < 1000) (hc : c < 1000) (hc0 : 0 < c) (e : Builtin.Range.rangeSize (i : Int) (j : Int) (c : Int) = (n : Int)) (hn : n < 10000) : Builtin.Range.small (i : Int) (j : Int) (c : Int) = true := by
  unfold Builtin.Range.small
  rw [e]
  simp only [Builtin.Range.rangeFitsLong, Bool.and_eq_true, Bool.or_eq_true, decide_eq_true_eq, beq_iff_eq, show (c : Int) > 0 by omega, if_true]
  omega
theorem itR3_up {f : ArgF} {ρ ρ' : Env} {i j c : Nat} (h : f ρ = .ok [.int (i : Int), .int (j : Int), .int (c : Int)] ρ') (hc : 0 < c) (hc2 : c < 1000) (hi : i < 1000) (hj : j < 1000) :
    itR3 f ρ = .ok (intsC i c ((j - i + c - 1) / c)) [] ρ' := by
  have e : Builtin.Range.rangeSize (i : Int) (j : Int) (c : Int) = (((j - i + c - 1) / c : Nat) : Int) := by
    unfold Builtin.Range.rangeSize
    rw [if_pos (by omega)]
    by_cases l : (i : Int) < (j : Int)
    · rw [if_pos l, Int.natCast_ediv]
      have e1 : ((j - i + c - 1 : Nat) : Int) = ((j : Int) - i - 1) + (c : Int) := by omega
      rw [e1, Int.add_ediv_of_dvd_right (Int.dvd_refl _), Int.ediv_self (by omega)]
    · rw [if_neg l]
      have : (j - i + c - 1) / c = 0 := by
        rw [Nat.div_eq_zero_iff]
        omega
      rw [this]; rfl
  unfold itR3
  rw [h]
  have hle : (j - i + c - 1) / c ≤ j - i + c - 1 := Nat.div_le_self _ _
  generalize hq : (j - i + c - 1) / c = q at e hle ⊢
  have hs : rngC (i : Int) (j : Int) (c : Int) = some (intsC i c q) := by
    unfold rngC
    have hlim : lim = 1000000 := rfl
    rw [if_pos (cdec_true ⟨by omega, by omega, small_nat hi hj hc2 hc e (by omega), by rw [e]; omega, by rw [e]; omega⟩), e, Int.toNat_natCast]
  dsimp only
  rw [hs]
theorem intsC_get {lo c : Int} {n i : Nat} {d : D} (h : (intsC lo c n)[i]? = some d) : i < n ∧ d = .int (lo + i * c) := by
  unfold intsC at h
  rw [List.getElem?_map] at h
  cases e : (List.range n)[i]? with
  | none => rw [e] at h; cases h
  | some j =>
    rw [e] at h
    obtain ⟨h1, h2⟩ := List.getElem?_eq_some_iff.mp e
    rw [List.length_range] at h1
    rw [List.getElem_range] at h2
    subst h2
    cases h
    exact ⟨h1, rfl⟩
theorem intsC_len (lo c : Int) (n : Nat) : (intsC lo c n).length = n := by unfold intsC; simp
/-! ### draws in values -/
theorem cap_ok {cap : Nat} (h : 0 < cap ∧ cap < 2 ^ 200) : 0 < (cap : Int) ∧ ((cap : Int)).natAbs.log2 < 9000 := ⟨by omega, by
  rw [Int.natAbs_natCast]
  have : cap.log2 < 200 := (Nat.log2_lt (by omega)).mpr h.2
  omega⟩
theorem wv_nx {k : Nat} {fa : ArgF} {ρ ρ1 : Env} {la : Addr} {r d0 : D} {cap : Nat} {Q : D → Env → Prop} (hr : Src la r) (hc : 0 < cap ∧ cap < 2 ^ 200) (q : ∀ (v : Nat) (r' : D), v < cap → Src la r' → Q (.int (v : Int)) (ρ1.set k (some r')))
    (ha : fa ρ = .ok [.int (cap : Int)] ρ1 := by rfl) (h0 : ρ[k]? = some (some d0) := by rfl) (hk : ρ1[k]? = some (some r) := by rfl) : Vl (callR nextF k fa ρ) Q :=
  wv_next h0 ha hk hr (cap_ok hc) fun v r' h1 h2 hr' => by
    obtain ⟨n, rfl⟩ := Int.eq_ofNat_of_zero_le h1
    exact q n r' (by omega) hr'
theorem wv_nx1 {k : Nat} {fa : ArgF} {ρ ρ1 : Env} {la : Addr} {r d0 : D} {cap : Nat} {Q : D → Env → Prop} (hr : Src la r) (hc : 0 < cap ∧ cap < 2 ^ 200) (q : ∀ (v : Nat) (r' : D), 1 ≤ v → v ≤ cap → Src la r' → Q (.int (v : Int)) (ρ1.set k (some r')))
    (ha : fa ρ = .ok [.int (cap : Int)] ρ1 := by rfl) (h0 : ρ[k]? = some (some d0) := by rfl) (hk : ρ1[k]? = some (some r) := by rfl) : Vl (bin2 (.v (cst (.int 1))) (.v (callR nextF k fa)) addD ρ) Q := by
  rw [bin2_vv, cst_def, bind_ok]
  refine wv_bind (wv_nx hr hc (fun v r' h hr' => ?_) ha h0 hk)
  refine wv_of (d := .int ((v + 1 : Nat) : Int)) ?_ (q (v + 1) r' (by omega) (by omega) hr')
  show ofO (some (D.int (1 + (v : Int)))) _ = _
  rw [show (1 : Int) + (v : Int) = ((v + 1 : Nat) : Int) by omega]
  rfl
theorem wv_tup2 {f g : ValF} {ρ : Env} {Q : D → Env → Prop} (h : Vl (f ρ) fun d ρ1 => Vl (g ρ1) fun e ρ2 => Q (.tup [d, e]) ρ2) : Vl (tupF (aCons f (aCons g aNil)) ρ) Q := by
  obtain ⟨d, ρ1, e1, q⟩ := h.q
  obtain ⟨e, ρ2, e2, q⟩ := q.q
  exact wv_of (tupF_ok (aCons_ok e1 (aCons_ok e2 (aNil_def _))) (show 2 ≤ lim by decide)) q
theorem wv_tup3 {f g h : ValF} {ρ : Env} {Q : D → Env → Prop} (hh : Vl (f ρ) fun d ρ1 => Vl (g ρ1) fun e ρ2 => Vl (h ρ2) fun u ρ3 => Q (.tup [d, e, u]) ρ3) : Vl (tupF (aCons f (aCons g (aCons h aNil))) ρ) Q := by
  obtain ⟨d, ρ1, e1, q⟩ := hh.q
  obtain ⟨e, ρ2, e2, q⟩ := q.q
  obtain ⟨u, ρ3, e3, q⟩ := q.q
  exact wv_of (tupF_ok (aCons_ok e1 (aCons_ok e2 (aCons_ok e3 (aNil_def _)))) (show 3 ≤ lim by decide)) q
def strsL (xs : List (List Nat)) : List D := xs.map D.str
@[simp] theorem strsL_len (xs : List (List Nat)) : (strsL xs).length = xs.length := List.length_map ..
theorem ws_putW {f : ValF} {i : Nat} {ρ : Env} {N : Env → Prop} {R : D → Env → Prop} (h : Vl (f ρ) fun d ρ1 => i < ρ1.length ∧ N (ρ1.set i (some d))) : Sl (put i f ρ) N R := ws_put h
theorem ws_put1 {i k : Nat} {fa : ArgF} {ρ ρ1 : Env} {la : Addr} {r d0 : D} {cap : Nat} {N : Env → Prop} {R : D → Env → Prop} (hr : Src la r) (hc : 0 < cap ∧ cap < 2 ^ 200) (q : ∀ (v : Nat) (r' : D), 1 ≤ v → v ≤ cap → Src la r' → N ((ρ1.set k (some r')).set i (some (.int (v : Int)))))
    (ha : fa ρ = .ok [.int (cap : Int)] ρ1 := by rfl) (h0 : ρ[k]? = some (some d0) := by rfl) (hk : ρ1[k]? = some (some r) := by rfl) (hi : i < ρ1.length := by exact Nat.lt_of_succ_le (Nat.le_of_ble_eq_true rfl)) : Sl (put i (bin2 (.v (cst (.int 1))) (.v (callR nextF k fa)) addD) ρ) N R :=
  ws_put (wv_nx1 hr hc (fun v r' h1 h2 hr' => ⟨by rw [List.length_set]; exact hi, q v r' h1 h2 hr'⟩) ha h0 hk)
theorem ws_put0 {i k : Nat} {fa : ArgF} {ρ ρ1 : Env} {la : Addr} {r d0 : D} {cap : Nat} {N : Env → Prop} {R : D → Env → Prop} (hr : Src la r) (hc : 0 < cap ∧ cap < 2 ^ 200) (q : ∀ (v : Nat) (r' : D), v < cap → Src la r' → N ((ρ1.set k (some r')).set i (some (.int (v : Int)))))
    (ha : fa ρ = .ok [.int (cap : Int)] ρ1 := by rfl) (h0 : ρ[k]? = some (some d0) := by rfl) (hk : ρ1[k]? = some (some r) := by rfl) (hi : i < ρ1.length := by exact Nat.lt_of_succ_le (Nat.le_of_ble_eq_true rfl)) : Sl (put i (callR nextF k fa) ρ) N R :=
  ws_put (wv_nx hr hc (fun v r' h2 hr' => ⟨by rw [List.length_set]; exact hi, q v r' h2 hr'⟩) ha h0 hk)
theorem filterMap_strs {p : List Nat → Bool} {g : D → Option D} (h : ∀ w, g (.str w) = if p w = true then some (.str w) else none) : ∀ xs : List (List Nat), (strsL xs).filterMap g = strsL (xs.filter p)
  | [] => rfl
  | w :: xs => by
    have ih := filterMap_strs h xs
    show ((D.str w) :: strsL xs).filterMap g = _
    by_cases e : p w = true
    · rw [List.filterMap_cons_some (by rw [h, if_pos e]), ih, List.filter_cons_of_pos e]; rfl
    · rw [List.filterMap_cons_none (by rw [h, if_neg e]), ih, List.filter_cons_of_neg e]
theorem met1_ok {f g : ValF} {G : D → D → Option D} {ρ ρ1 ρ2 : Env} {a : List Nat} {y z : D} (h : f ρ = .ok (.str a) ρ1) (h2 : g ρ1 = .ok y ρ2) (hg : G (.str a) y = some z) : met1 f g G ρ = .ok z ρ2 := by
  unfold met1
  rw [h, bind_ok]
  dsimp only
  rw [h2, bind_ok, hg]; rfl
end Pv

/-! Pg0: while loops; labels of the parts of a graph, found by a search with a stack. -/
namespace Pv
open PySem PySem.Spec L2
open PyProof.Rows hiding St
theorem ws_while {t : ValF} {b : StF} {N : Env → Prop} {R : D → Env → Prop} (I : Nat → Env → Prop) (hs : ∀ m ρ, I m ρ → Vl (t ρ) fun d ρ1 => (d = .bl true ∧ Sl (b ρ1) (fun ρ2 => ∃ m', m' < m ∧ I m' ρ2) R) ∨ (d = .bl false ∧ N ρ1)) {ρ : Env} (h0 : ∃ m, I m ρ) : Sl (whS t b ρ) N R := by
  obtain ⟨m, h0⟩ := h0
  induction m using Nat.strongRecOn generalizing ρ with
  | ind m ih =>
    rw [whS_unfold]
    refine ws_out (wv_mono (hs m ρ h0) fun d ρ1 q => ?_)
    rcases q with ⟨rfl, q⟩ | ⟨rfl, q⟩
    · rcases ws_ex q with ⟨ρ2, e, m', hm, q⟩ | ⟨d, ρ2, e, q⟩
      · dsimp only; rw [e]; exact ih m' hm q
      · dsimp only; rw [e]; exact (ws_rt ..).mpr q
    · exact (ws_nx ..).mpr q
section
variable (n : Nat) (nb : Nat → List Nat) (hole : Nat → Bool)
inductive Rch : Nat → Nat → Prop
  | refl (v : Nat) : Rch v v
  | step {u v w : Nat} : Rch u v → w ∈ nb v → hole w = false → Rch u w
structure Lab (g : Nat → Nat) : Prop where
  le : ∀ v, v < n → hole v = false → g v ≤ v
  ok : ∀ v, v < n → hole v = false → hole (g v) = false
  cl : ∀ v, v < n → hole v = false → ∀ w ∈ nb v, hole w = false → g w = g v
  re : ∀ v, v < n → hole v = false → Rch nb hole (g v) v
/-- a graph of places below n -/
structure Gr : Prop where
  lt : ∀ v, v < n → ∀ w ∈ nb v, w < n
  sym : ∀ v, v < n → ∀ w ∈ nb v, v ∈ nb w
variable {n nb hole}
theorem Rch.trans {u v w : Nat} (h : Rch nb hole u v) (h2 : Rch nb hole v w) : Rch nb hole u w := by
  induction h2 with
  | refl => exact h
  | step _ m o ih => exact .step ih m o
theorem Rch.ok {u v : Nat} (G : Gr n nb) (h : Rch nb hole u v) (hu : u < n) (ho : hole u = false) : v < n ∧ hole v = false := by
  induction h with
  | refl => exact ⟨hu, ho⟩
  | step _ m o ih => exact ⟨G.lt _ ih.1 _ m, o⟩
theorem Rch.symm {u v : Nat} (G : Gr n nb) (h : Rch nb hole u v) (hu : u < n) (ho : hole u = false) : Rch nb hole v u := by
  induction h with
  | refl => exact .refl _
  | step h m o ih =>
    obtain ⟨h1, h2⟩ := h.ok G hu ho
    exact Rch.trans (.step (.refl _) (G.sym _ h1 _ m) h2) ih
theorem Lab.const {g : Nat → Nat} (L : Lab n nb hole g) (G : Gr n nb) {u v : Nat} (h : Rch nb hole u v) (hu : u < n) (ho : hole u = false) : g v = g u := by
  induction h with
  | refl => rfl
  | step h m o ih =>
    obtain ⟨h1, h2⟩ := h.ok G hu ho
    rw [L.cl _ h1 h2 _ m o, ih]
theorem Lab.lt {g : Nat → Nat} (L : Lab n nb hole g) {v : Nat} (hv : v < n) (ho : hole v = false) : g v < n := Nat.lt_of_le_of_lt (L.le v hv ho) hv
theorem Lab.idem {g : Nat → Nat} (L : Lab n nb hole g) (G : Gr n nb) {v : Nat} (hv : v < n) (ho : hole v = false) : g (g v) = g v := (L.const G (L.re v hv ho) (L.lt hv ho) (L.ok v hv ho)).symm
theorem Lab.min {g : Nat → Nat} (L : Lab n nb hole g) (G : Gr n nb) {u v : Nat} (h : Rch nb hole u v) (hu : u < n) (ho : hole u = false) : g v ≤ u := by
  rw [L.const G h hu ho]; exact L.le u hu ho
theorem Lab.uniq {f g : Nat → Nat} (F : Lab n nb hole f) (L : Lab n nb hole g) (G : Gr n nb) {v : Nat} (hv : v < n) (ho : hole v = false) : f v = g v := by
  have h1 := L.min G (F.re v hv ho) (F.lt hv ho) (F.ok v hv ho)
  have h2 := F.min G (L.re v hv ho) (L.lt hv ho) (L.ok v hv ho)
  omega
theorem Lab.same_iff {g : Nat → Nat} (L : Lab n nb hole g) (G : Gr n nb) {u v : Nat} (hu : u < n) (ho : hole u = false) (hv : v < n) (hv0 : hole v = false) : g u = g v ↔ Rch nb hole u v := by
  constructor
  · intro e
    have h1 := (L.re u hu ho).symm G (L.lt hu ho) (L.ok u hu ho)
    have h2 := L.re v hv hv0
    rw [e] at h1
    exact h1.trans h2
  · intro h; exact (L.const G h hu ho).symm
/-! ### the search -/
def free (hole : Nat → Bool) (f : Nat → Option Nat) (w : Nat) : Bool := (f w).isNone && !hole w
def mark (p : Nat) (f : Nat → Option Nat) (w : Nat) : Nat → Option Nat := fun x => if x = w then some p else f x
/-- the neighbours of one place, one by one -/
def goN (hole : Nat → Bool) (p : Nat) : List Nat → (Nat → Option Nat) × List Nat → (Nat → Option Nat) × List Nat
  | [], s => s
  | w :: ws, (f, st) => if free hole f w = true then goN hole p ws (mark p f w, st ++ [w]) else goN hole p ws (f, st)
theorem free_iff {f : Nat → Option Nat} {w : Nat} : free hole f w = true ↔ f w = none ∧ hole w = false := by
  unfold free; simp
theorem goN_f (p : Nat) : ∀ (ws : List Nat) (f : Nat → Option Nat) (st : List Nat) (x : Nat), (goN hole p ws (f, st)).1 x = if f x = none ∧ x ∈ ws ∧ hole x = false then some p else f x
  | [], f, st, x => by unfold goN; simp
  | w :: ws, f, st, x => by
    unfold goN
    by_cases c : free hole f w = true
    · rw [if_pos c, goN_f p ws]
      obtain ⟨c1, c2⟩ := free_iff.mp c
      unfold mark
      by_cases e : x = w
      · subst e; simp [c1, c2]
      · simp [e]
    · rw [if_neg c, goN_f p ws]
      by_cases e : x = w
      · subst e
        have : ¬ (f x = none ∧ hole x = false) := fun z => c (free_iff.mpr z)
        by_cases h1 : f x = none
        · have h2 : ¬ hole x = false := fun z => this ⟨h1, z⟩
          simp [h1, h2]
        · simp [h1]
      · simp [e]
theorem goN_st (p : Nat) : ∀ (ws : List Nat) (f : Nat → Option Nat) (st : List Nat) (x : Nat), x ∈ (goN hole p ws (f, st)).2 ↔ x ∈ st ∨ (f x = none ∧ x ∈ ws ∧ hole x = false)
  | [], f, st, x => by unfold goN; simp
  | w :: ws, f, st, x => by
    unfold goN
    by_cases c : free hole f w = true
    · rw [if_pos c, goN_st p ws]
      obtain ⟨c1, c2⟩ := free_iff.mp c
      unfold mark
      by_cases e : x = w
      · subst e; simp [c1, c2]
      · simp [e]
    · rw [if_neg c, goN_st p ws]
      by_cases e : x = w
      · subst e
        have : ¬ (f x = none ∧ hole x = false) := fun z => c (free_iff.mpr z)
        constructor
        · rintro (h | ⟨h1, h2, h3⟩)
          · exact .inl h
          · exact absurd ⟨h1, h3⟩ this
        · rintro (h | ⟨h1, h2, h3⟩)
          · exact .inl h
          · exact absurd ⟨h1, h3⟩ this
      · simp [e]
/-- how many are not marked yet -/
def cnt (n : Nat) (f : Nat → Option Nat) : Nat := ((List.range n).filter fun v => (f v).isNone).length
theorem cnt_mark {p w : Nat} {f : Nat → Option Nat} (hw : w < n) (h : f w = none) : cnt n (mark p f w) + 1 = cnt n f := by
  unfold cnt mark
  induction n with
  | zero => omega
  | succ n ih =>
    rw [List.range_succ, List.filter_append, List.filter_append, List.length_append, List.length_append]
    by_cases e : w = n
    · subst e
      have : ((List.range w).filter fun v => (if v = w then some p else f v).isNone) = (List.range w).filter fun v => (f v).isNone := List.filter_congr fun v hv => by
        have : v ≠ w := Nat.ne_of_lt (List.mem_range.mp hv)
        simp [this]
      rw [this]
      have e1 : ([w].filter fun v => (if v = w then some p else f v).isNone) = [] := by simp
      have e2 : ([w].filter fun v => (f v).isNone) = [w] := by simp [h]
      rw [e1, e2]; rfl
    · have := ih (by omega)
      have e2 : ([n].filter fun v => (if v = w then some p else f v).isNone) = [n].filter fun v => (f v).isNone := List.filter_congr fun v hv => by
        have hv : v = n := List.mem_singleton.mp hv
        rw [if_neg fun z => e (by rw [← z, hv])]
      rw [e2]; omega
theorem goN_m (p : Nat) : ∀ (ws : List Nat) (f : Nat → Option Nat) (st : List Nat), (∀ w ∈ ws, w < n) → (goN hole p ws (f, st)).2.length + cnt n (goN hole p ws (f, st)).1 = st.length + cnt n f
  | [], f, st, _ => rfl
  | w :: ws, f, st, h => by
    unfold goN
    by_cases c : free hole f w = true
    · rw [if_pos c, goN_m p ws _ _ fun x hx => h x (List.mem_cons_of_mem _ hx)]
      have := cnt_mark (p := p) (h w List.mem_cons_self) (free_iff.mp c).1
      rw [List.length_append]; simp; omega
    · rw [if_neg c]; exact goN_m p ws _ _ fun x hx => h x (List.mem_cons_of_mem _ hx)
theorem goN_app (p : Nat) : ∀ (us ws : List Nat) (s : (Nat → Option Nat) × List Nat), goN hole p (us ++ ws) s = goN hole p ws (goN hole p us s)
  | [], ws, s => rfl
  | u :: us, ws, (f, st) => by
    rw [List.cons_append]
    show (if free hole f u = true then goN hole p (us ++ ws) (mark p f u, st ++ [u]) else goN hole p (us ++ ws) (f, st)) = goN hole p ws (if free hole f u = true then goN hole p us (mark p f u, st ++ [u]) else goN hole p us (f, st))
    by_cases c : free hole f u = true
    · rw [if_pos c, if_pos c, goN_app p us ws]
    · rw [if_neg c, if_neg c, goN_app p us ws]
variable (n nb hole)
structure DI (p : Nat) (f : Nat → Option Nat) (st : List Nat) : Prop where
  dom : ∀ v l, f v = some l → v < n ∧ hole v = false ∧ l ≤ p ∧ l ≤ v ∧ hole l = false ∧ Rch nb hole l v
  don : ∀ v, v < p → hole v = false → f v ≠ none
  cur : f p = some p
  clo : ∀ v l, f v = some l → v ∈ st ∨ ∀ w ∈ nb v, hole w = false → f w = some l
  stk : ∀ v ∈ st, f v = some p
structure DF (p : Nat) (f : Nat → Option Nat) : Prop where
  dom : ∀ v l, f v = some l → v < n ∧ hole v = false ∧ l < p ∧ l ≤ v ∧ hole l = false ∧ Rch nb hole l v
  don : ∀ v, v < p → hole v = false → f v ≠ none
  clo : ∀ v l, f v = some l → ∀ w ∈ nb v, hole w = false → f w = some l
variable {n nb hole}
theorem DF.start : DF n nb hole 0 fun _ => none := ⟨fun v l h => (by cases h), fun v h => (by omega), fun v l h => (by cases h)⟩
theorem DF.skip {p : Nat} {f : Nat → Option Nat} (h : DF n nb hole p f) (hp : free hole f p = false) : DF n nb hole (p + 1) f := by
  refine ⟨fun v l e => ?_, fun v hv ho => ?_, h.clo⟩
  · obtain ⟨h1, h2, h3, h4⟩ := h.dom v l e
    exact ⟨h1, h2, by omega, h4⟩
  · rcases Nat.lt_or_ge v p with l | l
    · exact h.don v l ho
    · have : v = p := by omega
      subst this
      intro z
      rw [free_iff.mpr ⟨z, ho⟩] at hp
      cases hp
theorem DF.enter {p : Nat} {f : Nat → Option Nat} (h : DF n nb hole p f) (hpn : p < n) (hp : free hole f p = true) : DI n nb hole p (mark p f p) [p] := by
  obtain ⟨hn, ho⟩ := free_iff.mp hp
  have cur : mark p f p p = some p := by unfold mark; rw [if_pos rfl]
  have old : ∀ {v l}, mark p f p v = some l → v ≠ p → f v = some l := fun {v l} e ne => by unfold mark at e; rw [if_neg ne] at e; exact e
  refine ⟨fun v l e => ?_, fun v hv ho2 => ?_, cur, fun v l e => ?_, fun v hv => ?_⟩
  · by_cases c : v = p
    · subst c
      rw [cur] at e; cases e
      exact ⟨hpn, ho, Nat.le_refl _, Nat.le_refl _, ho, .refl _⟩
    · obtain ⟨h1, h2, h3, h4⟩ := h.dom v l (old e c)
      exact ⟨h1, h2, by omega, h4⟩
  · unfold mark
    rw [if_neg (by omega)]
    exact h.don v hv ho2
  · by_cases c : v = p
    · left; simp [c]
    · right
      intro w hw how
      have hf := h.clo v l (old e c) w hw how
      have : w ≠ p := fun z => by rw [z, hn] at hf; cases hf
      unfold mark
      rw [if_neg this]; exact hf
  · have : v = p := by simpa using hv
    rw [this]; exact cur
theorem DI.turn {p here : Nat} {f : Nat → Option Nat} {st : List Nat} (G : Gr n nb) (h : DI n nb hole p f (st ++ [here])) : DI n nb hole p (goN hole p (nb here) (f, st)).1 (goN hole p (nb here) (f, st)).2 := by
  have hh : f here = some p := h.stk here (by simp)
  obtain ⟨hhn, hho, _, _, hpo, hr⟩ := h.dom here p hh
  have keep : ∀ {v l}, f v = some l → (goN hole p (nb here) (f, st)).1 v = some l := fun {v l} e => by
    rw [goN_f, if_neg (by rw [e]; exact fun z => nomatch z.1)]; exact e
  refine ⟨fun v l e => ?_, fun v hv ho => ?_, keep h.cur, fun v l e => ?_, fun v hv => ?_⟩
  · rw [goN_f] at e
    split at e
    · rename_i c
      cases e
      refine ⟨G.lt _ hhn _ c.2.1, c.2.2, Nat.le_refl _, ?_, hpo, hr.step c.2.1 c.2.2⟩
      rcases Nat.lt_or_ge v p with l | l
      · exact absurd c.1 (h.don v l c.2.2)
      · exact l
    · exact h.dom v l e
  · cases e : f v with
    | none => exact absurd e (h.don v hv ho)
    | some l => rw [keep e]; exact fun z => nomatch z
  · have e0 := e
    rw [goN_f] at e
    split at e
    · rename_i c
      left
      rw [goN_st]
      exact .inr c
    · rcases h.clo v l e with m | m
      · rcases List.mem_append.mp m with m | m
        · left; rw [goN_st]; exact .inl m
        · have : v = here := by simpa using m
          subst this
          right
          intro w hw ho
          rw [hh] at e; cases e
          cases e1 : f w with
          | none => rw [goN_f, if_pos ⟨e1, hw, ho⟩]
          | some l' =>
            rw [keep e1]
            rcases h.clo w l' e1 with m2 | m2
            · rw [h.stk w m2] at e1; exact e1.symm
            · rw [← m2 v (G.sym _ hhn _ hw) hho, hh]
      · right
        intro w hw ho
        exact keep (m w hw ho)
  · rw [goN_st] at hv
    rcases hv with hv | hv
    · exact keep (h.stk v (List.mem_append_left _ hv))
    · rw [goN_f, if_pos hv]
theorem DI.leave {p : Nat} {f : Nat → Option Nat} (h : DI n nb hole p f []) : DF n nb hole (p + 1) f := by
  refine ⟨fun v l e => ?_, fun v hv ho => ?_, fun v l e => ?_⟩
  · obtain ⟨h1, h2, h3, h4⟩ := h.dom v l e
    exact ⟨h1, h2, by omega, h4⟩
  · rcases Nat.lt_or_ge v p with l | l
    · exact h.don v l ho
    · have : v = p := by omega
      subst this
      rw [h.cur]; exact fun z => nomatch z
  · rcases h.clo v l e with m | m
    · cases m
    · exact m
theorem DF.lab {f : Nat → Option Nat} (h : DF n nb hole n f) : Lab n nb hole fun v => (f v).getD v := by
  have key : ∀ v, v < n → hole v = false → ∃ l, f v = some l := fun v hv ho => by
    cases e : f v with
    | none => exact absurd e (h.don v hv ho)
    | some l => exact ⟨l, rfl⟩
  refine ⟨fun v hv ho => ?_, fun v hv ho => ?_, fun v hv ho w hw hwo => ?_, fun v hv ho => ?_⟩ <;> obtain ⟨l, e⟩ := key v hv ho <;> obtain ⟨h1, h2, h3, h4, h5, h6⟩ := h.dom v l e
  · rw [e]; exact h4
  · rw [e]; exact h5
  · rw [e, h.clo v l e w hw hwo]; rfl
  · rw [e]; exact h6
end
end Pv

/-! Pu1: more of what pure semantics come to. -/
namespace Pv
open PySem PySem.Spec L2
open PyProof.Rows hiding St
theorem lc2L_pure {tgt tgt1 : TgtF} {own own1 : List Nat} {f1 : IterF} {fe : ValF} {ρ0 : Env} (G : D → List D) : ∀ (ds acc : List D), (∀ d ∈ ds, ∃ ρ1 ds1 src ρ2, tgt d ρ0 = some ρ1 ∧ f1 ρ1 = .ok ds1 src ρ2 ∧ ds1.length = (G d).length ∧ (∀ (i : Nat) (e : D), ds1[i]? = some e → ∃ y, (G d)[i]? = some y ∧ lc1 tgt1 own1 none fe e (fgtE own1 ρ2) = some (some y, fgtE own1 ρ2)) ∧ fgtE own (fgtE own1 ρ2) = ρ0) →
    acc.length + (ds.flatMap G).length ≤ lim → lc2L tgt f1 tgt1 own own1 fe ds acc ρ0 = .ok (acc ++ ds.flatMap G) ρ0
  | [], acc, _, _ => by rw [List.flatMap_nil, List.append_nil]; rfl
  | d :: ds, acc, h, hl => by
    obtain ⟨ρ1, ds1, src, ρ2, e1, e2, l1, e3, e4⟩ := h d List.mem_cons_self
    rw [List.flatMap_cons, List.length_append] at hl
    have inner : ∀ (es ys acc : List D), es.length = ys.length → (∀ (i : Nat) (e : D), es[i]? = some e → ∃ y, ys[i]? = some y ∧ lc1 tgt1 own1 none fe e (fgtE own1 ρ2) = some (some y, fgtE own1 ρ2)) → acc.length + ys.length ≤ lim → lcL tgt1 own1 none fe es acc (fgtE own1 ρ2) = .ok (acc ++ ys) (fgtE own1 ρ2) := by
      intro es
      induction es with
      | nil =>
        intro ys acc l _ _
        cases ys with
        | nil => rw [List.append_nil]; rfl
        | cons _ _ => cases l
      | cons e es ih =>
        intro ys acc l h hl
        cases ys with
        | nil => cases l
        | cons y ys =>
          obtain ⟨y', q1, q2⟩ := h 0 e rfl
          cases q1
          rw [List.length_cons] at hl
          rw [lcL_cons q2 (by omega)]
          have := ih ys (acc ++ [y]) (by simpa using l) (fun i e' he => h (i + 1) e' he) (by rw [List.length_append]; simp; omega)
          rw [show (some y).toList = [y] from rfl, this, List.append_assoc]; rfl
    have := inner ds1 (G d) acc l1 e3 (by omega)
    unfold lc2L
    rw [e1]; dsimp only; rw [e2]; dsimp only; rw [this]; dsimp only
    rw [e4, lc2L_pure G ds (acc ++ G d) (fun x hx => h x (List.mem_cons_of_mem _ hx)) (by rw [List.length_append]; omega), List.flatMap_cons, List.append_assoc]
theorem lc2F_pure {f f1 : IterF} {tgt tgt1 : TgtF} {own own1 : List Nat} {fe : ValF} {ρ ρ1 : Env} {ds src : List D} (G : D → List D) (e : f ρ = .ok ds src ρ1) (h : ∀ d ∈ ds, ∃ ρ' ds1 src ρ2, tgt d (fgtE own ρ1) = some ρ' ∧ f1 ρ' = .ok ds1 src ρ2 ∧ ds1.length = (G d).length ∧ (∀ (i : Nat) (e : D), ds1[i]? = some e → ∃ y, (G d)[i]? = some y ∧ lc1 tgt1 own1 none fe e (fgtE own1 ρ2) = some (some y, fgtE own1 ρ2)) ∧ fgtE own (fgtE own1 ρ2) = fgtE own ρ1) (hl : (ds.flatMap G).length ≤ lim) :
    lc2F f tgt f1 tgt1 own own1 fe ρ = .ok (.lst (ds.flatMap G)) (fgtE own ρ1) := by
  unfold lc2F
  rw [e]; dsimp only
  rw [lc2L_pure G ds [] h (by simpa using hl)]
  dsimp only
  rw [fgtE_idem, List.nil_append]
theorem sortI_ints (xs : List Int) : sortI (.lst (xs.map D.int)) = some (.lst ((msort xs).map D.int)) := by
  show (asInts (xs.map D.int)).map _ = _
  rw [asInts_map]; rfl
theorem nL_ints (xs : List Nat) : nL xs = (xs.map Int.ofNat).map D.int := by unfold nL; rw [List.map_map]; rfl
theorem asc_ext : ∀ {xs ys : List Nat}, xs.Pairwise (· < ·) → ys.Pairwise (· < ·) → (∀ x, x ∈ xs ↔ x ∈ ys) → xs = ys := fun {xs ys} h1 h2 h => by
  have p : xs.Perm ys := (List.perm_ext_iff_of_nodup (h1.imp fun h => Nat.ne_of_lt h) (h2.imp fun h => Nat.ne_of_lt h)).mpr h
  have q := sorted_uniq (p.map Int.ofNat) (List.pairwise_map.mpr (h1.imp fun h => Int.ofNat_le.mpr (Nat.le_of_lt h))) (List.pairwise_map.mpr (h2.imp fun h => Int.ofNat_le.mpr (Nat.le_of_lt h)))
  have := congrArg (List.map Int.toNat) q
  rw [List.map_map, List.map_map, show (Int.toNat ∘ Int.ofNat) = id from funext fun x => rfl, List.map_id, List.map_id] at this
  exact this
/-- sorted(..) of the ints of an ascending list in some order -/
theorem msort_asc {xs : List Nat} {ys : List Int} (h : xs.Pairwise (· < ·)) (nd : ys.Nodup) (m : ∀ y, y ∈ ys ↔ ∃ x ∈ xs, y = (x : Int)) : msort ys = xs.map Int.ofNat := by
  refine (msort_eq ?_ ?_).symm
  · refine (List.perm_ext_iff_of_nodup ?_ nd).mpr fun y => ?_
    · rw [List.nodup_iff_pairwise_ne, List.pairwise_map]
      exact h.imp fun h z => by
        have : (_ : Int) = _ := z
        simp at this
        omega
    · rw [m, List.mem_map]
      constructor
      · rintro ⟨x, hx, rfl⟩; exact ⟨x, hx, rfl⟩
      · rintro ⟨x, hx, rfl⟩; exact ⟨x, hx, rfl⟩
  · rw [List.pairwise_map]
    exact h.imp fun h => by
      show ((_ : Nat) : Int) ≤ ((_ : Nat) : Int)
      omega
/-! ### places a step apart -/
def adjB (n : Nat) (ring : Bool) (p v w : Nat) : Bool := if ring then (v + p) % n == w || (w + p) % n == v else v + p == w || w + p == v
def nbs (n : Nat) (ring : Bool) (ps : List Nat) (v : Nat) : List Nat := (List.range n).filter fun w => w != v && ps.any fun p => adjB n ring p v w
theorem nbs_asc (n : Nat) (ring : Bool) (ps : List Nat) (v : Nat) : (nbs n ring ps v).Pairwise (· < ·) := List.Pairwise.filter _ List.pairwise_lt_range
theorem nbs_mem {n : Nat} {ring : Bool} {ps : List Nat} {v w : Nat} : w ∈ nbs n ring ps v ↔ w < n ∧ w ≠ v ∧ ∃ p ∈ ps, adjB n ring p v w = true := by
  unfold nbs
  rw [List.mem_filter, List.mem_range, Bool.and_eq_true, List.any_eq_true]
  simp
theorem adjB_sym {n : Nat} {ring : Bool} {p v w : Nat} : adjB n ring p v w = adjB n ring p w v := by
  unfold adjB
  split <;> exact Bool.or_comm _ _
theorem nbs_gr (n : Nat) (ring : Bool) (ps : List Nat) : Gr n (nbs n ring ps) := by
  refine ⟨fun v _ w h => (nbs_mem.mp h).1, fun v hv w h => ?_⟩
  obtain ⟨h1, h2, p, hp, ha⟩ := nbs_mem.mp h
  exact nbs_mem.mpr ⟨hv, fun z => h2 z.symm, p, hp, by rw [adjB_sym]; exact ha⟩
theorem adjO {n p v w : Nat} : adjB n false p v w = true ↔ v + p = w ∨ w + p = v := by
  unfold adjB; simp
/-- a list of periods -/
structure PerOk (ps : List Nat) : Prop where
  asc : ps.Pairwise (· < ·)
  rng : ∀ p ∈ ps, 1 ≤ p ∧ p ≤ 12
  len : 1 ≤ ps.length ∧ ps.length ≤ 3
theorem PerOk.nd {ps : List Nat} (h : PerOk ps) : ps.Nodup := h.asc.imp fun h => Nat.ne_of_lt h
/-! ### comprehensions over one kind of things -/
theorem fgt1_set (i : Nat) (ρ : Env) (x : Option D) : fgtE [i] (ρ.set i x) = fgtE [i] ρ := by
  show (ρ.set i x).set i none = ρ.set i none
  rw [List.set_set]
theorem lc1_gen {i : Nat} {ρ0 : Env} {d y : D} {b : Bool} {ft : Option ValF} {fe : ValF} (hi : i < ρ0.length) (h0 : fgtE [i] ρ0 = ρ0) (ht : match ft with
      | none => b = true
      | some t => t (ρ0.set i (some d)) = .ok (.bl b) (ρ0.set i (some d))) (he : b = true → fe (ρ0.set i (some d)) = .ok y (ρ0.set i (some d))) : lc1 (tgN i) [i] ft fe d ρ0 = some (if b = true then some y else none, ρ0) := by
  unfold lc1
  have e1 : tgN i d ρ0 = some (ρ0.set i (some d)) := if_pos hi
  rw [e1]
  dsimp only
  cases ft with
  | none =>
    dsimp only at ht ⊢
    subst ht
    rw [he rfl]
    dsimp only
    rw [fgt1_set, h0]; rfl
  | some t =>
    dsimp only at ht ⊢
    rw [ht]
    cases b with
    | true => dsimp only; rw [he rfl]; dsimp only; rw [fgt1_set, h0]; rfl
    | false => dsimp only; rw [fgt1_set, h0]; rfl
theorem filterMap_gen {α : Type} (c : α → D) (p : α → Bool) (g : α → D) (G : D → Option D) : ∀ L : List α, (∀ x ∈ L, G (c x) = if p x = true then some (g x) else none) → (L.map c).filterMap G = (L.filter p).map g
  | [], _ => rfl
  | x :: L, h => by
    have hx := h x List.mem_cons_self
    have ih := filterMap_gen c p g G L fun y hy => h y (List.mem_cons_of_mem _ hy)
    rw [List.map_cons]
    by_cases q : p x = true
    · rw [if_pos q] at hx
      rw [List.filterMap_cons_some hx, ih, List.filter_cons_of_pos q, List.map_cons]
    · rw [if_neg q] at hx
      rw [List.filterMap_cons_none hx, ih, List.filter_cons_of_neg q]
/-- a walk of a list, by the items' places -/
theorem lcL_gen {α : Type} {i : Nat} {ft : Option ValF} {fe : ValF} (c : α → D) (p : α → Bool) (g : α → D) {ρ0 : Env} (hi : i < ρ0.length) (h0 : fgtE [i] ρ0 = ρ0) : ∀ (L : List α) (acc : List D), (∀ x ∈ L, (match ft with
      | none => p x = true
      | some t => t (ρ0.set i (some (c x))) = .ok (.bl (p x)) (ρ0.set i (some (c x)))) ∧ (p x = true → fe (ρ0.set i (some (c x))) = .ok (g x) (ρ0.set i (some (c x))))) → acc.length + L.length ≤ lim →
    lcL (tgN i) [i] ft fe (L.map c) acc ρ0 = .ok (acc ++ (L.filter p).map g) ρ0
  | [], acc, _, _ => by
    show ARes.ok acc ρ0 = .ok (acc ++ []) ρ0
    rw [List.append_nil]
  | x :: L, acc, h, hl => by
    obtain ⟨h1, h2⟩ := h x List.mem_cons_self
    rw [List.length_cons] at hl
    rw [List.map_cons, lcL_cons (lc1_gen (b := p x) (y := g x) hi h0 h1 h2) (by omega)]
    rw [lcL_gen c p g hi h0 L _ (fun y hy => h y (List.mem_cons_of_mem _ hy)) (by
      rw [List.length_append]
      have : (if p x = true then some (g x) else none).toList.length ≤ 1 := by split <;> simp
      omega), List.append_assoc]
    congr 2
    by_cases q : p x = true
    · rw [if_pos q, List.filter_cons_of_pos q, List.map_cons]; rfl
    · rw [if_neg q, List.filter_cons_of_neg q]; rfl
theorem lcF_gen {α : Type} {i : Nat} {f : IterF} {ft : Option ValF} {fe : ValF} {ρ ρ1 : Env} {src : List D} (c : α → D) (p : α → Bool) (g : α → D) {L : List α} (e : f ρ = .ok (L.map c) src ρ1) (hi : i < ρ1.length) (h : ∀ x ∈ L, (match ft with
      | none => p x = true
      | some t => t ((fgtE [i] ρ1).set i (some (c x))) = .ok (.bl (p x)) ((fgtE [i] ρ1).set i (some (c x)))) ∧ (p x = true → fe ((fgtE [i] ρ1).set i (some (c x))) = .ok (g x) ((fgtE [i] ρ1).set i (some (c x))))) (hl : L.length ≤ lim) :
    lcF f (tgN i) [i] ft fe ρ = .ok (.lst ((L.filter p).map g)) (fgtE [i] ρ1) := by
  unfold lcF
  rw [e]
  dsimp only
  rw [lcL_gen c p g (by rw [fgtE_len]; exact hi) (fgtE_idem _ _) L [] h (by simpa using hl)]
  dsimp only
  rw [fgtE_idem, List.nil_append]
theorem var_set {i : Nat} {ρ : Env} {d : D} (hi : i < ρ.length) : var i (ρ.set i (some d)) = .ok d (ρ.set i (some d)) := var_ok (List.getElem?_set_self hi)
/-- [x for x in .. if t] -/
theorem lcF_sel {α : Type} {i : Nat} {f : IterF} {t : ValF} {ρ ρ1 : Env} {src : List D} (c : α → D) (p : α → Bool) {L : List α} (e : f ρ = .ok (L.map c) src ρ1) (h : ∀ x ∈ L, t ((fgtE [i] ρ1).set i (some (c x))) = .ok (.bl (p x)) ((fgtE [i] ρ1).set i (some (c x)))) (hl : L.length ≤ lim) (hi : i < ρ1.length := by exact Nat.lt_of_succ_le (Nat.le_of_ble_eq_true rfl)) :
    lcF f (tgN i) [i] (some t) (var i) ρ = .ok (.lst ((L.filter p).map c)) (fgtE [i] ρ1) :=
  lcF_gen c p c e hi (fun x hx => ⟨h x hx, fun _ => var_set (by rw [fgtE_len]; exact hi)⟩) hl
/-- [e for x in ..] -/
theorem lcF_mp {α : Type} {i : Nat} {f : IterF} {fe : ValF} {ρ ρ1 : Env} {src : List D} (c g : α → D) {L : List α} (e : f ρ = .ok (L.map c) src ρ1) (h : ∀ x ∈ L, fe ((fgtE [i] ρ1).set i (some (c x))) = .ok (g x) ((fgtE [i] ρ1).set i (some (c x)))) (hl : L.length ≤ lim) (hi : i < ρ1.length := by exact Nat.lt_of_succ_le (Nat.le_of_ble_eq_true rfl)) :
    lcF f (tgN i) [i] none fe ρ = .ok (.lst (L.map g)) (fgtE [i] ρ1) := by
  have := lcF_gen (ft := none) c (fun _ => true) g e hi (fun x hx => ⟨rfl, fun _ => h x hx⟩) hl
  rw [this, List.filter_eq_self.mpr fun _ _ => rfl]
def nD (x : Nat) : D := .int (x : Int)
theorem nL_map (xs : List Nat) : nL xs = xs.map nD := rfl
theorem intsR_nL (n : Nat) : intsR 0 n = nL (List.range n) := by
  unfold intsR nL
  exact List.map_congr_left fun i _ => by rw [Int.zero_add]
theorem lim_val : lim = 1000000 := rfl
end Pv

/-! Pu2: pure semantics, backward: one rule for each form; the environment stays a written list. -/
namespace Pv
open PySem PySem.Spec L2
open PyProof.Rows hiding St
structure Ok1 (r : Option D) (P : D → Prop) : Prop where
  q : ∃ z, r = some z ∧ P z
structure Lk (ρ : Env) (i : Nat) (P : D → Prop) : Prop where
  q : ∃ d, ρ[i]? = some (some d) ∧ P d
structure SetE (ρ : Env) (i : Nat) (o : Option D) (P : Env → Prop) : Prop where
  l : i < ρ.length
  q : P (ρ.set i o)
structure Sm3 (n : Nat) (P : Prop) : Prop where
  h : n ≤ 1000
  q : P
structure IsB (d : D) (P : Bool → Prop) : Prop where
  q : ∃ b, d = .bl b ∧ P b
structure IsI (d : D) (P : Int → Prop) : Prop where
  q : ∃ b, d = .int b ∧ P b
structure IsS (d : D) (P : List Nat → Prop) : Prop where
  q : ∃ b, d = .str b ∧ P b
structure IsLs (d : D) (P : List D → Prop) : Prop where
  q : ∃ b, d = .lst b ∧ P b
structure Br (b : Bool) (P Q : Prop) : Prop where
  t : b = true → P
  f : b = false → Q
structure NR (d : D) (P : Prop) : Prop where
  h : noRnd d = true
  q : P
structure Sm (n : Nat) (P : Prop) : Prop where
  h : n ≤ lim
  q : P
structure TgO (t : TgtF) (d : D) (ρ : Env) (P : Env → Prop) : Prop where
  q : ∃ ρ1, t d ρ = some ρ1 ∧ P ρ1
structure SetN (n : Nat) (ds : List D) (P : Env → Prop) : Prop where
  q : P (envP n ds)
structure RepN (n : Nat) (P : Env → Prop) : Prop where
  q : P (List.replicate n none)
structure FgtQ (is : List Nat) (ρ : Env) (P : Env → Prop) : Prop where
  q : P (fgtE is ρ)
structure CallO (F : List D → PRes) (ds : List D) (P : D → Prop) : Prop where
  q : ∃ d, F ds = .rt d ∧ P d
structure Al (r : ARes) (Q : List D → Env → Prop) : Prop where
  q : ∃ ds ρ, r = .ok ds ρ ∧ Q ds ρ
structure It (r : IRes) (Q : List D → Env → Prop) : Prop where
  q : ∃ ds src ρ, r = .ok ds src ρ ∧ Q ds ρ
section
variable {ρ ρ1 : Env} {i j k : Nat} {d x y z : D} {b : Bool} {P : D → Prop} {N : Env → Prop} {R Q : D → Env → Prop}
theorem ok1 {r : Option D} (e : r = some z) (p : P z) : Ok1 r P := ⟨z, e, p⟩
theorem lk_0 (p : P d) : Lk (some d :: ρ) 0 P := ⟨d, rfl, p⟩
theorem lk_s {x : Option D} (p : Lk ρ i P) : Lk (x :: ρ) (i + 1) P := ⟨p.q⟩
theorem lk (e : ρ[i]? = some (some d)) (p : P d) : Lk ρ i P := ⟨d, e, p⟩
theorem set_0 {x o : Option D} {P : Env → Prop} (p : P (o :: ρ)) : SetE (x :: ρ) 0 o P := ⟨by simp, p⟩
theorem set_s {x o : Option D} {P : Env → Prop} (p : SetE ρ i o fun ρ' => P (x :: ρ')) : SetE (x :: ρ) (i + 1) o P := ⟨by simpa using p.l, p.q⟩
theorem isb {P : Bool → Prop} (p : P b) : IsB (.bl b) P := ⟨b, rfl, p⟩
theorem isi {i : Int} {P : Int → Prop} (p : P i) : IsI (.int i) P := ⟨i, rfl, p⟩
theorem iss {i : List Nat} {P : List Nat → Prop} (p : P i) : IsS (.str i) P := ⟨i, rfl, p⟩
theorem isls {i : List D} {P : List D → Prop} (p : P i) : IsLs (.lst i) P := ⟨i, rfl, p⟩
theorem br_t {P Q : Prop} (p : P) : Br true P Q := ⟨fun _ => p, fun z => nomatch z⟩
theorem br_f {P Q : Prop} (p : Q) : Br false P Q := ⟨fun z => (nomatch z), fun _ => p⟩
theorem br_nt {P Q : Prop} (p : Q) : Br (!true) P Q := Br.mk (fun z => Bool.noConfusion z) (fun _ => p)
theorem br_nf {P Q : Prop} (p : P) : Br (!false) P Q := Br.mk (fun _ => p) (fun z => Bool.noConfusion z)
theorem nr_l {xs : List D} {P : Prop} (p : P) : NR (.lst xs) P := ⟨rfl, p⟩
theorem nr_k {xs : List (Key × D)} {P : Prop} (p : P) : NR (.dik xs) P := ⟨rfl, p⟩
theorem nr_t {xs : List (List Key × D)} {P : Prop} (p : P) : NR (.dit xs) P := ⟨rfl, p⟩
theorem sm {n : Nat} {P : Prop} (p : P) (h : n ≤ lim) : Sm n P := ⟨h, p⟩
theorem callo {F : List D → PRes} {ds : List D} (e : F ds = .rt d) (p : P d) : CallO F ds P := ⟨d, e, p⟩
theorem tgo_n {P : Env → Prop} (h : SetE ρ i (some d) P) : TgO (tgN i) d ρ P := ⟨_, if_pos h.l, h.q⟩
theorem tgo_2 {P : Env → Prop} (h : SetE ρ i (some x) fun ρ1 => SetE ρ1 j (some y) P) : TgO (tgT2 i j) (.tup [x, y]) ρ P := ⟨_, by
  show (tgN i x ρ).bind (fun ρ' => tgN j y ρ') = _
  rw [show tgN i x ρ = some (ρ.set i (some x)) from if_pos h.l]
  exact if_pos h.q.l, h.q.q⟩
theorem fgq_n {P : Env → Prop} (p : P ρ) : FgtQ [] ρ P := ⟨p⟩
theorem fgq_c {is : List Nat} {P : Env → Prop} (p : SetE ρ i none fun ρ1 => FgtQ is ρ1 P) : FgtQ (i :: is) ρ P := ⟨p.q.q⟩
theorem repn_0 {P : Env → Prop} (p : P []) : RepN 0 P := ⟨p⟩
theorem repn_s {n : Nat} {P : Env → Prop} (p : RepN n fun ρ => P (none :: ρ)) : RepN (n + 1) P := ⟨p.q⟩
theorem setn_0 {n : Nat} {P : Env → Prop} (p : RepN n P) : SetN n [] P := ⟨p.q⟩
theorem setn_c {n : Nat} {ds : List D} {P : Env → Prop} (p : SetN n ds fun ρ => P (some d :: ρ)) : SetN (n + 1) (d :: ds) P := ⟨by
  have := p.q
  unfold envP at this ⊢
  rw [List.map_cons, List.length_cons, Nat.add_sub_add_right]
  exact this⟩
/-! values -/
theorem vcst (q : Q d ρ) : Vl (cst d ρ) Q := ⟨_, _, rfl, q⟩
theorem vvar (h : Lk ρ i fun d => Q d ρ) : Vl (var i ρ) Q := by
  obtain ⟨d, e, q⟩ := h.q
  exact wv_of (var_ok e) q
variable {f f' : ValF} {g : D → D → Option D} {u : D → Option D}
theorem vbvv (h : Vl (f ρ) fun x ρ1 => Vl (f' ρ1) fun y ρ2 => Ok1 (g x y) fun z => Q z ρ2) : Vl (bin2 (.v f) (.v f') g ρ) Q := by
  obtain ⟨x, ρ1, e1, h⟩ := h.q
  obtain ⟨y, ρ2, e2, h⟩ := h.q
  obtain ⟨z, e3, q⟩ := h.q
  exact wv_of (vv_ok e1 e2 e3) q
theorem vbvs (h : Vl (f ρ) fun x ρ1 => Lk ρ1 j fun y => Ok1 (g x y) fun z => Q z ρ1) : Vl (bin2 (.v f) (.s j) g ρ) Q := by
  obtain ⟨x, ρ1, e1, h⟩ := h.q
  obtain ⟨y, e2, h⟩ := h.q
  obtain ⟨z, e3, q⟩ := h.q
  exact wv_of (vs_ok e1 e2 e3) q
theorem vbsv (h : Lk ρ i fun _ => Vl (f' ρ) fun y ρ1 => Lk ρ1 i fun x => Ok1 (g x y) fun z => Q z ρ1) : Vl (bin2 (.s i) (.v f') g ρ) Q := by
  obtain ⟨x0, e0, h⟩ := h.q
  obtain ⟨y, ρ1, e1, h⟩ := h.q
  obtain ⟨x, e2, h⟩ := h.q
  obtain ⟨z, e3, q⟩ := h.q
  refine wv_of ?_ q
  rw [bin2_sv, look_s e0, e1, bind_ok, look_s e2, e3]; rfl
theorem vbss (h : Lk ρ i fun x => Lk ρ j fun y => Ok1 (g x y) fun z => Q z ρ) : Vl (bin2 (.s i) (.s j) g ρ) Q := by
  obtain ⟨x, e1, h⟩ := h.q
  obtain ⟨y, e2, h⟩ := h.q
  obtain ⟨z, e3, q⟩ := h.q
  exact wv_of (ss_ok e1 e2 e3) q
theorem vuv (h : Vl (f ρ) fun x ρ1 => Ok1 (u x) fun z => Q z ρ1) : Vl (un1 (.v f) u ρ) Q := by
  obtain ⟨x, ρ1, e1, h⟩ := h.q
  obtain ⟨z, e3, q⟩ := h.q
  exact wv_of (uv_ok e1 e3) q
theorem vus (h : Lk ρ i fun x => Ok1 (u x) fun z => Q z ρ) : Vl (un1 (.s i) u ρ) Q := by
  obtain ⟨x, e1, h⟩ := h.q
  obtain ⟨z, e3, q⟩ := h.q
  exact wv_of (us_ok e1 e3) q
theorem vnot (h : Vl (f ρ) fun d ρ1 => IsB d fun b => Q (.bl (!b)) ρ1) : Vl (notF f ρ) Q := by
  obtain ⟨x, ρ1, e1, h⟩ := h.q
  obtain ⟨b, rfl, q⟩ := h.q
  exact wv_of (not_ok e1) q
theorem vand (h : Vl (f ρ) fun d ρ1 => IsB d fun b => Br b (Vl (f' ρ1) Q) (Q (.bl false) ρ1)) : Vl (andF f f' ρ) Q := by
  obtain ⟨x, ρ1, e1, h⟩ := h.q
  obtain ⟨b, rfl, q⟩ := h.q
  cases b with
  | true => rw [and_t e1]; exact q.t rfl
  | false => rw [and_f e1]; exact ⟨_, _, rfl, q.f rfl⟩
theorem vor (h : Vl (f ρ) fun d ρ1 => IsB d fun b => Br b (Q (.bl true) ρ1) (Vl (f' ρ1) Q)) : Vl (orF f f' ρ) Q := by
  obtain ⟨x, ρ1, e1, h⟩ := h.q
  obtain ⟨b, rfl, q⟩ := h.q
  cases b with
  | false => rw [or_f e1]; exact q.f rfl
  | true => rw [or_t e1]; exact ⟨_, _, rfl, q.t rfl⟩
theorem vif {c : ValF} (h : Vl (c ρ) fun d ρ1 => IsB d fun b => Br b (Vl (f ρ1) Q) (Vl (f' ρ1) Q)) : Vl (ifF c f f' ρ) Q := by
  obtain ⟨x, ρ1, e1, h⟩ := h.q
  obtain ⟨b, rfl, q⟩ := h.q
  rw [ifF_def, e1, bind_ok]
  cases b with
  | false => exact q.f rfl
  | true => exact q.t rfl
theorem vpub (h : Vl (f ρ) fun d ρ1 => NR d (Q d ρ1)) : Vl (pubF f ρ) Q := by
  obtain ⟨x, ρ1, e1, h⟩ := h.q
  refine wv_of (d := x) ?_ h.q
  unfold pubF; rw [e1]; dsimp only; rw [if_pos h.h]
theorem vch {g g' : D → D → Option D} {fa fb fc : ValF} (h : Vl (fa ρ) fun x ρ1 => Vl (fb ρ1) fun y ρ2 => Ok1 (g x y) fun z => IsB z fun b => Br b (Vl (fc ρ2) fun w ρ3 => Ok1 (g' y w) fun z => Q z ρ3) (Q (.bl false) ρ2)) : Vl (chF g g' fa fb fc ρ) Q := by
  obtain ⟨x, ρ1, e1, h⟩ := h.q
  obtain ⟨y, ρ2, e2, h⟩ := h.q
  obtain ⟨z, e3, h⟩ := h.q
  obtain ⟨b, rfl, q⟩ := h.q
  rw [chF_def, e1, bind_ok, e2, bind_ok, e3]
  cases b with
  | false => exact ⟨_, _, rfl, q.f rfl⟩
  | true =>
    obtain ⟨w, ρ3, e4, h⟩ := (q.t rfl).q
    obtain ⟨z, e5, q⟩ := h.q
    dsimp only
    rw [e4, bind_ok, e5]
    exact ⟨_, _, rfl, q⟩
theorem alnil {Q : List D → Env → Prop} (q : Q [] ρ) : Al (aNil ρ) Q := ⟨_, _, rfl, q⟩
theorem alcons {fa : ArgF} {Q : List D → Env → Prop} (h : Vl (f ρ) fun d ρ1 => Al (fa ρ1) fun ds ρ2 => Q (d :: ds) ρ2) : Al (aCons f fa ρ) Q := by
  obtain ⟨x, ρ1, e1, h⟩ := h.q
  obtain ⟨y, ρ2, e2, h⟩ := h.q
  exact ⟨_, _, aCons_ok e1 e2, h⟩
theorem vlst {fa : ArgF} (h : Al (fa ρ) fun ds ρ1 => Sm ds.length (Q (.lst ds) ρ1)) : Vl (lstF fa ρ) Q := by
  obtain ⟨x, ρ1, e1, h⟩ := h.q
  exact wv_of (lstF_ok e1 h.h) h.q
theorem vtup {fa : ArgF} (h : Al (fa ρ) fun ds ρ1 => Sm ds.length (Q (.tup ds) ρ1)) : Vl (tupF fa ρ) Q := by
  obtain ⟨x, ρ1, e1, h⟩ := h.q
  exact wv_of (tupF_ok e1 h.h) h.q
theorem sml {n : Nat} {P : Prop} (h : Nat.ble n 1000000 = true) (p : P) : Sm n P := ⟨Nat.le_of_ble_eq_true h, p⟩
theorem sml3 {n : Nat} {P : Prop} (h : Nat.ble n 1000 = true) (p : P) : Sm3 n P := ⟨Nat.le_of_ble_eq_true h, p⟩
theorem vcallP {F : List D → PRes} {fa : ArgF} (h : Al (fa ρ) fun ds ρ1 => CallO F ds fun d => Q d ρ1) : Vl (callP F fa ρ) Q := by
  obtain ⟨x, ρ1, e1, h⟩ := h.q
  obtain ⟨d, e2, h⟩ := h.q
  exact wv_of (callP_ok e1 e2) h
/-! slices -/
theorem vsl0 {v : ValF} (h : Vl (f ρ) fun x ρ1 => Vl (v ρ1) fun d ρ2 => IsI d fun n => Ok1 (slD none (some n) x) fun z => Q z ρ2) : Vl (slF f none (some v) ρ) Q := by
  obtain ⟨x, ρ1, e1, h⟩ := h.q
  obtain ⟨d, ρ2, e2, h⟩ := h.q
  obtain ⟨n, rfl, h'⟩ := h.q
  obtain ⟨z, e3, q⟩ := h'.q
  refine wv_of (d := z) (ρ := ρ2) ?_ q
  show (f ρ).bind (fun x ρ1 => (v ρ1).bind (intK fun u ρ3 => ofO (slD none u x) ρ3)) = _
  rw [e1, bind_ok, e2, bind_ok]
  show ofO (slD none (some n) x) ρ2 = _
  rw [e3]; rfl
theorem vsl1 {v : ValF} (h : Vl (f ρ) fun x ρ1 => Vl (v ρ1) fun d ρ2 => IsI d fun n => Ok1 (slD (some n) none x) fun z => Q z ρ2) : Vl (slF f (some v) none ρ) Q := by
  obtain ⟨x, ρ1, e1, h⟩ := h.q
  obtain ⟨d, ρ2, e2, h⟩ := h.q
  obtain ⟨n, rfl, h'⟩ := h.q
  obtain ⟨z, e3, q⟩ := h'.q
  refine wv_of (d := z) (ρ := ρ2) ?_ q
  show (f ρ).bind (fun x ρ1 => (v ρ1).bind (intK fun l ρ2 => ofO (slD l none x) ρ2)) = _
  rw [e1, bind_ok, e2, bind_ok]
  show ofO (slD (some n) none x) ρ2 = _
  rw [e3]; rfl
theorem vsl2 {v w : ValF} (h : Vl (f ρ) fun x ρ1 => Vl (v ρ1) fun d ρ2 => IsI d fun n => Vl (w ρ2) fun d ρ3 => IsI d fun m => Ok1 (slD (some n) (some m) x) fun z => Q z ρ3) : Vl (slF f (some v) (some w) ρ) Q := by
  obtain ⟨x, ρ1, e1, h⟩ := h.q
  obtain ⟨d, ρ2, e2, h⟩ := h.q
  obtain ⟨n, rfl, h'⟩ := h.q
  obtain ⟨d, ρ3, e4, h'⟩ := h'.q
  obtain ⟨m, rfl, h''⟩ := h'.q
  obtain ⟨z, e3, q⟩ := h''.q
  refine wv_of (d := z) (ρ := ρ3) ?_ q
  show (f ρ).bind (fun x ρ1 => (v ρ1).bind (intK fun l ρ2 => (w ρ2).bind (intK fun u ρ3 => ofO (slD l u x) ρ3))) = _
  rw [e1, bind_ok, e2, bind_ok]
  show (w ρ2).bind (intK fun u ρ3 => ofO (slD (some n) u x) ρ3) = _
  rw [e4, bind_ok]
  show ofO (slD (some n) (some m) x) ρ3 = _
  rw [e3]; rfl
theorem vslG1 {gg : Option Int → Option Int → D → Option D} {v w : ValF} (h : Vl (f ρ) fun x ρ1 => Vl (v ρ1) fun d ρ2 => IsI d fun n => Vl (w ρ2) fun d ρ3 => IsI d fun m => Ok1 (gg (some n) (some m) x) fun z => Q z ρ3) : Vl (slG gg f (some v) (some w) ρ) Q := by
  obtain ⟨x, ρ1, e1, h⟩ := h.q
  obtain ⟨d, ρ2, e2, h⟩ := h.q
  obtain ⟨n, rfl, h'⟩ := h.q
  obtain ⟨d, ρ3, e4, h'⟩ := h'.q
  obtain ⟨m, rfl, h''⟩ := h'.q
  obtain ⟨z, e3, q⟩ := h''.q
  refine wv_of (d := z) (ρ := ρ3) ?_ q
  show (f ρ).bind (fun x ρ1 => (v ρ1).bind (intK fun l ρ2 => (w ρ2).bind (intK fun u ρ3 => ofO (gg l u x) ρ3))) = _
  rw [e1, bind_ok, e2, bind_ok]
  show (w ρ2).bind (intK fun u ρ3 => ofO (gg (some n) u x) ρ3) = _
  rw [e4, bind_ok]
  show ofO (gg (some n) (some m) x) ρ3 = _
  rw [e3]; rfl
theorem vmet {G : D → D → Option D} (h : Vl (f ρ) fun x ρ1 => IsS x fun a => Vl (f' ρ1) fun y ρ2 => Ok1 (G (.str a) y) fun z => Q z ρ2) : Vl (met1 f f' G ρ) Q := by
  obtain ⟨x, ρ1, e1, h⟩ := h.q
  obtain ⟨a, rfl, h'⟩ := h.q
  obtain ⟨y, ρ2, e2, h'⟩ := h'.q
  obtain ⟨z, e3, q⟩ := h'.q
  exact wv_of (met1_ok e1 e2 e3) q
theorem vdnK (q : Q (.dik []) ρ) : Vl (dnK ρ) Q := ⟨_, _, rfl, q⟩
theorem vdnT (q : Q (.dit []) ρ) : Vl (dnT ρ) Q := ⟨_, _, rfl, q⟩
theorem vdnL (q : Q (.dil []) ρ) : Vl (dnL ρ) Q := ⟨_, _, rfl, q⟩
theorem vpop (h : Lk ρ k fun d => ∃ xs y, d = .lst (xs ++ [y]) ∧ SetE ρ k (some (.lst xs)) fun ρ1 => Q y ρ1) : Vl (popV k ρ) Q := by
  obtain ⟨d, e, xs, y, rfl, h'⟩ := h.q
  refine wv_of (d := y) (ρ := ρ.set k (some (.lst xs))) ?_ h'.q
  unfold popV
  rw [e]
  dsimp only
  rw [List.length_append, List.length_singleton, Nat.add_sub_cancel, List.getElem?_append_right (Nat.le_refl _), Nat.sub_self]
  dsimp only [List.getElem?_cons_zero]
  rw [List.dropLast_concat]
theorem vget {fk fx : ValF} (h : Lk ρ i fun d => isDic d = true ∧ Vl (fk ρ) fun k ρ1 => Vl (fx ρ1) fun x ρ2 => Lk ρ2 i fun d => ∃ r, dlook d k = some r ∧ Q (r.getD x) ρ2) : Vl (getF (.s i) fk fx ρ) Q := by
  obtain ⟨d, e, h0, h⟩ := h.q
  obtain ⟨k, ρ1, e1, h⟩ := h.q
  obtain ⟨x, ρ2, e2, h⟩ := h.q
  obtain ⟨d', e3, r, e4, q⟩ := h.q
  refine wv_of (d := r.getD x) (ρ := ρ2) ?_ q
  show look ρ i (fun d0 => if isDic d0 = true then (fk ρ).bind fun k ρ2 => (fx ρ2).bind fun x ρ3 => look ρ3 i fun d => ofO ((dlook d k).map (·.getD x)) ρ3 else .no) = _
  rw [look_s e, if_pos h0, e1, bind_ok, e2, bind_ok, look_s e3, e4]; rfl
theorem vgetV {fk fx : ValF} (h : Vl (f ρ) fun d ρ1 => isDic d = true ∧ Vl (fk ρ1) fun k ρ2 => Vl (fx ρ2) fun x ρ3 => ∃ r, dlook d k = some r ∧ Q (r.getD x) ρ3) : Vl (getF (.v f) fk fx ρ) Q := by
  obtain ⟨d, ρ1, e, h0, h⟩ := h.q
  obtain ⟨k, ρ2, e1, h⟩ := h.q
  obtain ⟨x, ρ3, e2, r, e4, q⟩ := h.q
  refine wv_of (d := r.getD x) (ρ := ρ3) ?_ q
  show (f ρ).bind (fun d ρ1 => if isDic d = true then (fk ρ1).bind fun k ρ2 => (fx ρ2).bind fun x ρ3 => ofO ((dlook d k).map (·.getD x)) ρ3 else .no) = _
  rw [e, bind_ok, if_pos h0, e1, bind_ok, e2, bind_ok, e4]; rfl
/-! draws -/
theorem vnext {la : Addr} {fa : ArgF} (h : Lk ρ k fun _ => Al (fa ρ) fun ds ρ1 => Lk ρ1 k fun r => ∃ cap : Nat, ds = [.int (cap : Int)] ∧ (0 < cap ∧ cap < 2 ^ 200) ∧ Src la r ∧ ∀ (v : Nat) (r' : D), v < cap → Src la r' → SetE ρ1 k (some r') fun ρ2 => Q (.int (v : Int)) ρ2) : Vl (callR nextF k fa ρ) Q := by
  obtain ⟨d, e, h⟩ := h.q
  obtain ⟨ds, ρ1, e1, h⟩ := h.q
  obtain ⟨r, e2, cap, rfl, h1, h2, h3⟩ := h.q
  exact wv_nx h2 h1 (fun v r' hv hr => (h3 v r' hv hr).q) e1 e e2
def Drw' (la : Addr) (x : RRes) (Q : D → Prop) : Prop := ∃ d r', x = .rt d r' ∧ Src la r' ∧ Q d
theorem vdraw {la : Addr} {F : D → List D → RRes} {fa : ArgF} (h : Lk ρ k fun _ => Al (fa ρ) fun ds ρ1 => Lk ρ1 k fun r => Src la r ∧ ∃ P : D → Prop, Drw' la (F r ds) P ∧ ∀ (d : D) (r' : D), P d → Src la r' → SetE ρ1 k (some r') fun ρ2 => Q d ρ2) : Vl (callR F k fa ρ) Q := by
  obtain ⟨d, e, h⟩ := h.q
  obtain ⟨ds, ρ1, e1, h⟩ := h.q
  obtain ⟨r, e2, h1, P, ⟨d', r', e3, hr', p⟩, h3⟩ := h.q
  exact wv_of (callR_ok e e1 e2 h1 e3 hr') (h3 d' r' p hr').q
/-! walks -/
variable {QI : List D → Env → Prop}
structure IsL (d : D) (P : List D → Prop) : Prop where
  q : ∃ ds, (d = .lst ds ∨ d = .tup ds ∨ ∃ x, d = .str x ∧ ds = signs x) ∧ P ds
theorem isl_l {xs : List D} {P : List D → Prop} (p : P xs) : IsL (.lst xs) P := ⟨xs, .inl rfl, p⟩
theorem isl_t {xs : List D} {P : List D → Prop} (p : P xs) : IsL (.tup xs) P := ⟨xs, .inr (.inl rfl), p⟩
theorem isl_s {xs : List Nat} {P : List D → Prop} (p : P (signs xs)) : IsL (.str xs) P := ⟨_, .inr (.inr ⟨xs, rfl, rfl⟩), p⟩
theorem iv (h : Vl (f ρ) fun d ρ1 => IsL d fun ds => QI ds ρ1) : It (itV f ρ) QI := by
  obtain ⟨d, ρ1, e, h⟩ := h.q
  obtain ⟨ds, h1, q⟩ := h.q
  rcases h1 with rfl | rfl | ⟨x, rfl, rfl⟩
  · exact ⟨_, _, _, by unfold itV; rw [e], q⟩
  · exact ⟨_, _, _, by unfold itV; rw [e], q⟩
  · exact ⟨_, _, _, by unfold itV; rw [e], q⟩
theorem ir1 {fa : ArgF} (h : Al (fa ρ) fun ds ρ1 => ∃ n : Nat, ds = [.int (n : Int)] ∧ n < 2 ^ 62 ∧ QI (nL (List.range n)) ρ1) : It (itR1 fa ρ) QI := by
  obtain ⟨ds, ρ1, e, n, rfl, hn, q⟩ := h.q
  refine ⟨_, _, _, itR1_nat e hn, ?_⟩
  rw [intsR_nL]; exact q
theorem intsR_ab (a n : Nat) : intsR (a : Int) n = nL ((List.range n).map (a + ·)) := by
  unfold intsR nL
  rw [List.map_map]
  exact List.map_congr_left fun i _ => by show D.int _ = D.int _; congr 1
theorem ir2 {fa : ArgF} (h : Al (fa ρ) fun ds ρ1 => ∃ a b : Nat, ds = [.int (a : Int), .int (b : Int)] ∧ a < 2 ^ 62 ∧ b < 2 ^ 62 ∧ QI (nL ((List.range (b - a)).map (a + ·))) ρ1) : It (itR2 fa ρ) QI := by
  obtain ⟨ds, ρ1, e, a, b, rfl, ha, hb, q⟩ := h.q
  refine ⟨_, _, _, itR2_ok e (by omega), ?_⟩
  rw [show ((b : Int) - (a : Int)).toNat = b - a by omega, intsR_ab]; exact q
theorem ir3 {fa : ArgF} (h : Al (fa ρ) fun ds ρ1 => ∃ a b c : Nat, ds = [.int (a : Int), .int (b : Int), .int (c : Int)] ∧ a < 1000 ∧ b < 1000 ∧ 0 < c ∧ c < 1000 ∧ QI (intsC a c ((b - a + c - 1) / c)) ρ1) : It (itR3 fa ρ) QI := by
  obtain ⟨ds, ρ1, e, a, b, c, rfl, ha, hb, hc, hc2, q⟩ := h.q
  exact ⟨_, _, _, itR3_up e hc hc2 ha hb, q⟩
theorem izip {fa : ArgF} (h : Al (fa ρ) fun ds ρ1 => ∃ xs ys, ds = [.lst xs, .lst ys] ∧ QI (pairsZ xs ys) ρ1) : It (itZip fa ρ) QI := by
  obtain ⟨ds, ρ1, e, xs, ys, rfl, q⟩ := h.q
  exact ⟨_, _, _, itZip_ok e, q⟩
theorem ienum {fa : ArgF} (h : Al (fa ρ) fun ds ρ1 => ∃ xs, ds = [.lst xs] ∧ QI (pairsE xs) ρ1) : It (itEnum fa ρ) QI := by
  obtain ⟨ds, ρ1, e, xs, rfl, q⟩ := h.q
  exact ⟨_, _, _, itEnum_ok e, q⟩
theorem irev {fa : ArgF} (h : Al (fa ρ) fun ds ρ1 => ∃ xs, ds = [.lst xs] ∧ QI xs.reverse ρ1) : It (itRev fa ρ) QI := by
  obtain ⟨ds, ρ1, e, xs, rfl, q⟩ := h.q
  exact ⟨xs.reverse, [.lst xs], ρ1, by unfold itRev; rw [e]; rfl, q⟩
theorem izipS {fa : ArgF} (h : Al (fa ρ) fun ds ρ1 => ∃ xs ys, ds = [.lst xs, .str ys] ∧ QI (pairsZ xs (signs ys)) ρ1) : It (itZipS fa ρ) QI := by
  obtain ⟨ds, ρ1, e, xs, ys, rfl, q⟩ := h.q
  exact ⟨_, [.lst xs], ρ1, by unfold itZipS; rw [e], q⟩
theorem idk (h : Lk ρ i fun d => ∃ kvs, d = .dik kvs ∧ QI (kvs.map fun q => kD q.1) ρ) : It (itDk i ρ) QI := by
  obtain ⟨d, e, kvs, rfl, q⟩ := h.q
  exact ⟨_, [], ρ, by unfold itDk; rw [e], q⟩
theorem idv (h : Lk ρ i fun d => ∃ kvs, d = .dik kvs ∧ QI (kvs.map fun q => q.2) ρ) : It (itDv i ρ) QI := by
  obtain ⟨d, e, kvs, rfl, q⟩ := h.q
  exact ⟨_, [], ρ, by unfold itDv; rw [e], q⟩
/-! comprehensions -/
structure TstO (ft : Option ValF) (ρ : Env) (b : Bool) : Prop where
  q : match ft with
    | none => b = true
    | some t => t ρ = .ok (.bl b) ρ
theorem tst_n {b : Bool} (h : b = true) : TstO none ρ b := ⟨h⟩
structure Same2 (d : D) (ρ' : Env) (e : D) (ρ : Env) : Prop where
  e : d = e
  r : ρ' = ρ
theorem same2 : Same2 d ρ d ρ := ⟨rfl, rfl⟩
theorem tst_s {t : ValF} {b : Bool} (h : Vl (t ρ) fun d ρ' => Same2 d ρ' (.bl b) ρ) : TstO (some t) ρ b := ⟨by
  obtain ⟨d, ρ', e, ⟨rfl, rfl⟩⟩ := h.q
  exact e⟩
theorem vlc {α : Type} (c : α → D) (p : α → Bool) (g : α → D) (L : List α) {it : IterF} {ft : Option ValF} {fe : ValF}
    (h : It (it ρ) fun ds ρ1 => ds = L.map c ∧ L.length ≤ lim ∧ SetE ρ1 i none fun ρ0 => (∀ x ∈ L, SetE ρ0 i (some (c x)) fun ρx => TstO ft ρx (p x) ∧ (p x = true → Vl (fe ρx) fun d ρ' => Same2 d ρ' (g x) ρx)) ∧ Q (.lst ((L.filter p).map g)) ρ0) : Vl (lcF it (tgN i) [i] ft fe ρ) Q := by
  obtain ⟨ds, src, ρ1, e, rfl, hl, hi, h1, q⟩ := h.q
  refine wv_of (lcF_gen c p g e hi (fun x hx => ?_) hl) q
  have := (h1 x hx).q
  refine ⟨?_, fun hp => ?_⟩
  · have := this.1.q
    cases ft with
    | none => exact this
    | some t => exact this
  · obtain ⟨d, ρ', e, ⟨rfl, rfl⟩⟩ := (this.2 hp).q
    exact e
theorem vmapc {α : Type} (c g : α → D) (L : List α) {it : IterF} {fe : ValF}
    (h : It (it ρ) fun ds ρ1 => ds = L.map c ∧ L.length ≤ lim ∧ SetE ρ1 i none fun ρ0 => (∀ x ∈ L, SetE ρ0 i (some (c x)) fun ρx => Vl (fe ρx) fun d ρ' => Same2 d ρ' (g x) ρx) ∧ Q (.lst (L.map g)) ρ0) : Vl (lcF it (tgN i) [i] none fe ρ) Q := by
  obtain ⟨ds, src, ρ1, e, rfl, hl, hi, h1, q⟩ := h.q
  refine wv_of (lcF_mp c g e (fun x hx => ?_) hl hi) q
  obtain ⟨d, ρ', e, ⟨rfl, rfl⟩⟩ := (h1 x hx).q.q
  exact e
theorem vselc {α : Type} (c : α → D) (p : α → Bool) (L : List α) {it : IterF} {t : ValF}
    (h : It (it ρ) fun ds ρ1 => ds = L.map c ∧ L.length ≤ lim ∧ SetE ρ1 i none fun ρ0 => (∀ x ∈ L, SetE ρ0 i (some (c x)) fun ρx => Vl (t ρx) fun d ρ' => Same2 d ρ' (.bl (p x)) ρx) ∧ Q (.lst ((L.filter p).map c)) ρ0) : Vl (lcF it (tgN i) [i] (some t) (var i) ρ) Q := by
  obtain ⟨ds, src, ρ1, e, rfl, hl, hi, h1, q⟩ := h.q
  refine wv_of (lcF_sel c p e (fun x hx => ?_) hl hi) q
  obtain ⟨d, ρ', e, ⟨rfl, rfl⟩⟩ := (h1 x hx).q.q
  exact e
/-- .. by what stands before each turn -/
theorem vlcI {tgt : TgtF} {own : List Nat} {it : IterF} {fe : ValF} (I : Nat → List D → Env → Prop)
    (h : It (it ρ) fun ds ρ1 => ds.length ≤ lim ∧ FgtQ own ρ1 (I 0 []) ∧ (∀ k d acc ρ', ds[k]? = some d → I k acc ρ' → TgO tgt d ρ' fun ρx => Vl (fe ρx) fun y ρ2 => FgtQ own ρ2 (I (k + 1) (acc ++ [y]))) ∧ (∀ acc ρ', I ds.length acc ρ' → FgtQ own ρ' (Q (.lst acc)))) : Vl (lcF it tgt own none fe ρ) Q := by
  obtain ⟨ds, src, ρ1, e, hl, ⟨h0⟩, h1, q⟩ := h.q
  have key : ∀ (es : List D) (k : Nat) (acc : List D) (ρ' : Env), (∀ j d, es[j]? = some d → ds[k + j]? = some d) → k + es.length = ds.length → acc.length ≤ k → I k acc ρ' → ∃ ys ρ2, lcL tgt own none fe es acc ρ' = .ok ys ρ2 ∧ I ds.length ys ρ2 := by
    intro es
    induction es with
    | nil =>
      intro k acc ρ' _ hk _ hI
      rw [List.length_nil, Nat.add_zero] at hk
      subst hk
      exact ⟨acc, ρ', rfl, hI⟩
    | cons d es ih =>
      intro k acc ρ' hg hk ha hI
      obtain ⟨ρx, e1, hv⟩ := (h1 k d acc ρ' (hg 0 d rfl) hI).q
      obtain ⟨y, ρ2, e2, hI'⟩ := hv.q
      rw [List.length_cons] at hk
      obtain ⟨ys, ρ3, e3, q3⟩ := ih (k + 1) (acc ++ [y]) (fgtE own ρ2) (fun j d hd => by
        have := hg (j + 1) d (by simpa using hd)
        rw [show k + 1 + j = k + (j + 1) by omega]; exact this) (by omega) (by rw [List.length_append]; simp; omega) hI'.q
      refine ⟨ys, ρ3, ?_, q3⟩
      unfold lcL
      rw [e1]; dsimp only; rw [e2]; dsimp only
      rw [if_pos (by omega)]
      exact e3
  obtain ⟨ys, ρ2, e2, hI⟩ := key ds 0 [] _ (fun j d hd => by rw [Nat.zero_add]; exact hd) (by omega) (by simp) h0
  refine wv_of (d := .lst ys) (ρ := fgtE own ρ2) ?_ (q ys ρ2 hI).q
  unfold lcF
  rw [e]; dsimp only; rw [e2]
/-! statements -/
variable {fs gs : StF}
theorem sput (h : Vl (f ρ) fun d ρ1 => SetE ρ1 i (some d) N) : Sl (put i f ρ) N R := ws_put (wv_mono h fun d ρ q => ⟨q.l, q.q⟩)
theorem sret (h : Vl (f ρ) R) : Sl (retE f ρ) N R := ws_ret h
theorem sif {c : ValF} (h : Vl (c ρ) fun d ρ1 => IsB d fun b => Br b (Sl (fs ρ1) N R) (Sl (gs ρ1) N R)) : Sl (ifS c fs gs ρ) N R := ws_if (wv_mono h fun d ρ q => by
  obtain ⟨b, e, q'⟩ := q.q
  exact ⟨b, e, q'.t, q'.f⟩)
theorem sskip (h : N ρ) : Sl (sSkip ρ) N R := ws_skip h
theorem sdrp (h : Vl (f ρ) fun _ ρ1 => N ρ1) : Sl (drp f ρ) N R := ws_drp h
theorem sapp (h : Lk ρ k fun d => ∃ xs0, d = .lst xs0 ∧ Vl (f ρ) fun y ρ1 => Lk ρ1 k fun d => IsLs d fun xs => xs.length < lim ∧ SetE ρ1 k (some (.lst (xs ++ [y]))) N) : Sl (appS k f ρ) N R := by
  obtain ⟨d, e, xs0, rfl, h'⟩ := h.q
  obtain ⟨y, ρ1, e1, h'⟩ := h'.q
  obtain ⟨d, e2, h'⟩ := h'.q
  obtain ⟨xs, rfl, hl, h''⟩ := h'.q
  unfold appS
  rw [e]; dsimp only
  rw [e1, out_ok, e2]; dsimp only
  rw [if_pos hl]
  exact (ws_nx ..).mpr h''.q
theorem sstL {fi : ValF} (h : Vl (f ρ) fun d ρ1 => Lk ρ1 k fun _ => Vl (fi ρ1) fun n ρ2 => Lk ρ2 k fun l => ∃ (xs : List D) (n' : Int) (j : Nat), l = .lst xs ∧ n = .int n' ∧ ixN xs.length n' = some j ∧ SetE ρ2 k (some (.lst (xs.set j d))) N) : Sl (stL k fi f ρ) N R := by
  obtain ⟨d, ρ1, e1, h⟩ := h.q
  obtain ⟨d0, e2, h⟩ := h.q
  obtain ⟨n, ρ2, e3, h⟩ := h.q
  obtain ⟨l, e4, xs, n', j, rfl, rfl, e5, h'⟩ := h.q
  unfold stL
  rw [e1, out_ok, e2]; dsimp only
  rw [e3, out_ok, e4]; dsimp only
  rw [e5]
  exact (ws_nx ..).mpr h'.q
theorem spar2 {fa : ArgF} (h : Al (fa ρ) fun ds ρ1 => ∃ x y, ds = [x, y] ∧ SetE ρ1 i (some x) fun ρ2 => SetE ρ2 j (some y) N) : Sl (par2 i j fa ρ) N R := by
  obtain ⟨ds, ρ1, e, x, y, rfl, h'⟩ := h.q
  unfold par2
  rw [e]; dsimp only
  have := h'.q.l
  rw [List.length_set] at this
  rw [if_pos ⟨h'.l, this⟩]
  exact (ws_nx ..).mpr h'.q.q
structure Ml (r : MRes) (Q : List (Bool × D) → Env → Prop) : Prop where
  q : ∃ ms ρ, r = .ok ms ρ ∧ Q ms ρ
theorem mnil {Q : List (Bool × D) → Env → Prop} (q : Q [] ρ) : Ml (mNil ρ) Q := ⟨_, _, rfl, q⟩
theorem mv {fm : MF} {Q : List (Bool × D) → Env → Prop} (h : Vl (f ρ) fun d ρ1 => Ml (fm ρ1) fun ms ρ2 => Q ((false, d) :: ms) ρ2) : Ml (mV f fm ρ) Q := by
  obtain ⟨d, ρ1, e, h⟩ := h.q
  obtain ⟨ms, ρ2, e2, q⟩ := h.q
  exact ⟨_, _, by unfold mV; rw [e]; dsimp only; rw [e2], q⟩
structure FN (d : D) (P : Prop) : Prop where
  h : flatN d = true
  q : P
theorem fn_l {xs : List D} {P : Prop} (p : P) : FN (.lst xs) P := ⟨rfl, p⟩
theorem fn_k {xs : List (Key × D)} {P : Prop} (p : P) : FN (.dik xs) P := ⟨rfl, p⟩
theorem mf {fm : MF} {Q : List (Bool × D) → Env → Prop} (h : Vl (f ρ) fun d ρ1 => FN d (Ml (fm ρ1) fun ms ρ2 => Q ((true, d) :: ms) ρ2)) : Ml (mF f fm ρ) Q := by
  obtain ⟨d, ρ1, e, h1, h⟩ := h.q
  obtain ⟨ms, ρ2, e2, q⟩ := h.q
  exact ⟨_, _, by unfold mF; rw [e]; dsimp only; rw [if_pos h1, e2], q⟩
structure SetMs (is : List Nat) (ms : List (Bool × D)) (ρ : Env) (N : Env → Prop) : Prop where
  q : ∃ ρ1, setM is ms ρ = .nx ρ1 ∧ N ρ1
theorem setms_n (q : N ρ) : SetMs [] [] ρ N := ⟨_, rfl, q⟩
theorem setms_c {is : List Nat} {m : Bool} {ms : List (Bool × D)} (h : SetE ρ i (some d) fun ρ1 => SetMs is ms ρ1 N) : SetMs (i :: is) ((m, d) :: ms) ρ N := by
  obtain ⟨l, ρ1, e, q⟩ := h
  exact ⟨ρ1, by unfold setM; rw [if_pos l]; exact e, q⟩
theorem sparM {is : List Nat} {fm : MF} (h : Ml (fm ρ) fun ms ρ1 => Sm3 ρ1.length (SetMs is ms ρ1 N)) : Sl (parM is fm ρ) N R := by
  obtain ⟨ms, ρ1, e, hl, ⟨ρ2, e2, q⟩⟩ := h.q
  unfold parM
  rw [e]; dsimp only
  rw [if_pos hl, e2]
  exact (ws_nx ..).mpr q
theorem sfrz (h : Lk ρ i fun d => noRnd d = true ∧ Sl (fs ρ) N R) : Sl (frz i fs ρ) N R := by
  obtain ⟨d, e, hd, q⟩ := h.q
  exact ws_frz q e hd
theorem sfgt_n (h : N ρ) : Sl (fgt [] ρ) N R := (ws_nx ..).mpr h
theorem sfgt_c {is : List Nat} (h : SetE ρ i none fun ρ1 => Sl (fgt is ρ1) N R) : Sl (fgt (i :: is) ρ) N R := h.q
/-- a for loop, by what stands before each turn -/
theorem sfor {it : IterF} {t : TgtF} (P : Nat → Env → Prop) (h : It (it ρ) fun ds ρ1 => P 0 ρ1 ∧ (∀ k d ρ', ds[k]? = some d → P k ρ' → TgO t d ρ' fun ρx => Sl (fs ρx) (P (k + 1)) R) ∧ ∀ ρ', P ds.length ρ' → N ρ') : Sl (forS it t fs ρ) N R := by
  obtain ⟨ds, src, ρ1, e, h0, h1, h2⟩ := h.q
  exact ws_forR e P h0 (fun k d ρ' hd hP => (h1 k d ρ' hd hP).q) h2
theorem sasgG {t : TgtF} (h : Vl (f ρ) fun d ρ1 => TgO t d ρ1 N) : Sl (asgG f t ρ) N R := ws_asgG (wv_mono h fun _ _ q => q.q)
theorem sdput {fk fv : ValF} (h : Vl (fv ρ) fun d ρ1 => Lk ρ1 i fun _ => Vl (fk ρ1) fun k ρ2 => Lk ρ2 i fun dd => ∃ (kvs : List (Key × D)) (k' : Key), dd = .dik kvs ∧ keyD k = some k' ∧ kvs.length < lim ∧ SetE ρ2 i (some (.dik (putD kvs k' d))) N) : Sl (dputS i fk fv ρ) N R := by
  obtain ⟨d, ρ1, e1, h⟩ := h.q
  obtain ⟨d0, e2, h⟩ := h.q
  obtain ⟨k, ρ2, e3, h⟩ := h.q
  obtain ⟨dd, e4, kvs, k', rfl, e5, hl, h'⟩ := h.q
  unfold dputS
  rw [e1, out_ok, e2]; dsimp only
  rw [e3, out_ok, e4]; dsimp only
  rw [e5]; dsimp only
  rw [if_pos hl]
  exact (ws_nx ..).mpr h'.q
theorem sdputT {fk fv : ValF} (h : Vl (fv ρ) fun d ρ1 => Lk ρ1 i fun _ => Vl (fk ρ1) fun k ρ2 => Lk ρ2 i fun dd => ∃ (kvs : List (List Key × D)) (ks : List D) (k' : List Key), dd = .dit kvs ∧ k = .tup ks ∧ keysD ks = some k' ∧ kvs.length < lim ∧ SetE ρ2 i (some (.dit (putD kvs k' d))) N) : Sl (dputS i fk fv ρ) N R := by
  obtain ⟨d, ρ1, e1, h⟩ := h.q
  obtain ⟨d0, e2, h⟩ := h.q
  obtain ⟨k, ρ2, e3, h⟩ := h.q
  obtain ⟨dd, e4, kvs, ks, k', rfl, rfl, e5, hl, h'⟩ := h.q
  unfold dputS
  rw [e1, out_ok, e2]; dsimp only
  rw [e3, out_ok, e4]; dsimp only
  rw [e5]; dsimp only
  rw [if_pos hl]
  exact (ws_nx ..).mpr h'.q
end
theorem lenD_nL (xs : List Nat) : lenD (.lst (nL xs)) = some (.int (xs.length : Int)) := by rw [lenD_lst, nL_len]
theorem addD_nat (a b : Nat) : addD (.int (a : Int)) (.int (b : Int)) = some (.int ((a + b : Nat) : Int)) := by rw [addD_int]; congr 1
theorem addD_nat1 (a : Nat) : addD (.int (a : Int)) (.int 1) = some (.int ((a + 1 : Nat) : Int)) := by rw [addD_int]; congr 1
theorem addD_1nat (a : Nat) : addD (.int 1) (.int (a : Int)) = some (.int ((a + 1 : Nat) : Int)) := by rw [addD_int]; congr 2; omega
theorem nL_range_get {n k : Nat} {d : D} (h : (nL (List.range n))[k]? = some d) : k < n ∧ d = .int (k : Int) := by
  rw [← intsR_nL] at h
  exact intsR0_get h
theorem isnD_non (d : D) : isnD d .non = some (.bl (!isNon d)) := nr rfl
theorem negD_int (i : Int) : negD (.int i) = some (.int (-i)) := nr rfl
theorem isi_it (i : Int) : isiD (.int i) (.ty "tuple") = some (.bl false) := isi_of rfl kit_it
theorem isi_nb : isiD .non (.ty "bool") = some (.bl false) := isi_of rfl kit_nb
theorem isi_lb (x : List D) : isiD (.lst x) (.ty "bool") = some (.bl false) := isi_of rfl kit_lb
theorem isi_tb (x : List D) : isiD (.tup x) (.ty "bool") = some (.bl false) := isi_of rfl kit_tb
theorem isi_st (x : List Nat) : isiD (.str x) (.ty "tuple") = some (.bl false) := isi_of rfl kit_st
theorem isi_bt (x : Bool) : isiD (.bl x) (.ty "tuple") = some (.bl false) := isi_of rfl kit_bt
structure PureB (r : ERes) (ρ : Env) (P : Bool → Prop) : Prop where
  q : ∃ b, r = .ok (.bl b) ρ ∧ P b
theorem pureb {f : ValF} {ρ : Env} {P : Bool → Prop} (h : Vl (f ρ) fun d ρ' => IsB d fun b => ρ' = ρ ∧ P b) : PureB (f ρ) ρ P := by
  obtain ⟨d, ρ', e, b, rfl, rfl, p⟩ := h
  exact ⟨b, e, p⟩
theorem vandP {f g : ValF} {ρ : Env} {Q : D → Env → Prop} (h : Vl (f ρ) fun d ρ' => IsB d fun a => ρ' = ρ ∧ Vl (g ρ) fun d ρ' => IsB d fun b => ρ' = ρ ∧ Q (.bl (a && b)) ρ) : Vl (andF f g ρ) Q := by
  obtain ⟨d, ρ', e, a, rfl, rfl, d, ρ', e2, b, rfl, rfl, p⟩ := h
  cases a with
  | true => rw [and_t e, e2]; exact ⟨_, _, rfl, p⟩
  | false => rw [and_f e]; exact ⟨_, _, rfl, p⟩
theorem vorP {f g : ValF} {ρ : Env} {Q : D → Env → Prop} (h : Vl (f ρ) fun d ρ' => IsB d fun a => ρ' = ρ ∧ Vl (g ρ) fun d ρ' => IsB d fun b => ρ' = ρ ∧ Q (.bl (a || b)) ρ) : Vl (orF f g ρ) Q := by
  obtain ⟨d, ρ', e, a, rfl, rfl, d, ρ', e2, b, rfl, rfl, p⟩ := h
  cases a with
  | false => rw [or_f e, e2]; exact ⟨_, _, rfl, p⟩
  | true => rw [or_t e]; exact ⟨_, _, rfl, p⟩
theorem vchLtP {fa fb fc : ValF} {ρ : Env} {a b c : Int} {Q : D → Env → Prop} (ha : fa ρ = .ok (.int a) ρ) (hb : fb ρ = .ok (.int b) ρ) (hc : fc ρ = .ok (.int c) ρ) (q : Q (.bl (decide (a ≤ b) && decide (b < c))) ρ) : Vl (chF leD ltD fa fb fc ρ) Q := wv_of (chLt ha hb hc) q
theorem vchLeP {fa fb fc : ValF} {ρ : Env} {a b c : Int} {Q : D → Env → Prop} (ha : fa ρ = .ok (.int a) ρ) (hb : fb ρ = .ok (.int b) ρ) (hc : fc ρ = .ok (.int c) ρ) (q : Q (.bl (decide (a ≤ b) && decide (b ≤ c))) ρ) : Vl (chF leD leD fa fb fc ρ) Q := wv_of (chLe ha hb hc) q
/-- a def's answer -/
theorem mkP_goN {N : Nat} {f : StF} {ds : List D} {d : D} (h : SetN N ds fun ρ => Sl (f ρ) (fun _ => d = .non) (fun d' _ => d' = d)) : mkP N f ds = .rt d := mkP_of h.q
theorem mkP_ex {N : Nat} {f : StF} {ds : List D} {P : D → Prop} (h : SetN N ds fun ρ => Sl (f ρ) (fun _ => P .non) (fun d' _ => P d')) : ∃ d, mkP N f ds = .rt d ∧ P d := by
  rcases ws_ex h.q with ⟨ρ, e, q⟩ | ⟨d, ρ, e, q⟩
  · exact ⟨_, mkP_nx e, q⟩
  · exact ⟨_, mkP_rt e, q⟩
theorem law_go {N k : Nat} {f : StF} (h : ∀ la r, Src la r → RepN N fun ρ => SetE ρ k (some r) fun ρ => Sl (f ρ) (fun _ => False) (fun d _ => d = .bl true)) : LawTrue N k f := law_true_of fun la r hr => (h la r hr).q.q
theorem mkP_go {N : Nat} {f : StF} {ds : List D} {d : D} (h : Sl (f (envP N ds)) (fun _ => d = .non) (fun d' _ => d' = d)) : mkP N f ds = .rt d := mkP_of h
theorem brj {b : Bool} {r1 r2 : Out} {N : Env → Prop} {R : D → Env → Prop} (J : Env → Prop) (h1 : b = true → Sl r1 J R) (h2 : b = false → Sl r2 J R) (k : ∀ ρ, J ρ → N ρ) : Br b (Sl r1 N R) (Sl r2 N R) :=
  ⟨fun h => ws_mono (h1 h) k fun _ _ q => q, fun h => ws_mono (h2 h) k fun _ _ q => q⟩
theorem sj {r : Out} {N : Env → Prop} {R : D → Env → Prop} (J : Env → Prop) (h : Sl r J R) (k : ∀ ρ, J ρ → N ρ) : Sl r N R := ws_mono h k fun _ _ q => q
end Pv

/-! Pu3: backward rules for instances; frames. -/
noncomputable section
namespace Pv
open PySem PySem.Spec L2
open PyProof.Rows hiding St
section
variable {ρ : Env} {N : Env → Prop} {R : D → Env → Prop} {Q : D → Env → Prop} {k : Nat} {vf f : ValF} {C0 : Addr} {g : Str}
structure CallI (F : D → List D → PRes) (C : Addr) (ds : List D) (P : D → Prop) : Prop where
  q : ∃ C' fs, F (.ins C []) ds = .rt (.ins C' fs) ∧ P (.ins C' fs)
theorem calli {F : D → List D → PRes} {C C' : Addr} {ds : List D} {fs : List (Str × D)} {P : D → Prop} (e : F (.ins C []) ds = .rt (.ins C' fs)) (p : P (.ins C' fs)) : CallI F C ds P := ⟨_, _, e, p⟩
theorem vmak {F : D → List D → PRes} {C : Addr} {fa : ArgF} (h : Al (fa ρ) fun ds ρ1 => CallI F C ds fun d => Q d ρ1) : Vl (makF C F fa ρ) Q := by
  obtain ⟨ds, ρ1, e, ⟨C', fs, e2, q⟩⟩ := h.q
  refine ⟨_, _, ?_, q⟩
  unfold makF; rw [e]; dsimp only; rw [e2]
theorem vmet2 {m : Str} {F : List D → PRes} {fo : ValF} {fa : ArgF} (h : Vl (fo ρ) fun d ρ1 => ∃ fs, d = .ins C0 fs ∧ fs.lookup m = none ∧ Al (fa ρ1) fun ds ρ2 => CallO F (.ins C0 fs :: ds) fun d => Q d ρ2) : Vl (metF C0 m F fo fa ρ) Q := by
  obtain ⟨d, ρ1, e, fs, rfl, hl, ⟨ds, ρ2, e2, ⟨d, e3, q⟩⟩⟩ := h.q
  refine ⟨_, _, ?_, q⟩
  unfold metF; rw [e]; dsimp only; rw [if_pos ⟨rfl, hl⟩, e2]; dsimp only; rw [e3]
theorem mkI_go {n : Nat} {fS : StF} {r : D} {ds : List D} {C : Addr} {fs : List (Str × D)} (h : SetN n (r :: ds) fun ρ => Sl (fS ρ) (fun ρ' => ρ'[0]? = some (some (.ins C fs))) fun _ _ => False) : mkI n fS r ds = .rt (.ins C fs) := by
  rcases ws_ex h.q with ⟨ρ, e, q⟩ | ⟨d, ρ, e, q⟩
  · unfold mkI; rw [e]; dsimp only; rw [q]
  · exact q.elim
theorem ssetA (h : Vl (vf ρ) fun d ρ1 => Lk ρ1 k fun x => ∃ fs, x = .ins C0 fs ∧ fs.length < 900 ∧ SetE ρ1 k (some (.ins C0 (putN g d fs))) N) : Sl (setA C0 k g vf ρ) N R := by
  obtain ⟨d, ρ1, e, ⟨x, e2, fs, rfl, hl, ⟨l, q⟩⟩⟩ := h.q
  unfold setA
  rw [e, out_ok, e2]; dsimp only
  rw [if_pos ⟨rfl, hl⟩]
  exact (ws_nx ..).mpr q
theorem ssetAL (h : Vl (vf ρ) fun d ρ1 => Lk ρ1 k fun x => ∃ fs xs, x = .ins C0 fs ∧ d = .lst xs ∧ fs.length < 900 ∧ g ∉ fs.map (·.1) ∧ SetE ρ1 k (some (.ino C0 (putN g .non fs) g xs)) N) : Sl (setAL C0 k g vf ρ) N R := by
  obtain ⟨d, ρ1, e, ⟨x, e2, fs, xs, rfl, rfl, hl, hn, ⟨l, q⟩⟩⟩ := h.q
  unfold setAL
  rw [e, out_ok, e2]; dsimp only
  rw [if_pos ⟨rfl, hl, hn⟩]
  exact (ws_nx ..).mpr q
theorem sappA (h : Lk ρ k fun x => ∃ fs xs, x = .ino C0 fs g xs ∧ xs.length < lim ∧ (fs.lookup g).isSome = true ∧ SetE ρ k none fun ρ0 => Vl (vf ρ0) fun d ρ1 => SetE ρ1 k (some (.ino C0 fs g (xs ++ [d]))) N) : Sl (appA C0 k g vf ρ) N R := by
  obtain ⟨x, e2, fs, xs, rfl, hl, hs, ⟨l, ⟨d, ρ1, e, ⟨l2, q⟩⟩⟩⟩ := h
  unfold appA
  rw [e2]; dsimp only
  rw [if_pos ⟨rfl, rfl, hl, hs⟩, e]
  exact (ws_nx ..).mpr q
theorem smlt {fs : StF} (h : Lk ρ k fun x => ∃ C gs xs, x = .ino C gs g xs ∧ SetE ρ k (some (.ins C (fillF g (.lst xs) gs))) fun ρ1 => Sl (fs ρ1) N R) : Sl (mlt k fs ρ) N R := by
  obtain ⟨x, e2, C, gs, xs, rfl, ⟨l, q⟩⟩ := h
  unfold mlt mltE
  rw [e2]
  exact q
theorem saug {i : Nat} {gg : D → D → Option D} (h : Lk ρ i fun _ => Vl (f ρ) fun d ρ1 => Lk ρ1 i fun x => Ok1 (gg x d) fun z => SetE ρ1 i (some z) N) : Sl (augS i f gg ρ) N R := by
  obtain ⟨x0, e0, ⟨d, ρ1, e1, ⟨x, e2, ⟨z, e3, ⟨l, q⟩⟩⟩⟩⟩ := h
  unfold augS
  rw [e0]; dsimp only
  rw [e1, out_ok, e2]; dsimp only
  rw [e3]
  exact (ws_nx ..).mpr q
theorem addIO_int (i j : Int) : addIO (.int i) (.int j) = some (.int (i + j)) := rfl
structure TgOs (hs : List D → Env → Option Env) (ds : List D) (ρ : Env) (P : Env → Prop) : Prop where
  q : ∃ ρ', hs ds ρ = some ρ' ∧ P ρ'
theorem tgo_t {hs : List D → Env → Option Env} {ds : List D} {P : Env → Prop} (h : TgOs hs ds ρ P) : TgO (tgT hs) (.tup ds) ρ P := by
  obtain ⟨ρ', e, q⟩ := h.q
  exact ⟨ρ', e, q⟩
theorem tgos_n {P : Env → Prop} (q : P ρ) : TgOs tgNil [] ρ P := ⟨ρ, rfl, q⟩
theorem tgos_c {hs : List D → Env → Option Env} {i : Nat} {d : D} {ds : List D} {P : Env → Prop} (h : SetE ρ i (some d) fun ρ1 => TgOs hs ds ρ1 P) : TgOs (tgCons (tgN i) hs) (d :: ds) ρ P := by
  obtain ⟨l, ⟨ρ', e, q⟩⟩ := h
  exact ⟨ρ', by show ((tgN i d ρ).bind (hs ds)) = _; unfold tgN; rw [if_pos l]; exact e, q⟩
end
/-! ### frames -/
def frm (C : Addr) (n : Nat) (hs : List Nat) (r : Bool) : D := .ins C [("size", .int (n : Int)), ("gaps", .tup (nL hs)), ("closed", .bl r)]
section
variable {C C2 : Addr} {n : Nat} {hs : List Nat} {r : Bool} {c : Nat} {xs : List D} {fr : D}
theorem sz_gp : (("gaps" : Str) == "size") = false := by decide +kernel
theorem sz_cl : (("closed" : Str) == "size") = false := by decide +kernel
theorem gp_cl : (("closed" : Str) == "gaps") = false := by decide +kernel
theorem cm_ct : (("cuts" : Str) == "common") = false := by decide +kernel
theorem cm_fr : (("frame" : Str) == "common") = false := by decide +kernel
theorem ct_fr : (("frame" : Str) == "cuts") = false := by decide +kernel
theorem cm_ow : (("outward" : Str) == "common") = false := by decide +kernel
theorem ct_ow : (("outward" : Str) == "cuts") = false := by decide +kernel
theorem fr_ow : (("outward" : Str) == "frame") = false := by decide +kernel
theorem ct_cm : (("common" : Str) == "cuts") = false := by decide +kernel
theorem bself (x : Str) : (x == x) = true := beq_self_eq_true x
theorem fld_size : fldD C "size" (frm C n hs r) = some (.int (n : Int)) := by
  unfold fldD frm; dsimp only; rw [if_pos rfl, List.lookup_cons, bself]
theorem fld_gaps : fldD C "gaps" (frm C n hs r) = some (.tup (nL hs)) := by
  unfold fldD frm; dsimp only; rw [if_pos rfl, List.lookup_cons, sz_gp]; dsimp only; rw [List.lookup_cons, bself]
theorem fld_closed : fldD C "closed" (frm C n hs r) = some (.bl r) := by
  unfold fldD frm; dsimp only; rw [if_pos rfl, List.lookup_cons, sz_cl]; dsimp only; rw [List.lookup_cons, gp_cl]; dsimp only; rw [List.lookup_cons, bself]
/-- a Short, as it is made and made -/
def sho (C : Addr) (c : Nat) (xs : List D) : D := .ino C [("common", .int (c : Int)), ("cuts", .non)] "cuts" xs
def shi (C : Addr) (c : Nat) (xs : List D) : D := .ins C [("common", .int (c : Int)), ("cuts", .lst xs)]
def shm (C : Addr) (c : Nat) (xs : List D) (fr : D) : D := .ins C [("common", .int (c : Int)), ("cuts", .lst xs), ("frame", fr)]
theorem ne_cc : ("common" : Str) ≠ "cuts" := fun z => by have := ct_cm; rw [z, bself] at this; cases this
theorem fld_common0 : fldD C "common" (sho C c xs) = some (.int (c : Int)) := by
  unfold fldD sho; dsimp only; rw [if_pos ⟨rfl, ne_cc⟩, List.lookup_cons, bself]
theorem fld_cuts1 : fldD C "cuts" (shi C c xs) = some (.lst xs) := by
  unfold fldD shi; dsimp only; rw [if_pos rfl, List.lookup_cons, cm_ct]; dsimp only; rw [List.lookup_cons, bself]
theorem fld_cuts : fldD C "cuts" (shm C c xs fr) = some (.lst xs) := by
  unfold fldD shm; dsimp only; rw [if_pos rfl, List.lookup_cons, cm_ct]; dsimp only; rw [List.lookup_cons, bself]
theorem fld_common : fldD C "common" (shm C c xs fr) = some (.int (c : Int)) := by
  unfold fldD shm; dsimp only; rw [if_pos rfl, List.lookup_cons, bself]
theorem fld_frame : fldD C "frame" (shm C c xs fr) = some fr := by
  unfold fldD shm; dsimp only; rw [if_pos rfl, List.lookup_cons, cm_fr]; dsimp only; rw [List.lookup_cons, ct_fr]; dsimp only; rw [List.lookup_cons, bself]
theorem look_ow : List.lookup ("outward" : Str) ([("common", D.int (c : Int)), ("cuts", .lst xs), ("frame", fr)] : List (Str × D)) = none := by
  rw [List.lookup_cons, cm_ow]; dsimp only; rw [List.lookup_cons, ct_ow]; dsimp only; rw [List.lookup_cons, fr_ow]; rfl
theorem ne_of_beq {a b : Str} (h : (b == a) = false) : ¬ a = b := fun z => by rw [z, bself] at h; cases h
abbrev FL := List (Str × D)
theorem put_s (a : D) : putN "size" a [] = ([("size", a)] : FL) := rfl
theorem put_g (a b : D) : putN "gaps" b ([("size", a)] : FL) = ([("size", a), ("gaps", b)] : FL) := by
  unfold putN; rw [if_neg (ne_of_beq sz_gp)]; rfl
theorem put_c (a b d : D) : putN "closed" d ([("size", a), ("gaps", b)] : FL) = ([("size", a), ("gaps", b), ("closed", d)] : FL) := by
  unfold putN; rw [if_neg (ne_of_beq sz_cl)]; unfold putN; rw [if_neg (ne_of_beq gp_cl)]; rfl
theorem put_cm (a : D) : putN "common" a [] = ([("common", a)] : FL) := rfl
theorem put_ct (a b : D) : putN "cuts" b ([("common", a)] : FL) = ([("common", a), ("cuts", b)] : FL) := by
  unfold putN; rw [if_neg (ne_of_beq cm_ct)]; rfl
theorem put_fr (a b d : D) : putN "frame" d ([("common", a), ("cuts", b)] : FL) = ([("common", a), ("cuts", b), ("frame", d)] : FL) := by
  unfold putN; rw [if_neg (ne_of_beq cm_fr)]; unfold putN; rw [if_neg (ne_of_beq ct_fr)]; rfl
theorem fill_ct (a b d : D) : fillF "cuts" d ([("common", a), ("cuts", b)] : FL) = ([("common", a), ("cuts", d)] : FL) := by
  unfold fillF
  rw [List.map_cons, List.map_cons, List.map_nil]
  dsimp only
  rw [if_neg (ne_of_beq cm_ct), if_pos rfl]
theorem nin_ct (a : D) : ("cuts" : Str) ∉ ([("common", a)] : FL).map (·.1) := fun z => ne_cc (List.mem_singleton.mp z).symm
theorem some_ct (a b : D) : (List.lookup ("cuts" : Str) ([("common", a), ("cuts", b)] : FL)).isSome = true := by
  rw [List.lookup_cons, cm_ct]; dsimp only; rw [List.lookup_cons, bself]; rfl
end
end Pv

/-! Pu4: backward rules for what Pv29 adds. -/
namespace Pv
open PySem PySem.Spec L2
open PyProof.Rows hiding St
theorem irevT {f : ValF} {ρ : Env} {QI : List D → Env → Prop} (h : Vl (f ρ) fun d ρ1 => ∃ xs, d = .tup xs ∧ QI xs.reverse ρ1) : It (itRevT f ρ) QI := by
  obtain ⟨d, ρ1, e, xs, rfl, q⟩ := h.q
  exact ⟨_, _, _, by unfold itRevT; rw [e], q⟩
theorem vrng2 {fa : ArgF} {ρ : Env} {Q : D → Env → Prop} (h : Al (fa ρ) fun ds ρ1 => ∃ a b : Nat, ds = [.int (a : Int), .int (b : Int)] ∧ a ≤ 1000 ∧ b ≤ 1000 ∧ Q (.lst (nL ((List.range (b - a)).map (a + ·)))) ρ1) : Vl (rngF fa ρ) Q := by
  obtain ⟨ds, ρ1, e, a, b, rfl, ha, hb, q⟩ := h.q
  have l0 := lim_val
  refine ⟨_, _, ?_, q⟩
  unfold rngF; rw [e]; dsimp only
  rw [if_pos (cdec_true ⟨by omega, by omega, by omega, by omega⟩), show ((b : Int) - (a : Int)).toNat = b - a by omega, intsR_ab]
theorem vtrg2 {fa : ArgF} {ρ : Env} {Q : D → Env → Prop} (h : Al (fa ρ) fun ds ρ1 => ∃ a b : Nat, ds = [.int (a : Int), .int (b : Int)] ∧ a ≤ 1000 ∧ b ≤ 1000 ∧ Q (.tup (nL ((List.range (b - a)).map (a + ·)))) ρ1) : Vl (trgF fa ρ) Q := by
  obtain ⟨ds, ρ1, e, a, b, rfl, ha, hb, q⟩ := h.q
  have l0 := lim_val
  refine ⟨_, _, ?_, q⟩
  unfold trgF; rw [e]; dsimp only
  rw [if_pos (cdec_true ⟨by omega, by omega, by omega, by omega⟩), show ((b : Int) - (a : Int)).toNat = b - a by omega, intsR_ab]
/-- and: false either way -/
theorem br_same {b : Bool} {r : ERes} {Q : D → Env → Prop} {d : D} {ρ : Env} (h : b = true → Vl r fun d' ρ' => Same2 d' ρ' d ρ) (q : Q d ρ) : Br b (Vl r Q) (Q d ρ) :=
  ⟨fun hb => wv_mono (h hb) fun _ _ z => by rw [z.e, z.r]; exact q, fun _ => q⟩
theorem ix0 (x : D) (xs : List D) : idxD (.lst (x :: xs)) (.int 0) = some x := by
  rw [idxD_lst]; exact atI_nat (xs := x :: xs) (j := 0) rfl
theorem minD_int (i j : Int) : minD (.int i) (.int j) = some (.int (if j < i then j else i)) := rfl
theorem maxD_int (i j : Int) : maxD (.int i) (.int j) = some (.int (if j > i then j else i)) := rfl
theorem pow29 : powD (.int 10) (.int 29) = some (.int ((10 ^ 29 : Nat) : Int)) := by
  unfold powD; dsimp only
  rw [if_pos (cdec_true ⟨by decide, by decide, by decide⟩)]
  exact congrArg (fun z => some (D.int z)) (by decide +kernel)
end Pv

/-! Pu7: backward rules for ends by an error, for try. -/
namespace Pv
open PySem PySem.Spec L2
open PyProof.Rows hiding St
structure Xl (o : Out) (x : Exc) : Prop where
  q : ∃ ρ, o = .ex x ρ
structure Xv (r : ERes) (x : Exc) : Prop where
  q : ∃ ρ, r = .ex x ρ
section
variable {f g : StF} {v w : ValF} {ρ : Env} {x : Exc} {K : PySem.W.Frag}
theorem xseq1 (h : Xl (f ρ) x) : Xl (sSeq f g ρ) x := by
  obtain ⟨ρ1, e⟩ := h.q
  exact ⟨ρ1, by unfold sSeq; rw [e]; rfl⟩
theorem xseq (h : Sl (f ρ) (fun ρ1 => Xl (g ρ1) x) fun _ _ => False) : Xl (sSeq f g ρ) x := by
  rcases ws_ex h with ⟨ρ1, e, q⟩ | ⟨_, _, _, q⟩
  · obtain ⟨ρ2, e2⟩ := q.q
    exact ⟨ρ2, by unfold sSeq; rw [e]; exact e2⟩
  · exact q.elim
theorem xif {c : ValF} (h : Vl (c ρ) fun d ρ1 => IsB d fun b => Br b (Xl (f ρ1) x) (Xl (g ρ1) x)) : Xl (ifS c f g ρ) x := by
  obtain ⟨d, ρ1, e, b, rfl, h1, h2⟩ := h.q
  cases b with
  | true =>
    obtain ⟨ρ2, e2⟩ := (h1 rfl).q
    exact ⟨ρ2, by unfold ifS; rw [e]; exact e2⟩
  | false =>
    obtain ⟨ρ2, e2⟩ := (h2 rfl).q
    exact ⟨ρ2, by unfold ifS; rw [e]; exact e2⟩
theorem xraise {C : Addr} : Xl (sRaise C ρ) ⟨C, none⟩ := ⟨ρ, rfl⟩
theorem xdrp (h : Xv (v ρ) x) : Xl (drp v ρ) x := by
  obtain ⟨ρ1, e⟩ := h.q
  exact ⟨ρ1, by unfold drp; rw [e]; rfl⟩
theorem xput {i : Nat} (h : Xv (v ρ) x) : Xl (put i v ρ) x := by
  obtain ⟨ρ1, e⟩ := h.q
  exact ⟨ρ1, by unfold put; rw [e]; rfl⟩
theorem xret (h : Xv (v ρ) x) : Xl (retE v ρ) x := by
  obtain ⟨ρ1, e⟩ := h.q
  exact ⟨ρ1, by unfold retE; rw [e]; rfl⟩
theorem xcall {F : List D → PRes} {fa : ArgF} (h : Al (fa ρ) fun ds _ => F ds = .ex x) : Xv (callP F fa ρ) x := by
  obtain ⟨ds, ρ1, e, q⟩ := h.q
  exact ⟨ρ1, by unfold callP; rw [e]; dsimp only; rw [q]⟩
theorem xcallE {ff : ValF} {S : Addr → Option (List D → PRes)} {fa : ArgF} (h : Vl (ff ρ) fun d ρ1 => ∃ a F, d = .ref a ∧ S a = some F ∧ Xv (callP F fa ρ1) x) : Xv (callEF ff S fa ρ) x := by
  obtain ⟨d, ρ1, e, a, F, rfl, hS, q⟩ := h.q
  obtain ⟨ρ2, e2⟩ := q.q
  exact ⟨ρ2, by unfold callEF; rw [e]; dsimp only; rw [hS]; exact e2⟩
theorem vcallE {ff : ValF} {S : Addr → Option (List D → PRes)} {fa : ArgF} {Q : D → Env → Prop} (h : Vl (ff ρ) fun d ρ1 => ∃ a F, d = .ref a ∧ S a = some F ∧ Vl (callP F fa ρ1) Q) : Vl (callEF ff S fa ρ) Q := by
  obtain ⟨d, ρ1, e, a, F, rfl, hS, q⟩ := h.q
  obtain ⟨d2, ρ2, e2, q⟩ := q.q
  exact wv_of (by unfold callEF; rw [e]; dsimp only; rw [hS]; exact e2) q
theorem xifE {c : ValF} (h : Vl (c ρ) fun d ρ1 => IsB d fun b => Br b (Xv (v ρ1) x) (Xv (w ρ1) x)) : Xv (ifF c v w ρ) x := by
  obtain ⟨d, ρ1, e, b, rfl, h1, h2⟩ := h.q
  cases b with
  | true =>
    obtain ⟨ρ2, e2⟩ := (h1 rfl).q
    exact ⟨ρ2, by unfold ifF; rw [e]; exact e2⟩
  | false =>
    obtain ⟨ρ2, e2⟩ := (h2 rfl).q
    exact ⟨ρ2, by unfold ifF; rw [e]; exact e2⟩
theorem mkP_goX {N : Nat} {ds : List D} (h : SetN N ds fun ρ => Xl (f ρ) x) : mkP N f ds = .ex x := by
  obtain ⟨ρ1, e⟩ := h.q.q
  unfold mkP; rw [e]
/-- a for that ends by an error -/
def XFor (tgt : TgtF) (body : StF) (x : Exc) : List D → Env → Prop
  | [], _ => False
  | d :: ds, ρ => TgO tgt d ρ fun ρx => Xl (body ρx) x ∨ Sl (body ρx) (fun ρ2 => XFor tgt body x ds ρ2) fun _ _ => False
theorem xfor {it : IterF} {tgt : TgtF} {body : StF} (h : It (it ρ) fun ds ρ1 => XFor tgt body x ds ρ1) : Xl (forS it tgt body ρ) x := by
  obtain ⟨ds, src, ρ1, e, q⟩ := h.q
  have key : ∀ (ds : List D) (ρ1 : Env), XFor tgt body x ds ρ1 → Xl (forL tgt body ds ρ1) x := by
    intro ds
    induction ds with
    | nil => exact fun _ h => h.elim
    | cons d ds ih =>
      intro ρ1 h
      obtain ⟨ρx, e1, h⟩ := h.q
      rcases h with h | h
      · obtain ⟨ρ2, e2⟩ := h.q
        exact ⟨ρ2, by unfold forL; rw [e1]; dsimp only; rw [e2]⟩
      · rcases ws_ex h with ⟨ρ2, e2, q⟩ | ⟨_, _, _, q⟩
        · obtain ⟨ρ3, e3⟩ := (ih ρ2 q).q
          exact ⟨ρ3, by unfold forL; rw [e1]; dsimp only; rw [e2]; exact e3⟩
        · exact q.elim
  obtain ⟨ρ2, e2⟩ := (key ds ρ1 q).q
  exact ⟨ρ2, by unfold forS; rw [e]; exact e2⟩
theorem xdrpL {F : List D → PRes} {fa : ArgF} {n : Nat} (h : Al (fa ρ) fun ds ρ1 => F ds = .ex x ∧ ρ1.length = n) : ∃ ρ1, drp (callP F fa) ρ = .ex x ρ1 ∧ ρ1.length = n := by
  obtain ⟨ds, ρ1, e, q, hl⟩ := h.q
  exact ⟨ρ1, by unfold drp callP; rw [e]; dsimp only; rw [q]; rfl, hl⟩
theorem xputL {F : List D → PRes} {fa : ArgF} {n i : Nat} (h : Al (fa ρ) fun ds ρ1 => F ds = .ex x ∧ ρ1.length = n) : ∃ ρ1, put i (callP F fa) ρ = .ex x ρ1 ∧ ρ1.length = n := by
  obtain ⟨ds, ρ1, e, q, hl⟩ := h.q
  exact ⟨ρ1, by unfold put callP; rw [e]; dsimp only; rw [q]; rfl, hl⟩
/-! try -/
theorem stryA {i : Nat} {fb : StF} {l : List (Addr × SuF)} {N : Env → Prop} {R : D → Env → Prop} (h : Sl (fb ρ) N fun _ _ => False) : Sl (tryA K i fb l ρ) N R := by
  rcases ws_ex h with ⟨ρ1, e, q⟩ | ⟨_, _, _, q⟩
  · unfold tryA; rw [e]; exact (ws_nx ..).mpr q
  · exact q.elim
theorem stryA_ex {c : Addr} {i : Nat} {fb : StF} {l : List (Addr × SuF)} {sf : SuF} {ρ2 : Env} {N : Env → Prop} {R : D → Env → Prop} (e : ∃ ρ1, fb ρ = .ex ⟨c, none⟩ ρ1 ∧ ρ1.length = ρ.length) (hp : pickC K c l = some (some sf))
    (h : ∀ a, Sl (sf c a ((List.replicate ρ.length none).set i (some (.ref a)))) (fun ρ3 => ρ3.set i none = ρ2) fun _ _ => False) (q : N ρ2) : Sl (tryA K i fb l ρ) N R := by
  have he : SuEnd sf c i ρ.length ρ2 := fun a => by
    rcases ws_ex (h a) with ⟨ρ3, e3, q3⟩ | ⟨_, _, _, q3⟩
    · exact ⟨ρ3, e3, q3⟩
    · exact q3.elim
  obtain ⟨ρ1, e, hl⟩ := e
  unfold tryA
  rw [e]; dsimp only
  rw [hp]; dsimp only
  rw [if_pos hl, suRun_ok he]
  exact (ws_nx ..).mpr q
theorem pick_1 {c C : Addr} {f : SuF} {r : List (Addr × SuF)} (h : PySem.W.exmOne K (.ref c) (.ref C) = some true) : pickC K c ((C, f) :: r) = some (some f) := by
  unfold pickC; rw [h]
theorem pick_n {c C : Addr} {f : SuF} {r : List (Addr × SuF)} {z : Option (Option SuF)} (h : PySem.W.exmOne K (.ref c) (.ref C) = some false) (k : pickC K c r = z) : pickC K c ((C, f) :: r) = z := by
  unfold pickC; rw [h]; exact k
theorem br_dt {p P Q : Prop} [Decidable p] (h : p) (q : P) : Br (decide p) P Q := by rw [decide_eq_true h]; exact br_t q
theorem br_df {p P Q : Prop} [Decidable p] (h : ¬ p) (q : Q) : Br (decide p) P Q := by rw [decide_eq_false h]; exact br_f q
theorem tgo_l {hs : List D → Env → Option Env} {ds : List D} {P : Env → Prop} (h : TgOs hs ds ρ P) : TgO (tgL hs) (.lst ds) ρ P := by
  obtain ⟨ρ', e, q⟩ := h.q
  exact ⟨ρ', e, q⟩
/-- the suite of a try, its own names -/
theorem visE {c C' a : Addr} {i : Nat} {b : Bool} {Q : D → Env → Prop} (hE : ExcC K c) (hk : PySem.W.kitOne K (.ref c) (.ref C') = some b) (h : Lk ρ i fun d => d = .ref a ∧ Q (.bl b) ρ) : Vl (isEF K c C' a i ρ) Q := by
  obtain ⟨d, e, rfl, q⟩ := h.q
  refine wv_of (d := .bl b) (ρ := ρ) ?_ q
  unfold isEF
  rw [e]; dsimp only
  rw [if_pos ⟨rfl, hE⟩, hk]
end
end Pv

/-! Pu8: backward rules: own ==, own len, properties, instances that are not made. -/
noncomputable section
namespace Pv
open PySem PySem.Spec L2
open PyProof.Rows hiding St
section
variable {ρ : Env} {Q : D → Env → Prop} {C : Addr} {F : List D → PRes} {f g : ValF}
theorem veqW (h : Vl (f ρ) fun x ρ1 => Vl (g ρ1) fun y ρ2 => ∃ fs b, x = .ins C fs ∧ (isiC C y).isSome = true ∧ F [.ins C fs, y] = .rt (.bl b) ∧ Q (.bl b) ρ2) : Vl (eqW C F f g ρ) Q := by
  obtain ⟨x, ρ1, e1, h⟩ := h.q
  obtain ⟨y, ρ2, e2, fs, b, rfl, hi, hF, q⟩ := h.q
  refine wv_of (d := .bl b) (ρ := ρ2) ?_ q
  unfold eqW
  rw [e1]; dsimp only [ERes.bind]
  rw [e2]; dsimp only
  rw [if_pos ⟨rfl, hi⟩, hF]
theorem vlenW (h : Vl (f ρ) fun x ρ1 => ∃ fs n, x = .ins C fs ∧ F [.ins C fs] = .rt (.int n) ∧ (0 ≤ n ∧ n < 2 ^ 63) ∧ Q (.int n) ρ1) : Vl (lenW C F f ρ) Q := by
  obtain ⟨x, ρ1, e1, fs, n, rfl, hF, hn, q⟩ := h.q
  refine wv_of (d := .int n) (ρ := ρ1) ?_ q
  unfold lenW
  rw [e1]; dsimp only [ERes.bind]
  rw [if_pos rfl, hF]; dsimp only
  rw [if_pos hn]
theorem vprp (h : Vl (f ρ) fun x ρ1 => ∃ fs d, x = .ins C fs ∧ F [.ins C fs] = .rt d ∧ Q d ρ1) : Vl (prpF C F f ρ) Q := by
  obtain ⟨x, ρ1, e1, fs, d, rfl, hF, q⟩ := h.q
  refine wv_of (d := d) (ρ := ρ1) ?_ q
  unfold prpF
  rw [e1]; dsimp only [ERes.bind]
  rw [if_pos rfl, hF]
theorem isiC_self {fs : List (Str × D)} : isiC C (.ins C fs) = some (.bl true) := if_pos rfl
theorem mkI_goX {N : Nat} {fS : StF} {r : D} {ds : List D} {x : Exc} (h : SetN N (r :: ds) fun ρ => Xl (fS ρ) x) : mkI N fS r ds = .ex x := by
  obtain ⟨ρ1, e⟩ := h.q.q
  unfold mkI; rw [e]
theorem xmakL {G : D → List D → PRes} {fa : ArgF} {n i : Nat} {x : Exc} (h : Al (fa ρ) fun ds ρ1 => G (.ins C []) ds = .ex x ∧ ρ1.length = n) : ∃ ρ1, put i (makF C G fa) ρ = .ex x ρ1 ∧ ρ1.length = n := by
  obtain ⟨ds, ρ1, e, q, hl⟩ := h.q
  exact ⟨ρ1, by unfold put makF; rw [e]; dsimp only; rw [q]; rfl, hl⟩
theorem xmak {G : D → List D → PRes} {fa : ArgF} {x : Exc} (h : Al (fa ρ) fun ds ρ1 => G (.ins C []) ds = .ex x) : Xv (makF C G fa ρ) x := by
  obtain ⟨ds, ρ1, e, q⟩ := h.q
  exact ⟨ρ1, by unfold makF; rw [e]; dsimp only; rw [q]⟩
end
end Pv

/-! Pg1: walks in a graph, the least of the shortest ones. -/
namespace Pv
open PySem PySem.Spec L2
open PyProof.Rows hiding St
/-! ### order of lists of numbers -/
theorem lt_app {a b : List Nat} (h : a < b) (hl : a.length = b.length) : ∀ x y : List Nat, a ++ x < b ++ y := by
  induction a generalizing b with
  | nil => cases b with
    | nil => exact absurd h (List.lt_irrefl _)
    | cons _ _ => cases hl
  | cons u a ih =>
    cases b with
    | nil => cases hl
    | cons v b =>
      intro x y
      rw [List.cons_lt_cons_iff] at h
      rw [List.cons_append, List.cons_append, List.cons_lt_cons_iff]
      rcases h with h | ⟨h1, h2⟩
      · exact .inl h
      · exact .inr ⟨h1, ih h2 (by simpa using hl) x y⟩
theorem lt_snoc {a : List Nat} {u v : Nat} (h : u < v) : a ++ [u] < a ++ [v] := by
  induction a with
  | nil => exact List.cons_lt_cons_iff.mpr (.inl h)
  | cons x a ih => rw [List.cons_append, List.cons_append, List.cons_lt_cons_iff]; exact .inr ⟨rfl, ih⟩
theorem lt_tri (a b : List Nat) : a < b ∨ a = b ∨ b < a := by
  induction a generalizing b with
  | nil => cases b with
    | nil => exact .inr (.inl rfl)
    | cons v b => exact .inl (List.nil_lt_cons ..)
  | cons u a ih =>
    cases b with
    | nil => exact .inr (.inr (List.nil_lt_cons ..))
    | cons v b =>
      rw [List.cons_lt_cons_iff, List.cons_lt_cons_iff]
      rcases Nat.lt_trichotomy u v with h | h | h
      · exact .inl (.inl h)
      · subst h
        rcases ih b with h | h | h
        · exact .inl (.inr ⟨rfl, h⟩)
        · exact .inr (.inl (by rw [h]))
        · exact .inr (.inr (.inr ⟨rfl, h⟩))
      · exact .inr (.inr (.inl h))
/-- shorter, or as long and less -/
def lW (a b : List Nat) : Prop := a.length < b.length ∨ (a.length = b.length ∧ a < b)
theorem lW_irr (a : List Nat) : ¬ lW a a := fun h => h.elim (Nat.lt_irrefl _) fun h => List.lt_irrefl _ h.2
theorem lW_trans {a b c : List Nat} (h : lW a b) (h2 : lW b c) : lW a c := by
  rcases h with h | h <;> rcases h2 with h2 | h2
  · exact .inl (by omega)
  · exact .inl (by omega)
  · exact .inl (by omega)
  · exact .inr ⟨by omega, List.lt_trans h.2 h2.2⟩
theorem lW_tri (a b : List Nat) : lW a b ∨ a = b ∨ lW b a := by
  rcases Nat.lt_trichotomy a.length b.length with h | h | h
  · exact .inl (.inl h)
  · rcases lt_tri a b with h2 | h2 | h2
    · exact .inl (.inr ⟨h, h2⟩)
    · exact .inr (.inl h2)
    · exact .inr (.inr (.inr ⟨h.symm, h2⟩))
  · exact .inr (.inr (.inl h))
theorem lW_neg {a b c : List Nat} (h : ¬ lW b a) (h2 : ¬ lW c b) : ¬ lW c a := fun z => by
  rcases lW_tri a b with q | rfl | q
  · exact h2 (lW_trans z q)
  · exact h2 z
  · exact h q
theorem lW_anti {a b : List Nat} (h : ¬ lW a b) (h2 : ¬ lW b a) : a = b := by
  rcases lW_tri a b with q | q | q
  · exact absurd q h
  · exact q
  · exact absurd q h2
/-! ### walks -/
section
variable (nb : Nat → List Nat)
inductive Wk (b : Nat) : Nat → List Nat → Prop
  | one : Wk b b [b]
  | step {u v : Nat} {p : List Nat} : Wk b u p → v ∈ nb u → Wk b v (p ++ [v])
variable {nb} {n : Nat}
theorem Wk.ne {b v : Nat} {p : List Nat} (h : Wk nb b v p) : 0 < p.length := by cases h <;> simp
theorem Wk.cons {u v e : Nat} {p : List Nat} (h : Wk nb v e p) (hv : v ∈ nb u) : Wk nb u e (u :: p) := by
  induction h with
  | one => exact .step .one hv
  | step _ m ih => exact .step ih m
theorem Wk.inv {u e : Nat} {p : List Nat} (h : Wk nb u e p) : (p = [u] ∧ e = u) ∨ ∃ v t, v ∈ nb u ∧ p = u :: t ∧ Wk nb v e t := by
  induction h with
  | one => exact .inl ⟨rfl, rfl⟩
  | step h m ih =>
    rename_i x y p
    rcases ih with ⟨rfl, rfl⟩ | ⟨v, t, h1, rfl, h3⟩
    · exact .inr ⟨y, [y], m, rfl, .one⟩
    · exact .inr ⟨v, t ++ [y], h1, rfl, .step h3 m⟩
theorem Wk.last {b v : Nat} {p : List Nat} (h : Wk nb b v p) : ∃ q, p = q ++ [v] := by
  cases h with
  | one => exact ⟨[], rfl⟩
  | step _ _ => exact ⟨_, rfl⟩
theorem Wk.pre {b v : Nat} {p : List Nat} (h : Wk nb b v p) (hl : 1 < p.length) : ∃ u q, Wk nb b u q ∧ v ∈ nb u ∧ p = q ++ [v] := by
  cases h with
  | one => simp at hl
  | step h m => exact ⟨_, _, h, m, rfl⟩
theorem Wk.lt {b v : Nat} {p : List Nat} (G : Gr n nb) (h : Wk nb b v p) (hb : b < n) : v < n := by
  induction h with
  | one => exact hb
  | step _ m ih => exact G.lt _ ih _ m
theorem Wk.rch {b v : Nat} {p : List Nat} (h : Wk nb b v p) : Rch nb (fun _ => false) b v := by
  induction h with
  | one => exact .refl _
  | step _ m ih => exact .step ih m rfl
theorem Rch.wk {b v : Nat} (h : Rch nb (fun _ => false) b v) : ∃ p, Wk nb b v p := by
  induction h with
  | refl => exact ⟨_, .one⟩
  | step _ m _ ih =>
    obtain ⟨p, hp⟩ := ih
    exact ⟨_, .step hp m⟩
theorem Wk.rev {b v : Nat} {p : List Nat} (G : Gr n nb) (h : Wk nb b v p) (hb : b < n) : ∃ q, q.length = p.length ∧ Wk nb v b q := by
  induction h with
  | one => exact ⟨[b], rfl, .one⟩
  | step h m ih =>
    obtain ⟨q, h1, h2⟩ := ih
    rename_i u v p
    exact ⟨v :: q, by simp [h1], h2.cons (G.sym _ (h.lt G hb) _ m)⟩
/-- the least walk -/
def Best (b v : Nat) (p : List Nat) : Prop := Wk nb b v p ∧ ∀ q, Wk nb b v q → ¬ lW q p
end
/-! ### breadth first, the least paths -/
section
variable (n : Nat) (nb : Nat → List Nat) (b : Nat)
/-- after d levels: the places found, those of the last level, their paths -/
structure Lvl (d : Nat) (vs ws : List Nat) (P : Nat → List Nat) : Prop where
  nd : vs.Nodup
  sub : ∀ v ∈ ws, v ∈ vs ∧ (P v).length = d + 1
  lt : ∀ v ∈ vs, v < n
  wk : ∀ v ∈ vs, Wk nb b v (P v)
  best : ∀ v ∈ vs, ∀ q, Wk nb b v q → ¬ lW q (P v)
  all : ∀ v q, Wk nb b v q → q.length ≤ d + 1 → v ∈ vs
  lvl : ∀ v ∈ vs, (P v).length ≤ d + 1 ∧ ((P v).length = d + 1 → v ∈ ws)
  ord : ws.Pairwise fun u v => P u < P v
variable {n nb b}
theorem Lvl.start (hb : b < n) : Lvl n nb b 0 [b] [b] fun _ => [b] := by
  refine ⟨by simp, fun v hv => ⟨hv, rfl⟩, fun v hv => ?_, fun v hv => ?_, fun v hv q h => ?_, fun v q h hl => ?_, fun v hv => ⟨Nat.le_refl _, fun _ => hv⟩, by simp⟩
  · rw [List.mem_singleton.mp hv]; exact hb
  · rw [List.mem_singleton.mp hv]; exact .one
  · have := h.ne
    rintro (z | ⟨z1, z2⟩)
    · have z : q.length < 1 := z
      omega
    · rcases h.inv with ⟨rfl, _⟩ | ⟨v, t, _, rfl, _⟩
      · exact List.lt_irrefl _ z2
      · rename_i h3
        have h3 := h3.ne
        have z1 : (b :: t).length = 1 := z1
        rw [List.length_cons] at z1; omega
  · rcases h.inv with ⟨rfl, rfl⟩ | ⟨u, t, _, rfl, h2⟩
    · simp
    · have := h2.ne
      rw [List.length_cons] at hl; omega
/-- within a level: ws1 done, h under way with the neighbours in done -/
structure Mid (d : Nat) (vs ws : List Nat) (P : Nat → List Nat) (ws1 : List Nat) (cur : Option (Nat × List Nat)) (later : List Nat) (P' : Nat → List Nat) : Prop where
  keep : ∀ v ∈ vs, P' v = P v
  done : ∀ h ∈ ws1, ∀ o ∈ nb h, o ∈ vs ++ later
  cur1 : ∀ h D, cur = some (h, D) → ∀ o ∈ D, o ∈ vs ++ later
  nd : (vs ++ later).Nodup
  from_ : ∀ v ∈ later, ∃ h, (h ∈ ws1 ∨ ∃ D, cur = some (h, D) ∧ v ∈ D) ∧ h ∈ ws ∧ v ∈ nb h ∧ P' v = P h ++ [v] ∧ ∀ h' ∈ ws, v ∈ nb h' → ¬ P h' < P h
  ord : later.Pairwise fun u v => P' u < P' v
theorem Mid.start {d : Nat} {vs ws : List Nat} {P : Nat → List Nat} (h : Lvl n nb b d vs ws P) : Mid (nb := nb) d vs ws P [] none [] P :=
  ⟨fun _ _ => rfl, fun _ h => (nomatch h), fun _ _ h => (nomatch h), by rw [List.append_nil]; exact h.nd, fun _ h => (nomatch h), List.Pairwise.nil⟩
theorem Mid.enter {d : Nat} {vs ws ws1 later : List Nat} {P P' : Nat → List Nat} {h : Nat} (m : Mid (nb := nb) d vs ws P ws1 none later P') : Mid (nb := nb) d vs ws P ws1 (some (h, [])) later P' :=
  ⟨m.keep, m.done, fun _ _ e => (by cases e; exact fun _ h => nomatch h), m.nd, fun v hv => by
    obtain ⟨x, hx, r⟩ := m.from_ v hv
    exact ⟨x, .inl (hx.resolve_right fun ⟨D, z, _⟩ => nomatch z), r⟩, m.ord⟩
theorem Mid.leave {d : Nat} {vs ws ws1 later : List Nat} {P P' : Nat → List Nat} {h : Nat} (m : Mid (nb := nb) d vs ws P ws1 (some (h, nb h)) later P') : Mid (nb := nb) d vs ws P (ws1 ++ [h]) none later P' :=
  ⟨m.keep, fun x hx => by
    rcases List.mem_append.mp hx with hx | hx
    · exact m.done x hx
    · rw [List.mem_singleton.mp hx]; exact m.cur1 h _ rfl, fun _ _ e => (nomatch e), m.nd, fun v hv => by
    obtain ⟨x, hx, r⟩ := m.from_ v hv
    refine ⟨x, .inl ?_, r⟩
    rcases hx with hx | ⟨D, e, _⟩
    · exact List.mem_append_left _ hx
    · cases e; simp, m.ord⟩
theorem Mid.skip {d : Nat} {vs ws ws1 later D : List Nat} {P P' : Nat → List Nat} {h o : Nat} (m : Mid (nb := nb) d vs ws P ws1 (some (h, D)) later P') (ho : o ∈ vs ++ later) : Mid (nb := nb) d vs ws P ws1 (some (h, D ++ [o])) later P' :=
  ⟨m.keep, m.done, fun x E e y hy => by
    cases e
    rcases List.mem_append.mp hy with hy | hy
    · exact m.cur1 h D rfl y hy
    · rw [List.mem_singleton.mp hy]; exact ho, m.nd, fun v hv => by
    obtain ⟨x, hx, r⟩ := m.from_ v hv
    refine ⟨x, hx.imp_right fun ⟨E, e, z⟩ => ?_, r⟩
    cases e
    exact ⟨_, rfl, List.mem_append_left _ z⟩, m.ord⟩
theorem Mid.add {d : Nat} {vs ws ws1 ws2 later D R : List Nat} {P P' : Nat → List Nat} {h o : Nat} (L : Lvl n nb b d vs ws P) (e : ws = ws1 ++ h :: ws2) (en : nb h = D ++ o :: R) (asc : (nb h).Pairwise (· < ·)) (m : Mid (nb := nb) d vs ws P ws1 (some (h, D)) later P') (ho : o ∉ vs ++ later) :
    Mid (nb := nb) d vs ws P ws1 (some (h, D ++ [o])) (later ++ [o]) (fun x => if x = o then P h ++ [o] else P' x) := by
  have hw : h ∈ ws := by rw [e]; simp
  have hon : o ∈ nb h := by rw [en]; simp
  have hov : o ∉ vs := fun z => ho (List.mem_append_left _ z)
  have hol : o ∉ later := fun z => ho (List.mem_append_right _ z)
  have ordw := L.ord
  rw [e, List.pairwise_append] at ordw
  obtain ⟨_, ow2, ow3⟩ := ordw
  rw [List.pairwise_cons] at ow2
  refine ⟨fun v hv => ?_, fun x hx y hy => ?_, fun x E ex y hy => ?_, ?_, fun v hv => ?_, ?_⟩
  · rw [if_neg (fun z => hov (by rw [← z]; exact hv))]; exact m.keep v hv
  · rw [← List.append_assoc]; exact List.mem_append_left _ (m.done x hx y hy)
  · cases ex
    rw [← List.append_assoc]
    rcases List.mem_append.mp hy with hy | hy
    · exact List.mem_append_left _ (m.cur1 h D rfl y hy)
    · exact List.mem_append_right _ hy
  · rw [← List.append_assoc, List.nodup_append]
    refine ⟨m.nd, by simp, fun a ha c hc z => ?_⟩
    rw [List.mem_singleton.mp hc] at z
    subst z
    exact ho ha
  · rcases List.mem_append.mp hv with hv | hv
    · obtain ⟨x, hx, h2, h3, h4, h5⟩ := m.from_ v hv
      refine ⟨x, hx.imp_right (fun w => ?_), h2, h3, ?_, h5⟩
      · obtain ⟨E, e, z⟩ := w
        cases e; exact ⟨_, rfl, List.mem_append_left _ z⟩
      · rw [if_neg (fun z => hol (by rw [← z]; exact hv))]; exact h4
    · have hv := List.mem_singleton.mp hv
      subst hv
      refine ⟨h, .inr ⟨_, rfl, by simp⟩, hw, hon, if_pos rfl, fun h' hh' hv' z => ?_⟩
      rw [e] at hh'
      rcases List.mem_append.mp hh' with q | q
      · exact ho (m.done h' q _ hv')
      · rcases List.mem_cons.mp q with q | q
        · rw [q] at z; exact List.lt_irrefl _ z
        · exact List.lt_irrefl _ (List.lt_trans z (ow2.1 h' q))
  · rw [List.pairwise_append]
    refine ⟨List.Pairwise.imp_of_mem (fun {x y} hx hy q => ?_) m.ord, by simp, fun x hx y hy => ?_⟩
    · rw [if_neg (fun z => hol (by rw [← z]; exact hx)), if_neg (fun z => hol (by rw [← z]; exact hy))]; exact q
    · have hy := List.mem_singleton.mp hy
      subst hy
      rw [if_neg (fun z => hol (by rw [← z]; exact hx)), if_pos rfl]
      obtain ⟨k, hk, h2, h3, h4, _⟩ := m.from_ x hx
      rw [h4]
      rcases hk with hk | ⟨E, ek, hxD⟩
      · exact lt_app (ow3 k hk h List.mem_cons_self) (by rw [(L.sub k h2).2, (L.sub h hw).2]) _ _
      · cases ek
        refine lt_snoc ?_
        rw [en, List.pairwise_append] at asc
        exact asc.2.2 x hxD _ List.mem_cons_self
/-- the next level -/
theorem Lvl.next {d : Nat} {vs ws later : List Nat} {P P' : Nat → List Nat} (G : Gr n nb) (hb : b < n) (L : Lvl n nb b d vs ws P) (m : Mid (nb := nb) d vs ws P ws none later P') : Lvl n nb b (d + 1) (vs ++ later) later P' := by
  have fr : ∀ v ∈ later, ∃ h, h ∈ ws ∧ v ∈ nb h ∧ P' v = P h ++ [v] ∧ ∀ h' ∈ ws, v ∈ nb h' → ¬ P h' < P h := fun v hv => by
    obtain ⟨h, _, r⟩ := m.from_ v hv
    exact ⟨h, r⟩
  have nl : ∀ v ∈ later, v ∉ vs := fun v hv z => by
    have := m.nd
    rw [List.nodup_append] at this
    exact this.2.2 v z v hv rfl
  have ln : ∀ v ∈ later, (P' v).length = d + 2 := fun v hv => by
    obtain ⟨h, h1, _, h3, _⟩ := fr v hv
    rw [h3, List.length_append, (L.sub h h1).2]; rfl
  -- the walk to one not found yet is long, and its last step is from the last level
  have out : ∀ v q, Wk nb b v q → v ∉ vs → q.length = d + 2 → ∃ u p, u ∈ ws ∧ v ∈ nb u ∧ Wk nb b u p ∧ q = p ++ [v] ∧ p.length = d + 1 := fun v q hq hv hl => by
    obtain ⟨u, p, h1, h2, rfl⟩ := hq.pre (by omega)
    rw [List.length_append] at hl
    have hl : p.length = d + 1 := by simpa using hl
    have hu := L.all u p h1 (by omega)
    refine ⟨u, p, ?_, h2, h1, rfl, hl⟩
    obtain ⟨l1, l2⟩ := L.lvl u hu
    rcases Nat.lt_or_ge (P u).length (d + 1) with l | l
    · exfalso
      have := L.all v (P u ++ [v]) (.step (L.wk u hu) h2) (by rw [List.length_append]; simp; omega)
      exact hv this
    · exact l2 (by omega)
  refine ⟨m.nd, fun v hv => ⟨List.mem_append_right _ hv, ln v hv⟩, fun v hv => ?_, fun v hv => ?_, fun v hv q hq => ?_, fun v q hq hl => ?_, fun v hv => ?_, m.ord⟩
  · rcases List.mem_append.mp hv with hv | hv
    · exact L.lt v hv
    · obtain ⟨h, h1, h2, _, _⟩ := fr v hv
      exact G.lt h (L.lt h (L.sub h h1).1) v h2
  · rcases List.mem_append.mp hv with hv | hv
    · rw [m.keep v hv]; exact L.wk v hv
    · obtain ⟨h, h1, h2, h3, _⟩ := fr v hv
      rw [h3]; exact .step (L.wk h (L.sub h h1).1) h2
  · rcases List.mem_append.mp hv with hv | hv
    · rw [m.keep v hv]; exact L.best v hv q hq
    · intro z
      have hlen := ln v hv
      have hql : d + 2 ≤ q.length := by
        rcases Nat.lt_or_ge q.length (d + 2) with l | l
        · exact absurd (L.all v q hq (by omega)) (nl v hv)
        · exact l
      rcases z with z | ⟨z1, z2⟩
      · omega
      · obtain ⟨u, p, h1, h2, h3, rfl, h5⟩ := out v q hq (nl v hv) (by omega)
        obtain ⟨h, k1, k2, k3, k4⟩ := fr v hv
        rw [k3] at z2
        have e1 := k4 u h1 h2
        have e2 := L.best u (L.sub u h1).1 p h3
        have l1 := (L.sub u h1).2
        have l2 := (L.sub h k1).2
        have np : ¬ p < P u := fun c => e2 (.inr ⟨by omega, c⟩)
        have : ¬ p < P h := fun c => by
          rcases lt_tri (P u) (P h) with q | q | q
          · exact e1 q
          · rw [q] at np; exact np c
          · exact np (List.lt_trans c q)
        rcases lt_tri p (P h) with q | q | q
        · exact this q
        · rw [q] at z2; exact List.lt_irrefl _ z2
        · exact List.lt_irrefl _ (List.lt_trans z2 (lt_app q (by omega) _ _))
  · rcases Nat.lt_or_ge q.length (d + 2) with l | l
    · exact List.mem_append_left _ (L.all v q hq (by omega))
    · by_cases hv : v ∈ vs
      · exact List.mem_append_left _ hv
      · obtain ⟨u, p, h1, h2, _⟩ := out v q hq hv (by omega)
        exact m.done u h1 v h2
  · rcases List.mem_append.mp hv with hv | hv
    · rw [m.keep v hv]
      have := (L.lvl v hv).1
      exact ⟨by omega, fun z => by omega⟩
    · exact ⟨by rw [ln v hv]; exact Nat.le_refl _, fun _ => hv⟩
/-- nothing new: all are found -/
theorem Lvl.stop {d : Nat} {vs : List Nat} {P : Nat → List Nat} (L : Lvl n nb b d vs [] P) : ∀ v q, Wk nb b v q → v ∈ vs := by
  have nw : ∀ v ∈ vs, (P v).length ≤ d := fun v hv => by
    obtain ⟨l1, l2⟩ := L.lvl v hv
    rcases Nat.lt_or_ge (P v).length (d + 1) with l | l
    · omega
    · exact absurd (l2 (by omega)) (by simp)
  intro v q hq
  induction hq with
  | one => exact L.all _ _ .one (by simp)
  | step h m ih => exact L.all _ _ (.step (L.wk _ ih) m) (by rw [List.length_append]; have := nw _ ih; simp; omega)
end
end Pv

/-! Pg2: a chain by distances; the order of tuples of numbers. -/
namespace Pv
open PySem PySem.Spec L2
open PyProof.Rows hiding St
section
variable {nb : Nat → List Nat} {n b e : Nat}
theorem Wk.head {b v : Nat} {p : List Nat} (h : Wk nb b v p) : ∃ t, p = b :: t := by
  rcases h.inv with ⟨rfl, _⟩ | ⟨_, t, _, rfl, _⟩
  · exact ⟨[], rfl⟩
  · exact ⟨t, rfl⟩
theorem Wk.split {b e u x : Nat} {t : List Nat} : ∀ {p : List Nat}, Wk nb b e (p ++ u :: x :: t) → x ∈ nb u ∧ Wk nb x e (x :: t)
  | [], h => by
    rcases h.inv with ⟨z, _⟩ | ⟨v, t', h1, z, h3⟩
    · cases z
    · cases z
      obtain ⟨t2, h4⟩ := h3.head
      cases h4
      exact ⟨h1, h3⟩
  | y :: p, h => by
    rcases h.inv with ⟨z, _⟩ | ⟨v, t', h1, z, h3⟩
    · rw [List.cons_append, List.cons.injEq] at z
      exact absurd z.2 (by simp)
    · rw [List.cons_append, List.cons.injEq] at z
      obtain ⟨_, rfl⟩ := z
      exact Wk.split h3
/-- how far places are from e: D steps -/
structure Far (n : Nat) (nb : Nat → List Nat) (e : Nat) (S : Nat → Prop) (D : Nat → Nat) : Prop where
  gr : Gr n nb
  lt : ∀ v, S v → v < n
  le : ∀ v q, v < n → Wk nb v e q → S v ∧ D v + 1 ≤ q.length
  ex : ∀ v, S v → ∃ q, Wk nb v e q ∧ q.length = D v + 1
theorem Far.next {S : Nat → Prop} {D : Nat → Nat} (F : Far n nb e S D) {h : Nat} (hs : S h) (hd : 0 < D h) : ∃ v, v ∈ nb h ∧ S v ∧ D v + 1 = D h := by
  obtain ⟨q, hq, hl⟩ := F.ex h hs
  rcases hq.inv with ⟨rfl, _⟩ | ⟨v, t, h1, rfl, h3⟩
  · simp at hl; omega
  · have hn := F.lt h hs
    obtain ⟨h4, h5⟩ := F.le v t (F.gr.lt h hn v h1) h3
    obtain ⟨q2, hq2, hl2⟩ := F.ex v h4
    have := (F.le h _ hn (hq2.cons h1)).2
    rw [List.length_cons] at this hl
    exact ⟨v, h1, h4, by omega⟩
structure Gd (nb : Nat → List Nat) (b e K k : Nat) (R : List Nat) (h : Nat) : Prop where
  len : R.length = k + 1
  wk : Wk nb b h R
  best : ∀ W, Wk nb b e W → W.length = K + 1 → R < W.take (k + 1) ∨ R = W.take (k + 1)
theorem Gd.start (K : Nat) : Gd nb b e K 0 [b] b := ⟨rfl, .one, fun W hW _ => by
  obtain ⟨t, rfl⟩ := hW.head
  exact .inr rfl⟩
theorem Gd.step {S : Nat → Prop} {D : Nat → Nat} (F : Far n nb e S D) {K k h o : Nat} {R : List Nat} (g : Gd nb b e K k R h) (hn : h < n) (hk : k < K) (hD : D h = K - k) (ho : o ∈ nb h) (hmin : ∀ x, x ∈ nb h → S x → D x + 1 = D h → o ≤ x) : Gd nb b e K (k + 1) (R ++ [o]) o := by
  refine ⟨by rw [List.length_append, g.len]; rfl, .step g.wk ho, fun W hW hl => ?_⟩
  have hlt : k + 1 < W.length := by omega
  have e1 : W.take (k + 1 + 1) = W.take (k + 1) ++ [W[k + 1]] := by
    rw [List.take_succ, List.getElem?_eq_getElem hlt]; rfl
  rw [e1]
  rcases g.best W hW hl with q | q
  · exact .inl (lt_app q (by rw [g.len, List.length_take]; omega) _ _)
  · obtain ⟨R', rfl⟩ := g.wk.last
    have e2 : W = R' ++ h :: W[k + 1] :: W.drop (k + 2) := by
      conv => lhs; rw [← List.take_append_drop (k + 1) W, ← q, List.drop_eq_getElem_cons hlt, List.append_assoc]
      rfl
    rw [e2] at hW
    obtain ⟨h1, h2⟩ := hW.split
    obtain ⟨h3, h4⟩ := F.le _ _ (F.gr.lt h hn _ h1) h2
    have hlen : (W[k + 1] :: W.drop (k + 2)).length = K - k := by
      rw [List.length_cons, List.length_drop]; omega
    obtain ⟨q2, hq2, hl2⟩ := F.ex _ h3
    have h5 := (F.le h _ hn (hq2.cons h1)).2
    rw [List.length_cons] at h5
    have := hmin _ h1 h3 (by omega)
    rw [← q]
    rcases Nat.lt_or_ge o W[k + 1] with l | l
    · exact .inl (lt_snoc l)
    · have : o = W[k + 1] := by omega
      exact .inr (by rw [← this])
theorem Gd.fin {S : Nat → Prop} {D : Nat → Nat} (F : Far n nb e S D) {K h : Nat} {R : List Nat} (g : Gd nb b e K K R h) (hs : S h) (hD : D h = 0) (hb : D b = K) (hbn : b < n) : Best (nb := nb) b e R := by
  have he : h = e := by
    obtain ⟨q, hq, hl⟩ := F.ex h hs
    rcases hq.inv with ⟨rfl, z⟩ | ⟨v, t, h1, rfl, h3⟩
    · exact z.symm
    · have := h3.ne
      rw [List.length_cons] at hl; omega
  subst he
  refine ⟨g.wk, fun W hW z => ?_⟩
  have h1 := (F.le b W hbn hW).2
  rcases z with z | ⟨z1, z2⟩
  · rw [g.len] at z; omega
  · rw [g.len] at z1
    have := g.best W hW z1
    rw [List.take_of_length_le (by omega)] at this
    rcases this with q | q
    · exact List.lt_irrefl _ (List.lt_trans z2 q)
    · rw [q] at z2; exact List.lt_irrefl _ z2
end
/-! ### tuples of numbers -/
theorem nat_lt (a b : List Nat) : a.map Int.ofNat < b.map Int.ofNat ↔ a < b := by
  induction a generalizing b with
  | nil => cases b with
    | nil => exact ⟨fun h => absurd h (List.lt_irrefl _), fun h => absurd h (List.lt_irrefl _)⟩
    | cons v b => exact ⟨fun _ => List.nil_lt_cons .., fun _ => List.nil_lt_cons ..⟩
  | cons u a ih =>
    cases b with
    | nil => exact ⟨fun h => absurd h (List.not_lt_nil _), fun h => absurd h (List.not_lt_nil _)⟩
    | cons v b =>
      rw [List.map_cons, List.map_cons, List.cons_lt_cons_iff, List.cons_lt_cons_iff, ih b]
      constructor
      · rintro (h | ⟨h1, h2⟩)
        · exact .inl (Int.ofNat_lt.mp h)
        · exact .inr ⟨Int.ofNat.inj h1, h2⟩
      · rintro (h | ⟨h1, h2⟩)
        · exact .inl (Int.ofNat_lt.mpr h)
        · exact .inr ⟨by rw [h1], h2⟩
theorem toPy_nT (k : Nat) (a : List Nat) : toPy (k + 1) (.tup (nL a)) = .tuple ((a.map Int.ofNat).map PyData.int) := by
  show PyData.tuple ((nL a).map (toPy k)) = _
  unfold nL
  rw [List.map_map, List.map_map]
  congr 1
  exact List.map_congr_left fun x _ => by cases k <;> rfl
theorem al_ints (a b : List Nat) : PySem.W.alike (.tuple ((a.map Int.ofNat).map PyData.int)) (.tuple ((b.map Int.ofNat).map PyData.int)) = true := by
  rw [PySem.W.alike]; exact PySem.W.alike_ints _ _
theorem lt_ints (a b : List Nat) : PySem.W.dataLt (.tuple ((a.map Int.ofNat).map PyData.int)) (.tuple ((b.map Int.ofNat).map PyData.int)) = decide (a < b) := by
  rw [PySem.W.dataLt_tuple]
  refine (PySem.W.dataLt_ints (a.map Int.ofNat) (b.map Int.ofNat)).trans ?_
  rw [decide_eq_decide, nat_lt]
theorem ok_nT (k : Nat) (a : List Nat) : okN (k + 1) (.tup (nL a)) = true := by
  show (nL a).all (okN k) = true
  rw [List.all_eq_true]
  intro d hd
  unfold nL at hd
  obtain ⟨x, _, rfl⟩ := List.mem_map.mp hd
  cases k <;> rfl
theorem lt5_nT (a b : List Nat) : lt5 (.tup (nL a)) (.tup (nL b)) = decide (a < b) := by
  unfold lt5
  rw [toPy_nT, toPy_nT, lt_ints]
/-- (number, tuple of numbers) -/
def pr (i : Nat) (a : List Nat) : D := .tup [.int (i : Int), .tup (nL a)]
theorem toPy_pr (k i : Nat) (a : List Nat) : toPy (k + 2) (pr i a) = .tuple [.int (i : Int), .tuple ((a.map Int.ofNat).map PyData.int)] := by
  show PyData.tuple [toPy (k + 1) (.int (i : Int)), toPy (k + 1) (.tup (nL a))] = _
  rw [toPy_nT]; rfl
theorem ok_pr (k i : Nat) (a : List Nat) : okN (k + 2) (pr i a) = true := by
  show ([D.int (i : Int), .tup (nL a)].all (okN (k + 1))) = true
  rw [List.all_cons, List.all_cons, ok_nT]; rfl
theorem al_pr (i j : Nat) (a b : List Nat) : PySem.W.alike (.tuple [.int (i : Int), .tuple ((a.map Int.ofNat).map PyData.int)]) (.tuple [.int (j : Int), .tuple ((b.map Int.ofNat).map PyData.int)]) = true := by
  simp only [PySem.W.alike, PySem.W.alikeAll, Bool.true_and, Bool.and_true]
  exact PySem.W.alike_ints _ _
theorem lt_pr (i j : Nat) (a b : List Nat) : PySem.W.dataLt (.tuple [.int (i : Int), .tuple ((a.map Int.ofNat).map PyData.int)]) (.tuple [.int (j : Int), .tuple ((b.map Int.ofNat).map PyData.int)]) = decide (i < j ∨ (i = j ∧ a < b)) := by
  rw [PySem.W.dataLt_pair (by simp [PySem.W.alike]) (al_ints a b), lt_ints, PySem.W.dataLt_int]
  have key : PyData.eqvAll ((a.map Int.ofNat).map PyData.int) ((b.map Int.ofNat).map PyData.int) = true → ¬ a < b := by
    intro h z
    have : a = b := by
      clear z
      induction a generalizing b with
      | nil => cases b with
        | nil => rfl
        | cons _ _ => cases h
      | cons u a ih =>
        cases b with
        | nil => cases h
        | cons v b =>
          have h : (((Int.ofNat u) == (Int.ofNat v)) && PyData.eqvAll ((a.map Int.ofNat).map PyData.int) ((b.map Int.ofNat).map PyData.int)) = true := h
          rw [Bool.and_eq_true, beq_iff_eq] at h
          rw [Int.ofNat.inj h.1, ih b h.2]
    rw [this] at z; exact List.lt_irrefl _ z
  have e1 : PyData.eqv (.int (i : Int)) (.int (j : Int)) = ((i : Int) == (j : Int)) := rfl
  rw [e1]
  by_cases c : i = j
  · subst c
    rw [beq_self_eq_true, if_pos rfl]
    cases c2 : PyData.eqv (.tuple ((a.map Int.ofNat).map PyData.int)) (.tuple ((b.map Int.ofNat).map PyData.int)) with
    | true =>
      have := key c2
      rw [if_pos rfl]; simp [this]
    | false => rw [if_neg Bool.false_ne_true]; simp
  · rw [show ((i : Int) == (j : Int)) = false by rw [beq_eq_false_iff_ne]; omega, if_neg Bool.false_ne_true]
    simp [c]
theorem lt5_pr (i j : Nat) (a b : List Nat) : lt5 (pr i a) (pr j b) = decide (i < j ∨ (i = j ∧ a < b)) := by
  unfold lt5
  rw [toPy_pr, toPy_pr, lt_pr]
theorem ltP_pr (i j : Nat) (a b : List Nat) : ltP (pr i a) (pr j b) = some (.bl (decide (i < j ∨ (i = j ∧ a < b)))) := by
  unfold ltP
  rw [if_pos ⟨ok_pr _ i a, ok_pr _ j b, by unfold alV; rw [toPy_pr, toPy_pr]; exact al_pr i j a b, rfl⟩]
  unfold ltV
  rw [toPy_pr, toPy_pr, lt_pr]
/-! ### the least of a list -/
theorem pick_map {α : Type} (c : α → D) (lt : α → α → Prop) [DecidableRel lt] (hl : ∀ a b, lt5 (c a) (c b) = decide (lt a b)) : ∀ (xs : List α) (x : α), ∃ m, m ∈ x :: xs ∧ pickBy lt5 (c x) (xs.map c) = c m ∧ ((∀ a b d, ¬ lt b a → ¬ lt d b → ¬ lt d a) → (∀ a, ¬ lt a a) → (∀ a b, lt a b → ¬ lt b a) → ∀ y ∈ x :: xs, ¬ lt y m)
  | [], x => ⟨x, List.mem_cons_self, rfl, fun _ irr _ y hy => by rw [List.mem_singleton.mp hy]; exact irr x⟩
  | y :: xs, x => by
    obtain ⟨m, h1, h2, h3⟩ := pick_map c lt hl xs (if lt y x then y else x)
    refine ⟨m, ?_, ?_, fun tr irr asy z hz => ?_⟩
    · rcases List.mem_cons.mp h1 with e | e
      · rw [e]; split <;> simp
      · exact List.mem_cons_of_mem _ (List.mem_cons_of_mem _ e)
    · show pickBy lt5 (if lt5 (c y) (c x) = true then c y else c x) (xs.map c) = _
      rw [hl]
      by_cases q : lt y x
      · rw [if_pos q] at h2; rw [if_pos (decide_eq_true q)]; exact h2
      · rw [if_neg q] at h2; rw [if_neg (by simpa using q)]; exact h2
    · have h4 := h3 tr irr asy
      have h5 := h4 _ List.mem_cons_self
      rcases List.mem_cons.mp hz with rfl | hz
      · by_cases q : lt y z
        · rw [if_pos q] at h5
          exact tr _ _ _ h5 (asy _ _ q)
        · rw [if_neg q] at h5; exact h5
      · rcases List.mem_cons.mp hz with rfl | hz
        · by_cases q : lt z x
          · rw [if_pos q] at h5; exact h5
          · rw [if_neg q] at h5
            exact tr _ _ _ h5 q
        · exact h4 z (List.mem_cons_of_mem _ hz)
end Pv

local macro_rules | `(tactic| walk_at "go") => `(tactic| (repeat (first | (with_reducible first | refine Pv.vcst ?_ | refine Pv.vvar ?_ | refine Pv.lk_0 ?_ | refine Pv.lk_s ?_ | refine Pv.setn_c ?_ | refine Pv.setn_0 ?_ | refine Pv.repn_s ?_ | refine Pv.repn_0 ?_ | refine Pv.fgq_n ?_ | refine Pv.fgq_c ?_ | refine Pv.tgo_n ?_ | refine Pv.tgo_2 ?_ | refine Pv.set_0 ?_ | refine Pv.set_s ?_ | refine Pv.isb ?_ | refine Pv.isi ?_ | refine Pv.iss ?_ | refine Pv.isls ?_ | refine Pv.br_t ?_ | refine Pv.br_f ?_ | refine Pv.br_nt ?_ | refine Pv.br_nf ?_ | refine Pv.sfgt_n ?_ | refine Pv.sfgt_c ?_ | refine Pv.sparM ?_ | refine Pv.nr_l ?_ | refine Pv.nr_k ?_ | refine Pv.nr_t ?_ | refine Pv.vbvv ?_ | refine Pv.vbvs ?_ | refine Pv.vbsv ?_ | refine Pv.vbss ?_ | refine Pv.vuv ?_ | refine Pv.vus ?_ | refine Pv.vnot ?_ | refine Pv.vif ?_ | refine Pv.vpub ?_ | refine Pv.alnil ?_ | refine Pv.alcons ?_ | refine Pv.vlst ?_ | refine Pv.vtup ?_ | refine Pv.vcallP ?_ | refine Pv.vsl0 ?_ | refine Pv.vsl1 ?_ | refine Pv.vsl2 ?_ | refine Pv.vmet ?_ | refine Pv.vdnK ?_ | refine Pv.vdnT ?_ | refine Pv.vdnL ?_ | refine Pv.iv ?_ | refine Pv.isl_l ?_ | refine Pv.isl_t ?_ | refine Pv.isl_s ?_ | refine Pv.mnil ?_ | refine Pv.mv ?_ | refine Pv.mf ?_ | refine Pv.fn_l ?_ | refine Pv.fn_k ?_ | refine Pv.setms_n ?_ | refine Pv.setms_c ?_ | refine Pv.ws_seq ?_ | refine Pv.sput ?_ | refine Pv.sret ?_ | refine Pv.sif ?_ | refine Pv.sskip ?_ | refine Pv.sdrp ?_ | refine Pv.sasgG ?_ | refine Pv.vch ?_ | refine Pv.vand ?_ | refine Pv.vor ?_ | refine Pv.ok1 (Pv.addD_nat1 ..) ?_ | refine Pv.ok1 (Pv.addD_1nat ..) ?_ | refine Pv.ok1 (Pv.addD_nat ..) ?_ | refine Pv.ok1 (Pv.addD_int ..) ?_ | refine Pv.ok1 (Pv.subD_int ..) ?_ | refine Pv.ok1 (Pv.lenD_nL ..) ?_ | refine Pv.ok1 (Pv.lenD_lst ..) ?_ | refine Pv.ok1 (Pv.lenD_tup ..) ?_ | refine Pv.ok1 (Pv.leD_int ..) ?_ | refine Pv.ok1 (Pv.ltD_int ..) ?_ | refine Pv.ok1 (Pv.gtD_int ..) ?_ | refine Pv.ok1 (Pv.geD_int ..) ?_ | refine Pv.ok1 (Pv.eqO_int ..) ?_ | refine Pv.ok1 (Pv.neO_int ..) ?_ | refine Pv.ok1 (Pv.eqO_bl ..) ?_ | refine Pv.ok1 (Pv.neO_bl ..) ?_ | refine Pv.ok1 (Pv.isi_ii ..) ?_ | refine Pv.ok1 (Pv.isi_ib ..) ?_ | refine Pv.ok1 (Pv.isi_is ..) ?_ | refine Pv.ok1 (Pv.isi_bi ..) ?_ | refine Pv.ok1 (Pv.isi_bb ..) ?_ | refine Pv.ok1 (Pv.isi_bs ..) ?_ | refine Pv.ok1 (Pv.isi_si ..) ?_ | refine Pv.ok1 (Pv.isi_sb ..) ?_ | refine Pv.ok1 (Pv.isi_ss ..) ?_ | refine Pv.ok1 (Pv.isi_ti ..) ?_ | refine Pv.ok1 (Pv.isi_ts ..) ?_ | refine Pv.ok1 (Pv.isi_tt ..) ?_ | refine Pv.ok1 (Pv.isi_tl ..) ?_ | refine Pv.ok1 (Pv.isi_li ..) ?_ | refine Pv.ok1 (Pv.isi_ls ..) ?_ | refine Pv.ok1 (Pv.isi_lt ..) ?_ | refine Pv.ok1 (Pv.isi_ll ..) ?_ | refine Pv.ok1 (Pv.isi_ni ..) ?_ | refine Pv.ok1 (Pv.isi_ns ..) ?_ | refine Pv.ok1 (Pv.isi_nt ..) ?_ | refine Pv.ok1 (Pv.isi_it ..) ?_ | refine Pv.ok1 (Pv.isi_nb ..) ?_ | refine Pv.ok1 (Pv.isi_lb ..) ?_ | refine Pv.ok1 (Pv.isi_tb ..) ?_ | refine Pv.ok1 (Pv.isi_st ..) ?_ | refine Pv.ok1 (Pv.isi_bt ..) ?_ | refine Pv.ok1 (Pv.isD_non ..) ?_ | refine Pv.ok1 (Pv.isnD_non ..) ?_ | refine Pv.ok1 (Pv.negD_int ..) ?_) | refine Pv.sml rfl ?_ | refine Pv.sml3 rfl ?_)))
local macro_rules | `(tactic| walk_at "gp") => `(tactic| (repeat (first | (with_reducible first | refine Pv.vcst ?_ | refine Pv.vvar ?_ | refine Pv.lk_0 ?_ | refine Pv.lk_s ?_ | refine Pv.setn_c ?_ | refine Pv.setn_0 ?_ | refine Pv.repn_s ?_ | refine Pv.repn_0 ?_ | refine Pv.fgq_n ?_ | refine Pv.fgq_c ?_ | refine Pv.tgo_n ?_ | refine Pv.tgo_2 ?_ | refine Pv.set_0 ?_ | refine Pv.set_s ?_ | refine Pv.isb ?_ | refine Pv.isi ?_ | refine Pv.iss ?_ | refine Pv.isls ?_ | refine Pv.br_t ?_ | refine Pv.br_f ?_ | refine Pv.br_nt ?_ | refine Pv.br_nf ?_ | refine Pv.sfgt_n ?_ | refine Pv.sfgt_c ?_ | refine Pv.sparM ?_ | refine Pv.nr_l ?_ | refine Pv.nr_k ?_ | refine Pv.nr_t ?_ | refine Pv.vbvv ?_ | refine Pv.vbvs ?_ | refine Pv.vbsv ?_ | refine Pv.vbss ?_ | refine Pv.vuv ?_ | refine Pv.vus ?_ | refine Pv.vnot ?_ | refine Pv.vif ?_ | refine Pv.vpub ?_ | refine Pv.alnil ?_ | refine Pv.alcons ?_ | refine Pv.vlst ?_ | refine Pv.vtup ?_ | refine Pv.vcallP ?_ | refine Pv.vsl0 ?_ | refine Pv.vsl1 ?_ | refine Pv.vsl2 ?_ | refine Pv.vmet ?_ | refine Pv.vdnK ?_ | refine Pv.vdnT ?_ | refine Pv.vdnL ?_ | refine Pv.iv ?_ | refine Pv.isl_l ?_ | refine Pv.isl_t ?_ | refine Pv.isl_s ?_ | refine Pv.mnil ?_ | refine Pv.mv ?_ | refine Pv.mf ?_ | refine Pv.fn_l ?_ | refine Pv.fn_k ?_ | refine Pv.setms_n ?_ | refine Pv.setms_c ?_ | refine Pv.ws_seq ?_ | refine Pv.sput ?_ | refine Pv.sret ?_ | refine Pv.sif ?_ | refine Pv.sskip ?_ | refine Pv.sdrp ?_ | refine Pv.sasgG ?_ | refine Pv.vch ?_ | refine Pv.vandP ?_ | refine Pv.vorP ?_ | refine Pv.ok1 (Pv.addD_nat1 ..) ?_ | refine Pv.ok1 (Pv.addD_1nat ..) ?_ | refine Pv.ok1 (Pv.addD_nat ..) ?_ | refine Pv.ok1 (Pv.addD_int ..) ?_ | refine Pv.ok1 (Pv.subD_int ..) ?_ | refine Pv.ok1 (Pv.lenD_nL ..) ?_ | refine Pv.ok1 (Pv.lenD_lst ..) ?_ | refine Pv.ok1 (Pv.lenD_tup ..) ?_ | refine Pv.ok1 (Pv.leD_int ..) ?_ | refine Pv.ok1 (Pv.ltD_int ..) ?_ | refine Pv.ok1 (Pv.gtD_int ..) ?_ | refine Pv.ok1 (Pv.geD_int ..) ?_ | refine Pv.ok1 (Pv.eqO_int ..) ?_ | refine Pv.ok1 (Pv.neO_int ..) ?_ | refine Pv.ok1 (Pv.eqO_bl ..) ?_ | refine Pv.ok1 (Pv.neO_bl ..) ?_ | refine Pv.ok1 (Pv.isi_ii ..) ?_ | refine Pv.ok1 (Pv.isi_ib ..) ?_ | refine Pv.ok1 (Pv.isi_is ..) ?_ | refine Pv.ok1 (Pv.isi_bi ..) ?_ | refine Pv.ok1 (Pv.isi_bb ..) ?_ | refine Pv.ok1 (Pv.isi_bs ..) ?_ | refine Pv.ok1 (Pv.isi_si ..) ?_ | refine Pv.ok1 (Pv.isi_sb ..) ?_ | refine Pv.ok1 (Pv.isi_ss ..) ?_ | refine Pv.ok1 (Pv.isi_ti ..) ?_ | refine Pv.ok1 (Pv.isi_ts ..) ?_ | refine Pv.ok1 (Pv.isi_tt ..) ?_ | refine Pv.ok1 (Pv.isi_tl ..) ?_ | refine Pv.ok1 (Pv.isi_li ..) ?_ | refine Pv.ok1 (Pv.isi_ls ..) ?_ | refine Pv.ok1 (Pv.isi_lt ..) ?_ | refine Pv.ok1 (Pv.isi_ll ..) ?_ | refine Pv.ok1 (Pv.isi_ni ..) ?_ | refine Pv.ok1 (Pv.isi_ns ..) ?_ | refine Pv.ok1 (Pv.isi_nt ..) ?_ | refine Pv.ok1 (Pv.isi_it ..) ?_ | refine Pv.ok1 (Pv.isi_nb ..) ?_ | refine Pv.ok1 (Pv.isi_lb ..) ?_ | refine Pv.ok1 (Pv.isi_tb ..) ?_ | refine Pv.ok1 (Pv.isi_st ..) ?_ | refine Pv.ok1 (Pv.isi_bt ..) ?_ | refine Pv.ok1 (Pv.isD_non ..) ?_ | refine Pv.ok1 (Pv.isnD_non ..) ?_ | refine Pv.ok1 (Pv.negD_int ..) ?_) | refine Pv.sml rfl ?_ | refine Pv.sml3 rfl ?_)))
local macro_rules | `(tactic| walk_at "gf") => `(tactic| (repeat (first | (with_reducible first | refine Pv.vcst ?_ | refine Pv.vvar ?_ | refine Pv.lk_0 ?_ | refine Pv.lk_s ?_ | refine Pv.setn_c ?_ | refine Pv.setn_0 ?_ | refine Pv.repn_s ?_ | refine Pv.repn_0 ?_ | refine Pv.fgq_n ?_ | refine Pv.fgq_c ?_ | refine Pv.tgo_n ?_ | refine Pv.tgo_2 ?_ | refine Pv.set_0 ?_ | refine Pv.set_s ?_ | refine Pv.isb ?_ | refine Pv.isi ?_ | refine Pv.iss ?_ | refine Pv.isls ?_ | refine Pv.br_t ?_ | refine Pv.br_f ?_ | refine Pv.br_nt ?_ | refine Pv.br_nf ?_ | refine Pv.sfgt_n ?_ | refine Pv.sfgt_c ?_ | refine Pv.sparM ?_ | refine Pv.nr_l ?_ | refine Pv.nr_k ?_ | refine Pv.nr_t ?_ | refine Pv.vbvv ?_ | refine Pv.vbvs ?_ | refine Pv.vbsv ?_ | refine Pv.vbss ?_ | refine Pv.vuv ?_ | refine Pv.vus ?_ | refine Pv.vnot ?_ | refine Pv.vif ?_ | refine Pv.vpub ?_ | refine Pv.alnil ?_ | refine Pv.alcons ?_ | refine Pv.vlst ?_ | refine Pv.vtup ?_ | refine Pv.vcallP ?_ | refine Pv.vsl0 ?_ | refine Pv.vsl1 ?_ | refine Pv.vsl2 ?_ | refine Pv.vmet ?_ | refine Pv.vdnK ?_ | refine Pv.vdnT ?_ | refine Pv.vdnL ?_ | refine Pv.iv ?_ | refine Pv.isl_l ?_ | refine Pv.isl_t ?_ | refine Pv.isl_s ?_ | refine Pv.mnil ?_ | refine Pv.mv ?_ | refine Pv.mf ?_ | refine Pv.fn_l ?_ | refine Pv.fn_k ?_ | refine Pv.setms_n ?_ | refine Pv.setms_c ?_ | refine Pv.ws_seq ?_ | refine Pv.sput ?_ | refine Pv.sret ?_ | refine Pv.sif ?_ | refine Pv.sskip ?_ | refine Pv.sdrp ?_ | refine Pv.sasgG ?_ | refine Pv.vch ?_ | refine Pv.vand ?_ | refine Pv.vor ?_ | refine Pv.vmak ?_ | refine Pv.tgo_t ?_ | refine Pv.tgos_n ?_ | refine Pv.tgos_c ?_ | refine Pv.saug ?_ | refine Pv.ok1 Pv.fld_size ?_ | refine Pv.ok1 Pv.fld_gaps ?_ | refine Pv.ok1 Pv.fld_closed ?_ | refine Pv.ok1 Pv.fld_common0 ?_ | refine Pv.ok1 Pv.fld_cuts1 ?_ | refine Pv.ok1 Pv.fld_cuts ?_ | refine Pv.ok1 Pv.fld_common ?_ | refine Pv.ok1 Pv.fld_frame ?_ | refine Pv.ok1 (Pv.addIO_int _ _) ?_ | refine Pv.ok1 (Pv.addD_nat1 ..) ?_ | refine Pv.ok1 (Pv.addD_1nat ..) ?_ | refine Pv.ok1 (Pv.addD_nat ..) ?_ | refine Pv.ok1 (Pv.addD_int ..) ?_ | refine Pv.ok1 (Pv.subD_int ..) ?_ | refine Pv.ok1 (Pv.lenD_nL ..) ?_ | refine Pv.ok1 (Pv.lenD_lst ..) ?_ | refine Pv.ok1 (Pv.lenD_tup ..) ?_ | refine Pv.ok1 (Pv.leD_int ..) ?_ | refine Pv.ok1 (Pv.ltD_int ..) ?_ | refine Pv.ok1 (Pv.gtD_int ..) ?_ | refine Pv.ok1 (Pv.geD_int ..) ?_ | refine Pv.ok1 (Pv.eqO_int ..) ?_ | refine Pv.ok1 (Pv.neO_int ..) ?_ | refine Pv.ok1 (Pv.eqO_bl ..) ?_ | refine Pv.ok1 (Pv.neO_bl ..) ?_ | refine Pv.ok1 (Pv.isi_ii ..) ?_ | refine Pv.ok1 (Pv.isi_ib ..) ?_ | refine Pv.ok1 (Pv.isi_is ..) ?_ | refine Pv.ok1 (Pv.isi_bi ..) ?_ | refine Pv.ok1 (Pv.isi_bb ..) ?_ | refine Pv.ok1 (Pv.isi_bs ..) ?_ | refine Pv.ok1 (Pv.isi_si ..) ?_ | refine Pv.ok1 (Pv.isi_sb ..) ?_ | refine Pv.ok1 (Pv.isi_ss ..) ?_ | refine Pv.ok1 (Pv.isi_ti ..) ?_ | refine Pv.ok1 (Pv.isi_ts ..) ?_ | refine Pv.ok1 (Pv.isi_tt ..) ?_ | refine Pv.ok1 (Pv.isi_tl ..) ?_ | refine Pv.ok1 (Pv.isi_li ..) ?_ | refine Pv.ok1 (Pv.isi_ls ..) ?_ | refine Pv.ok1 (Pv.isi_lt ..) ?_ | refine Pv.ok1 (Pv.isi_ll ..) ?_ | refine Pv.ok1 (Pv.isi_ni ..) ?_ | refine Pv.ok1 (Pv.isi_ns ..) ?_ | refine Pv.ok1 (Pv.isi_nt ..) ?_ | refine Pv.ok1 (Pv.isi_it ..) ?_ | refine Pv.ok1 (Pv.isi_nb ..) ?_ | refine Pv.ok1 (Pv.isi_lb ..) ?_ | refine Pv.ok1 (Pv.isi_tb ..) ?_ | refine Pv.ok1 (Pv.isi_st ..) ?_ | refine Pv.ok1 (Pv.isi_bt ..) ?_ | refine Pv.ok1 (Pv.isD_non ..) ?_ | refine Pv.ok1 (Pv.isnD_non ..) ?_ | refine Pv.ok1 (Pv.negD_int ..) ?_) | refine Pv.sml rfl ?_ | refine Pv.sml3 rfl ?_)))
local macro_rules | `(tactic| walk_at "gq") => `(tactic| (repeat (first | (with_reducible first | refine Pv.vcst ?_ | refine Pv.vvar ?_ | refine Pv.lk_0 ?_ | refine Pv.lk_s ?_ | refine Pv.setn_c ?_ | refine Pv.setn_0 ?_ | refine Pv.repn_s ?_ | refine Pv.repn_0 ?_ | refine Pv.fgq_n ?_ | refine Pv.fgq_c ?_ | refine Pv.tgo_n ?_ | refine Pv.tgo_2 ?_ | refine Pv.set_0 ?_ | refine Pv.set_s ?_ | refine Pv.isb ?_ | refine Pv.isi ?_ | refine Pv.iss ?_ | refine Pv.isls ?_ | refine Pv.br_t ?_ | refine Pv.br_f ?_ | refine Pv.br_nt ?_ | refine Pv.br_nf ?_ | refine Pv.sfgt_n ?_ | refine Pv.sfgt_c ?_ | refine Pv.sparM ?_ | refine Pv.nr_l ?_ | refine Pv.nr_k ?_ | refine Pv.nr_t ?_ | refine Pv.vbvv ?_ | refine Pv.vbvs ?_ | refine Pv.vbsv ?_ | refine Pv.vbss ?_ | refine Pv.vuv ?_ | refine Pv.vus ?_ | refine Pv.vnot ?_ | refine Pv.vif ?_ | refine Pv.vpub ?_ | refine Pv.alnil ?_ | refine Pv.alcons ?_ | refine Pv.vlst ?_ | refine Pv.vtup ?_ | refine Pv.vcallP ?_ | refine Pv.vsl0 ?_ | refine Pv.vsl1 ?_ | refine Pv.vsl2 ?_ | refine Pv.vmet ?_ | refine Pv.vdnK ?_ | refine Pv.vdnT ?_ | refine Pv.vdnL ?_ | refine Pv.iv ?_ | refine Pv.isl_l ?_ | refine Pv.isl_t ?_ | refine Pv.isl_s ?_ | refine Pv.mnil ?_ | refine Pv.mv ?_ | refine Pv.mf ?_ | refine Pv.fn_l ?_ | refine Pv.fn_k ?_ | refine Pv.setms_n ?_ | refine Pv.setms_c ?_ | refine Pv.ws_seq ?_ | refine Pv.sput ?_ | refine Pv.sret ?_ | refine Pv.sif ?_ | refine Pv.sskip ?_ | refine Pv.sdrp ?_ | refine Pv.sasgG ?_ | refine Pv.vch ?_ | refine Pv.vandP ?_ | refine Pv.vorP ?_ | refine Pv.vmak ?_ | refine Pv.tgo_t ?_ | refine Pv.tgos_n ?_ | refine Pv.tgos_c ?_ | refine Pv.saug ?_ | refine Pv.ok1 Pv.fld_size ?_ | refine Pv.ok1 Pv.fld_gaps ?_ | refine Pv.ok1 Pv.fld_closed ?_ | refine Pv.ok1 Pv.fld_common0 ?_ | refine Pv.ok1 Pv.fld_cuts1 ?_ | refine Pv.ok1 Pv.fld_cuts ?_ | refine Pv.ok1 Pv.fld_common ?_ | refine Pv.ok1 Pv.fld_frame ?_ | refine Pv.ok1 (Pv.addIO_int _ _) ?_ | refine Pv.ok1 (Pv.addD_nat1 ..) ?_ | refine Pv.ok1 (Pv.addD_1nat ..) ?_ | refine Pv.ok1 (Pv.addD_nat ..) ?_ | refine Pv.ok1 (Pv.addD_int ..) ?_ | refine Pv.ok1 (Pv.subD_int ..) ?_ | refine Pv.ok1 (Pv.lenD_nL ..) ?_ | refine Pv.ok1 (Pv.lenD_lst ..) ?_ | refine Pv.ok1 (Pv.lenD_tup ..) ?_ | refine Pv.ok1 (Pv.leD_int ..) ?_ | refine Pv.ok1 (Pv.ltD_int ..) ?_ | refine Pv.ok1 (Pv.gtD_int ..) ?_ | refine Pv.ok1 (Pv.geD_int ..) ?_ | refine Pv.ok1 (Pv.eqO_int ..) ?_ | refine Pv.ok1 (Pv.neO_int ..) ?_ | refine Pv.ok1 (Pv.eqO_bl ..) ?_ | refine Pv.ok1 (Pv.neO_bl ..) ?_ | refine Pv.ok1 (Pv.isi_ii ..) ?_ | refine Pv.ok1 (Pv.isi_ib ..) ?_ | refine Pv.ok1 (Pv.isi_is ..) ?_ | refine Pv.ok1 (Pv.isi_bi ..) ?_ | refine Pv.ok1 (Pv.isi_bb ..) ?_ | refine Pv.ok1 (Pv.isi_bs ..) ?_ | refine Pv.ok1 (Pv.isi_si ..) ?_ | refine Pv.ok1 (Pv.isi_sb ..) ?_ | refine Pv.ok1 (Pv.isi_ss ..) ?_ | refine Pv.ok1 (Pv.isi_ti ..) ?_ | refine Pv.ok1 (Pv.isi_ts ..) ?_ | refine Pv.ok1 (Pv.isi_tt ..) ?_ | refine Pv.ok1 (Pv.isi_tl ..) ?_ | refine Pv.ok1 (Pv.isi_li ..) ?_ | refine Pv.ok1 (Pv.isi_ls ..) ?_ | refine Pv.ok1 (Pv.isi_lt ..) ?_ | refine Pv.ok1 (Pv.isi_ll ..) ?_ | refine Pv.ok1 (Pv.isi_ni ..) ?_ | refine Pv.ok1 (Pv.isi_ns ..) ?_ | refine Pv.ok1 (Pv.isi_nt ..) ?_ | refine Pv.ok1 (Pv.isi_it ..) ?_ | refine Pv.ok1 (Pv.isi_nb ..) ?_ | refine Pv.ok1 (Pv.isi_lb ..) ?_ | refine Pv.ok1 (Pv.isi_tb ..) ?_ | refine Pv.ok1 (Pv.isi_st ..) ?_ | refine Pv.ok1 (Pv.isi_bt ..) ?_ | refine Pv.ok1 (Pv.isD_non ..) ?_ | refine Pv.ok1 (Pv.isnD_non ..) ?_ | refine Pv.ok1 (Pv.negD_int ..) ?_) | refine Pv.sml rfl ?_ | refine Pv.sml3 rfl ?_)))


namespace Hd
open PySem PySem.Spec PyProof.Rows L2
def top (i : Nat) : Stmt := PySem.Challenge.pw_gapperiods_k01_frames_refused.main.body.getD i (.Pass ⟨0, 0, 0, 0⟩)
def d_0 : He.DefD := ⟨("is_integer", none), "is_integer", "is_integer", defArgs (top 8), defBody (top 8), defScope (top 8), [], []⟩
def d_1 : He.DefD := ⟨("are_rising", none), "are_rising", "are_rising", defArgs (top 9), defBody (top 9), defScope (top 9), [], []⟩
def d_2 : He.DefD := ⟨("Frame", some "__init__"), "__init__", "Frame.__init__", defArgs (inClass (top 10) 0), defBody (inClass (top 10) 0), defScope (inClass (top 10) 0), [], []⟩
def g_0 : Pv.GetD := ⟨"Frame", "length", ⟨("", none), "length", "Frame.length", defArgs (inClass (top 10) 1), defBody (inClass (top 10) 1), defScope (inClass (top 10) 1), [], []⟩⟩
def g_1 : Pv.GetD := ⟨"Frame", "holes", ⟨("", none), "holes", "Frame.holes", defArgs (inClass (top 10) 2), defBody (inClass (top 10) 2), defScope (inClass (top 10) 2), [], []⟩⟩
def g_2 : Pv.GetD := ⟨"Frame", "ring", ⟨("", none), "ring", "Frame.ring", defArgs (inClass (top 10) 3), defBody (inClass (top 10) 3), defScope (inClass (top 10) 3), [], []⟩⟩
def d_3 : He.DefD := ⟨("Frame", some "__len__"), "__len__", "Frame.__len__", defArgs (inClass (top 10) 4), defBody (inClass (top 10) 4), defScope (inClass (top 10) 4), [], []⟩
def d_4 : He.DefD := ⟨("Frame", some "__eq__"), "__eq__", "Frame.__eq__", defArgs (inClass (top 10) 5), defBody (inClass (top 10) 5), defScope (inClass (top 10) 5), [], []⟩
def d_5 : He.DefD := ⟨("_law_mix", none), "_law_mix", "_law_mix", defArgs (top 12), defBody (top 12), defScope (top 12), [], []⟩
def d_6 : He.DefD := ⟨("_law_next", none), "_law_next", "_law_next", defArgs (top 13), defBody (top 13), defScope (top 13), [], []⟩
def d_7 : He.DefD := ⟨("_law_alike", none), "_law_alike", "_law_alike", defArgs (top 14), defBody (top 14), defScope (top 14), [], []⟩
def d_8 : He.DefD := ⟨("_law_pick", none), "_law_pick", "_law_pick", defArgs (top 15), defBody (top 15), defScope (top 15), [], []⟩
def d_9 : He.DefD := ⟨("_law_rising", none), "_law_rising", "_law_rising", defArgs (top 16), defBody (top 16), defScope (top 16), [], []⟩
def d_10 : He.DefD := ⟨("_law_whole", none), "_law_whole", "_law_whole", defArgs (top 17), defBody (top 17), defScope (top 17), [], []⟩
def d_11 : He.DefD := ⟨("_law_fault", none), "_law_fault", "_law_fault", defArgs (top 18), defBody (top 18), defScope (top 18), [], []⟩
def d_12 : He.DefD := ⟨("_law_tried", none), "_law_tried", "_law_tried", defArgs (top 19), defBody (top 19), defScope (top 19), [], []⟩
def d_13 : He.DefD := ⟨("law", none), "law", "law", defArgs (top 20), defBody (top 20), defScope (top 20), [], []⟩
def fn : List He.DefD := [d_0, d_1, d_2, d_3, d_4, d_5, d_6, d_7, d_8, d_9, d_10, d_11, d_12, d_13]
def gs : List Pv.GetD := [g_0, g_1, g_2]
def fa : List He.Fa := [.glo "is_integer", .glo "are_rising", .glo "_law_mix", .glo "_law_next", .glo "_law_alike", .glo "_law_pick", .glo "_law_rising", .glo "_law_whole", .glo "_law_fault", .glo "_law_tried", .glo "law", .free "all", .free "bool", .free "int", .free "isinstance", .free "len", .free "list", .free "max", .free "range", .free "sorted", .free "str", .free "tuple", .int "MOST_LENGTH" 1000000000000000000000000000000, .int "MOST_HOLES" 6, .glo "GapError", .glo "InvalidLength", .glo "InvalidHoles", .glo "InvalidRing", .glo "Frame", .cls "Frame", .noat "Frame" "closed", .noat "Frame" "gaps", .noat "Frame" "size", .mkr "Frame", .meth "Frame" "__len__", .meth "Frame" "__eq__", .exc "InvalidLength", .exm "InvalidLength" "InvalidHoles" false, .exm "InvalidLength" "InvalidLength" true, .exm "InvalidLength" "InvalidRing" false, .exc "InvalidHoles", .exm "InvalidHoles" "InvalidHoles" true, .exm "InvalidHoles" "InvalidLength" false, .exm "InvalidHoles" "InvalidRing" false, .exc "InvalidRing", .exm "InvalidRing" "InvalidHoles" false, .exm "InvalidRing" "InvalidLength" false, .exm "InvalidRing" "InvalidRing" true]
def xs : List Pv.XFact := [Pv.excCB "InvalidLength", Pv.kitB' "InvalidLength" "GapError" true, Pv.excCB "InvalidHoles", Pv.kitB' "InvalidHoles" "GapError" true, Pv.excCB "InvalidRing", Pv.kitB' "InvalidRing" "GapError" true, Pv.isClsB "Frame"]
def names : List PySem.Str := (["GapError", "InvalidLength", "InvalidHoles", "InvalidRing", "MOST_LENGTH", "MOST_HOLES", "is_integer", "are_rising", "Frame", "_law_mix", "_law_next", "_law_alike", "_law_pick", "_law_rising", "_law_whole", "_law_fault", "_law_tried"] : List PySem.Str)
end Hd
noncomputable section
namespace Gn
open PySem PySem.Spec L2 Pv
open PyProof.Rows hiding St
section
variable {P : Program} {w : World} {K : PySem.W.Frag} {mg : Str → Option Value} {base : Heap}
theorem isCls_Frame (Y : FxY K mg Hd.fa Hd.fn Hd.gs Hd.xs) : IsCls K (He.ga K "Frame") := isClsB_ok (Y.cls 29 rfl) (Y.at' 6 rfl)
/-! is_integer -/
abbrev N_is_integer : List Str := ["thing", "low", "high"]
theorem sc_is_integer : FnScope N_is_integer ["thing", "low", "high"] (defScope (Hd.top 8)) := ⟨rfl, rfl, rfl, by decide +kernel, rfl, by decide +kernel, by decide +kernel⟩
def S_is_integer : StF := (retE (andF (bin2 (.s 0) (.v (cst (.ty "int"))) isiD) (andF (notF (bin2 (.s 0) (.v (cst (.ty "bool"))) isiD)) (chF leD leD (var 1) (var 0) (var 2)))))
def F_is_integer : List D → PRes := mkP 3 (S_is_integer)
theorem ok_is_integer (Y : FxY K mg Hd.fa Hd.fn Hd.gs Hd.xs) : Cal P w K mg base 1 "is_integer" ["thing", "low", "high"] (spP K false 3 (F_is_integer)) := by
  obtain ⟨fd, FD⟩ := Y.says.def_ 0 (d := Hd.d_0) rfl
  refine ⟨_, fd, rfl, fn_P FD sc_is_integer rfl (by decide) (fl' := [false, false, false]) fun cdv A outer s H E B hB hF hr => ?_, Y.glo 0 rfl, FD.kp, FD.bindsN fun _ _ _ _ _ _ us hl => match us, hl with | [_, _, _], _ => rfl⟩
  have hp := passes_of (X := cxOf (L2N.CX P w) P w K mg base N_is_integer "is_integer" (defScope (Hd.top 8)) (He.ga K "is_integer") cdv A outer s H E) (K := fun e s' => L2N.CX P w outer H s E e s') rfl
  have tk := L2N.takes_of (X := cxOf (L2N.CX P w) P w K mg base N_is_integer "is_integer" (defScope (Hd.top 8)) (He.ga K "is_integer") cdv A outer s H E) rfl rfl rfl rfl
  exact (pb_one (psv_ret (pv_and (pv_isinst rfl (Y.free 14 rfl) (po_slot (L2.pv 0)) (po_v (pv_bty rfl (Y.free 13 rfl) bt_int))) (pv_and (pv_not (pv_isinst rfl (Y.free 14 rfl) (po_slot (L2.pv 0)) (po_v (pv_bty rfl (Y.free 12 rfl) bt_bool)))) (pv_one (pv_chLL (pv_var (L2.pv 1)) (pv_var (L2.pv 0)) (pv_var (L2.pv 2)))))) hF hB))
/-! are_rising -/
abbrev N_are_rising : List Str := ["thing", "many", "low", "high", "one", "at"]
theorem sc_are_rising : FnScope N_are_rising ["thing", "many", "low", "high"] (defScope (Hd.top 9)) := ⟨rfl, rfl, rfl, by decide +kernel, rfl, by decide +kernel, by decide +kernel⟩
def S_are_rising : StF := (sSeq (ifS (orF (notF (bin2 (.s 0) (.v (cst (.ty "tuple"))) isiD)) (bin2 (.v (un1 (.s 0) lenD)) (.s 1) gtD)) (retE (cst (.bl false))) sSkip)
 (sSeq (ifS (notF (un1 (.v (pubF (lcF (itV (var 0)) (tgN 4) [4] none (callP F_is_integer (aCons (var 4) (aCons (var 2) (aCons (var 3) aNil))))))) allD)) (retE (cst (.bl false))) sSkip)
 (retE (un1 (.v (pubF (lcF (itR2 (aCons (cst (.int 1)) (aCons (un1 (.s 0) lenD) aNil))) (tgN 5) [5] none (bin2 (.v (bin2 (.s 0) (.v (bin2 (.s 5) (.v (cst (.int 1))) subD)) idxD)) (.v (bin2 (.s 0) (.s 5) idxD)) ltD)))) allD))))
def F_are_rising : List D → PRes := mkP 6 (S_are_rising)
theorem ok_are_rising (Y : FxY K mg Hd.fa Hd.fn Hd.gs Hd.xs) : Cal P w K mg base 2 "are_rising" ["thing", "many", "low", "high"] (spP K false 4 (F_are_rising)) := by
  obtain ⟨fd, FD⟩ := Y.says.def_ 1 (d := Hd.d_1) rfl
  refine ⟨_, fd, rfl, fn_P FD sc_are_rising rfl (by decide) (fl' := [false, false, false, false, false, false]) fun cdv A outer s H E B hB hF hr => ?_, Y.glo 1 rfl, FD.kp, FD.bindsN fun _ _ _ _ _ _ us hl => match us, hl with | [_, _, _, _], _ => rfl⟩
  have hp := passes_of (X := cxOf (L2N.CX P w) P w K mg base N_are_rising "are_rising" (defScope (Hd.top 9)) (He.ga K "are_rising") cdv A outer s H E) (K := fun e s' => L2N.CX P w outer H s E e s') rfl
  have tk := L2N.takes_of (X := cxOf (L2N.CX P w) P w K mg base N_are_rising "are_rising" (defScope (Hd.top 9)) (He.ga K "are_rising") cdv A outer s H E) rfl rfl rfl rfl
  exact (pb_cons (psv_if (PWv.t (pwv_or (ptv_not (ptv_val (pv_isinst rfl (Y.free 14 rfl) (po_slot (L2.pv 0)) (po_v (pv_bty rfl (Y.free 21 rfl) bt_tuple))))) (pwv_or1 (ptv_gt (po_v (pv_len rfl (Y.free 15 rfl) (po_slot (L2.pv 0)))) (po_slot (L2.pv 1))))))
 (pb_one (psv_ret pv_bl hF hB))
 pb_nil)
 (pb_cons (psv_if (ptv_not (ptv_val (pv_all rfl (Y.free 11 rfl) (po_v (PF.v (pf_lc (own := [("one", 4)]) rfl sc_are_rising.nd (pi_v (pv_var (L2.pv 0))) (blkOk_by (by rfl)) (.inl (by decide)) (tgOwn_name (by decide)) (fun _ _ _ _ _ B1 hb1 => have hB1 := hb1.trans hB; (pgv_name (i := 4) sc_are_rising.nd rfl (by first | exact Or.inl rfl | exact Or.inr rfl))) (fun _ _ _ _ _ B1 hb1 => have hB1 := hb1.trans hB; ptsv_nil) (fun _ _ _ _ _ B1 hb1 => have hB1 := hb1.trans hB; (pv_callC (ok_is_integer Y) hr (by decide) rfl takesN (pav_cons (pv_var (L2.pv 4)) (pav_cons (pv_var (L2.pv 2)) (pav_cons (pv_var (L2.pv 3)) pav_nil)))))))))))
 (pb_one (psv_ret pv_bl hF hB))
 pb_nil)
 (pb_one (psv_ret (pv_all rfl (Y.free 11 rfl) (po_v (PF.v (pf_lc (own := [("at", 5)]) rfl sc_are_rising.nd (pi_r2 rfl (Y.free 18 rfl) (pav_cons pv_int (pav_cons (pv_len rfl (Y.free 15 rfl) (po_slot (L2.pv 0))) pav_nil))) (blkOk_by (by rfl)) (.inl (by decide)) (tgOwn_name (by decide)) (fun _ _ _ _ _ B1 hb1 => have hB1 := hb1.trans hB; (pgv_name (i := 5) sc_are_rising.nd rfl (by first | exact Or.inl rfl | exact Or.inr rfl))) (fun _ _ _ _ _ B1 hb1 => have hB1 := hb1.trans hB; ptsv_nil) (fun _ _ _ _ _ B1 hb1 => have hB1 := hb1.trans hB; (pv_lt (po_v (pv_ix (po_slot (L2.pv 0)) (po_v (pv_sub (po_slot (L2.pv 5)) (po_v pv_int))))) (po_v (pv_ix (po_slot (L2.pv 0)) (po_slot (L2.pv 5)))))))))) hF hB))))
/-! Frame.__init__ -/
abbrev N_Frame___init__ : List Str := ["self", "length", "holes", "ring"]
theorem sc_Frame___init__ : FnScope N_Frame___init__ ["self", "length", "holes", "ring"] (defScope (inClass (Hd.top 10) 0)) := ⟨rfl, rfl, rfl, by decide +kernel, rfl, by decide +kernel, by decide +kernel⟩
def S_Frame___init__ (K : PySem.W.Frag) : StF := (sSeq (ifS (notF (callP F_is_integer (aCons (var 1) (aCons (cst (.int 1)) (aCons (cst (.int 1000000000000000000000000000000)) aNil))))) (sRaise (He.ga K "InvalidLength")) sSkip)
 (sSeq (ifS (notF (callP F_are_rising (aCons (var 2) (aCons (cst (.int 6)) (aCons (cst (.int 0)) (aCons (bin2 (.s 1) (.v (cst (.int 1))) subD) aNil)))))) (sRaise (He.ga K "InvalidHoles")) sSkip)
 (sSeq (ifS (notF (bin2 (.s 3) (.v (cst (.ty "bool"))) isiD)) (sRaise (He.ga K "InvalidRing")) sSkip)
 (sSeq (setA (He.ga K "Frame") 0 "size" (var 1))
 (sSeq (setA (He.ga K "Frame") 0 "gaps" (var 2))
 (setA (He.ga K "Frame") 0 "closed" (var 3)))))))
def F_Frame___init__ (K : PySem.W.Frag) : D → List D → PRes := mkI 4 (S_Frame___init__ K)
theorem ok_Frame___init__ (Y : FxY K mg Hd.fa Hd.fn Hd.gs Hd.xs) : Mak P w K mg base 3 "Frame" ["self", "length", "holes", "ring"] 3 (F_Frame___init__ K) := by
  obtain ⟨fd, FD⟩ := Y.says.def_ 2 (d := Hd.d_2) rfl
  refine ⟨⟨_, fd, (Y.mkr 33 rfl), fn_I FD sc_Frame___init__ rfl (by decide) (fl' := [true, false, false, false]) fun cdv A outer s H E B hB hF hr => ?_, Y.glo 28 rfl, FD.bindsN fun _ _ _ _ _ _ us hl => match us, hl with | [_, _, _, _], _ => rfl⟩⟩
  have hp := passes_of (X := cxOf (L2N.CX P w) P w K mg base N_Frame___init__ "Frame.__init__" (defScope (inClass (Hd.top 10) 0)) (He.ma K (He.ga K "Frame") "__init__") cdv A outer s H E) (K := fun e s' => L2N.CX P w outer H s E e s') rfl
  have tk := L2N.takes_of (X := cxOf (L2N.CX P w) P w K mg base N_Frame___init__ "Frame.__init__" (defScope (inClass (Hd.top 10) 0)) (He.ma K (He.ga K "Frame") "__init__") cdv A outer s H E) rfl rfl rfl rfl
  exact (pb_cons (psv_if (ptv_not (ptv_val (pv_callC (ok_is_integer Y) hr (by decide) rfl tk (pav_cons (pv_var (L2.pv 1)) (pav_cons pv_int (pav_cons (pv_gint rfl (Y.int 22 rfl)) pav_nil))))))
 (pb_one (psv_raise (Y.exf 36 rfl) (Y.glo 25 rfl) rfl tk))
 pb_nil)
 (pb_cons (psv_if (ptv_not (ptv_val (pv_callC (ok_are_rising Y) hr (by decide) rfl tk (pav_cons (pv_var (L2.pv 2)) (pav_cons (pv_gint rfl (Y.int 23 rfl)) (pav_cons pv_int (pav_cons (pv_sub (po_slot (L2.pv 1)) (po_v pv_int)) pav_nil)))))))
 (pb_one (psv_raise (Y.exf 40 rfl) (Y.glo 26 rfl) rfl tk))
 pb_nil)
 (pb_cons (psv_if (ptv_not (ptv_val (pv_isinst rfl (Y.free 14 rfl) (po_slot (L2.pv 3)) (po_v (pv_bty rfl (Y.free 12 rfl) bt_bool)))))
 (pb_one (psv_raise (Y.exf 44 rfl) (Y.glo 27 rfl) rfl tk))
 pb_nil)
 (pb_cons (psv_setA (k := 0) (Y.cls 29 rfl) (Y.noat 32 rfl) (fun te h => ps_fld (L2.pv 0) h rfl) (pv_var (L2.pv 1)))
 (pb_cons (psv_setA (k := 0) (Y.cls 29 rfl) (Y.noat 31 rfl) (fun te h => ps_fld (L2.pv 0) h rfl) (pv_var (L2.pv 2)))
 (pb_one (psv_setA (k := 0) (Y.cls 29 rfl) (Y.noat 30 rfl) (fun te h => ps_fld (L2.pv 0) h rfl) (pv_var (L2.pv 3)))))))))
/-! Frame.length -/
abbrev N_Frame_length : List Str := ["self"]
theorem sc_Frame_length : FnScope N_Frame_length ["self"] (defScope (inClass (Hd.top 10) 1)) := ⟨rfl, rfl, rfl, by decide +kernel, rfl, by decide +kernel, by decide +kernel⟩
def S_Frame_length (K : PySem.W.Frag) : StF := (retE (un1 (.s 0) (fldD (He.ga K "Frame") "size")))
def F_Frame_length (K : PySem.W.Frag) : List D → PRes := mkP 1 (S_Frame_length K)
theorem ok_Frame_length (Y : FxY K mg Hd.fa Hd.fn Hd.gs Hd.xs) : Prp P w K mg base 1 (He.ga K "Frame") "length" ["self"] (spP K false 1 (F_Frame_length K)) := by
  obtain ⟨hq, fd, FD⟩ := Y.get 0 (q := Hd.g_0) rfl
  refine ⟨⟨_, _, fd, (Y.cls 29 rfl), hq, fn_P FD sc_Frame_length rfl (by decide) (fl' := [false]) fun cdv A outer s H E B hB hF hr => ?_, FD.bindsN fun _ _ _ _ _ _ us hl => match us, hl with | [_], _ => rfl⟩⟩
  have hp := passes_of (X := cxOf (L2N.CX P w) P w K mg base N_Frame_length "Frame.length" (defScope (inClass (Hd.top 10) 1)) (GetD.gt K Hd.g_0) cdv A outer s H E) (K := fun e s' => L2N.CX P w outer H s E e s') rfl
  have tk := L2N.takes_of (X := cxOf (L2N.CX P w) P w K mg base N_Frame_length "Frame.length" (defScope (inClass (Hd.top 10) 1)) (GetD.gt K Hd.g_0) cdv A outer s H E) rfl rfl rfl rfl
  exact (pb_one (psv_ret (pv_fld (Y.cls 29 rfl) (Y.noat 32 rfl) (po_slot (L2.pv 0))) hF hB))
/-! Frame.holes -/
abbrev N_Frame_holes : List Str := ["self"]
theorem sc_Frame_holes : FnScope N_Frame_holes ["self"] (defScope (inClass (Hd.top 10) 2)) := ⟨rfl, rfl, rfl, by decide +kernel, rfl, by decide +kernel, by decide +kernel⟩
def S_Frame_holes (K : PySem.W.Frag) : StF := (retE (un1 (.s 0) (fldD (He.ga K "Frame") "gaps")))
def F_Frame_holes (K : PySem.W.Frag) : List D → PRes := mkP 1 (S_Frame_holes K)
theorem ok_Frame_holes (Y : FxY K mg Hd.fa Hd.fn Hd.gs Hd.xs) : Prp P w K mg base 1 (He.ga K "Frame") "holes" ["self"] (spP K false 1 (F_Frame_holes K)) := by
  obtain ⟨hq, fd, FD⟩ := Y.get 1 (q := Hd.g_1) rfl
  refine ⟨⟨_, _, fd, (Y.cls 29 rfl), hq, fn_P FD sc_Frame_holes rfl (by decide) (fl' := [false]) fun cdv A outer s H E B hB hF hr => ?_, FD.bindsN fun _ _ _ _ _ _ us hl => match us, hl with | [_], _ => rfl⟩⟩
  have hp := passes_of (X := cxOf (L2N.CX P w) P w K mg base N_Frame_holes "Frame.holes" (defScope (inClass (Hd.top 10) 2)) (GetD.gt K Hd.g_1) cdv A outer s H E) (K := fun e s' => L2N.CX P w outer H s E e s') rfl
  have tk := L2N.takes_of (X := cxOf (L2N.CX P w) P w K mg base N_Frame_holes "Frame.holes" (defScope (inClass (Hd.top 10) 2)) (GetD.gt K Hd.g_1) cdv A outer s H E) rfl rfl rfl rfl
  exact (pb_one (psv_ret (pv_fld (Y.cls 29 rfl) (Y.noat 31 rfl) (po_slot (L2.pv 0))) hF hB))
/-! Frame.ring -/
abbrev N_Frame_ring : List Str := ["self"]
theorem sc_Frame_ring : FnScope N_Frame_ring ["self"] (defScope (inClass (Hd.top 10) 3)) := ⟨rfl, rfl, rfl, by decide +kernel, rfl, by decide +kernel, by decide +kernel⟩
def S_Frame_ring (K : PySem.W.Frag) : StF := (retE (un1 (.s 0) (fldD (He.ga K "Frame") "closed")))
def F_Frame_ring (K : PySem.W.Frag) : List D → PRes := mkP 1 (S_Frame_ring K)
theorem ok_Frame_ring (Y : FxY K mg Hd.fa Hd.fn Hd.gs Hd.xs) : Prp P w K mg base 1 (He.ga K "Frame") "ring" ["self"] (spP K false 1 (F_Frame_ring K)) := by
  obtain ⟨hq, fd, FD⟩ := Y.get 2 (q := Hd.g_2) rfl
  refine ⟨⟨_, _, fd, (Y.cls 29 rfl), hq, fn_P FD sc_Frame_ring rfl (by decide) (fl' := [false]) fun cdv A outer s H E B hB hF hr => ?_, FD.bindsN fun _ _ _ _ _ _ us hl => match us, hl with | [_], _ => rfl⟩⟩
  have hp := passes_of (X := cxOf (L2N.CX P w) P w K mg base N_Frame_ring "Frame.ring" (defScope (inClass (Hd.top 10) 3)) (GetD.gt K Hd.g_2) cdv A outer s H E) (K := fun e s' => L2N.CX P w outer H s E e s') rfl
  have tk := L2N.takes_of (X := cxOf (L2N.CX P w) P w K mg base N_Frame_ring "Frame.ring" (defScope (inClass (Hd.top 10) 3)) (GetD.gt K Hd.g_2) cdv A outer s H E) rfl rfl rfl rfl
  exact (pb_one (psv_ret (pv_fld (Y.cls 29 rfl) (Y.noat 30 rfl) (po_slot (L2.pv 0))) hF hB))
/-! Frame.__len__ -/
abbrev N_Frame___len__ : List Str := ["self"]
theorem sc_Frame___len__ : FnScope N_Frame___len__ ["self"] (defScope (inClass (Hd.top 10) 4)) := ⟨rfl, rfl, rfl, by decide +kernel, rfl, by decide +kernel, by decide +kernel⟩
def S_Frame___len__ (K : PySem.W.Frag) : StF := (retE (un1 (.v (un1 (.s 0) (fldD (He.ga K "Frame") "gaps"))) lenD))
def F_Frame___len__ (K : PySem.W.Frag) : List D → PRes := mkP 1 (S_Frame___len__ K)
theorem ok_Frame___len__ (Y : FxY K mg Hd.fa Hd.fn Hd.gs Hd.xs) : Met2 P w K mg base 1 (He.ga K "Frame") "__len__" ["self"] (spP K false 1 (F_Frame___len__ K)) := by
  obtain ⟨fd, FD⟩ := Y.says.def_ 3 (d := Hd.d_3) rfl
  refine ⟨⟨_, fd, (Y.cls 29 rfl), (Y.meth 34 rfl), fn_P FD sc_Frame___len__ rfl (by decide) (fl' := [false]) fun cdv A outer s H E B hB hF hr => ?_, FD.bindsN fun _ _ _ _ _ _ us hl => match us, hl with | [_], _ => rfl⟩⟩
  have hp := passes_of (X := cxOf (L2N.CX P w) P w K mg base N_Frame___len__ "Frame.__len__" (defScope (inClass (Hd.top 10) 4)) (He.ma K (He.ga K "Frame") "__len__") cdv A outer s H E) (K := fun e s' => L2N.CX P w outer H s E e s') rfl
  have tk := L2N.takes_of (X := cxOf (L2N.CX P w) P w K mg base N_Frame___len__ "Frame.__len__" (defScope (inClass (Hd.top 10) 4)) (He.ma K (He.ga K "Frame") "__len__") cdv A outer s H E) rfl rfl rfl rfl
  exact (pb_one (psv_ret (pv_len rfl (Y.free 15 rfl) (po_v (pv_fld (Y.cls 29 rfl) (Y.noat 31 rfl) (po_slot (L2.pv 0))))) hF hB))
/-! Frame.__eq__ -/
abbrev N_Frame___eq__ : List Str := ["self", "other"]
theorem sc_Frame___eq__ : FnScope N_Frame___eq__ ["self", "other"] (defScope (inClass (Hd.top 10) 5)) := ⟨rfl, rfl, rfl, by decide +kernel, rfl, by decide +kernel, by decide +kernel⟩
def S_Frame___eq__ (K : PySem.W.Frag) : StF := (sSeq (ifS (notF (un1 (.s 1) (isiC (He.ga K "Frame")))) (retE (cst (.bl false))) sSkip)
 (retE (andF (bin2 (.v (un1 (.s 0) (fldD (He.ga K "Frame") "size"))) (.v (un1 (.s 1) (fldD (He.ga K "Frame") "size"))) eqO) (andF (bin2 (.v (un1 (.s 0) (fldD (He.ga K "Frame") "gaps"))) (.v (un1 (.s 1) (fldD (He.ga K "Frame") "gaps"))) eqO) (bin2 (.v (un1 (.s 0) (fldD (He.ga K "Frame") "closed"))) (.v (un1 (.s 1) (fldD (He.ga K "Frame") "closed"))) eqO)))))
def F_Frame___eq__ (K : PySem.W.Frag) : List D → PRes := mkP 2 (S_Frame___eq__ K)
theorem ok_Frame___eq__ (Y : FxY K mg Hd.fa Hd.fn Hd.gs Hd.xs) : Met2 P w K mg base 5 (He.ga K "Frame") "__eq__" ["self", "other"] (spP K false 2 (F_Frame___eq__ K)) := by
  obtain ⟨fd, FD⟩ := Y.says.def_ 4 (d := Hd.d_4) rfl
  refine ⟨⟨_, fd, (Y.cls 29 rfl), (Y.meth 35 rfl), fn_P FD sc_Frame___eq__ rfl (by decide) (fl' := [false, false]) fun cdv A outer s H E B hB hF hr => ?_, FD.bindsN fun _ _ _ _ _ _ us hl => match us, hl with | [_, _], _ => rfl⟩⟩
  have hp := passes_of (X := cxOf (L2N.CX P w) P w K mg base N_Frame___eq__ "Frame.__eq__" (defScope (inClass (Hd.top 10) 5)) (He.ma K (He.ga K "Frame") "__eq__") cdv A outer s H E) (K := fun e s' => L2N.CX P w outer H s E e s') rfl
  have tk := L2N.takes_of (X := cxOf (L2N.CX P w) P w K mg base N_Frame___eq__ "Frame.__eq__" (defScope (inClass (Hd.top 10) 5)) (He.ma K (He.ga K "Frame") "__eq__") cdv A outer s H E) rfl rfl rfl rfl
  exact (pb_cons (psv_if (ptv_not (ptv_val (pv_isC (isCls_Frame Y) rfl (Y.free 14 rfl) (po_slot (L2.pv 1)) (pe_glob (v := .ref (He.ga K "Frame")) rfl (Y.glo 28 rfl) rfl))))
 (pb_one (psv_ret pv_bl hF hB))
 pb_nil)
 (pb_one (psv_ret (pv_and (pv_eq hr (po_v (pv_fld (Y.cls 29 rfl) (Y.noat 32 rfl) (po_slot (L2.pv 0)))) (po_v (pv_fld (Y.cls 29 rfl) (Y.noat 32 rfl) (po_slot (L2.pv 1))))) (pv_and (pv_eq hr (po_v (pv_fld (Y.cls 29 rfl) (Y.noat 31 rfl) (po_slot (L2.pv 0)))) (po_v (pv_fld (Y.cls 29 rfl) (Y.noat 31 rfl) (po_slot (L2.pv 1))))) (pv_one (pv_eq hr (po_v (pv_fld (Y.cls 29 rfl) (Y.noat 30 rfl) (po_slot (L2.pv 0)))) (po_v (pv_fld (Y.cls 29 rfl) (Y.noat 30 rfl) (po_slot (L2.pv 1)))))))) hF hB)))
/-! _law_mix -/
abbrev N_law_mix : List Str := ["_law_script", "_law_seed", "_law_state", "_law_cell"]
theorem sc_law_mix : FnScope N_law_mix ["_law_script", "_law_seed"] (defScope (Hd.top 12)) := ⟨rfl, rfl, rfl, by decide +kernel, rfl, by decide +kernel, by decide +kernel⟩
def S_law_mix : StF := put 2 (bin2 (.v (un1 (.v (bin2 (.v (bin2 (.v (bin2 (.s 2) (.v (cst (.int 48271))) mulD)) (.v (bin2 (.v (un1 (.s 3) intD)) (.v (cst (.int 2147483629))) modD)) addD)) (.v (cst (.int 1))) addD)) intD)) (.v (cst (.int 2147483647))) modD)
theorem S_law_mix_run (a : Addr) (s c : Int) : S_law_mix [some (.ref a), none, some (.int s), some (.int c)] = .nx [some (.ref a), none, some (.int ((s * 48271 + c % 2147483629 + 1) % 2147483647)), some (.int c)] := by
  have e : mulOk s 48271 = true := cdec_true (.inr (.inl (by decide)))
  have c1 : cdec True = true := cdec_true trivial
  simp [S_law_mix, put, bin2, opd2, look, cst, un1, opd1, ofO, ERes.bind, ERes.out, mulD, alt, mulI, e, c1, modD, Pv.intD, addD, addI]
theorem ok_law_mix (Y : FxY K mg Hd.fa Hd.fn Hd.gs Hd.xs) : Cal P w K mg base 1 "_law_mix" ["_law_script", "_law_seed"] (spMix K) := by
  obtain ⟨fd, FD⟩ := Y.says.def_ 5 (d := Hd.d_5) rfl
  refine ⟨_, fd, rfl, FD.ok sc_law_mix (fun vs H Q E h => ?_) fun cdv A outer s H vs Q E hr h => ?_, Y.glo 2 rfl, FD.kp, FD.bindsN fun _ _ _ _ _ _ us hl => match us, hl with | [_, _], _ => rfl⟩
  · obtain ⟨a, seed, ns, rfl, _⟩ := h; rfl
  obtain ⟨a, seed, ns, rfl, hS, hl, q⟩ := h
  have gI : mg "int" = none := Y.free 13 rfl
  have gT : mg "list" = none := Y.free 16 rfl
  have hp := passes_of (X := cxOf (L2N.CX P w) P w K mg base N_law_mix "_law_mix" (defScope (Hd.top 12)) (He.ga K "_law_mix") cdv A outer s H E) (K := fun e s' => L2N.CX P w outer H s E e s') rfl
  refine ⟨_, pss_cons (ps_set (i := 2) sc_law_mix.nd rfl (Or.inl rfl) (L2.pv 1)) (pss_cons (ps_for hp rfl (pi_list (L2.pv 0)) (pg_name (i := 3) sc_law_mix.nd rfl (Or.inl rfl)) (show PBv (cxOf (L2N.CX P w) P w K mg base N_law_mix "_law_mix" (defScope (Hd.top 12)) (He.ga K "_law_mix") cdv A outer s H E) ⟨fun _ => False, H, [], false⟩ W0 [] [false, false, false, false] [false, false, false, false] _ S_law_mix from (pb_one (psv_asg (i := 2) (fun te h => ps_set (i := 2) sc_law_mix.nd rfl (Or.inl rfl) h) (pv_mod (po_v (pv_intf rfl gI (po_v (pv_add (po_v (pv_add (po_v (pv_mul (po_slot (L2.pv 2)) (po_v pv_int))) (po_v (pv_mod (po_v (pv_intf rfl gI (po_slot (L2.pv 3)))) (po_v pv_int))))) (po_v pv_int))))) (po_v pv_int)) (.inl (by decide))))).ps)
    (pss_one (ps_ret (pe_lst (pa_cons (L2.pv 2) (pa_cons (pe_callTy call_list_of rfl gT bt_list (pa_cons (L2.pv 0) pa_nil)) (pa_cons pe_int pa_nil))))))), ?_⟩
  refine ⟨_, rfl, _, rfl, a, rfl, ⟨_, hS⟩, for_list (xs := ns.map V.int) (fun i σ H' => ∃ st : Int, σ.length = 4 ∧ σ[0]? = some (some (.ref a)) ∧ σ[2]? = some (some (.int st)) ∧ Same H H') ⟨seed, rfl, rfl, rfl, Same.refl H⟩ (fun i σ H' _ ⟨st, _, _, _, s'⟩ => same_sqL s' hS) (fun i x σ H' hx ⟨st, l4, e0, e2, s'⟩ => ?_) fun σ H' ⟨st, l4, e0, e2, s'⟩ => ?_⟩
  · obtain ⟨c, hc, rfl⟩ : ∃ c : Int, ns[i]? = some c ∧ x = .int c := by
      rw [List.getElem?_map] at hx
      cases e : ns[i]? with
      | none => rw [e] at hx; cases hx
      | some c => rw [e] at hx; cases hx; exact ⟨c, rfl, rfl⟩
    refine svT_mk (ρ := [some (.ref a), none, some (.int st), some (.int c)]) (T := []) ⟨fun _ => .pub, ?_⟩ ?_
    · refine ⟨by rw [List.length_set, l4]; rfl, by rw [List.length_set, l4]; rfl, fun a h => h.elim, fun a h => absurd rfl h, fun _ _ _ => rfl, fun k d h1 _ => ?_, fun k d h1 h2 => ?_, fun a h => absurd rfl h, fun b o h _ => s' b o h, fun q hq => (nomatch hq), fun b h => (nomatch h), fun b h => nomatch h⟩
      · match k, h1 with
        | 0, h1 => cases h1; exact ⟨.ref a, by rw [List.getElem?_set_ne (by decide)]; exact e0, .ref a⟩
        | 1, h1 => cases h1
        | 2, h1 => cases h1; exact ⟨.int st, by rw [List.getElem?_set_ne (by decide)]; exact e2, .int st⟩
        | 3, h1 => cases h1; exact ⟨.int c, List.getElem?_set_self (by rw [l4]; decide), .int c⟩
        | k + 4, h1 => cases h1
      · match k, h2 with
        | 0, h2 => cases h2
        | 1, h2 => cases h2
        | 2, h2 => cases h2
        | 3, h2 => cases h2
        | k + 4, h2 => cases h2
    · rw [S_law_mix_run]
      intro σ' H'' ⟨ow, E'⟩
      obtain ⟨v0, g0, r0⟩ := E'.sh 0 _ rfl (fun z => nomatch z)
      obtain ⟨v2, g2, r2⟩ := E'.sh 2 _ rfl (fun z => nomatch z)
      cases r0; cases r2
      exact ⟨_, E'.len.symm, g0, g2, fun b o h => E'.same b o h (fun z => nomatch z)⟩
  · refine ⟨_, e2, _, e0, a, _, rfl, .inl (same_sqL s' hS), fun la hla => ?_⟩
    refine ⟨show 3 ≤ sizeLine by decide, fun p hpn => ?_⟩
    have hla0 : H la = none := by
      cases e : H la with
      | none => rfl
      | some o => rw [s' la o e] at hla; cases hla
    have npl : p ≠ la := fun z => by rw [z, upd_same] at hpn; cases hpn
    have hp1 : H' p = none := by rw [upd_ne npl] at hpn; exact hpn
    have hp0 : H p = none := by
      cases e : H p with
      | none => rfl
      | some o => rw [s' p o e] at hp1; cases hp1
    refine q _ p la st (fun b o e => ?_) hp0 hla0 npl.symm upd_same (by rw [upd_ne npl.symm]; exact upd_same)
    have f := s' b o e
    rw [upd_ne (ne_of_none f hp1), upd_ne (ne_of_none f hla)]
    exact f
/-! _law_next -/
abbrev N_law_next : List Str := ["_law_h", "_law_cap", "_law_cell"]
theorem sc_law_next : FnScope N_law_next ["_law_h", "_law_cap"] (defScope (Hd.top 13)) := ⟨rfl, rfl, rfl, by decide +kernel, rfl, by decide +kernel, by decide +kernel⟩
theorem ok_law_next (Y : FxY K mg Hd.fa Hd.fn Hd.gs Hd.xs) : Cal P w K mg base 1 "_law_next" ["_law_h", "_law_cap"] (spR K 1 nextF) := by
  obtain ⟨fd, FD⟩ := Y.says.def_ 6 (d := Hd.d_6) rfl
  refine ⟨_, fd, rfl, FD.ok sc_law_next (fun vs H Q E h => h.1) fun cdv A outer s H vs Q E hr h => ?_, Y.glo 3 rfl, FD.kp, FD.bindsN fun _ _ _ _ _ _ us hl => match us, hl with | [_, _], _ => rfl⟩
  obtain ⟨hl, M, ds, p, la, s0, cs, i, us, rfl, hM, hMp, hMl, hlp, h1, h2, r, q⟩ := h
  have gI : mg "int" = none := Y.free 13 rfl
  have gM : mg "max" = none := Y.free 17 rfl
  have gL : mg "len" = none := Y.free 15 rfl
  refine ⟨_, pss_cons (ps_set (i := 2) sc_law_next.nd rfl (Or.inl rfl) (pe_ix ix_seq (pe_op op_cat (pe_ix ix_seq (L2.pv 0) pe_int (by exact fun _ _ => rfl)) (pe_lst (pa_cons pe_int pa_nil)))
      (pe_op op_mod (pe_callTy call_int1 rfl gI bt_int (pa_cons (pe_ix ix_seq (L2.pv 0) pe_int (by exact fun _ _ => rfl)) pa_nil)) (pe_callB (call_max2 rfl) rfl gM bt_max (pa_cons pe_int (pa_cons (pe_callB call_len rfl gL bt_len (pa_cons (pe_ix ix_seq (L2.pv 0) pe_int (by exact fun _ _ => rfl)) pa_nil)) pa_nil)))) (by exact fun _ _ => rfl)))
    (pss_cons (ps_if (pt_cmpR op_ge (L2.pv 2) (pe_op op_pow pe_int pe_int) (nomark _))
      (pss_cons (ps_asg (pe_op op_fdivW (L2.pv 2) (L2.pv 1)) (pg_sub (pe_ix ix_seq (L2.pv 0) pe_int (by exact fun _ _ => rfl)) (pe_op op_mod (pe_callTy call_int1 rfl gI bt_int (pa_cons (pe_ix ix_seq (L2.pv 0) pe_int (by exact fun _ _ => rfl)) pa_nil)) (pe_callB call_len rfl gL bt_len (pa_cons (pe_ix ix_seq (L2.pv 0) pe_int (by exact fun _ _ => rfl)) pa_nil))) set_list))
        (pss_one (ps_ret (pe_op op_mod (pe_callTy call_int1 rfl gI bt_int (pa_cons (L2.pv 2) pa_nil)) (L2.pv 1))))) pss_nil)
    (pss_cons (ps_asg (pe_op op_mod (pe_callTy call_int1 rfl gI bt_int (pa_cons (pe_op op_add (pe_op op_add (pe_op op_mulA (pe_ix ix_seq (L2.pv 0) pe_int (by exact fun _ _ => rfl)) pe_int) (pe_op op_mulA (L2.pv 2) pe_int)) pe_int) pa_nil)) pe_int) (pg_sub (L2.pv 0) pe_int set_list))
    (pss_cons (ps_asg (pe_op op_add (pe_ix ix_seq (L2.pv 0) pe_int (by exact fun _ _ => rfl)) pe_int) (pg_sub (L2.pv 0) pe_int set_list))
    (pss_one (ps_ret (pe_op op_mod (pe_callTy call_int1 rfl gI bt_int (pa_cons (pe_op op_fdivW (pe_ix ix_seq (L2.pv 0) pe_int (by exact fun _ _ => rfl)) pe_int) pa_nil)) (L2.pv 1))))))), ?_⟩
  have hne : nextF (.rnd la s0 cs i) ds ≠ .no := fun e => by rw [e] at q; exact q.elim
  obtain ⟨cap, rfl, hc⟩ := nextF_ds hne
  obtain ⟨u, rfl⟩ : ∃ u, us = [u] := by
    cases r with
    | cons _ t => cases t; exact ⟨_, rfl⟩
  obtain rfl : u = .int cap := by
    cases r with
    | cons r _ => cases r; rfl
  have hpn : H p ≠ none := by rw [h1]; exact fun z => nomatch z
  have hln : H la ≠ none := by rw [h2]; exact fun z => nomatch z
  obtain ⟨j, hj, ej, cj⟩ := nx_ix (cs := cs) (i := i)
  refine ⟨_, rfl, .inl ⟨p, _, 1, .ref la, rfl, rfl, SqL.of h1, rfl, ?_⟩⟩
  refine ⟨by decide, fun p1 hp1 => ?_⟩
  have n1 : p ≠ p1 := fun z => hpn (by rw [z]; exact hp1)
  have n2 : la ≠ p1 := fun z => hln (by rw [z]; exact hp1)
  refine ⟨la, p1, cs.map V.int, [.int 0], rfl, rfl, by rw [upd_ne n2]; exact h2, upd_same, by rw [List.length_map]; exact lim_lt (by have := hc.2.2; simp; omega), fun p2 hp2 => ?_⟩
  have hp2' : H p2 = none := by
    by_cases z : p2 = p1
    · rw [z] at hp2; rw [upd_same] at hp2; cases hp2
    · rw [upd_ne z] at hp2; exact hp2
  have n3 : p ≠ p2 := fun z => hpn (by rw [z]; exact hp2')
  have n4 : la ≠ p2 := fun z => hln (by rw [z]; exact hp2')
  generalize hH2 : upd (upd H p1 (.lst [V.int 0])) p2 (.lst (cs.map V.int ++ [V.int 0])) = H2
  have k1 : H2 p = some (.lst [.int s0, .ref la, .int i]) := by rw [← hH2, upd_ne n3, upd_ne n1]; exact h1
  have k2 : H2 la = some (.lst (cs.map V.int)) := by rw [← hH2, upd_ne n4, upd_ne n2]; exact h2
  have k3 : H2 p2 = some (.lst (cs.map V.int ++ [V.int 0])) := by rw [← hH2]; exact upd_same
  have k4 : Same H H2 := by
    rw [← hH2]
    intro a o e
    rw [upd_ne (ne_of_none e hp2'), upd_ne (ne_of_none e hp1)]
    exact e
  refine ⟨_, rfl, .inl ⟨p, _, 2, .int i, rfl, rfl, SqL.of k1, rfl, .inl ⟨i, rfl, ?_⟩⟩⟩
  refine ⟨_, rfl, .inl ⟨p, _, 1, .ref la, rfl, rfl, SqL.of k1, rfl, ?_⟩⟩
  refine ⟨_, _, rfl, .inl ⟨_, SqL.of k2, rfl⟩, 1, _, rfl, ?_⟩
  have em : (if ((cs.map V.int).length : Int) > 1 then ((cs.map V.int).length : Int) else 1) = max 1 (cs.length : Int) := by rw [List.length_map]; split <;> omega
  rw [em]
  refine ⟨i, _, rfl, rfl, show (0 : Int) < max 1 (cs.length : Int) by omega, ?_⟩
  show rIx K (V.ref p2) (V.int (i % (max 1 (cs.length : Int)))) H2 _
  rw [ej]
  refine .inl ⟨p2, _, _, .int (nxCell cs i), rfl, rfl, SqL.of k3, Pv.atI_nat ?_, ?_⟩
  · have e : cs.map V.int ++ [V.int 0] = (cs ++ [0]).map V.int := by rw [List.map_append]; rfl
    rw [e, List.getElem?_map, cj]; rfl
  refine ⟨_, rfl, 10, 18, rfl, rfl, ⟨by decide, by decide, by decide⟩, _, _, rfl, rfl, _, rfl, ?_⟩
  by_cases hb : 10 ^ 18 ≤ nxCell cs i
  · rw [nextF_big hc hb] at q
    obtain ⟨_, q⟩ := q
    obtain ⟨hcs, jj, hjj, ejj⟩ := nx_big hb
    rw [if_pos (by exact decide_eq_true hb)]
    refine ⟨_, rfl, _, rfl, _, _, rfl, rfl, ⟨hc.1, hc.2.1⟩, ?_⟩
    refine ⟨_, rfl, .inl ⟨p, _, 1, .ref la, rfl, rfl, SqL.of k1, rfl, ?_⟩⟩
    refine ⟨_, rfl, .inl ⟨p, _, 2, .int i, rfl, rfl, SqL.of k1, rfl, .inl ⟨i, rfl, ?_⟩⟩⟩
    refine ⟨_, rfl, .inl ⟨p, _, 1, .ref la, rfl, rfl, SqL.of k1, rfl, ?_⟩⟩
    refine ⟨_, _, rfl, .inl ⟨_, SqL.of k2, rfl⟩, ?_⟩
    refine ⟨i, _, rfl, rfl, show (0 : Int) < ((cs.map V.int).length : Int) by rw [List.length_map]; omega, ?_⟩
    refine ⟨la, _, _, jj, rfl, rfl, k2, by rw [List.length_map, ejj]; exact Pv.ixN_nat hjj, ?_⟩
    refine ⟨_, rfl, .inl ⟨_, rfl, _, rfl, _, _, rfl, rfl, hc.1, ?_⟩⟩
    refine q _ _ (fun a o e na => ?_) ⟨?_, ?_⟩ (.int _)
    · rw [upd_ne (fun z => na (by rw [z]; simp))]; exact k4 a o e
    · rw [upd_ne (fun z => hlp z.symm)]; exact k1
    · rw [upd_same]
      congr 2
      rw [ejj, List.map_set]; rfl
  · rw [nextF_small hc hb] at q
    obtain ⟨_, q⟩ := q
    rw [if_neg (by rw [decide_eq_true_eq]; exact hb)]
    refine ⟨_, rfl, .inl ⟨p, _, 0, .int s0, rfl, rfl, SqL.of k1, rfl, _, _, rfl, rfl, .inl (.inr (by decide)), ?_⟩⟩
    refine ⟨_, rfl, _, _, rfl, rfl, .inl (.inr (by decide)), _, _, rfl, rfl, _, _, rfl, rfl, .inl ⟨_, rfl, _, _, rfl, rfl, show (0 : Int) < 2147483647 by decide, ?_⟩⟩
    refine ⟨_, rfl, p, _, 0, 0, rfl, rfl, k1, rfl, ?_⟩
    have m1 : upd H2 p (.lst [.int ((s0 * 48271 + nxCell cs i * 69621 + 11) % 2147483647), .ref la, .int i]) p = some (.lst [.int ((s0 * 48271 + nxCell cs i * 69621 + 11) % 2147483647), .ref la, .int i]) := upd_same
    refine ⟨_, rfl, .inl ⟨p, _, 2, .int i, rfl, rfl, SqL.of (xs := [.int ((s0 * 48271 + nxCell cs i * 69621 + 11) % 2147483647), .ref la, .int i]) m1, rfl, _, _, rfl, rfl, ?_⟩⟩
    refine ⟨_, rfl, p, _, 2, 2, rfl, rfl, m1, rfl, ?_⟩
    have m2 : upd (upd H2 p (.lst [.int ((s0 * 48271 + nxCell cs i * 69621 + 11) % 2147483647), .ref la, .int i])) p (.lst [.int ((s0 * 48271 + nxCell cs i * 69621 + 11) % 2147483647), .ref la, .int (i + 1)]) p = some (.lst [.int ((s0 * 48271 + nxCell cs i * 69621 + 11) % 2147483647), .ref la, .int (i + 1)]) := upd_same
    refine ⟨_, rfl, .inl ⟨p, _, 0, .int ((s0 * 48271 + nxCell cs i * 69621 + 11) % 2147483647), rfl, rfl, SqL.of (xs := [.int ((s0 * 48271 + nxCell cs i * 69621 + 11) % 2147483647), .ref la, .int (i + 1)]) m2, rfl, _, _, rfl, rfl, ⟨by decide, by decide⟩, .inl ⟨_, rfl, _, rfl, _, _, rfl, rfl, hc.1, ?_⟩⟩⟩
    refine q _ _ (fun a o e na => ?_) ⟨m2, ?_⟩ (.int _)
    · have : a ≠ p := fun z => na (by rw [z]; simp)
      rw [upd_ne this, upd_ne this]; exact k4 a o e
    · rw [upd_ne hlp, upd_ne hlp]; exact k2
/-! _law_alike -/
abbrev N_law_alike : List Str := ["_law_found", "_law_due", "_law_k"]
theorem sc_law_alike : FnScope N_law_alike ["_law_found", "_law_due"] (defScope (Hd.top 14)) := ⟨rfl, rfl, rfl, by decide +kernel, rfl, by decide +kernel, by decide +kernel⟩
def S_law_alike (A : List D → PRes) : StF := (sSeq (ifS (un1 (.s 1) (isiT "tuple" "list")) (sSeq (ifS (orF (notF (un1 (.s 0) (isiT "tuple" "list"))) (bin2 (.v (bin2 (.s 0) (.v (cst (.ty "list"))) isiD)) (.v (bin2 (.s 1) (.v (cst (.ty "list"))) isiD)) neO)) (retE (cst (.bl false))) sSkip)
 (sSeq (ifS (bin2 (.v (un1 (.s 0) lenD)) (.v (un1 (.s 1) lenD)) neO) (retE (cst (.bl false))) sSkip)
 (retE (bin2 (.v (pubF (lcF (itR1 (aCons (un1 (.s 1) lenD) aNil)) (tgN 2) [2] (some (notF (callP A (aCons (bin2 (.s 0) (.s 2) idxD) (aCons (bin2 (.s 1) (.s 2) idxD) aNil))))) (var 2)))) (.v (pubF (lstF aNil))) eqO)))) sSkip)
 (sSeq (ifS (orF (bin2 (.s 1) (.v (cst .non)) isD) (bin2 (.s 1) (.v (cst (.ty "str"))) isiD)) (retE (andF (bin2 (.s 0) (.s 1) eqO) (bin2 (.v (bin2 (.s 0) (.v (cst (.ty "str"))) isiD)) (.v (bin2 (.s 1) (.v (cst (.ty "str"))) isiD)) eqO))) sSkip)
 (retE (andF (bin2 (.s 0) (.v (cst (.ty "int"))) isiD) (andF (bin2 (.v (bin2 (.s 0) (.v (cst (.ty "bool"))) isiD)) (.v (bin2 (.s 1) (.v (cst (.ty "bool"))) isiD)) eqO) (bin2 (.s 0) (.s 1) eqO))))))
def FA : Nat → List D → PRes
  | 0 => mkP 3 sNo
  | n + 1 => mkP 3 (S_law_alike (FA n))
theorem ok_alikes (Y : FxY K mg Hd.fa Hd.fn Hd.gs Hd.xs) : ∀ n : Nat, n < 10 → Cal P w K mg base (n + 1) "_law_alike" ["_law_found", "_law_due"] (spP K false 2 (FA n)) := by
  obtain ⟨fd, FD⟩ := Y.says.def_ 7 (d := Hd.d_7) rfl
  intro n
  induction n with
  | zero =>
    intro _
    exact ⟨_, fd, rfl, fn_P FD sc_law_alike rfl (by decide) (fl' := [false, false, false]) fun cdv A outer s H E B hB hF hr => pb_never, Y.glo 4 rfl, FD.kp, FD.bindsN fun _ _ _ _ _ _ us hl => match us, hl with | [_, _], _ => rfl⟩
  | succ n ih =>
    intro hn
    have ih := ih (by omega)
    refine ⟨_, fd, rfl, fn_P FD sc_law_alike rfl (by decide) (fl' := [false, false, false]) fun cdv A outer s H E B hB hF hr => ?_, Y.glo 4 rfl, FD.kp, FD.bindsN fun _ _ _ _ _ _ us hl => match us, hl with | [_, _], _ => rfl⟩
    have hp := passes_of (X := cxOf (L2N.CX P w) P w K mg base N_law_alike "_law_alike" (defScope (Hd.top 14)) (He.ga K "_law_alike") cdv A outer s H E) (K := fun e s' => L2N.CX P w outer H s E e s') rfl
    have tk := L2N.takes_of (X := cxOf (L2N.CX P w) P w K mg base N_law_alike "_law_alike" (defScope (Hd.top 14)) (He.ga K "_law_alike") cdv A outer s H E) rfl rfl rfl rfl
    exact (pb_cons (psv_if (ptv_val (pv_isT2 rfl (Y.free 14 rfl) (po_slot (L2.pv 1)) (pe_bty rfl (Y.free 21 rfl) bt_tuple) (pe_bty rfl (Y.free 16 rfl) bt_list)))
 (pb_cons (psv_if (PWv.t (pwv_or (ptv_not (ptv_val (pv_isT2 rfl (Y.free 14 rfl) (po_slot (L2.pv 0)) (pe_bty rfl (Y.free 21 rfl) bt_tuple) (pe_bty rfl (Y.free 16 rfl) bt_list)))) (pwv_or1 (ptv_ne hr (po_v (pv_isinst rfl (Y.free 14 rfl) (po_slot (L2.pv 0)) (po_v (pv_bty rfl (Y.free 16 rfl) bt_list)))) (po_v (pv_isinst rfl (Y.free 14 rfl) (po_slot (L2.pv 1)) (po_v (pv_bty rfl (Y.free 16 rfl) bt_list))))))))
 (pb_one (psv_ret pv_bl hF hB))
 pb_nil)
 (pb_cons (psv_if (ptv_ne hr (po_v (pv_len rfl (Y.free 15 rfl) (po_slot (L2.pv 0)))) (po_v (pv_len rfl (Y.free 15 rfl) (po_slot (L2.pv 1)))))
 (pb_one (psv_ret pv_bl hF hB))
 pb_nil)
 (pb_one (psv_ret (pv_eq hr (po_v (PF.v (pf_lc (own := [("_law_k", 2)]) rfl sc_law_alike.nd (pi_r1 rfl (Y.free 18 rfl) (pav_cons (pv_len rfl (Y.free 15 rfl) (po_slot (L2.pv 1))) pav_nil)) (blkOk_by (by rfl)) (.inl (by decide)) (tgOwn_name (by decide)) (fun _ _ _ _ _ B1 hb1 => have hB1 := hb1.trans hB; (pgv_name (i := 2) sc_law_alike.nd rfl (by first | exact Or.inl rfl | exact Or.inr rfl))) (fun _ _ _ _ _ B1 hb1 => have hB1 := hb1.trans hB; (ptsv_one (ptv_not (ptv_val (pv_callC ih hr (Nat.le_refl _) rfl takesN (pav_cons (pv_ix (po_slot (L2.pv 0)) (po_slot (L2.pv 2))) (pav_cons (pv_ix (po_slot (L2.pv 1)) (po_slot (L2.pv 2))) pav_nil))))))) (fun _ _ _ _ _ B1 hb1 => have hB1 := hb1.trans hB; (pv_var (L2.pv 2)))))) (po_v (PF.v (pf_lst pav_nil)))) hF hB))))
 pb_nil)
 (pb_cons (psv_if (PWv.t (pwv_or (ptv_is (po_slot (L2.pv 1)) (po_v pv_non)) (pwv_or1 (ptv_val (pv_isinst rfl (Y.free 14 rfl) (po_slot (L2.pv 1)) (po_v (pv_bty rfl (Y.free 20 rfl) bt_str)))))))
 (pb_one (psv_ret (pv_and (pv_eq hr (po_slot (L2.pv 0)) (po_slot (L2.pv 1))) (pv_one (pv_eq hr (po_v (pv_isinst rfl (Y.free 14 rfl) (po_slot (L2.pv 0)) (po_v (pv_bty rfl (Y.free 20 rfl) bt_str)))) (po_v (pv_isinst rfl (Y.free 14 rfl) (po_slot (L2.pv 1)) (po_v (pv_bty rfl (Y.free 20 rfl) bt_str))))))) hF hB))
 pb_nil)
 (pb_one (psv_ret (pv_and (pv_isinst rfl (Y.free 14 rfl) (po_slot (L2.pv 0)) (po_v (pv_bty rfl (Y.free 13 rfl) bt_int))) (pv_and (pv_eq hr (po_v (pv_isinst rfl (Y.free 14 rfl) (po_slot (L2.pv 0)) (po_v (pv_bty rfl (Y.free 12 rfl) bt_bool)))) (po_v (pv_isinst rfl (Y.free 14 rfl) (po_slot (L2.pv 1)) (po_v (pv_bty rfl (Y.free 12 rfl) bt_bool))))) (pv_one (pv_eq hr (po_slot (L2.pv 0)) (po_slot (L2.pv 1)))))) hF hB))))
def F_law_alike : List D → PRes := FA 9
theorem ok_law_alike (Y : FxY K mg Hd.fa Hd.fn Hd.gs Hd.xs) : Cal P w K mg base 10 "_law_alike" ["_law_found", "_law_due"] (spP K false 2 F_law_alike) := ok_alikes Y 9 (by decide)
/-! _law_pick -/
abbrev N_law_pick : List Str := ["_law_h", "_law_things"]
theorem sc_law_pick : FnScope N_law_pick ["_law_h", "_law_things"] (defScope (Hd.top 15)) := ⟨rfl, rfl, rfl, by decide +kernel, rfl, by decide +kernel, by decide +kernel⟩
def S_law_pick : StF := (retB (bin2 (.s 1) (.v (callR nextF 0 (aCons (un1 (.s 1) lenD) aNil))) idxD))
def F_law_pick : D → List D → RRes := mkR 2 (S_law_pick)
theorem ok_law_pick (Y : FxY K mg Hd.fa Hd.fn Hd.gs Hd.xs) : Cal P w K mg base 2 "_law_pick" ["_law_h", "_law_things"] (spR K 1 (F_law_pick)) := by
  obtain ⟨fd, FD⟩ := Y.says.def_ 8 (d := Hd.d_8) rfl
  refine ⟨_, fd, rfl, fn_R FD sc_law_pick rfl (by decide) (fl' := [true, false]) fun cdv A outer s H E B hF hr => ?_, Y.glo 5 rfl, FD.kp, FD.bindsN fun _ _ _ _ _ _ us hl => match us, hl with | [_, _], _ => rfl⟩
  have hp := passes_of (X := cxOf (L2N.CX P w) P w K mg base N_law_pick "_law_pick" (defScope (Hd.top 15)) (He.ga K "_law_pick") cdv A outer s H E) (K := fun e s' => L2N.CX P w outer H s E e s') rfl
  have tk := L2N.takes_of (X := cxOf (L2N.CX P w) P w K mg base N_law_pick "_law_pick" (defScope (Hd.top 15)) (He.ga K "_law_pick") cdv A outer s H E) rfl rfl rfl rfl
  exact (pb_one (psv_retB (pv_ix (po_slot (L2.pv 1)) (po_v (pv_callRC (ok_law_next Y) hr (by decide) rfl tk (L2.pv 0) (pav_cons (pv_len rfl (Y.free 15 rfl) (po_slot (L2.pv 1))) pav_nil)))) hF))
/-! _law_rising -/
abbrev N_law_rising : List Str := ["_law_h", "_law_many", "_law_cap", "_law_found", "_law_k", "_law_one"]
theorem sc_law_rising : FnScope N_law_rising ["_law_h", "_law_many", "_law_cap"] (defScope (Hd.top 16)) := ⟨rfl, rfl, rfl, by decide +kernel, rfl, by decide +kernel, by decide +kernel⟩
def S_law_rising : StF := (sSeq (fgt [3])
 (sSeq (put 3 (lstF aNil))
 (sSeq (forS (itR1 (aCons (var 1) aNil)) (tgN 4) (sSeq (put 5 (callR nextF 0 (aCons (var 2) aNil)))
 (ifS (bin2 (.s 5) (.s 3) ninD) (appS 3 (var 5)) sSkip)))
 (retB (un1 (.v (pubF (un1 (.s 3) sortI))) tupD)))))
def F_law_rising : D → List D → RRes := mkR 6 (S_law_rising)
theorem ok_law_rising (Y : FxY K mg Hd.fa Hd.fn Hd.gs Hd.xs) : Cal P w K mg base 2 "_law_rising" ["_law_h", "_law_many", "_law_cap"] (spR K 2 (F_law_rising)) := by
  obtain ⟨fd, FD⟩ := Y.says.def_ 9 (d := Hd.d_9) rfl
  refine ⟨_, fd, rfl, fn_R FD sc_law_rising rfl (by decide) (fl' := [true, false, false, false, false, false]) fun cdv A outer s H E B hF hr => ?_, Y.glo 6 rfl, FD.kp, FD.bindsN fun _ _ _ _ _ _ us hl => match us, hl with | [_, _, _], _ => rfl⟩
  have hp := passes_of (X := cxOf (L2N.CX P w) P w K mg base N_law_rising "_law_rising" (defScope (Hd.top 16)) (He.ga K "_law_rising") cdv A outer s H E) (K := fun e s' => L2N.CX P w outer H s E e s') rfl
  have tk := L2N.takes_of (X := cxOf (L2N.CX P w) P w K mg base N_law_rising "_law_rising" (defScope (Hd.top 16)) (He.ga K "_law_rising") cdv A outer s H E) rfl rfl rfl rfl
  exact (PBv.pre [3] [true, false, false, true, false, false] (pb_cons (psv_asgF (i := 3) (fun te h => ps_set (i := 3) sc_law_rising.nd rfl (by first | exact Or.inl rfl | exact Or.inr rfl) h) (pf_lst pav_nil) (.inl (by decide)))
 (pb_cons (psv_for hp rfl (pi_r1 rfl (Y.free 18 rfl) (pav_cons (pv_var (L2.pv 1)) pav_nil)) (pgv_name (i := 4) sc_law_rising.nd rfl (by first | exact Or.inl rfl | exact Or.inr rfl))
 (pb_cons (psv_asg (i := 5) (fun te h => ps_set (i := 5) sc_law_rising.nd rfl (by first | exact Or.inl rfl | exact Or.inr rfl) h) (pv_callRC (ok_law_next Y) hr (by decide) rfl tk (L2.pv 0) (pav_cons (pv_var (L2.pv 2)) pav_nil)) (.inl (by decide)))
 (pb_one (psv_if (ptv_nin hr (po_slot (L2.pv 5)) (po_slot (L2.pv 3)))
 (pb_one (psv_append (k := 3) (fun te h => pe_bm PySem.F.plainAttrs_list PySem.F.slot_list_append PySem.F.type_list_append mt_append (L2.pv 3) (pa_cons h pa_nil)) (pv_var (L2.pv 5))))
 pb_nil))))
 (pb_one (psv_retB (pv_tuple rfl (Y.free 21 rfl) (po_v (PF.v (pf_sorted rfl (Y.free 19 rfl) (po_slot (L2.pv 3)))))) hF)))) (.inl (by decide)))
/-! _law_whole -/
abbrev N_law_whole : List Str := ["_law_thing", "_law_low", "_law_high"]
theorem sc_law_whole : FnScope N_law_whole ["_law_thing", "_law_low", "_law_high"] (defScope (Hd.top 17)) := ⟨rfl, rfl, rfl, by decide +kernel, rfl, by decide +kernel, by decide +kernel⟩
def S_law_whole : StF := (retE (andF (bin2 (.s 0) (.v (cst (.ty "int"))) isiD) (andF (notF (bin2 (.s 0) (.v (cst (.ty "bool"))) isiD)) (chF leD leD (var 1) (var 0) (var 2)))))
def F_law_whole : List D → PRes := mkP 3 (S_law_whole)
theorem ok_law_whole (Y : FxY K mg Hd.fa Hd.fn Hd.gs Hd.xs) : Cal P w K mg base 1 "_law_whole" ["_law_thing", "_law_low", "_law_high"] (spP K false 3 (F_law_whole)) := by
  obtain ⟨fd, FD⟩ := Y.says.def_ 10 (d := Hd.d_10) rfl
  refine ⟨_, fd, rfl, fn_P FD sc_law_whole rfl (by decide) (fl' := [false, false, false]) fun cdv A outer s H E B hB hF hr => ?_, Y.glo 7 rfl, FD.kp, FD.bindsN fun _ _ _ _ _ _ us hl => match us, hl with | [_, _, _], _ => rfl⟩
  have hp := passes_of (X := cxOf (L2N.CX P w) P w K mg base N_law_whole "_law_whole" (defScope (Hd.top 17)) (He.ga K "_law_whole") cdv A outer s H E) (K := fun e s' => L2N.CX P w outer H s E e s') rfl
  have tk := L2N.takes_of (X := cxOf (L2N.CX P w) P w K mg base N_law_whole "_law_whole" (defScope (Hd.top 17)) (He.ga K "_law_whole") cdv A outer s H E) rfl rfl rfl rfl
  exact (pb_one (psv_ret (pv_and (pv_isinst rfl (Y.free 14 rfl) (po_slot (L2.pv 0)) (po_v (pv_bty rfl (Y.free 13 rfl) bt_int))) (pv_and (pv_not (pv_isinst rfl (Y.free 14 rfl) (po_slot (L2.pv 0)) (po_v (pv_bty rfl (Y.free 12 rfl) bt_bool)))) (pv_one (pv_chLL (pv_var (L2.pv 1)) (pv_var (L2.pv 0)) (pv_var (L2.pv 2)))))) hF hB))
/-! _law_fault -/
abbrev N_law_fault : List Str := ["_law_length", "_law_holes", "_law_ring", "_law_one", "_law_k"]
theorem sc_law_fault : FnScope N_law_fault ["_law_length", "_law_holes", "_law_ring"] (defScope (Hd.top 18)) := ⟨rfl, rfl, rfl, by decide +kernel, rfl, by decide +kernel, by decide +kernel⟩
def S_law_fault : StF := (sSeq (ifS (notF (callP F_law_whole (aCons (var 0) (aCons (cst (.int 1)) (aCons (bin2 (.v (cst (.int 10))) (.v (cst (.int 30))) powD) aNil))))) (retE (cst (.str [108, 101, 110, 103, 116, 104]))) sSkip)
 (sSeq (ifS (orF (notF (bin2 (.s 1) (.v (cst (.ty "tuple"))) isiD)) (bin2 (.v (un1 (.s 1) lenD)) (.v (cst (.int 6))) gtD)) (retE (cst (.str [104, 111, 108, 101, 115]))) sSkip)
 (sSeq (ifS (bin2 (.v (pubF (lcF (itV (var 1)) (tgN 3) [3] (some (notF (callP F_law_whole (aCons (var 3) (aCons (cst (.int 0)) (aCons (bin2 (.s 0) (.v (cst (.int 1))) subD) aNil)))))) (var 3)))) (.v (pubF (lstF aNil))) neO) (retE (cst (.str [104, 111, 108, 101, 115]))) sSkip)
 (sSeq (ifS (bin2 (.v (pubF (lcF (itR2 (aCons (cst (.int 1)) (aCons (un1 (.s 1) lenD) aNil))) (tgN 4) [4] (some (bin2 (.v (bin2 (.s 1) (.v (bin2 (.s 4) (.v (cst (.int 1))) subD)) idxD)) (.v (bin2 (.s 1) (.s 4) idxD)) geD)) (var 4)))) (.v (pubF (lstF aNil))) neO) (retE (cst (.str [104, 111, 108, 101, 115]))) sSkip)
 (retE (ifF (bin2 (.s 2) (.v (cst (.ty "bool"))) isiD) (cst .non) (cst (.str [114, 105, 110, 103]))))))))
def F_law_fault : List D → PRes := mkP 5 (S_law_fault)
theorem ok_law_fault (Y : FxY K mg Hd.fa Hd.fn Hd.gs Hd.xs) : Cal P w K mg base 2 "_law_fault" ["_law_length", "_law_holes", "_law_ring"] (spP K false 3 (F_law_fault)) := by
  obtain ⟨fd, FD⟩ := Y.says.def_ 11 (d := Hd.d_11) rfl
  refine ⟨_, fd, rfl, fn_P FD sc_law_fault rfl (by decide) (fl' := [false, false, false, false, false]) fun cdv A outer s H E B hB hF hr => ?_, Y.glo 8 rfl, FD.kp, FD.bindsN fun _ _ _ _ _ _ us hl => match us, hl with | [_, _, _], _ => rfl⟩
  have hp := passes_of (X := cxOf (L2N.CX P w) P w K mg base N_law_fault "_law_fault" (defScope (Hd.top 18)) (He.ga K "_law_fault") cdv A outer s H E) (K := fun e s' => L2N.CX P w outer H s E e s') rfl
  have tk := L2N.takes_of (X := cxOf (L2N.CX P w) P w K mg base N_law_fault "_law_fault" (defScope (Hd.top 18)) (He.ga K "_law_fault") cdv A outer s H E) rfl rfl rfl rfl
  exact (pb_cons (psv_if (ptv_not (ptv_val (pv_callC (ok_law_whole Y) hr (by decide) rfl tk (pav_cons (pv_var (L2.pv 0)) (pav_cons pv_int (pav_cons (pv_pow (po_v pv_int) (po_v pv_int)) pav_nil))))))
 (pb_one (psv_ret (pv_str [108, 101, 110, 103, 116, 104]) hF hB))
 pb_nil)
 (pb_cons (psv_if (PWv.t (pwv_or (ptv_not (ptv_val (pv_isinst rfl (Y.free 14 rfl) (po_slot (L2.pv 1)) (po_v (pv_bty rfl (Y.free 21 rfl) bt_tuple))))) (pwv_or1 (ptv_gt (po_v (pv_len rfl (Y.free 15 rfl) (po_slot (L2.pv 1)))) (po_v pv_int)))))
 (pb_one (psv_ret (pv_str [104, 111, 108, 101, 115]) hF hB))
 pb_nil)
 (pb_cons (psv_if (ptv_ne hr (po_v (PF.v (pf_lc (own := [("_law_one", 3)]) rfl sc_law_fault.nd (pi_v (pv_var (L2.pv 1))) (blkOk_by (by rfl)) (.inl (by decide)) (tgOwn_name (by decide)) (fun _ _ _ _ _ B1 hb1 => have hB1 := hb1.trans hB; (pgv_name (i := 3) sc_law_fault.nd rfl (by first | exact Or.inl rfl | exact Or.inr rfl))) (fun _ _ _ _ _ B1 hb1 => have hB1 := hb1.trans hB; (ptsv_one (ptv_not (ptv_val (pv_callC (ok_law_whole Y) hr (by decide) rfl takesN (pav_cons (pv_var (L2.pv 3)) (pav_cons pv_int (pav_cons (pv_sub (po_slot (L2.pv 0)) (po_v pv_int)) pav_nil)))))))) (fun _ _ _ _ _ B1 hb1 => have hB1 := hb1.trans hB; (pv_var (L2.pv 3)))))) (po_v (PF.v (pf_lst pav_nil))))
 (pb_one (psv_ret (pv_str [104, 111, 108, 101, 115]) hF hB))
 pb_nil)
 (pb_cons (psv_if (ptv_ne hr (po_v (PF.v (pf_lc (own := [("_law_k", 4)]) rfl sc_law_fault.nd (pi_r2 rfl (Y.free 18 rfl) (pav_cons pv_int (pav_cons (pv_len rfl (Y.free 15 rfl) (po_slot (L2.pv 1))) pav_nil))) (blkOk_by (by rfl)) (.inl (by decide)) (tgOwn_name (by decide)) (fun _ _ _ _ _ B1 hb1 => have hB1 := hb1.trans hB; (pgv_name (i := 4) sc_law_fault.nd rfl (by first | exact Or.inl rfl | exact Or.inr rfl))) (fun _ _ _ _ _ B1 hb1 => have hB1 := hb1.trans hB; (ptsv_one (ptv_ge (po_v (pv_ix (po_slot (L2.pv 1)) (po_v (pv_sub (po_slot (L2.pv 4)) (po_v pv_int))))) (po_v (pv_ix (po_slot (L2.pv 1)) (po_slot (L2.pv 4))))))) (fun _ _ _ _ _ B1 hb1 => have hB1 := hb1.trans hB; (pv_var (L2.pv 4)))))) (po_v (PF.v (pf_lst pav_nil))))
 (pb_one (psv_ret (pv_str [104, 111, 108, 101, 115]) hF hB))
 pb_nil)
 (pb_one (psv_ret (pv_ifExp (ptv_val (pv_isinst rfl (Y.free 14 rfl) (po_slot (L2.pv 2)) (po_v (pv_bty rfl (Y.free 12 rfl) bt_bool)))) pv_non (pv_str [114, 105, 110, 103])) hF hB))))))
/-! _law_tried -/
abbrev N_law_tried : List Str := ["_law_length", "_law_holes", "_law_ring", "_law_found", "error"]
theorem sc_law_tried : FnScope N_law_tried ["_law_length", "_law_holes", "_law_ring"] (defScope (Hd.top 19)) := ⟨rfl, rfl, rfl, by decide +kernel, rfl, by decide +kernel, by decide +kernel⟩
def S_law_tried (K : PySem.W.Frag) : StF := (sSeq (put 3 (cst .non))
 (sSeq (tryA K 4 (put 3 (makF (He.ga K "Frame") (F_Frame___init__ K) (aCons (var 0) (aCons (var 1) (aCons (var 2) aNil))))) ((He.ga K "InvalidLength", fun c1 a1 => (put 3 (ifF (isEF K c1 (He.ga K "GapError") a1 4) (cst (.str [108, 101, 110, 103, 116, 104])) (cst .non)))) :: ((He.ga K "InvalidHoles", fun c1 a1 => (put 3 (ifF (isEF K c1 (He.ga K "GapError") a1 4) (cst (.str [104, 111, 108, 101, 115])) (cst .non)))) :: ((He.ga K "InvalidRing", fun c1 a1 => (put 3 (ifF (isEF K c1 (He.ga K "GapError") a1 4) (cst (.str [114, 105, 110, 103])) (cst .non)))) :: []))))
 (retE (var 3))))
def F_law_tried (K : PySem.W.Frag) : List D → PRes := mkP 5 (S_law_tried K)
theorem ok_law_tried (Y : FxY K mg Hd.fa Hd.fn Hd.gs Hd.xs) : Cal P w K mg base 5 "_law_tried" ["_law_length", "_law_holes", "_law_ring"] (spP K false 3 (F_law_tried K)) := by
  obtain ⟨fd, FD⟩ := Y.says.def_ 12 (d := Hd.d_12) rfl
  refine ⟨_, fd, rfl, fn_P FD sc_law_tried rfl (by decide) (fl' := [false, false, false, false, false]) fun cdv A outer s H E B hB hF hr => ?_, Y.glo 9 rfl, FD.kp, FD.bindsN fun _ _ _ _ _ _ us hl => match us, hl with | [_, _, _], _ => rfl⟩
  have hp := passes_of (X := cxOf (L2N.CX P w) P w K mg base N_law_tried "_law_tried" (defScope (Hd.top 19)) (He.ga K "_law_tried") cdv A outer s H E) (K := fun e s' => L2N.CX P w outer H s E e s') rfl
  have tk := L2N.takes_of (X := cxOf (L2N.CX P w) P w K mg base N_law_tried "_law_tried" (defScope (Hd.top 19)) (He.ga K "_law_tried") cdv A outer s H E) rfl rfl rfl rfl
  exact (pb_cons (psv_asg (i := 3) (fun te h => ps_set (i := 3) sc_law_tried.nd rfl (by first | exact Or.inl rfl | exact Or.inr rfl) h) pv_non (.inl (by decide)))
 (pb_cons (psv_tryM (i := 4) rfl tk hB sc_law_tried.nd (fun _ pn1 xe1 tk1 hp1 => (pb_one (psv_asg (i := 3) (fun te h => ps_set (i := 3) sc_law_tried.nd rfl (by first | exact Or.inl rfl | exact Or.inr rfl) h) (pv_mak (ok_Frame___init__ Y) hr (by decide) rfl tk1 (pav_cons (pv_var (L2.pv 0)) (pav_cons (pv_var (L2.pv 1)) (pav_cons (pv_var (L2.pv 2)) pav_nil)))) (.inl (by decide))))) (ClsV.cons rfl (Y.glo 25 rfl) (fun a1 oe1 c1 pn1 hz1 hd1 => (pb_one (psv_asg (i := 3) (fun te h => ps_set (i := 3) sc_law_tried.nd rfl (by first | exact Or.inl rfl | exact Or.inr rfl) h) (pv_ifExp (ptv_val (pv_isE rfl (Y.free 14 rfl) (L2.pv 4) (pe_glob (v := .ref (He.ga K "GapError")) rfl (Y.glo 24 rfl) rfl) hz1 hd1 rfl)) (pv_str [108, 101, 110, 103, 116, 104]) pv_non) (.inl (by decide))))) (ClsV.cons rfl (Y.glo 26 rfl) (fun a1 oe1 c1 pn1 hz1 hd1 => (pb_one (psv_asg (i := 3) (fun te h => ps_set (i := 3) sc_law_tried.nd rfl (by first | exact Or.inl rfl | exact Or.inr rfl) h) (pv_ifExp (ptv_val (pv_isE rfl (Y.free 14 rfl) (L2.pv 4) (pe_glob (v := .ref (He.ga K "GapError")) rfl (Y.glo 24 rfl) rfl) hz1 hd1 rfl)) (pv_str [104, 111, 108, 101, 115]) pv_non) (.inl (by decide))))) (ClsV.cons rfl (Y.glo 27 rfl) (fun a1 oe1 c1 pn1 hz1 hd1 => (pb_one (psv_asg (i := 3) (fun te h => ps_set (i := 3) sc_law_tried.nd rfl (by first | exact Or.inl rfl | exact Or.inr rfl) h) (pv_ifExp (ptv_val (pv_isE rfl (Y.free 14 rfl) (L2.pv 4) (pe_glob (v := .ref (He.ga K "GapError")) rfl (Y.glo 24 rfl) rfl) hz1 hd1 rfl)) (pv_str [114, 105, 110, 103]) pv_non) (.inl (by decide))))) ClsV.nil))))
 (pb_one (psv_ret (pv_var (L2.pv 3)) hF hB))))
/-! law -/
abbrev N_law : List Str := ["_law_script", "_law_h", "_law_turn", "_law_length", "_law_holes", "_law_ring", "_law_spot", "_law_odd", "_law_more", "_law_found", "_law_fault_here"]
theorem sc_law : FnScope N_law ["_law_script"] (defScope (Hd.top 20)) := ⟨rfl, rfl, rfl, by decide +kernel, rfl, by decide +kernel, by decide +kernel⟩
def S_law (K : PySem.W.Frag) : StF := (sSeq (forS (itR1 (aCons (cst (.int 6)) aNil)) (tgN 2) (sSeq (put 3 (bin2 (.v (cst (.int 1))) (.v (callR nextF 1 (aCons (callR F_law_pick 1 (aCons (pubF (lstF (aCons (cst (.int 3)) (aCons (cst (.int 40)) (aCons (bin2 (.v (cst (.int 10))) (.v (cst (.int 30))) powD) aNil))))) aNil)) aNil))) addD))
 (sSeq (par2 4 5 (aCons (callR F_law_rising 1 (aCons (callR nextF 1 (aCons (cst (.int 9)) aNil)) (aCons (var 3) aNil))) (aCons (bin2 (.v (callR nextF 1 (aCons (cst (.int 2)) aNil))) (.v (cst (.int 0))) eqO) aNil)))
 (sSeq (put 6 (callR nextF 1 (aCons (bin2 (.v (un1 (.s 4) lenD)) (.v (cst (.int 1))) addD) aNil)))
 (sSeq (put 7 (pubF (lstF (aCons (tupF (aCons (var 3) aNil)) (aCons (tupF (aCons (un1 (.v (cst (.int 1))) negD) aNil)) (aCons (tupF (aCons (cst .non) aNil)) (aCons (tupF (aCons (cst (.bl true)) aNil)) (aCons (tupF (aCons (cst (.str [48])) aNil)) (aCons (bin2 (.v (slF (var 4) (some (var 6)) (some (bin2 (.s 6) (.v (cst (.int 1))) addD)))) (.v (cst (.int 2))) mulT) (aCons (tupF (aCons (cst (.int 0)) (aCons (cst (.int 0)) aNil))) (aCons (tupF (aCons (bin2 (.s 3) (.v (cst (.int 1))) subD) (aCons (cst (.int 0)) aNil))) aNil)))))))))))
 (sSeq (put 8 (bin2 (.v (bin2 (.v (slF (var 4) none (some (var 6)))) (.v (callR F_law_pick 1 (aCons (var 7) aNil))) addD)) (.v (slF (var 4) (some (var 6)) none)) addD))
 (sSeq (put 4 (callR F_law_pick 1 (aCons (bin2 (.v (bin2 (.v (pubF (lstF (aCons (var 4) aNil)))) (.v (cst (.int 5))) mulD)) (.v (pubF (lstF (aCons (var 8) (aCons (pubF (un1 (.s 4) lstD)) (aCons (cst .non) (aCons (un1 (.s 4) revT) aNil))))))) addD) aNil)))
 (sSeq (put 3 (callR F_law_pick 1 (aCons (bin2 (.v (bin2 (.v (pubF (lstF (aCons (var 3) aNil)))) (.v (cst (.int 8))) mulD)) (.v (pubF (lstF (aCons (cst (.int 0)) (aCons (un1 (.v (cst (.int 1))) negD) (aCons (bin2 (.v (cst (.int 10))) (.v (cst (.int 30))) powD) (aCons (bin2 (.v (bin2 (.v (cst (.int 10))) (.v (cst (.int 30))) powD)) (.v (cst (.int 1))) addD) (aCons (cst (.bl true)) (aCons (cst .non) (aCons (cst (.str [53])) aNil)))))))))) addD) aNil)))
 (sSeq (put 5 (callR F_law_pick 1 (aCons (bin2 (.v (bin2 (.v (pubF (lstF (aCons (var 5) aNil)))) (.v (cst (.int 8))) mulD)) (.v (pubF (lstF (aCons (cst .non) (aCons (cst (.int 0)) (aCons (cst (.int 1)) (aCons (cst (.str [114, 105, 110, 103])) (aCons (tupF aNil) aNil)))))))) addD) aNil)))
 (sSeq (par2 9 10 (aCons (callP (F_law_tried K) (aCons (var 3) (aCons (var 4) (aCons (var 5) aNil)))) (aCons (callP F_law_fault (aCons (var 3) (aCons (var 4) (aCons (var 5) aNil)))) aNil)))
 (ifS (bin2 (.s 10) (.v (cst .non)) isnD) (ifS (notF (callP F_law_alike (aCons (var 9) (aCons (var 10) aNil)))) (retE (cst (.bl false))) sSkip) (ifS (orF (notF (un1 (.s 9) (isiC (He.ga K "Frame")))) (orF (notF (eqW (He.ga K "Frame") (F_Frame___eq__ K) (var 9) (makF (He.ga K "Frame") (F_Frame___init__ K) (aCons (var 3) (aCons (var 4) (aCons (var 5) aNil)))))) (eqW (He.ga K "Frame") (F_Frame___eq__ K) (var 9) (var 4)))) (retE (cst (.bl false))) (ifS (notF (callP F_law_alike (aCons (pubF (lstF (aCons (prpF (He.ga K "Frame") (F_Frame_length K) (var 9)) (aCons (prpF (He.ga K "Frame") (F_Frame_holes K) (var 9)) (aCons (prpF (He.ga K "Frame") (F_Frame_ring K) (var 9)) (aCons (lenW (He.ga K "Frame") (F_Frame___len__ K) (var 9)) aNil)))))) (aCons (pubF (lstF (aCons (var 3) (aCons (var 4) (aCons (var 5) (aCons (un1 (.s 4) lenD) aNil)))))) aNil)))) (retE (cst (.bl false))) (ifS (orF (eqW (He.ga K "Frame") (F_Frame___eq__ K) (var 9) (makF (He.ga K "Frame") (F_Frame___init__ K) (aCons (var 3) (aCons (var 4) (aCons (notF (var 5)) aNil))))) (andF (bin2 (.s 3) (.v (bin2 (.v (cst (.int 10))) (.v (cst (.int 30))) powD)) ltD) (eqW (He.ga K "Frame") (F_Frame___eq__ K) (var 9) (makF (He.ga K "Frame") (F_Frame___init__ K) (aCons (bin2 (.s 3) (.v (cst (.int 1))) addD) (aCons (var 4) (aCons (var 5) aNil))))))) (retE (cst (.bl false))) (ifS (andF (bin2 (.s 4) (.v (tupF aNil)) neO) (eqW (He.ga K "Frame") (F_Frame___eq__ K) (var 9) (makF (He.ga K "Frame") (F_Frame___init__ K) (aCons (var 3) (aCons (slF (var 4) (some (cst (.int 1))) none) (aCons (var 5) aNil)))))) (retE (cst (.bl false))) sSkip)))))))))))))))
 (retE (cst (.bl true))))
theorem ok_law {fd : FuncData} (FD : FunD K Hd.d_13.name Hd.d_13.qual Hd.d_13.params Hd.d_13.body Hd.d_13.scope (Hd.d_13.dvs K) (Hd.d_13.kws K) (He.fAd K Hd.d_13.at_) fd) (Y : FxY K mg Hd.fa Hd.fn Hd.gs Hd.xs) (ht : LawTrue 11 1 (S_law K)) : FnOk P w K mg base L2.CX0 11 (He.ga K "law") fd ["_law_script"] (spLaw K) := by
  refine law_nox (fn_law (k := 10) (kh := 1) (seed := 1) FD sc_law rfl (by decide) (by decide) (fun cdv A outer s H E hr => ?_) (fun cdv A outer s H E B hB hF hr => ?_) ht (fl' := [false, true, false, false, false, false, false, false, false, false, false]))
  · have tk := L2N.takes_of (X := cxOf (L2N.CX P w) P w K mg base N_law "law" (defScope (Hd.top 20)) (He.ga K "law") cdv A outer s H E) rfl rfl rfl rfl
    obtain ⟨f, fd, _, h1, h2, h3, h4⟩ := (ok_law_mix (P := P) (w := w) (base := base) Y).ex
    exact ps_set (i := 1) sc_law.nd rfl (by first | exact Or.inl rfl | exact Or.inr rfl) (pe_callS h1 (hr.mono (by decide)) rfl h2 h3 h4 (fun σ => L2N.passAt tk σ) (pa_cons (L2.pv 0) (pa_cons pe_int pa_nil)))
  have hp := passes_of (X := cxOf (L2N.CX P w) P w K mg base N_law "law" (defScope (Hd.top 20)) (He.ga K "law") cdv A outer s H E) (K := fun e s' => L2N.CX P w outer H s E e s') rfl
  have tk := L2N.takes_of (X := cxOf (L2N.CX P w) P w K mg base N_law "law" (defScope (Hd.top 20)) (He.ga K "law") cdv A outer s H E) rfl rfl rfl rfl
  exact (pb_cons (psv_for hp rfl (pi_r1 rfl (Y.free 18 rfl) (pav_cons pv_int pav_nil)) (pgv_name (i := 2) sc_law.nd rfl (by first | exact Or.inl rfl | exact Or.inr rfl))
 (pb_cons (psv_asg (i := 3) (fun te h => ps_set (i := 3) sc_law.nd rfl (by first | exact Or.inl rfl | exact Or.inr rfl) h) (pv_add (po_v pv_int) (po_v (pv_callRC (ok_law_next Y) hr (by decide) rfl tk (L2.pv 1) (pav_cons (pv_callRC (ok_law_pick Y) hr (by decide) rfl tk (L2.pv 1) (pav_cons (PF.v (pf_lst (pav_cons pv_int (pav_cons pv_int (pav_cons (pv_pow (po_v pv_int) (po_v pv_int)) pav_nil))))) pav_nil)) pav_nil)))) (.inl (by decide)))
 (pb_cons (psv_par (i := 4) (j := 5) (fun ta h => ps_par rfl sc_law.nd rfl rfl (by decide) rfl rfl h rfl) (pav_cons (pv_callRC (ok_law_rising Y) hr (by decide) rfl tk (L2.pv 1) (pav_cons (pv_callRC (ok_law_next Y) hr (by decide) rfl tk (L2.pv 1) (pav_cons pv_int pav_nil)) (pav_cons (pv_var (L2.pv 3)) pav_nil))) (pav_cons (pv_eq hr (po_v (pv_callRC (ok_law_next Y) hr (by decide) rfl tk (L2.pv 1) (pav_cons pv_int pav_nil))) (po_v pv_int)) pav_nil)) (.inl (by decide)) (.inl (by decide)))
 (pb_cons (psv_asg (i := 6) (fun te h => ps_set (i := 6) sc_law.nd rfl (by first | exact Or.inl rfl | exact Or.inr rfl) h) (pv_callRC (ok_law_next Y) hr (by decide) rfl tk (L2.pv 1) (pav_cons (pv_add (po_v (pv_len rfl (Y.free 15 rfl) (po_slot (L2.pv 4)))) (po_v pv_int)) pav_nil)) (.inl (by decide)))
 (pb_cons (psv_asg (i := 7) (fun te h => ps_set (i := 7) sc_law.nd rfl (by first | exact Or.inl rfl | exact Or.inr rfl) h) (PF.v (pf_lst (pav_cons (pv_tup (pav_cons (pv_var (L2.pv 3)) pav_nil)) (pav_cons (pv_tup (pav_cons (pv_neg (po_v pv_int)) pav_nil)) (pav_cons (pv_tup (pav_cons pv_non pav_nil)) (pav_cons (pv_tup (pav_cons pv_bl pav_nil)) (pav_cons (pv_tup (pav_cons (pv_str [48]) pav_nil)) (pav_cons (pv_mulT (po_v (pv_slice (pv_var (L2.pv 4)) (ppv_some (pv_var (L2.pv 6))) (ppv_some (pv_add (po_slot (L2.pv 6)) (po_v pv_int))))) (po_v pv_int)) (pav_cons (pv_tup (pav_cons pv_int (pav_cons pv_int pav_nil))) (pav_cons (pv_tup (pav_cons (pv_sub (po_slot (L2.pv 3)) (po_v pv_int)) (pav_cons pv_int pav_nil))) pav_nil)))))))))) (.inl (by decide)))
 (pb_cons (psv_asg (i := 8) (fun te h => ps_set (i := 8) sc_law.nd rfl (by first | exact Or.inl rfl | exact Or.inr rfl) h) (pv_add (po_v (pv_add (po_v (pv_slice (pv_var (L2.pv 4)) ppv_none (ppv_some (pv_var (L2.pv 6))))) (po_v (pv_callRC (ok_law_pick Y) hr (by decide) rfl tk (L2.pv 1) (pav_cons (pv_var (L2.pv 7)) pav_nil))))) (po_v (pv_slice (pv_var (L2.pv 4)) (ppv_some (pv_var (L2.pv 6))) ppv_none))) (.inl (by decide)))
 (pb_cons (psv_asg (i := 4) (fun te h => ps_set (i := 4) sc_law.nd rfl (by first | exact Or.inl rfl | exact Or.inr rfl) h) (pv_callRC (ok_law_pick Y) hr (by decide) rfl tk (L2.pv 1) (pav_cons (pv_add (po_v (pv_mul (po_v (PF.v (pf_lst (pav_cons (pv_var (L2.pv 4)) pav_nil)))) (po_v pv_int))) (po_v (PF.v (pf_lst (pav_cons (pv_var (L2.pv 8)) (pav_cons (PF.v (pf_list rfl (Y.free 16 rfl) (po_slot (L2.pv 4)))) (pav_cons pv_non (pav_cons (pv_revT (po_slot (L2.pv 4))) pav_nil)))))))) pav_nil)) (.inl (by decide)))
 (pb_cons (psv_asg (i := 3) (fun te h => ps_set (i := 3) sc_law.nd rfl (by first | exact Or.inl rfl | exact Or.inr rfl) h) (pv_callRC (ok_law_pick Y) hr (by decide) rfl tk (L2.pv 1) (pav_cons (pv_add (po_v (pv_mul (po_v (PF.v (pf_lst (pav_cons (pv_var (L2.pv 3)) pav_nil)))) (po_v pv_int))) (po_v (PF.v (pf_lst (pav_cons pv_int (pav_cons (pv_neg (po_v pv_int)) (pav_cons (pv_pow (po_v pv_int) (po_v pv_int)) (pav_cons (pv_add (po_v (pv_pow (po_v pv_int) (po_v pv_int))) (po_v pv_int)) (pav_cons pv_bl (pav_cons pv_non (pav_cons (pv_str [53]) pav_nil))))))))))) pav_nil)) (.inl (by decide)))
 (pb_cons (psv_asg (i := 5) (fun te h => ps_set (i := 5) sc_law.nd rfl (by first | exact Or.inl rfl | exact Or.inr rfl) h) (pv_callRC (ok_law_pick Y) hr (by decide) rfl tk (L2.pv 1) (pav_cons (pv_add (po_v (pv_mul (po_v (PF.v (pf_lst (pav_cons (pv_var (L2.pv 5)) pav_nil)))) (po_v pv_int))) (po_v (PF.v (pf_lst (pav_cons pv_non (pav_cons pv_int (pav_cons pv_int (pav_cons (pv_str [114, 105, 110, 103]) (pav_cons (pv_tup pav_nil) pav_nil))))))))) pav_nil)) (.inl (by decide)))
 (pb_cons (psv_par (i := 9) (j := 10) (fun ta h => ps_par rfl sc_law.nd rfl rfl (by decide) rfl rfl h rfl) (pav_cons (pv_callC (ok_law_tried Y) hr (by decide) rfl tk (pav_cons (pv_var (L2.pv 3)) (pav_cons (pv_var (L2.pv 4)) (pav_cons (pv_var (L2.pv 5)) pav_nil)))) (pav_cons (pv_callC (ok_law_fault Y) hr (by decide) rfl tk (pav_cons (pv_var (L2.pv 3)) (pav_cons (pv_var (L2.pv 4)) (pav_cons (pv_var (L2.pv 5)) pav_nil)))) pav_nil)) (.inl (by decide)) (.inl (by decide)))
 (pb_one (psv_if (ptv_isn (po_slot (L2.pv 10)) (po_v pv_non))
 (pb_one (psv_if (ptv_not (ptv_val (pv_callC (ok_law_alike Y) hr (by decide) rfl tk (pav_cons (pv_var (L2.pv 9)) (pav_cons (pv_var (L2.pv 10)) pav_nil)))))
 (pb_one (psv_ret pv_bl hF hB))
 pb_nil))
 (pb_one (psv_if (PWv.t (pwv_or (ptv_not (ptv_val (pv_isC (isCls_Frame Y) rfl (Y.free 14 rfl) (po_slot (L2.pv 9)) (pe_glob (v := .ref (He.ga K "Frame")) rfl (Y.glo 28 rfl) rfl)))) (pwv_or (ptv_not (ptv_eqW (isCls_Frame Y) (ok_Frame___eq__ Y) hr (by decide) (pv_var (L2.pv 9)) (pv_mak (ok_Frame___init__ Y) hr (by decide) rfl tk (pav_cons (pv_var (L2.pv 3)) (pav_cons (pv_var (L2.pv 4)) (pav_cons (pv_var (L2.pv 5)) pav_nil)))))) (pwv_or1 (ptv_eqW (isCls_Frame Y) (ok_Frame___eq__ Y) hr (by decide) (pv_var (L2.pv 9)) (pv_var (L2.pv 4)))))))
 (pb_one (psv_ret pv_bl hF hB))
 (pb_one (psv_if (ptv_not (ptv_val (pv_callC (ok_law_alike Y) hr (by decide) rfl tk (pav_cons (PF.v (pf_lst (pav_cons (pv_prop (ok_Frame_length Y) hr (by decide) (pv_var (L2.pv 9))) (pav_cons (pv_prop (ok_Frame_holes Y) hr (by decide) (pv_var (L2.pv 9))) (pav_cons (pv_prop (ok_Frame_ring Y) hr (by decide) (pv_var (L2.pv 9))) (pav_cons (pv_lenW (ok_Frame___len__ Y) hr (by decide) rfl (Y.free 15 rfl) (pv_var (L2.pv 9))) pav_nil)))))) (pav_cons (PF.v (pf_lst (pav_cons (pv_var (L2.pv 3)) (pav_cons (pv_var (L2.pv 4)) (pav_cons (pv_var (L2.pv 5)) (pav_cons (pv_len rfl (Y.free 15 rfl) (po_slot (L2.pv 4))) pav_nil)))))) pav_nil)))))
 (pb_one (psv_ret pv_bl hF hB))
 (pb_one (psv_if (PWv.t (pwv_or (ptv_eqW (isCls_Frame Y) (ok_Frame___eq__ Y) hr (by decide) (pv_var (L2.pv 9)) (pv_mak (ok_Frame___init__ Y) hr (by decide) rfl tk (pav_cons (pv_var (L2.pv 3)) (pav_cons (pv_var (L2.pv 4)) (pav_cons (pv_not (pv_var (L2.pv 5))) pav_nil))))) (pwv_or1 (PWv.t (pwv_and (ptv_lt (po_slot (L2.pv 3)) (po_v (pv_pow (po_v pv_int) (po_v pv_int)))) (pwv_and1 (ptv_eqW (isCls_Frame Y) (ok_Frame___eq__ Y) hr (by decide) (pv_var (L2.pv 9)) (pv_mak (ok_Frame___init__ Y) hr (by decide) rfl tk (pav_cons (pv_add (po_slot (L2.pv 3)) (po_v pv_int)) (pav_cons (pv_var (L2.pv 4)) (pav_cons (pv_var (L2.pv 5)) pav_nil)))))))))))
 (pb_one (psv_ret pv_bl hF hB))
 (pb_one (psv_if (PWv.t (pwv_and (ptv_ne hr (po_slot (L2.pv 4)) (po_v (pv_tup pav_nil))) (pwv_and1 (ptv_eqW (isCls_Frame Y) (ok_Frame___eq__ Y) hr (by decide) (pv_var (L2.pv 9)) (pv_mak (ok_Frame___init__ Y) hr (by decide) rfl tk (pav_cons (pv_var (L2.pv 3)) (pav_cons (pv_slice (pv_var (L2.pv 4)) (ppv_some pv_int) ppv_none) (pav_cons (pv_var (L2.pv 5)) pav_nil))))))))
 (pb_one (psv_ret pv_bl hF hB))
 pb_nil))))))))))))))))))))
 (pb_one (psv_ret pv_bl hF hB)))
theorem exm_InvalidLength_InvalidHoles (Y : FxY K mg Hd.fa Hd.fn Hd.gs Hd.xs) : PySem.W.exmOne K (.ref (He.ga K "InvalidLength")) (.ref (He.ga K "InvalidHoles")) = some false := Y.exm 37 rfl
theorem exm_InvalidLength_InvalidLength (Y : FxY K mg Hd.fa Hd.fn Hd.gs Hd.xs) : PySem.W.exmOne K (.ref (He.ga K "InvalidLength")) (.ref (He.ga K "InvalidLength")) = some true := Y.exm 38 rfl
theorem exm_InvalidLength_InvalidRing (Y : FxY K mg Hd.fa Hd.fn Hd.gs Hd.xs) : PySem.W.exmOne K (.ref (He.ga K "InvalidLength")) (.ref (He.ga K "InvalidRing")) = some false := Y.exm 39 rfl
theorem exm_InvalidHoles_InvalidHoles (Y : FxY K mg Hd.fa Hd.fn Hd.gs Hd.xs) : PySem.W.exmOne K (.ref (He.ga K "InvalidHoles")) (.ref (He.ga K "InvalidHoles")) = some true := Y.exm 41 rfl
theorem exm_InvalidHoles_InvalidLength (Y : FxY K mg Hd.fa Hd.fn Hd.gs Hd.xs) : PySem.W.exmOne K (.ref (He.ga K "InvalidHoles")) (.ref (He.ga K "InvalidLength")) = some false := Y.exm 42 rfl
theorem exm_InvalidHoles_InvalidRing (Y : FxY K mg Hd.fa Hd.fn Hd.gs Hd.xs) : PySem.W.exmOne K (.ref (He.ga K "InvalidHoles")) (.ref (He.ga K "InvalidRing")) = some false := Y.exm 43 rfl
theorem exm_InvalidRing_InvalidHoles (Y : FxY K mg Hd.fa Hd.fn Hd.gs Hd.xs) : PySem.W.exmOne K (.ref (He.ga K "InvalidRing")) (.ref (He.ga K "InvalidHoles")) = some false := Y.exm 45 rfl
theorem exm_InvalidRing_InvalidLength (Y : FxY K mg Hd.fa Hd.fn Hd.gs Hd.xs) : PySem.W.exmOne K (.ref (He.ga K "InvalidRing")) (.ref (He.ga K "InvalidLength")) = some false := Y.exm 46 rfl
theorem exm_InvalidRing_InvalidRing (Y : FxY K mg Hd.fa Hd.fn Hd.gs Hd.xs) : PySem.W.exmOne K (.ref (He.ga K "InvalidRing")) (.ref (He.ga K "InvalidRing")) = some true := Y.exm 47 rfl
theorem excC_InvalidLength (Y : FxY K mg Hd.fa Hd.fn Hd.gs Hd.xs) : ExcC K (He.ga K "InvalidLength") := excCB_ok (Y.at' 0 rfl)
theorem kit_InvalidLength_GapError (Y : FxY K mg Hd.fa Hd.fn Hd.gs Hd.xs) : PySem.W.kitOne K (.ref (He.ga K "InvalidLength")) (.ref (He.ga K "GapError")) = some true := kitB'_ok (Y.at' 1 rfl)
theorem excC_InvalidHoles (Y : FxY K mg Hd.fa Hd.fn Hd.gs Hd.xs) : ExcC K (He.ga K "InvalidHoles") := excCB_ok (Y.at' 2 rfl)
theorem kit_InvalidHoles_GapError (Y : FxY K mg Hd.fa Hd.fn Hd.gs Hd.xs) : PySem.W.kitOne K (.ref (He.ga K "InvalidHoles")) (.ref (He.ga K "GapError")) = some true := kitB'_ok (Y.at' 3 rfl)
theorem excC_InvalidRing (Y : FxY K mg Hd.fa Hd.fn Hd.gs Hd.xs) : ExcC K (He.ga K "InvalidRing") := excCB_ok (Y.at' 4 rfl)
theorem kit_InvalidRing_GapError (Y : FxY K mg Hd.fa Hd.fn Hd.gs Hd.xs) : PySem.W.kitOne K (.ref (He.ga K "InvalidRing")) (.ref (He.ga K "GapError")) = some true := kitB'_ok (Y.at' 5 rfl)
end
end Gn

namespace Hd
open PySem PySem.Spec PyProof.Rows L2
abbrev R : PySem.W.OpenRow := PySem.W.OpenLaw.row PySem.Challenge.rw_gapperiods_k01_frames_refused
abbrev hk : PySem.W.Hook := Pv.hookY 5 fa fn gs xs
def ob (s : PySem.W.SharedT) : He.AlD := Pv.obsYG 5 fa fn gs xs (HandSHeadRun.getT s)
theorem ob_eq (s : PySem.W.SharedT) : ob s = hk.obs s.abs := Pv.obsYG_eq (HandSHeadRun.getT_eq s)
set_option maxHeartbeats 0 in
theorem run (w : World) : HandSHeadRun.RunEq R (PySem.W.view R.prog [20]) hk ob 20000 names w := by
  intro os
  kernel_rfl
end Hd

/-! Pf0: drawn things, checks (from Pw2, Pw3, Pw4, Pw7). -/
namespace Gn
open PySem PySem.Spec L2 Pv
open PyProof.Rows hiding St
variable {K : PySem.W.Frag}
theorem okN_nL (k : Nat) (xs : List Nat) : (nL xs).all (okN k) = true := by
  rw [List.all_eq_true]
  intro d hd
  unfold nL at hd
  obtain ⟨y, _, rfl⟩ := List.mem_map.mp hd
  cases k <;> rfl
theorem inD_nL (x : Int) (xs : List Nat) : inD (.int x) (.lst (nL xs)) = some (.bl (decide (∃ y ∈ xs, x = ((y : Nat) : Int)))) := by
  have e : inL5 (.int x) (.lst (nL xs)) = some (.bl (decide (∃ y ∈ xs, x = ((y : Nat) : Int)))) := by
    unfold inL5
    dsimp only
    rw [if_pos ⟨rfl, okN_nL _ xs⟩]
    congr 2
    rw [Bool.eq_iff_iff, List.any_eq_true, decide_eq_true_eq]
    constructor
    · rintro ⟨d, hd, e⟩
      unfold nL at hd
      obtain ⟨y, hy, rfl⟩ := List.mem_map.mp hd
      refine ⟨y, hy, ?_⟩
      have e : ((y : Int) == x) = true := e
      exact (beq_iff_eq.mp e).symm
    · rintro ⟨y, hy, rfl⟩
      exact ⟨.int (y : Int), List.mem_map.mpr ⟨y, hy, rfl⟩, show ((y : Int) == (y : Int)) = true by simp⟩
  unfold inD alt
  rw [e]
theorem inD_nT (x : Int) (xs : List Nat) : inD (.int x) (.tup (nL xs)) = some (.bl (decide (∃ y ∈ xs, x = ((y : Nat) : Int)))) := by
  have e : inT (.int x) (.tup (nL xs)) = some (.bl (decide (∃ y ∈ xs, x = ((y : Nat) : Int)))) := by
    unfold inT
    dsimp only
    rw [if_pos ⟨rfl, by
      rw [List.all_eq_true]
      intro d hd
      unfold nL at hd
      obtain ⟨y, _, rfl⟩ := List.mem_map.mp hd
      rfl⟩]
    congr 2
    rw [Bool.eq_iff_iff, List.any_eq_true, decide_eq_true_eq]
    constructor
    · rintro ⟨d, hd, e⟩
      unfold nL at hd
      obtain ⟨y, hy, rfl⟩ := List.mem_map.mp hd
      refine ⟨y, hy, ?_⟩
      have e : ((y : Int) == x) = true := e
      exact (beq_iff_eq.mp e).symm
    · rintro ⟨y, hy, rfl⟩
      exact ⟨.int (y : Int), List.mem_map.mpr ⟨y, hy, rfl⟩, show ((y : Int) == (y : Int)) = true by simp⟩
  show (match inL5 (.int x) (.tup (nL xs)) with | some z => some z | none => match inT (.int x) (.tup (nL xs)) with | some z => some z | none => _) = _
  rw [show inL5 (.int x) (.tup (nL xs)) = none from rfl, e]
theorem ninD_nL (x : Int) (xs : List Nat) : ninD (.int x) (.lst (nL xs)) = some (.bl (!decide (∃ y ∈ xs, x = ((y : Nat) : Int)))) := by
  unfold ninD; rw [inD_nL]; rfl
theorem ninD_nT (x : Int) (xs : List Nat) : ninD (.int x) (.tup (nL xs)) = some (.bl (!decide (∃ y ∈ xs, x = ((y : Nat) : Int)))) := by
  unfold ninD; rw [inD_nT]; rfl
def cand (n : Nat) (ring : Bool) (c : Int) : Int := if ring = true then c % (n : Int) else c
theorem and_c {f g : ValF} {ρ : Pv.Env} {a b : Bool} (h : f ρ = .ok (.bl a) ρ) (h2 : g ρ = .ok (.bl b) ρ) : andF f g ρ = .ok (.bl (a && b)) ρ := by
  cases a with
  | true => rw [and_t h, h2, Bool.true_and]
  | false => rw [and_f h, Bool.false_and]
theorem cand_adj {n v x p : Nat} {ring : Bool} (hv : v < n) (hx : x < n) : ((x : Int) = cand n ring ((v : Int) - (p : Int)) ∨ (x : Int) = cand n ring ((v : Int) + (p : Int))) ↔ adjB n ring p v x = true := by
  unfold cand adjB
  cases ring with
  | false => simp; omega
  | true =>
    simp only [if_true, Bool.or_eq_true, beq_iff_eq]
    have e1 : (x : Int) = ((v : Int) - (p : Int)) % (n : Int) ↔ (x + p) % n = v := by
      have h1 : ((x : Int) + (p : Int)) % (n : Int) = (((x + p) % n : Nat) : Int) := rfl
      constructor
      · intro h
        have : ((x : Int) + (p : Int)) % (n : Int) = (v : Int) := by
          rw [h, Int.add_emod, Int.emod_emod_of_dvd _ (Int.dvd_refl _), ← Int.add_emod, Int.sub_add_cancel]
          exact Int.emod_eq_of_lt (by omega) (by omega)
        omega
      · intro h
        have h2 : ((x : Int) + (p : Int)) % (n : Int) = (v : Int) := by omega
        rw [← h2, Int.sub_emod, Int.emod_emod_of_dvd _ (Int.dvd_refl _), ← Int.sub_emod, Int.add_sub_cancel]
        exact (Int.emod_eq_of_lt (by omega) (by omega)).symm
    have e2 : (x : Int) = ((v : Int) + (p : Int)) % (n : Int) ↔ (v + p) % n = x := by
      have h1 : ((v : Int) + (p : Int)) % (n : Int) = (((v + p) % n : Nat) : Int) := rfl
      rw [h1]; omega
    rw [e1, e2]
    exact Or.comm
def hl (hs : List Nat) (v : Nat) : Bool := decide (v ∈ hs)
theorem hl_int (hs : List Nat) (w : Nat) : ninD (.int (w : Int)) (.tup (nL hs)) = some (.bl (!hl hs w)) := by
  rw [ninD_nT]
  congr 3
  unfold hl
  rw [decide_eq_decide]
  constructor
  · rintro ⟨y, hy, e⟩
    have : w = y := by omega
    rw [this]; exact hy
  · exact fun h => ⟨w, h, rfl⟩
def Drw (la : Addr) (x : RRes) (Q : D → Prop) : Prop := ∃ d r', x = .rt d r' ∧ Src la r' ∧ Q d
theorem mkR_of {N : Nat} {f : StF} {r : D} {ds : List D} {la : Addr} {Q : D → Prop} (h : Sl (f (envP N (r :: ds))) (fun _ => False) fun d ρ => Q d ∧ ∃ r', ρ[0]? = some (some r') ∧ Src la r') : Drw la (mkR N f r ds) Q := by
  rcases ws_ex h with ⟨ρ, e, q⟩ | ⟨d, ρ, e, q, r', h0, hr⟩
  · exact q.elim
  · refine ⟨d, r', ?_, hr, q⟩
    unfold mkR
    rw [e]; dsimp only; rw [h0]
theorem ws_retB {f : ValF} {ρ : Pv.Env} {la : Addr} {N : Pv.Env → Prop} {R : D → Pv.Env → Prop} (h : Vl (f ρ) fun d ρ1 => (∃ r', ρ1[0]? = some (some r') ∧ Src la r') ∧ R d ρ1) : Sl (retB f ρ) N R := by
  obtain ⟨d, ρ1, e, ⟨r', h0, s, cs, i, rfl, hc⟩, q⟩ := h.q
  unfold retB
  rw [e, out_ok]
  show Sl (keepB (.rt d ρ1)) N R
  unfold keepB
  dsimp only
  rw [h0]; dsimp only
  exact (ws_rt ..).mpr q
theorem wv_call {F : D → List D → RRes} {k : Nat} {fa : ArgF} {ρ : Pv.Env} {la : Addr} {d0 : D} {P : D → Prop} {Q : D → Pv.Env → Prop} (h0 : ρ[k]? = some (some d0)) (h : ∃ ds ρ1 r, fa ρ = .ok ds ρ1 ∧ ρ1[k]? = some (some r) ∧ Src la r ∧ Drw la (F r ds) P ∧ ∀ d r', P d → Src la r' → Q d (ρ1.set k (some r'))) : Vl (callR F k fa ρ) Q := by
  obtain ⟨ds, ρ1, r, ha, hk, hr, ⟨d, r', e, hr', p⟩, q⟩ := h
  exact wv_of (callR_ok h0 ha hk hr e hr') (q d r' p hr')
theorem wv_callL {F : D → List D → RRes} {k : Nat} {fa : ArgF} {ρ ρ1 : Pv.Env} {la : Addr} {r d0 : D} {ds : List D} {P : D → Prop} {Q : D → Pv.Env → Prop} (hr : Src la r) (hF : Drw la (F r ds) P) (q : ∀ d r', P d → Src la r' → Q d (ρ1.set k (some r'))) (ha : fa ρ = .ok ds ρ1 := by rfl) (h0 : ρ[k]? = some (some d0) := by rfl) (hk : ρ1[k]? = some (some r) := by rfl) : Vl (callR F k fa ρ) Q :=
  wv_call h0 ⟨ds, ρ1, r, ha, hk, hr, hF, q⟩
theorem F_law_pick_ok {la : Addr} {r : D} {xs : List D} (hr : Src la r) (h : 0 < xs.length ∧ xs.length < 2 ^ 200) : Drw la (F_law_pick r [.lst xs]) (· ∈ xs) := by
  unfold F_law_pick
  refine mkR_of ?_
  unfold S_law_pick
  refine ws_retB (la := la) ?_
  show Vl (look (envP 2 [r, .lst xs]) 1 fun _ => (callR nextF 0 (aCons (un1 (.s 1) lenD) aNil) (envP 2 [r, .lst xs])).bind fun y ρ1 => look ρ1 1 fun x => ofO (idxD x y) ρ1) _
  rw [look_s (d := .lst xs) rfl]
  refine wv_bind (wv_nx (la := la) (r := r) (cap := xs.length) hr h (fun v r' hv hr' => ?_))
  show Vl (look [some r', some (.lst xs)] 1 _) _
  rw [look_s (d := .lst xs) rfl]
  show Vl (ofO (atI xs (v : Int)) _) _
  rw [Pv.atI_nat (List.getElem?_eq_getElem hv)]
  refine (wv_ok ..).mpr ⟨⟨r', rfl, hr'⟩, List.getElem_mem hv, r', rfl, hr'⟩
theorem asc_len {xs : List Nat} (h : xs.Pairwise (· < ·)) : xs.Pairwise (· < ·) := h
/-- the numbers of a list without equal ones, rising -/
def rise (acc : List Nat) (cap : Nat) : List Nat := (List.range cap).filter fun x => decide (x ∈ acc)
theorem rise_asc (acc : List Nat) (cap : Nat) : (rise acc cap).Pairwise (· < ·) := List.Pairwise.filter _ List.pairwise_lt_range
theorem rise_mem {acc : List Nat} {cap x : Nat} (h : ∀ x ∈ acc, x < cap) : x ∈ rise acc cap ↔ x ∈ acc := by
  unfold rise
  rw [List.mem_filter, List.mem_range, decide_eq_true_eq]
  exact ⟨fun h => h.2, fun m => ⟨h x m, m⟩⟩
theorem rise_len {acc : List Nat} {cap : Nat} (nd : acc.Nodup) (h : ∀ x ∈ acc, x < cap) : (rise acc cap).length = acc.length := by
  have p : (rise acc cap).Perm acc := (List.perm_ext_iff_of_nodup ((rise_asc acc cap).imp fun h => Nat.ne_of_lt h) nd).mpr fun x => rise_mem h
  exact p.length_eq
theorem rise_sort {acc : List Nat} {cap : Nat} (nd : acc.Nodup) (h : ∀ x ∈ acc, x < cap) : sortI (.lst (nL acc)) = some (.lst (nL (rise acc cap))) := by
  rw [nL_ints, sortI_ints, msort_asc (rise_asc acc cap) (List.Pairwise.map _ (fun a b h z => h (by exact Int.ofNat.inj z)) nd) fun y => ?_, ← nL_ints]
  rw [List.mem_map]
  constructor
  · rintro ⟨x, hx, rfl⟩; exact ⟨x, (rise_mem h).mpr hx, rfl⟩
  · rintro ⟨x, hx, rfl⟩; exact ⟨x, (rise_mem h).mp hx, rfl⟩
def RisOk (many cap : Nat) (d : D) : Prop := ∃ ps, d = .tup (nL ps) ∧ ps.Pairwise (· < ·) ∧ (∀ p ∈ ps, p < cap) ∧ ps.length ≤ many ∧ (0 < many → 0 < ps.length)
theorem F_law_rising_ok {la : Addr} {r : D} {many cap : Nat} (hr : Src la r) (hm : many ≤ 1000) (hc : 0 < cap ∧ cap < 2 ^ 200) : Drw la (F_law_rising r [.int (many : Int), .int (cap : Int)]) (RisOk many cap) := by
  unfold F_law_rising
  refine mkR_of ?_
  unfold S_law_rising
  refine ws_seq (ws_skip ?_)
  refine ws_seq (ws_putE (d := .lst (nL [])) ?_ rfl)
  refine ws_seq (ws_for (itR1_ok (j := (many : Int)) rfl (by omega)) (fun i ρ => ∃ acc r o4 o5, Src la r ∧ acc.length ≤ i ∧ (0 < i → 0 < acc.length) ∧ acc.Nodup ∧ (∀ x ∈ acc, x < cap) ∧ ρ = [some r, some (.int (many : Int)), some (.int (cap : Int)), some (.lst (nL acc)), o4, o5]) ⟨[], r, none, none, hr, by simp, by simp, List.nodup_nil, by simp, rfl⟩ (fun i d ρ hd hI => ?_) fun ρ hI => ?_)
  · obtain ⟨hi, rfl⟩ := intsR_get hd
    obtain ⟨acc, r, o4, o5, hr, h1, h2, h3, h4, rfl⟩ := hI
    rw [Int.toNat_natCast] at hi
    refine ⟨_, rfl, ?_⟩
    refine ws_seq (ws_put0 (cap := cap) hr hc fun v r' hv hr' => ?_)
    show Sl (ifS _ _ _ [some r', some (.int (many : Int)), some (.int (cap : Int)), some (.lst (nL acc)), some (.int ((0 : Int) + (i : Int))), some (.int (v : Int))]) _ _
    refine ws_if1 (ss_ok rfl rfl (ninD_nL _ _)) (fun hb => ?_) fun hb => ?_
    · simp only [Bool.not_eq_true', decide_eq_false_iff_not] at hb
      have e3 : appS 3 (var 5) [some r', some (.int (many : Int)), some (.int (cap : Int)), some (.lst (nL acc)), some (.int ((0 : Int) + (i : Int))), some (.int (v : Int))] = .nx [some r', some (.int (many : Int)), some (.int (cap : Int)), some (.lst (nL (acc ++ [v]))), some (.int ((0 : Int) + (i : Int))), some (.int (v : Int))] := by
        show (if (nL acc).length < lim then Out.nx _ else .no) = _
        rw [if_pos (by rw [nL_len, lim_val]; omega)]
        show Out.nx [_, _, _, some (.lst (nL acc ++ [.int (v : Int)])), _, _] = _
        rw [show nL (acc ++ [v]) = nL acc ++ [.int (v : Int)] from List.map_append]
      rw [e3, ws_nx]
      refine ⟨acc ++ [v], r', _, _, hr', by simp; omega, fun _ => by simp, ?_, ?_, rfl⟩
      · rw [List.nodup_append]
        refine ⟨h3, List.nodup_cons.mpr ⟨List.not_mem_nil, List.nodup_nil⟩, fun a ha b hb' z => ?_⟩
        have := List.mem_singleton.mp hb'
        subst this
        subst z
        exact hb ⟨_, ha, rfl⟩
      · intro x hx
        rcases List.mem_append.mp hx with hx | hx
        · exact h4 x hx
        · rw [List.mem_singleton.mp hx]; exact hv
    · simp only [Bool.not_eq_false', decide_eq_true_eq] at hb
      obtain ⟨y, hy, _⟩ := hb
      exact ws_skip ⟨acc, r', _, _, hr', by omega, fun _ => List.length_pos_of_mem hy, h3, h4, rfl⟩
  · obtain ⟨acc, r, o4, o5, hr, h1, h2, h3, h4, rfl⟩ := hI
    rw [intsR_len, Int.toNat_natCast] at h1 h2
    refine ws_retB (la := la) (wv_of (d := .tup (nL (rise acc cap))) (uv_ok (pubF_lst (us_ok rfl (rise_sort h3 h4))) rfl) ⟨⟨r, rfl, hr⟩, ⟨rise acc cap, rfl, rise_asc _ _, fun p hp => h4 p ((rise_mem h4).mp hp), by rw [rise_len h3 h4]; exact h1, fun hp => by rw [rise_len h3 h4]; exact h2 hp⟩, r, rfl, hr⟩)
theorem bls_map {α : Type} (L : List α) (f : α → Bool) : (L.map fun x => D.bl (f x)) = (L.map f).map D.bl := by rw [List.map_map]; rfl
theorem allD_map {α : Type} (L : List α) (f : α → Bool) : allD (.lst (L.map fun x => .bl (f x))) = some (.bl (L.all f)) := by
  unfold allD
  dsimp only
  rw [bls_map, asBls_map]
  show some (D.bl ((L.map f).all id)) = _
  rw [List.all_map]; rfl
theorem anyD_map {α : Type} (L : List α) (f : α → Bool) : anyD (.lst (L.map fun x => .bl (f x))) = some (.bl (L.any f)) := by
  unfold anyD
  dsimp only
  rw [bls_map, asBls_map]
  show some (D.bl ((L.map f).any id)) = _
  rw [List.any_map]; rfl
theorem F_is_integer_ok (i lo hi : Int) : F_is_integer [.int i, .int lo, .int hi] = .rt (.bl (decide (lo ≤ i) && decide (i ≤ hi))) := by
  unfold F_is_integer
  refine mkP_of ?_
  unfold S_is_integer
  refine ws_retE (ρ1 := [some (.int i), some (.int lo), some (.int hi)]) (d := .bl (decide (lo ≤ i) && decide (i ≤ hi))) rfl ?_
  refine (and_t (ρ1 := [some (.int i), some (.int lo), some (.int hi)]) (sv_ok rfl rfl rfl (isi_ii i))).trans ?_
  refine (and_t (ρ1 := [some (.int i), some (.int lo), some (.int hi)]) (not_ok (b := false) (sv_ok rfl rfl rfl (isi_ib i)))).trans ?_
  exact chLe rfl rfl rfl
theorem F_rising_ok {ps : List Nat} {many lo hi : Nat} (h : ps.Pairwise (· < ·)) (hm : ps.length ≤ many) (hl : ps.length ≤ 1000) (hr : ∀ p ∈ ps, lo ≤ p ∧ p ≤ hi) : F_are_rising [.tup (nL ps), .int (many : Int), .int (lo : Int), .int (hi : Int)] = .rt (.bl true) := by
  unfold F_are_rising
  refine mkP_of ?_
  unfold S_are_rising
  have e1 : orF (notF (bin2 (.s 0) (.v (cst (.ty "tuple"))) isiD)) (bin2 (.v (un1 (.s 0) lenD)) (.s 1) gtD) (envP 6 [.tup (nL ps), .int (many : Int), .int (lo : Int), .int (hi : Int)]) = .ok (.bl false) (envP 6 [.tup (nL ps), .int (many : Int), .int (lo : Int), .int (hi : Int)]) := by
    refine (or_f (not_ok (b := true) (sv_ok rfl rfl rfl (isi_tt _)))).trans ?_
    refine vs_ok (us_ok rfl (lenD_tup _)) rfl ?_
    rw [gtD_int, decide_eq_false (by rw [nL_len]; omega)]
  refine ws_seq (ws_if1 e1 (fun z => nomatch z) fun _ => ws_skip ?_)
  have e2 := lcF_mp (i := 4) (ρ := envP 6 [.tup (nL ps), .int (many : Int), .int (lo : Int), .int (hi : Int)]) (ρ1 := envP 6 [.tup (nL ps), .int (many : Int), .int (lo : Int), .int (hi : Int)]) (src := [.tup (nL ps)]) (f := itV (var 0)) (fe := callP F_is_integer (aCons (var 4) (aCons (var 2) (aCons (var 3) aNil)))) (L := ps) nD (fun (x : Nat) => .bl (decide ((lo : Int) ≤ (x : Int)) && decide ((x : Int) ≤ (hi : Int)))) rfl (fun x hx => callP_ok rfl (F_is_integer_ok _ _ _)) (by rw [lim_val]; omega)
  have t2 : (ps.all fun (x : Nat) => (decide ((lo : Int) ≤ (x : Int)) && decide ((x : Int) ≤ (hi : Int)))) = true := by
    rw [List.all_eq_true]
    intro p hp
    have := hr p hp
    simp only [Bool.and_eq_true, decide_eq_true_eq]
    omega
  have e3 := not_ok (b := true) (uv_ok (u := allD) (pubF_lst e2) (by rw [allD_map, t2]))
  refine ws_seq (ws_if1 e3 (fun z => nomatch z) fun _ => ws_skip ?_)
  let get : Nat → Nat := fun j => ps.getD j 0
  have hget : ∀ j, j < ps.length → ps[j]? = some (get j) := fun j hj => by
    show _ = some (ps.getD j 0)
    rw [List.getD_eq_getElem?_getD, List.getElem?_eq_getElem hj]; rfl
  have e4 := lcF_mp (i := 5) (ρ := envP 6 [.tup (nL ps), .int (many : Int), .int (lo : Int), .int (hi : Int)]) (ρ1 := envP 6 [.tup (nL ps), .int (many : Int), .int (lo : Int), .int (hi : Int)]) (src := []) (f := itR2 (aCons (cst (.int 1)) (aCons (un1 (.s 0) lenD) aNil))) (fe := bin2 (.v (bin2 (.s 0) (.v (bin2 (.s 5) (.v (cst (.int 1))) subD)) idxD)) (.v (bin2 (.s 0) (.s 5) idxD)) ltD) (L := List.range (ps.length - 1)) (fun (j : Nat) => .int (1 + (j : Int))) (fun (j : Nat) => .bl (decide ((get j : Int) < (get (j + 1) : Int)))) (by
      rw [itR2_ok (i := 1) (j := (ps.length : Int)) (ρ' := envP 6 [.tup (nL ps), .int (many : Int), .int (lo : Int), .int (hi : Int)]) (aCons_ok (cst_def _ _) (aCons_ok (us_ok rfl (by rw [lenD_tup, nL_len])) (aNil_def _))) (by omega)]
      rw [show ((ps.length : Int) - 1).toNat = ps.length - 1 by omega]
      rfl) (fun j hj => by
      rw [List.mem_range] at hj
      refine vv_ok (sv_ok rfl (sv_ok rfl rfl rfl rfl) rfl ?_) (ss_ok rfl rfl ?_) (ltD_int _ _)
      · show atI (nL ps) (1 + (j : Int) - 1) = _
        rw [show 1 + (j : Int) - 1 = (j : Int) by omega]
        exact Pv.atI_nat (nL_get (hget j (by omega)))
      · show atI (nL ps) (1 + (j : Int)) = _
        rw [show 1 + (j : Int) = ((j + 1 : Nat) : Int) by omega]
        exact Pv.atI_nat (nL_get (hget (j + 1) (by omega)))) (by rw [List.length_range, lim_val]; omega)
  have t4 : ((List.range (ps.length - 1)).all fun j => decide ((get j : Int) < (get (j + 1) : Int))) = true := by
    rw [List.all_eq_true]
    intro j hj
    rw [List.mem_range] at hj
    rw [decide_eq_true_eq]
    have := (List.pairwise_iff_getElem.mp h) j (j + 1) (by omega) (by omega) (by omega)
    have h1 : get j = ps[j] := by
      show ps.getD j 0 = _
      rw [List.getD_eq_getElem?_getD, List.getElem?_eq_getElem (by omega)]; rfl
    have h2 : get (j + 1) = ps[j + 1] := by
      show ps.getD (j + 1) 0 = _
      rw [List.getD_eq_getElem?_getD, List.getElem?_eq_getElem (by omega)]; rfl
    rw [h1, h2]; omega
  refine ws_retE rfl (uv_ok (pubF_lst e4) (by rw [allD_map, t4]))
end Gn

/-! Ra0: checks of any values. -/
namespace Gn
open PySem PySem.Spec L2 Pv
open PyProof.Rows hiding St
variable {K : PySem.W.Frag}
/-- values that are drawn -/
def simp1 : D → Bool
  | .non => true
  | .bl _ => true
  | .int _ => true
  | .str _ => true
  | .lst _ => true
  | .tup _ => true
  | _ => false
def inR (lo hi : Int) : D → Bool
  | .int i => decide (lo ≤ i) && decide (i ≤ hi)
  | _ => false
theorem F_is_integer_any {d : D} (lo hi : Int) (h : simp1 d = true) : F_is_integer [d, .int lo, .int hi] = .rt (.bl (inR lo hi d)) := by
  cases d with
  | int i => exact F_is_integer_ok i lo hi
  | non =>
    unfold F_is_integer
    refine mkP_goN ?_
    unfold S_is_integer
    walk_at "go"
    rfl
  | bl b =>
    unfold F_is_integer
    refine mkP_goN ?_
    unfold S_is_integer
    walk_at "go"
    rfl
  | str b =>
    unfold F_is_integer
    refine mkP_goN ?_
    unfold S_is_integer
    walk_at "go"
    rfl
  | lst b =>
    unfold F_is_integer
    refine mkP_goN ?_
    unfold S_is_integer
    walk_at "go"
    rfl
  | tup b =>
    unfold F_is_integer
    refine mkP_goN ?_
    unfold S_is_integer
    walk_at "go"
    rfl
  | _ => cases h
def ints? : List D → Option (List Int)
  | [] => some []
  | .int i :: r => (ints? r).map (i :: ·)
  | _ :: _ => none
theorem ints_of {lo hi : Int} : ∀ {xs : List D}, xs.all (inR lo hi) = true → ∃ ns : List Int, xs = ns.map D.int
  | [], _ => ⟨[], rfl⟩
  | x :: xs, h => by
    rw [List.all_cons, Bool.and_eq_true] at h
    obtain ⟨ns, rfl⟩ := ints_of h.2
    cases x with
    | int i => exact ⟨i :: ns, rfl⟩
    | _ => cases h.1
/-- each greater than the one before -/
def ups : List D → Bool
  | .int i :: .int j :: r => decide (i < j) && ups (.int j :: r)
  | _ => true
def riseB (many : Nat) (lo hi : Int) : D → Bool
  | .tup xs => decide (xs.length ≤ many) && (xs.all (inR lo hi) && ups xs)
  | _ => false
theorem bls_map' {α : Type} (L : List α) (f : α → Bool) : (L.map fun x => D.bl (f x)) = (L.map f).map D.bl := by rw [List.map_map]; rfl
theorem ups_range : ∀ ns : List Int, ups (ns.map D.int) = (List.range (ns.length - 1)).all fun j => decide (ns.getD j 0 < ns.getD (j + 1) 0)
  | [] => rfl
  | [i] => rfl
  | i :: j :: r => by
    show (decide (i < j) && ups ((j :: r).map D.int)) = _
    rw [ups_range (j :: r)]
    show _ = (List.range (r.length + 1)).all _
    rw [List.range_succ_eq_map, List.all_cons, List.all_map]
    rfl
theorem ixT {ns : List Int} {k : Nat} (h : k < ns.length) : idxD (.tup (ns.map D.int)) (.int (k : Int)) = some (.int (ns.getD k 0)) := by
  rw [idxD_tup]
  refine Pv.atI_nat ?_
  rw [List.getElem?_map, List.getElem?_eq_getElem h, List.getD_eq_getElem?_getD, List.getElem?_eq_getElem h]
  rfl
theorem F_are_rising_any {d : D} {many : Nat} {lo hi : Int} (h : simp1 d = true) (hs : ∀ xs, d = .tup xs → xs.length ≤ 1000 ∧ ∀ x ∈ xs, simp1 x = true) : F_are_rising [d, .int (many : Int), .int lo, .int hi] = .rt (.bl (riseB many lo hi d)) := by
  have l0 := lim_val
  unfold F_are_rising
  refine mkP_goN ?_
  unfold S_are_rising
  cases d with
  | tup xs =>
    obtain ⟨h1, h2⟩ := hs xs rfl
    walk_at "go"
    rw [show decide ((xs.length : Int) > (many : Int)) = !decide (xs.length ≤ many) by rw [Bool.eq_iff_iff]; simp]
    cases hm : decide (xs.length ≤ many) with
    | false =>
      walk_at "go"
      show D.bl false = .bl (decide (xs.length ≤ many) && (xs.all (inR lo hi) && ups xs))
      rw [hm]; rfl
    | true =>
      walk_at "go"
      refine vmapc id (fun x => .bl (inR lo hi x)) xs ?_
      refine iv ?_
      walk_at "go"
      refine ⟨by rw [List.map_id], by omega, ?_⟩
      walk_at "go"
      refine ⟨fun x hx => ?_, ?_⟩
      · walk_at "go"
        refine callo (F_is_integer_any lo hi (h2 x hx)) ?_
        exact same2
      walk_at "go"
      refine ok1 (allD_map _ _) ?_
      cases ha : xs.all (inR lo hi) with
      | false =>
        walk_at "go"
        show D.bl false = .bl (decide (xs.length ≤ many) && (xs.all (inR lo hi) && ups xs))
        rw [hm, ha]; rfl
      | true =>
        obtain ⟨ns, rfl⟩ := ints_of ha
        walk_at "go"
        have hl : (ns.map D.int).length = ns.length := List.length_map ..
        rw [hl] at h1
        refine vmapc nD (fun j => .bl (decide (ns.getD (j - 1) 0 < ns.getD j 0))) ((List.range (ns.length - 1)).map (1 + ·)) ?_
        refine ir2 ?_
        walk_at "go"
        refine ⟨1, ns.length, by rw [hl]; rfl, by omega, by omega, ?_⟩
        walk_at "go"
        refine ⟨rfl, by simp; omega, ?_⟩
        walk_at "go"
        refine ⟨fun j hj => ?_, ?_⟩
        · obtain ⟨k, hk, rfl⟩ := List.mem_map.mp hj
          rw [List.mem_range] at hk
          rw [show nD (1 + k) = .int ((1 + k : Nat) : Int) from rfl]
          walk_at "go"
          refine ok1 (z := .int (ns.getD k 0)) ?_ ?_
          · rw [show ((1 + k : Nat) : Int) - 1 = (k : Int) by omega]
            exact ixT (by omega)
          walk_at "go"
          refine ok1 (ixT (k := 1 + k) (by omega)) ?_
          walk_at "go"
          rw [show 1 + k - 1 = k by omega]
          exact same2
        walk_at "go"
        refine ok1 (allD_map _ _) ?_
        walk_at "go"
        show D.bl _ = .bl (decide ((ns.map D.int).length ≤ many) && ((ns.map D.int).all (inR lo hi) && ups (ns.map D.int)))
        rw [hm, ha, ups_range, List.all_map]
        congr 1
        rw [Bool.true_and, Bool.true_and]
        congr 1
        funext j
        show decide (ns.getD (1 + j - 1) 0 < ns.getD (1 + j) 0) = _
        rw [show 1 + j - 1 = j by omega, Nat.add_comm 1 j]
  | non => walk_at "go"; rfl
  | bl b => walk_at "go"; rfl
  | int b => walk_at "go"; rfl
  | str b => walk_at "go"; rfl
  | lst b => walk_at "go"; rfl
  | _ => cases h
end Gn

/-! Rb0: k01: frames of any values, how they are refused. -/
namespace Gn
open PySem PySem.Spec L2 Pv
open PyProof.Rows hiding St
variable {K : PySem.W.Frag}
section
variable {mg : Str → Option Value}
/-- a value that is drawn, with all its elements -/
structure SimA (d : D) : Prop where
  s : simp1 d = true
  t : ∀ xs, d = .tup xs → xs.length ≤ 1000 ∧ ∀ x ∈ xs, simp1 x = true ∧ okN 5 x = true
def isBl : D → Bool
  | .bl _ => true
  | _ => false
def hiOf : D → Int
  | .int n => n - 1
  | _ => 0
def flt (l h r : D) : Nat := if inR 1 1000000000000000000000000000000 l = false then 1 else if riseB 6 0 (hiOf l) h = false then 2 else if isBl r = false then 3 else 0
def fltD : Nat → D
  | 1 => .str [108, 101, 110, 103, 116, 104]
  | 2 => .str [104, 111, 108, 101, 115]
  | 3 => .str [114, 105, 110, 103]
  | _ => .non
def fltE : Nat → Str
  | 1 => "InvalidLength"
  | 2 => "InvalidHoles"
  | _ => "InvalidRing"
def fr3 (C : Addr) (l h r : D) : D := .ins C [("size", l), ("gaps", h), ("closed", r)]
def isT (d : D) : Bool := match d with
  | .tup _ => true
  | _ => false
theorem isi_tup {d : D} (h : simp1 d = true) : isiD d (.ty "tuple") = some (.bl (isT d)) := by
  cases d <;> first | rfl | cases h
theorem isi_bool {d : D} (h : simp1 d = true) : isiD d (.ty "bool") = some (.bl (isBl d)) := by
  cases d <;> first | rfl | cases h
theorem inR_int {lo hi : Int} {d : D} (h : inR lo hi d = true) : ∃ i, d = .int i ∧ lo ≤ i ∧ i ≤ hi := by
  cases d with
  | int i =>
    unfold inR at h
    rw [Bool.and_eq_true, decide_eq_true_eq, decide_eq_true_eq] at h
    exact ⟨i, rfl, h⟩
  | _ => cases h
theorem isBl_bl {d : D} (h : isBl d = true) : ∃ b, d = .bl b := by
  cases d with
  | bl b => exact ⟨b, rfl⟩
  | _ => cases h
theorem init_flt {C : Addr} {l h r : D} (hC : C = He.ga K "Frame") (hl : SimA l) (hh : SimA h) (hr : SimA r) :
    (F_Frame___init__ K) (.ins C []) [l, h, r] = if flt l h r = 0 then .rt (fr3 C l h r) else .ex ⟨He.ga K (fltE (flt l h r)), none⟩ := by
  subst hC
  have e1 := F_is_integer_any 1 1000000000000000000000000000000 hl.s
  cases h1 : inR 1 1000000000000000000000000000000 l with
  | false =>
    have ef : flt l h r = 1 := by unfold flt; rw [if_pos h1]
    rw [ef, if_neg (by decide)]
    rw [h1] at e1
    unfold F_Frame___init__
    refine mkI_goX ?_
    unfold S_Frame___init__
    walk_at "gf"
    refine xseq1 (xif ?_)
    walk_at "gf"
    refine callo e1 ?_
    walk_at "gf"
    exact xraise
  | true =>
    rw [h1] at e1
    obtain ⟨n, rfl, hn1, hn2⟩ := inR_int h1
    have e2 := F_are_rising_any (many := 6) (lo := 0) (hi := n - 1) hh.s fun xs e => ⟨(hh.t xs e).1, fun x hx => ((hh.t xs e).2 x hx).1⟩
    cases h2 : riseB 6 0 (n - 1) h with
    | false =>
      have ef : flt (.int n) h r = 2 := by unfold flt; rw [if_neg (by rw [h1]; exact fun z => nomatch z), if_pos (show riseB 6 0 (hiOf (.int n)) h = false from h2)]
      rw [ef, if_neg (by decide)]
      rw [h2] at e2
      unfold F_Frame___init__
      refine mkI_goX ?_
      unfold S_Frame___init__
      walk_at "gf"
      refine xseq ?_
      walk_at "gf"
      refine callo e1 ?_
      walk_at "gf"
      refine xseq1 (xif ?_)
      walk_at "gf"
      refine callo e2 ?_
      walk_at "gf"
      exact xraise
    | true =>
      rw [h2] at e2
      cases h3 : isBl r with
      | false =>
        have ef : flt (.int n) h r = 3 := by unfold flt; rw [if_neg (by rw [h1]; exact fun z => nomatch z), if_neg (by show ¬ riseB 6 0 (n - 1) h = false; rw [h2]; exact fun z => nomatch z), if_pos h3]
        rw [ef, if_neg (by decide)]
        unfold F_Frame___init__
        refine mkI_goX ?_
        unfold S_Frame___init__
        walk_at "gf"
        refine xseq ?_
        walk_at "gf"
        refine callo e1 ?_
        walk_at "gf"
        refine xseq ?_
        walk_at "gf"
        refine callo e2 ?_
        walk_at "gf"
        refine xseq1 (xif ?_)
        walk_at "gf"
        refine ok1 (isi_bool hr.s) ?_
        rw [h3]
        walk_at "gf"
        exact xraise
      | true =>
        have ef : flt (.int n) h r = 0 := by unfold flt; rw [if_neg (by rw [h1]; exact fun z => nomatch z), if_neg (by show ¬ riseB 6 0 (n - 1) h = false; rw [h2]; exact fun z => nomatch z), if_neg (by rw [h3]; exact fun z => nomatch z)]
        rw [ef, if_pos rfl]
        unfold F_Frame___init__
        refine mkI_go ?_
        unfold S_Frame___init__
        walk_at "gf"
        refine callo e1 ?_
        walk_at "gf"
        refine callo e2 ?_
        walk_at "gf"
        refine ok1 (isi_bool hr.s) ?_
        rw [h3]
        walk_at "gf"
        refine ssetA (vvar ?_)
        walk_at "gf"
        refine ⟨[], rfl, by decide, ?_⟩
        rw [put_s]
        walk_at "gf"
        refine ssetA (vvar ?_)
        walk_at "gf"
        refine ⟨_, rfl, by show _ + 1 < 900; exact Nat.lt_of_succ_le (Nat.le_of_ble_eq_true rfl), ?_⟩
        rw [put_g]
        walk_at "gf"
        refine ssetA (vvar ?_)
        walk_at "gf"
        refine ⟨_, rfl, by show _ + 1 < 900; exact Nat.lt_of_succ_le (Nat.le_of_ble_eq_true rfl), ?_⟩
        rw [put_c]
        walk_at "gf"
        rfl
/-- a frame that stands -/
structure Good (l h r : D) (n : Nat) (hs : List Nat) (b : Bool) : Prop where
  l : l = .int (n : Int)
  h : h = .tup (nL hs)
  r : r = .bl b
  n1 : 1 ≤ n
  n2 : n ≤ 1000000000000000000000000000000
  hl : hs.length ≤ 6
  asc : hs.Pairwise (· < ·)
  lt : ∀ x ∈ hs, x < n
theorem nats_of {ns : List Int} (h : ∀ x ∈ ns, 0 ≤ x) : ns.map D.int = nL (ns.map Int.toNat) := by
  unfold nL
  rw [List.map_map]
  refine List.map_congr_left fun x hx => ?_
  show D.int x = .int ((x.toNat : Nat) : Int)
  rw [Int.toNat_of_nonneg (h x hx)]
theorem ups_pw : ∀ {ns : List Int}, ups (ns.map D.int) = true → ns.Pairwise (· < ·)
  | [], _ => List.Pairwise.nil
  | [i], _ => List.pairwise_singleton ..
  | i :: j :: r, h => by
    have h : (decide (i < j) && ups ((j :: r).map D.int)) = true := h
    rw [Bool.and_eq_true, decide_eq_true_eq] at h
    have ih := ups_pw h.2
    refine List.pairwise_cons.mpr ⟨fun x hx => ?_, ih⟩
    rcases List.mem_cons.mp hx with rfl | hx
    · exact h.1
    · exact Int.lt_trans h.1 ((List.pairwise_cons.mp ih).1 x hx)
theorem pw_ups : ∀ {ns : List Int}, ns.Pairwise (· < ·) → ups (ns.map D.int) = true
  | [], _ => rfl
  | [i], _ => rfl
  | i :: j :: r, h => by
    show (decide (i < j) && ups ((j :: r).map D.int)) = true
    obtain ⟨h1, h2⟩ := List.pairwise_cons.mp h
    rw [pw_ups h2, decide_eq_true (h1 j List.mem_cons_self)]; rfl
theorem good_of {l h r : D} (e : flt l h r = 0) : ∃ n hs b, Good l h r n hs b := by
  unfold flt at e
  by_cases h1 : inR 1 1000000000000000000000000000000 l = false
  · rw [if_pos h1] at e; cases e
  rw [if_neg h1] at e
  by_cases h2 : riseB 6 0 (hiOf l) h = false
  · rw [if_pos h2] at e; cases e
  rw [if_neg h2] at e
  by_cases h3 : isBl r = false
  · rw [if_pos h3] at e; cases e
  rw [Bool.not_eq_false] at h1 h2 h3
  obtain ⟨n, rfl, hn1, hn2⟩ := inR_int h1
  obtain ⟨b, rfl⟩ := isBl_bl h3
  cases h with
  | tup xs =>
    have h2 : (decide (xs.length ≤ 6) && (xs.all (inR 0 (n - 1)) && ups xs)) = true := h2
    rw [Bool.and_eq_true, Bool.and_eq_true, decide_eq_true_eq] at h2
    obtain ⟨a1, a2, a3⟩ := h2
    obtain ⟨ns, rfl⟩ := ints_of a2
    have a4 : ∀ x ∈ ns, 0 ≤ x ∧ x ≤ n - 1 := fun x hx => by
      have := List.all_eq_true.mp a2 (.int x) (List.mem_map.mpr ⟨x, hx, rfl⟩)
      have : (decide (0 ≤ x) && decide (x ≤ n - 1)) = true := this
      rwa [Bool.and_eq_true, decide_eq_true_eq, decide_eq_true_eq] at this
    have a5 := ups_pw a3
    refine ⟨n.toNat, ns.map Int.toNat, b, ⟨by rw [Int.toNat_of_nonneg (by omega)], by rw [nats_of fun x hx => (a4 x hx).1], rfl, by omega, by omega, by rw [List.length_map] at a1 ⊢; exact a1, ?_, ?_⟩⟩
    · rw [List.pairwise_map]
      refine List.Pairwise.imp_of_mem (R := (· < ·)) (fun {a b} ha hb h => ?_) a5
      have := (a4 a ha).1
      have := (a4 b hb).1
      omega
    · intro x hx
      obtain ⟨y, hy, rfl⟩ := List.mem_map.mp hx
      have := a4 y hy
      omega
  | _ => cases h2
theorem flt_good {n : Nat} {hs : List Nat} {b : Bool} (h1 : 1 ≤ n ∧ n ≤ 1000000000000000000000000000000) (h2 : hs.length ≤ 6) (h3 : hs.Pairwise (· < ·)) (h4 : ∀ x ∈ hs, x < n) : flt (.int (n : Int)) (.tup (nL hs)) (.bl b) = 0 := by
  have a1 : inR 1 1000000000000000000000000000000 (.int (n : Int)) = true := by
    show (decide ((1 : Int) ≤ (n : Int)) && decide ((n : Int) ≤ 1000000000000000000000000000000)) = true
    rw [Bool.and_eq_true, decide_eq_true_eq, decide_eq_true_eq]; omega
  have a2 : riseB 6 0 (hiOf (.int (n : Int))) (.tup (nL hs)) = true := by
    show (decide ((nL hs).length ≤ 6) && ((nL hs).all (inR 0 ((n : Int) - 1)) && ups (nL hs))) = true
    have e : nL hs = (hs.map Int.ofNat).map D.int := by unfold nL; rw [List.map_map]; rfl
    rw [Bool.and_eq_true, Bool.and_eq_true, decide_eq_true_eq, nL_len]
    refine ⟨h2, ?_, ?_⟩
    · rw [List.all_eq_true]
      intro d hd
      unfold nL at hd
      obtain ⟨x, hx, rfl⟩ := List.mem_map.mp hd
      show (decide ((0 : Int) ≤ (x : Int)) && decide ((x : Int) ≤ (n : Int) - 1)) = true
      have := h4 x hx
      rw [Bool.and_eq_true, decide_eq_true_eq, decide_eq_true_eq]; omega
    · rw [e]
      refine pw_ups ?_
      rw [List.pairwise_map]
      exact h3.imp fun h => Int.ofNat_lt.mpr h
  unfold flt
  rw [if_neg (by rw [a1]; exact fun z => nomatch z), if_neg (by rw [a2]; exact fun z => nomatch z), if_neg (by exact fun z => nomatch z)]
/-! == -/
theorem all2_nL (k : Nat) : ∀ (a b : List Nat), all2 (eqN k) (nL a) (nL b) = (a == b)
  | [], [] => rfl
  | [], _ :: _ => rfl
  | _ :: _, [] => rfl
  | a :: as, b :: bs => by
    show (eqN k (.int (a : Int)) (.int (b : Int)) && all2 (eqN k) (nL as) (nL bs)) = _
    rw [all2_nL k as bs]
    have : eqN k (.int (a : Int)) (.int (b : Int)) = (a == b) := by
      have e : eqN k (.int (a : Int)) (.int (b : Int)) = ((a : Int) == (b : Int)) := by cases k <;> rfl
      rw [e, Bool.eq_iff_iff, beq_iff_eq, beq_iff_eq]; omega
    rw [this]; rfl
theorem okN_nT (k : Nat) (l : List Nat) : okN (k + 1) (.tup (nL l)) = true := okN_nL k l
theorem eqO_nT (a b : List Nat) : eqO (.tup (nL a)) (.tup (nL b)) = some (.bl (a == b)) := eqO_of (okN_nT _ a) (okN_nT _ b) (all2_nL _ a b)
theorem F_eq_fr {C : Addr} {n m : Nat} {hs gs : List Nat} {b c : Bool} (hC : C = He.ga K "Frame") : (F_Frame___eq__ K) [frm C n hs b, frm C m gs c] = .rt (.bl (((n : Int) == (m : Int)) && ((hs == gs) && (b == c)))) := by
  subst hC
  unfold F_Frame___eq__
  refine mkP_goN ?_
  unfold S_Frame___eq__
  walk_at "gf"
  refine ok1 isiC_self ?_
  walk_at "gf"
  cases h1 : ((n : Int) == (m : Int)) with
  | false => walk_at "gf"; rfl
  | true =>
    walk_at "gf"
    refine ok1 (eqO_nT hs gs) ?_
    cases h2 : (hs == gs) with
    | false => walk_at "gf"; rfl
    | true => walk_at "gf"; rfl
theorem F_eq_tup {C : Addr} {n : Nat} {hs : List Nat} {b : Bool} {xs : List D} : (F_Frame___eq__ K) [frm C n hs b, .tup xs] = .rt (.bl false) := by
  unfold F_Frame___eq__
  refine mkP_goN ?_
  unfold S_Frame___eq__
  walk_at "gf"
  refine ok1 (z := .bl false) rfl ?_
  walk_at "gf"
  rfl
theorem F_len_fr {C : Addr} {n : Nat} {hs : List Nat} {b : Bool} (hC : C = He.ga K "Frame") : (F_Frame___len__ K) [frm C n hs b] = .rt (.int (hs.length : Int)) := by
  subst hC
  unfold F_Frame___len__
  refine mkP_goN ?_
  unfold S_Frame___len__
  walk_at "gf"
  rw [nL_len]
theorem F_p_length {C : Addr} {n : Nat} {hs : List Nat} {b : Bool} (hC : C = He.ga K "Frame") : (F_Frame_length K) [frm C n hs b] = .rt (.int (n : Int)) := by
  subst hC
  unfold F_Frame_length
  refine mkP_goN ?_
  unfold S_Frame_length
  walk_at "gf"
  rfl
theorem F_p_holes {C : Addr} {n : Nat} {hs : List Nat} {b : Bool} (hC : C = He.ga K "Frame") : (F_Frame_holes K) [frm C n hs b] = .rt (.tup (nL hs)) := by
  subst hC
  unfold F_Frame_holes
  refine mkP_goN ?_
  unfold S_Frame_holes
  walk_at "gf"
  rfl
theorem F_p_ring {C : Addr} {n : Nat} {hs : List Nat} {b : Bool} (hC : C = He.ga K "Frame") : (F_Frame_ring K) [frm C n hs b] = .rt (.bl b) := by
  subst hC
  unfold F_Frame_ring
  refine mkP_goN ?_
  unfold S_Frame_ring
  walk_at "gf"
  rfl
end
end Gn

/-! Rb1: k01: the law's own fault, what is tried. -/
namespace Gn
open PySem PySem.Spec L2 Pv
open PyProof.Rows hiding St
variable {K : PySem.W.Frag}
section
variable {mg : Str → Option Value}
theorem isi_int {d : D} (h : simp1 d = true) : ∃ b, isiD d (.ty "int") = some (.bl b) ∧ (b = false → ∀ lo hi, inR lo hi d = false) ∧ (b = true → isBl d = false → ∃ i, d = .int i) := by
  cases d with
  | int i => exact ⟨true, rfl, (fun z => nomatch z), fun _ _ => ⟨i, rfl⟩⟩
  | bl b => exact ⟨true, rfl, (fun z => nomatch z), fun _ z => nomatch z⟩
  | non => exact ⟨false, rfl, (fun _ _ _ => rfl), fun z => nomatch z⟩
  | str _ => exact ⟨false, rfl, (fun _ _ _ => rfl), fun z => nomatch z⟩
  | lst _ => exact ⟨false, rfl, (fun _ _ _ => rfl), fun z => nomatch z⟩
  | tup _ => exact ⟨false, rfl, (fun _ _ _ => rfl), fun z => nomatch z⟩
  | _ => cases h
theorem F_law_whole_any {d : D} (lo hi : Int) (h : simp1 d = true) : F_law_whole [d, .int lo, .int hi] = .rt (.bl (inR lo hi d)) := F_is_integer_any lo hi h
theorem nl_of {α : Type} (c : α → D) (l : List α) (h : ∀ x ∈ l, okN 5 (c x) = true) : neO (.lst (l.map c)) (.lst []) = some (.bl (!l.isEmpty)) := by
  refine neO_of ?_ rfl ?_
  · show (l.map c).all (okN 5) = true
    rw [List.all_eq_true]
    intro d hd
    obtain ⟨x, hx, rfl⟩ := List.mem_map.mp hd
    exact h x hx
  · cases l <;> rfl
theorem fil_e {α : Type} (p : α → Bool) (l : List α) : (l.filter fun x => !p x).isEmpty = l.all p := by
  induction l with
  | nil => rfl
  | cons x l ih =>
    rw [List.filter_cons, List.all_cons]
    cases h : p x with
    | true =>
      rw [if_neg (by exact fun z => nomatch z), ih, Bool.true_and]
    | false => rw [if_pos (by rfl)]; rfl
theorem pow30 : powD (.int 10) (.int 30) = some (.int 1000000000000000000000000000000) := by
  unfold powD; dsimp only
  rw [if_pos (cdec_true ⟨by decide, by decide, by decide⟩)]
  exact congrArg (fun z => some (D.int z)) (by decide +kernel)
theorem F_fault {l h r : D} (hl : SimA l) (hh : SimA h) (hr : SimA r) : F_law_fault [l, h, r] = .rt (fltD (flt l h r)) := by
  have l0 := lim_val
  have e1 := F_law_whole_any 1 1000000000000000000000000000000 hl.s
  unfold F_law_fault
  refine mkP_goN ?_
  unfold S_law_fault
  walk_at "gf"
  refine ok1 pow30 ?_
  walk_at "gf"
  refine callo e1 ?_
  cases h1 : inR 1 1000000000000000000000000000000 l with
  | false =>
    have ef : flt l h r = 1 := by unfold flt; rw [if_pos h1]
    walk_at "gf"
    rw [ef]; rfl
  | true =>
    obtain ⟨n, rfl, hn1, hn2⟩ := inR_int h1
    have f1 : ¬ inR 1 1000000000000000000000000000000 (.int n) = false := by rw [h1]; exact fun z => nomatch z
    have f2 : riseB 6 0 (n - 1) h = false → D.str [104, 111, 108, 101, 115] = fltD (flt (.int n) h r) := fun z => by
      unfold flt
      rw [if_neg f1, if_pos (show riseB 6 0 (hiOf (.int n)) h = false from z)]; rfl
    walk_at "gf"
    refine ok1 (isi_tup hh.s) ?_
    cases h with
    | tup xs =>
      obtain ⟨t1, t2⟩ := hh.t xs rfl
      rw [show isT (.tup xs) = true from rfl]
      walk_at "gf"
      have rb : riseB 6 0 (n - 1) (.tup xs) = (decide (xs.length ≤ 6) && (xs.all (inR 0 (n - 1)) && ups xs)) := rfl
      rw [show decide ((xs.length : Int) > 6) = !decide (xs.length ≤ 6) by rw [Bool.eq_iff_iff]; simp; omega]
      cases c1 : decide (xs.length ≤ 6) with
      | false =>
        walk_at "gf"
        exact f2 (by rw [rb, c1]; rfl)
      | true =>
        walk_at "gf"
        refine vselc id (fun x => !inR 0 (n - 1) x) xs ?_
        refine iv ?_
        walk_at "gf"
        refine ⟨by rw [List.map_id], by omega, ?_⟩
        walk_at "gf"
        refine ⟨fun x hx => ?_, ?_⟩
        · walk_at "gf"
          refine callo (F_law_whole_any 0 (n - 1) (t2 x hx).1) ?_
          walk_at "gf"
          exact same2
        walk_at "gf"
        refine ok1 (nl_of id _ fun x hx => (t2 x (List.mem_filter.mp hx).1).2) ?_
        rw [fil_e]
        cases c2 : xs.all (inR 0 (n - 1)) with
        | false =>
          walk_at "gf"
          exact f2 (by rw [rb, c1, c2]; rfl)
        | true =>
          obtain ⟨ns, rfl⟩ := ints_of c2
          walk_at "gf"
          have hlen : (ns.map D.int).length = ns.length := List.length_map ..
          rw [hlen] at t1
          refine vselc nD (fun j => !decide (ns.getD (j - 1) 0 < ns.getD j 0)) ((List.range (ns.length - 1)).map (1 + ·)) ?_
          refine ir2 ?_
          walk_at "gf"
          refine ⟨1, ns.length, by rw [hlen]; rfl, by omega, by omega, ?_⟩
          walk_at "gf"
          refine ⟨rfl, by simp; omega, ?_⟩
          walk_at "gf"
          refine ⟨fun j hj => ?_, ?_⟩
          · obtain ⟨k, hk, rfl⟩ := List.mem_map.mp hj
            rw [List.mem_range] at hk
            rw [show nD (1 + k) = .int ((1 + k : Nat) : Int) from rfl]
            walk_at "gf"
            refine ok1 (z := .int (ns.getD k 0)) ?_ ?_
            · rw [show ((1 + k : Nat) : Int) - 1 = (k : Int) by omega]
              exact ixT (by omega)
            walk_at "gf"
            refine ok1 (ixT (k := 1 + k) (by omega)) ?_
            walk_at "gf"
            rw [show 1 + k - 1 = k by omega, show decide (ns.getD k 0 ≥ ns.getD (1 + k) 0) = !decide (ns.getD k 0 < ns.getD (1 + k) 0) by rw [Bool.eq_iff_iff]; simp]
            exact same2
          walk_at "gf"
          refine ok1 (nl_of nD _ fun x hx => rfl) ?_
          rw [fil_e, List.all_map]
          have e4 : ((List.range (ns.length - 1)).all ((fun j => decide (ns.getD (j - 1) 0 < ns.getD j 0)) ∘ (1 + ·))) = ups (ns.map D.int) := by
            rw [ups_range]
            congr 1
            funext j
            show decide (ns.getD (1 + j - 1) 0 < ns.getD (1 + j) 0) = _
            rw [show 1 + j - 1 = j by omega, Nat.add_comm 1 j]
          rw [e4]
          cases c3 : ups (ns.map D.int) with
          | false =>
            walk_at "gf"
            exact f2 (by rw [rb, c1, c2, c3]; rfl)
          | true =>
            have f3 : ¬ riseB 6 0 (hiOf (.int n)) (.tup (ns.map D.int)) = false := by
              show ¬ riseB 6 0 (n - 1) (.tup (ns.map D.int)) = false
              rw [rb, c1, c2, c3]; exact fun z => nomatch z
            walk_at "gf"
            refine ok1 (isi_bool hr.s) ?_
            cases c4 : isBl r with
            | true =>
              walk_at "gf"
              unfold flt
              rw [if_neg f1, if_neg f3, if_neg (by rw [c4]; exact fun z => nomatch z)]; rfl
            | false =>
              walk_at "gf"
              unfold flt
              rw [if_neg f1, if_neg f3, if_pos c4]; rfl
    | non =>
      rw [show isT _ = false from rfl]
      walk_at "gf"
      exact f2 rfl
    | bl _ =>
      rw [show isT _ = false from rfl]
      walk_at "gf"
      exact f2 rfl
    | int _ =>
      rw [show isT _ = false from rfl]
      walk_at "gf"
      exact f2 rfl
    | str _ =>
      rw [show isT _ = false from rfl]
      walk_at "gf"
      exact f2 rfl
    | lst _ =>
      rw [show isT _ = false from rfl]
      walk_at "gf"
      exact f2 rfl
    | _ => cases hh.s
theorem flt_cases (l h r : D) : flt l h r = 0 ∨ flt l h r = 1 ∨ flt l h r = 2 ∨ flt l h r = 3 := by
  unfold flt
  repeat (first | split | simp)
theorem F_tried (Y : FxY K mg Hd.fa Hd.fn Hd.gs Hd.xs) {l h r : D} (hl : SimA l) (hh : SimA h) (hr : SimA r) : (F_law_tried K) [l, h, r] = .rt (if flt l h r = 0 then fr3 (He.ga K "Frame") l h r else fltD (flt l h r)) := by
  have e1 := init_flt (C := He.ga K "Frame") rfl hl hh hr
  unfold F_law_tried
  refine mkP_goN ?_
  unfold S_law_tried
  generalize F_Frame___init__ K = G0 at *
  walk_at "gf"
  rcases flt_cases l h r with e | e | e | e
  · rw [e, if_pos rfl] at e1
    rw [e, if_pos rfl]
    refine stryA ?_
    walk_at "gf"
    refine calli e1 ?_
    walk_at "gf"
    rfl
  · rw [e, if_neg (by decide)] at e1
    rw [e, if_neg (by decide)]
    refine stryA_ex (ρ2 := [none, none, none, some (fltD 1), none]) (xmakL (by walk_at "gf"; exact ⟨e1, rfl⟩)) (pick_1 (exm_InvalidLength_InvalidLength Y)) (fun a => ?_) ?_
    · dsimp only [List.length, List.replicate, List.set]
      walk_at "gf"
      refine visE (excC_InvalidLength Y) (kit_InvalidLength_GapError Y) ?_
      walk_at "gf"
      refine ⟨rfl, ?_⟩
      walk_at "gf"
      rfl
    · walk_at "gf"
      rfl
  · rw [e, if_neg (by decide)] at e1
    rw [e, if_neg (by decide)]
    refine stryA_ex (ρ2 := [none, none, none, some (fltD 2), none]) (xmakL (by walk_at "gf"; exact ⟨e1, rfl⟩)) (pick_n (exm_InvalidHoles_InvalidLength Y) (pick_1 (exm_InvalidHoles_InvalidHoles Y))) (fun a => ?_) ?_
    · dsimp only [List.length, List.replicate, List.set]
      walk_at "gf"
      refine visE (excC_InvalidHoles Y) (kit_InvalidHoles_GapError Y) ?_
      walk_at "gf"
      refine ⟨rfl, ?_⟩
      walk_at "gf"
      rfl
    · walk_at "gf"
      rfl
  · rw [e, if_neg (by decide)] at e1
    rw [e, if_neg (by decide)]
    refine stryA_ex (ρ2 := [none, none, none, some (fltD 3), none]) (xmakL (by walk_at "gf"; exact ⟨e1, rfl⟩)) (pick_n (exm_InvalidRing_InvalidLength Y) (pick_n (exm_InvalidRing_InvalidHoles Y) (pick_1 (exm_InvalidRing_InvalidRing Y)))) (fun a => ?_) ?_
    · dsimp only [List.length, List.replicate, List.set]
      walk_at "gf"
      refine visE (excC_InvalidRing Y) (kit_InvalidRing_GapError Y) ?_
      walk_at "gf"
      refine ⟨rfl, ?_⟩
      walk_at "gf"
      rfl
    · walk_at "gf"
      rfl
end
end Gn

namespace Gn
open PySem PySem.Spec L2 Pv
open PyProof.Rows hiding St
variable {K : PySem.W.Frag}
theorem FA_leaf {n : Nat} {x : D} (h1 : isiT "tuple" "list" x = some (.bl false)) (hs : ∃ b, isiD x (.ty "str") = some (.bl b) ∧ ((isNon x || b) = true ∧ eqO x x = some (.bl true) ∨ (isNon x || b) = false ∧ eqO x x = some (.bl true) ∧ isiD x (.ty "int") = some (.bl true) ∧ ∃ c, isiD x (.ty "bool") = some (.bl c))) : FA (n + 1) [x, x] = .rt (.bl true) := by
  obtain ⟨b, h2, h3⟩ := hs
  unfold FA
  refine mkP_of ?_
  unfold S_law_alike
  have e0 : un1 (.s 1) (isiT "tuple" "list") (envP 3 [x, x]) = .ok (.bl false) (envP 3 [x, x]) := by
    show ofO (isiT "tuple" "list" x) _ = _
    rw [h1]; rfl
  refine ws_seq (ws_if1 e0 (fun z => nomatch z) fun _ => ws_skip ?_)
  have s0 : bin2 (.s 0) (.v (cst (.ty "str"))) isiD (envP 3 [x, x]) = .ok (.bl b) (envP 3 [x, x]) := sv_ok rfl (cst_def _ _) rfl h2
  have s1 : bin2 (.s 1) (.v (cst (.ty "str"))) isiD (envP 3 [x, x]) = .ok (.bl b) (envP 3 [x, x]) := sv_ok rfl (cst_def _ _) rfl h2
  have n1 : bin2 (.s 1) (.v (cst .non)) isD (envP 3 [x, x]) = .ok (.bl (isNon x)) (envP 3 [x, x]) := sv_ok rfl (cst_def _ _) rfl (isD_non x)
  have e1 : orF (bin2 (.s 1) (.v (cst .non)) isD) (bin2 (.s 1) (.v (cst (.ty "str"))) isiD) (envP 3 [x, x]) = .ok (.bl (isNon x || b)) (envP 3 [x, x]) := by
    cases e : isNon x with
    | true => rw [e] at n1; exact or_t n1
    | false => rw [e] at n1; rw [or_f n1]; exact s1
  have e2 : eqO x x = some (.bl true) → andF (bin2 (.s 0) (.s 1) eqO) (bin2 (.v (bin2 (.s 0) (.v (cst (.ty "str"))) isiD)) (.v (bin2 (.s 1) (.v (cst (.ty "str"))) isiD)) eqO) (envP 3 [x, x]) = .ok (.bl true) (envP 3 [x, x]) := fun h => by
    rw [and_t (ss_ok (i := 0) (j := 1) rfl rfl h)]
    exact vv_ok s0 s1 (by rw [eqO_bl]; cases b <;> rfl)
  rcases h3 with ⟨hb, he⟩ | ⟨hb, he, hi, c, hc⟩
  · rw [hb] at e1
    exact ws_seq (ws_if1 e1 (fun _ => ws_retE rfl (e2 he)) fun z => nomatch z)
  · rw [hb] at e1
    refine ws_seq (ws_if1 e1 (fun z => nomatch z) fun _ => ws_skip ?_)
    refine ws_retE (ρ1 := envP 3 [x, x]) (d := .bl true) rfl ?_
    have i0 : bin2 (.s 0) (.v (cst (.ty "int"))) isiD (envP 3 [x, x]) = .ok (.bl true) (envP 3 [x, x]) := sv_ok rfl (cst_def _ _) rfl hi
    have b0 : bin2 (.s 0) (.v (cst (.ty "bool"))) isiD (envP 3 [x, x]) = .ok (.bl c) (envP 3 [x, x]) := sv_ok rfl (cst_def _ _) rfl hc
    have b1 : bin2 (.s 1) (.v (cst (.ty "bool"))) isiD (envP 3 [x, x]) = .ok (.bl c) (envP 3 [x, x]) := sv_ok rfl (cst_def _ _) rfl hc
    rw [and_t i0, and_t (vv_ok (z := .bl true) b0 b1 (by rw [eqO_bl]; cases c <;> rfl))]
    exact ss_ok rfl rfl he
theorem FA_seq {n : Nat} {x : D} {xs : List D} {bl : Bool} (h1 : isiT "tuple" "list" x = some (.bl true)) (h2 : isiD x (.ty "list") = some (.bl bl)) (hlen : lenD x = some (.int xs.length)) (hix : ∀ i : Int, idxD x (.int i) = atI xs i) (hl : xs.length ≤ lim) (ih : ∀ y ∈ xs, FA n [y, y] = .rt (.bl true)) : FA (n + 1) [x, x] = .rt (.bl true) := by
  unfold FA
  refine mkP_of ?_
  unfold S_law_alike
  have e0 : un1 (.s 1) (isiT "tuple" "list") (envP 3 [x, x]) = .ok (.bl true) (envP 3 [x, x]) := by
    show ofO (isiT "tuple" "list" x) _ = _
    rw [h1]; rfl
  refine ws_seq (ws_if1 e0 (fun _ => ?_) fun z => nomatch z)
  have e1 : orF (notF (un1 (.s 0) (isiT "tuple" "list"))) (bin2 (.v (bin2 (.s 0) (.v (cst (.ty "list"))) isiD)) (.v (bin2 (.s 1) (.v (cst (.ty "list"))) isiD)) neO) (envP 3 [x, x]) = .ok (.bl false) (envP 3 [x, x]) := by
    have t0 : un1 (.s 0) (isiT "tuple" "list") (envP 3 [x, x]) = .ok (.bl true) (envP 3 [x, x]) := us_ok rfl h1
    have l0 : bin2 (.s 0) (.v (cst (.ty "list"))) isiD (envP 3 [x, x]) = .ok (.bl bl) (envP 3 [x, x]) := sv_ok rfl (cst_def _ _) rfl h2
    have l1 : bin2 (.s 1) (.v (cst (.ty "list"))) isiD (envP 3 [x, x]) = .ok (.bl bl) (envP 3 [x, x]) := sv_ok rfl (cst_def _ _) rfl h2
    rw [or_f (not_ok t0)]
    exact vv_ok l0 l1 (by rw [neO_bl]; cases bl <;> rfl)
  refine ws_seq (ws_if1 e1 (fun z => nomatch z) fun _ => ws_skip ?_)
  have e2 : bin2 (.v (un1 (.s 0) lenD)) (.v (un1 (.s 1) lenD)) neO (envP 3 [x, x]) = .ok (.bl false) (envP 3 [x, x]) := by
    exact vv_ok (us_ok rfl hlen) (us_ok rfl hlen) (by rw [neO_int]; simp)
  refine ws_seq (ws_if1 e2 (fun z => nomatch z) fun _ => ws_skip ?_)
  have e3 : itR1 (aCons (un1 (.s 1) lenD) aNil) (envP 3 [x, x]) = .ok (intsR 0 xs.length) [] (envP 3 [x, x]) := itR1_nat (n := xs.length) (aCons_ok (by show ofO (lenD x) _ = _; rw [hlen]; rfl) (aNil_def _)) (Nat.lt_of_le_of_lt hl (by decide))
  have e4 := lcF_pure (own := [2]) (tgt := tgN 2) (ft := some (notF (callP (FA n) (aCons (bin2 (.s 0) (.s 2) idxD) (aCons (bin2 (.s 1) (.s 2) idxD) aNil))))) (fe := var 2) (fun _ => none) e3 (fun d hd => by
    obtain ⟨k, hk⟩ := List.getElem?_of_mem hd
    obtain ⟨hk2, rfl⟩ := intsR0_get hk
    have hg : xs[k]? = some xs[k] := List.getElem?_eq_getElem hk2
    have a1 : ofO (idxD x (.int (k : Int))) ([some x, some x, some (.int (k : Int))] : Pv.Env) = .ok xs[k] [some x, some x, some (.int (k : Int))] := by rw [hix, Pv.atI_nat hg]; rfl
    have a2 : aCons (bin2 (.s 0) (.s 2) idxD) (aCons (bin2 (.s 1) (.s 2) idxD) aNil) [some x, some x, some (.int (k : Int))] = .ok [xs[k], xs[k]] [some x, some x, some (.int (k : Int))] := aCons_ok a1 (aCons_ok a1 (aNil_def _))
    show (match notF (callP (FA n) (aCons (bin2 (.s 0) (.s 2) idxD) (aCons (bin2 (.s 1) (.s 2) idxD) aNil))) [some x, some x, some (.int (k : Int))] with
      | .ok (.bl true) ρ2 => _
      | .ok (.bl false) ρ2 => some (none, fgtE [2] ρ2)
      | _ => none) = _
    rw [notF_def, callP_ok a2 (ih _ (List.getElem_mem hk2))]
    rfl) (by rw [intsR_len]; exact hl)
  have e5 : (intsR 0 xs.length).filterMap (fun _ => (none : Option D)) = [] := by
    apply List.filterMap_eq_nil_iff.mpr
    intro a _; rfl
  rw [e5] at e4
  refine ws_retE rfl (vv_ok (pubF_lst e4) (pubF_lst (lstF_ok (aNil_def _) (Nat.zero_le _))) ?_)
  exact eqO_of rfl rfl rfl
theorem FA_refl : ∀ (n : Nat) (x : D), AOk n x → FA (n + 1) [x, x] = .rt (.bl true)
  | _, _, .non _ => FA_leaf isiT_n ⟨false, isi_ns, .inl ⟨rfl, eqO_non⟩⟩
  | _, _, .bl _ b => FA_leaf (isiT_b b) ⟨false, isi_bs b, .inr ⟨rfl, by rw [eqO_bl]; cases b <;> rfl, isi_bi b, _, isi_bb b⟩⟩
  | _, _, .int _ i => FA_leaf (isiT_i i) ⟨false, isi_is i, .inr ⟨rfl, by rw [eqO_int]; simp, isi_ii i, _, isi_ib i⟩⟩
  | _, _, .str _ h => FA_leaf (isiT_s _) ⟨true, isi_ss _, .inl ⟨rfl, by rw [eqO_str h h]; simp⟩⟩
  | n + 1, .lst xs, .lst hl h => FA_seq (isiT_l xs) (isi_ll xs) rfl (fun _ => rfl) hl fun y hy => FA_refl n y (h y hy)
  | n + 1, .tup xs, .tup hl h => FA_seq (isiT_t xs) (isi_tl xs) rfl (fun _ => rfl) hl fun y hy => FA_refl n y (h y hy)
theorem alike_refl {n : Nat} {x : D} (h : AOk n x) (hn : n ≤ 8) : F_law_alike [x, x] = .rt (.bl true) := by
  have m : ∀ (n k : Nat) (x : D), AOk n x → AOk (n + k) x := fun n k x h => by
    induction h with
    | non n => exact .non _
    | bl n b => exact .bl _ b
    | int n i => exact .int _ i
    | str n h => exact .str _ h
    | lst hl h ih => rw [Nat.add_right_comm]; exact .lst hl ih
    | tup hl h ih => rw [Nat.add_right_comm]; exact .tup hl ih
  have := m n (8 - n) x h
  rw [show n + (8 - n) = 8 by omega] at this
  exact FA_refl 8 x this
end Gn

/-! Rb2: the law k01. -/
namespace Gn
open PySem PySem.Spec L2 Pv
open PyProof.Rows hiding St
variable {K : PySem.W.Frag}
section
variable {mg : Str → Option Value}
theorem rep1 (x : D) : ∀ n, (List.replicate n [x]).flatten = List.replicate n x
  | 0 => rfl
  | n + 1 => by rw [List.replicate_succ, List.flatten_cons, rep1 x n]; rfl
theorem mul_l (x : D) (n : Nat) (h : n ≤ 100) : mulD (.lst [x]) (.int (n : Int)) = some (.lst (List.replicate n x)) := by
  have l0 := lim_val
  have e : repL (.lst [x]) (.int (n : Int)) = some (.lst (List.replicate n x)) := by
    unfold repL
    dsimp only
    rw [if_pos ⟨by omega, by omega, by rw [List.length_singleton, Int.toNat_natCast]; omega⟩, Int.toNat_natCast, rep1]
  unfold mulD alt
  simp only [show mulI (.lst [x]) (.int (n : Int)) = none from rfl, e]
theorem addT_t {p q : List D} (h : p.length + q.length ≤ 1000) : addD (.tup p) (.tup q) = some (.tup (p ++ q)) := by
  have l0 := lim_val
  show (match (none : Option D) with | some z => some z | none => match (none : Option D) with | some z => some z | none => match (none : Option D) with | some z => some z | none => addT (.tup p) (.tup q)) = _
  unfold addT; dsimp only
  rw [if_pos (by omega)]
/-- short tuples of simple values -/
def Tp (k : Nat) (xs : List D) : Prop := xs.length ≤ k ∧ ∀ x ∈ xs, simp1 x = true ∧ okN 5 x = true
theorem Tp.cut {k : Nat} {xs : List D} (h : Tp k xs) (lo hi : Option Int) : Tp k (cutL xs lo hi) := ⟨by
  unfold cutL
  rw [List.length_take, List.length_drop]
  have := h.1
  omega, fun x hx => h.2 x (List.mem_of_mem_drop (List.mem_of_mem_take hx))⟩
theorem Tp.app {k j : Nat} {xs ys : List D} (h : Tp k xs) (h2 : Tp j ys) : Tp (k + j) (xs ++ ys) := ⟨by
  rw [List.length_append]
  have := h.1
  have := h2.1
  omega, fun x hx => (List.mem_append.mp hx).elim (h.2 x) (h2.2 x)⟩
theorem Tp.rev {k : Nat} {xs : List D} (h : Tp k xs) : Tp k xs.reverse := ⟨by rw [List.length_reverse]; exact h.1, fun x hx => h.2 x (List.mem_reverse.mp hx)⟩
theorem Tp.mono {k j : Nat} {xs : List D} (h : Tp k xs) (hk : k ≤ j) : Tp j xs := ⟨Nat.le_trans h.1 hk, h.2⟩
theorem Tp.sim {k : Nat} {xs : List D} (h : Tp k xs) (hk : k ≤ 1000) : SimA (.tup xs) := ⟨rfl, fun ys e => by cases e; exact ⟨Nat.le_trans h.1 hk, h.2⟩⟩
theorem Tp.nL {k : Nat} {ps : List Nat} (h : ps.length ≤ k) : Tp k (nL ps) := ⟨by rw [nL_len]; exact h, fun x hx => by
  unfold Pv.nL at hx
  obtain ⟨y, _, rfl⟩ := List.mem_map.mp hx
  exact ⟨rfl, rfl⟩⟩
theorem Tp.of {xs : List D} (h : (xs.all fun x => simp1 x && okN 5 x) = true) : Tp xs.length xs := ⟨Nat.le_refl _, fun x hx => by
  have := List.all_eq_true.mp h x hx
  rwa [Bool.and_eq_true] at this⟩
theorem simA_of {d : D} (h : simp1 d = true) (ht : isT d = false) : SimA d := ⟨h, fun xs e => by subst e; cases ht⟩
theorem cut_tail (hs : List Nat) : slD (some 1) none (.tup (nL hs)) = some (.tup (nL (hs.drop 1))) := by
  unfold slD
  dsimp only
  congr 2
  unfold cutL
  rw [show HT.sIx (nL hs).length 0 (some 1) = min 1 (nL hs).length from HT.sIx_nat _ _ 1, show HT.sIx (nL hs).length (nL hs).length none = (nL hs).length from rfl]
  rw [List.take_of_length_le (by rw [List.length_drop]; omega)]
  cases hs with
  | nil => rfl
  | cons x hs => rfl
theorem iss_fr {C : Addr} {n : Nat} {hs : List Nat} {b : Bool} : (isiC C (frm C n hs b)).isSome = true := by
  rw [show isiC C (frm C n hs b) = some (.bl true) from if_pos rfl]; rfl
theorem tri {cap : Nat} (h : cap = 3 ∨ cap = 40 ∨ cap = 1000000000000000000000000000000) : 0 < cap ∧ cap < 2 ^ 200 := by
  rcases h with rfl | rfl | rfl <;> exact ⟨Nat.le_of_ble_eq_true rfl, Nat.lt_of_succ_le (Nat.le_of_ble_eq_true rfl)⟩
theorem law_true (Y : FxY K mg Hd.fa Hd.fn Hd.gs Hd.xs) : LawTrue 11 1 ((S_law K)) := by
  have l0 := lim_val
  refine law_go fun la r hr => ?_
  unfold S_law
  generalize hT : F_law_tried K = G0 at *
  generalize hI : F_Frame___init__ K = G1 at *
  generalize hE : F_Frame___eq__ K = G2 at *
  generalize hL : F_Frame___len__ K = G3 at *
  generalize hp1 : F_Frame_length K = G4 at *
  generalize hp2 : F_Frame_holes K = G5 at *
  generalize hp3 : F_Frame_ring K = G6 at *
  walk_at "gf"
  refine sfor (fun _ ρ => ∃ r o2 o3 o4 o5 o6 o7 o8 o9 o10, Src la r ∧ ρ = [none, some r, o2, o3, o4, o5, o6, o7, o8, o9, o10]) ?_
  refine ir1 ?_
  walk_at "gf"
  refine ⟨6, rfl, by decide, ⟨r, none, none, none, none, none, none, none, none, none, hr, rfl⟩, fun k0 dk ρ' hd hI => ?_, fun ρ hI => ?_⟩
  · obtain ⟨r, o2, o3, o4, o5, o6, o7, o8, o9, o10, hr, rfl⟩ := hI
    obtain ⟨hk, rfl⟩ := nL_range_get hd
    walk_at "gf"
    refine vnext (la := la) ?_
    walk_at "gf"
    refine vdraw (la := la) ?_
    walk_at "gf"
    refine ok1 pow30 ?_
    walk_at "gf"
    refine ⟨hr, _, F_law_pick_ok hr (by decide), ?_⟩
    intro d r1 hd hr1
    obtain ⟨cap, hcap, rfl⟩ : ∃ cap : Nat, (cap = 3 ∨ cap = 40 ∨ cap = 1000000000000000000000000000000) ∧ d = .int (cap : Int) := by
      simp only [List.mem_cons, List.not_mem_nil, or_false] at hd
      rcases hd with rfl | rfl | rfl
      · exact ⟨_, .inl rfl, rfl⟩
      · exact ⟨_, .inr (.inl rfl), rfl⟩
      · exact ⟨_, .inr (.inr rfl), rfl⟩
    walk_at "gf"
    refine ⟨cap, rfl, tri hcap, hr1, fun v r2 hv hr2 => ?_⟩
    walk_at "gf"
    refine spar2 ?_
    walk_at "gf"
    refine vdraw (la := la) ?_
    walk_at "gf"
    refine vnext (la := la) ?_
    walk_at "gf"
    refine ⟨9, rfl, by decide, hr2, fun v9 r3 hv9 hr3 => ?_⟩
    walk_at "gf"
    have hv1 : v < 1000000000000000000000000000000 := by
      rcases hcap with rfl | rfl | rfl
      · exact Nat.lt_trans hv (Nat.lt_of_succ_le (Nat.le_of_ble_eq_true rfl))
      · exact Nat.lt_trans hv (Nat.lt_of_succ_le (Nat.le_of_ble_eq_true rfl))
      · exact hv
    refine ⟨hr3, RisOk v9 (v + 1), F_law_rising_ok (many := v9) (cap := v + 1) hr3 (by omega) ⟨by omega, by omega⟩, ?_⟩
    rintro d r4 ⟨hs, rfl, asc, hlt, hlen, _⟩ hr4
    walk_at "gf"
    refine vnext (la := la) ?_
    walk_at "gf"
    refine ⟨2, rfl, by decide, hr4, fun v2 r5 hv2 hr5 => ?_⟩
    walk_at "gf"
    generalize ((v2 : Int) == 0) = b
    refine ⟨_, _, rfl, ?_⟩
    walk_at "gf"
    refine vnext (la := la) ?_
    walk_at "gf"
    refine ⟨hs.length + 1, by rw [nL_len], ⟨by omega, by omega⟩, hr5, fun sp r6 hsp hr6 => ?_⟩
    walk_at "gf"
    have hh0 : hs.length ≤ 8 := by omega
    have T0 : Tp 8 (nL hs) := Tp.nL hh0
    generalize hc1 : cutL (nL hs) (some (sp : Int)) (some ((sp : Int) + 1)) = c1
    have T1 : Tp 8 c1 := hc1 ▸ T0.cut _ _
    refine ok1 (z := .tup c1) (by rw [← hc1]; rfl) ?_
    have m2 : mulT (.tup c1) (.int 2) = some (.tup (c1 ++ c1)) := by
      unfold mulT
      dsimp only
      rw [if_pos ⟨by decide, by decide, by have := T1.1; omega⟩, show (2 : Int).toNat = 2 from rfl]
      simp
    walk_at "gf"
    refine ok1 m2 ?_
    walk_at "gf"
    refine ok1 (z := .tup (cutL (nL hs) none (some (sp : Int)))) rfl ?_
    have T2 := T0.cut none (some (sp : Int))
    walk_at "gf"
    refine vdraw (la := la) ?_
    walk_at "gf"
    refine ⟨hr6, _, F_law_pick_ok hr6 ⟨Nat.le_of_ble_eq_true rfl, Nat.lt_of_succ_le (Nat.le_of_ble_eq_true rfl)⟩, ?_⟩
    intro od r7 hod hr7
    obtain ⟨os, rfl, T3⟩ : ∃ os, od = .tup os ∧ Tp 16 os := by
      simp only [List.mem_cons, List.not_mem_nil, or_false] at hod
      rcases hod with rfl | rfl | rfl | rfl | rfl | rfl | rfl | rfl
      · exact ⟨_, rfl, (Tp.of rfl).mono (Nat.le_of_ble_eq_true rfl)⟩
      · exact ⟨_, rfl, (Tp.of rfl).mono (Nat.le_of_ble_eq_true rfl)⟩
      · exact ⟨_, rfl, (Tp.of rfl).mono (Nat.le_of_ble_eq_true rfl)⟩
      · exact ⟨_, rfl, (Tp.of rfl).mono (Nat.le_of_ble_eq_true rfl)⟩
      · exact ⟨_, rfl, (Tp.of rfl).mono (Nat.le_of_ble_eq_true rfl)⟩
      · exact ⟨_, rfl, T1.app T1⟩
      · exact ⟨_, rfl, (Tp.of rfl).mono (Nat.le_of_ble_eq_true rfl)⟩
      · exact ⟨_, rfl, (Tp.of rfl).mono (Nat.le_of_ble_eq_true rfl)⟩
    walk_at "gf"
    refine ok1 (addT_t (by have := T2.1; have := T3.1; omega)) ?_
    walk_at "gf"
    refine ok1 (z := .tup (cutL (nL hs) (some (sp : Int)) none)) rfl ?_
    have T4 := T0.cut (some (sp : Int)) none
    refine ok1 (addT_t (by rw [List.length_append]; have := T2.1; have := T3.1; have := T4.1; omega)) ?_
    have T5 := (T2.app T3).app T4
    generalize (cutL (nL hs) none (some (sp : Int)) ++ os) ++ cutL (nL hs) (some (sp : Int)) none = mo at *
    walk_at "gf"
    refine vdraw (la := la) ?_
    walk_at "gf"
    refine ok1 (mul_l _ 5 (by decide)) ?_
    walk_at "gf"
    refine ok1 (z := .lst (nL hs)) rfl ?_
    walk_at "gf"
    refine ok1 (z := .tup (nL hs).reverse) rfl ?_
    walk_at "gf"
    refine ok1 (addL_lst (by show 9 ≤ lim; omega)) ?_
    walk_at "gf"
    refine ⟨hr7, _, F_law_pick_ok hr7 ⟨Nat.le_of_ble_eq_true rfl, Nat.lt_of_succ_le (Nat.le_of_ble_eq_true rfl)⟩, ?_⟩
    intro h r8 hh hr8
    have Sh : SimA h := by
      simp only [List.replicate, List.cons_append, List.nil_append, List.mem_cons, List.not_mem_nil, or_false] at hh
      rcases hh with rfl | rfl | rfl | rfl | rfl | rfl | rfl | rfl | rfl
      · exact T0.sim (by decide)
      · exact T0.sim (by decide)
      · exact T0.sim (by decide)
      · exact T0.sim (by decide)
      · exact T0.sim (by decide)
      · exact T5.sim (by decide)
      · exact simA_of rfl rfl
      · exact simA_of rfl rfl
      · exact T0.rev.sim (by decide)
    clear hh
    walk_at "gf"
    refine vdraw (la := la) ?_
    walk_at "gf"
    refine ok1 (mul_l _ 8 (by decide)) ?_
    walk_at "gf"
    refine ok1 pow30 ?_
    walk_at "gf"
    refine ok1 pow30 ?_
    walk_at "gf"
    refine ok1 (addL_lst (by show 15 ≤ lim; omega)) ?_
    walk_at "gf"
    refine ⟨hr8, _, F_law_pick_ok hr8 ⟨Nat.le_of_ble_eq_true rfl, Nat.lt_of_succ_le (Nat.le_of_ble_eq_true rfl)⟩, ?_⟩
    intro l r9 hl hr9
    have Sl' : SimA l := by
      simp only [List.replicate, List.cons_append, List.nil_append, List.mem_cons, List.not_mem_nil, or_false] at hl
      rcases hl with rfl | rfl | rfl | rfl | rfl | rfl | rfl | rfl | rfl | rfl | rfl | rfl | rfl | rfl | rfl <;> exact simA_of rfl rfl
    clear hl
    walk_at "gf"
    refine vdraw (la := la) ?_
    walk_at "gf"
    refine ok1 (mul_l _ 8 (by decide)) ?_
    walk_at "gf"
    refine ok1 (addL_lst (by show 13 ≤ lim; omega)) ?_
    walk_at "gf"
    refine ⟨hr9, _, F_law_pick_ok hr9 ⟨Nat.le_of_ble_eq_true rfl, Nat.lt_of_succ_le (Nat.le_of_ble_eq_true rfl)⟩, ?_⟩
    intro g r10 hg hr10
    have Sg : SimA g := by
      simp only [List.replicate, List.cons_append, List.nil_append, List.mem_cons, List.not_mem_nil, or_false] at hg
      rcases hg with rfl | rfl | rfl | rfl | rfl | rfl | rfl | rfl | rfl | rfl | rfl | rfl | rfl <;> first | exact simA_of rfl rfl | exact (Tp.of (xs := []) rfl).sim (by decide)
    clear hg
    walk_at "gf"
    refine spar2 ?_
    walk_at "gf"
    refine callo (by rw [← hT]; exact F_tried Y Sl' Sh Sg) ?_
    walk_at "gf"
    refine callo (F_fault Sl' Sh Sg) ?_
    walk_at "gf"
    refine ⟨_, _, rfl, ?_⟩
    walk_at "gf"
    rcases flt_cases l h g with e | e | e | e
    · rw [e, if_pos rfl]
      obtain ⟨n, gs, c, rfl, rfl, rfl, n1, n2, gl, ga, gt⟩ := good_of e
      have mk : ∀ {m : Nat} {fs : List Nat} {a : Bool}, (1 ≤ m ∧ m ≤ 1000000000000000000000000000000) → fs.length ≤ 6 → fs.Pairwise (· < ·) → (∀ x ∈ fs, x < m) → G1 (.ins (He.ga K "Frame") []) [.int (m : Int), .tup (nL fs), .bl a] = .rt (frm (He.ga K "Frame") m fs a) := fun {m fs a} h1 h2 h3 h4 => by
        rw [← hI]
        have := init_flt (C := He.ga K "Frame") (l := .int (m : Int)) (h := .tup (nL fs)) (r := .bl a) rfl (simA_of rfl rfl) ((Tp.nL (k := 8) (by omega)).sim (by decide)) (simA_of rfl rfl)
        rw [flt_good h1 h2 h3 h4, if_pos rfl] at this
        exact this
      have qe : ∀ {m : Nat} {fs : List Nat} {a : Bool}, G2 [frm (He.ga K "Frame") n gs c, frm (He.ga K "Frame") m fs a] = .rt (.bl (((n : Int) == (m : Int)) && ((gs == fs) && (c == a)))) := by
        rw [← hE]; exact F_eq_fr rfl
      rw [show fr3 (He.ga K "Frame") (.int (n : Int)) (.tup (nL gs)) (.bl c) = frm (He.ga K "Frame") n gs c from rfl, show Pv.isNon (fltD 0) = true from rfl]
      walk_at "gf"
      refine ok1 isiC_self ?_
      walk_at "gf"
      refine veqW ?_
      walk_at "gf"
      refine calli (mk ⟨n1, n2⟩ gl ga gt) ?_
      refine ⟨_, _, rfl, iss_fr, qe, ?_⟩
      rw [beq_self_eq_true, beq_self_eq_true, beq_self_eq_true, Bool.and_self, Bool.and_self]
      walk_at "gf"
      refine veqW ?_
      walk_at "gf"
      refine ⟨_, _, rfl, rfl, by rw [← hE]; exact F_eq_tup, ?_⟩
      walk_at "gf"
      refine vprp ?_
      walk_at "gf"
      refine ⟨_, _, rfl, by rw [← hp1]; exact F_p_length rfl, ?_⟩
      walk_at "gf"
      refine vprp ?_
      walk_at "gf"
      refine ⟨_, _, rfl, by rw [← hp2]; exact F_p_holes rfl, ?_⟩
      walk_at "gf"
      refine vprp ?_
      walk_at "gf"
      refine ⟨_, _, rfl, by rw [← hp3]; exact F_p_ring rfl, ?_⟩
      walk_at "gf"
      refine vlenW ?_
      walk_at "gf"
      refine ⟨_, _, rfl, by rw [← hL]; exact F_len_fr rfl, ⟨by omega, by omega⟩, ?_⟩
      walk_at "gf"
      have ak : AOk 3 (.lst [.int (n : Int), .tup (nL gs), .bl c, .int (gs.length : Int)]) := by
        refine .lst (by show 4 ≤ lim; omega) fun x hx => ?_
        simp only [List.mem_cons, List.not_mem_nil, or_false] at hx
        rcases hx with rfl | rfl | rfl | rfl
        · exact .int _ _
        · refine .tup (by rw [nL_len]; omega) fun x hx => ?_
          unfold Pv.nL at hx
          obtain ⟨y, _, rfl⟩ := List.mem_map.mp hx
          exact .int _ _
        · exact .bl _ _
        · exact .int _ _
      rw [nL_len]
      refine callo (alike_refl ak (by decide)) ?_
      walk_at "gf"
      refine veqW ?_
      walk_at "gf"
      refine calli (mk ⟨n1, n2⟩ gl ga gt) ?_
      refine ⟨_, _, rfl, iss_fr, qe, ?_⟩
      rw [show (c == !c) = false by cases c <;> rfl, Bool.and_false, Bool.and_false]
      walk_at "gf"
      refine ok1 pow30 ?_
      walk_at "gf"
      cases hlt : decide ((n : Int) < 1000000000000000000000000000000) with
      | false =>
        walk_at "gf"
        refine ok1 (neO_of (x := .tup (nL gs)) (y := .tup []) (b := gs.isEmpty) (okN_nT _ gs) rfl (by cases gs <;> rfl)) ?_
        cases hg : gs.isEmpty with
        | true =>
          walk_at "gf"
          exact ⟨r10, _, _, _, _, _, _, _, _, _, hr10, rfl⟩
        | false =>
          have hne : (gs == gs.drop 1) = false := by
            cases gs with
            | nil => cases hg
            | cons x gs =>
              rw [beq_eq_false_iff_ne]
              intro z
              have := congrArg List.length z
              simp at this
          walk_at "gf"
          refine veqW ?_
          walk_at "gf"
          refine ok1 (cut_tail gs) ?_
          walk_at "gf"
          refine calli (mk ⟨n1, n2⟩ (by rw [List.length_drop]; omega) (ga.sublist (List.drop_sublist 1 gs)) fun x hx => gt x (List.mem_of_mem_drop hx)) ?_
          refine ⟨_, _, rfl, iss_fr, qe, ?_⟩
          rw [hne, Bool.false_and, Bool.and_false]
          walk_at "gf"
          exact ⟨r10, _, _, _, _, _, _, _, _, _, hr10, rfl⟩
      | true =>
        rw [decide_eq_true_eq] at hlt
        walk_at "gf"
        refine veqW ?_
        walk_at "gf"
        refine calli (mk (m := n + 1) ⟨by omega, by omega⟩ gl ga fun x hx => Nat.lt_succ_of_lt (gt x hx)) ?_
        refine ⟨_, _, rfl, iss_fr, qe, ?_⟩
        rw [show ((n : Int) == ((n + 1 : Nat) : Int)) = false by rw [beq_eq_false_iff_ne]; omega, Bool.false_and]
        walk_at "gf"
        refine ok1 (neO_of (x := .tup (nL gs)) (y := .tup []) (b := gs.isEmpty) (okN_nT _ gs) rfl (by cases gs <;> rfl)) ?_
        cases hg : gs.isEmpty with
        | true =>
          walk_at "gf"
          exact ⟨r10, _, _, _, _, _, _, _, _, _, hr10, rfl⟩
        | false =>
          have hne : (gs == gs.drop 1) = false := by
            cases gs with
            | nil => cases hg
            | cons x gs =>
              rw [beq_eq_false_iff_ne]
              intro z
              have := congrArg List.length z
              simp at this
          walk_at "gf"
          refine veqW ?_
          walk_at "gf"
          refine ok1 (cut_tail gs) ?_
          walk_at "gf"
          refine calli (mk ⟨n1, n2⟩ (by rw [List.length_drop]; omega) (ga.sublist (List.drop_sublist 1 gs)) fun x hx => gt x (List.mem_of_mem_drop hx)) ?_
          refine ⟨_, _, rfl, iss_fr, qe, ?_⟩
          rw [hne, Bool.false_and, Bool.and_false]
          walk_at "gf"
          exact ⟨r10, _, _, _, _, _, _, _, _, _, hr10, rfl⟩
    · rw [e, if_neg (by decide), show Pv.isNon (fltD 1) = false from rfl]
      walk_at "gf"
      refine callo (alike_refl (n := 0) (x := fltD 1) (.str _ rfl) (by decide)) ?_
      walk_at "gf"
      exact ⟨r10, _, _, _, _, _, _, _, _, _, hr10, rfl⟩
    · rw [e, if_neg (by decide), show Pv.isNon (fltD 2) = false from rfl]
      walk_at "gf"
      refine callo (alike_refl (n := 0) (x := fltD 2) (.str _ rfl) (by decide)) ?_
      walk_at "gf"
      exact ⟨r10, _, _, _, _, _, _, _, _, _, hr10, rfl⟩
    · rw [e, if_neg (by decide), show Pv.isNon (fltD 3) = false from rfl]
      walk_at "gf"
      refine callo (alike_refl (n := 0) (x := fltD 3) (.str _ rfl) (by decide)) ?_
      walk_at "gf"
      exact ⟨r10, _, _, _, _, _, _, _, _, _, hr10, rfl⟩
  · obtain ⟨r, o2, o3, o4, o5, o6, o7, o8, o9, o10, hr, rfl⟩ := hI
    walk_at "gf"
    rfl
end
end Gn

namespace Hd
open PySem PySem.Spec PyProof.Rows L2
theorem facts {P : Program} {w : World} {K : PySem.W.Frag} {h : Heap} {mg : Str → Option Value} {f : Addr} (X : K.In h) (G : h.Ns mainGlobals mg) (hfa : mg ("law" : Str) = some (.ref f)) (c : Pv.SaysY fa fn gs xs K) :
    ∃ fd : FuncData, (∀ (s : Shared) (v : Value), BindsTo s fd ⟨[v], []⟩ [("_law_script", v)]) ∧ ∀ base : Heap, K.In base → base.Ns mainGlobals mg → FnOk P w K mg base L2.CX0 11 f fd ["_law_script"] (Pv.spLaw K) := by
  obtain ⟨fd, F⟩ := c.x.d.def_ 13 (d := d_13) rfl
  have e := hfa.symm.trans (He.glo_ok X G (c.x.d.fact 10 (f := .glo "law") rfl))
  cases e
  have b := FunD.bindsA (ps := ["_law_script"]) F fun _ _ _ _ _ _ us hl => match us, hl with | [_], _ => rfl
  refine ⟨fd, fun s v => b s [v] rfl, fun base hb gb => ?_⟩
  exact Gn.ok_law F ⟨⟨⟨c.x.d, h, X, G⟩, c.x.x⟩, c.g⟩ (Gn.law_true ⟨⟨⟨c.x.d, h, X, G⟩, c.x.x⟩, c.g⟩)
end Hd
open PySem PySem.W PySem.Calls PyProof.Rows
set_option maxHeartbeats 0 in
theorem PySem.Challenge.cw_gapperiods_k01_frames_refused_holds : PySem.Challenge.rw_gapperiods_k01_frames_refused.Holds := by
  w_on; o_law
  refine HandSHeadRun.head_any (r := OpenLaw.row PySem.Challenge.rw_gapperiods_k01_frames_refused) (q := view (OpenLaw.row PySem.Challenge.rw_gapperiods_k01_frames_refused).prog [20]) (H := Hd.hk) (ob := Hd.ob) (M := 20000) (loose := Hd.names) (d := HandSHeadRun.topDef (OpenLaw.row PySem.Challenge.rw_gapperiods_k01_frames_refused).prog 20) (kwd := []) (fun s => Hd.ob_eq s)
    (by kernel_rfl) (fun s => by kernel_rfl) Hd.run (by kernel_rfl) (by kernel_rfl) (by kernel_rfl) (by rfl) (by first | assumption | decide +kernel) (by decide +kernel) ⟨rfl, rfl, rfl, rfl, rfl, by decide +kernel⟩ ?hw ?hc
  case hw => w_witness2
  case hc =>
    refine L2.walk_ofE (l := PySem.Challenge.rw_gapperiods_k01_frames_refused) (n := 63) (k := 11) (x := "_law_script") (CX := L2.CX0) rfl (by decide) (by kernel_rfl) ⟨rfl, by decide, by decide⟩ ?F (fun _ _ _ _ z => z)
    intro w mg fa h Y G hmg0
    obtain ⟨K, KX, c⟩ := Y
    have hmg : mg ("law" : PySem.Str) = some (.ref fa) := by
      have e : (HandSHeadRun.topDef (OpenLaw.row PySem.Challenge.rw_gapperiods_k01_frames_refused).prog 20).name = ("law" : PySem.Str) := by kernel_rfl
      rw [← e]
      exact hmg0
    obtain ⟨fd, hb, hF⟩ := Hd.facts (P := (PySem.Challenge.rw_gapperiods_k01_frames_refused).prog) (w := w) KX G hmg c
    exact ⟨K, fd, Pv.spLaw K, KX, hb, fun H a ns hl _ hS => ⟨a, ns, rfl, hS, hl, fun _ => rfl⟩, hF⟩
